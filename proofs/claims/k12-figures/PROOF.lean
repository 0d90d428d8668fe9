import PyProof.Rows.All
import Wide.All
import OpenK.AllK
import Wide.FinOn
import KE.DatumIndex
import HandS.ForMost
import HandS.IsInst
import HandS.Deep
import HandS.Wide
import HandS.Style
import HandS.More
import HandS.TupLe
import HandS.TupAny
import HandS.Gcd
import HandS.RaiseMore
import HandS.Walk
import HandS.Zip
import KE.KRevSl
import KE.GoesEnum
import PyProof.ReprLen
import KE.SortData
import KE.GoesZip
import KE.GoesMore
import KE.KItemsList
import HandS.Conv
import HandS.Small
import HandS.Star
import PyProof.TupleOfGen
import PyProof.CollectWalk
import PySem.Challenge.RW_bentalike_k12_figures_of_anything
set_option Elab.async false
set_option linter.all false
set_option maxRecDepth 100000
set_option maxHeartbeats 4000000
/-! A layer of data over the hand layer: values as trees of data, slots as data, expressions and statements as
predicate transformers over data. -/
namespace DL
open PySem L2 PyProof.Rows
abbrev Fr_ := PySem.W.Frag
abbrev AS := Addr → Prop
/-- what may change in place -/
def Mu : HO → Prop
  | .lst _ => True
  | .dK _ => True
  | .dT _ => True
  | _ => False
def keyD : Key → PyData
  | .inl i => .int i
  | .inr x => .str x
/-- a list of the module's own, at a heap that tracks nothing -/
def Wr (K : Fr_) (a : Addr) (vs : List V) : Prop := SqL K (fun _ => none) a vs
def QL (K : Fr_) (O : AS) (H : Hp) (a : Addr) (vs : List V) : Prop := (Rd H a (.lst vs) ∧ ¬ O a) ∨ Wr K a vs
theorem QL.sq {K : Fr_} {O : AS} {H : Hp} {a : Addr} {vs : List V} (h : QL K O H a vs) : SqL K H a vs := by
  rcases h with h | (h | ⟨o, h⟩) | h
  · exact .inl h.1
  · cases h
  · cases h
  · exact .inr h
mutual
/-- the value v shows the data d -/
def Rep (K : Fr_) (O : AS) (H : Hp) : PyData → V → Prop
  | .none, v => v = .non
  | .bool b, v => v = .bl b
  | .int i, v => v = .int i
  | .str x, v => v = .str x
  | .list ds, v => ∃ a vs, v = .ref a ∧ QL K O H a vs ∧ Reps K O H ds vs
  | .tuple ds, v => ∃ a vs, v = .ref a ∧ SqT K H a vs ∧ Reps K O H ds vs
  | .dict kvs, v => ∃ a ps, v = .ref a ∧ (Rd H a (.dK ps) ∧ ¬ O a) ∧ Repd K O H kvs ps
def Reps (K : Fr_) (O : AS) (H : Hp) : List PyData → List V → Prop
  | [], vs => vs = []
  | d :: ds, vs => ∃ v r, vs = v :: r ∧ Rep K O H d v ∧ Reps K O H ds r
def Repd (K : Fr_) (O : AS) (H : Hp) : List (PyData × PyData) → List (Key × V) → Prop
  | [], vs => vs = []
  | p :: ds, vs => ∃ k v r, vs = (k, v) :: r ∧ p.1 = keyD k ∧ Rep K O H p.2 v ∧ Repd K O H ds r
end
/-- all but what may be written stays -/
def Step (O : AS) (H H' : Hp) : Prop := ∀ a u, ¬ O a → H a = some u → H' a = some u
def OL (O : AS) (H : Hp) : Prop := ∀ a, O a → ∃ u, H a = some u ∧ Mu u
section
variable {K : Fr_} {O O' : AS} {H H' : Hp}
theorem Rd.step {a : Addr} {u : HO} (s : Step O H H') (n : ¬ O a) (h : Rd H a u) : Rd H' a u := by
  rcases h with h | ⟨o, h⟩
  · exact .inl (s _ _ n h)
  · exact .inr ⟨o, s _ _ n h⟩
theorem QL.step {a : Addr} {vs : List V} (s : Step O H H') (h : QL K O H a vs) : QL K O H' a vs := h.elim (fun h => .inl ⟨Rd.step s h.2 h.1, h.2⟩) .inr
theorem QL.less {a : Addr} {vs : List V} (s : ∀ a, O' a → O a) (h : QL K O H a vs) : QL K O' H a vs := h.elim (fun h => .inl ⟨h.1, fun z => h.2 (s a z)⟩) .inr
theorem SqT.step {a : Addr} {vs : List V} (s : Step O H H') (ol : OL O H) (h : SqT K H a vs) : SqT K H' a vs := by
  rcases h with h | h
  · refine .inl (Rd.step s (fun z => ?_) h)
    obtain ⟨u, hu, mu⟩ := ol a z
    rcases h with h | ⟨o, h⟩ <;> (rw [h] at hu; cases hu; exact mu)
  · exact .inr h
mutual
theorem Rep.step (s : Step O H H') (ol : OL O H) : ∀ (d : PyData) (v : V), Rep K O H d v → Rep K O H' d v
  | .none, v, h => by simp only [Rep] at *; exact h
  | .bool b, v, h => by simp only [Rep] at *; exact h
  | .int i, v, h => by simp only [Rep] at *; exact h
  | .str x, v, h => by simp only [Rep] at *; exact h
  | .list ds, v, h => by
    simp only [Rep] at *
    obtain ⟨a, vs, e, q, r⟩ := h
    exact ⟨a, vs, e, QL.step s q, Reps.step s ol ds vs r⟩
  | .tuple ds, v, h => by
    simp only [Rep] at *
    obtain ⟨a, vs, e, q, r⟩ := h
    exact ⟨a, vs, e, SqT.step s ol q, Reps.step s ol ds vs r⟩
  | .dict kvs, v, h => by
    simp only [Rep] at *
    obtain ⟨a, ps, e, ⟨q, n⟩, r⟩ := h
    exact ⟨a, ps, e, ⟨Rd.step s n q, n⟩, Repd.step s ol kvs ps r⟩
theorem Reps.step (s : Step O H H') (ol : OL O H) : ∀ (ds : List PyData) (vs : List V), Reps K O H ds vs → Reps K O H' ds vs
  | [], vs, h => by simp only [Reps] at *; exact h
  | d :: ds, vs, h => by
    simp only [Reps] at *
    obtain ⟨v, r, e, h1, h2⟩ := h
    exact ⟨v, r, e, Rep.step s ol d v h1, Reps.step s ol ds r h2⟩
theorem Repd.step (s : Step O H H') (ol : OL O H) : ∀ (ds : List (PyData × PyData)) (vs : List (Key × V)), Repd K O H ds vs → Repd K O H' ds vs
  | [], vs, h => by simp only [Repd] at *; exact h
  | p :: ds, vs, h => by
    simp only [Repd] at *
    obtain ⟨k, v, r, e, e2, h1, h2⟩ := h
    exact ⟨k, v, r, e, e2, Rep.step s ol p.2 v h1, Repd.step s ol ds r h2⟩
end
mutual
theorem Rep.less (s : ∀ a, O' a → O a) : ∀ (d : PyData) (v : V), Rep K O H d v → Rep K O' H d v
  | .none, v, h => by simp only [Rep] at *; exact h
  | .bool b, v, h => by simp only [Rep] at *; exact h
  | .int i, v, h => by simp only [Rep] at *; exact h
  | .str x, v, h => by simp only [Rep] at *; exact h
  | .list ds, v, h => by
    simp only [Rep] at *
    obtain ⟨a, vs, e, q, r⟩ := h
    exact ⟨a, vs, e, QL.less s q, Reps.less s ds vs r⟩
  | .tuple ds, v, h => by
    simp only [Rep] at *
    obtain ⟨a, vs, e, q, r⟩ := h
    exact ⟨a, vs, e, q, Reps.less s ds vs r⟩
  | .dict kvs, v, h => by
    simp only [Rep] at *
    obtain ⟨a, ps, e, ⟨q, n⟩, r⟩ := h
    exact ⟨a, ps, e, ⟨q, fun z => n (s a z)⟩, Repd.less s kvs ps r⟩
theorem Reps.less (s : ∀ a, O' a → O a) : ∀ (ds : List PyData) (vs : List V), Reps K O H ds vs → Reps K O' H ds vs
  | [], vs, h => by simp only [Reps] at *; exact h
  | d :: ds, vs, h => by
    simp only [Reps] at *
    obtain ⟨v, r, e, h1, h2⟩ := h
    exact ⟨v, r, e, Rep.less s d v h1, Reps.less s ds r h2⟩
theorem Repd.less (s : ∀ a, O' a → O a) : ∀ (ds : List (PyData × PyData)) (vs : List (Key × V)), Repd K O H ds vs → Repd K O' H ds vs
  | [], vs, h => by simp only [Repd] at *; exact h
  | p :: ds, vs, h => by
    simp only [Repd] at *
    obtain ⟨k, v, r, e, e2, h1, h2⟩ := h
    exact ⟨k, v, r, e, e2, Rep.less s p.2 v h1, Repd.less s ds r h2⟩
end

/-- a new address is in no data that stood before -/
def With (O : AS) (p : Addr) : AS := fun a => O a ∨ a = p
theorem Rd.there {a : Addr} {u : HO} (h : Rd H a u) {p : Addr} (n : H p = none) : a ≠ p := by
  rintro rfl
  rcases h with h | ⟨o, h⟩ <;> (rw [h] at n; cases n)
theorem QL.fw {a : Addr} {vs : List V} (hn : ∀ a, O' a → O a ∨ H a = none) (s : Step O H H') (h : QL K O H a vs) : QL K O' H' a vs := h.elim (fun h => .inl ⟨Rd.step s h.2 h.1, fun z => (hn a z).elim h.2 fun n => Rd.there h.1 n rfl⟩) .inr
mutual
theorem Rep.fw (hn : ∀ a, O' a → O a ∨ H a = none) (s : Step O H H') (ol : OL O H) : ∀ (d : PyData) (v : V), Rep K O H d v → Rep K O' H' d v
  | .none, v, h => by simp only [Rep] at *; exact h
  | .bool b, v, h => by simp only [Rep] at *; exact h
  | .int i, v, h => by simp only [Rep] at *; exact h
  | .str x, v, h => by simp only [Rep] at *; exact h
  | .list ds, v, h => by
    simp only [Rep] at *
    obtain ⟨a, vs, e, q, r⟩ := h
    exact ⟨a, vs, e, QL.fw hn s q, Reps.fw hn s ol ds vs r⟩
  | .tuple ds, v, h => by
    simp only [Rep] at *
    obtain ⟨a, vs, e, q, r⟩ := h
    exact ⟨a, vs, e, SqT.step s ol q, Reps.fw hn s ol ds vs r⟩
  | .dict kvs, v, h => by
    simp only [Rep] at *
    obtain ⟨a, ps, e, ⟨q, m⟩, r⟩ := h
    exact ⟨a, ps, e, ⟨Rd.step s m q, fun z => (hn a z).elim m fun n => Rd.there q n rfl⟩, Repd.fw hn s ol kvs ps r⟩
theorem Reps.fw (hn : ∀ a, O' a → O a ∨ H a = none) (s : Step O H H') (ol : OL O H) : ∀ (ds : List PyData) (vs : List V), Reps K O H ds vs → Reps K O' H' ds vs
  | [], vs, h => by simp only [Reps] at *; exact h
  | d :: ds, vs, h => by
    simp only [Reps] at *
    obtain ⟨v, r, e, h1, h2⟩ := h
    exact ⟨v, r, e, Rep.fw hn s ol d v h1, Reps.fw hn s ol ds r h2⟩
theorem Repd.fw (hn : ∀ a, O' a → O a ∨ H a = none) (s : Step O H H') (ol : OL O H) : ∀ (ds : List (PyData × PyData)) (vs : List (Key × V)), Repd K O H ds vs → Repd K O' H' ds vs
  | [], vs, h => by simp only [Repd] at *; exact h
  | q :: ds, vs, h => by
    simp only [Repd] at *
    obtain ⟨k, v, r, e, e2, h1, h2⟩ := h
    exact ⟨k, v, r, e, e2, Rep.fw hn s ol q.2 v h1, Repd.fw hn s ol ds r h2⟩
end
/-! ### rows of values -/
theorem Reps.len : ∀ {ds : List PyData} {vs : List V}, Reps K O H ds vs → vs.length = ds.length
  | [], _, h => by simp only [Reps] at h; subst h; rfl
  | d :: ds, _, h => by
    simp only [Reps] at h
    obtain ⟨v, r, rfl, _, h2⟩ := h
    simp [Reps.len h2]
theorem Reps.at : ∀ {ds : List PyData} {vs : List V} {i : Nat} {d : PyData}, Reps K O H ds vs → ds[i]? = some d → ∃ v, vs[i]? = some v ∧ Rep K O H d v
  | [], _, i, d, h, e => by simp at e
  | d' :: ds, _, 0, d, h, e => by
    simp only [Reps] at h
    obtain ⟨v, r, rfl, h1, h2⟩ := h
    simp at e; subst e
    exact ⟨v, rfl, h1⟩
  | d' :: ds, _, i + 1, d, h, e => by
    simp only [Reps] at h
    obtain ⟨v, r, rfl, h1, h2⟩ := h
    simp at e
    obtain ⟨v', e', h'⟩ := Reps.at h2 e
    exact ⟨v', by simpa using e', h'⟩
theorem Reps.app : ∀ {ds es : List PyData} {vs ws : List V}, Reps K O H ds vs → Reps K O H es ws → Reps K O H (ds ++ es) (vs ++ ws)
  | [], es, vs, ws, h, g => by simp only [Reps] at h; subst h; exact g
  | d :: ds, es, vs, ws, h, g => by
    simp only [Reps] at h
    obtain ⟨v, r, rfl, h1, h2⟩ := h
    simp only [List.cons_append, Reps]
    exact ⟨v, r ++ ws, rfl, h1, Reps.app h2 g⟩
theorem Reps.drop : ∀ {ds : List PyData} {vs : List V} (n : Nat), Reps K O H ds vs → Reps K O H (ds.drop n) (vs.drop n)
  | ds, vs, 0, h => by simpa using h
  | [], vs, n + 1, h => by simp only [Reps] at h; subst h; simp [Reps]
  | d :: ds, vs, n + 1, h => by
    simp only [Reps] at h
    obtain ⟨v, r, rfl, h1, h2⟩ := h
    simpa using Reps.drop n h2
theorem Reps.take : ∀ {ds : List PyData} {vs : List V} (n : Nat), Reps K O H ds vs → Reps K O H (ds.take n) (vs.take n)
  | ds, vs, 0, h => by simp [Reps]
  | [], vs, n + 1, h => by simp only [Reps] at h; subst h; simp [Reps]
  | d :: ds, vs, n + 1, h => by
    simp only [Reps] at h
    obtain ⟨v, r, rfl, h1, h2⟩ := h
    simp only [List.take_succ_cons, Reps]
    exact ⟨v, r.take n, rfl, h1, Reps.take n h2⟩
theorem Reps.set : ∀ {ds : List PyData} {vs : List V} (n : Nat) {d : PyData} {v : V}, Reps K O H ds vs → Rep K O H d v → Reps K O H (ds.set n d) (vs.set n v)
  | [], vs, n, d, v, h, g => by simp only [Reps] at h; subst h; simp [Reps]
  | d' :: ds, vs, 0, d, v, h, g => by
    simp only [Reps] at h
    obtain ⟨v', r, rfl, h1, h2⟩ := h
    simp only [List.set_cons_zero, Reps]
    exact ⟨v, r, rfl, g, h2⟩
  | d' :: ds, vs, n + 1, d, v, h, g => by
    simp only [Reps] at h
    obtain ⟨v', r, rfl, h1, h2⟩ := h
    simp only [List.set_cons_succ, Reps]
    exact ⟨v', r.set n v, rfl, h1, Reps.set n h2 g⟩
theorem Reps.ints : ∀ {ns : List Int} {vs : List V}, Reps K O H (ns.map PyData.int) vs → vs = ns.map V.int
  | [], vs, h => by simpa [Reps] using h
  | n :: ns, vs, h => by
    simp only [List.map_cons, Reps, Rep] at h
    obtain ⟨v, r, rfl, rfl, h2⟩ := h
    rw [Reps.ints h2]; rfl
theorem Reps.bools : ∀ {ns : List Bool} {vs : List V}, Reps K O H (ns.map PyData.bool) vs → vs = ns.map V.bl
  | [], vs, h => by simpa [Reps] using h
  | n :: ns, vs, h => by
    simp only [List.map_cons, Reps, Rep] at h
    obtain ⟨v, r, rfl, rfl, h2⟩ := h
    rw [Reps.bools h2]; rfl
theorem Reps.of_ints : ∀ (ns : List Int), Reps K O H (ns.map PyData.int) (ns.map V.int)
  | [] => by simp [Reps]
  | n :: ns => by simp only [List.map_cons, Reps, Rep]; exact ⟨_, _, rfl, rfl, Reps.of_ints ns⟩
end
end DL

namespace DL
open PySem L2 PyProof.Rows
/-- what a slot holds: nothing that is known, data, a list of this def's own that may be changed, the well -/
inductive Sl where
  | un | dat (d : PyData) | own (xs : List PyData) | cel (n : Nat) | dct (kvs : List (List Key × PyData))
abbrev Rho := List Sl
/-- an object that the callers hold, too -/
inductive Cell where
  | lst (xs : List PyData)
abbrev SW := List Cell
/-- an expression's transformer -/
abbrev FE := Rho → SW → (PyData → SW → Prop) → Prop
/-- rows of arguments -/
abbrev FA := Rho → SW → (List Sl → SW → Prop) → Prop
/-- the addresses that may still be written: the callers', this def's own -/
def OO (Oc : AS) (σ : L2.St) (ρ : Rho) : AS := fun a => Oc a ∨ ∃ (i : Nat) (xs : List PyData), ρ[i]? = some (Sl.own xs) ∧ σ[i]? = some (some (.ref a))
/-- all stands but the well -/
def Gr (w : List Addr) (H H' : Hp) : Prop := ∀ a u, a ∉ w → H a = some u → H' a = some u
mutual
/-- no list, no dict in it -/
def noLst : PyData → Bool
  | .list _ => false
  | .dict _ => false
  | .tuple ds => noLsts ds
  | _ => true
def noLsts : List PyData → Bool
  | [] => true
  | d :: ds => noLst d && noLsts ds
end
mutual
theorem Rep.free {K : Fr_} {O O' : AS} {H : Hp} : ∀ (d : PyData) (v : V), noLst d = true → Rep K O H d v → Rep K O' H d v
  | .none, v, _, h => by simp only [Rep] at *; exact h
  | .bool b, v, _, h => by simp only [Rep] at *; exact h
  | .int i, v, _, h => by simp only [Rep] at *; exact h
  | .str x, v, _, h => by simp only [Rep] at *; exact h
  | .list ds, v, c, h => by simp [noLst] at c
  | .dict ds, v, c, h => by simp [noLst] at c
  | .tuple ds, v, c, h => by
    simp only [Rep] at *
    obtain ⟨a, vs, e, q, r⟩ := h
    exact ⟨a, vs, e, q, Reps.free ds vs (by simpa only [noLst] using c) r⟩
theorem Reps.free {K : Fr_} {O O' : AS} {H : Hp} : ∀ (ds : List PyData) (vs : List V), noLsts ds = true → Reps K O H ds vs → Reps K O' H ds vs
  | [], vs, _, h => by simp only [Reps] at *; exact h
  | d :: ds, vs, c, h => by
    simp only [noLsts, Bool.and_eq_true] at c
    simp only [Reps] at *
    obtain ⟨v, r, e, h1, h2⟩ := h
    exact ⟨v, r, e, Rep.free d v c.1 h1, Reps.free ds r c.2 h2⟩
end
def O0 : AS := fun _ => False
def CRep (K : Fr_) (H : Hp) : Cell → Addr → Prop
  | .lst xs, a => noLsts xs = true ∧ ∃ vs, H a = some (.lst vs) ∧ Reps K O0 H xs vs
/-- the callers' objects -/
structure Wel (K : Fr_) (w : List Addr) (H : Hp) (S : SW) : Prop where
  len : w.length = S.length
  at' : ∀ (n : Nat) (a : Addr) (c : Cell), w[n]? = some a → S[n]? = some c → CRep K H c a
theorem Reps.go0 {K : Fr_} {O : AS} {H H' : Hp} (st : Step O H H') (ol : OL O H) {xs : List PyData} {vs : List V} (n : noLsts xs = true) (h : Reps K O0 H xs vs) : Reps K O0 H' xs vs :=
  Reps.free xs vs n (Reps.step st ol xs vs (Reps.free xs vs n h))
theorem CRep.step {K : Fr_} {O : AS} {H H' : Hp} {a : Addr} (st : Step O H H') (ol : OL O H) (hp : ∀ o, H a = some o → H' a = some o) : ∀ {c : Cell}, CRep K H c a → CRep K H' c a
  | .lst xs, ⟨n, vs, h1, h2⟩ => ⟨n, vs, hp _ h1, h2.go0 st ol n⟩
theorem CRep.mu {K : Fr_} {H : Hp} {a : Addr} : ∀ {c : Cell}, CRep K H c a → ∃ u, H a = some u ∧ Mu u ∧ ∀ ws, u ≠ .dT ws
  | .lst xs, ⟨n, vs, h1, h2⟩ => ⟨_, h1, trivial, fun ws z => nomatch z⟩
theorem Wel.step {K : Fr_} {O : AS} {w : List Addr} {H H' : Hp} {S : SW} (h : Wel K w H S) (st : Step O H H') (ol : OL O H) (hp : ∀ a ∈ w, ∀ o, H a = some o → H' a = some o) : Wel K w H' S :=
  ⟨h.len, fun n a c e1 e2 => CRep.step st ol (hp a (List.mem_of_getElem? e1)) (h.at' n a c e1 e2)⟩
theorem Wel.there {K : Fr_} {w : List Addr} {H : Hp} {S : SW} (h : Wel K w H S) {a : Addr} (ha : a ∈ w) : ∃ u, H a = some u ∧ Mu u ∧ ∀ ws, u ≠ .dT ws := by
  obtain ⟨n, hn⟩ := List.getElem?_of_mem ha
  have l := (List.getElem?_eq_some_iff.mp hn).1
  rw [h.len] at l
  exact (h.at' n a _ hn (List.getElem?_eq_getElem l)).mu
/-- a dict's entries: keys of ints and texts in a row, data -/
def DRep (K : Fr_) (O : AS) (H : Hp) (kvs : List (List Key × PyData)) (ws : List (List Key × V)) : Prop := ws.map (·.1) = kvs.map (·.1) ∧ Reps K O H (kvs.map (·.2)) (ws.map (·.2))
/-- the dicts of one's own -/
def Dcts (K : Fr_) (Oc O : AS) (σ : L2.St) (H : Hp) (ρ : Rho) : Prop :=
  (∀ (i : Nat) (kvs : List (List Key × PyData)), ρ[i]? = some (Sl.dct kvs) → ∃ a ws, σ[i]? = some (some (.ref a)) ∧ H a = some (.dT ws) ∧ Oc a ∧ DRep K O H kvs ws) ∧
  ∀ (i j : Nat) (ks ls : List (List Key × PyData)) (a : Addr), ρ[i]? = some (Sl.dct ks) → ρ[j]? = some (Sl.dct ls) → σ[i]? = some (some (.ref a)) → σ[j]? = some (some (.ref a)) → i = j
theorem Dcts.to {K : Fr_} {Oc Oc' O O' : AS} {σ σ' : L2.St} {H H' : Hp} {ρ ρ' : Rho} (h : Dcts K Oc O σ H ρ) (bk : ∀ (j : Nat) (kvs : List (List Key × PyData)), ρ'[j]? = some (Sl.dct kvs) → ρ[j]? = some (Sl.dct kvs) ∧ σ'[j]? = σ[j]?)
    (hp : ∀ a ws, H a = some (.dT ws) → Oc a → H' a = some (.dT ws) ∧ Oc' a) (hr : ∀ ds vs, Reps K O H ds vs → Reps K O' H' ds vs) : Dcts K Oc' O' σ' H' ρ' := by
  refine ⟨fun i kvs hi => ?_, fun i j ks ls a h1 h2 h3 h4 => ?_⟩
  · obtain ⟨q1, q2⟩ := bk i kvs hi
    obtain ⟨a, ws, e1, e2, e3, e4⟩ := h.1 i kvs q1
    exact ⟨a, ws, by rw [q2]; exact e1, (hp a ws e2 e3).1, (hp a ws e2 e3).2, e4.1, hr _ _ e4.2⟩
  · obtain ⟨q1, q2⟩ := bk i ks h1
    obtain ⟨q3, q4⟩ := bk j ls h2
    exact h.2 i j ks ls a q1 q3 (by rw [← q2]; exact h3) (by rw [← q4]; exact h4)
structure EV (K : Fr_) (Oc : AS) (w : List Addr) (σ : L2.St) (H : Hp) (ρ : Rho) (S : SW) : Prop where
  len : ρ.length = σ.length
  dat : ∀ (i : Nat) (d : PyData), ρ[i]? = some (Sl.dat d) → ∃ v, σ[i]? = some (some v) ∧ Rep K (OO Oc σ ρ) H d v
  own : ∀ (i : Nat) (xs : List PyData), ρ[i]? = some (Sl.own xs) → ∃ a vs, σ[i]? = some (some (.ref a)) ∧ H a = some (.lst vs) ∧ ¬ Oc a ∧ Reps K (OO Oc σ ρ) H xs vs
  inj : ∀ (i j : Nat) (xs ys : List PyData) (a : Addr), ρ[i]? = some (Sl.own xs) → ρ[j]? = some (Sl.own ys) → σ[i]? = some (some (.ref a)) → σ[j]? = some (some (.ref a)) → i = j
  cel : ∀ (i n : Nat), ρ[i]? = some (Sl.cel n) → ∃ a, w[n]? = some a ∧ σ[i]? = some (some (.ref a))
  wo : ∀ a, a ∈ w → Oc a
  wn : w.Nodup
  ws : Wel K w H S
  ol : OL Oc H
  dct : Dcts K Oc (OO Oc σ ρ) σ H ρ
section
variable {K : Fr_} {Oc : AS} {w : List Addr} {H H' H'' : Hp} {σ : L2.St} {ρ : Rho} {S S' : SW}
theorem Gr.refl : Gr w H H := fun _ _ _ h => h
theorem Gr.trans (a : Gr w H H') (b : Gr w H' H'') : Gr w H H'' := fun c u n h => b c u n (a c u n h)
theorem Gr.of (a : Same H H') : Gr w H H' := fun c u _ h => a c u h
theorem EV.Ool (e : EV K Oc w σ H ρ S) : OL (OO Oc σ ρ) H := by
  rintro a (h | ⟨i, xs, h1, h2⟩)
  · exact e.ol a h
  · obtain ⟨b, vs, hb, hl, _⟩ := e.own i xs h1
    rw [h2] at hb
    cases hb
    exact ⟨_, hl, trivial⟩
theorem EV.nw (e : EV K Oc w σ H ρ S) {a : Addr} (h : ¬ Oc a) : a ∉ w := fun z => h (e.wo a z)
theorem EV.stepO (e : EV K Oc w σ H ρ S) (g : Gr w H H') : Step (OO Oc σ ρ) H H' := fun a u n h => g a u (fun z => n (.inl (e.wo a z))) h
/-- behind an expression -/
theorem EV.go (e : EV K Oc w σ H ρ S) (g : Gr w H H') (hs : Wel K w H' S') : EV K Oc w σ H' ρ S' where
  len := e.len
  dat := fun i d h => by
    obtain ⟨v, hv, r⟩ := e.dat i d h
    exact ⟨v, hv, Rep.step (e.stepO g) e.Ool d v r⟩
  own := fun i xs h => by
    obtain ⟨a, vs, h1, h2, h3, h4⟩ := e.own i xs h
    exact ⟨a, vs, h1, g a _ (e.nw h3) h2, h3, Reps.step (e.stepO g) e.Ool xs vs h4⟩
  inj := e.inj
  cel := e.cel
  wo := e.wo
  wn := e.wn
  ws := hs
  ol := fun a h => by
    by_cases hw : a ∈ w
    · obtain ⟨u, h1, h2, _⟩ := hs.there hw
      exact ⟨u, h1, h2⟩
    · obtain ⟨u, hu, mu⟩ := e.ol a h
      exact ⟨u, g a u hw hu, mu⟩
  dct := e.dct.to (fun j kvs h => ⟨h, rfl⟩) (fun a ws h o => ⟨g a _ (fun z => by
    obtain ⟨u, h1, _, h2⟩ := e.ws.there z
    rw [h1] at h
    cases h
    exact h2 _ rfl) h, o⟩) fun ds vs => Reps.step (e.stepO g) e.Ool ds vs
theorem EV.same (e : EV K Oc w σ H ρ S) (g : Same H H') : EV K Oc w σ H' ρ S := e.go (Gr.of g) (e.ws.step (e.stepO (Gr.of g)) e.Ool fun a _ o h => g a o h)
/-- borrowed: data, or the list of one's own in a slot -/
def RepB (K : Fr_) (O : AS) (w : List Addr) (H : Hp) (d : PyData) (v : V) : Prop :=
  Rep K O H d v ∨ ∃ a vs ds, d = .list ds ∧ v = .ref a ∧ a ∉ w ∧ H a = some (.lst vs) ∧ Reps K O H ds vs
theorem RepB.go {O : AS} {d : PyData} {v : V} (s : Step O H H') (ol : OL O H) (g : Gr w H H') (h : RepB K O w H d v) : RepB K O w H' d v := by
  rcases h with h | ⟨a, vs, ds, e1, e2, n, h1, h2⟩
  · exact .inl (Rep.step s ol d v h)
  · exact .inr ⟨a, vs, ds, e1, e2, n, g _ _ n h1, Reps.step s ol ds vs h2⟩
theorem RepB.lst {O : AS} {ds : List PyData} {v : V} (h : RepB K O w H (.list ds) v) : ∃ a vs, v = .ref a ∧ SqL K H a vs ∧ Reps K O H ds vs := by
  rcases h with h | ⟨a, vs, ds', e1, e2, n, h1, h2⟩
  · simp only [Rep] at h
    obtain ⟨a, vs, e, q, r⟩ := h
    exact ⟨a, vs, e, q.sq, r⟩
  · cases e1
    exact ⟨a, vs, e2, SqL.of h1, h2⟩
theorem RepB.tup {O : AS} {ds : List PyData} {v : V} (h : RepB K O w H (.tuple ds) v) : ∃ a vs, v = .ref a ∧ SqT K H a vs ∧ Reps K O H ds vs := by
  rcases h with h | ⟨a, vs, ds', e1, e2, n, h1, h2⟩
  · simpa only [Rep] using h
  · cases e1
theorem RepB.int {O : AS} {i : Int} {v : V} (h : RepB K O w H (.int i) v) : v = .int i := by
  rcases h with h | ⟨a, vs, ds', e1, _⟩
  · simpa only [Rep] using h
  · cases e1
theorem RepB.bool {O : AS} {i : Bool} {v : V} (h : RepB K O w H (.bool i) v) : v = .bl i := by
  rcases h with h | ⟨a, vs, ds', e1, _⟩
  · simpa only [Rep] using h
  · cases e1
theorem RepB.str {O : AS} {i : Str} {v : V} (h : RepB K O w H (.str i) v) : v = .str i := by
  rcases h with h | ⟨a, vs, ds', e1, _⟩
  · simpa only [Rep] using h
  · cases e1
theorem RepB.non {O : AS} {v : V} (h : RepB K O w H .none v) : v = .non := by
  rcases h with h | ⟨a, vs, ds', e1, _⟩
  · simpa only [Rep] using h
  · cases e1
end
def asB : PyData → (Bool → Prop) → Prop
  | .bool b, k => k b
  | _, _ => False
def asI : PyData → (Int → Prop) → Prop
  | .int i, k => k i
  | _, _ => False
theorem asB_inv {d : PyData} {k : Bool → Prop} (h : asB d k) : ∃ b, d = .bool b ∧ k b := by
  cases d <;> simp only [asB] at h <;> first | exact h.elim | exact ⟨_, rfl, h⟩
theorem asI_inv {d : PyData} {k : Int → Prop} (h : asI d k) : ∃ b, d = .int b ∧ k b := by
  cases d <;> simp only [asI] at h <;> first | exact h.elim | exact ⟨_, rfl, h⟩
/-! ### readings -/
def rd (K : Fr_) (f : FE) : TE := fun σ H Q => ∃ Oc w ρ S R, EV K Oc w σ H ρ S ∧ f ρ S R ∧
  ∀ d S' v H', EV K Oc w σ H' ρ S' → Gr w H H' → Rep K (OO Oc σ ρ) H' d v → R d S' → Q v H'
/-- .. of an expression whose value is looked at, not kept -/
def rb (K : Fr_) (f : FE) : TE := fun σ H Q => ∃ Oc w ρ S R, EV K Oc w σ H ρ S ∧ f ρ S R ∧
  ∀ d S' v H', EV K Oc w σ H' ρ S' → Gr w H H' → RepB K (OO Oc σ ρ) w H' d v → R d S' → Q v H'
/-- .. of a new list -/
def rn (K : Fr_) (f : FE) : TE := fun σ H Q => ∃ Oc w ρ S R, EV K Oc w σ H ρ S ∧ f ρ S R ∧
  ∀ ds S' p vs H', EV K Oc w σ H' ρ S' → Gr w H H' → H p = none → H' p = some (.lst vs) → Reps K (With (OO Oc σ ρ) p) H' ds vs → R (.list ds) S' → Q (.ref p) H'
/-- .. of a test -/
def rt (K : Fr_) (f : FE) : TT := fun σ H Q => ∃ Oc w ρ S, ∃ R : Bool → SW → Prop, EV K Oc w σ H ρ S ∧ f ρ S (fun d S' => asB d fun b => R b S') ∧
  ∀ b S' H', EV K Oc w σ H' ρ S' → Gr w H H' → R b S' → Q b H'
section
variable {X : Cx} {e a b c : Expr} {pos : Pos} {f fa fb fc : FE}
theorem PE.imp {t t' : TE} (h : PE X e t) (i : ∀ σ H Q, t' σ H Q → t σ H Q) : PE X e t' := ⟨fun pins s σ H Q I q => h.run pins s σ H Q I (i σ H Q q)⟩
theorem PT.imp {t t' : TT} (h : PT X e t) (i : ∀ σ H Q, t' σ H Q → t σ H Q) : PT X e t' := ⟨fun pins s σ H Q I q => h.run pins s σ H Q I (i σ H Q q)⟩
theorem PW.imp {t t' : TT} (h : PW X e t) (i : ∀ σ H Q, t' σ H Q → t σ H Q) : PW X e t' := ⟨fun wh pins s σ H Q I q => h.run wh pins s σ H Q I (i σ H Q q)⟩
theorem PA.imp {es : List Expr} {t t' : TA} (h : PA X es t) (i : ∀ σ H Q, t' σ H Q → t σ H Q) : PA X es t' := ⟨fun ps pins s σ H Q I q => h.run ps pins s σ H Q I (i σ H Q q)⟩
theorem PS.imp {st : Stmt} {t t' : TS} (h : PS X st t) (i : ∀ D σ H, t' D σ H → t D σ H) : PS X st t' := ⟨fun pins s σ H D I q => h.run pins s σ H D I (i D σ H q)⟩
theorem PSs.imp {st : List Stmt} {t t' : TS} (h : PSs X st t) (i : ∀ D σ H, t' D σ H → t D σ H) : PSs X st t' := ⟨fun pins s σ H D I q => h.run pins s σ H D I (i D σ H q)⟩
/-- kept is looked at -/
theorem b_of (h : PE X e (rd X.K f)) : PE X e (rb X.K f) := PE.imp h fun σ H Q ⟨Oc, w, ρ, S, R, ev, hf, k⟩ =>
  ⟨Oc, w, ρ, S, R, ev, hf, fun d S' v H' ev' g r q => k d S' v H' ev' g (.inl r) q⟩
theorem Reps.less' {K : Fr_} {O : AS} {p : Addr} {H : Hp} {ds : List PyData} {vs : List V} (h : Reps K (With O p) H ds vs) : Reps K O H ds vs := Reps.less (fun a z => .inl z) ds vs h
/-- a new list as a value -/
theorem d_of_n (h : PE X e (rn X.K f)) : PE X e (rd X.K f) := PE.imp h fun σ H Q ⟨Oc, w, ρ, S, R, ev, hf, k⟩ =>
  ⟨Oc, w, ρ, S, R, ev, hf, fun ds S' p vs H' ev' g n hp r q => k (.list ds) S' (.ref p) H' ev' g (by
    simp only [Rep]
    refine ⟨p, vs, rfl, .inl ⟨.inl hp, fun z => ?_⟩, Reps.less' r⟩
    obtain ⟨u, hu, _⟩ := ev.Ool p z
    rw [hu] at n
    cases n) q⟩
/-- a value that is a truth, as a test -/
theorem t_val (h : PE X e (rb X.K f)) (he : ∀ whole, isTrue e X.env whole = (do let v ← whole; standAt e.pos; holding [v] (truthy v)) := by intro _; rfl) : PT X e (rt X.K f) :=
  PT.imp (pt_val h he) fun σ H Q ⟨Oc, w, ρ, S, R, ev, hf, k⟩ =>
    ⟨Oc, w, ρ, S, _, ev, hf, fun d S' v H' ev' g r q => by
      obtain ⟨b, rfl, q⟩ := asB_inv q
      exact ⟨b, r.bool, k b S' H' ev' g q⟩⟩
/-! ### names, constants -/
def fVar (i : Nat) : FE := fun ρ S R => match ρ[i]? with
  | some (.dat d) => R d S
  | _ => False
def fVarB (i : Nat) : FE := fun ρ S R => match ρ[i]? with
  | some (.dat d) => R d S
  | some (.own xs) => R (.list xs) S
  | _ => False
def fC (d : PyData) : FE := fun _ S R => R d S
theorem d_var (i : Nat) {x : Str} (hN : X.N[i]? = some x := by rfl) (hv : Vis X.env.scope x := by first | exact Or.inl rfl | exact Or.inr (Or.inl rfl) | exact Or.inr (Or.inr rfl)) (hd : (x == ("__debug__" : Str)) = false := by decide)
    (hcd : (x == ("__classdict__" : Str)) = false := by decide) : PE X (.Name x pos) (rd X.K (fVar i)) := PE.imp (pe_var (i := i) hN hv hd hcd) fun σ H Q ⟨Oc, w, ρ, S, R, ev, hf, k⟩ => by
  unfold fVar at hf
  split at hf
  · rename_i d hd
    obtain ⟨v, hv, r⟩ := ev.dat i d hd
    exact ⟨v, hv, k d S v H ev Gr.refl r hf⟩
  · exact hf.elim
theorem b_var (i : Nat) {x : Str} (hN : X.N[i]? = some x := by rfl) (hv : Vis X.env.scope x := by first | exact Or.inl rfl | exact Or.inr (Or.inl rfl) | exact Or.inr (Or.inr rfl)) (hd : (x == ("__debug__" : Str)) = false := by decide)
    (hcd : (x == ("__classdict__" : Str)) = false := by decide) : PE X (.Name x pos) (rb X.K (fVarB i)) := PE.imp (pe_var (i := i) hN hv hd hcd) fun σ H Q ⟨Oc, w, ρ, S, R, ev, hf, k⟩ => by
  unfold fVarB at hf
  split at hf
  · rename_i d hd
    obtain ⟨v, hv, r⟩ := ev.dat i d hd
    exact ⟨v, hv, k d S v H ev Gr.refl (.inl r) hf⟩
  · rename_i xs hx
    obtain ⟨a, vs, h1, h2, h3, h4⟩ := ev.own i xs hx
    exact ⟨_, h1, k (.list xs) S _ H ev Gr.refl (.inr ⟨a, vs, xs, rfl, rfl, ev.nw h3, h2, h4⟩) hf⟩
  · exact hf.elim
theorem rd_c {v : V} {d : PyData} (h : ∀ O H, Rep X.K O H d v) : ∀ σ H Q, rd X.K (fC d) σ H Q → tC v σ H Q := fun σ H Q ⟨Oc, w, ρ, S, R, ev, hf, k⟩ => k d S v H ev Gr.refl (h _ _) hf
theorem d_int {i : Int} {j : Nat} : PE X (.Constant (.int i) j pos) (rd X.K (fC (.int i))) := PE.imp pe_int (rd_c fun _ _ => by simp only [Rep])
theorem d_bool {i : Bool} {j : Nat} : PE X (.Constant (.bool i) j pos) (rd X.K (fC (.bool i))) := PE.imp pe_bl (rd_c fun _ _ => by simp only [Rep])
theorem d_none {j : Nat} : PE X (.Constant .none j pos) (rd X.K (fC .none)) := PE.imp pe_non (rd_c fun _ _ => by simp only [Rep])
theorem d_str {x : Str} {j : Nat} : PE X (.Constant (.str x) j pos) (rd X.K (fC (.str x))) := PE.imp pe_str (rd_c fun _ _ => by simp only [Rep])
/-- a constant of the module -/
def GlobD (K : Fr_) (mg : Str → Option Value) (x : Str) (d : PyData) : Prop := ∃ v u, mg x = some u ∧ RelV v u ∧ ∀ O H, Rep K O H d v
theorem d_glob {x : Str} {d : PyData} (h : GlobD X.K X.mg x d) (hg : Gl X x := by rfl) (hd : (x == ("__debug__" : Str)) = false := by decide) : PE X (.Name x pos) (rd X.K (fC d)) := by
  obtain ⟨v, u, h1, h2, h3⟩ := h
  exact PE.imp (pe_glob hg h1 h2 hd) (rd_c h3)
end
end DL

namespace DL
open PySem L2 PyProof.Rows
/-! ### operations on data -/
abbrev O1 := PyData → (PyData → Prop) → Prop
abbrev O2 := PyData → PyData → (PyData → Prop) → Prop
def fOp (o : O2) (fa fb : FE) : FE := fun ρ S R => fa ρ S fun x S1 => fb ρ S1 fun y S2 => o x y fun d => R d S2
def fUn (o : O1) (fa : FE) : FE := fun ρ S R => fa ρ S fun x S1 => o x fun d => R d S1
/-- what an operation's rule gives, in data -/
structure OpS (K : Fr_) (r : R2) (o : O2) : Prop where
  run : ∀ {O : AS} {w : List Addr} {H : Hp} {x y : PyData} {vx vy : V} {R : PyData → Prop} {Q : VK}, OL O H → RepB K O w H x vx → RepB K O w H y vy → o x y R →
    (∀ d v H', Same H H' → Rep K O H' d v → R d → Q v H') → r vx vy H Q
structure UnS (K : Fr_) (r : V → Hp → VK → Prop) (o : O1) : Prop where
  run : ∀ {O : AS} {w : List Addr} {H : Hp} {x : PyData} {vx : V} {R : PyData → Prop} {Q : VK}, OL O H → RepB K O w H x vx → o x R →
    (∀ d v H', Same H H' → Rep K O H' d v → R d → Q v H') → r vx H Q
/-- .. a new list -/
structure UnN (K : Fr_) (r : V → Hp → VK → Prop) (o : O1) : Prop where
  run : ∀ {O : AS} {w : List Addr} {H : Hp} {x : PyData} {vx : V} {R : PyData → Prop} {Q : VK}, OL O H → RepB K O w H x vx → o x R →
    (∀ ds p vs H', Same H H' → H p = none → H' p = some (.lst vs) → Reps K (With O p) H' ds vs → R (.list ds) → Q (.ref p) H') → r vx H Q
structure OpN (K : Fr_) (r : R2) (o : O2) : Prop where
  run : ∀ {O : AS} {w : List Addr} {H : Hp} {x y : PyData} {vx vy : V} {R : PyData → Prop} {Q : VK}, OL O H → RepB K O w H x vx → RepB K O w H y vy → o x y R →
    (∀ ds p vs H', Same H H' → H p = none → H' p = some (.lst vs) → Reps K (With O p) H' ds vs → R (.list ds) → Q (.ref p) H') → r vx vy H Q
section
variable {K : Fr_} {O : AS} {w : List Addr} {H H' : Hp}
theorem free_of {Oc : AS} {σ : L2.St} {ρ : Rho} {S : SW} {p : Addr} (e : EV K Oc w σ H' ρ S) (g : Gr w H H') (n : H' p = none) : H p = none := by
  cases q : H p with
  | none => rfl
  | some u =>
    by_cases hw : p ∈ w
    · obtain ⟨u, h1, _⟩ := e.ws.there hw
      rw [h1] at n
      cases n
    · rw [g p u hw q] at n
      cases n
variable {fa fb fc : FE} {r r' : R2} {o o' : O2} {ru : V → Hp → VK → Prop} {ou : O1}
theorem rd_op (s : OpS K r o) {σ : L2.St} {Q : VK} (h : rd K (fOp o fa fb) σ H Q) : tOp r (rb K fa) (rb K fb) σ H Q := by
  obtain ⟨Oc, w, ρ, S, R, ev, hf, k⟩ := h
  exact ⟨Oc, w, ρ, S, _, ev, hf, fun x S1 vx H1 ev1 g1 rx h1 => ⟨Oc, w, ρ, S1, _, ev1, h1, fun y S2 vy H2 ev2 g2 ry h2 =>
    s.run ev2.Ool (RepB.go (ev1.stepO g2) ev1.Ool g2 rx) ry h2 fun d v H3 sm rv q => k d S2 v H3 (ev2.same sm) ((g1.trans g2).trans (Gr.of sm)) rv q⟩⟩
theorem rn_op (s : OpN K r o) {σ : L2.St} {Q : VK} (h : rn K (fOp o fa fb) σ H Q) : tOp r (rb K fa) (rb K fb) σ H Q := by
  obtain ⟨Oc, w, ρ, S, R, ev, hf, k⟩ := h
  exact ⟨Oc, w, ρ, S, _, ev, hf, fun x S1 vx H1 ev1 g1 rx h1 => ⟨Oc, w, ρ, S1, _, ev1, h1, fun y S2 vy H2 ev2 g2 ry h2 =>
    s.run ev2.Ool (RepB.go (ev1.stepO g2) ev1.Ool g2 rx) ry h2 fun ds p vs H3 sm n hp rv q => k ds S2 p vs H3 (ev2.same sm) ((g1.trans g2).trans (Gr.of sm)) (free_of ev2 (g1.trans g2) n) hp rv q⟩⟩
theorem rd_un (s : UnS K ru ou) {σ : L2.St} {Q : VK} (h : rd K (fUn ou fa) σ H Q) : rb K fa σ H fun x H1 => ru x H1 Q := by
  obtain ⟨Oc, w, ρ, S, R, ev, hf, k⟩ := h
  exact ⟨Oc, w, ρ, S, _, ev, hf, fun x S1 vx H1 ev1 g1 rx h1 =>
    s.run ev1.Ool rx h1 fun d v H3 sm rv q => k d S1 v H3 (ev1.same sm) (g1.trans (Gr.of sm)) rv q⟩
theorem rn_un (s : UnN K ru ou) {σ : L2.St} {Q : VK} (h : rn K (fUn ou fa) σ H Q) : rb K fa σ H fun x H1 => ru x H1 Q := by
  obtain ⟨Oc, w, ρ, S, R, ev, hf, k⟩ := h
  exact ⟨Oc, w, ρ, S, _, ev, hf, fun x S1 vx H1 ev1 g1 rx h1 =>
    s.run ev1.Ool rx h1 fun ds p vs H3 sm n hp rv q => k ds S1 p vs H3 (ev1.same sm) (g1.trans (Gr.of sm)) (free_of ev1 g1 n) hp rv q⟩
/-- a comparison as a test -/
theorem rt_op (s : OpS K r o) {σ : L2.St} {Q : Bool → Hp → Prop} (h : rt K (fOp o fa fb) σ H Q) : tTest (tOp r (rb K fa) (rb K fb)) σ H Q := by
  obtain ⟨Oc, w, ρ, S, R, ev, hf, k⟩ := h
  exact ⟨Oc, w, ρ, S, _, ev, hf, fun x S1 vx H1 ev1 g1 rx h1 => ⟨Oc, w, ρ, S1, _, ev1, h1, fun y S2 vy H2 ev2 g2 ry h2 =>
    s.run (R := fun d => asB d fun b => R b S2) ev2.Ool (RepB.go (ev1.stepO g2) ev1.Ool g2 rx) ry h2 fun d v H3 sm rv q => by
      obtain ⟨b, rfl, q⟩ := asB_inv q
      simp only [Rep] at rv
      exact ⟨b, rv, k b S2 H3 (ev2.same sm) ((g1.trans g2).trans (Gr.of sm)) q⟩⟩⟩
/-- a op b op' c -/
def fChain (o o' : O2) (fa fb fc : FE) : FE := fun ρ S R => fa ρ S fun x S1 => fb ρ S1 fun y S2 => o x y fun z => asB z fun k =>
  if k = true then fc ρ S2 fun u S3 => o' y u fun d => R d S3 else R (.bool false) S2
theorem rd_chain (s : OpS K r o) (s' : OpS K r' o') {σ : L2.St} {Q : VK} (h : rd K (fChain o o' fa fb fc) σ H Q) : tChain r r' (rb K fa) (rb K fb) (rb K fc) σ H Q := by
  obtain ⟨Oc, w, ρ, S, R, ev, hf, k⟩ := h
  refine ⟨Oc, w, ρ, S, _, ev, hf, fun x S1 vx H1 ev1 g1 rx h1 => ⟨Oc, w, ρ, S1, _, ev1, h1, fun y S2 vy H2 ev2 g2 ry h2 =>
    s.run ev2.Ool (RepB.go (ev1.stepO g2) ev1.Ool g2 rx) ry h2 fun d v H3 sm rv q0 => ?_⟩⟩
  obtain ⟨b, rfl, q⟩ := asB_inv q0
  simp only [Rep] at rv
  have ev3 := ev2.same sm
  refine ⟨b, rv, ?_⟩
  cases b with
  | true =>
    rw [if_pos rfl] at q ⊢
    exact ⟨Oc, w, ρ, S2, _, ev3, q, fun u S3 vu H4 ev4 g4 ru h4 =>
      s'.run ev4.Ool (RepB.go (ev2.stepO ((Gr.of sm).trans g4)) ev2.Ool ((Gr.of sm).trans g4) ry) ru h4 fun d v H5 sm5 rv q => k d S3 v H5 (ev4.same sm5) ((((g1.trans g2).trans (Gr.of sm)).trans g4).trans (Gr.of sm5)) rv q⟩
  | false =>
    rw [if_neg Bool.false_ne_true] at q ⊢
    exact k (.bool false) S2 _ H3 ev3 ((g1.trans g2).trans (Gr.of sm)) (by simp only [Rep]) q
end
section
variable {X : Cx} {e a b c : Expr} {pos : Pos} {fa fb fc : FE} {r r' : R2} {o o' : O2} {ru : V → Hp → VK → Prop} {ou : O1}
theorem d_bin {op : Operator} (ho : OpR X (binaryOp op) r) (s : OpS X.K r o) (ha : PE X a (rb X.K fa)) (hb : PE X b (rb X.K fb)) : PE X (.BinOp a op b pos) (rd X.K (fOp o fa fb)) := PE.imp (pe_op ho ha hb) fun _ _ _ h => rd_op s h
theorem n_bin {op : Operator} (ho : OpR X (binaryOp op) r) (s : OpN X.K r o) (ha : PE X a (rb X.K fa)) (hb : PE X b (rb X.K fb)) : PE X (.BinOp a op b pos) (rn X.K (fOp o fa fb)) := PE.imp (pe_op ho ha hb) fun _ _ _ h => rn_op s h
theorem d_un {op : UnaryOp} (ho : UnR X (unaryOp op) ru) (s : UnS X.K ru ou) (ha : PE X a (rb X.K fa)) : PE X (.UnaryOp op a pos) (rd X.K (fUn ou fa)) := PE.imp (pe_un ho ha) fun _ _ _ h => rd_un s h
theorem d_cmp {op : CmpOp} (ho : OpR X (compareOp op) r) (s : OpS X.K r o) (ha : PE X a (rb X.K fa)) (hb : PE X b (rb X.K fb)) (hm : behindInMarks op b = false := by rfl) : PE X (.Compare a [op] [b] pos) (rd X.K (fOp o fa fb)) := PE.imp (pe_cmpR ho ha hb hm) fun _ _ _ h => rd_op s h
theorem t_cmp {op : CmpOp} (ho : OpR X (compareOp op) r) (s : OpS X.K r o) (ha : PE X a (rb X.K fa)) (hb : PE X b (rb X.K fb)) (hm : behindInMarks op b = false := by rfl) : PT X (.Compare a [op] [b] pos) (rt X.K (fOp o fa fb)) := PT.imp (pt_cmpR ho ha hb hm) fun _ _ _ h => rt_op s h
theorem d_chain {op op' : CmpOp} (ho : OpR X (compareOp op) r) (ho' : OpR X (compareOp op') r') (s : OpS X.K r o) (s' : OpS X.K r' o') (ha : PE X a (rb X.K fa)) (hb : PE X b (rb X.K fb)) (hc : PE X c (rb X.K fc))
    (hm : lastMarks [op, op'] [b, c] = false := by with_unfolding_all rfl) : PE X (.Compare a [op, op'] [b, c] pos) (rd X.K (fChain o o' fa fb fc)) := PE.imp (pe_chain ho ho' ha hb hc hm) fun _ _ _ h => rd_chain s s' h
/-- what gives a truth, as a test: over any test's rule by a value's reading -/
theorem rt_of {K : Fr_} {f : FE} {t : TE} (h : ∀ σ H Q, rd K f σ H Q → t σ H Q) : ∀ σ H Q, rt K f σ H Q → tTest t σ H Q := fun σ H Q ⟨Oc, w, ρ, S, R, ev, hf, k⟩ =>
  h σ H _ ⟨Oc, w, ρ, S, _, ev, hf, fun d S' v H' ev' g r q => by
    obtain ⟨b, rfl, q⟩ := asB_inv q
    simp only [Rep] at r
    exact ⟨b, r, k b S' H' ev' g q⟩⟩
theorem t_chain {op op' : CmpOp} (ho : OpR X (compareOp op) r) (ho' : OpR X (compareOp op') r') (s : OpS X.K r o) (s' : OpS X.K r' o') (ha : PE X a (rb X.K fa)) (hb : PE X b (rb X.K fb)) (hc : PE X c (rb X.K fc))
    (hm : lastMarks [op, op'] [b, c] = false := by with_unfolding_all rfl) : PT X (.Compare a [op, op'] [b, c] pos) (rt X.K (fChain o o' fa fb fc)) := PT.imp (pt_chain ho ho' ha hb hc hm) (rt_of fun _ _ _ h => rd_chain s s' h)
/-! ### and, or, not, if -/
def fAnd (fa fb : FE) : FE := fun ρ S R => fa ρ S fun x S1 => asB x fun k => if k = true then fb ρ S1 R else R (.bool false) S1
def fOr (fa fb : FE) : FE := fun ρ S R => fa ρ S fun x S1 => asB x fun k => if k = true then R (.bool true) S1 else fb ρ S1 R
def fNot (fa : FE) : FE := fun ρ S R => fa ρ S fun x S1 => asB x fun k => R (.bool (!k)) S1
def fIf (fc fa fb : FE) : FE := fun ρ S R => fc ρ S fun x S1 => asB x fun k => if k = true then fa ρ S1 R else fb ρ S1 R
variable {rest : List Expr}
theorem d_one {op : BoolOp} {f : FE} (h : PE X a (rd X.K f)) : PE X (.BoolOp op [a] pos) (rd X.K f) := pe_one h
theorem d_and (ha : PE X a (rb X.K fa)) (hb : PE X (.BoolOp .And (b :: rest) pos) (rd X.K fb)) : PE X (.BoolOp .And (a :: b :: rest) pos) (rd X.K (fAnd fa fb)) := PE.imp (pe_and ha hb) fun σ H Q ⟨Oc, w, ρ, S, R, ev, hf, k⟩ =>
  ⟨Oc, w, ρ, S, _, ev, hf, fun x S1 vx H1 ev1 g1 rx h1 => by
    obtain ⟨b, rfl, q⟩ := asB_inv h1
    refine ⟨b, rx.bool, ?_⟩
    cases b with
    | true =>
      rw [if_pos rfl] at q ⊢
      exact ⟨Oc, w, ρ, S1, R, ev1, q, fun d S' v H' ev' g r q => k d S' v H' ev' (g1.trans g) r q⟩
    | false =>
      rw [if_neg Bool.false_ne_true] at q ⊢
      exact k _ S1 _ H1 ev1 g1 (by simp only [Rep]) q⟩
theorem d_or (ha : PE X a (rb X.K fa)) (hb : PE X (.BoolOp .Or (b :: rest) pos) (rd X.K fb)) : PE X (.BoolOp .Or (a :: b :: rest) pos) (rd X.K (fOr fa fb)) := PE.imp (pe_or ha hb) fun σ H Q ⟨Oc, w, ρ, S, R, ev, hf, k⟩ =>
  ⟨Oc, w, ρ, S, _, ev, hf, fun x S1 vx H1 ev1 g1 rx h1 => by
    obtain ⟨b, rfl, q⟩ := asB_inv h1
    refine ⟨b, rx.bool, ?_⟩
    cases b with
    | true =>
      rw [if_pos rfl] at q ⊢
      exact k _ S1 _ H1 ev1 g1 (by simp only [Rep]) q
    | false =>
      rw [if_neg Bool.false_ne_true] at q ⊢
      exact ⟨Oc, w, ρ, S1, R, ev1, q, fun d S' v H' ev' g r q => k d S' v H' ev' (g1.trans g) r q⟩⟩
theorem d_not (ha : PE X a (rb X.K fa)) : PE X (.UnaryOp .Not a pos) (rd X.K (fNot fa)) := PE.imp (pe_not ha) fun σ H Q ⟨Oc, w, ρ, S, R, ev, hf, k⟩ =>
  ⟨Oc, w, ρ, S, _, ev, hf, fun x S1 vx H1 ev1 g1 rx h1 => by
    obtain ⟨b, rfl, q⟩ := asB_inv h1
    exact ⟨b, rx.bool, k _ S1 _ H1 ev1 g1 (by simp only [Rep]) q⟩⟩
theorem w_and1 {f : FE} (h : PT X a (rt X.K f)) : PW X (.BoolOp .And [a] pos) (rt X.K f) := pw_and1 h
theorem w_or1 {f : FE} (h : PT X a (rt X.K f)) : PW X (.BoolOp .Or [a] pos) (rt X.K f) := pw_or1 h
theorem w_and (ha : PT X a (rt X.K fa)) (hb : PW X (.BoolOp .And (b :: rest) pos) (rt X.K fb)) : PW X (.BoolOp .And (a :: b :: rest) pos) (rt X.K (fAnd fa fb)) := PW.imp (pw_and ha hb) fun σ H Q ⟨Oc, w, ρ, S, R, ev, hf, k⟩ =>
  ⟨Oc, w, ρ, S, _, ev, hf, fun b S1 H1 ev1 g1 q => by
    cases b with
    | true =>
      rw [if_pos rfl] at q ⊢
      exact ⟨Oc, w, ρ, S1, R, ev1, q, fun d S' H' ev' g q => k d S' H' ev' (g1.trans g) q⟩
    | false =>
      rw [if_neg Bool.false_ne_true] at q ⊢
      exact k false S1 H1 ev1 g1 q⟩
theorem w_or (ha : PT X a (rt X.K fa)) (hb : PW X (.BoolOp .Or (b :: rest) pos) (rt X.K fb)) : PW X (.BoolOp .Or (a :: b :: rest) pos) (rt X.K (fOr fa fb)) := PW.imp (pw_or ha hb) fun σ H Q ⟨Oc, w, ρ, S, R, ev, hf, k⟩ =>
  ⟨Oc, w, ρ, S, _, ev, hf, fun b S1 H1 ev1 g1 q => by
    cases b with
    | true =>
      rw [if_pos rfl] at q ⊢
      exact k true S1 H1 ev1 g1 q
    | false =>
      rw [if_neg Bool.false_ne_true] at q ⊢
      exact ⟨Oc, w, ρ, S1, R, ev1, q, fun d S' H' ev' g q => k d S' H' ev' (g1.trans g) q⟩⟩
theorem t_not (ha : PT X a (rt X.K fa)) : PT X (.UnaryOp .Not a pos) (rt X.K (fNot fa)) := PT.imp (pt_not ha) fun σ H Q ⟨Oc, w, ρ, S, R, ev, hf, k⟩ =>
  ⟨Oc, w, ρ, S, _, ev, hf, fun b S1 H1 ev1 g1 q => k (!b) S1 H1 ev1 g1 q⟩
theorem d_if (hc : PT X c (rt X.K fc)) (ha : PE X a (rd X.K fa)) (hb : PE X b (rd X.K fb)) : PE X (.IfExp c a b pos) (rd X.K (fIf fc fa fb)) := PE.imp (pe_ifExp hc ha hb) fun σ H Q ⟨Oc, w, ρ, S, R, ev, hf, k⟩ =>
  ⟨Oc, w, ρ, S, _, ev, hf, fun b S1 H1 ev1 g1 q => by
    cases b with
    | true =>
      rw [if_pos rfl] at q ⊢
      exact ⟨Oc, w, ρ, S1, R, ev1, q, fun d S' v H' ev' g r q => k d S' v H' ev' (g1.trans g) r q⟩
    | false =>
      rw [if_neg Bool.false_ne_true] at q ⊢
      exact ⟨Oc, w, ρ, S1, R, ev1, q, fun d S' v H' ev' g r q => k d S' v H' ev' (g1.trans g) r q⟩⟩
theorem b_if (hc : PT X c (rt X.K fc)) (ha : PE X a (rb X.K fa)) (hb : PE X b (rb X.K fb)) : PE X (.IfExp c a b pos) (rb X.K (fIf fc fa fb)) := PE.imp (pe_ifExp hc ha hb) fun σ H Q ⟨Oc, w, ρ, S, R, ev, hf, k⟩ =>
  ⟨Oc, w, ρ, S, _, ev, hf, fun b S1 H1 ev1 g1 q => by
    cases b with
    | true =>
      rw [if_pos rfl] at q ⊢
      exact ⟨Oc, w, ρ, S1, R, ev1, q, fun d S' v H' ev' g r q => k d S' v H' ev' (g1.trans g) r q⟩
    | false =>
      rw [if_neg Bool.false_ne_true] at q ⊢
      exact ⟨Oc, w, ρ, S1, R, ev1, q, fun d S' v H' ev' g r q => k d S' v H' ev' (g1.trans g) r q⟩⟩
end
end DL

namespace DL
open PySem L2 PyProof.Rows
section
variable {K : Fr_} {O : AS} {w : List Addr} {H H' : Hp}
theorem Same.new {p : Addr} {o : HO} (n : H p = none) : Same H (upd H p o) := fun b u q => by rw [upd_ne (ne_of_none q n)]; exact q
theorem Step.of (s : Same H H') : Step O H H' := fun a u _ h => s a u h
theorem Rep.same (ol : OL O H) (s : Same H H') {d : PyData} {v : V} (h : Rep K O H d v) : Rep K O H' d v := Rep.step (Step.of s) ol d v h
theorem Reps.same (ol : OL O H) (s : Same H H') {d : List PyData} {v : List V} (h : Reps K O H d v) : Reps K O H' d v := Reps.step (Step.of s) ol d v h
theorem OL.away (ol : OL O H) {p : Addr} (n : H p = none) : ¬ O p := fun z => by
  obtain ⟨u, hu, _⟩ := ol p z
  rw [hu] at n
  cases n
/-- a new tuple, a new list -/
theorem rep_tup (ol : OL O H) {p : Addr} {ds : List PyData} {vs : List V} (n : H p = none) (r : Reps K O H ds vs) : Rep K O (upd H p (.tup vs)) (.tuple ds) (.ref p) := by
  simp only [Rep]
  exact ⟨p, vs, rfl, SqT.of upd_same, Reps.same ol (Same.new n) r⟩
theorem rep_lst (ol : OL O H) {p : Addr} {ds : List PyData} {vs : List V} (n : H p = none) (r : Reps K O H ds vs) : Rep K O (upd H p (.lst vs)) (.list ds) (.ref p) := by
  simp only [Rep]
  exact ⟨p, vs, rfl, .inl ⟨.inl upd_same, ol.away n⟩, Reps.same ol (Same.new n) r⟩
theorem reps_new (ol : OL O H) {p : Addr} {ds : List PyData} {vs : List V} (n : H p = none) {o : HO} (r : Reps K O H ds vs) : Reps K (With O p) (upd H p o) ds vs := Reps.fw (fun a z => z.elim .inl fun e => .inr (by rw [e]; exact n)) (Step.of (Same.new n)) ol ds vs r
/-! ### arithmetic -/
def oAdd : O2 := fun x y R => match x, y with
  | .int i, .int j => R (.int (i + j))
  | .str a, .str b => a.length + b.length ≤ sizeLine ∧ R (.str (a ++ b))
  | .tuple a, .tuple b => a.length + b.length ≤ sizeLine ∧ R (.tuple (a ++ b))
  | .list a, .list b => a.length + b.length ≤ sizeLine ∧ R (.list (a ++ b))
  | _, _ => False
def oI (g : Int → Int → PyData) : O2 := fun x y R => match x, y with
  | .int i, .int j => R (g i j)
  | _, _ => False
def oIC (C : Int → Int → Prop) (g : Int → Int → PyData) : O2 := fun x y R => match x, y with
  | .int i, .int j => C i j ∧ R (g i j)
  | _, _ => False
theorem oI_inv {g : Int → Int → PyData} {x y : PyData} {R : PyData → Prop} (h : oI g x y R) : ∃ i j, x = .int i ∧ y = .int j ∧ R (g i j) := by
  unfold oI at h
  split at h <;> first | exact ⟨_, _, rfl, rfl, h⟩ | exact h.elim
theorem oIC_inv {C : Int → Int → Prop} {g : Int → Int → PyData} {x y : PyData} {R : PyData → Prop} (h : oIC C g x y R) : ∃ i j, x = .int i ∧ y = .int j ∧ C i j ∧ R (g i j) := by
  unfold oIC at h
  split at h <;> first | exact ⟨_, _, rfl, rfl, h⟩ | exact h.elim
theorem sI {g : Int → Int → PyData} {gv : Int → Int → V} (hg : ∀ O H i j, Rep K O H (g i j) (gv i j)) : OpS K (rI0 gv) (oI g) := ⟨fun {O w H x y vx vy R Q} ol rx ry h k => by
  obtain ⟨i, j, rfl, rfl, q⟩ := oI_inv h
  exact ⟨i, j, rx.int, ry.int, k _ _ H (Same.refl H) (hg _ _ _ _) q⟩⟩
theorem sIC {C : Int → Int → Prop} {g : Int → Int → PyData} {gv : Int → Int → V} (hg : ∀ O H i j, Rep K O H (g i j) (gv i j)) : OpS K (rI C gv) (oIC C g) := ⟨fun {O w H x y vx vy R Q} ol rx ry h k => by
  obtain ⟨i, j, rfl, rfl, c, q⟩ := oIC_inv h
  exact ⟨i, j, rx.int, ry.int, c, k _ _ H (Same.refl H) (hg _ _ _ _) q⟩⟩
theorem sInt {g : Int → Int → Int} : OpS K (rI0 fun i j => .int (g i j)) (oI fun i j => .int (g i j)) := sI fun _ _ _ _ => by simp only [Rep]
theorem sIntB {g : Int → Int → Bool} : OpS K (rI0 fun i j => .bl (g i j)) (oI fun i j => .bool (g i j)) := sI fun _ _ _ _ => by simp only [Rep]
theorem sIntC {C : Int → Int → Prop} {g : Int → Int → Int} : OpS K (rI C fun i j => .int (g i j)) (oIC C fun i j => .int (g i j)) := sIC fun _ _ _ _ => by simp only [Rep]
def rCatR (K : Fr_) : R2 := fun x y H Q => ∃ l b xs zs, x = .ref l ∧ y = .ref b ∧ SqL K H l xs ∧ SqL K H b zs ∧ xs.length + zs.length ≤ sizeLine ∧ ∀ p, H p = none → Q (.ref p) (upd H p (.lst (xs ++ zs)))
theorem add_any (l : Addr) (o1 : Obj) (items : Array Value) (n : Nat) (b : Addr) (o2 : Obj) (items2 : Array Value) (n2 : Nat) (d1 : o1.data = .seq items n) (d2 : o2.data = .seq items2 n2) (c1 : o1.cls = .type "list") (c2 : o2.cls = .type "list") (hc0 : items.size + items2.size ≤ sizeLine) :
    Meets (Builtin.«list.__add__» ⟨[.ref l, .ref b], []⟩) (fun _ R s => s.heap.get? l = some o1 ∧ s.heap.get? b = some o2 ∧ R (.ok (.ret (Value.ref s.heap.objs.size))) { s with heap := s.heap.push { cls := Value.type "list", data := Data.seq (items ++ items2) } }) := by
  obtain ⟨k1, m1, dd1, s1⟩ := o1
  obtain ⟨k2, m2, dd2, s2⟩ := o2
  cases d1
  cases d2
  cases c1
  cases c2
  refine .of_wp fun prog w A R s h => ?_
  obtain ⟨hp, g, d, tk, os⟩ := s
  obtain ⟨hl, hb, h⟩ := h
  have sub := AutoSeq1.sub_list_list
  wp_walk using wpAny_loadPart' hl, wpAny_loadPart' hb
  exact ⟨_, rfl, h⟩
theorem op_catR {X : Cx} : OpR X (binaryOp .Add) (rCatR X.K) := by
  rintro pins s σ H x y v u Q I rx ry ⟨l, b, xs, zs, rfl, rfl, hl, hb, hz, q⟩
  cases rx
  cases ry
  obtain ⟨i1, r1, ⟨o1, n1, e1, c1, _, d1⟩, _⟩ := I.list hl
  obtain ⟨i2, r2, ⟨o2, n2, e2, c2, _, d2⟩, _⟩ := I.list hb
  have l1 := r1.length
  have l2 := r2.length
  refine concat_meets ⟨_, e1, c1⟩ ⟨_, e2, c2⟩ noFill_list_add seq_list_add F.slot_list_add F.entry_list_add (F.args_list_add_2 _ _) (add_any l o1 _ n1 b o2 _ n2 d1 d2 c1 c2 (by simp only [List.size_toArray]; omega)) ⟨e1, e2, ?_⟩
  rw [show i1.toArray ++ i2.toArray = (i1 ++ i2).toArray by simp]
  exact ⟨.ref _, _, I.lnew (t' := s.toks) (r1.append r2) (by simp only [List.length_append]; exact hz), rfl, q _ I.fresh⟩
def rAddAll (K : Fr_) : R2 := fun x y H Q => rI0 (fun i j => .int (i + j)) x y H Q ∨ ((∃ i j, x = .str i ∧ y = .str j ∧ i.length + j.length ≤ sizeLine ∧ Q (.str (i ++ j)) H) ∨ (rCatA K x y H Q ∨ rCatR K x y H Q))
theorem op_addAll {X : Cx} : OpR X (binaryOp .Add) (rAddAll X.K) := op_add.or (op_add_str.or (op_catA.or op_catR))
theorem sAdd : OpS K (rAddAll K) oAdd := ⟨fun {O w H x y vx vy R Q} ol rx ry h k => by
  unfold oAdd at h
  split at h
  · exact .inl ⟨_, _, rx.int, ry.int, k _ _ H (Same.refl H) (by simp only [Rep]) h⟩
  · exact .inr (.inl ⟨_, _, rx.str, ry.str, h.1, k _ _ H (Same.refl H) (by simp only [Rep]) h.2⟩)
  · rename_i a b
    obtain ⟨p, vs, rfl, q1, r1⟩ := rx.tup
    obtain ⟨q, ws, rfl, q2, r2⟩ := ry.tup
    refine .inr (.inr (.inl ⟨p, q, vs, ws, rfl, rfl, q1, q2, by rw [r1.len, r2.len]; exact h.1, fun e => ?_, fun _ e => ?_, fun _ _ t ht => ?_⟩))
    · subst e
      have e' : a = [] := List.length_eq_zero_iff.mp r1.len.symm
      subst e'
      exact k (.tuple b) _ H (Same.refl H) (by simp only [Rep]; exact ⟨q, ws, rfl, q2, r2⟩) h.2
    · subst e
      have e' : b = [] := List.length_eq_zero_iff.mp r2.len.symm
      subst e'
      refine k (.tuple (a ++ [])) _ H (Same.refl H) ?_ h.2
      rw [List.append_nil]
      simp only [Rep]
      exact ⟨p, vs, rfl, q1, r1⟩
    · exact k _ _ _ (Same.new ht) (rep_tup ol ht (r1.app r2)) h.2
  · rename_i a b
    obtain ⟨p, vs, rfl, q1, r1⟩ := rx.lst
    obtain ⟨q, ws, rfl, q2, r2⟩ := ry.lst
    exact .inr (.inr (.inr ⟨p, q, vs, ws, rfl, rfl, q1, q2, by rw [r1.len, r2.len]; exact h.1, fun t ht => k _ _ _ (Same.new ht) (rep_lst ol ht (r1.app r2)) h.2⟩))
  · exact h.elim⟩
/-- list + list, to be kept as one's own -/
def oCatL : O2 := fun x y R => match x, y with
  | .list a, .list b => a.length + b.length ≤ sizeLine ∧ R (.list (a ++ b))
  | _, _ => False
theorem nCatL : OpN K (rCatR K) oCatL := ⟨fun {O w H x y vx vy R Q} ol rx ry h k => by
  unfold oCatL at h
  split at h
  · rename_i a b
    obtain ⟨p, vs, rfl, q1, r1⟩ := rx.lst
    obtain ⟨q, ws, rfl, q2, r2⟩ := ry.lst
    exact ⟨p, q, vs, ws, rfl, rfl, q1, q2, by rw [r1.len, r2.len]; exact h.1, fun t ht => k _ _ _ _ (Same.new ht) ht upd_same (reps_new ol ht (r1.app r2)) h.2⟩
  · exact h.elim⟩
def oNeg : O1 := fun x R => asI x fun i => R (.int (-i))
theorem sNeg : UnS K (rU fun i => .int (-i)) oNeg := ⟨fun {O w H x vx R Q} ol rx h k => by
  obtain ⟨i, rfl, q⟩ := asI_inv h
  exact ⟨i, rx.int, k _ _ H (Same.refl H) (by simp only [Rep]) q⟩⟩
/-! ### ==, in -/
mutual
theorem Rep.dp : ∀ (d : PyData) (v : V), d.canLay0 = true → Rep K O H d v → Dp K H v d
  | .none, v, _, h => by simp only [Rep] at h; subst h; exact .non
  | .bool b, v, _, h => by simp only [Rep] at h; subst h; exact .bl b
  | .int i, v, _, h => by simp only [Rep] at h; subst h; exact .int i
  | .str x, v, _, h => by simp only [Rep] at h; subst h; exact .str x
  | .list ds, v, c, h => by
    simp only [Rep] at h
    obtain ⟨a, vs, rfl, q, r⟩ := h
    exact .lst q.sq (Reps.dp ds vs (by simpa only [PyData.canLay0] using c) r)
  | .tuple ds, v, c, h => by
    simp only [Rep] at h
    obtain ⟨a, vs, rfl, q, r⟩ := h
    exact .tup q (Reps.dp ds vs (by simpa only [PyData.canLay0] using c) r)
  | .dict kvs, v, c, h => by simp [PyData.canLay0] at c
theorem Reps.dp : ∀ (ds : List PyData) (vs : List V), PyData.canLayAll0 ds = true → Reps K O H ds vs → DpAll K H vs ds
  | [], vs, _, h => by simp only [Reps] at h; subst h; exact .nil
  | d :: ds, vs, c, h => by
    simp only [Reps] at h
    obtain ⟨v, r, rfl, h1, h2⟩ := h
    simp only [PyData.canLayAll0, Bool.and_eq_true] at c
    exact .cons (Rep.dp d v c.1 h1) (Reps.dp ds r c.2 h2)
end
theorem RepB.dp {d : PyData} {v : V} (c : d.canLay0 = true) (h : RepB K O w H d v) : Dp K H v d := by
  rcases h with h | ⟨a, vs, ds, rfl, rfl, n, h1, h2⟩
  · exact Rep.dp d v c h
  · exact .lst (SqL.of h1) (Reps.dp ds vs (by simpa only [PyData.canLay0] using c) h2)
/-- a tuple and the empty one -/
def rEqE (K : Fr_) : R2 := fun x y H Q => ∃ a b vs, x = .ref a ∧ y = .ref b ∧ SqT K H a vs ∧ SqT K H b [] ∧ Q (.bl vs.isEmpty) H
theorem op_eqE {X : Cx} (hu : X.A.units < cLine) : OpR X (compareOp .Eq) (rEqE X.K) := by
  intro pins s σ H x y v u Q I rx ry h
  obtain ⟨a, b, vs, rfl, rfl, ha, hb, q⟩ := h
  cases rx
  cases ry
  obtain ⟨its, r1, p1, _⟩ := I.tuple ha
  obtain ⟨its2, r2, p2, _⟩ := I.tuple hb
  cases r2
  refine SeqAt.eq_tupleAt (e := fun _ => true) p1 p2 hu (fun j h1 h2 => absurd h2 (by simp)) ⟨.bl vs.isEmpty, H, I, ?_, q⟩
  cases r1 <;> simp [L2.RelV]
def rEqAll (K : Fr_) : R2 := fun x y H Q => rEqE K x y H Q ∨ (L2.rEq x y H Q ∨ rEqD K x y H Q)
theorem op_eqAll {X : Cx} {k : Nat} (hr : Room k X.A) : OpR X (compareOp .Eq) (rEqAll X.K) := (op_eqE hr.units0).or (op_eq.or (op_eqD hr.units))
def rNeAll (K : Fr_) : R2 := fun x y H Q => L2.rNe x y H Q ∨ rNeD K x y H Q
theorem op_neAll {X : Cx} {k : Nat} (hr : Room k X.A) : OpR X (compareOp .NotEq) (rNeAll X.K) := op_ne.or (op_neD hr.units)
def oEq : O2 := fun x y R => match x, y with
  | .tuple ds, .tuple [] => R (.bool ds.isEmpty)
  | .int a, .int b => R (.bool (decide (a = b)))
  | .str a, .str b => R (.bool (decide (a = b)))
  | .bool a, .bool b => R (.bool (decide (a = b)))
  | x, y => SeqAt.shaped x = true ∧ SeqAt.shaped y = true ∧ R (.bool (PyData.eqv x y))
def oNe : O2 := fun x y R => match x, y with
  | .int a, .int b => R (.bool (!decide (a = b)))
  | .str a, .str b => R (.bool (!decide (a = b)))
  | .bool a, .bool b => R (.bool (!decide (a = b)))
  | x, y => SeqAt.shaped x = true ∧ SeqAt.shaped y = true ∧ R (.bool (!PyData.eqv x y))
theorem V.int_eq {a b : Int} : decide (V.int a = V.int b) = decide (a = b) := by
  by_cases h : a = b
  · subst h; simp
  · rw [decide_eq_false h, decide_eq_false (fun z => h (V.int.inj z))]
theorem V.str_eq {a b : Str} : decide (V.str a = V.str b) = decide (a = b) := by
  by_cases h : a = b
  · subst h; simp
  · rw [decide_eq_false h, decide_eq_false (fun z => h (V.str.inj z))]
theorem V.bl_eq {a b : Bool} : decide (V.bl a = V.bl b) = decide (a = b) := by
  by_cases h : a = b
  · subst h; simp
  · rw [decide_eq_false h, decide_eq_false (fun z => h (V.bl.inj z))]
theorem sEq : OpS K (rEqAll K) oEq := ⟨fun {O w H x y vx vy R Q} ol rx ry h k => by
  unfold oEq at h
  split at h
  · rename_i ds
    obtain ⟨p, vs, rfl, q1, r1⟩ := rx.tup
    obtain ⟨q, ws, rfl, q2, r2⟩ := ry.tup
    simp only [Reps] at r2
    subst r2
    refine .inl ⟨p, q, vs, rfl, rfl, q1, q2, k _ _ H (Same.refl H) ?_ h⟩
    simp only [Rep]
    have e := r1.len
    cases vs <;> cases ds <;> simp at e ⊢
  · rw [rx.int, ry.int]
    exact .inr (.inl ⟨rfl, by rw [V.int_eq]; exact k _ _ H (Same.refl H) (by simp only [Rep]) h⟩)
  · rw [rx.str, ry.str]
    exact .inr (.inl ⟨rfl, by rw [V.str_eq]; exact k _ _ H (Same.refl H) (by simp only [Rep]) h⟩)
  · rw [rx.bool, ry.bool]
    exact .inr (.inl ⟨rfl, by rw [V.bl_eq]; exact k _ _ H (Same.refl H) (by simp only [Rep]) h⟩)
  · obtain ⟨h1, h2, h3⟩ := h
    exact .inr (.inr ⟨_, _, rx.dp (SeqAt.canLay_of_shaped h1), ry.dp (SeqAt.canLay_of_shaped h2), h1, h2, k _ _ H (Same.refl H) (by simp only [Rep]) h3⟩)⟩
theorem sNe : OpS K (rNeAll K) oNe := ⟨fun {O w H x y vx vy R Q} ol rx ry h k => by
  unfold oNe at h
  split at h
  · rw [rx.int, ry.int]
    exact .inl ⟨rfl, by rw [V.int_eq]; exact k _ _ H (Same.refl H) (by simp only [Rep]) h⟩
  · rw [rx.str, ry.str]
    exact .inl ⟨rfl, by rw [V.str_eq]; exact k _ _ H (Same.refl H) (by simp only [Rep]) h⟩
  · rw [rx.bool, ry.bool]
    exact .inl ⟨rfl, by rw [V.bl_eq]; exact k _ _ H (Same.refl H) (by simp only [Rep]) h⟩
  · obtain ⟨h1, h2, h3⟩ := h
    exact .inr ⟨_, _, rx.dp (SeqAt.canLay_of_shaped h1), ry.dp (SeqAt.canLay_of_shaped h2), h1, h2, k _ _ H (Same.refl H) (by simp only [Rep]) h3⟩⟩
/-- flat data -/
def flatD : PyData → Bool
  | .none => true
  | .bool _ => true
  | .int _ => true
  | .str _ => true
  | _ => false
theorem Rep.flat {d : PyData} {v : V} (h : Rep K O H d v) (f : flatD d = true) : flatV v = true ∧ ∀ {e : PyData} {u : V}, Rep K O H e u → flatD e = true → eqV u v = PyData.eqv e d := by
  cases d <;> simp only [flatD] at f <;> first | cases f | skip
  all_goals simp only [Rep] at h; subst h; refine ⟨rfl, fun {e u} g fe => ?_⟩
  all_goals (cases e <;> simp only [flatD] at fe <;> first | cases fe | skip)
  all_goals simp only [Rep] at g; subst g; simp [eqV, PyData.eqv]
theorem Reps.inV {x : PyData} {v : V} (h : Rep K O H x v) (f : flatD x = true) : ∀ {ds : List PyData} {vs : List V}, Reps K O H ds vs → ds.all flatD = true → vs.all flatV = true ∧ inV v vs = ds.any fun y => PyData.eqv y x
  | [], vs, r, _ => by simp only [Reps] at r; subst r; exact ⟨rfl, rfl⟩
  | d :: ds, vs, r, c => by
    simp only [Reps] at r
    obtain ⟨u, r', rfl, r1, r2⟩ := r
    simp only [List.all_cons, Bool.and_eq_true] at c
    obtain ⟨i1, i2⟩ := Reps.inV h f r2 c.2
    refine ⟨by simp only [List.all_cons, Bool.and_eq_true]; exact ⟨(Rep.flat r1 c.1).1, i1⟩, ?_⟩
    have e := (Rep.flat h f).2 r1 c.1
    unfold L2.inV at i2 ⊢
    simp only [List.any_cons, e, i2]
def rowD : PyData → Option (List PyData)
  | .tuple ds => some ds
  | .list ds => some ds
  | _ => none
def oIn (neg : Bool) : O2 := fun x y R => match rowD y with
  | some ds => flatD x = true ∧ ds.all flatD = true ∧ R (.bool (if neg then !(ds.any fun z => PyData.eqv z x) else ds.any fun z => PyData.eqv z x))
  | none => False
theorem RepB.flat {d : PyData} {v : V} (h : RepB K O w H d v) (f : flatD d = true) : Rep K O H d v := by
  rcases h with h | ⟨a, vs, ds, rfl, _⟩
  · exact h
  · cases f
theorem sIn {neg : Bool} : OpS K (rIn K neg) (oIn neg) := ⟨fun {O w H x y vx vy R Q} ol rx ry h k => by
  unfold oIn at h
  have main : ∀ (p : Addr) (ds : List PyData) (vs : List V), vy = .ref p → (SqL K H p vs ∨ SqT K H p vs) → Reps K O H ds vs → flatD x = true ∧ ds.all flatD = true ∧ R (.bool (if neg then !(ds.any fun z => PyData.eqv z x) else ds.any fun z => PyData.eqv z x)) → rIn K neg vx vy H Q := by
    rintro p ds vs e q r ⟨f1, f2, f3⟩
    have rx' := rx.flat f1
    obtain ⟨i1, i2⟩ := Reps.inV rx' f1 r f2
    exact ⟨p, vs, e, q, (Rep.flat rx' f1).1, i1, k _ _ H (Same.refl H) (by simp only [Rep, i2]) f3⟩
  cases y with
  | tuple ds =>
    obtain ⟨q, ws, e, q2, r2⟩ := ry.tup
    exact main q ds ws e (.inr q2) r2 h
  | list ds =>
    obtain ⟨q, ws, e, q2, r2⟩ := ry.lst
    exact main q ds ws e (.inl q2) r2 h
  | _ => exact h.elim⟩
/-! ### a[i], a[i:j] -/
def oIx : O2 := fun x y R => match x, y with
  | .tuple ds, .int i => match atI ds i with
    | some d => R d
    | none => False
  | .list ds, .int i => match atI ds i with
    | some d => R d
    | none => False
  | .str z, .int i => z.length ≤ sizeLine ∧ match atI z.cps.toList i with
    | some c => R (.str ⟨#[c]⟩)
    | none => False
  | _, _ => False
theorem Reps.atI {ds : List PyData} {vs : List V} (r : Reps K O H ds vs) {i : Int} {d : PyData} (h : L2.atI ds i = some d) : ∃ v, L2.atI vs i = some v ∧ Rep K O H d v := by
  unfold L2.atI at h ⊢
  rw [r.len]
  cases e : ixN ds.length i with
  | none => rw [e] at h; cases h
  | some j =>
    rw [e] at h
    exact Reps.at r h
theorem sIx : OpS K (rIx K) oIx := ⟨fun {O w H x y vx vy R Q} ol rx ry h k => by
  unfold oIx at h
  split at h
  · split at h
    · rename_i d e
      obtain ⟨p, vs, rfl, q1, r1⟩ := rx.tup
      obtain ⟨v, hv, rv⟩ := r1.atI e
      exact .inr (.inl ⟨p, vs, _, v, rfl, ry.int, q1, hv, k _ _ H (Same.refl H) rv h⟩)
    · exact h.elim
  · split at h
    · rename_i d e
      obtain ⟨p, vs, rfl, q1, r1⟩ := rx.lst
      obtain ⟨v, hv, rv⟩ := r1.atI e
      exact .inl ⟨p, vs, _, v, rfl, ry.int, q1, hv, k _ _ H (Same.refl H) rv h⟩
    · exact h.elim
  · obtain ⟨hz, h⟩ := h
    split at h
    · rename_i c e
      exact .inr (.inr ⟨_, _, c, rx.str, ry.int, hz, e, k _ _ H (Same.refl H) (by simp only [Rep]) h⟩)
    · exact h.elim
  · exact h.elim⟩
end
section
variable {X : Cx} {e a b c : Expr} {pos : Pos} {fa fb fc : FE}
theorem d_add (ha : PE X a (rb X.K fa)) (hb : PE X b (rb X.K fb)) : PE X (.BinOp a .Add b pos) (rd X.K (fOp oAdd fa fb)) := d_bin op_addAll sAdd ha hb
theorem n_add (ha : PE X a (rb X.K fa)) (hb : PE X b (rb X.K fb)) : PE X (.BinOp a .Add b pos) (rn X.K (fOp oCatL fa fb)) := n_bin op_catR nCatL ha hb
theorem d_sub (ha : PE X a (rb X.K fa)) (hb : PE X b (rb X.K fb)) : PE X (.BinOp a .Sub b pos) (rd X.K (fOp (oI fun i j => .int (i - j)) fa fb)) := d_bin op_sub sInt ha hb
def CMulA (i j : Int) : Prop := CMul i j ∨ CMulW i j
theorem op_mulA : OpR X (binaryOp .Mult) (rI CMulA fun i j => .int (i * j)) := by
  rintro pins s σ H x y v u Q I rx ry ⟨i, j, rfl, rfl, c | c, q⟩
  · exact op_mul pins s σ H _ _ v u Q I rx ry ⟨i, j, rfl, rfl, c, q⟩
  · exact op_mulW pins s σ H _ _ v u Q I rx ry ⟨i, j, rfl, rfl, c, q⟩
theorem d_mul (ha : PE X a (rb X.K fa)) (hb : PE X b (rb X.K fb)) : PE X (.BinOp a .Mult b pos) (rd X.K (fOp (oIC CMulA fun i j => .int (i * j)) fa fb)) := d_bin op_mulA sIntC ha hb
theorem d_fdiv (ha : PE X a (rb X.K fa)) (hb : PE X b (rb X.K fb)) : PE X (.BinOp a .FloorDiv b pos) (rd X.K (fOp (oIC CDivW fun i j => .int (i / j)) fa fb)) := d_bin op_fdivW sIntC ha hb
theorem d_mod (ha : PE X a (rb X.K fa)) (hb : PE X b (rb X.K fb)) : PE X (.BinOp a .Mod b pos) (rd X.K (fOp (oIC (fun _ j => 0 < j) fun i j => .int (i % j)) fa fb)) := d_bin op_mod sIntC ha hb
theorem d_pow (ha : PE X a (rb X.K fa)) (hb : PE X b (rb X.K fb)) : PE X (.BinOp a .Pow b pos) (rd X.K (fOp (oIC CPow fun i j => .int (i ^ j.toNat)) fa fb)) := d_bin op_pow sIntC ha hb
theorem d_neg (ha : PE X a (rb X.K fa)) : PE X (.UnaryOp .USub a pos) (rd X.K (fUn oNeg fa)) := d_un un_neg sNeg ha
theorem d_ix (ha : PE X a (rb X.K fa)) (hb : PE X b (rb X.K fb)) (hs : PlainIx b := by intro _ _; rfl) : PE X (.Subscript a b pos) (rd X.K (fOp oIx fa fb)) := PE.imp (pe_ix ix_seq ha hb hs) fun _ _ _ h => rd_op sIx h




end
end DL

namespace DL
open PySem L2 PyProof.Rows
/-! ### rows of expressions -/
abbrev FL := Rho → SW → (List PyData → SW → Prop) → Prop
def fNil : FL := fun _ S R => R [] S
def fCons (f : FE) (g : FL) : FL := fun ρ S R => f ρ S fun d S1 => g ρ S1 fun ds S2 => R (d :: ds) S2
def rda (K : Fr_) (n : Nat) (g : FL) : TA := fun σ H Q => ∃ Oc w ρ S R, EV K Oc w σ H ρ S ∧ g ρ S R ∧
  ∀ ds S' vs H', EV K Oc w σ H' ρ S' → Gr w H H' → Reps K (OO Oc σ ρ) H' ds vs → ds.length = n → R ds S' → Q vs H'
section
variable {X : Cx} {e a b c : Expr} {es : List Expr} {pos : Pos} {f fa fb fc : FE} {g : FL} {n : Nat}
theorem a_nil : PA X [] (rda X.K 0 fNil) := PA.imp pa_nil fun σ H Q ⟨Oc, w, ρ, S, R, ev, hf, k⟩ => k [] S [] H ev Gr.refl (by simp only [Reps]) rfl hf
theorem a_cons (he : PE X e (rd X.K f)) (hr : PA X es (rda X.K n g)) (hs : starEach (e :: es) X.env = (false, eval e X.env) :: starEach es X.env := by rfl) : PA X (e :: es) (rda X.K (n + 1) (fCons f g)) := PA.imp (pa_cons he hr hs) fun σ H Q ⟨Oc, w, ρ, S, R, ev, hf, k⟩ =>
  ⟨Oc, w, ρ, S, _, ev, hf, fun d S1 v H1 ev1 g1 r1 h1 => ⟨Oc, w, ρ, S1, _, ev1, h1, fun ds S2 vs H2 ev2 g2 r2 hl h2 =>
    k (d :: ds) S2 (v :: vs) H2 ev2 (g1.trans g2) (by simp only [Reps]; exact ⟨v, vs, rfl, Rep.step (ev1.stepO g2) ev1.Ool d v r1, r2⟩) (by rw [List.length_cons, hl]) h2⟩⟩
def fTup (g : FL) : FE := fun ρ S R => g ρ S fun ds S1 => R (.tuple ds) S1
def fLst (g : FL) : FE := fun ρ S R => g ρ S fun ds S1 => R (.list ds) S1
theorem d_tup {k : Nat} (h : PA X es (rda X.K n g)) (hn : decide (n ≤ 16777216) = true := by rfl) : PE X (.Tuple es k pos) (rd X.K (fTup g)) := PE.imp (pe_tup h) fun σ H Q ⟨Oc, w, ρ, S, R, ev, hf, k⟩ =>
  ⟨Oc, w, ρ, S, _, ev, hf, fun ds S1 vs H1 ev1 g1 r1 hl h1 => ⟨by rw [sizeLine_eq, r1.len, hl]; exact of_decide_eq_true hn, fun p hp =>
    k _ S1 _ _ (ev1.same (Same.new hp)) (g1.trans (Gr.of (Same.new hp))) (rep_tup ev1.Ool hp r1) h1⟩⟩
theorem n_lst (h : PA X es (rda X.K n g)) (hn : decide (n ≤ 16777216) = true := by rfl) : PE X (.List es pos) (rn X.K (fLst g)) := PE.imp (pe_lst h) fun σ H Q ⟨Oc, w, ρ, S, R, ev, hf, k⟩ =>
  ⟨Oc, w, ρ, S, _, ev, hf, fun ds S1 vs H1 ev1 g1 r1 hl h1 => ⟨by rw [sizeLine_eq, r1.len, hl]; exact of_decide_eq_true hn, fun p hp =>
    k ds S1 p vs _ (ev1.same (Same.new hp)) (g1.trans (Gr.of (Same.new hp))) (free_of ev1 g1 hp) upd_same (reps_new ev1.Ool hp r1) h1⟩⟩
theorem d_lst (h : PA X es (rda X.K n g)) (hn : decide (n ≤ 16777216) = true := by rfl) : PE X (.List es pos) (rd X.K (fLst g)) := d_of_n (n_lst h hn)
theorem d_dict0 : PE X (.Dict [] [] pos) (rd X.K (fC (.dict []))) := PE.imp pe_dnewK fun σ H Q ⟨Oc, w, ρ, S, R, ev, hf, k⟩ => fun p hp =>
  k _ S _ _ (ev.same (Same.new hp)) (Gr.of (Same.new hp)) (by simp only [Rep, Repd]; exact ⟨p, [], rfl, ⟨.inl upd_same, ev.Ool.away hp⟩, rfl⟩) hf
/-! ### built-ins by their values -/
/-- one argument, two -/
def t1 (r : List V → Hp → VK → Prop) : V → Hp → VK → Prop := fun x H Q => r [x] H Q
def t2 (r : List V → Hp → VK → Prop) : R2 := fun x y H Q => r [x, y] H Q
variable {r : List V → Hp → VK → Prop} {o1 : O1} {o2 : O2} {x : Str} {id T : String} {p : Pos}
theorem d_callB (hc : CallR X (.builtin id) r) (s : UnS X.K (t1 r) o1) (ha : PE X a (rb X.K fa)) (hm : X.mg x = none) (hv : bootBuiltins x = some (.builtin id)) (hg : Gl X x := by rfl) (hn : x ≠ "__name__" := by decide) (hdb : (x == ("__debug__" : Str)) = false := by decide)
    (he : starEach (a :: []) X.env = (false, eval a X.env) :: starEach [] X.env := by rfl) (hpl : (backTo pos (starEach [] X.env)).any (·.1) = false := by rfl) : PE X (.Call (.Name x p) [a] [] pos) (rd X.K (fUn o1 fa)) :=
  PE.imp (pe_callB hc hg hm hv (pa_cons ha pa_nil he) hn hdb he hpl) fun _ _ _ h => rd_un s h
theorem d_callT (hc : CallR X (.type T) r) (s : UnS X.K (t1 r) o1) (ha : PE X a (rb X.K fa)) (hm : X.mg x = none) (hv : bootBuiltins x = some (.type T)) (hg : Gl X x := by rfl) (hn : x ≠ "__name__" := by decide) (hdb : (x == ("__debug__" : Str)) = false := by decide)
    (he : starEach (a :: []) X.env = (false, eval a X.env) :: starEach [] X.env := by rfl) (hpl : (backTo pos (starEach [] X.env)).any (·.1) = false := by rfl) : PE X (.Call (.Name x p) [a] [] pos) (rd X.K (fUn o1 fa)) :=
  PE.imp (pe_callTy hc hg hm hv (pa_cons ha pa_nil he) hn hdb he hpl) fun _ _ _ h => rd_un s h
theorem n_callT (hc : CallR X (.type T) r) (s : UnN X.K (t1 r) o1) (ha : PE X a (rb X.K fa)) (hm : X.mg x = none) (hv : bootBuiltins x = some (.type T)) (hg : Gl X x := by rfl) (hn : x ≠ "__name__" := by decide) (hdb : (x == ("__debug__" : Str)) = false := by decide)
    (he : starEach (a :: []) X.env = (false, eval a X.env) :: starEach [] X.env := by rfl) (hpl : (backTo pos (starEach [] X.env)).any (·.1) = false := by rfl) : PE X (.Call (.Name x p) [a] [] pos) (rn X.K (fUn o1 fa)) :=
  PE.imp (pe_callTy hc hg hm hv (pa_cons ha pa_nil he) hn hdb he hpl) fun _ _ _ h => rn_un s h
theorem d_callB2 (hc : CallR X (.builtin id) r) (s : OpS X.K (t2 r) o2) (ha : PE X a (rb X.K fa)) (hb : PE X b (rb X.K fb)) (hm : X.mg x = none) (hv : bootBuiltins x = some (.builtin id)) (hg : Gl X x := by rfl) (hn : x ≠ "__name__" := by decide) (hdb : (x == ("__debug__" : Str)) = false := by decide)
    (he : starEach (a :: [b]) X.env = (false, eval a X.env) :: starEach [b] X.env := by rfl) (he2 : starEach (b :: []) X.env = (false, eval b X.env) :: starEach [] X.env := by rfl) (hpl : (backTo pos (starEach [b] X.env)).any (·.1) = false := by rfl) :
    PE X (.Call (.Name x p) [a, b] [] pos) (rd X.K (fOp o2 fa fb)) :=
  PE.imp (pe_callB hc hg hm hv (pa_cons ha (pa_cons hb pa_nil he2) he) hn hdb he hpl) fun _ _ _ h => rd_op s h
/-- a function of a module of the library, by from .. import -/
theorem d_callF2 (hc : CallR X (.builtin id) r) (s : OpS X.K (t2 r) o2) (ha : PE X a (rb X.K fa)) (hb : PE X b (rb X.K fb)) (hm : X.mg x = some (.builtin id)) (hg : Gl X x := by rfl) (hdb : (x == ("__debug__" : Str)) = false := by decide)
    (he : starEach (a :: [b]) X.env = (false, eval a X.env) :: starEach [b] X.env := by rfl) (he2 : starEach (b :: []) X.env = (false, eval b X.env) :: starEach [] X.env := by rfl) (hpl : (backTo pos (starEach [b] X.env)).any (·.1) = false := by rfl) :
    PE X (.Call (.Name x p) [a, b] [] pos) (rd X.K (fOp o2 fa fb)) :=
  PE.imp (pe_callBfun hc hg hm (pa_cons ha (pa_cons hb pa_nil he2) he) hdb he hpl) fun _ _ _ h => rd_op s h
end
section
variable {K : Fr_}
def oLen : O1 := fun x R => match x with
  | .tuple ds => R (.int ds.length)
  | .list ds => R (.int ds.length)
  | .str z => z.length ≤ sizeLine ∧ R (.int z.length)
  | _ => False
theorem sLen : UnS K (t1 (fun xs H Q => ∃ x n, xs = [x] ∧ LenV K x H n ∧ Q (.int n) H)) oLen := ⟨fun {O w H x vx R Q} ol rx h k => by
  unfold oLen at h
  split at h
  · obtain ⟨p, vs, rfl, q1, r1⟩ := rx.tup
    exact ⟨_, _, rfl, .inr ⟨vs, q1, rfl⟩, k _ _ H (Same.refl H) (by simp only [Rep, r1.len]) h⟩
  · obtain ⟨p, vs, rfl, q1, r1⟩ := rx.lst
    exact ⟨_, _, rfl, .inl ⟨vs, q1, rfl⟩, k _ _ H (Same.refl H) (by simp only [Rep, r1.len]) h⟩
  · obtain ⟨hz, h⟩ := h
    have e := rx.str
    subst e
    exact ⟨_, _, rfl, ⟨hz, rfl⟩, k _ _ H (Same.refl H) (by simp only [Rep]) h⟩
  · exact h.elim⟩
def oInt : O1 := fun x R => match x with
  | .int i => R (.int i)
  | .bool b => R (.int (if b then 1 else 0))
  | _ => False
theorem sIntOf : UnS K (t1 (fun xs H Q => (∃ i, xs = [.int i] ∧ Q (.int i) H) ∨ ∃ k, xs = [.bl k] ∧ Q (.int (if k then 1 else 0)) H)) oInt := ⟨fun {O w H x vx R Q} ol rx h k => by
  unfold oInt at h
  split at h
  · have e := rx.int
    subst e
    exact .inl ⟨_, rfl, k _ _ H (Same.refl H) (by simp only [Rep]) h⟩
  · have e := rx.bool
    subst e
    exact .inr ⟨_, rfl, k _ _ H (Same.refl H) (by simp only [Rep]) h⟩
  · exact h.elim⟩
def oAbs : O1 := fun x R => asI x fun i => R (.int (if i < 0 then -i else i))
theorem sAbs : UnS K (t1 (fun xs H Q => ∃ i, xs = [.int i] ∧ Q (.int (if i < 0 then -i else i)) H)) oAbs := ⟨fun {O w H x vx R Q} ol rx h k => by
  obtain ⟨i, rfl, q⟩ := asI_inv h
  have e := rx.int
  subst e
  exact ⟨i, rfl, k _ _ H (Same.refl H) (by simp only [Rep]) q⟩⟩
theorem sMax2 : OpS K (t2 (fun xs H Q => ∃ i j, xs = [.int i, .int j] ∧ Q (.int (if j > i then j else i)) H)) (oI fun i j => .int (if j > i then j else i)) := ⟨fun {O w H x y vx vy R Q} ol rx ry h k => by
  obtain ⟨i, j, rfl, rfl, q⟩ := oI_inv h
  have e := rx.int
  have e' := ry.int
  subst e e'
  exact ⟨i, j, rfl, k _ _ H (Same.refl H) (by simp only [Rep]) q⟩⟩
theorem sMin2 : OpS K (t2 (fun xs H Q => ∃ i j, xs = [.int i, .int j] ∧ Q (.int (if j < i then j else i)) H)) (oI fun i j => .int (if j < i then j else i)) := ⟨fun {O w H x y vx vy R Q} ol rx ry h k => by
  obtain ⟨i, j, rfl, rfl, q⟩ := oI_inv h
  have e := rx.int
  have e' := ry.int
  subst e e'
  exact ⟨i, j, rfl, k _ _ H (Same.refl H) (by simp only [Rep]) q⟩⟩
theorem sGcd : OpS K (t2 rGcd) (oI fun i j => .int ((Nat.gcd i.natAbs j.natAbs : Nat) : Int)) := ⟨fun {O w H x y vx vy R Q} ol rx ry h k => by
  obtain ⟨i, j, rfl, rfl, q⟩ := oI_inv h
  have e := rx.int
  have e' := ry.int
  subst e e'
  exact ⟨i, j, rfl, k _ _ H (Same.refl H) (by simp only [Rep]) q⟩⟩
def oDivmod : O2 := oIC CDiv fun i j => .tuple [.int (i / j), .int (i % j)]
theorem sDivmod : OpS K (t2 (fun xs H Q => ∃ i j, xs = [.int i, .int j] ∧ CDiv i j ∧ ∀ p, H p = none → Q (.ref p) (upd H p (.tup [.int (i / j), .int (i % j)])))) oDivmod := ⟨fun {O w H x y vx vy R Q} ol rx ry h k => by
  obtain ⟨i, j, rfl, rfl, c, q⟩ := oIC_inv h
  have e := rx.int
  have e' := ry.int
  subst e e'
  exact ⟨i, j, rfl, c, fun p hp => k _ _ _ (Same.new hp) (rep_tup ol hp (by simp only [Reps, Rep]; exact ⟨_, _, rfl, rfl, _, _, rfl, rfl, rfl⟩)) q⟩⟩
/-- a list of truths, of ints -/
def oAll : O1 := fun x R => ∃ bs : List Bool, x = .list (bs.map .bool) ∧ R (.bool (bs.all id))
def oAny : O1 := fun x R => ∃ bs : List Bool, x = .list (bs.map .bool) ∧ R (.bool (bs.any id))
theorem sAll : UnS K (t1 (rAll K)) oAll := ⟨fun {O w H x vx R Q} ol rx h k => by
  obtain ⟨bs, rfl, q⟩ := h
  obtain ⟨p, vs, rfl, q1, r1⟩ := rx.lst
  have e := r1.bools
  subst e
  exact ⟨p, bs, rfl, q1, k _ _ H (Same.refl H) (by simp only [Rep]) q⟩⟩
theorem sAny : UnS K (t1 (rAny K)) oAny := ⟨fun {O w H x vx R Q} ol rx h k => by
  obtain ⟨bs, rfl, q⟩ := h
  obtain ⟨p, vs, rfl, q1, r1⟩ := rx.lst
  have e := r1.bools
  subst e
  exact ⟨p, bs, rfl, q1, k _ _ H (Same.refl H) (by simp only [Rep]) q⟩⟩
def oSum : O1 := fun x R => ∃ ns : List Int, x = .list (ns.map .int) ∧ R (.int ns.sum)
theorem sSum : UnS K (t1 (rSum K)) oSum := ⟨fun {O w H x vx R Q} ol rx h k => by
  obtain ⟨bs, rfl, q⟩ := h
  obtain ⟨p, vs, rfl, q1, r1⟩ := rx.lst
  have e := r1.ints
  subst e
  exact ⟨p, bs, rfl, q1, k _ _ H (Same.refl H) (by simp only [Rep]) q⟩⟩
def oMax : O1 := fun x R => ∃ ns : List Int, x = .list (ns.map .int) ∧ 0 < ns.length ∧ ∀ m, m ∈ ns → (∀ y, y ∈ ns → y ≤ m) → R (.int m)
def oMin : O1 := fun x R => ∃ ns : List Int, x = .list (ns.map .int) ∧ 0 < ns.length ∧ ∀ m, m ∈ ns → (∀ y, y ∈ ns → m ≤ y) → R (.int m)
theorem sMax : UnS K (t1 (rMax K)) oMax := ⟨fun {O w H x vx R Q} ol rx h k => by
  obtain ⟨bs, rfl, hl, q⟩ := h
  obtain ⟨p, vs, rfl, q1, r1⟩ := rx.lst
  have e := r1.ints
  subst e
  exact ⟨p, bs, rfl, q1, hl, fun m h1 h2 => k _ _ H (Same.refl H) (by simp only [Rep]) (q m h1 h2)⟩⟩
theorem sMin : UnS K (t1 (rMin K)) oMin := ⟨fun {O w H x vx R Q} ol rx h k => by
  obtain ⟨bs, rfl, hl, q⟩ := h
  obtain ⟨p, vs, rfl, q1, r1⟩ := rx.lst
  have e := r1.ints
  subst e
  exact ⟨p, bs, rfl, q1, hl, fun m h1 h2 => k _ _ H (Same.refl H) (by simp only [Rep]) (q m h1 h2)⟩⟩
def oList : O1 := fun x R => match rowD x with
  | some ds => R (.list ds)
  | none => False
def oTuple : O1 := fun x R => match rowD x with
  | some ds => R (.tuple ds)
  | none => False
theorem nList : UnN K (t1 (fun xs H Q => ∃ p ys, xs = [.ref p] ∧ (SqL K H p ys ∨ SqT K H p ys) ∧ ∀ l, H l = none → Q (.ref l) (upd H l (.lst ys)))) oList := ⟨fun {O w H x vx R Q} ol rx h k => by
  unfold oList at h
  cases x with
  | tuple ds =>
    obtain ⟨p, vs, rfl, q1, r1⟩ := rx.tup
    exact ⟨p, vs, rfl, .inr q1, fun l hl => k ds l vs _ (Same.new hl) hl upd_same (reps_new ol hl r1) h⟩
  | list ds =>
    obtain ⟨p, vs, rfl, q1, r1⟩ := rx.lst
    exact ⟨p, vs, rfl, .inl q1, fun l hl => k ds l vs _ (Same.new hl) hl upd_same (reps_new ol hl r1) h⟩
  | _ => exact h.elim⟩
theorem sTuple : UnS K (t1 (fun xs H Q => ∃ p ys, xs = [.ref p] ∧ ((SqL K H p ys ∧ ∀ l, H l = none → Q (.ref l) (upd H l (.tup ys))) ∨ (SqT K H p ys ∧ Q (.ref p) H)))) oTuple := ⟨fun {O w H x vx R Q} ol rx h k => by
  unfold oTuple at h
  cases x with
  | tuple ds =>
    obtain ⟨p, vs, rfl, q1, r1⟩ := rx.tup
    exact ⟨p, vs, rfl, .inr ⟨q1, k (.tuple ds) _ H (Same.refl H) (by simp only [Rep]; exact ⟨p, vs, rfl, q1, r1⟩) h⟩⟩
  | list ds =>
    obtain ⟨p, vs, rfl, q1, r1⟩ := rx.lst
    exact ⟨p, vs, rfl, .inl ⟨q1, fun l hl => k (.tuple ds) _ _ (Same.new hl) (rep_tup ol hl r1) h⟩⟩
  | _ => exact h.elim⟩
/-! ### isinstance -/
def tyD : PyData → String
  | .none => "NoneType"
  | .bool _ => "bool"
  | .int _ => "int"
  | .str _ => "str"
  | .list _ => "list"
  | .tuple _ => "tuple"
  | .dict _ => "dict"
def isiAll (T : String) : Bool := ["NoneType", "bool", "int", "str", "list", "tuple", "dict"].all fun t => (kitB t T).isSome
def isiD (T : String) (x : PyData) : Bool := (kitB (tyD x) T).getD false
theorem isi_kit {T : String} (h : isiAll T = true) (x : PyData) : PySem.W.kitOne K (.type (tyD x)) (.type T) = some (isiD T x) := by
  refine kit_ty ?_
  unfold isiAll at h
  unfold isiD
  simp only [List.all_cons, List.all_nil, Bool.and_true, Bool.and_eq_true] at h
  obtain ⟨h1, h2, h3, h4, h5, h6, h7⟩ := h
  have g : ∀ {o : Option Bool}, o.isSome = true → o = some (o.getD false) := fun {o} h => by cases o <;> simp at h ⊢
  cases x <;> simp only [tyD] <;> exact g (by assumption)
theorem RepB.tyX {O : AS} {w : List Addr} {H : Hp} {d : PyData} {v : V} (h : RepB K O w H d v) : TyX K H v (.type (tyD d)) := by
  cases d with
  | none => rw [h.non]; exact .base .non
  | bool b => rw [h.bool]; exact .base (.bl b)
  | int b => rw [h.int]; exact .base (.int b)
  | str b => rw [h.str]; exact .base (.str b)
  | list ds =>
    obtain ⟨a, vs, rfl, q, _⟩ := h.lst
    rcases q with (q | ⟨o, q⟩) | ⟨o, its, n, q1, q2, _⟩
    · exact .base (.lst q)
    · exact .base (.frz q)
    · exact .kList q1 q2
  | tuple ds =>
    obtain ⟨a, vs, rfl, q, _⟩ := h.tup
    rcases q with (q | ⟨o, q⟩) | ⟨o, its, n, q1, q2, _⟩
    · exact .base (.tup q)
    · exact .fTuple q
    · exact .kTuple q1 q2
  | dict kvs =>
    rcases h with h | ⟨a, vs, ds, e, _⟩
    · simp only [Rep] at h
      obtain ⟨a, ps, rfl, ⟨q, n⟩, r⟩ := h
      rcases q with q | ⟨o, q⟩
      · exact .base (.dK q)
      · exact .fDict q
    · cases e
end
section
variable {X : Cx} {e a b c : Expr} {es : List Expr} {pos p p2 : Pos} {f fa fb fc : FE} {T : Str}
theorem d_isi {n : String} (hT : isiAll n = true) (ha : PE X a (rb X.K fa)) (hm : X.mg "isinstance" = none) (hmT : X.mg T = none) (hvT : bootBuiltins T = some (.type n)) (hg : Gl X "isinstance" := by rfl) (hgT : Gl X T := by rfl) (hn : T ≠ "__name__" := by decide) (hdb : (T == ("__debug__" : Str)) = false := by decide)
    (he : starEach (a :: [.Name T p2]) X.env = (false, eval a X.env) :: starEach [.Name T p2] X.env := by rfl) (he2 : starEach (.Name T p2 :: []) X.env = (false, eval (.Name T p2) X.env) :: starEach [] X.env := by rfl) (hpl : (backTo pos (starEach [.Name T p2] X.env)).any (·.1) = false := by rfl) :
    PE X (.Call (.Name "isinstance" p) [a, .Name T p2] [] pos) (rd X.K (fUn (fun x R => R (.bool (isiD n x))) fa)) :=
  PE.imp (pe_callB call_isi hg hm boot_isinstance (pa_cons ha (pa_cons (pe_bltn (v := .ty n) hgT hmT hvT rfl hn hdb) pa_nil he2) he) (by decide) (by decide) he hpl) fun σ H Q ⟨Oc, w, ρ, S, R, ev, hf, k⟩ =>
    ⟨Oc, w, ρ, S, _, ev, hf, fun x S1 vx H1 ev1 g1 rx h1 => ⟨vx, .ty n, _, _, _, rfl, .ty n, rx.tyX, isi_kit hT x, k _ S1 _ H1 ev1 g1 (by simp only [Rep]) h1⟩⟩
end
end DL

namespace DL
open PySem PySem.Spec PyProof.Rows L2
/-! ### what a def promises to callers that stand under no repr -/
structure Pro (P : Program) (W : World) (K : Fr_) (mg : Str → Option Value) (base : Heap) (k : Nat) (f : Addr) (fd : FuncData) (ps : List Str) (sp : Sp) : Prop where
  arity : ∀ vs H Q E, sp vs H Q E → vs.length = ps.length
  act : ∀ {A : Around} {outer : List Env} {s : Shared} {H : Hp} {args : Args} {us : List Value} {vs : List V} {Q : VK} {E : XK}, A.guards = some [] → Room k A → Env0 P W K mg base A outer s H → BindsTo s fd args (ps.zip us) → Vals vs us → sp vs H Q E →
    codeAny (model P W) A (.call (.ref f) args) (CR CX0 outer P W H s Q E) s
section
variable {P : Program} {W : World} {K : Fr_} {mg : Str → Option Value} {base : Heap} {j k : Nat} {f : Addr} {fd : FuncData} {ps : List Str} {sp sp' : Sp}
/-- one's own context at a def's entry -/
theorem quiet_in {qual : Str} {scope : Scope} {cd : Value} {A : Around} {outer : List Env} {s : Shared} {H : Hp} {E : XK} {N : List Str} {CX : CXT} (h : A.guards = some []) : (cxOf CX P W K mg base N qual scope f cd A outer s H E).nox.A.guards = some [] := h
theorem Pro.mono (F : Pro P W K mg base j f fd ps sp) (h : j ≤ k) : Pro P W K mg base k f fd ps sp := ⟨F.arity, fun g r => F.act g (r.mono h)⟩
theorem Pro.imp (F : Pro P W K mg base k f fd ps sp) (h : ∀ vs H Q E, sp' vs H Q E → sp vs H Q E) : Pro P W K mg base k f fd ps sp' :=
  ⟨fun vs H Q E q => F.arity vs H Q E (h _ _ _ _ q), fun g r e b v q => F.act g r e b v (h _ _ _ _ q)⟩
theorem Pro.no (h : ∀ vs H Q E, ¬ sp vs H Q E) : Pro P W K mg base k f fd ps sp := ⟨fun vs H Q E q => absurd q (h vs H Q E), fun _ _ _ _ _ q => absurd q (h _ _ _ _)⟩
/-- by its body -/
theorem Pro.of {x qual : Str} {st : Stmt} {N : List Str} (F : Fun K x qual st f fd) (S : FnScope N ps (defScope st)) (ar : ∀ vs H Q E, sp vs H Q E → vs.length = ps.length)
    (bd : ∀ (cdv : Value) (A : Around) (outer : List Env) (s : Shared) (H : Hp) (vs : List V) (Q : VK) (E : XK), A.guards = some [] → Room k (A.deeper (envOfC qual (defScope st) s.heap.objs.size f cdv)) → sp vs H Q E →
      ∃ t, PSs (cxOf CX0 P W K mg base N qual (defScope st) f cdv A outer s H E).nox (defBody st) t ∧ t { nx := fun _ H' => Q .non H', rt := Q } (L2.start N vs) H) : Pro P W K mg base (k + 1) f fd ps sp := by
  obtain ⟨oc, od, kV, doc, pm, an, cdv, ct, osl, efd, at_f, code⟩ := F.ex
  subst efd
  refine ⟨ar, @fun A outer s H args us vs Q E quiet room env bind vals asked => ?_⟩
  have count := ar _ _ _ _ asked
  have old : ∀ b o, base.get? b = some o → s.heap.get? b = some o := fun b o e => (env.bs b o e).1
  have inK := env.mod.kin.keeps old
  have kinds : ∀ y ∈ ps.zip us, (defScope st).names.lookup y.1 = some .local ∨ ((defScope st).names.lookup y.1 = some .cell ∧ ((cellsFrom (s.heap.objs.size + 1) (defScope st).names []).lookup y.1).isSome = true) := by
    intro y hy
    obtain ⟨n, v⟩ := y
    exact (S.par n (List.of_mem_zip hy).1).imp id fun z => ⟨z, PySem.W.cellsFrom_some _ _ _ (.inl z)⟩
  apply codeAny_call_function room.depth (inK _ _ at_f) rfl S.co S.gen rfl (PySem.W.codeRec_of inK code)
  apply bind
  apply wpAny_newFunctionEnv_cells S.kind kinds
  rintro env' rfl s1 made
  refine ⟨env.mod.nolimit.keeps fun b o e => made.toInCall.keep b o (old b o e), codeAny_func ?_⟩
  obtain ⟨t, ht, hq⟩ := bd cdv A outer s H vs Q E quiet (room.deeper _) asked
  have start : Inv (cxOf CX0 P W K mg base N qual (defScope st) f cdv A outer s H E) [] (L2.start N vs) H s1 := inv_start S room.hd env count vals made
  refine wpAny_mono (ht.nox.run [] s1 (L2.start N vs) H _ start hq) (fun fl s' out => ?_) fun _ _ z => z
  match fl, out with
  | .ret u, ⟨v, σ', H', J, rv, q⟩ => exact ⟨v, H', J.os, J.bare, J.base, J.hok, rv, q⟩
  | .next, ⟨σ', H', J, q⟩ => exact ⟨.non, H', J.os, J.bare, J.base, J.hok, rfl, q⟩
  | .brk, ⟨_, _, _, q⟩ => exact q.elim
  | .cont, ⟨_, _, _, q⟩ => exact q.elim
end
/-- room for k calls, and no repr under way -/
structure RoomG (k : Nat) (A : Around) : Prop where
  room : Room k A
  quiet : A.guards = some []
theorem RoomG.mono {j k : Nat} {A : Around} (r : RoomG k A) (h : j ≤ k) : RoomG j A := ⟨r.room.mono h, r.quiet⟩
section
variable {X : Cx} {k : Nat} {f : Addr} {fd : FuncData} {ps : List Str} {sp : Sp} {x : Str} {p pos : Pos} {e : Expr} {es : List Expr} {t : TA}
theorem Pro.go {pins : List (Addr × Obj)} {σ : L2.St} {H : Hp} {s : Shared} {Q : VK} {args : List Value} {kw : List (Str × Value)} {us : List Value} {vs : List V} (F : Pro X.prog X.w X.K X.mg X.base k f fd ps sp) (r : RoomG k X.A) (I : Inv X pins σ H s)
    (b : BindsTo s fd ⟨args, kw⟩ (ps.zip us)) (v : Vals vs us) (h : sp vs H Q fun _ _ _ => False) : wpAny (model X.prog X.w) X.A (call (.ref f) args kw) (EP X pins σ Q) X.xe s := by
  refine wpAny_call (codeAny_mono (F.act r.quiet r.room I.env0 b v h) fun r s' q => ?_)
  match r, q with
  | .ok (.ret u), q => exact I.after q
  | .ok .next, q => exact q.elim
  | .ok .brk, q => exact q.elim
  | .ok .cont, q => exact q.elim
  | .error e, q => exact q.elim
/-- f(e, ..) -/
theorem pe_pro (F : Pro X.prog X.w X.K X.mg X.base k f fd ps sp) (r : RoomG k X.A) (hg : Gl X x) (hm : X.mg x = some (.ref f)) (hk : PySem.W.keepIn X.K (.ref f) = true) (hb : Binds X.K fd ps []) (ha : PA X (e :: es) t) (hdb : (x == ("__debug__" : Str)) = false)
    (he : starEach (e :: es) X.env = (false, eval e X.env) :: starEach es X.env) (hpl : (backTo pos (starEach es X.env)).any (·.1) = false) : PE X (.Call (.Name x p) (e :: es) [] pos) (tCall sp [] (fun _ _ _ => False) t) := by
  refine ⟨fun pins s σ H Q I h => wpAny_Call_Name_kw (ld_glob I hg hm ?_ hdb)⟩
  apply PySem.W.callWith_K (h₀ := X.base) I.ok.mod.kin hk _ he hpl
  refine thn (ha.run pos pins s σ H _ I h) ?_
  rintro us s1 ⟨vs, H1, I1, rv, q⟩
  have q' : sp vs H1 Q fun _ _ _ => False := by simpa using q
  refine ⟨I1.kIn, F.go r I1 ?_ rv q'⟩
  have := hb s1 us I1.kIn (by rw [List.append_nil, ← rv.length]; exact F.arity _ _ _ _ q')
  simpa using this
end
end DL

namespace DL
open PySem L2 PyProof.Rows
/-! ### slices -/
abbrev FO := Rho → SW → (Option Int → SW → Prop) → Prop
def fNoP : FO := fun _ S R => R none S
def fP (f : FE) : FO := fun ρ S R => f ρ S fun d S1 => asI d fun i => R (some i) S1
def ro (K : Fr_) (g : FO) : TO := fun σ H Q => ∃ Oc w ρ S R, EV K Oc w σ H ρ S ∧ g ρ S R ∧ ∀ o S' H', EV K Oc w σ H' ρ S' → Gr w H H' → R o S' → Q o H'
theorem PO.imp {X : Cx} {e : Option Expr} {t t' : TO} (h : PO X e t) (i : ∀ σ H Q, t' σ H Q → t σ H Q) : PO X e t' := ⟨fun pins s σ H Q I q => h.run pins s σ H Q I (i σ H Q q)⟩
/-- the part of a row from lo to hi -/
def cutD (ds : List PyData) (lo hi : Option Int) : List PyData := (ds.drop (HT.sIx ds.length 0 lo)).take (HT.sIx ds.length ds.length hi - HT.sIx ds.length 0 lo)
def cutZ (z : Str) (lo hi : Option Int) : Str := cutS z lo hi
def oSl : PyData → Option Int → Option Int → (PyData → Prop) → Prop := fun x lo hi R => match x with
  | .tuple ds => R (.tuple (cutD ds lo hi))
  | .list ds => R (.list (cutD ds lo hi))
  | .str z => z.length ≤ sizeLine ∧ R (.str (cutS z lo hi))
  | _ => False
def fSl (f : FE) (gl gh : FO) : FE := fun ρ S R => f ρ S fun x S1 => gl ρ S1 fun lo S2 => gh ρ S2 fun hi S3 => oSl x lo hi fun d => R d S3
def oSlL : PyData → Option Int → Option Int → (PyData → Prop) → Prop := fun x lo hi R => match x with
  | .list ds => R (.list (cutD ds lo hi))
  | _ => False
def fSlL (f : FE) (gl gh : FO) : FE := fun ρ S R => f ρ S fun x S1 => gl ρ S1 fun lo S2 => gh ρ S2 fun hi S3 => oSlL x lo hi fun d => R d S3
section
variable {K : Fr_} {O : AS} {w : List Addr} {H : Hp}
theorem Reps.cut {ds : List PyData} {vs : List V} (r : Reps K O H ds vs) (lo hi : Option Int) : Reps K O H (cutD ds lo hi) (cutV vs lo hi) := by
  unfold cutD cutV
  rw [r.len]
  exact Reps.take _ (Reps.drop _ r)
theorem sl_all {X : Cx} : SlR X (fun x lo hi H Q => rSlA X.K x lo hi H Q ∨ (rSlL X.K x lo hi H Q ∨ rSlS x lo hi H Q)) := sl_tupA.or (sl_list.or sl_str)
theorem sSl {lo hi : Option Int} {x : PyData} {vx : V} {R : PyData → Prop} {Q : VK} (ol : OL O H) (rx : RepB K O w H x vx) (h : oSl x lo hi R) (k : ∀ d v H', Same H H' → Rep K O H' d v → R d → Q v H') :
    rSlA K vx lo hi H Q ∨ (rSlL K vx lo hi H Q ∨ rSlS vx lo hi H Q) := by
  unfold oSl at h
  split at h
  · rename_i ds
    obtain ⟨p, vs, rfl, q1, r1⟩ := rx.tup
    refine .inl ⟨p, vs, rfl, q1, fun e => ?_, fun _ t ht => k _ _ _ (Same.new ht) (rep_tup ol ht (r1.cut lo hi)) h⟩
    have ec : cutD ds lo hi = ds := by
      unfold cutD
      rw [← r1.len, e.1, e.2]
      simp [r1.len]
    rw [ec] at h
    exact k (.tuple ds) _ H (Same.refl H) (by simp only [Rep]; exact ⟨p, vs, rfl, q1, r1⟩) h
  · rename_i ds
    obtain ⟨p, vs, rfl, q1, r1⟩ := rx.lst
    exact .inr (.inl ⟨p, vs, rfl, q1, fun t ht => k _ _ _ (Same.new ht) (rep_lst ol ht (r1.cut lo hi)) h⟩)
  · obtain ⟨hz, h⟩ := h
    exact .inr (.inr ⟨_, rx.str, hz, k _ _ H (Same.refl H) (by simp only [Rep]) h⟩)
  · exact h.elim
theorem nSl {lo hi : Option Int} {x : PyData} {vx : V} {R : PyData → Prop} {Q : VK} (ol : OL O H) (rx : RepB K O w H x vx) (h : oSlL x lo hi R)
    (k : ∀ ds p vs H', Same H H' → H p = none → H' p = some (.lst vs) → Reps K (With O p) H' ds vs → R (.list ds) → Q (.ref p) H') : rSlL K vx lo hi H Q := by
  unfold oSlL at h
  split at h
  · rename_i ds
    obtain ⟨p, vs, rfl, q1, r1⟩ := rx.lst
    exact ⟨p, vs, rfl, q1, fun t ht => k _ _ _ _ (Same.new ht) ht upd_same (reps_new ol ht (r1.cut lo hi)) h⟩
  · exact h.elim
end
section
variable {X : Cx} {e a b c : Expr} {es : List Expr} {pos p p2 : Pos} {f fa fb fc : FE} {gl gh : FO} {lo hi : Option Expr} {n : Nat} {x : Str}
theorem o_none : PO X none (ro X.K fNoP) := PO.imp po_none fun σ H Q ⟨Oc, w, ρ, S, R, ev, hf, k⟩ => k none S H ev Gr.refl hf
theorem o_some (h : PE X e (rb X.K f)) : PO X (some e) (ro X.K (fP f)) := PO.imp (po_some h) fun σ H Q ⟨Oc, w, ρ, S, R, ev, hf, k⟩ =>
  ⟨Oc, w, ρ, S, _, ev, hf, fun d S1 v H1 ev1 g1 r h1 => by
    obtain ⟨i, rfl, q⟩ := asI_inv h1
    exact ⟨i, r.int, k _ S1 H1 ev1 g1 q⟩⟩
theorem d_slice (he : PE X e (rb X.K f)) (hl : PO X lo (ro X.K gl)) (hu : PO X hi (ro X.K gh)) : PE X (.Subscript e (.Slice lo hi none p2) pos) (rd X.K (fSl f gl gh)) := PE.imp (pe_slice sl_all he hl hu) fun σ H Q ⟨Oc, w, ρ, S, R, ev, hf, k⟩ =>
  ⟨Oc, w, ρ, S, _, ev, hf, fun d S1 v H1 ev1 g1 r1 h1 => ⟨Oc, w, ρ, S1, _, ev1, h1, fun l S2 H2 ev2 g2 h2 => ⟨Oc, w, ρ, S2, _, ev2, h2, fun u S3 H3 ev3 g3 h3 =>
    sSl ev3.Ool (RepB.go (ev1.stepO (g2.trans g3)) ev1.Ool (g2.trans g3) r1) h3 fun d v H4 sm rv q => k d S3 v H4 (ev3.same sm) (((g1.trans g2).trans g3).trans (Gr.of sm)) rv q⟩⟩⟩
theorem n_slice (he : PE X e (rb X.K f)) (hl : PO X lo (ro X.K gl)) (hu : PO X hi (ro X.K gh)) : PE X (.Subscript e (.Slice lo hi none p2) pos) (rn X.K (fSlL f gl gh)) := PE.imp (pe_slice sl_list he hl hu) fun σ H Q ⟨Oc, w, ρ, S, R, ev, hf, k⟩ =>
  ⟨Oc, w, ρ, S, _, ev, hf, fun d S1 v H1 ev1 g1 r1 h1 => ⟨Oc, w, ρ, S1, _, ev1, h1, fun l S2 H2 ev2 g2 h2 => ⟨Oc, w, ρ, S2, _, ev2, h2, fun u S3 H3 ev3 g3 h3 =>
    nSl ev3.Ool (RepB.go (ev1.stepO (g2.trans g3)) ev1.Ool (g2.trans g3) r1) h3 fun ds p vs H4 sm n hp rv q => k ds S3 p vs H4 (ev3.same sm) (((g1.trans g2).trans g3).trans (Gr.of sm)) (free_of ev3 ((g1.trans g2).trans g3) n) hp rv q⟩⟩⟩
end
/-! ### promises in data, calls -/
def ArgRep (K : Fr_) (O : AS) (w : List Addr) (H : Hp) : Sl → V → Prop
  | .dat d, v => Rep K O H d v
  | .cel n, v => ∃ a, w[n]? = some a ∧ v = .ref a
  | _, _ => False
def Args (K : Fr_) (O : AS) (w : List Addr) (H : Hp) : List Sl → List V → Prop
  | [], vs => vs = []
  | d :: ds, vs => ∃ v r, vs = v :: r ∧ ArgRep K O w H d v ∧ Args K O w H ds r
abbrev Ct := List Sl → SW → (PyData → SW → Prop) → Prop
def spC (K : Fr_) (n : Nat) (C : Ct) : Sp := fun vs H Q _ => ∃ Oc w S as R, as.length = n ∧ Args K Oc w H as vs ∧ OL Oc H ∧ (∀ a, a ∈ w → Oc a) ∧ w.Nodup ∧ Wel K w H S ∧ C as S R ∧
  ∀ d S' v H', Gr w H H' → Wel K w H' S' → Rep K Oc H' d v → R d S' → Q v H'
structure Cal (P : Program) (W : World) (K : Fr_) (mg : Str → Option Value) (base : Heap) (x : Str) (k n : Nat) (C : Ct) : Prop where
  ex : ∃ f fd ps, Pro P W K mg base k f fd ps (spC K n C) ∧ PySem.W.keepIn K (.ref f) = true ∧ Binds K fd ps [] ∧ mg x = some (.ref f)
/-- .. called by the names of all parameters: pm puts the written ones in the parameters' order -/
structure CalK (P : Program) (W : World) (K : Fr_) (mg : Str → Option Value) (base : Heap) (x : Str) (k n : Nat) (C : Ct) (ks : List Str) (pm : {α : Type} → List α → List α) : Prop where
  ex : ∃ f fd ps, Pro P W K mg base k f fd ps (spC K n C) ∧ PySem.W.keepIn K (.ref f) = true ∧ (∀ (s : Shared) (ws : List Value), ws.length = ks.length → BindsTo s fd ⟨[], ks.zip ws⟩ (ps.zip (pm ws))) ∧ mg x = some (.ref f)
  vals : ∀ {vs : List V} {us : List Value}, vs.length = ks.length → Vals vs us → Vals (pm vs) (pm us)
  args : ∀ {O w H} {as : List Sl} {vs : List V}, as.length = ks.length → Args K O w H as vs → Args K O w H (pm as) (pm vs)
  len : ∀ {as : List Sl}, as.length = ks.length → (pm as).length = n
abbrev FR := Rho → SW → (List Sl → SW → Prop) → Prop
def gaNil : FR := fun _ S R => R [] S
def gDat (f : FE) (g : FR) : FR := fun ρ S R => f ρ S fun d S1 => g ρ S1 fun as S2 => R (.dat d :: as) S2
def gWel (i : Nat) (g : FR) : FR := fun ρ S R => match ρ[i]? with
  | some (.cel n) => g ρ S fun as S2 => R (.cel n :: as) S2
  | some (.dat d) => g ρ S fun as S2 => R (.dat d :: as) S2
  | _ => False
def rca (K : Fr_) (n : Nat) (g : FR) : TA := fun σ H Q => ∃ Oc w ρ S R, EV K Oc w σ H ρ S ∧ g ρ S R ∧
  ∀ as S' vs H', EV K Oc w σ H' ρ S' → Gr w H H' → Args K (OO Oc σ ρ) w H' as vs → as.length = n → R as S' → Q vs H'
theorem ArgRep.step {K : Fr_} {O : AS} {w : List Addr} {H H' : Hp} (s : Step O H H') (ol : OL O H) : ∀ {d : Sl} {v : V}, ArgRep K O w H d v → ArgRep K O w H' d v
  | .dat d, v, h => Rep.step s ol d v h
  | .cel _, v, h => h
  | .un, _, h => h.elim
  | .own _, _, h => h.elim
  | .dct _, _, h => h.elim
theorem Args.len {K : Fr_} {O : AS} {w : List Addr} {H : Hp} : ∀ {as : List Sl} {vs : List V}, Args K O w H as vs → vs.length = as.length
  | [], _, h => by simp only [Args] at h; subst h; rfl
  | a :: as, _, h => by
    simp only [Args] at h
    obtain ⟨v, r, rfl, _, h⟩ := h
    rw [List.length_cons, List.length_cons, Args.len h]
section
variable {X : Cx} {e a b c : Expr} {es : List Expr} {pos p p2 : Pos} {f fa fb fc : FE} {g : FR} {n : Nat} {x : Str}
theorem c_nil : PA X [] (rca X.K 0 gaNil) := PA.imp pa_nil fun σ H Q ⟨Oc, w, ρ, S, R, ev, hf, k⟩ => k [] S [] H ev Gr.refl (by simp only [Args]) rfl hf
theorem c_dat (he : PE X e (rd X.K f)) (hr : PA X es (rca X.K n g)) (hs : starEach (e :: es) X.env = (false, eval e X.env) :: starEach es X.env := by rfl) : PA X (e :: es) (rca X.K (n + 1) (gDat f g)) := PA.imp (pa_cons he hr hs) fun σ H Q ⟨Oc, w, ρ, S, R, ev, hf, k⟩ =>
  ⟨Oc, w, ρ, S, _, ev, hf, fun d S1 v H1 ev1 g1 r1 h1 => ⟨Oc, w, ρ, S1, _, ev1, h1, fun as S2 vs H2 ev2 g2 r2 hl h2 =>
    k (.dat d :: as) S2 (v :: vs) H2 ev2 (g1.trans g2) (by simp only [Args, ArgRep]; exact ⟨v, vs, rfl, Rep.step (ev1.stepO g2) ev1.Ool d v r1, r2⟩) (by rw [List.length_cons, hl]) h2⟩⟩
theorem c_wel (i : Nat) (hr : PA X es (rca X.K n g)) (hN : X.N[i]? = some x := by rfl) (hv : Vis X.env.scope x := by first | exact Or.inl rfl | exact Or.inr (Or.inl rfl) | exact Or.inr (Or.inr rfl)) (hd : (x == ("__debug__" : Str)) = false := by decide)
    (hcd : (x == ("__classdict__" : Str)) = false := by decide) (hs : starEach (.Name x p :: es) X.env = (false, eval (.Name x p) X.env) :: starEach es X.env := by rfl) : PA X (.Name x p :: es) (rca X.K (n + 1) (gWel i g)) := PA.imp (pa_cons (pe_var (i := i) hN hv hd hcd) hr hs) fun σ H Q ⟨Oc, w, ρ, S, R, ev, hf, k⟩ => by
  unfold gWel at hf
  split at hf
  · rename_i hi
    obtain ⟨a, hw, hs⟩ := ev.cel i _ hi
    exact ⟨_, hs, Oc, w, ρ, S, _, ev, hf, fun as S2 vs H2 ev2 g2 r2 hl h2 => k (.cel _ :: as) S2 (_ :: vs) H2 ev2 g2 (by simp only [Args, ArgRep]; exact ⟨_, vs, rfl, ⟨a, hw, rfl⟩, r2⟩) (by rw [List.length_cons, hl]) h2⟩
  · rename_i d hi
    obtain ⟨v, hs, r⟩ := ev.dat i d hi
    exact ⟨_, hs, Oc, w, ρ, S, _, ev, hf, fun as S2 vs H2 ev2 g2 r2 hl h2 => k (.dat d :: as) S2 (_ :: vs) H2 ev2 g2 (by simp only [Args, ArgRep]; exact ⟨_, vs, rfl, Rep.step (ev.stepO g2) ev.Ool d v r, r2⟩) (by rw [List.length_cons, hl]) h2⟩
  · exact hf.elim
def fCall (C : Ct) (g : FR) : FE := fun ρ S R => g ρ S fun as S1 => C as S1 R
theorem d_call {k : Nat} {C : Ct} (c : Cal X.prog X.w X.K X.mg X.base x k n C) (hr : RoomG k X.A) (ha : PA X (e :: es) (rca X.K n g)) (hg : Gl X x := by rfl) (hdb : (x == ("__debug__" : Str)) = false := by decide)
    (he : starEach (e :: es) X.env = (false, eval e X.env) :: starEach es X.env := by rfl) (hpl : (backTo pos (starEach es X.env)).any (·.1) = false := by rfl) : PE X (.Call (.Name x p) (e :: es) [] pos) (rd X.K (fCall C g)) := by
  obtain ⟨f, fd, ps, F, hk, hb, hm⟩ := c.ex
  exact PE.imp (pe_pro F hr hg hm hk hb ha hdb he hpl) fun σ H Q ⟨Oc, w, ρ, S, R, ev, hf, k⟩ =>
    ⟨Oc, w, ρ, S, _, ev, hf, fun as S1 vs H1 ev1 g1 r1 hl h1 => ⟨OO Oc σ ρ, w, S1, as, _, hl, by rw [List.append_nil]; exact r1, ev1.Ool, fun a z => .inl (ev1.wo a z), ev1.wn, ev1.ws, h1,
      fun d S' v H' g w' r q => k d S' v H' (ev1.go g w') (g1.trans g) r q⟩⟩
end
/-! ### a call that gets some of the callers' objects -/
def pickS (sel : List Nat) (S : SW) : SW := sel.filterMap fun n => S[n]?
def putS : List Nat → SW → SW → SW
  | n :: sel, S, c :: S2 => putS sel (S.set n c) S2
  | _, S, _ => S
def relS (sel : List Nat) : Sl → Sl
  | .cel n => .cel (sel.idxOf n)
  | x => x
/-- the objects that the callee gets are told by sel -/
def selOk (sel : List Nat) (S : SW) (as : List Sl) : Prop := sel.Nodup ∧ (∀ n ∈ sel, n < S.length) ∧ ∀ n, Sl.cel n ∈ as → n ∈ sel
theorem fm_at {α : Type} {w : List α} : ∀ {sel : List Nat}, (∀ n ∈ sel, n < w.length) → ∀ k : Nat, (sel.filterMap fun n => w[n]?)[k]? = (sel[k]?).bind fun n => w[n]?
  | [], _, k => by simp
  | n :: sel, h, k => by
    have hn : w[n]? = some (w[n]'(h n (by simp))) := List.getElem?_eq_getElem (h n (by simp))
    rw [List.filterMap_cons_some hn]
    cases k with
    | zero => simp [hn]
    | succ k =>
      simp only [List.getElem?_cons_succ]
      exact fm_at (fun m hm => h m (by simp [hm])) k
theorem fm_len {α : Type} {w : List α} : ∀ {sel : List Nat}, (∀ n ∈ sel, n < w.length) → (sel.filterMap fun n => w[n]?).length = sel.length
  | [], _ => rfl
  | n :: sel, h => by
    have hn : w[n]? = some (w[n]'(h n (by simp))) := List.getElem?_eq_getElem (h n (by simp))
    rw [List.filterMap_cons_some hn, List.length_cons, List.length_cons, fm_len fun m hm => h m (by simp [hm])]
theorem idx_at : ∀ {sel : List Nat} {n : Nat}, n ∈ sel → sel[sel.idxOf n]? = some n
  | m :: sel, n, h => by
    rw [List.idxOf_cons]
    by_cases e : m = n
    · subst e
      simp
    · have e' : (m == n) = false := by simpa using e
      rw [e', cond_false]
      simp only [List.getElem?_cons_succ]
      exact idx_at ((List.mem_cons.mp h).elim (fun z => absurd z.symm e) id)
theorem nd_inj {α : Type} {w : List α} (h : w.Nodup) {i j : Nat} {a : α} (hi : w[i]? = some a) (hj : w[j]? = some a) : i = j := by
  obtain ⟨l1, e1⟩ := List.getElem?_eq_some_iff.mp hi
  obtain ⟨l2, e2⟩ := List.getElem?_eq_some_iff.mp hj
  rcases Nat.lt_trichotomy i j with z | z | z
  · exact absurd (e1.trans e2.symm) (List.pairwise_iff_getElem.mp h i j l1 l2 z)
  · exact z
  · exact absurd (e2.trans e1.symm) (List.pairwise_iff_getElem.mp h j i l2 l1 z)
theorem fm_nd {w : List Addr} (hw : w.Nodup) : ∀ {sel : List Nat}, sel.Nodup → (∀ n ∈ sel, n < w.length) → (sel.filterMap fun n => w[n]?).Nodup
  | [], _, _ => List.nodup_nil
  | n :: sel, nd, h => by
    obtain ⟨n1, n2⟩ := List.nodup_cons.mp nd
    have hn : w[n]? = some (w[n]'(h n (by simp))) := List.getElem?_eq_getElem (h n (by simp))
    rw [List.filterMap_cons_some hn]
    refine List.nodup_cons.mpr ⟨fun z => ?_, fm_nd hw n2 fun m hm => h m (by simp [hm])⟩
    obtain ⟨m, hm, e⟩ := List.mem_filterMap.mp z
    exact n1 (by rw [nd_inj hw hn e]; exact hm)
theorem putS_len : ∀ (sel : List Nat) (S S2 : SW), (putS sel S S2).length = S.length
  | [], S, S2 => by unfold putS; rfl
  | n :: sel, S, [] => by unfold putS; rfl
  | n :: sel, S, c :: S2 => by rw [putS, putS_len, List.length_set]
theorem putS_out : ∀ {sel : List Nat} {S S2 : SW} {m : Nat}, m ∉ sel → (putS sel S S2)[m]? = S[m]?
  | [], S, S2, m, _ => by unfold putS; rfl
  | n :: sel, S, [], m, _ => by unfold putS; rfl
  | n :: sel, S, c :: S2, m, h => by
    rw [putS, putS_out (fun z => h (by simp [z])), List.getElem?_set_ne (fun z => h (by simp [z]))]
theorem putS_in : ∀ {sel : List Nat} {S S2 : SW} {k n : Nat}, sel.Nodup → sel.length ≤ S2.length → (∀ n ∈ sel, n < S.length) → sel[k]? = some n → (putS sel S S2)[n]? = S2[k]?
  | [], S, S2, k, n, _, _, _, e => by simp at e
  | m :: sel, S, [], k, n, _, hl, _, e => by simp at hl
  | m :: sel, S, c :: S2, 0, n, nd, hl, hb, e => by
    simp at e
    subst e
    rw [putS, putS_out (List.nodup_cons.mp nd).1, List.getElem?_set_self (hb m (by simp))]
    rfl
  | m :: sel, S, c :: S2, k + 1, n, nd, hl, hb, e => by
    simp only [List.getElem?_cons_succ] at e ⊢
    rw [putS]
    exact putS_in (List.nodup_cons.mp nd).2 (by simpa using hl) (fun x hx => by rw [List.length_set]; exact hb x (by simp [hx])) e
section
variable {K : Fr_} {O : AS} {w : List Addr} {H H' : Hp} {S S2 : SW} {sel : List Nat}
theorem Wel.pick (h : Wel K w H S) (hb : ∀ n ∈ sel, n < S.length) : Wel K (sel.filterMap fun n => w[n]?) H (pickS sel S) := by
  have hb' : ∀ n ∈ sel, n < w.length := fun n hn => by rw [h.len]; exact hb n hn
  refine ⟨by unfold pickS; rw [fm_len hb', fm_len hb], fun k a c e1 e2 => ?_⟩
  rw [fm_at hb'] at e1
  unfold pickS at e2
  rw [fm_at hb] at e2
  cases hk : sel[k]? with
  | none => rw [hk] at e1; cases e1
  | some n =>
    rw [hk] at e1 e2
    exact h.at' n a c e1 e2
theorem Args.pick (ok : selOk sel S as) (hl : w.length = S.length) : ∀ {as : List Sl} {vs : List V}, (∀ n, Sl.cel n ∈ as → n ∈ sel) → Args K O w H as vs → Args K O (sel.filterMap fun n => w[n]?) H (as.map (relS sel)) vs
  | [], vs, _, h => h
  | a :: as, vs, hc, h => by
    simp only [Args, List.map_cons] at h ⊢
    obtain ⟨v, r, e, h1, h2⟩ := h
    refine ⟨v, r, e, ?_, Args.pick ok hl (fun n hn => hc n (by simp [hn])) h2⟩
    cases a with
    | cel n =>
      obtain ⟨p, h3, h4⟩ := h1
      have hb' : ∀ n ∈ sel, n < w.length := fun n hn => by rw [hl]; exact ok.2.1 n hn
      exact ⟨p, by rw [fm_at hb', idx_at (hc n (by simp))]; exact h3, h4⟩
    | dat d => exact h1
    | _ => exact h1.elim
/-- behind the call: what it got has changed, the rest stands -/
theorem Wel.put0 (h : Wel K w H S) (wn : w.Nodup) (nd : sel.Nodup) (hb : ∀ n ∈ sel, n < S.length) (l2 : sel.length ≤ S2.length) (h2 : ∀ (k : Nat) (a : Addr) (c : Cell), (sel.filterMap fun n => w[n]?)[k]? = some a → S2[k]? = some c → CRep K H' c a)
    (st : Step O H H') (ol : OL O H) (hg : ∀ a ∈ w, a ∉ (sel.filterMap fun n => w[n]?) → ∀ o, H a = some o → H' a = some o) : Wel K w H' (putS sel S S2) := by
  have hb' : ∀ n ∈ sel, n < w.length := fun n hn => by rw [h.len]; exact hb n hn
  refine ⟨by rw [putS_len, h.len], fun n a c e1 e2 => ?_⟩
  by_cases hn : n ∈ sel
  · have ix := idx_at hn
    rw [putS_in nd l2 hb ix] at e2
    exact h2 _ a c (by rw [fm_at hb', ix]; exact e1) e2
  · rw [putS_out hn] at e2
    refine CRep.step st ol (hg a (List.mem_of_getElem? e1) fun z => ?_) (h.at' n a c e1 e2)
    obtain ⟨m, hm, e⟩ := List.mem_filterMap.mp z
    exact hn (by rw [nd_inj wn e1 e]; exact hm)
theorem Wel.put (h : Wel K w H S) (wn : w.Nodup) (nd : sel.Nodup) (hb : ∀ n ∈ sel, n < S.length) (g : Gr (sel.filterMap fun n => w[n]?) H H') (h2 : Wel K (sel.filterMap fun n => w[n]?) H' S2) (st : Step O H H') (ol : OL O H) : Wel K w H' (putS sel S S2) :=
  h.put0 wn nd hb (by rw [← h2.len, fm_len fun n hn => by rw [h.len]; exact hb n hn]; exact Nat.le_refl _) h2.at' st ol fun a _ n o ho => g a o n ho
theorem Gr.pick (g : Gr (sel.filterMap fun n => w[n]?) H H') : Gr w H H' := fun a u n h => g a u (fun z => by
  obtain ⟨m, hm, e⟩ := List.mem_filterMap.mp z
  exact n (List.mem_of_getElem? e)) h
end
def fCallS (sel : List Nat) (C : Ct) (g : FR) : FE := fun ρ S R => g ρ S fun as S1 => selOk sel S1 as ∧ C (as.map (relS sel)) (pickS sel S1) fun d S2 => R d (putS sel S1 S2)
section
variable {X : Cx} {e a b c : Expr} {es : List Expr} {pos p p2 : Pos} {f fa fb fc : FE} {g : FR} {n : Nat} {x : Str}
theorem d_callS (sel : List Nat) {k : Nat} {C : Ct} (c : Cal X.prog X.w X.K X.mg X.base x k n C) (hr : RoomG k X.A) (ha : PA X (e :: es) (rca X.K n g)) (hg : Gl X x := by rfl) (hdb : (x == ("__debug__" : Str)) = false := by decide)
    (he : starEach (e :: es) X.env = (false, eval e X.env) :: starEach es X.env := by rfl) (hpl : (backTo pos (starEach es X.env)).any (·.1) = false := by rfl) : PE X (.Call (.Name x p) (e :: es) [] pos) (rd X.K (fCallS sel C g)) := by
  obtain ⟨f, fd, ps, F, hk, hb, hm⟩ := c.ex
  exact PE.imp (pe_pro F hr hg hm hk hb ha hdb he hpl) fun σ H Q ⟨Oc, w, ρ, S, R, ev, hf, k⟩ =>
    ⟨Oc, w, ρ, S, _, ev, hf, fun as S1 vs H1 ev1 g1 r1 hl ⟨ok, h1⟩ => ⟨OO Oc σ ρ, sel.filterMap (fun n => w[n]?), pickS sel S1, as.map (relS sel), _, by rw [List.length_map, hl], by rw [List.append_nil]; exact Args.pick ok ev1.ws.len ok.2.2 r1, ev1.Ool,
      fun a z => by
        obtain ⟨m, hm, e⟩ := List.mem_filterMap.mp z
        exact .inl (ev1.wo a (List.mem_of_getElem? e)), fm_nd ev1.wn ok.1 (fun n hn => by rw [ev1.ws.len]; exact ok.2.1 n hn), ev1.ws.pick ok.2.1, h1,
      fun d S' v H' g w' r q => k d (putS sel S1 S') v H' (ev1.go g.pick (ev1.ws.put ev1.wn ok.1 ok.2.1 g w' (ev1.stepO g.pick) ev1.Ool)) (g1.trans g.pick) r q⟩⟩
end
section
variable {X : Cx}
/-- rows of keywords -/
theorem PK.imp {kws : List Keyword} {t t' : TA} (h : PK X kws t) (i : ∀ σ H Q, t' σ H Q → t σ H Q) : PK X kws t' := ⟨fun ps pins s σ H Q I q => h.run ps pins s σ H Q I (i σ H Q q)⟩
end
end DL

namespace DL
open PySem L2 PyProof.Rows
/-! ### calls by keywords alone -/
section
variable {X : Cx} {e a b c : Expr} {es : List Expr} {kws : List Keyword} {pos p p2 kpos : Pos} {f fa fb fc : FE} {g : FR} {n : Nat} {x : Str} {nm : Option Str}
theorem k_nil : PK X [] (rca X.K 0 gaNil) := PK.imp pk_nil fun σ H Q ⟨Oc, w, ρ, S, R, ev, hf, k⟩ => k [] S [] H ev Gr.refl (by simp only [Args]) rfl hf
theorem k_dat (he : PE X e (rd X.K f)) (hr : PK X kws (rca X.K n g)) : PK X (⟨nm, e, kpos⟩ :: kws) (rca X.K (n + 1) (gDat f g)) := PK.imp (pk_cons he hr) fun σ H Q ⟨Oc, w, ρ, S, R, ev, hf, k⟩ =>
  ⟨Oc, w, ρ, S, _, ev, hf, fun d S1 v H1 ev1 g1 r1 h1 => ⟨Oc, w, ρ, S1, _, ev1, h1, fun as S2 vs H2 ev2 g2 r2 hl h2 =>
    k (.dat d :: as) S2 (v :: vs) H2 ev2 (g1.trans g2) (by simp only [Args, ArgRep]; exact ⟨v, vs, rfl, Rep.step (ev1.stepO g2) ev1.Ool d v r1, r2⟩) (by rw [List.length_cons, hl]) h2⟩⟩
def fCallK (C : Ct) (pm : {α : Type} → List α → List α) (g : FR) : FE := fun ρ S R => g ρ S fun as S1 => C (pm as) S1 R
theorem d_callK {k m : Nat} {C : Ct} {ks : List Str} {pm : {α : Type} → List α → List α} (c : CalK X.prog X.w X.K X.mg X.base x k m C ks pm) (hr : RoomG k X.A) (ha : PK X kws (rca X.K n g)) (hg : Gl X x := by rfl) (hdb : (x == ("__debug__" : Str)) = false := by decide)
    (hall : (backToKw pos (keywordEach kws X.env)).all (·.1.isSome) = true := by rfl) (hks : (backToKw pos (keywordEach kws X.env)).filterMap (·.1) = ks := by rfl) (hn : ks.length = n := by rfl)
    (hpl : ((backTo pos (starEach [] X.env)).any (·.1) || (backToKw pos (keywordEach kws X.env)).any (·.1.isNone)) = false := by rfl) : PE X (.Call (.Name x p) [] kws pos) (rd X.K (fCallK C pm g)) := by
  obtain ⟨f, fd, ps, F, hk, hb, hm⟩ := c.ex
  refine ⟨fun pins s σ H Q I ⟨Oc, w, ρ, S, R, ev, hf, kk⟩ => ?_⟩
  refine wpAny_Call_Name_kw (ld_glob I hg hm ?_ hdb)
  refine PySem.W.callWith_KW0 (h₀ := X.base) I.ok.mod.kin hk hall ?_ hpl
  refine thn (ha.run pos pins s σ H (fun vs H1 => vs.length = n ∧ spC X.K m C (pm vs) H1 Q fun _ _ _ => False) I ⟨Oc, w, ρ, S, _, ev, hf, fun as S1 vs H1 ev1 g1 r1 hl h1 => ⟨by rw [r1.len, hl], OO Oc σ ρ, w, S1, pm as, _, c.len (by rw [hl, hn]), c.args (by rw [hl, hn]) r1, ev1.Ool, fun a z => .inl (ev1.wo a z), ev1.wn, ev1.ws, h1,
    fun d S' v H' g w' r q => kk d S' v H' (ev1.go g w') (g1.trans g) r q⟩⟩) fun us s1 hq => ?_
  obtain ⟨vs, H1, I1, rv, hl, hsp⟩ := hq
  refine ⟨I1.kIn, ?_⟩
  rw [hks, List.nil_append]
  have rv2 := c.vals (by rw [hl, hn]) rv
  have hlen : us.length = ks.length := by rw [← rv.length, hl, hn]
  exact F.go hr I1 (hb s1 us hlen) rv2 hsp
end
/-! ### targets -/
abbrev FG := Rho → PyData → (Rho → Prop) → Prop
abbrev FGs := Rho → List PyData → (Rho → Prop) → Prop
/-- what a target's store leaves: only the slots of is changed, none of them becomes one's own list -/
structure Tgt (is : List Nat) (σ σ' : L2.St) (ρ ρ' : Rho) : Prop where
  len : σ'.length = σ.length
  at' : ∀ j : Nat, j ∉ is → σ'[j]? = σ[j]? ∧ ρ'[j]? = ρ[j]?
  own : ∀ (j : Nat) (xs : List PyData), ρ'[j]? = some (Sl.own xs) → ρ[j]? = some (Sl.own xs) ∧ σ'[j]? = σ[j]?
  dct : ∀ (j : Nat) (kvs : List (List Key × PyData)), ρ'[j]? = some (Sl.dct kvs) → ρ[j]? = some (Sl.dct kvs) ∧ σ'[j]? = σ[j]?
theorem Tgt.trans {is js : List Nat} {σ σ1 σ2 : L2.St} {ρ ρ1 ρ2 : Rho} (a : Tgt is σ σ1 ρ ρ1) (b : Tgt js σ1 σ2 ρ1 ρ2) : Tgt (is ++ js) σ σ2 ρ ρ2 where
  len := b.len.trans a.len
  at' := fun j h => by
    rw [List.mem_append, not_or] at h
    obtain ⟨b1, b2⟩ := b.at' j h.2
    obtain ⟨a1, a2⟩ := a.at' j h.1
    exact ⟨b1.trans a1, b2.trans a2⟩
  own := fun j xs h => by
    obtain ⟨b1, b2⟩ := b.own j xs h
    obtain ⟨a1, a2⟩ := a.own j xs b1
    exact ⟨a1, b2.trans a2⟩
  dct := fun j xs h => by
    obtain ⟨b1, b2⟩ := b.dct j xs h
    obtain ⟨a1, a2⟩ := a.dct j xs b1
    exact ⟨a1, b2.trans a2⟩
theorem Tgt.refl {σ : L2.St} {ρ : Rho} : Tgt [] σ σ ρ ρ := ⟨rfl, fun _ _ => ⟨rfl, rfl⟩, fun _ _ h => ⟨h, rfl⟩, fun _ _ h => ⟨h, rfl⟩⟩
theorem Tgt.oo {is : List Nat} {Oc : AS} {σ σ' : L2.St} {ρ ρ' : Rho} (t : Tgt is σ σ' ρ ρ') : ∀ a, OO Oc σ' ρ' a → OO Oc σ ρ a := by
  rintro a (h | ⟨i, xs, h1, h2⟩)
  · exact .inl h
  · obtain ⟨q1, q2⟩ := t.own i xs h1
    exact .inr ⟨i, xs, q1, by rw [← q2]; exact h2⟩
def rg (K : Fr_) (is : List Nat) (fg : FG) : TG := fun v σ H Q => ∃ Oc w ρ S d R, EV K Oc w σ H ρ S ∧ Rep K (OO Oc σ ρ) H d v ∧ fg ρ d R ∧ ∀ σ' ρ', EV K Oc w σ' H ρ' S → Tgt is σ σ' ρ ρ' → R ρ' → Q σ' H
def rgs (K : Fr_) (is : List Nat) (fg : FGs) : TGs := fun vs σ H Q => ∃ Oc w ρ S ds R, EV K Oc w σ H ρ S ∧ Reps K (OO Oc σ ρ) H ds vs ∧ fg ρ ds R ∧ ∀ σ' ρ', EV K Oc w σ' H ρ' S → Tgt is σ σ' ρ ρ' → R ρ' → Q σ' H
theorem EV.less {K : Fr_} {Oc : AS} {w : List Addr} {σ σ' : L2.St} {H : Hp} {ρ ρ' : Rho} {S : SW} (e : EV K Oc w σ H ρ S) (hl : σ'.length = σ.length) (hl' : ρ'.length = ρ.length)
    (hd : ∀ (i : Nat) (d : PyData), ρ'[i]? = some (Sl.dat d) → ∃ v, σ'[i]? = some (some v) ∧ Rep K (OO Oc σ ρ) H d v)
    (ho : ∀ (j : Nat) (xs : List PyData), ρ'[j]? = some (Sl.own xs) → ρ[j]? = some (Sl.own xs) ∧ σ'[j]? = σ[j]?)
    (hw : ∀ (j n : Nat), ρ'[j]? = some (Sl.cel n) → ρ[j]? = some (Sl.cel n) ∧ σ'[j]? = σ[j]?) (hk : ∀ (j : Nat) (kvs : List (List Key × PyData)), ρ'[j]? = some (Sl.dct kvs) → ρ[j]? = some (Sl.dct kvs) ∧ σ'[j]? = σ[j]?) : EV K Oc w σ' H ρ' S := by
  have oo : ∀ a, OO Oc σ' ρ' a → OO Oc σ ρ a := by
    rintro a (h | ⟨i, xs, h1, h2⟩)
    · exact .inl h
    · obtain ⟨q1, q2⟩ := ho i xs h1
      exact .inr ⟨i, xs, q1, by rw [← q2]; exact h2⟩
  refine ⟨by rw [hl, hl', e.len], fun i d h => ?_, fun i xs h => ?_, fun i j xs ys a h1 h2 h3 h4 => ?_, fun i n h => ?_, e.wo, e.wn, e.ws, e.ol, e.dct.to hk (fun a ws h o => ⟨h, o⟩) fun ds vs => Reps.less oo ds vs⟩
  · obtain ⟨v, h1, r⟩ := hd i d h
    exact ⟨v, h1, Rep.less oo d v r⟩
  · obtain ⟨q1, q2⟩ := ho i xs h
    obtain ⟨a, vs, h1, h2, h3, h4⟩ := e.own i xs q1
    exact ⟨a, vs, by rw [q2]; exact h1, h2, h3, Reps.less oo xs vs h4⟩
  · obtain ⟨q1, q2⟩ := ho i xs h1
    obtain ⟨q3, q4⟩ := ho j ys h2
    exact e.inj i j xs ys a q1 q3 (by rw [← q2]; exact h3) (by rw [← q4]; exact h4)
  · obtain ⟨q1, q2⟩ := hw i n h
    obtain ⟨a, h1, h2⟩ := e.cel i n q1
    exact ⟨a, h1, by rw [q2]; exact h2⟩
theorem EV.put {K : Fr_} {Oc : AS} {w : List Addr} {σ : L2.St} {H : Hp} {ρ : Rho} {S : SW} (e : EV K Oc w σ H ρ S) (i : Nat) {d : PyData} {v : V} (r : Rep K (OO Oc σ ρ) H d v) :
    EV K Oc w (σ.set i (some v)) H (ρ.set i (.dat d)) S ∧ Tgt [i] σ (σ.set i (some v)) ρ (ρ.set i (.dat d)) := by
  have hlt : ∀ {j : Nat}, i = j → j < ρ.length → j < σ.length := fun _ h => by rw [← e.len]; exact h
  have own : ∀ (j : Nat) (xs : List PyData), (ρ.set i (.dat d))[j]? = some (Sl.own xs) → ρ[j]? = some (Sl.own xs) ∧ (σ.set i (some v))[j]? = σ[j]? := fun j xs h => by
    by_cases hj : i = j
    · subst hj
      by_cases hk : i < ρ.length
      · rw [List.getElem?_set_self hk] at h; cases h
      · rw [List.getElem?_eq_none (by simpa using hk)] at h; cases h
    · rw [List.getElem?_set_ne hj] at h
      exact ⟨h, by rw [List.getElem?_set_ne hj]⟩
  have dct : ∀ (j : Nat) (kvs : List (List Key × PyData)), (ρ.set i (.dat d))[j]? = some (Sl.dct kvs) → ρ[j]? = some (Sl.dct kvs) ∧ (σ.set i (some v))[j]? = σ[j]? := fun j xs h => by
    by_cases hj : i = j
    · subst hj
      by_cases hk : i < ρ.length
      · rw [List.getElem?_set_self hk] at h; cases h
      · rw [List.getElem?_eq_none (by simpa using hk)] at h; cases h
    · rw [List.getElem?_set_ne hj] at h
      exact ⟨h, by rw [List.getElem?_set_ne hj]⟩
  refine ⟨e.less (by simp) (by simp) (fun j d' h => ?_) own (fun j n h => ?_) dct, ⟨by simp, fun j hj => ?_, own, dct⟩⟩
  · by_cases hj : i = j
    · subst hj
      by_cases hk : i < ρ.length
      · rw [List.getElem?_set_self hk] at h
        cases h
        exact ⟨v, by rw [List.getElem?_set_self (by rw [← e.len]; exact hk)], r⟩
      · rw [List.getElem?_eq_none (by simpa using hk)] at h; cases h
    · rw [List.getElem?_set_ne hj] at h
      obtain ⟨u, hu, ru⟩ := e.dat j d' h
      exact ⟨u, by rw [List.getElem?_set_ne hj]; exact hu, ru⟩
  · by_cases hj : i = j
    · subst hj
      by_cases hk : i < ρ.length
      · rw [List.getElem?_set_self hk] at h; cases h
      · rw [List.getElem?_eq_none (by simpa using hk)] at h; cases h
    · rw [List.getElem?_set_ne hj] at h
      exact ⟨h, by rw [List.getElem?_set_ne hj]⟩
  · have hj' : i ≠ j := fun z => hj (by simp [z])
    exact ⟨List.getElem?_set_ne hj', List.getElem?_set_ne hj'⟩
def gNm (i : Nat) : FG := fun ρ d R => R (ρ.set i (.dat d))
def gTp (n : Nat) (gs : FGs) : FG := fun ρ d R => match d with
  | .tuple ds => ds.length = n ∧ gs ρ ds R
  | _ => False
def gsNil : FGs := fun ρ ds R => ds = [] ∧ R ρ
def gsCons (fg : FG) (gs : FGs) : FGs := fun ρ ds R => match ds with
  | d :: r => fg ρ d fun ρ' => gs ρ' r R
  | [] => False
section
variable {X : Cx} {e : Expr} {es : List Expr} {pos : Pos} {fg : FG} {gs : FGs} {is js : List Nat} {n : Nat}
theorem PG.imp {t t' : TG} (h : PG X e t) (i : ∀ v σ H Q, t' v σ H Q → t v σ H Q) : PG X e t' := ⟨fun pins s σ H v u Q I r q => h.run pins s σ H v u Q I r (i v σ H Q q)⟩
theorem PGs.imp {t t' : TGs} (h : PGs X es t) (i : ∀ v σ H Q, t' v σ H Q → t v σ H Q) : PGs X es t' := ⟨fun pins s σ H v u Q I r q => h.run pins s σ H v u Q I r (i v σ H Q q)⟩
theorem g_name (i : Nat) {x : Str} (hN : X.N.Nodup) (hi : X.N[i]? = some x := by rfl) (hx : Loc X.env.scope x := by first | exact Or.inl rfl | exact Or.inr rfl) (hf : X.fn x = true ∨ X.env.scope.names.lookup x = some .local := by first | exact .inl rfl | exact .inr rfl) :
    PG X (.Name x pos) (rg X.K [i] (gNm i)) := PG.imp (pg_name (i := i) hN hi hx hf) fun v σ H Q ⟨Oc, w, ρ, S, d, R, ev, r, h, k⟩ => by
  obtain ⟨h1, h2⟩ := ev.put i r
  exact k _ _ h1 h2 h
theorem gs_nil : PGs X [] (rgs X.K [] gsNil) := PGs.imp pgs_nil fun v σ H Q ⟨Oc, w, ρ, S, ds, R, ev, r, h, k⟩ => by
  obtain ⟨rfl, h⟩ := h
  simp only [Reps] at r
  exact ⟨r, k σ ρ ev Tgt.refl h⟩
theorem gs_cons (h1 : PG X e (rg X.K is fg)) (h2 : PGs X es (rgs X.K js gs)) (hs : (assignEach (e :: es) X.env).map (·.2) = assign e X.env :: (assignEach es X.env).map (·.2) := by rfl) :
    PGs X (e :: es) (rgs X.K (is ++ js) (gsCons fg gs)) := PGs.imp (pgs_cons h1 h2 hs) fun v σ H Q ⟨Oc, w, ρ, S, ds, R, ev, r, h, k⟩ => by
  unfold gsCons at h
  split at h
  · rename_i d ds
    simp only [Reps] at r
    obtain ⟨u, us, rfl, r1, r2⟩ := r
    exact ⟨u, us, rfl, Oc, w, ρ, S, d, _, ev, r1, h, fun σ1 ρ1 ev1 t1 q1 => ⟨Oc, w, ρ1, S, ds, R, ev1, Reps.less t1.oo ds us r2, q1, fun σ2 ρ2 ev2 t2 q2 => k σ2 ρ2 ev2 (t1.trans t2) q2⟩⟩
  · exact h.elim
theorem g_tup {kk : Nat} (hc : X.calm = true) (h : PGs X es (rgs X.K is gs)) (hn : (assignEach es X.env).length = n := by rfl) (hst : (assignEach es X.env).findIdx? (·.1) = none := by rfl) :
    PG X (.Tuple es kk pos) (rg X.K is (gTp n gs)) := PG.imp (pg_tup hc h hn hst) fun v σ H Q ⟨Oc, w, ρ, S, d, R, ev, r, h, k⟩ => by
  unfold gTp at h
  split at h
  · rename_i ds
    simp only [Rep] at r
    obtain ⟨a, vs, rfl, q, r⟩ := r
    exact ⟨a, vs, rfl, q, r.len.trans h.1, Oc, w, ρ, S, ds, R, ev, r, h.2, k⟩
  · exact h.elim
end
end DL

namespace DL
open PySem L2 PyProof.Rows
/-! ### what is walked -/
/-- J gives the data ds one by one, as long as the heap goes on by Rl -/
structure Itg (K : Fr_) (Rl : Hp → Prop) (O : AS) (H : Hp) (J : It) (ds : List PyData) : Prop where
  ex : ∃ G Y, Walk J ds.length G Y ∧ ∀ O' H', OL O' H' → (∀ a, O' a → O a ∨ H a = none) → Rl H' → G H' ∧ ∀ i x H3, Y i H' x H3 → i < ds.length → ∃ d, ds[i]? = some d ∧ Same H' H3 ∧ Rep K O' H3 d x
abbrev FI := Rho → SW → (List PyData → SW → Prop) → Prop
/-- for a for; for a comprehension -/
def rif (K : Fr_) (fi : FI) : TI := fun σ H R => ∃ Oc w ρ S T, EV K Oc w σ H ρ S ∧ fi ρ S T ∧ ∀ ds S' J H', EV K Oc w σ H' ρ S' → Gr w H H' → Itg K (Step (OO Oc σ ρ) H') (OO Oc σ ρ) H' J ds → T ds S' → R J H'
def ric (K : Fr_) (fi : FI) : TI := fun σ H R => ∃ Oc w ρ S T, EV K Oc w σ H ρ S ∧ fi ρ S T ∧ ∀ ds S' J H', EV K Oc w σ H' ρ S' → Gr w H H' → Itg K (Gr w H') (OO Oc σ ρ) H' J ds → T ds S' → R J H'
theorem PI.imp {X : Cx} {tg e : Expr} {t t' : TI} (h : PI X tg e t) (i : ∀ σ H R, t' σ H R → t σ H R) : PI X tg e t' := ⟨fun pins s σ H R I q => h.run pins s σ H R I (i σ H R q)⟩
def fiL (f : FE) : FI := fun ρ S T => f ρ S fun d S1 => match d with
  | .list ds => T ds S1
  | _ => False
def fiT (f : FE) : FI := fun ρ S T => f ρ S fun d S1 => match d with
  | .tuple ds => T ds S1
  | _ => False
def fiR1 (f : FE) : FI := fun ρ S T => f ρ S fun d S1 => asI d fun j => -(2 ^ 62) ≤ j ∧ j < 2 ^ 62 ∧ T ((List.range j.toNat).map fun k => .int (k : Nat)) S1
def fiR2 (f g : FE) : FI := fun ρ S T => f ρ S fun d S1 => g ρ S1 fun e S2 => asI d fun i => asI e fun j => (-(2 ^ 62) ≤ i ∧ i < 2 ^ 62 ∧ -(2 ^ 62) ≤ j ∧ j < 2 ^ 62) ∧ T ((List.range (j - i).toNat).map fun k => .int (i + (k : Nat))) S2
section
variable {K : Fr_} {O : AS} {w : List Addr} {H : Hp} {ds : List PyData} {vs : List V} {a : Addr}
theorem itg_list {Rl : Hp → Prop} (hR : ∀ H', Rl H' → Step O H H') (hk : ∀ H', Rl H' → SqL K H' a vs) (ol : OL O H) (r : Reps K O H ds vs) : Itg K Rl O H (Itl K a) ds := by
  refine ⟨⟨_, _, by rw [← r.len]; exact walk_list (K := K) (a := a) (xs := vs), fun O' H' ol' ho h' => ⟨hk H' h', fun i x H3 y hi => ?_⟩⟩⟩
  obtain ⟨rfl, hx⟩ := y
  have hi' : ds[i]? = some ds[i] := List.getElem?_eq_getElem hi
  obtain ⟨v, hv, rv⟩ := (Reps.fw ho (hR _ h') ol ds vs r).at hi'
  rw [hv] at hx
  cases hx
  exact ⟨_, hi', Same.refl _, rv⟩
theorem itg_tup {Rl : Hp → Prop} (hR : ∀ H', Rl H' → Step O H H') (hq : SqT K H a vs) (ol : OL O H) (r : Reps K O H ds vs) : Itg K Rl O H (Itt K a) ds := by
  refine ⟨⟨_, _, by rw [← r.len]; exact walk_tup (K := K) (a := a) (xs := vs), fun O' H' ol' ho h' => ⟨SqT.step (hR H' h') ol hq, fun i x H3 y hi => ?_⟩⟩⟩
  obtain ⟨rfl, hx⟩ := y
  have hi' : ds[i]? = some ds[i] := List.getElem?_eq_getElem hi
  obtain ⟨v, hv, rv⟩ := (Reps.fw ho (hR _ h') ol ds vs r).at hi'
  rw [hv] at hx
  cases hx
  exact ⟨_, hi', Same.refl _, rv⟩
theorem itg_range {Rl : Hp → Prop} {lo : Int} {n : Nat} : Itg K Rl O H (Itr lo n) ((List.range n).map fun k => .int (lo + (k : Nat))) := by
  refine ⟨⟨_, _, by rw [List.length_map, List.length_range]; exact walk_range, fun O' H' ol' ho h' => ⟨True.intro, fun i x H3 y hi => ?_⟩⟩⟩
  obtain ⟨rfl, rfl⟩ := y
  rw [List.length_map, List.length_range] at hi
  refine ⟨.int (lo + (i : Nat)), by rw [List.getElem?_map, List.getElem?_range hi]; rfl, Same.refl _, by simp only [Rep]⟩
end
section
variable {X : Cx} {tg e a b : Expr} {pos p : Pos} {f fa fb : FE} {fi : FI}
theorem ic_of (h : PI X tg e (rif X.K fi)) : PI X tg e (ric X.K fi) := PI.imp h fun σ H R ⟨Oc, w, ρ, S, T, ev, hf, k⟩ =>
  ⟨Oc, w, ρ, S, T, ev, hf, fun ds S' J H' ev' g it q => k ds S' J H' ev' g ⟨by
    obtain ⟨G, Y, w1, h1⟩ := it.ex
    exact ⟨G, Y, w1, fun O' H2 ol ho gr => h1 O' H2 ol ho (ev'.stepO gr)⟩⟩ q⟩
theorem i_list (h : PE X e (rd X.K f)) : PI X tg e (rif X.K (fiL f)) := PI.imp (pi_list h) fun σ H R ⟨Oc, w, ρ, S, T, ev, hf, k⟩ =>
  ⟨Oc, w, ρ, S, _, ev, hf, fun d S1 v H1 ev1 g1 r h1 => by
    cases d with
    | list ds =>
      simp only [Rep] at r
      obtain ⟨a, vs, rfl, q, r⟩ := r
      exact ⟨a, rfl, ⟨vs, q.sq⟩, k ds S1 _ H1 ev1 g1 (itg_list (fun _ z => z) (fun H' s => (QL.step s q).sq) ev1.Ool r) h1⟩
    | _ => exact h1.elim⟩
theorem i_tup (h : PE X e (rb X.K f)) : PI X tg e (rif X.K (fiT f)) := PI.imp (pi_tup h) fun σ H R ⟨Oc, w, ρ, S, T, ev, hf, k⟩ =>
  ⟨Oc, w, ρ, S, _, ev, hf, fun d S1 v H1 ev1 g1 r h1 => by
    cases d with
    | tuple ds =>
      obtain ⟨a, vs, rfl, q, r⟩ := r.tup
      exact ⟨a, rfl, ⟨vs, q⟩, k ds S1 _ H1 ev1 g1 (itg_tup (fun _ z => z) q ev1.Ool r) h1⟩
    | _ => exact h1.elim⟩
/-- a comprehension over a list, also one of one's own -/
theorem ib_list (h : PE X e (rb X.K f)) : PI X tg e (ric X.K (fiL f)) := PI.imp (pi_list h) fun σ H R ⟨Oc, w, ρ, S, T, ev, hf, k⟩ =>
  ⟨Oc, w, ρ, S, _, ev, hf, fun d S1 v H1 ev1 g1 r h1 => by
    cases d with
    | list ds =>
      rcases r with r | ⟨a, vs, ds', e1, rfl, n, q, r⟩
      · simp only [Rep] at r
        obtain ⟨a, vs, rfl, q, r⟩ := r
        exact ⟨a, rfl, ⟨vs, q.sq⟩, k ds S1 _ H1 ev1 g1 (itg_list (fun _ z => ev1.stepO z) (fun H' s => (QL.step (ev1.stepO s) q).sq) ev1.Ool r) h1⟩
      · cases e1
        exact ⟨a, rfl, ⟨vs, SqL.of q⟩, k ds S1 _ H1 ev1 g1 (itg_list (fun _ z => ev1.stepO z) (fun H' s => SqL.of (s _ _ n q)) ev1.Ool r) h1⟩
    | _ => exact h1.elim⟩
theorem i_range1 (ha : PE X a (rb X.K f)) (hm : X.mg "range" = none) (hg : Gl X "range" := by rfl) (hs : starEach [a] X.env = [(false, eval a X.env)] := by rfl) (hs' : starEach (a :: []) X.env = (false, eval a X.env) :: starEach [] X.env := by rfl) : PI X tg (.Call (.Name "range" p) [a] [] pos) (rif X.K (fiR1 f)) :=
  PI.imp (pi_range1 hg hm (pa_cons ha pa_nil hs') hs) fun σ H R ⟨Oc, w, ρ, S, T, ev, hf, k⟩ => ⟨Oc, w, ρ, S, _, ev, hf, fun d S1 v H1 ev1 g1 r h1 => by
    obtain ⟨j, rfl, q1, q2, q3⟩ := asI_inv h1
    refine ⟨j, by rw [r.int], q1, q2, k _ S1 _ H1 ev1 g1 itg_range (by
      simp only [Int.zero_add]
      exact q3)⟩⟩
theorem i_range2 (ha : PE X a (rb X.K fa)) (hb : PE X b (rb X.K fb)) (hm : X.mg "range" = none) (hg : Gl X "range" := by rfl) (hs : starEach [a, b] X.env = [(false, eval a X.env), (false, eval b X.env)] := by rfl) (hs2 : starEach [b] X.env = [(false, eval b X.env)] := by rfl)
    (hs' : starEach (a :: [b]) X.env = (false, eval a X.env) :: starEach [b] X.env := by rfl) (hs2' : starEach (b :: []) X.env = (false, eval b X.env) :: starEach [] X.env := by rfl) : PI X tg (.Call (.Name "range" p) [a, b] [] pos) (rif X.K (fiR2 fa fb)) :=
  PI.imp (pi_range2 hg hm (pa_cons ha (pa_cons hb pa_nil hs2') hs') hs hs2) fun σ H R ⟨Oc, w, ρ, S, T, ev, hf, k⟩ => ⟨Oc, w, ρ, S, _, ev, hf, fun d S1 v H1 ev1 g1 r h1 => ⟨Oc, w, ρ, S1, _, ev1, h1, fun e S2 u H2 ev2 g2 r2 h2 => by
    obtain ⟨i, rfl, h3⟩ := asI_inv h2
    obtain ⟨j, rfl, q1, q3⟩ := asI_inv h3
    exact ⟨i, j, by rw [r.int, r2.int], q1, k _ S2 _ H2 ev2 (g1.trans g2) itg_range q3⟩⟩⟩
end
/-! ### list comprehensions -/
def rwipe (ρ : Rho) : List Nat → Rho
  | [] => ρ
  | v :: vs => (rwipe ρ vs).set v .un
def notOwn (ρ : Rho) (vs : List Nat) : Prop := ∀ v ∈ vs, ∀ xs, ρ[v]? ≠ some (Sl.own xs)
def lcGo (fg : FG) (ft fe : FE) (ρ : Rho) : List PyData → List PyData → SW → (List PyData → SW → Prop) → Prop
  | [], acc, S, T => T acc S
  | d :: ds, acc, S, T => fg ρ d fun ρ' => ft ρ' S fun x S1 => asB x fun k => if k = true then fe ρ' S1 fun y S2 => lcGo fg ft fe ρ ds (acc ++ [y]) S2 T else lcGo fg ft fe ρ ds acc S1 T
def fLc (fi : FI) (vs : List Nat) (fg : FG) (ft fe : FE) : FE := fun ρ S R => fi ρ S fun ds S1 => notOwn ρ vs ∧ ds.length ≤ sizeLine ∧ lcGo fg ft fe (rwipe ρ vs) ds [] S1 fun out S2 => R (.list out) S2
theorem rwipe_len (ρ : Rho) : ∀ vs : List Nat, (rwipe ρ vs).length = ρ.length
  | [] => rfl
  | v :: vs => by unfold rwipe; rw [List.length_set, rwipe_len ρ vs]
theorem rwipe_out {ρ : Rho} {i : Nat} : ∀ {vs : List Nat}, i ∉ vs → (rwipe ρ vs)[i]? = ρ[i]?
  | [], _ => rfl
  | v :: vs, h => by
    simp only [List.mem_cons, not_or] at h
    unfold rwipe
    rw [List.getElem?_set_ne (fun z => h.1 z.symm), rwipe_out h.2]
theorem rwipe_in {ρ : Rho} {i : Nat} : ∀ {vs : List Nat}, i ∈ vs → (rwipe ρ vs)[i]? = some Sl.un ∨ (rwipe ρ vs)[i]? = none
  | v :: vs, h => by
    unfold rwipe
    by_cases e : v = i
    · subst e
      by_cases hl : v < (rwipe ρ vs).length
      · exact .inl (List.getElem?_set_self hl)
      · exact .inr (List.getElem?_eq_none (by simpa using hl))
    · rw [List.getElem?_set_ne e]
      rcases List.mem_cons.mp h with z | z
      · exact absurd z.symm e
      · exact rwipe_in z
theorem wipe_in {σ : L2.St} {i : Nat} : ∀ {vs : List Nat}, i ∈ vs → (wipe σ vs)[i]? = some none ∨ (wipe σ vs)[i]? = none
  | v :: vs, h => by
    unfold wipe
    by_cases e : v = i
    · subst e
      by_cases hl : v < (wipe σ vs).length
      · exact .inl (List.getElem?_set_self hl)
      · exact .inr (List.getElem?_eq_none (by simpa using hl))
    · rw [List.getElem?_set_ne e]
      rcases List.mem_cons.mp h with z | z
      · exact absurd z.symm e
      · exact wipe_in z
theorem wipe_eq {σ σ' : L2.St} {vs : List Nat} (hl : σ'.length = σ.length) (h : ∀ j, j ∉ vs → σ'[j]? = σ[j]?) : wipe σ' vs = wipe σ vs := by
  refine List.ext_getElem? fun j => ?_
  by_cases hj : j ∈ vs
  · by_cases hk : j < σ.length
    · rcases wipe_in (σ := σ) hj with z | z
      · rcases wipe_in (σ := σ') hj with z' | z'
        · rw [z, z']
        · rw [List.getElem?_eq_none_iff, wipe_length] at z'
          omega
      · rw [List.getElem?_eq_none_iff, wipe_length] at z
        omega
    · rw [List.getElem?_eq_none (by rw [wipe_length]; omega), List.getElem?_eq_none (by rw [wipe_length]; omega)]
  · rw [wipe_out hj, wipe_out hj, h j hj]
/-- an object that only the callers may change has changed -/
theorem EV.mut {K : Fr_} {Oc : AS} {w : List Addr} {σ : L2.St} {H : Hp} {ρ : Rho} {S : SW} {p : Addr} {o : HO} (e : EV K Oc w σ H ρ S) (hp : Oc p) (hw : p ∉ w) (m : Mu o) (nt : ∀ ws, H p ≠ some (.dT ws)) : EV K Oc w σ (upd H p o) ρ S := by
  have st : Step (OO Oc σ ρ) H (upd H p o) := fun a u n h => by rw [upd_ne (fun z => n (.inl (by rw [z]; exact hp)))]; exact h
  refine ⟨e.len, fun i d h => ?_, fun i xs h => ?_, e.inj, e.cel, e.wo, e.wn, e.ws.step st e.Ool (fun a ha o h => by rw [upd_ne (fun z => hw (by rw [← z]; exact ha))]; exact h), fun a h => ?_, e.dct.to (fun j kvs h => ⟨h, rfl⟩) (fun a ws h o => ⟨by rw [upd_ne (fun z => nt ws (by rw [← z]; exact h))]; exact h, o⟩) fun ds vs => Reps.step st e.Ool ds vs⟩
  · obtain ⟨v, h1, r⟩ := e.dat i d h
    exact ⟨v, h1, Rep.step st e.Ool d v r⟩
  · obtain ⟨a, vs, h1, h2, h3, h4⟩ := e.own i xs h
    exact ⟨a, vs, h1, by rw [upd_ne (fun z => h3 (by rw [z]; exact hp))]; exact h2, h3, Reps.step st e.Ool xs vs h4⟩
  · by_cases hap : a = p
    · subst hap
      exact ⟨o, upd_same, m⟩
    · obtain ⟨u, hu, mu⟩ := e.ol a h
      exact ⟨u, by rw [upd_ne hap]; exact hu, mu⟩
theorem notOwn.oo {Oc : AS} {σ σ' : L2.St} {ρ ρ' : Rho} {vs : List Nat} {D : Addr} (no : notOwn ρ vs) (h : ∀ j, j ∉ vs → σ'[j]? = σ[j]? ∧ ρ'[j]? = ρ[j]?) : ∀ a, With (OO Oc σ ρ) D a → OO (With Oc D) σ' ρ' a := by
  rintro a ((h1 | ⟨i, xs, h1, h2⟩) | h1)
  · exact .inl (.inl h1)
  · have hi : i ∉ vs := fun z => no i z xs h1
    obtain ⟨q1, q2⟩ := h i hi
    exact .inr ⟨i, xs, q2.trans h1, q1.trans h2⟩
  · exact .inl (.inr h1)
/-- into a comprehension's block -/
theorem EV.block {K : Fr_} {Oc : AS} {w : List Addr} {σ : L2.St} {H : Hp} {ρ : Rho} {S : SW} {vs : List Nat} {D : Addr} (e : EV K Oc w σ H ρ S) (hD : H D = none) :
    EV K (With Oc D) w (wipe σ vs) (upd H D (.lst [])) (rwipe ρ vs) S := by
  have inn : ∀ {i : Nat} {x : Sl}, x ≠ .un → (rwipe ρ vs)[i]? = some x → i ∉ vs ∧ ρ[i]? = some x := fun {i x} hx h => by
    by_cases hi : i ∈ vs
    · rcases rwipe_in (ρ := ρ) hi with z | z
      · rw [z] at h; cases h; exact absurd rfl hx
      · rw [z] at h; cases h
    · exact ⟨hi, by rw [← rwipe_out hi]; exact h⟩
  have oo : ∀ a, OO (With Oc D) (wipe σ vs) (rwipe ρ vs) a → OO Oc σ ρ a ∨ H a = none := by
    rintro a ((h1 | h1) | ⟨i, xs, h1, h2⟩)
    · exact .inl (.inl h1)
    · exact .inr (by rw [h1]; exact hD)
    · obtain ⟨q1, q2⟩ := inn (by intro z; cases z) h1
      exact .inl (.inr ⟨i, xs, q2, by rw [← wipe_out (σ := σ) q1]; exact h2⟩)
  have st : Step (OO Oc σ ρ) H (upd H D (.lst [])) := Step.of (Same.new hD)
  refine ⟨by rw [rwipe_len, wipe_length, e.len], fun i d h => ?_, fun i xs h => ?_, fun i j xs ys a h1 h2 h3 h4 => ?_, fun i n h => ?_, fun a h => .inl (e.wo a h), e.wn, e.ws.step st e.Ool (fun a ha o h => by rw [upd_ne (fun z => by rw [z, hD] at h; cases h)]; exact h), fun a h => ?_, e.dct.to (fun j kvs h => by
    obtain ⟨q1, q2⟩ := inn (by intro z; cases z) h
    exact ⟨q2, wipe_out q1⟩) (fun a ws h o => ⟨by rw [upd_ne (fun z => by rw [z, hD] at h; cases h)]; exact h, .inl o⟩) fun ds vs => Reps.fw oo st e.Ool ds vs⟩
  · obtain ⟨q1, q2⟩ := inn (by intro z; cases z) h
    obtain ⟨v, hv, r⟩ := e.dat i d q2
    exact ⟨v, by rw [wipe_out q1]; exact hv, Rep.fw oo st e.Ool d v r⟩
  · obtain ⟨q1, q2⟩ := inn (by intro z; cases z) h
    obtain ⟨a, us, h1, h2, h3, h4⟩ := e.own i xs q2
    have hne : a ≠ D := fun z => by rw [z, hD] at h2; cases h2
    exact ⟨a, us, by rw [wipe_out q1]; exact h1, by rw [upd_ne hne]; exact h2, fun z => z.elim h3 hne, Reps.fw oo st e.Ool xs us h4⟩
  · obtain ⟨q1, q2⟩ := inn (by intro z; cases z) h1
    obtain ⟨q3, q4⟩ := inn (by intro z; cases z) h2
    rw [wipe_out q1] at h3
    rw [wipe_out q3] at h4
    exact e.inj i j xs ys a q2 q4 h3 h4
  · obtain ⟨q1, q2⟩ := inn (by intro z; cases z) h
    obtain ⟨a, h1, h2⟩ := e.cel i n q2
    exact ⟨a, h1, by rw [wipe_out q1]; exact h2⟩
  · by_cases hap : a = D
    · subst hap
      exact ⟨_, upd_same, trivial⟩
    · rcases h with h | h
      · obtain ⟨u, hu, mu⟩ := e.ol a h
        exact ⟨u, by rw [upd_ne hap]; exact hu, mu⟩
      · exact absurd h hap
theorem rd_lc {K : Fr_} {fi : FI} {vs is : List Nat} {fg : FG} {ft fe : FE} (his : ∀ j ∈ is, j ∈ vs) : ∀ σ H Q, rn K (fLc fi vs fg ft fe) σ H Q → tLc (ric K fi) (rg K is fg) (rt K ft) (rd K fe) vs σ H Q := by
  rintro σ H Q ⟨Oc, w, ρ, S, R, ev, hf, k⟩
  refine ⟨Oc, w, ρ, S, _, ev, hf, fun ds S1 J H1 ev1 g1 it ⟨no, hz, h1⟩ D hD => ?_⟩
  obtain ⟨G, Y, wk, hG⟩ := it.ex
  have hwD : D ∉ w := fun z => by
    obtain ⟨u, h1, _⟩ := ev1.ws.there z
    rw [hD] at h1
    cases h1
  have same0 : ∀ j, j ∉ vs → (wipe σ vs)[j]? = σ[j]? ∧ (rwipe ρ vs)[j]? = ρ[j]? := fun j hj => ⟨wipe_out hj, rwipe_out hj⟩
  have oo2 : ∀ a, OO (With Oc D) (wipe σ vs) (rwipe ρ vs) a → OO Oc σ ρ a ∨ H1 a = none := by
    rintro a ((h1 | h1) | ⟨i, xs, h1, h2⟩)
    · exact .inl (.inl h1)
    · exact .inr (by rw [h1]; exact hD)
    · by_cases hi : i ∈ vs
      · rcases rwipe_in (ρ := ρ) hi with z | z <;> (rw [z] at h1; cases h1)
      · rw [rwipe_out hi] at h1
        rw [wipe_out hi] at h2
        exact .inl (.inr ⟨i, xs, h1, h2⟩)
  refine lc_it wk (fun i H' => ∃ acc va S2, EV K (With Oc D) w (wipe σ vs) H' (rwipe ρ vs) S2 ∧ Gr w H1 H' ∧ H' D = some (.lst va) ∧ Reps K (With (OO Oc σ ρ) D) H' acc va ∧ acc.length ≤ i ∧ lcGo fg ft fe (rwipe ρ vs) (ds.drop i) acc S2 fun out S3 => R (.list out) S3)
    ⟨[], [], S1, ev1.block hD, Gr.of (Same.new hD), upd_same, by simp only [Reps], Nat.le_refl _, h1⟩ (fun i H' _ ⟨acc, va, S2, ev2, g2, _⟩ => (hG _ H' ev2.Ool oo2 g2).1) (fun i x H' H3 hi ⟨acc, va, S2, ev2, g2, hDv, ra, hl, hgo⟩ hy => ?_) (fun H' ⟨acc, va, S2, ev2, g2, hDv, ra, hl, hgo⟩ => ?_)
  · obtain ⟨d, hd, sm, rx⟩ := (hG _ H' ev2.Ool oo2 g2).2 i x H3 hy hi
    rw [List.drop_eq_getElem_cons hi] at hgo
    rw [List.getElem?_eq_getElem hi] at hd
    cases hd
    have ev3 := ev2.same sm
    refine ⟨_, w, _, S2, _, _, ev3, rx, hgo, fun σ' ρ' ev4 tg q4 => ?_⟩
    have agree : ∀ j, j ∉ vs → σ'[j]? = σ[j]? ∧ ρ'[j]? = ρ[j]? := fun j hj => by
      obtain ⟨t1, t2⟩ := tg.at' j fun z => hj (his j z)
      obtain ⟨s1, s2⟩ := same0 j hj
      exact ⟨t1.trans s1, t2.trans s2⟩
    refine ⟨wipe_eq (by rw [tg.len, wipe_length]) fun j hj => (agree j hj).1, _, w, ρ', S2, _, ev4, q4, fun b S3 H4 ev5 g4 q5 => ?_⟩
    -- behind the turn, the slots as they were
    have back : ∀ {H5 : Hp} {S5 : SW}, EV K (With Oc D) w σ' H5 ρ' S5 → EV K (With Oc D) w (wipe σ vs) H5 (rwipe ρ vs) S5 := fun {H5 S5} e5 => by
      have inn : ∀ {j : Nat} {x : Sl}, x ≠ .un → (rwipe ρ vs)[j]? = some x → ρ'[j]? = some x ∧ (wipe σ vs)[j]? = σ'[j]? := fun {j x} hx h => by
        by_cases hj : j ∈ vs
        · rcases rwipe_in (ρ := ρ) hj with z | z
          · rw [z] at h; cases h; exact absurd rfl hx
          · rw [z] at h; cases h
        · obtain ⟨t1, t2⟩ := agree j hj
          exact ⟨by rw [t2, ← rwipe_out hj]; exact h, by rw [t1, wipe_out hj]⟩
      refine e5.less (by rw [tg.len]) (by rw [rwipe_len, e5.len, tg.len, wipe_length, ev.len]) (fun j d h => ?_) (fun j xs h => inn (by intro z; cases z) h) (fun j n h => inn (by intro z; cases z) h) (fun j xs h => inn (by intro z; cases z) h)
      obtain ⟨t1, t2⟩ := inn (by intro z; cases z) h
      obtain ⟨v, hv, r⟩ := e5.dat j d t1
      exact ⟨v, t2.trans hv, r⟩
    have gA := (g2.trans (Gr.of sm)).trans g4
    cases b with
    | false =>
      rw [if_neg Bool.false_ne_true] at q5
      refine iteF ?_
      have stp : Step (With (OO Oc σ ρ) D) H' H4 := fun a u n h => ((Gr.of sm).trans g4) a u (fun z => n (.inl (.inl (ev1.wo a z)))) h
      have ol' : OL (With (OO Oc σ ρ) D) H' := fun a z => ev2.Ool a (notOwn.oo no same0 a z)
      exact ⟨acc, va, S3, back ev5, gA, g4 _ _ hwD (sm _ _ hDv), Reps.step stp ol' acc va ra, Nat.le_succ_of_le hl, q5⟩
    | true =>
      rw [if_pos rfl] at q5
      refine iteT ?_
      refine ⟨_, w, ρ', S3, _, ev5, q5, fun y S5 vy H5 ev6 g5 ry q6 => ?_⟩
      have hD5 : H5 D = some (.lst va) := g5 _ _ hwD (g4 _ _ hwD (sm _ _ hDv))
      have stp : Step (With (OO Oc σ ρ) D) H' H5 := fun a u n h => (((Gr.of sm).trans g4).trans g5) a u (fun z => n (.inl (.inl (ev1.wo a z)))) h
      have ol' : OL (With (OO Oc σ ρ) D) H' := fun a z => ev2.Ool a (notOwn.oo no same0 a z)
      have ra5 := Reps.step stp ol' acc va ra
      have ry5 : Rep K (With (OO Oc σ ρ) D) H5 y vy := Rep.less (notOwn.oo no agree) y vy ry
      have ol5 : OL (With (OO Oc σ ρ) D) H5 := fun a z => ev6.Ool a (notOwn.oo no agree a z)
      have st5 : Step (With (OO Oc σ ρ) D) H5 (upd H5 D (.lst (va ++ [vy]))) := fun a u n h => by rw [upd_ne (fun z => n (.inr z))]; exact h
      refine ⟨va, hD5, by rw [ra5.len]; omega, acc ++ [y], va ++ [vy], S5, (back ev6).mut (.inr rfl) hwD trivial (fun ws z => by rw [hD5] at z; cases z), fun a u n h => ?_, upd_same, ?_, by rw [List.length_append]; simp; omega, q6⟩
      · have hne : a ≠ D := fun z => by rw [z, hD] at h; cases h
        rw [upd_ne hne]
        exact (gA.trans g5) a u n h
      · exact Reps.step st5 ol5 _ _ (ra5.app (by simp only [Reps]; exact ⟨vy, [], rfl, ry5, rfl⟩))
  · rw [List.drop_eq_nil_of_le (Nat.le_refl _)] at hgo
    exact k acc S2 D va H' (ev1.go g2 ev2.ws) (g1.trans g2) (free_of ev1 g1 hD) hDv ra hgo
section
variable {X : Cx} {elt tg iter : Expr} {ifs : List Expr} {scope : Scope} {own : List (Str × Nat)} {pos : Pos} {fi : FI} {fg : FG} {ft fe : FE} {is : List Nat} {c : Expr}
theorem p_nil : PTs X [] (rt X.K (fC (.bool true))) := ⟨fun pins s σ H Q I ⟨Oc, w, ρ, S, R, ev, hf, k⟩ => pts_nil.run pins s σ H Q I (k true S H ev Gr.refl hf)⟩
theorem p_one {f : FE} (h : PT X c (rt X.K f)) : PTs X [c] (rt X.K f) := pts_one h
theorem n_lc (hc : X.calm = true) (hN : X.N.Nodup) (hi : PI X tg iter (ric X.K fi)) (ok : BlkOk X.N X.env.scope scope own) (his : ∀ j ∈ is, j ∈ own.map (·.2))
    (hg : ∀ (s : Shared) (H : Hp) (C : Addr) (cl : List (Str × Addr)) (fp : List Addr), PG (X.blk s H scope (compEnvC scope cl C X.env) fp) tg (rg X.K is fg)) (ht : ∀ (s : Shared) (H : Hp) (C : Addr) (cl : List (Str × Addr)) (fp : List Addr), PTs (X.blk s H scope (compEnvC scope cl C X.env) fp) ifs (rt X.K ft))
    (he : ∀ (s : Shared) (H : Hp) (C : Addr) (cl : List (Str × Addr)) (fp : List Addr), PE (X.blk s H scope (compEnvC scope cl C X.env) fp) elt (rd X.K fe)) (hs : ∀ x, foldedSetIterable iter X.env x = pure x := by intro _; rfl) :
    PE X (.ListComp elt [⟨tg, iter, ifs, 0⟩] scope pos) (rn X.K (fLc fi (own.map (·.2)) fg ft fe)) := PE.imp (pe_lc hc hN hi ok hg ht he hs) (rd_lc his)
end
end DL

namespace DL
open PySem L2 PyProof.Rows
/-! ### statements -/
structure Out where
  nx : Rho → SW → Prop
  rt : PyData → SW → Prop
  bk : Rho → SW → Prop := fun _ _ => False
  ct : Rho → SW → Prop := fun _ _ => False
  rn : List PyData → SW → Prop := fun _ _ => False
abbrev FS := Rho → SW → Out → Prop
/-- H0: the heap at the def's entry -/
structure Fz (w : List Addr) (H0 : Hp) (σ : L2.St) (H : Hp) (ρ : Rho) : Prop where
  gr : Gr w H0 H
  own : ∀ (i : Nat) (xs : List PyData) (a : Addr), ρ[i]? = some (Sl.own xs) → σ[i]? = some (some (.ref a)) → H0 a = none
  dct : ∀ (i : Nat) (kvs : List (List Key × PyData)) (a : Addr), ρ[i]? = some (Sl.dct kvs) → σ[i]? = some (some (.ref a)) → H0 a = none
/-- from one statement to the next -/
structure Fw (Oc : AS) (σ : L2.St) (ρ : Rho) (H : Hp) (σ' : L2.St) (ρ' : Rho) (H' : Hp) : Prop where
  keep : Step (OO Oc σ ρ) H H'
  own : ∀ a, OO Oc σ' ρ' a → OO Oc σ ρ a ∨ H a = none
theorem Fw.refl {Oc : AS} {σ : L2.St} {ρ : Rho} {H : Hp} : Fw Oc σ ρ H σ ρ H := ⟨fun _ _ _ h => h, fun _ h => .inl h⟩
theorem Fw.trans {Oc : AS} {σ σ1 σ2 : L2.St} {ρ ρ1 ρ2 : Rho} {H H1 H2 : Hp} (a : Fw Oc σ ρ H σ1 ρ1 H1) (b : Fw Oc σ1 ρ1 H1 σ2 ρ2 H2) : Fw Oc σ ρ H σ2 ρ2 H2 where
  keep := fun c u n h => b.keep c u (fun z => (a.own c z).elim n fun e => by rw [h] at e; cases e) (a.keep c u n h)
  own := fun c z => by
    rcases b.own c z with z | z
    · exact a.own c z
    · by_cases n : OO Oc σ ρ c
      · exact .inl n
      · cases e : H c with
        | none => exact .inr rfl
        | some u =>
          rw [a.keep c u n e] at z
          cases z
def Nx (K : Fr_) (Oc : AS) (w : List Addr) (H0 : Hp) (σ : L2.St) (ρ : Rho) (H : Hp) (P : Rho → SW → Prop) (Dn : L2.St → Hp → Prop) : Prop :=
  ∀ σ' H' ρ' S', EV K Oc w σ' H' ρ' S' → Fz w H0 σ' H' ρ' → Fw Oc σ ρ H σ' ρ' H' → P ρ' S' → Dn σ' H'
/-- what a def hands back: data; or a new list (rn) -/
def Rx (K : Fr_) (Oc : AS) (w : List Addr) (H0 : Hp) (P : PyData → SW → Prop) (Pn : List PyData → SW → Prop) (Dr : VK) : Prop := (∀ H' d v S', Gr w H0 H' → Wel K w H' S' → Rep K Oc H' d v → P d S' → Dr v H') ∧
  ∀ H' ds p vs S', Gr w H0 H' → Wel K w H' S' → H0 p = none → H' p = some (.lst vs) → Reps K (With Oc p) H' ds vs → Pn ds S' → Dr (.ref p) H'
def rs (K : Fr_) (g : FS) : TS := fun D σ H => ∃ Oc w H0 ρ S, ∃ B : Out, EV K Oc w σ H ρ S ∧ Fz w H0 σ H ρ ∧ g ρ S B ∧ Nx K Oc w H0 σ ρ H B.nx D.nx ∧ Rx K Oc w H0 B.rt B.rn D.rt ∧ Nx K Oc w H0 σ ρ H B.bk D.bk ∧ Nx K Oc w H0 σ ρ H B.ct D.ct
section
variable {K : Fr_} {Oc : AS} {w : List Addr} {H0 H H' : Hp} {σ σ' : L2.St} {ρ ρ' : Rho} {S S' : SW} {P : Rho → SW → Prop} {Dn : L2.St → Hp → Prop}
theorem Nx.go (n : Nx K Oc w H0 σ ρ H P Dn) (f : Fw Oc σ ρ H σ' ρ' H') : Nx K Oc w H0 σ' ρ' H' P Dn := fun σ2 H2 ρ2 S2 ev fz fw q => n σ2 H2 ρ2 S2 ev fz (f.trans fw) q
/-- behind an expression -/
theorem Fz.go (f : Fz w H0 σ H ρ) (g : Gr w H H') : Fz w H0 σ H' ρ := ⟨f.gr.trans g, f.own, f.dct⟩
theorem EV.fw (e : EV K Oc w σ H ρ S) (g : Gr w H H') : Fw Oc σ ρ H σ ρ H' := ⟨e.stepO g, fun _ h => .inl h⟩
theorem Tgt.fz {is : List Nat} (t : Tgt is σ σ' ρ ρ') (f : Fz w H0 σ H ρ) : Fz w H0 σ' H ρ' := ⟨f.gr, fun i xs a h1 h2 => by
  obtain ⟨q1, q2⟩ := t.own i xs h1
  exact f.own i xs a q1 (by rw [← q2]; exact h2), fun i xs a h1 h2 => by
  obtain ⟨q1, q2⟩ := t.dct i xs h1
  exact f.dct i xs a q1 (by rw [← q2]; exact h2)⟩
theorem Tgt.fw {is : List Nat} (t : Tgt is σ σ' ρ ρ') : Fw Oc σ ρ H σ' ρ' H := ⟨fun _ _ _ h => h, fun a h => .inl (t.oo a h)⟩
end
/-! the transformers -/
def sNext : FS := fun ρ S B => B.nx ρ S
def sSeq (g h : FS) : FS := fun ρ S B => g ρ S { B with nx := fun ρ' S' => h ρ' S' B }
def sRet (f : FE) : FS := fun ρ S B => f ρ S B.rt
def sRetN : FS := fun _ S B => B.rt .none S
def sRetV (i : Nat) : FS := fun ρ S B => match ρ[i]? with
  | some (.dat d) => B.rt d S
  | some (.own xs) => B.rt (.list xs) S
  | _ => False
def sDrop (f : FE) : FS := fun ρ S B => f ρ S fun _ S1 => B.nx ρ S1
def sSet (i : Nat) (f : FE) : FS := fun ρ S B => f ρ S fun d S1 => B.nx (ρ.set i (.dat d)) S1
def sOwn (i : Nat) (f : FE) : FS := fun ρ S B => f ρ S fun d S1 => match d with
  | .list ds => B.nx (ρ.set i (.own ds)) S1
  | _ => False
def sAsg (f : FE) (fg : FG) : FS := fun ρ S B => f ρ S fun d S1 => fg ρ d fun ρ' => B.nx ρ' S1
def sPar (i j : Nat) (g : FL) : FS := fun ρ S B => g ρ S fun ds S1 => match ds with
  | [a, b] => B.nx ((ρ.set i (.dat a)).set j (.dat b)) S1
  | _ => False
def sPar3 (i j l : Nat) (g : FL) : FS := fun ρ S B => g ρ S fun ds S1 => match ds with
  | [a, b, c] => B.nx (((ρ.set i (.dat a)).set j (.dat b)).set l (.dat c)) S1
  | _ => False
def sIf (fc : FE) (g h : FS) : FS := fun ρ S B => fc ρ S fun x S1 => asB x fun k => if k = true then g ρ S1 B else h ρ S1 B
def sBrk : FS := fun ρ S B => B.bk ρ S
def sCnt : FS := fun ρ S B => B.ct ρ S
def sNever : FS := fun _ _ _ => False
def forGo (fg : FG) (gb : FS) : List PyData → Rho → SW → Out → Prop
  | [], ρ, S, B => B.nx ρ S
  | d :: ds, ρ, S, B => fg ρ d fun ρ' => gb ρ' S { nx := fun ρ2 S2 => forGo fg gb ds ρ2 S2 B, rt := B.rt, rn := B.rn, bk := B.nx, ct := fun ρ2 S2 => forGo fg gb ds ρ2 S2 B }
def sFor (fi : FI) (fg : FG) (gb : FS) : FS := fun ρ S B => fi ρ S fun ds S1 => forGo fg gb ds ρ S1 B
def sWhile (fc : FE) (gb : FS) : FS := fun ρ S B => ∃ (I : Rho → SW → Prop) (μ : Rho → SW → Nat), I ρ S ∧ ∀ ρ S, I ρ S →
  fc ρ S fun x S1 => asB x fun k => if k = true then gb ρ S1 { nx := fun ρ2 S2 => I ρ2 S2 ∧ μ ρ2 S2 < μ ρ S, ct := fun ρ2 S2 => I ρ2 S2 ∧ μ ρ2 S2 < μ ρ S, bk := B.nx, rt := B.rt, rn := B.rn } else B.nx ρ S1
def sApp (i : Nat) (f : FE) : FS := fun ρ S B => match ρ[i]? with
  | some (.own xs) => xs.length < sizeLine ∧ f ρ S fun d S1 => B.nx (ρ.set i (.own (xs ++ [d]))) S1
  | _ => False
def sIns (i : Nat) (fa f : FE) : FS := fun ρ S B => match ρ[i]? with
  | some (.own xs) => xs.length < sizeLine ∧ fa ρ S fun x S1 => f ρ S1 fun d S2 => asI x fun k => (0 ≤ k ∧ k < 2 ^ 63) ∧ B.nx (ρ.set i (.own (xs.take k.toNat ++ [d] ++ xs.drop k.toNat))) S2
  | _ => False
def sPut (i : Nat) (fk f : FE) : FS := fun ρ S B => match ρ[i]? with
  | some (.own xs) => f ρ S fun d S1 => fk ρ S1 fun x S2 => asI x fun k => match ixN xs.length k with
    | some j => B.nx (ρ.set i (.own (xs.set j d))) S2
    | none => False
  | _ => False
section
variable {X : Cx} {st : Stmt} {rest : List Stmt} {e c : Expr} {pos : Pos} {f fc : FE} {g h : FS} {fg : FG} {is : List Nat} {x : Str}
theorem s_nil : PSs X [] (rs X.K sNext) := PSs.imp pss_nil fun D σ H ⟨Oc, w, H0, ρ, S, B, ev, fz, hf, k1, _⟩ => k1 σ H ρ S ev fz Fw.refl hf
theorem s_one (a : PS X st (rs X.K g)) : PSs X [st] (rs X.K g) := pss_one a
theorem s_cons (a : PS X st (rs X.K g)) (b : PSs X rest (rs X.K h)) : PSs X (st :: rest) (rs X.K (sSeq g h)) := PSs.imp (pss_cons a b) fun D σ H ⟨Oc, w, H0, ρ, S, B, ev, fz, hf, k1, k2, k3, k4⟩ =>
  ⟨Oc, w, H0, ρ, S, _, ev, fz, hf, fun σ' H' ρ' S' ev' fz' fw q => ⟨Oc, w, H0, ρ', S', B, ev', fz', q, k1.go fw, k2, k3.go fw, k4.go fw⟩, k2, k3, k4⟩
theorem s_pass : PS X (.Pass pos) (rs X.K sNext) := PS.imp ps_pass fun D σ H ⟨Oc, w, H0, ρ, S, B, ev, fz, hf, k1, _⟩ => k1 σ H ρ S ev fz Fw.refl hf
theorem s_brk : PS X (.Break pos) (rs X.K sBrk) := PS.imp ps_break fun D σ H ⟨Oc, w, H0, ρ, S, B, ev, fz, hf, k1, k2, k3, k4⟩ => k3 σ H ρ S ev fz Fw.refl hf
theorem s_cnt : PS X (.Continue pos) (rs X.K sCnt) := PS.imp ps_continue fun D σ H ⟨Oc, w, H0, ρ, S, B, ev, fz, hf, k1, k2, k3, k4⟩ => k4 σ H ρ S ev fz Fw.refl hf
theorem s_never : PS X st (rs X.K sNever) := PS.imp ps_never fun D σ H ⟨Oc, w, H0, ρ, S, B, ev, fz, hf, _⟩ => hf
theorem s_ret (he : PE X e (rd X.K f)) : PS X (.Return (some e) pos) (rs X.K (sRet f)) := PS.imp (ps_ret he) fun D σ H ⟨Oc, w, H0, ρ, S, B, ev, fz, hf, k1, k2, k3, k4⟩ =>
  ⟨Oc, w, ρ, S, _, ev, hf, fun d S' v H' ev' g r q => k2.1 H' d v S' (fz.gr.trans g) ev'.ws (Rep.less (fun a z => .inl z) d v r) q⟩
def sRetNew (f : FE) : FS := fun ρ S B => f ρ S fun d S1 => match d with
  | .list ds => B.rn ds S1
  | _ => False
theorem s_retNew (he : PE X e (rn X.K f)) : PS X (.Return (some e) pos) (rs X.K (sRetNew f)) := PS.imp (ps_ret he) fun D σ H ⟨Oc, w, H0, ρ, S, B, ev, fz, hf, k1, k2, k3, k4⟩ =>
  ⟨Oc, w, ρ, S, _, ev, hf, fun ds S' p vs H' ev' g n hp r q => k2.2 H' ds p vs S' (fz.gr.trans g) ev'.ws (free_of ev fz.gr n) hp (Reps.less (fun a z => z.elim (fun z => .inl (.inl z)) .inr) ds vs r) q⟩
theorem s_retN : PS X (.Return none pos) (rs X.K sRetN) := PS.imp ps_retN fun D σ H ⟨Oc, w, H0, ρ, S, B, ev, fz, hf, k1, k2, k3, k4⟩ => k2.1 H _ _ S fz.gr ev.ws (by simp only [Rep]) hf
theorem s_retV (i : Nat) {p : Pos} (hN : X.N[i]? = some x := by rfl) (hv : Vis X.env.scope x := by first | exact Or.inl rfl | exact Or.inr (Or.inl rfl) | exact Or.inr (Or.inr rfl)) (hd : (x == ("__debug__" : Str)) = false := by decide)
    (hcd : (x == ("__classdict__" : Str)) = false := by decide) : PS X (.Return (some (.Name x p)) pos) (rs X.K (sRetV i)) := PS.imp (ps_ret (pe_var (i := i) hN hv hd hcd)) fun D σ H ⟨Oc, w, H0, ρ, S, B, ev, fz, hf, k1, k2, k3, k4⟩ => by
  unfold sRetV at hf
  split at hf
  · rename_i d hd
    obtain ⟨v, hv, r⟩ := ev.dat i d hd
    exact ⟨v, hv, k2.1 H d v S fz.gr ev.ws (Rep.less (fun a z => .inl z) d v r) hf⟩
  · rename_i xs hx
    obtain ⟨a, vs, h1, h2, h3, h4⟩ := ev.own i xs hx
    refine ⟨_, h1, k2.1 H (.list xs) _ S fz.gr ev.ws ?_ hf⟩
    simp only [Rep]
    exact ⟨a, vs, rfl, .inl ⟨.inl h2, h3⟩, Reps.less (fun a z => .inl z) xs vs h4⟩
  · exact hf.elim
theorem s_drop (he : PE X e (rb X.K f)) (hs : swapsWith e none pos.line X.env = pure false := by rfl) : PS X (.Expr e pos) (rs X.K (sDrop f)) := PS.imp (ps_expr he hs) fun D σ H ⟨Oc, w, H0, ρ, S, B, ev, fz, hf, k1, k2, k3, k4⟩ =>
  ⟨Oc, w, ρ, S, _, ev, hf, fun d S' v H' ev' g r q => k1 σ H' ρ S' ev' (fz.go g) (ev.fw g) q⟩
theorem s_if {a b : List Stmt} (hc : PT X c (rt X.K fc)) (ha : PSs X a (rs X.K g)) (hb : PSs X b (rs X.K h)) : PS X (.If c a b pos) (rs X.K (sIf fc g h)) := PS.imp (ps_if hc ha hb) fun D σ H ⟨Oc, w, H0, ρ, S, B, ev, fz, hf, k1, k2, k3, k4⟩ =>
  ⟨Oc, w, ρ, S, _, ev, hf, fun b S1 H1 ev1 g1 q => by
    have fw := ev.fw g1
    cases b with
    | true =>
      rw [if_pos rfl] at q
      exact iteT ⟨Oc, w, H0, ρ, S1, B, ev1, fz.go g1, q, k1.go fw, k2, k3.go fw, k4.go fw⟩
    | false =>
      rw [if_neg Bool.false_ne_true] at q
      exact iteF ⟨Oc, w, H0, ρ, S1, B, ev1, fz.go g1, q, k1.go fw, k2, k3.go fw, k4.go fw⟩⟩
/-! stores -/
theorem tAsg_set {i : Nat} : ∀ D σ H, rs X.K (sSet i f) D σ H → tAsg (rd X.K f) (gName i) D σ H := fun D σ H ⟨Oc, w, H0, ρ, S, B, ev, fz, hf, k1, k2, k3, k4⟩ =>
  ⟨Oc, w, ρ, S, _, ev, hf, fun d S1 v H1 ev1 g1 r q => by
    obtain ⟨ev2, t⟩ := ev1.put i r
    exact k1 _ H1 _ S1 ev2 (t.fz (fz.go g1)) ((ev.fw g1).trans t.fw) q⟩
theorem s_set (i : Nat) {p : Pos} (hN : X.N.Nodup) (he : PE X e (rd X.K f)) (hi : X.N[i]? = some x := by rfl) (hx : Loc X.env.scope x := by first | exact Or.inl rfl | exact Or.inr rfl) (hs : swapsWith e (some (.Name x p)) pos.line X.env = pure false := by rfl)
    (hf : X.fn x = true ∨ X.env.scope.names.lookup x = some .local := by first | exact .inl rfl | exact .inr rfl) : PS X (.Assign [.Name x p] e pos) (rs X.K (sSet i f)) := PS.imp (ps_set (i := i) hN hi hx he hs hf) tAsg_set
/-- a new list comes to a slot: it is one's own -/
theorem EV.putOwn {K : Fr_} {Oc : AS} {w : List Addr} {σ : L2.St} {H H1 : Hp} {ρ : Rho} {S S1 : SW} {p : Addr} {vs : List V} {ds : List PyData} (e : EV K Oc w σ H ρ S) (e1 : EV K Oc w σ H1 ρ S1) (g : Gr w H H1) (i : Nat) (n : H p = none) (hp : H1 p = some (.lst vs))
    (r : Reps K (With (OO Oc σ ρ) p) H1 ds vs) : EV K Oc w (σ.set i (some (.ref p))) H1 (ρ.set i (.own ds)) S1 ∧ ∀ a, OO Oc (σ.set i (some (.ref p))) (ρ.set i (.own ds)) a → With (OO Oc σ ρ) p a := by
  have old : ∀ {j : Nat} {y : Sl}, i ≠ j → (ρ.set i (.own ds))[j]? = some y → ρ[j]? = some y ∧ (σ.set i (some (.ref p)))[j]? = σ[j]? := fun {j y} hj h => by
    rw [List.getElem?_set_ne hj] at h
    exact ⟨h, by rw [List.getElem?_set_ne hj]⟩
  have new : ∀ {y : Sl}, (ρ.set i (.own ds))[i]? = some y → y = .own ds ∧ (σ.set i (some (.ref p)))[i]? = some (some (.ref p)) := fun {y} h => by
    by_cases hk : i < ρ.length
    · rw [List.getElem?_set_self hk] at h
      cases h
      exact ⟨rfl, by rw [List.getElem?_set_self (by rw [← e.len]; exact hk)]⟩
    · rw [List.getElem?_eq_none (by simpa using hk)] at h; cases h
  have oo : ∀ a, OO Oc (σ.set i (some (.ref p))) (ρ.set i (.own ds)) a → With (OO Oc σ ρ) p a := by
    rintro a (h | ⟨j, xs, h1, h2⟩)
    · exact .inl (.inl h)
    · by_cases hj : i = j
      · subst hj
        obtain ⟨_, q2⟩ := new h1
        rw [q2] at h2
        cases h2
        exact .inr rfl
      · obtain ⟨q1, q2⟩ := old hj h1
        exact .inl (.inr ⟨j, xs, q1, by rw [← q2]; exact h2⟩)
  have oo' : ∀ a, OO Oc (σ.set i (some (.ref p))) (ρ.set i (.own ds)) a → OO Oc σ ρ a ∨ H a = none := fun a z => (oo a z).elim .inl fun z => .inr (by rw [z]; exact n)
  have np : ¬ Oc p := fun z => by
    obtain ⟨u, hu, _⟩ := e.ol p z
    rw [hu] at n
    cases n
  refine ⟨⟨by simp [e.len], fun j d h => ?_, fun j xs h => ?_, fun j l xs ys a h1 h2 h3 h4 => ?_, fun j n h => ?_, e.wo, e.wn, e1.ws, e1.ol, e.dct.to (fun j kvs h => by
    by_cases hj : i = j
    · subst hj
      obtain ⟨q, _⟩ := new h
      cases q
    · exact old hj h) (fun a ws h o => ⟨g a _ (fun z => by obtain ⟨u, h1, _, h2⟩ := e.ws.there z; rw [h1] at h; cases h; exact h2 _ rfl) h, o⟩) fun ds vs => Reps.fw oo' (e.stepO g) e.Ool ds vs⟩, oo⟩
  · by_cases hj : i = j
    · subst hj
      obtain ⟨q, _⟩ := new h
      cases q
    · obtain ⟨q1, q2⟩ := old hj h
      obtain ⟨v, hv, rv⟩ := e.dat j d q1
      exact ⟨v, by rw [q2]; exact hv, Rep.fw oo' (e.stepO g) e.Ool d v rv⟩
  · by_cases hj : i = j
    · subst hj
      obtain ⟨q1, q2⟩ := new h
      cases q1
      exact ⟨p, vs, q2, hp, np, Reps.less oo ds vs r⟩
    · obtain ⟨q1, q2⟩ := old hj h
      obtain ⟨a, us, h1, h2, h3, h4⟩ := e.own j xs q1
      exact ⟨a, us, by rw [q2]; exact h1, g a _ (e.nw h3) h2, h3, Reps.fw oo' (e.stepO g) e.Ool xs us h4⟩
  · have ne : ∀ {j : Nat} {xs : List PyData}, i ≠ j → (ρ.set i (.own ds))[j]? = some (.own xs) → (σ.set i (some (.ref p)))[j]? ≠ some (some (.ref p)) := fun {j xs} hj h z => by
      obtain ⟨q1, q2⟩ := old hj h
      obtain ⟨b, us, h1, h2, _⟩ := e.own j xs q1
      rw [q2, h1] at z
      cases z
      rw [h2] at n
      cases n
    by_cases hj : i = j
    · subst hj
      by_cases hl : i = l
      · exact hl
      · obtain ⟨_, q2⟩ := new h1
        rw [q2] at h3
        cases h3
        exact absurd h4 (ne hl h2)
    · by_cases hl : i = l
      · subst hl
        obtain ⟨_, q2⟩ := new h2
        rw [q2] at h4
        cases h4
        exact absurd h3 (ne hj h1)
      · obtain ⟨q1, q2⟩ := old hj h1
        obtain ⟨q3, q4⟩ := old hl h2
        exact e.inj j l xs ys a q1 q3 (by rw [← q2]; exact h3) (by rw [← q4]; exact h4)
  · by_cases hj : i = j
    · subst hj
      obtain ⟨q, _⟩ := new h
      cases q
    · obtain ⟨q1, q2⟩ := old hj h
      obtain ⟨a, h1, h2⟩ := e.cel j n q1
      exact ⟨a, h1, by rw [q2]; exact h2⟩
theorem tAsg_own {i : Nat} : ∀ D σ H, rs X.K (sOwn i f) D σ H → tAsg (rn X.K f) (gName i) D σ H := fun D σ H ⟨Oc, w, H0, ρ, S, B, ev, fz, hf, k1, k2, k3, k4⟩ =>
  ⟨Oc, w, ρ, S, _, ev, hf, fun ds S1 p vs H1 ev1 g1 n hp r q => by
    obtain ⟨ev2, oo⟩ := EV.putOwn ev ev1 g1 i n hp r
    refine k1 _ H1 _ S1 ev2 ⟨fz.gr.trans g1, fun j xs a h1 h2 => ?_, fun j xs a h1 h2 => ?_⟩ ⟨ev.stepO g1, fun a z => (oo a z).elim .inl fun z => .inr (by rw [z]; exact n)⟩ q
    · by_cases hj : i = j
      · subst hj
        by_cases hk : i < σ.length
        · rw [List.getElem?_set_self hk] at h2
          cases h2
          cases e : H0 p with
          | none => rfl
          | some u =>
            by_cases hw : p ∈ w
            · obtain ⟨u, z, _⟩ := ev.ws.there hw
              rw [z] at n
              cases n
            · rw [fz.gr p u hw e] at n
              cases n
        · rw [List.getElem?_eq_none (by simpa using hk)] at h2; cases h2
      · rw [List.getElem?_set_ne hj] at h1 h2
        exact fz.own j xs a h1 h2
    · by_cases hj : i = j
      · subst hj
        by_cases hk : i < ρ.length
        · rw [List.getElem?_set_self hk] at h1
          cases h1
        · rw [List.getElem?_eq_none (by simpa using hk)] at h1; cases h1
      · rw [List.getElem?_set_ne hj] at h1 h2
        exact fz.dct j xs a h1 h2⟩
theorem s_own (i : Nat) {p : Pos} (hN : X.N.Nodup) (he : PE X e (rn X.K f)) (hi : X.N[i]? = some x := by rfl) (hx : Loc X.env.scope x := by first | exact Or.inl rfl | exact Or.inr rfl) (hs : swapsWith e (some (.Name x p)) pos.line X.env = pure false := by rfl)
    (hf : X.fn x = true ∨ X.env.scope.names.lookup x = some .local := by first | exact .inl rfl | exact .inr rfl) : PS X (.Assign [.Name x p] e pos) (rs X.K (sOwn i f)) := PS.imp (ps_set (i := i) hN hi hx he hs hf) tAsg_own
theorem s_asg {tg : Expr} (he : PE X e (rd X.K f)) (hg : PG X tg (rg X.K is fg)) (hs : swapsWithSole [tg] e pos.line X.env = pure false := by rfl) (hw : swappedStores [tg] e X.env = pure none := by rfl)
    (h1 : (assignEach [tg] X.env).map (·.2) = [assign tg X.env] := by rfl) : PS X (.Assign [tg] e pos) (rs X.K (sAsg f fg)) := PS.imp (ps_asg he hg hs hw h1) fun D σ H ⟨Oc, w, H0, ρ, S, B, ev, fz, hf, k1, k2, k3, k4⟩ =>
  ⟨Oc, w, ρ, S, _, ev, hf, fun d S1 v H1 ev1 g1 r q => ⟨Oc, w, ρ, S1, d, _, ev1, r, q, fun σ' ρ' ev2 t q2 => k1 σ' H1 ρ' S1 ev2 (t.fz (fz.go g1)) ((ev.fw g1).trans t.fw) q2⟩⟩
end
end DL

namespace DL
open PySem L2 PyProof.Rows
section
variable {X : Cx} {st : Stmt} {rest : List Stmt} {e c a b : Expr} {pos : Pos} {f fc fa : FE} {g h : FS} {fg : FG} {is : List Nat} {x y z : Str} {fi : FI} {gl : FL}
theorem set2 {K : Fr_} {Oc : AS} {w : List Addr} {H0 H : Hp} {σ : L2.St} {ρ : Rho} {S : SW} {d e : PyData} {v u : V} (ev : EV K Oc w σ H ρ S) (i j : Nat) (r1 : Rep K (OO Oc σ ρ) H d v) (r2 : Rep K (OO Oc σ ρ) H e u) :
    EV K Oc w ((σ.set i (some v)).set j (some u)) H ((ρ.set i (.dat d)).set j (.dat e)) S ∧ Tgt [i, j] σ ((σ.set i (some v)).set j (some u)) ρ ((ρ.set i (.dat d)).set j (.dat e)) := by
  obtain ⟨ev2, t2⟩ := ev.put i r1
  obtain ⟨ev3, t3⟩ := ev2.put j (Rep.less t2.oo e u r2)
  exact ⟨ev3, t2.trans t3⟩
theorem s_par (i j : Nat) {px py pt : Pos} {kt k2 pt2} (hc : X.calm = true) (hN : X.N.Nodup) (ha : PA X [a, b] (rda X.K 2 gl)) (hi : X.N[i]? = some x := by rfl) (hj : X.N[j]? = some y := by rfl) (hij : i ≠ j := by decide)
    (hx : X.env.scope.names.lookup x = some .local := by rfl) (hy : X.env.scope.names.lookup y = some .local := by rfl)
    (hw : swappedStores [.Tuple [.Name x px, .Name y py] kt pt] (.Tuple [a, b] k2 pt2) X.env = pure (some [x, y]) := by rfl)
    (hs : swapsWithSole [.Tuple [.Name x px, .Name y py] kt pt] (.Tuple [a, b] k2 pt2) pos.line X.env = pure false := by rfl) :
    PS X (.Assign [.Tuple [.Name x px, .Name y py] kt pt] (.Tuple [a, b] k2 pt2) pos) (rs X.K (sPar i j gl)) := PS.imp (ps_par hc hN hi hj hij hx hy ha hw hs) fun D σ H ⟨Oc, w, H0, ρ, S, B, ev, fz, hf, k1, k2, k3, k4⟩ =>
  ⟨Oc, w, ρ, S, _, ev, hf, fun ds S1 vs H1 ev1 g1 r hl q => by
    split at q
    · rename_i d e
      simp only [Reps] at r
      obtain ⟨v, _, rfl, r1, u, _, rfl, r2, rfl⟩ := r
      obtain ⟨ev3, t⟩ := set2 (H0 := H0) ev1 i j r1 r2
      exact ⟨v, u, rfl, k1 _ H1 _ S1 ev3 (t.fz (fz.go g1)) ((ev.fw g1).trans t.fw) q⟩
    · exact q.elim⟩
theorem s_par3 (i j l : Nat) {px py pz pt : Pos} {kt k2 pt2} (hc : X.calm = true) (hN : X.N.Nodup) (ha : PA X [a, b, c] (rda X.K 3 gl)) (hi : X.N[i]? = some x := by rfl) (hj : X.N[j]? = some y := by rfl) (hl : X.N[l]? = some z := by rfl) (hij : i ≠ j := by decide) (hil : i ≠ l := by decide) (hjl : j ≠ l := by decide)
    (hx : X.env.scope.names.lookup x = some .local := by rfl) (hy : X.env.scope.names.lookup y = some .local := by rfl) (hz : X.env.scope.names.lookup z = some .local := by rfl)
    (hw : swappedStores [.Tuple [.Name x px, .Name y py, .Name z pz] kt pt] (.Tuple [a, b, c] k2 pt2) X.env = pure (some [x, y, z]) := by rfl)
    (hs : swapsWithSole [.Tuple [.Name x px, .Name y py, .Name z pz] kt pt] (.Tuple [a, b, c] k2 pt2) pos.line X.env = pure false := by rfl) :
    PS X (.Assign [.Tuple [.Name x px, .Name y py, .Name z pz] kt pt] (.Tuple [a, b, c] k2 pt2) pos) (rs X.K (sPar3 i j l gl)) := PS.imp (ps_par3 hc hN hi hj hl hij hil hjl hx hy hz ha hw hs) fun D σ H ⟨Oc, w, H0, ρ, S, B, ev, fz, hf, k1, k2, k3, k4⟩ =>
  ⟨Oc, w, ρ, S, _, ev, hf, fun ds S1 vs H1 ev1 g1 r hl q => by
    split at q
    · rename_i d e f
      simp only [Reps] at r
      obtain ⟨v, _, rfl, r1, u, _, rfl, r2, t, _, rfl, r3, rfl⟩ := r
      obtain ⟨ev3, t3⟩ := set2 (H0 := H0) ev1 i j r1 r2
      obtain ⟨ev4, t4⟩ := ev3.put l (Rep.less t3.oo f t r3)
      have tt := t3.trans t4
      exact ⟨v, u, t, rfl, k1 _ H1 _ S1 ev4 (tt.fz (fz.go g1)) ((ev.fw g1).trans tt.fw) q⟩
    · exact q.elim⟩
/-- name = [..] on one line, the name a local -/
theorem s_setLc (i : Nat) {py : Pos} {elt tg iter : Expr} {ifs : List Expr} {scope : Scope} {own : List (Str × Nat)} {spos : Pos} {ft fe : FE} (hc : X.calm = true) (hN : X.N.Nodup) (hi : PI X tg iter (ric X.K fi)) (ok : BlkOk X.N X.env.scope scope own) (his : ∀ j ∈ is, j ∈ own.map (·.2))
    (hg : ∀ (s : Shared) (H : Hp) (C : Addr) (cl : List (Str × Addr)) (fp : List Addr), PG (X.blk s H scope (compEnvC scope cl C X.env) fp) tg (rg X.K is fg)) (ht : ∀ (s : Shared) (H : Hp) (C : Addr) (cl : List (Str × Addr)) (fp : List Addr), PTs (X.blk s H scope (compEnvC scope cl C X.env) fp) ifs (rt X.K ft))
    (he : ∀ (s : Shared) (H : Hp) (C : Addr) (cl : List (Str × Addr)) (fp : List Addr), PE (X.blk s H scope (compEnvC scope cl C X.env) fp) elt (rd X.K fe)) (hsw : swapsWith (.ListComp elt [⟨tg, iter, ifs, 0⟩] scope pos) (some (.Name y py)) spos.line X.env = pure true)
    (hy : X.N[i]? = some y := by rfl) (hyl : X.env.scope.names.lookup y = some .local := by rfl) (hs : ∀ x, foldedSetIterable iter X.env x = pure x := by intro _; rfl) :
    PS X (.Assign [.Name y py] (.ListComp elt [⟨tg, iter, ifs, 0⟩] scope pos) spos) (rs X.K (sOwn i (fLc fi (own.map (·.2)) fg ft fe))) := PS.imp (ps_setLc hc hN hy hyl hsw hi ok hg ht he hs) fun D σ H q => by
  obtain ⟨Oc, w, ρ, S, R, ev, hf, k⟩ := tAsg_own (X := X) D σ H q
  exact rd_lc (K := X.K) his σ H _ ⟨Oc, w, ρ, S, R, ev, hf, k⟩
theorem s_setLcD (i : Nat) {py : Pos} {elt tg iter : Expr} {ifs : List Expr} {scope : Scope} {own : List (Str × Nat)} {spos : Pos} {ft fe : FE} (hc : X.calm = true) (hN : X.N.Nodup) (hi : PI X tg iter (ric X.K fi)) (ok : BlkOk X.N X.env.scope scope own) (his : ∀ j ∈ is, j ∈ own.map (·.2))
    (hg : ∀ (s : Shared) (H : Hp) (C : Addr) (cl : List (Str × Addr)) (fp : List Addr), PG (X.blk s H scope (compEnvC scope cl C X.env) fp) tg (rg X.K is fg)) (ht : ∀ (s : Shared) (H : Hp) (C : Addr) (cl : List (Str × Addr)) (fp : List Addr), PTs (X.blk s H scope (compEnvC scope cl C X.env) fp) ifs (rt X.K ft))
    (he : ∀ (s : Shared) (H : Hp) (C : Addr) (cl : List (Str × Addr)) (fp : List Addr), PE (X.blk s H scope (compEnvC scope cl C X.env) fp) elt (rd X.K fe)) (hsw : swapsWith (.ListComp elt [⟨tg, iter, ifs, 0⟩] scope pos) (some (.Name y py)) spos.line X.env = pure true)
    (hy : X.N[i]? = some y := by rfl) (hyl : X.env.scope.names.lookup y = some .local := by rfl) (hs : ∀ x, foldedSetIterable iter X.env x = pure x := by intro _; rfl) :
    PS X (.Assign [.Name y py] (.ListComp elt [⟨tg, iter, ifs, 0⟩] scope pos) spos) (rs X.K (sSet i (fLc fi (own.map (·.2)) fg ft fe))) := PS.imp (ps_setLc hc hN hy hyl hsw hi ok hg ht he hs) fun D σ H q => by
  obtain ⟨Oc, w, ρ, S, R, ev, hf, k⟩ := tAsg_set (X := X) D σ H q
  refine rd_lc (K := X.K) his σ H _ ⟨Oc, w, ρ, S, R, ev, hf, fun ds S' p vs H' ev' g n hp r q => k (.list ds) S' (.ref p) H' ev' g ?_ q⟩
  simp only [Rep]
  refine ⟨p, vs, rfl, .inl ⟨.inl hp, fun z => ?_⟩, Reps.less' r⟩
  obtain ⟨u, hu, _⟩ := ev.Ool p z
  rw [hu] at n
  cases n
/-! ### loops -/
theorem s_for {tg iter : Expr} {body : List Stmt} (hp : PassesOwn (model X.prog X.w) X.A X.env X.xe) (hc : X.calm = true) (hi : PI X tg iter (rif X.K fi)) (hg : PG X tg (rg X.K is fg)) (hb : PSs X body (rs X.K g))
    (hs : ∀ x, foldedSetIterable iter X.env x = pure x := by intro _; rfl) : PS X (.For tg iter body [] pos) (rs X.K (sFor fi fg g)) := PS.imp (ps_for hp hc hi hg hb hs) fun D σ H ⟨Oc, w, H0, ρ, S, B, ev, fz, hf, k1, k2, k3, k4⟩ => by
  refine ⟨Oc, w, ρ, S, _, ev, hf, fun ds S1 J H1 ev1 g1 it hgo => ?_⟩
  obtain ⟨G, Y, wk, hG⟩ := it.ex
  refine for_it wk (fun i σ' H' => ∃ ρ' S', EV X.K Oc w σ' H' ρ' S' ∧ Fz w H0 σ' H' ρ' ∧ Fw Oc σ ρ H1 σ' ρ' H' ∧ forGo fg g (ds.drop i) ρ' S' B) ⟨ρ, S1, ev1, fz.go g1, Fw.refl, hgo⟩
    (fun i σ' H' _ ⟨ρ', S', ev', _, fw, _⟩ => (hG _ H' ev'.Ool fw.own fw.keep).1) (fun i x σ' H' H3 hlt ⟨ρ', S', ev', fz', fw, hgo'⟩ hy => ?_) (fun σ' H' ⟨ρ', S', ev', fz', fw, hgo'⟩ => ?_)
  · obtain ⟨d, hd, sm, rx⟩ := (hG _ H' ev'.Ool fw.own fw.keep).2 i x H3 hy hlt
    rw [List.drop_eq_getElem_cons hlt] at hgo'
    rw [List.getElem?_eq_getElem hlt] at hd
    cases hd
    have ev3 := ev'.same sm
    have fw3 : Fw Oc σ ρ H1 σ' ρ' H3 := fw.trans (ev'.fw (Gr.of sm))
    refine ⟨Oc, w, ρ', S', _, _, ev3, rx, hgo', fun σ2 ρ2 ev4 t q => ?_⟩
    have fz4 := t.fz (fz'.go (Gr.of sm))
    have fw4 : Fw Oc σ ρ H1 σ2 ρ2 H3 := fw3.trans t.fw
    exact ⟨Oc, w, H0, ρ2, S', _, ev4, fz4, q, fun σ5 H5 ρ5 S5 ev5 fz5 fw5 q5 => ⟨ρ5, S5, ev5, fz5, fw4.trans fw5, q5⟩, k2, fun σ5 H5 ρ5 S5 ev5 fz5 fw5 q5 => k1 σ5 H5 ρ5 S5 ev5 fz5 (((ev.fw g1).trans fw4).trans fw5) q5,
      fun σ5 H5 ρ5 S5 ev5 fz5 fw5 q5 => ⟨ρ5, S5, ev5, fz5, fw4.trans fw5, q5⟩⟩
  · rw [List.drop_eq_nil_of_le (Nat.le_refl _)] at hgo'
    exact k1 σ' H' ρ' S' ev' fz' ((ev.fw g1).trans fw) hgo'
theorem s_while {body : List Stmt} (hp : PassesOwn (model X.prog X.w) X.A X.env X.xe) (ht : PT X c (rt X.K fc)) (hb : PSs X body (rs X.K g)) : PS X (.While c body [] pos) (rs X.K (sWhile fc g)) := PS.imp (ps_while hp ht hb) fun D σ H ⟨Oc, w, H0, ρ, S, B, ev, fz, ⟨I, μ, i0, hI⟩, k1, k2, k3, k4⟩ => by
  refine ⟨fun m σ' H' => ∃ ρ' S', EV X.K Oc w σ' H' ρ' S' ∧ Fz w H0 σ' H' ρ' ∧ Fw Oc σ ρ H σ' ρ' H' ∧ I ρ' S' ∧ m = μ ρ' S', ⟨_, ρ, S, ev, fz, Fw.refl, i0, rfl⟩, ?_⟩
  rintro m σ' H' ⟨ρ', S', ev', fz', fw', i', rfl⟩
  refine ⟨Oc, w, ρ', S', _, ev', hI ρ' S' i', fun b S1 H1 ev1 g1 q => ?_⟩
  have fw1 := fw'.trans (ev'.fw g1)
  cases b with
  | true =>
    rw [if_pos rfl] at q
    refine iteT ⟨fun σ2 H2 => ∃ ρ2 S2, EV X.K Oc w σ2 H2 ρ2 S2 ∧ Fz w H0 σ2 H2 ρ2 ∧ Fw Oc σ ρ H σ2 ρ2 H2 ∧ I ρ2 S2 ∧ μ ρ2 S2 < μ ρ' S', fun σ2 H2 ⟨ρ2, S2, e2, z2, f2, i2, l2⟩ => ⟨_, l2, ρ2, S2, e2, z2, f2, i2, rfl⟩, ?_⟩
    exact ⟨Oc, w, H0, ρ', S1, _, ev1, fz'.go g1, q, fun σ5 H5 ρ5 S5 ev5 fz5 fw5 ⟨q5, l5⟩ => ⟨ρ5, S5, ev5, fz5, fw1.trans fw5, q5, l5⟩, k2, fun σ5 H5 ρ5 S5 ev5 fz5 fw5 q5 => k1 σ5 H5 ρ5 S5 ev5 fz5 (fw1.trans fw5) q5,
      fun σ5 H5 ρ5 S5 ev5 fz5 fw5 ⟨q5, l5⟩ => ⟨ρ5, S5, ev5, fz5, fw1.trans fw5, q5, l5⟩⟩
  | false =>
    rw [if_neg Bool.false_ne_true] at q
    exact iteF (k1 σ' H1 ρ' S1 ev1 (fz'.go g1) fw1 q)
/-! ### lists of one's own, changed -/
theorem EV.ownSet {K : Fr_} {Oc : AS} {w : List Addr} {H0 : Hp} {σ : L2.St} {H : Hp} {ρ : Rho} {S : SW} {i : Nat} {xs ds : List PyData} {p : Addr} {vs : List V} (e : EV K Oc w σ H ρ S) (fz : Fz w H0 σ H ρ) (hx : ρ[i]? = some (.own xs)) (hp : σ[i]? = some (some (.ref p))) (r : Reps K (OO Oc σ ρ) H ds vs) :
    EV K Oc w σ (upd H p (.lst vs)) (ρ.set i (.own ds)) S ∧ Fz w H0 σ (upd H p (.lst vs)) (ρ.set i (.own ds)) ∧ Fw Oc σ ρ H σ (ρ.set i (.own ds)) (upd H p (.lst vs)) := by
  have hi : i < ρ.length := (List.getElem?_eq_some_iff.mp hx).1
  have op : OO Oc σ ρ p := .inr ⟨i, xs, hx, hp⟩
  obtain ⟨p', us, hp', hl, np, _⟩ := e.own i xs hx
  rw [hp] at hp'
  cases hp'
  have old : ∀ {j : Nat} {y : Sl}, i ≠ j → (ρ.set i (.own ds))[j]? = some y → ρ[j]? = some y := fun {j y} hj h => by
    rw [List.getElem?_set_ne hj] at h
    exact h
  have oo : ∀ a, OO Oc σ (ρ.set i (.own ds)) a → OO Oc σ ρ a := by
    rintro a (h | ⟨j, ys, h1, h2⟩)
    · exact .inl h
    · by_cases hj : i = j
      · subst hj
        exact .inr ⟨i, xs, hx, h2⟩
      · exact .inr ⟨j, ys, old hj h1, h2⟩
  have st : Step (OO Oc σ ρ) H (upd H p (.lst vs)) := fun a u n h => by rw [upd_ne (fun z => n (by rw [z]; exact op))]; exact h
  have hw : p ∉ w := e.nw np
  have dold : ∀ (j : Nat) (kvs : List (List Key × PyData)), (ρ.set i (.own ds))[j]? = some (Sl.dct kvs) → ρ[j]? = some (Sl.dct kvs) ∧ σ[j]? = σ[j]? := fun j kvs h => by
    by_cases hj : i = j
    · subst hj
      rw [List.getElem?_set_self hi] at h
      cases h
    · exact ⟨old hj h, rfl⟩
  refine ⟨⟨by simp [e.len], fun j d h => ?_, fun j ys h => ?_, fun j l ys zs a h1 h2 h3 h4 => ?_, fun j n h => ?_, e.wo, e.wn, e.ws.step st e.Ool (fun a ha o h => by rw [upd_ne (fun z => hw (by rw [← z]; exact ha))]; exact h), fun a h => ?_, e.dct.to dold (fun a ws h o => ⟨by rw [upd_ne (fun z => np (by rw [← z]; exact o))]; exact h, o⟩) fun ds vs r => Reps.less oo ds vs (Reps.step st e.Ool ds vs r)⟩, ⟨fun a u n h => ?_, fun j ys a h1 h2 => ?_, fun j ys a h1 h2 => fz.dct j ys a (dold j ys h1).1 h2⟩, ⟨st, fun a z => .inl (oo a z)⟩⟩
  · by_cases hj : i = j
    · subst hj
      rw [List.getElem?_set_self hi] at h
      cases h
    · obtain ⟨v, hv, rv⟩ := e.dat j d (old hj h)
      exact ⟨v, hv, Rep.less oo d v (Rep.step st e.Ool d v rv)⟩
  · by_cases hj : i = j
    · subst hj
      rw [List.getElem?_set_self hi] at h
      cases h
      exact ⟨p, vs, hp, upd_same, np, Reps.less oo _ vs (Reps.step st e.Ool _ vs r)⟩
    · obtain ⟨a, us, h1, h2, h3, h4⟩ := e.own j ys (old hj h)
      have hne : a ≠ p := fun z => hj (e.inj i j xs ys p hx (old hj h) hp (by rw [← z]; exact h1))
      exact ⟨a, us, h1, by rw [upd_ne hne]; exact h2, h3, Reps.less oo ys us (Reps.step st e.Ool ys us h4)⟩
  · have up : ∀ {j : Nat} {ys : List PyData}, (ρ.set i (.own ds))[j]? = some (Sl.own ys) → ∃ zs, ρ[j]? = some (Sl.own zs) := fun {j ys} h => by
      by_cases hj : i = j
      · subst hj
        exact ⟨xs, hx⟩
      · exact ⟨ys, old hj h⟩
    obtain ⟨y', e1⟩ := up h1
    obtain ⟨z', e2⟩ := up h2
    exact e.inj j l y' z' a e1 e2 h3 h4
  · by_cases hj : i = j
    · subst hj
      rw [List.getElem?_set_self hi] at h
      cases h
    · exact e.cel j n (old hj h)
  · obtain ⟨u, hu, mu⟩ := e.ol a h
    exact ⟨u, by rw [upd_ne (fun z => np (by rw [← z]; exact h))]; exact hu, mu⟩
  · have hne : a ≠ p := fun z => by
      have q := fz.own i xs p hx hp
      rw [z, q] at h
      cases h
    rw [upd_ne hne]
    exact fz.gr a u n h
  · by_cases hj : i = j
    · subst hj
      exact fz.own i xs a hx h2
    · exact fz.own j ys a (old hj h1) h2
theorem s_app (i : Nat) {p apos cpos : Pos} (he : PE X e (rd X.K f)) (hN : X.N[i]? = some x := by rfl) (hv : Vis X.env.scope x := by first | exact Or.inl rfl | exact Or.inr (Or.inl rfl) | exact Or.inr (Or.inr rfl)) (hd : (x == ("__debug__" : Str)) = false := by decide)
    (hcd : (x == ("__classdict__" : Str)) = false := by decide) (hbase : attributeBase (.Name x p) "append" X.env (eval (.Name x p) X.env) = eval (.Name x p) X.env := by rfl)
    (hfew : ((backTo cpos (starEach (e :: []) X.env)).all (fun x => !x.1) && (backToKw cpos (keywordEach [] X.env)).all (fun x => x.1.isSome)
      && decide ((e :: []).length + ([] : List Keyword).length + (if ([] : List Keyword).isEmpty then 0 else 1) < 30)) = true := by rfl)
    (hline : (apos.endLine == cpos.line) = true := by rfl) (hst : starEach (e :: []) X.env = (false, eval e X.env) :: starEach [] X.env := by rfl) (hpl : (backTo cpos (starEach [] X.env)).any (·.1) = false := by rfl)
    (hs : swapsWith (.Call (.Attribute (.Name x p) "append" apos) [e] [] cpos) none pos.line X.env = pure false := by rfl) :
    PS X (.Expr (.Call (.Attribute (.Name x p) "append" apos) [e] [] cpos) pos) (rs X.K (sApp i f)) :=
  PS.imp (ps_expr (pe_bm PySem.F.plainAttrs_list PySem.F.slot_list_append PySem.F.type_list_append mt_append (pe_var (i := i) hN hv hd hcd) (pa_cons he pa_nil hst) hbase hfew hline hst hpl) hs) fun D σ H ⟨Oc, w, H0, ρ, S, B, ev, fz, hf, k1, k2, k3, k4⟩ => by
    unfold sApp at hf
    split at hf
    · rename_i xs hx
      obtain ⟨hz, hf⟩ := hf
      obtain ⟨a, vs, h1, h2, h3, h4⟩ := ev.own i xs hx
      refine ⟨_, h1, .inl ⟨rfl, vs, SqL.of h2⟩, Oc, w, ρ, S, _, ev, hf, fun d S1 v H1 ev1 g1 r q => ?_⟩
      have h2' := g1 a _ (ev.nw h3) h2
      have r4 := Reps.step (ev.stepO g1) ev.Ool xs vs h4
      obtain ⟨e2, z2, f2⟩ := EV.ownSet (ds := xs ++ [d]) (vs := vs ++ [v]) ev1 (fz.go g1) hx h1 (r4.app (by simp only [Reps]; exact ⟨v, [], rfl, r, rfl⟩))
      exact ⟨a, vs, v, rfl, rfl, h2', by rw [h4.len]; exact hz, k1 _ _ _ S1 e2 z2 ((ev.fw g1).trans f2) q⟩
    · exact hf.elim
theorem s_put (i : Nat) {p spos : Pos} {ki : Expr} {fk : FE} (he : PE X e (rd X.K f)) (hk : PE X ki (rb X.K fk)) (hN : X.N[i]? = some x := by rfl) (hv : Vis X.env.scope x := by first | exact Or.inl rfl | exact Or.inr (Or.inl rfl) | exact Or.inr (Or.inr rfl)) (hd : (x == ("__debug__" : Str)) = false := by decide)
    (hcd : (x == ("__classdict__" : Str)) = false := by decide) (hsub : ∀ v, assign (.Subscript (.Name x p) ki spos) X.env v = (do
      let ov ← holding [v] (eval (.Name x p) X.env)
      let iv ← holding [v, ov] (eval ki X.env)
      standAt spos
      holding [v, ov, iv] (setItem ov iv v)
      release [v, ov, iv] []) := by intro _; rfl) (hs : swapsWithSole [.Subscript (.Name x p) ki spos] e pos.line X.env = pure false := by rfl) (hw : swappedStores [.Subscript (.Name x p) ki spos] e X.env = pure none := by rfl)
    (h1 : (assignEach [.Subscript (.Name x p) ki spos] X.env).map (·.2) = [assign (.Subscript (.Name x p) ki spos) X.env] := by rfl) : PS X (.Assign [.Subscript (.Name x p) ki spos] e pos) (rs X.K (sPut i fk f)) :=
  PS.imp (ps_asg he (pg_sub (pe_var (i := i) hN hv hd hcd) hk set_list hsub) hs hw h1) fun D σ H ⟨Oc, w, H0, ρ, S, B, ev, fz, hf, k1, k2, k3, k4⟩ => by
    unfold sPut at hf
    split at hf
    · rename_i xs hx
      refine ⟨Oc, w, ρ, S, _, ev, hf, fun d S1 v H1 ev1 g1 r q => ?_⟩
      obtain ⟨a, vs, h1, h2, h3, h4⟩ := ev1.own i xs hx
      refine ⟨_, h1, Oc, w, ρ, S1, _, ev1, q, fun kd S2 kv H2 ev2 g2 rk q2 => ?_⟩
      obtain ⟨k, rfl, q3⟩ := asI_inv q2
      split at q3
      · rename_i j hj
        have h2' := g2 a _ (ev1.nw h3) h2
        have r4 := Reps.step (ev1.stepO g2) ev1.Ool xs vs h4
        have rr := Rep.step (ev1.stepO g2) ev1.Ool d v r
        obtain ⟨e2, z2, f2⟩ := EV.ownSet (ds := xs.set j d) (vs := vs.set j v) ev2 (fz.go (g1.trans g2)) hx h1 (r4.set j rr)
        exact ⟨a, vs, k, j, rfl, rk.int, h2', by rw [h4.len]; exact hj, k1 _ _ _ S2 e2 z2 ((ev.fw (g1.trans g2)).trans f2) q3⟩
      · exact q3.elim
    · exact hf.elim
theorem s_ins (i : Nat) {p apos cpos : Pos} (ha : PE X a (rb X.K fa)) (he : PE X e (rd X.K f)) (hN : X.N[i]? = some x := by rfl) (hv : Vis X.env.scope x := by first | exact Or.inl rfl | exact Or.inr (Or.inl rfl) | exact Or.inr (Or.inr rfl)) (hd : (x == ("__debug__" : Str)) = false := by decide)
    (hcd : (x == ("__classdict__" : Str)) = false := by decide) (hbase : attributeBase (.Name x p) "insert" X.env (eval (.Name x p) X.env) = eval (.Name x p) X.env := by rfl)
    (hfew : ((backTo cpos (starEach (a :: [e]) X.env)).all (fun x => !x.1) && (backToKw cpos (keywordEach [] X.env)).all (fun x => x.1.isSome)
      && decide ((a :: [e]).length + ([] : List Keyword).length + (if ([] : List Keyword).isEmpty then 0 else 1) < 30)) = true := by rfl)
    (hline : (apos.endLine == cpos.line) = true := by rfl) (hst : starEach (a :: [e]) X.env = (false, eval a X.env) :: starEach [e] X.env := by rfl) (hst2 : starEach (e :: []) X.env = (false, eval e X.env) :: starEach [] X.env := by rfl) (hpl : (backTo cpos (starEach [e] X.env)).any (·.1) = false := by rfl)
    (hs : swapsWith (.Call (.Attribute (.Name x p) "insert" apos) [a, e] [] cpos) none pos.line X.env = pure false := by rfl) :
    PS X (.Expr (.Call (.Attribute (.Name x p) "insert" apos) [a, e] [] cpos) pos) (rs X.K (sIns i fa f)) :=
  PS.imp (ps_expr (pe_bm PySem.F.plainAttrs_list PySem.F.slot_list_insert PySem.F.type_list_insert mt_insert (pe_var (i := i) hN hv hd hcd) (pa_cons ha (pa_cons he pa_nil hst2) hst) hbase hfew hline hst hpl) hs) fun D σ H ⟨Oc, w, H0, ρ, S, B, ev, fz, hf, k1, k2, k3, k4⟩ => by
    unfold sIns at hf
    split at hf
    · rename_i xs hx
      obtain ⟨hz, hf⟩ := hf
      obtain ⟨p, vs, h1, h2, h3, h4⟩ := ev.own i xs hx
      refine ⟨_, h1, .inl ⟨rfl, vs, SqL.of h2⟩, Oc, w, ρ, S, _, ev, hf, fun kd S1 kv H1 ev1 g1 rk q => ⟨Oc, w, ρ, S1, _, ev1, q, fun d S2 v H2 ev2 g2 r q2 => ?_⟩⟩
      obtain ⟨k, rfl, ⟨k0, k63⟩, q3⟩ := asI_inv q2
      have h2' := (g1.trans g2) p _ (ev.nw h3) h2
      have r4 := Reps.step (ev.stepO (g1.trans g2)) ev.Ool xs vs h4
      obtain ⟨e2, z2, f2⟩ := EV.ownSet (ds := xs.take k.toNat ++ [d] ++ xs.drop k.toNat) (vs := vs.take k.toNat ++ [v] ++ vs.drop k.toNat) ev2 (fz.go (g1.trans g2)) hx h1 (((r4.take _).app (by simp only [Reps]; exact ⟨v, [], rfl, r, rfl⟩)).app (r4.drop _))
      exact ⟨p, vs, k, v, rfl, by rw [rk.int], h2', by rw [h4.len]; exact hz, k0, k63, k1 _ _ _ S2 e2 z2 ((ev.fw (g1.trans g2)).trans f2) q3⟩
    · exact hf.elim
end
end DL

namespace DL
open PySem L2 PyProof.Rows
/-! ### a def -/
theorem Args.at {K : Fr_} {O : AS} {w : List Addr} {H : Hp} : ∀ {as : List Sl} {vs : List V} {i : Nat} {d : Sl}, Args K O w H as vs → as[i]? = some d → ∃ v, vs[i]? = some v ∧ ArgRep K O w H d v
  | [], _, i, d, h, e => by simp at e
  | d' :: ds, _, 0, d, h, e => by
    simp only [Args] at h
    obtain ⟨v, r, rfl, h1, h2⟩ := h
    simp at e; subst e
    exact ⟨v, rfl, h1⟩
  | d' :: ds, _, i + 1, d, h, e => by
    simp only [Args] at h
    obtain ⟨v, r, rfl, h1, h2⟩ := h
    simp at e
    obtain ⟨v', e', h'⟩ := Args.at h2 e
    exact ⟨v', by simpa using e', h'⟩
theorem start_at {N : List Str} {vs : List V} {i : Nat} {v : V} (h : vs[i]? = some v) : (L2.start N vs)[i]? = some (some v) := by
  unfold L2.start
  have hi : i < vs.length := (List.getElem?_eq_some_iff.mp h).1
  rw [List.getElem?_append_left (by rw [List.length_map]; exact hi), List.getElem?_map, h]
  rfl
/-- the slots at a def's entry -/
def ent (N : List Str) (as : List Sl) : Rho := as ++ List.replicate (N.length - as.length) Sl.un
theorem ent_at {N : List Str} {as : List Sl} {i : Nat} {d : Sl} (h : (ent N as)[i]? = some d) : d = .un ∨ as[i]? = some d := by
  unfold ent at h
  by_cases hi : i < as.length
  · rw [List.getElem?_append_left hi] at h
    exact .inr h
  · rw [List.getElem?_append_right (by omega)] at h
    left
    rw [List.getElem?_replicate] at h
    split at h
    · exact (Option.some.inj h).symm
    · cases h
theorem ent_ev {K : Fr_} {Oc : AS} {w : List Addr} {H : Hp} {S : SW} {N : List Str} {as : List Sl} {vs : List V} (hl : as.length ≤ N.length) (r : Args K Oc w H as vs) (ol : OL Oc H) (ow : ∀ a, a ∈ w → Oc a) (wn : w.Nodup) (hw : Wel K w H S) :
    EV K Oc w (L2.start N vs) H (ent N as) S ∧ Fz w H (L2.start N vs) H (ent N as) := by
  have no : ∀ (i : Nat) (xs : List PyData), (ent N as)[i]? ≠ some (Sl.own xs) := fun i xs h => by
    rcases ent_at h with z | z
    · cases z
    · obtain ⟨v, _, q⟩ := Args.at r z
      exact q
  have nd : ∀ (i : Nat) (kvs : List (List Key × PyData)), (ent N as)[i]? ≠ some (Sl.dct kvs) := fun i xs h => by
    rcases ent_at h with z | z
    · cases z
    · obtain ⟨v, _, q⟩ := Args.at r z
      exact q
  have oo : ∀ a, OO Oc (L2.start N vs) (ent N as) a → Oc a := by
    rintro a (h | ⟨i, xs, h1, h2⟩)
    · exact h
    · exact absurd h1 (no i xs)
  have lv := r.len
  refine ⟨⟨?_, fun i d h => ?_, fun i xs h => absurd h (no i xs), fun i j xs ys a h => absurd h (no i xs), fun i n h => ?_, ow, wn, hw, ol, ⟨fun i xs h => absurd h (nd i xs), fun i j ks ls a h => absurd h (nd i ks)⟩⟩, ⟨Gr.refl, fun i xs a h => absurd h (no i xs), fun i xs a h => absurd h (nd i xs)⟩⟩
  · unfold ent L2.start
    simp only [List.length_append, List.length_replicate, List.length_map]
    omega
  · rcases ent_at h with z | z
    · cases z
    · obtain ⟨v, hv, q⟩ := Args.at r z
      exact ⟨v, start_at hv, Rep.less oo d v q⟩
  · rcases ent_at h with z | z
    · cases z
    · obtain ⟨v, hv, a, q1, q2⟩ := Args.at r z
      subst q2
      exact ⟨a, q1, start_at hv⟩
section
variable {P : Program} {W : World} {K : Fr_} {mg : Str → Option Value} {base : Heap}
/-- THE RULE for a def: its body as a term, then data alone -/
theorem dfn_ok {x qual : Str} {st : Stmt} {f : Addr} {fd : FuncData} {N ps : List Str} {k n : Nat} {C : Ct} {g : FS} (F : Fun K x qual st f fd) (S : FnScope N ps (defScope st)) (hn : ps.length = n) (hN : n ≤ N.length)
    (hbody : ∀ (cdv : Value) (A : Around) (outer : List Env) (s : Shared) (H : Hp) (E : XK), RoomG k (cxOf CX0 P W K mg base N qual (defScope st) f cdv A outer s H E).nox.A →
      PSs (cxOf CX0 P W K mg base N qual (defScope st) f cdv A outer s H E).nox (defBody st) (rs K g))
    (hC : ∀ as S R, as.length = n → C as S R → g (ent N as) S { nx := fun _ S' => R .none S', rt := R }) : Pro P W K mg base (k + 1) f fd ps (spC K n C) := by
  refine .of F S (fun vs H Q E h => ?_) (fun cdv A outer s H vs Q E hg hr h => ⟨rs K g, hbody cdv A outer s H E ⟨hr, quiet_in hg⟩, ?_⟩)
  · obtain ⟨Oc, w, SS, as, R, hl, r, _⟩ := h
    rw [r.len, hl, hn]
  · obtain ⟨Oc, w, SS, as, R, hl, r, ol, ow, wn, hw, hc, k⟩ := h
    obtain ⟨ev, fz⟩ := ent_ev (N := N) (by rw [hl]; exact hN) r ol ow wn hw
    exact ⟨Oc, w, H, _, SS, _, ev, fz, hC as SS R hl hc, fun σ' H' ρ' S' ev' fz' fw q => k .none S' .non H' fz'.gr ev'.ws (by simp only [Rep]) q, ⟨fun H' d v S' g w' rr q => k d S' v H' g w' rr q, fun _ _ _ _ _ _ _ _ _ _ q => q.elim⟩,
      fun _ _ _ _ _ _ _ q => q.elim, fun _ _ _ _ _ _ _ q => q.elim⟩
theorem dfn {x qual : Str} {st : Stmt} {f : Addr} {fd : FuncData} {N ps : List Str} {k n : Nat} {C : Ct} {g : FS} (F : Fun K x qual st f fd) (S : FnScope N ps (defScope st)) (hm : mg x = some (.ref f)) (hb : Binds K fd ps []) (hn : ps.length = n) (hN : n ≤ N.length)
    (hbody : ∀ (cdv : Value) (A : Around) (outer : List Env) (s : Shared) (H : Hp) (E : XK), RoomG k (cxOf CX0 P W K mg base N qual (defScope st) f cdv A outer s H E).nox.A →
      PSs (cxOf CX0 P W K mg base N qual (defScope st) f cdv A outer s H E).nox (defBody st) (rs K g))
    (hC : ∀ as S R, as.length = n → C as S R → g (ent N as) S { nx := fun _ S' => R .none S', rt := R }) : Cal P W K mg base x (k + 1) n C :=
  ⟨f, fd, ps, dfn_ok F S hn hN hbody hC, F.kp, hb, hm⟩
/-- a weaker promise -/
theorem spC_imp {n : Nat} {C C' : Ct} (h : ∀ as S R, C' as S R → C as S R) {vs : List V} {H : Hp} {Q : VK} {E : XK} (q : spC K n C' vs H Q E) : spC K n C vs H Q E := by
  obtain ⟨Oc, w, SS, as, R, hl, r, ol, ow, wn, hw, hc, k⟩ := q
  exact ⟨Oc, w, SS, as, R, hl, r, ol, ow, wn, hw, h as SS R hc, k⟩
theorem Cal.imp {x : Str} {k n : Nat} {C C' : Ct} (c : Cal P W K mg base x k n C) (h : ∀ as S R, C' as S R → C as S R) : Cal P W K mg base x k n C' := by
  obtain ⟨f, fd, ps, F, a, b, d⟩ := c.ex
  exact ⟨f, fd, ps, F.imp fun vs H Q E q => spC_imp h q, a, b, d⟩
theorem Cal.mono {x : Str} {k k' n : Nat} {C : Ct} (c : Cal P W K mg base x k n C) (h : k ≤ k') : Cal P W K mg base x k' n C := by
  obtain ⟨f, fd, ps, F, a, b, d⟩ := c.ex
  exact ⟨f, fd, ps, F.mono h, a, b, d⟩
/-- a promise that asks for what can't be is kept -/
theorem Cal.void {x : Str} {n : Nat} {C : Ct} {f : Addr} {fd : FuncData} {ps : List Str} (hk : PySem.W.keepIn K (.ref f) = true) (hm : mg x = some (.ref f)) (hb : Binds K fd ps []) (no : ∀ as S R, ¬ C as S R) : Cal P W K mg base x 0 n C := by
  have no' : ∀ vs H Q E, ¬ spC K n C vs H Q E := fun vs H Q E ⟨_, _, SS, as, R, _, _, _, _, _, _, hc, _⟩ => no as SS R hc
  exact ⟨f, fd, ps, .no no', hk, hb, hm⟩
end
/-! ### the well: a list of ints that the callers hold, too -/
def fWix (i : Nat) (fk : FE) : FE := fun ρ S R => match ρ[i]? with
  | some (.cel n) => fk ρ S fun x S1 => asI x fun k => match S1[n]? with
    | some (.lst xs) => match atI xs k with
      | some d => R d S1
      | none => False
    | _ => False
  | _ => False
def sWput (i : Nat) (fk f : FE) : FS := fun ρ S B => match ρ[i]? with
  | some (.cel n) => f ρ S fun d S1 => fk ρ S1 fun x S2 => asI x fun k => match S2[n]? with
    | some (.lst xs) => match ixN xs.length k with
      | some j => noLsts (xs.set j d) = true ∧ B.nx ρ (S2.set n (.lst (xs.set j d)))
      | none => False
    | _ => False
  | _ => False
/-- cell[k], name = a pair -/
def sWdiv (i j : Nat) (fk f : FE) : FS := fun ρ S B => match ρ[i]? with
  | some (.cel n) => i ≠ j ∧ f ρ S fun d S1 => match d with
    | .tuple [q, r] => fk ρ S1 fun x S2 => asI x fun k => match S2[n]? with
      | some (.lst xs) => match ixN xs.length k with
        | some l => noLsts (xs.set l q) = true ∧ B.nx (ρ.set j (.dat r)) (S2.set n (.lst (xs.set l q)))
        | none => False
      | _ => False
    | _ => False
  | _ => False
section
variable {K : Fr_} {Oc : AS} {w : List Addr} {H : Hp} {σ : L2.St} {ρ : Rho} {S : SW}
theorem EV.celAt {n : Nat} {a : Addr} {xs : List PyData} (e : EV K Oc w σ H ρ S) (hw : w[n]? = some a) (hs : S[n]? = some (.lst xs)) : noLsts xs = true ∧ ∃ vs, H a = some (.lst vs) ∧ Reps K (OO Oc σ ρ) H xs vs := by
  obtain ⟨n1, vs, h1, h2⟩ := e.ws.at' n a _ hw hs
  exact ⟨n1, vs, h1, Reps.free xs vs n1 h2⟩
/-- a cell has changed -/
theorem EV.celSet {n : Nat} {a : Addr} {xs : List PyData} {vs : List V} (e : EV K Oc w σ H ρ S) (hw : w[n]? = some a) (nl : noLsts xs = true) (r : Reps K (OO Oc σ ρ) H xs vs) : EV K Oc w σ (upd H a (.lst vs)) ρ (S.set n (.lst xs)) ∧ Gr w H (upd H a (.lst vs)) := by
  have g : Gr w H (upd H a (.lst vs)) := fun b u nb h => by rw [upd_ne (fun z => nb (by rw [z]; exact List.mem_of_getElem? hw))]; exact h
  have ln : n < S.length := by rw [← e.ws.len]; exact (List.getElem?_eq_some_iff.mp hw).1
  refine ⟨e.go g ⟨by rw [List.length_set]; exact e.ws.len, fun m b c e1 e2 => ?_⟩, g⟩
  by_cases hm : n = m
  · subst hm
    rw [hw] at e1
    cases e1
    rw [List.getElem?_set_self ln] at e2
    cases e2
    exact ⟨nl, vs, upd_same, Reps.free xs vs nl (Reps.step (e.stepO g) e.Ool xs vs r)⟩
  · rw [List.getElem?_set_ne hm] at e2
    refine CRep.step (e.stepO g) e.Ool (fun o ho => ?_) (e.ws.at' m b c e1 e2)
    rw [upd_ne (fun z => hm (nd_inj e.wn hw (by rw [← z]; exact e1)))]
    exact ho
end
section
variable {X : Cx} {e : Expr} {pos : Pos} {f fk : FE} {x y : Str} {ki : Expr}
theorem atI_map {α β : Type} (g : α → β) {xs : List α} {i : Int} {v : α} (h : atI xs i = some v) : atI (xs.map g) i = some (g v) := by
  unfold atI at h ⊢
  rw [List.length_map]
  cases e : ixN xs.length i with
  | none => rw [e] at h; cases h
  | some j =>
    rw [e] at h
    show (xs.map g)[j]? = some (g v)
    rw [List.getElem?_map, show xs[j]? = some v from h]
    rfl
theorem d_wix (i : Nat) {p : Pos} (hk : PE X ki (rb X.K fk)) (hN : X.N[i]? = some x := by rfl) (hv : Vis X.env.scope x := by first | exact Or.inl rfl | exact Or.inr (Or.inl rfl) | exact Or.inr (Or.inr rfl)) (hd : (x == ("__debug__" : Str)) = false := by decide)
    (hcd : (x == ("__classdict__" : Str)) = false := by decide) (hs : PlainIx ki := by intro _ _; rfl) : PE X (.Subscript (.Name x p) ki pos) (rd X.K (fWix i fk)) := PE.imp (pe_ix ix_list (pe_var (i := i) hN hv hd hcd) hk hs) fun σ H Q ⟨Oc, w, ρ, S, R, ev, hf, k⟩ => by
  unfold fWix at hf
  split at hf
  · rename_i hx
    obtain ⟨a, hw, hσ⟩ := ev.cel i _ hx
    refine ⟨_, hσ, Oc, w, ρ, S, _, ev, hf, fun kd S1 kv H1 ev1 g1 rk q => ?_⟩
    obtain ⟨j, rfl, q1⟩ := asI_inv q
    split at q1
    · rename_i xs hs
      split at q1
      · rename_i z hz
        obtain ⟨_, vs, h1, r1⟩ := ev1.celAt hw hs
        obtain ⟨v, hv, rv⟩ := r1.atI hz
        exact ⟨a, _, j, v, rfl, rk.int, SqL.of h1, hv, k _ S1 _ H1 ev1 g1 rv q1⟩
      · exact q1.elim
    · exact q1.elim
  · exact hf.elim
theorem s_wput (i : Nat) {p spos : Pos} (he : PE X e (rd X.K f)) (hk : PE X ki (rb X.K fk)) (hN : X.N[i]? = some x := by rfl) (hv : Vis X.env.scope x := by first | exact Or.inl rfl | exact Or.inr (Or.inl rfl) | exact Or.inr (Or.inr rfl)) (hd : (x == ("__debug__" : Str)) = false := by decide)
    (hcd : (x == ("__classdict__" : Str)) = false := by decide) (hsub : ∀ v, assign (.Subscript (.Name x p) ki spos) X.env v = (do
      let ov ← holding [v] (eval (.Name x p) X.env)
      let iv ← holding [v, ov] (eval ki X.env)
      standAt spos
      holding [v, ov, iv] (setItem ov iv v)
      release [v, ov, iv] []) := by intro _; rfl) (hs : swapsWithSole [.Subscript (.Name x p) ki spos] e pos.line X.env = pure false := by rfl) (hw : swappedStores [.Subscript (.Name x p) ki spos] e X.env = pure none := by rfl)
    (h1 : (assignEach [.Subscript (.Name x p) ki spos] X.env).map (·.2) = [assign (.Subscript (.Name x p) ki spos) X.env] := by rfl) : PS X (.Assign [.Subscript (.Name x p) ki spos] e pos) (rs X.K (sWput i fk f)) :=
  PS.imp (ps_asg he (pg_sub (pe_var (i := i) hN hv hd hcd) hk set_list hsub) hs hw h1) fun D σ H ⟨Oc, w, H0, ρ, S, B, ev, fz, hf, k1, k2, k3, k4⟩ => by
    unfold sWput at hf
    split at hf
    · rename_i hx
      obtain ⟨a, hw, hσ⟩ := ev.cel i _ hx
      refine ⟨Oc, w, ρ, S, _, ev, hf, fun d S1 v H1 ev1 g1 r q => ?_⟩
      refine ⟨_, hσ, Oc, w, ρ, S1, _, ev1, q, fun kd S2 kv H2 ev2 g2 rk q2 => ?_⟩
      obtain ⟨k, rfl, q3⟩ := asI_inv q2
      split at q3
      · rename_i xs hs
        split at q3
        · rename_i j hj
          obtain ⟨nl, q3⟩ := q3
          obtain ⟨_, vs, h1, r1⟩ := ev2.celAt hw hs
          obtain ⟨ev3, g3⟩ := ev2.celSet hw nl (r1.set j (Rep.step (ev1.stepO g2) ev1.Ool d v r))
          have gg := (g1.trans g2).trans g3
          exact ⟨a, _, k, j, rfl, rk.int, h1, by rw [r1.len]; exact hj, k1 _ _ _ _ ev3 (fz.go gg) (ev.fw gg) q3⟩
        · exact q3.elim
      · exact q3.elim
    · exact hf.elim
theorem s_wdiv (i j : Nat) {p py spos pt : Pos} {kt : Nat} (hN : X.N.Nodup) (hc : X.calm = true) (he : PE X e (rb X.K f)) (hk : PE X ki (rb X.K fk)) (hi : X.N[i]? = some x := by rfl) (hj : X.N[j]? = some y := by rfl) (hv : Vis X.env.scope x := by first | exact Or.inl rfl | exact Or.inr (Or.inl rfl) | exact Or.inr (Or.inr rfl)) (hy : Loc X.env.scope y := by first | exact Or.inl rfl | exact Or.inr rfl)
    (hyf : X.fn y = true ∨ X.env.scope.names.lookup y = some .local := by first | exact .inl rfl | exact .inr rfl) (hd : (x == ("__debug__" : Str)) = false := by decide)
    (hcd : (x == ("__classdict__" : Str)) = false := by decide) (hsub : ∀ v, assign (.Subscript (.Name x p) ki spos) X.env v = (do
      let ov ← holding [v] (eval (.Name x p) X.env)
      let iv ← holding [v, ov] (eval ki X.env)
      standAt spos
      holding [v, ov, iv] (setItem ov iv v)
      release [v, ov, iv] []) := by intro _; rfl)
    (hs1 : (assignEach (.Subscript (.Name x p) ki spos :: [.Name y py]) X.env).map (·.2) = assign (.Subscript (.Name x p) ki spos) X.env :: (assignEach [.Name y py] X.env).map (·.2) := by rfl) (hs2 : (assignEach (.Name y py :: []) X.env).map (·.2) = assign (.Name y py) X.env :: (assignEach [] X.env).map (·.2) := by rfl)
    (hn : (assignEach [.Subscript (.Name x p) ki spos, .Name y py] X.env).length = 2 := by rfl) (hst : (assignEach [.Subscript (.Name x p) ki spos, .Name y py] X.env).findIdx? (·.1) = none := by rfl)
    (hs : swapsWithSole [.Tuple [.Subscript (.Name x p) ki spos, .Name y py] kt pt] e pos.line X.env = pure false := by rfl) (hw : swappedStores [.Tuple [.Subscript (.Name x p) ki spos, .Name y py] kt pt] e X.env = pure none := by rfl)
    (h1 : (assignEach [.Tuple [.Subscript (.Name x p) ki spos, .Name y py] kt pt] X.env).map (·.2) = [assign (.Tuple [.Subscript (.Name x p) ki spos, .Name y py] kt pt) X.env] := by rfl) : PS X (.Assign [.Tuple [.Subscript (.Name x p) ki spos, .Name y py] kt pt] e pos) (rs X.K (sWdiv i j fk f)) :=
  PS.imp (ps_asg he (pg_tup hc (pgs_cons (pg_sub (pe_var (i := i) hi hv hd hcd) hk set_list hsub) (pgs_cons (pg_name (i := j) hN hj hy hyf) pgs_nil hs2) hs1) hn hst) hs hw h1) fun D σ H ⟨Oc, w, H0, ρ, S, B, ev, fz, hf, k1, k2, k3, k4⟩ => by
    unfold sWdiv at hf
    split at hf
    · rename_i hx
      obtain ⟨hij, hf⟩ := hf
      obtain ⟨a, hw, hσ⟩ := ev.cel i _ hx
      refine ⟨Oc, w, ρ, S, _, ev, hf, fun d S1 v H1 ev1 g1 r q => ?_⟩
      split at q
      · rename_i qq rr
        obtain ⟨t, vs, rfl, ht, r2⟩ := r.tup
        simp only [Reps] at r2
        obtain ⟨va, _, rfl, ra, vb, _, rfl, rb', rfl⟩ := r2
        refine ⟨t, _, rfl, ht, rfl, _, _, rfl, _, hσ, Oc, w, ρ, S1, _, ev1, q, fun kd S2 kv H2 ev2 g2 rk q2 => ?_⟩
        obtain ⟨k, rfl, q3⟩ := asI_inv q2
        split at q3
        · rename_i xs hs
          split at q3
          · rename_i l hl
            obtain ⟨nl, q3⟩ := q3
            obtain ⟨_, us, h1, r1⟩ := ev2.celAt hw hs
            obtain ⟨ev3, g3⟩ := ev2.celSet hw nl (r1.set l (Rep.step (ev1.stepO g2) ev1.Ool _ _ ra))
            have gg := (g1.trans g2).trans g3
            obtain ⟨ev4, t4⟩ := ev3.put j (d := rr) (v := vb) (Rep.step (ev1.stepO (g2.trans g3)) ev1.Ool _ _ rb')
            exact ⟨a, _, k, l, rfl, rk.int, h1, by rw [r1.len]; exact hl, _, _, rfl, rfl, k1 _ _ _ _ ev4 (t4.fz (fz.go gg)) ((ev.fw gg).trans t4.fw) q3⟩
          · exact q3.elim
        · exact q3.elim
      · exact q.elim
    · exact hf.elim
end
end DL

namespace DL
open PySem L2 PyProof.Rows
/-! ### a def that hands back a new list -/
def spN (K : Fr_) (n : Nat) (C : Ct) : Sp := fun vs H Q _ => ∃ Oc w S as R, as.length = n ∧ Args K Oc w H as vs ∧ OL Oc H ∧ (∀ a, a ∈ w → Oc a) ∧ w.Nodup ∧ Wel K w H S ∧ C as S R ∧
  ∀ ds S' p us H', Gr w H H' → Wel K w H' S' → H p = none → H' p = some (.lst us) → Reps K (With Oc p) H' ds us → R (.list ds) S' → Q (.ref p) H'
structure CalN (P : Program) (W : World) (K : Fr_) (mg : Str → Option Value) (base : Heap) (x : Str) (k n : Nat) (C : Ct) : Prop where
  ex : ∃ f fd ps, Pro P W K mg base k f fd ps (spN K n C) ∧ PySem.W.keepIn K (.ref f) = true ∧ Binds K fd ps [] ∧ mg x = some (.ref f)
theorem dfnN {P : Program} {W : World} {K : Fr_} {mg : Str → Option Value} {base : Heap} {x qual : Str} {st : Stmt} {f : Addr} {fd : FuncData} {N ps : List Str} {k n : Nat} {C : Ct} {g : FS} (F : Fun K x qual st f fd) (S : FnScope N ps (defScope st)) (hm : mg x = some (.ref f)) (hb : Binds K fd ps []) (hn : ps.length = n) (hN : n ≤ N.length)
    (hbody : ∀ (cdv : Value) (A : Around) (outer : List Env) (s : Shared) (H : Hp) (E : XK), RoomG k (cxOf CX0 P W K mg base N qual (defScope st) f cdv A outer s H E).nox.A →
      PSs (cxOf CX0 P W K mg base N qual (defScope st) f cdv A outer s H E).nox (defBody st) (rs K g))
    (hC : ∀ as S R, as.length = n → C as S R → g (ent N as) S { nx := fun _ _ => False, rt := fun _ _ => False, rn := fun ds S' => R (.list ds) S' }) : CalN P W K mg base x (k + 1) n C := by
  refine ⟨f, fd, ps, .of F S (fun vs H Q E h => ?_) (fun cdv A outer s H vs Q E hg hr h => ⟨rs K g, hbody cdv A outer s H E ⟨hr, quiet_in hg⟩, ?_⟩), F.kp, hb, hm⟩
  · obtain ⟨Oc, w, SS, as, R, hl, r, _⟩ := h
    rw [r.len, hl, hn]
  · obtain ⟨Oc, w, SS, as, R, hl, r, ol, ow, wn, hw, hc, k⟩ := h
    obtain ⟨ev, fz⟩ := ent_ev (N := N) (by rw [hl]; exact hN) r ol ow wn hw
    exact ⟨Oc, w, H, _, SS, _, ev, fz, hC as SS R hl hc, fun _ _ _ _ _ _ _ q => q.elim, ⟨fun _ _ _ _ _ _ _ q => q.elim, fun H' ds p us S' g w' n hp rr q => k ds S' p us H' g w' n hp rr q⟩, fun _ _ _ _ _ _ _ q => q.elim, fun _ _ _ _ _ _ _ q => q.elim⟩
section
variable {X : Cx} {e e2 : Expr} {es : List Expr} {rest : List Stmt} {pos p spos : Pos} {f f2 : FE} {g : FR} {h : FS} {n k : Nat} {x y : Str} {C : Ct}
theorem n_call (c : CalN X.prog X.w X.K X.mg X.base x k n C) (hr : RoomG k X.A) (ha : PA X (e :: es) (rca X.K n g)) (hg : Gl X x := by rfl) (hdb : (x == ("__debug__" : Str)) = false := by decide)
    (he : starEach (e :: es) X.env = (false, eval e X.env) :: starEach es X.env := by rfl) (hpl : (backTo pos (starEach es X.env)).any (·.1) = false := by rfl) : PE X (.Call (.Name x p) (e :: es) [] pos) (rn X.K (fCall C g)) := by
  obtain ⟨f, fd, ps, F, hk, hb, hm⟩ := c.ex
  exact PE.imp (pe_pro F hr hg hm hk hb ha hdb he hpl) fun σ H Q ⟨Oc, w, ρ, S, R, ev, hf, k⟩ =>
    ⟨Oc, w, ρ, S, _, ev, hf, fun as S1 vs H1 ev1 g1 r1 hl h1 => ⟨OO Oc σ ρ, w, S1, as, _, hl, by rw [List.append_nil]; exact r1, ev1.Ool, fun a z => .inl (ev1.wo a z), ev1.wn, ev1.ws, h1,
      fun ds S' p us H' g w' n hp r q => k ds S' p us H' (ev1.go g w') (g1.trans g) (free_of ev1 g1 n) hp r q⟩⟩
theorem n_callS (sel : List Nat) (c : CalN X.prog X.w X.K X.mg X.base x k n C) (hr : RoomG k X.A) (ha : PA X (e :: es) (rca X.K n g)) (hg : Gl X x := by rfl) (hdb : (x == ("__debug__" : Str)) = false := by decide)
    (he : starEach (e :: es) X.env = (false, eval e X.env) :: starEach es X.env := by rfl) (hpl : (backTo pos (starEach es X.env)).any (·.1) = false := by rfl) : PE X (.Call (.Name x p) (e :: es) [] pos) (rn X.K (fCallS sel C g)) := by
  obtain ⟨f, fd, ps, F, hk, hb, hm⟩ := c.ex
  exact PE.imp (pe_pro F hr hg hm hk hb ha hdb he hpl) fun σ H Q ⟨Oc, w, ρ, S, R, ev, hf, k⟩ =>
    ⟨Oc, w, ρ, S, _, ev, hf, fun as S1 vs H1 ev1 g1 r1 hl ⟨ok, h1⟩ => ⟨OO Oc σ ρ, sel.filterMap (fun n => w[n]?), pickS sel S1, as.map (relS sel), _, by rw [List.length_map, hl], by rw [List.append_nil]; exact Args.pick ok ev1.ws.len ok.2.2 r1, ev1.Ool,
      fun a z => by
        obtain ⟨m, hm, e⟩ := List.mem_filterMap.mp z
        exact .inl (ev1.wo a (List.mem_of_getElem? e)), fm_nd ev1.wn ok.1 (fun n hn => by rw [ev1.ws.len]; exact ok.2.1 n hn), ev1.ws.pick ok.2.1, h1,
      fun ds S' p us H' g w' n hp r q => k ds (putS sel S1 S') p us H' (ev1.go g.pick (ev1.ws.put ev1.wn ok.1 ok.2.1 g w' (ev1.stepO g.pick) ev1.Ool)) (g1.trans g.pick) (free_of ev1 g1 n) hp r q⟩⟩
end
/-! ### a row of arguments that ends with a new list -/
abbrev FRN := Rho → SW → (List Sl → List PyData → SW → Prop) → Prop
def gLast (f : FE) : FRN := fun ρ S R => f ρ S fun d S1 => match d with
  | .list ds => R [] ds S1
  | _ => False
def gDatN (f : FE) (g : FRN) : FRN := fun ρ S R => f ρ S fun d S1 => g ρ S1 fun as ds S2 => R (.dat d :: as) ds S2
def gWelN (i : Nat) (g : FRN) : FRN := fun ρ S R => match ρ[i]? with
  | some (.cel n) => g ρ S fun as ds S2 => R (.cel n :: as) ds S2
  | some (.dat d) => g ρ S fun as ds S2 => R (.dat d :: as) ds S2
  | _ => False
def rcaN (K : Fr_) (n : Nat) (g : FRN) : TA := fun σ H Q => ∃ Oc w ρ S R, EV K Oc w σ H ρ S ∧ g ρ S R ∧
  ∀ as ds S' vs p us H', EV K Oc w σ H' ρ S' → Gr w H H' → Args K (With (OO Oc σ ρ) p) w H' as vs → as.length + 1 = n → H p = none → H' p = some (.lst us) → Reps K (With (OO Oc σ ρ) p) H' ds us → R as ds S' → Q (vs ++ [.ref p]) H'
section
variable {X : Cx} {e : Expr} {es : List Expr} {pos p : Pos} {f : FE} {g : FRN} {n k : Nat} {x : Str} {C : Ct}
theorem l_last (he : PE X e (rn X.K f)) (hs : starEach (e :: []) X.env = (false, eval e X.env) :: starEach [] X.env := by rfl) : PA X [e] (rcaN X.K 1 (gLast f)) := PA.imp (pa_cons he pa_nil hs) fun σ H Q ⟨Oc, w, ρ, S, R, ev, hf, k⟩ =>
  ⟨Oc, w, ρ, S, _, ev, hf, fun ds S' p vs H' ev' g n hp r q => k [] ds S' [] p vs H' ev' g (by simp only [Args]) rfl n hp r q⟩
theorem l_dat (he : PE X e (rd X.K f)) (hr : PA X es (rcaN X.K n g)) (hs : starEach (e :: es) X.env = (false, eval e X.env) :: starEach es X.env := by rfl) : PA X (e :: es) (rcaN X.K (n + 1) (gDatN f g)) := PA.imp (pa_cons he hr hs) fun σ H Q ⟨Oc, w, ρ, S, R, ev, hf, k⟩ =>
  ⟨Oc, w, ρ, S, _, ev, hf, fun d S1 v H1 ev1 g1 r1 h1 => ⟨Oc, w, ρ, S1, _, ev1, h1, fun as ds S2 vs p us H2 ev2 g2 r2 hl n2 hp ru h2 =>
    k (.dat d :: as) ds S2 (v :: vs) p us H2 ev2 (g1.trans g2) (by simp only [Args, ArgRep]; exact ⟨v, vs, rfl, Rep.fw (fun (a : Addr) (z : With (OO Oc σ ρ) p a) => z.elim .inl fun z => .inr (by rw [z]; exact n2)) (ev1.stepO g2) ev1.Ool d v r1, r2⟩) (by rw [List.length_cons, hl]) (free_of ev1 g1 n2) hp ru h2⟩⟩
theorem l_wel (i : Nat) (hr : PA X es (rcaN X.K n g)) (hN : X.N[i]? = some x := by rfl) (hv : Vis X.env.scope x := by first | exact Or.inl rfl | exact Or.inr (Or.inl rfl) | exact Or.inr (Or.inr rfl)) (hd : (x == ("__debug__" : Str)) = false := by decide)
    (hcd : (x == ("__classdict__" : Str)) = false := by decide) (hs : starEach (.Name x p :: es) X.env = (false, eval (.Name x p) X.env) :: starEach es X.env := by rfl) : PA X (.Name x p :: es) (rcaN X.K (n + 1) (gWelN i g)) := PA.imp (pa_cons (pe_var (i := i) hN hv hd hcd) hr hs) fun σ H Q ⟨Oc, w, ρ, S, R, ev, hf, k⟩ => by
  unfold gWelN at hf
  split at hf
  · rename_i hi
    obtain ⟨a, hw, hs⟩ := ev.cel i _ hi
    exact ⟨_, hs, Oc, w, ρ, S, _, ev, hf, fun as ds S2 vs p us H2 ev2 g2 r2 hl n2 hp ru h2 => k (.cel _ :: as) ds S2 (_ :: vs) p us H2 ev2 g2 (by simp only [Args, ArgRep]; exact ⟨_, vs, rfl, ⟨a, hw, rfl⟩, r2⟩) (by rw [List.length_cons, hl]) n2 hp ru h2⟩
  · rename_i d hi
    obtain ⟨v, hs, r⟩ := ev.dat i d hi
    exact ⟨_, hs, Oc, w, ρ, S, _, ev, hf, fun as ds S2 vs p us H2 ev2 g2 r2 hl n2 hp ru h2 => k (.dat d :: as) ds S2 (_ :: vs) p us H2 ev2 g2 (by simp only [Args, ArgRep]; exact ⟨_, vs, rfl, Rep.fw (fun (a : Addr) (z : With (OO Oc σ ρ) p a) => z.elim .inl fun z => .inr (by rw [z]; exact n2)) (ev.stepO g2) ev.Ool d v r, r2⟩) (by rw [List.length_cons, hl]) n2 hp ru h2⟩
  · exact hf.elim
/-- f(.., e), e a new list: the callee's last object -/
def fCallL (sel : List Nat) (C : Ct) (g : FRN) : FE := fun ρ S R => g ρ S fun as ds S1 => selOk sel S1 as ∧ noLsts ds = true ∧ C (as.map (relS sel) ++ [.cel sel.length]) (pickS sel S1 ++ [.lst ds]) fun d S2 => R d (putS sel S1 S2)
theorem Args.more {K : Fr_} {O : AS} {w : List Addr} {H : Hp} {p : Addr} : ∀ {as : List Sl} {vs : List V}, Args K O w H as vs → Args K O (w ++ [p]) H (as ++ [.cel w.length]) (vs ++ [.ref p])
  | [], vs, h => by
    simp only [Args] at h
    subst h
    simp only [List.nil_append, Args, ArgRep]
    exact ⟨_, [], rfl, ⟨p, by simp, rfl⟩, rfl⟩
  | a :: as, vs, h => by
    simp only [Args] at h
    obtain ⟨v, r, rfl, h1, h2⟩ := h
    simp only [List.cons_append, Args]
    refine ⟨v, r ++ [.ref p], rfl, ?_, Args.more h2⟩
    cases a with
    | cel n =>
      obtain ⟨q, h3, h4⟩ := h1
      exact ⟨q, by rw [List.getElem?_append_left (List.getElem?_eq_some_iff.mp h3).1]; exact h3, h4⟩
    | dat d => exact h1
    | _ => exact h1.elim
theorem Wel.more {K : Fr_} {w : List Addr} {H : Hp} {S : SW} {p : Addr} {ds : List PyData} {us : List V} (h : Wel K w H S) (hp : H p = some (.lst us)) (nl : noLsts ds = true) (r : Reps K O0 H ds us) : Wel K (w ++ [p]) H (S ++ [.lst ds]) := by
  refine ⟨by simp [h.len], fun n a c e1 e2 => ?_⟩
  by_cases hn : n < w.length
  · rw [List.getElem?_append_left hn] at e1
    rw [List.getElem?_append_left (by rw [← h.len]; exact hn)] at e2
    exact h.at' n a c e1 e2
  · have l1 := (List.getElem?_eq_some_iff.mp e1).1
    have en : n = w.length := by simp at l1; omega
    subst en
    rw [List.getElem?_append_right (Nat.le_refl _)] at e1
    rw [List.getElem?_append_right (by rw [h.len]; exact Nat.le_refl _), h.len] at e2
    simp only [Nat.sub_self, List.getElem?_cons_zero, Option.some.injEq] at e1 e2
    subst e1
    subst e2
    exact ⟨nl, us, hp, r⟩
theorem d_callL (sel : List Nat) (c : Cal X.prog X.w X.K X.mg X.base x k n C) (hr : RoomG k X.A) (ha : PA X (e :: es) (rcaN X.K n g)) (hg : Gl X x := by rfl) (hdb : (x == ("__debug__" : Str)) = false := by decide)
    (he : starEach (e :: es) X.env = (false, eval e X.env) :: starEach es X.env := by rfl) (hpl : (backTo pos (starEach es X.env)).any (·.1) = false := by rfl) : PE X (.Call (.Name x p) (e :: es) [] pos) (rd X.K (fCallL sel C g)) := by
  obtain ⟨f, fd, ps, F, hk, hb, hm⟩ := c.ex
  refine PE.imp (pe_pro F hr hg hm hk hb ha hdb he hpl) fun σ H Q ⟨Oc, w, ρ, S, R, ev, hf, k⟩ =>
    ⟨Oc, w, ρ, S, _, ev, hf, fun as ds S1 vs p us H1 ev1 g1 r1 hl n hp ru ⟨ok, nl, h1⟩ => ?_⟩
  have hb' : ∀ n ∈ sel, n < w.length := fun n hn => by rw [ev1.ws.len]; exact ok.2.1 n hn
  have r0 : Reps X.K O0 H1 ds us := Reps.free ds us nl ru
  have wl : (sel.filterMap fun n => w[n]?).length = sel.length := fm_len hb'
  have ol : OL (With (OO Oc σ ρ) p) H1 := fun a z => z.elim (ev1.Ool a) fun z => by rw [z]; exact ⟨_, hp, trivial⟩
  have np : ∀ a u, H a = some u → a ≠ p := fun a u h z => by rw [z, n] at h; cases h
  have pw : p ∉ w := fun z => by
    obtain ⟨u, h1, _⟩ := ev.ws.there z
    rw [n] at h1
    cases h1
  have inw : ∀ a, a ∈ (sel.filterMap fun n => w[n]?) → a ∈ w := fun a z => by
    obtain ⟨m, hm, e⟩ := List.mem_filterMap.mp z
    exact List.mem_of_getElem? e
  refine ⟨With (OO Oc σ ρ) p, (sel.filterMap fun n => w[n]?) ++ [p], pickS sel S1 ++ [.lst ds], as.map (relS sel) ++ [.cel sel.length], _, by simp [← hl], ?_, ol, fun a z => ?_, ?_, (ev1.ws.pick ok.2.1).more hp nl r0, h1, fun d S2 v H' g w2 r q => ?_⟩
  · rw [List.append_nil, ← wl]
    exact Args.more (Args.pick ok ev1.ws.len ok.2.2 r1)
  · rcases List.mem_append.mp z with z | z
    · exact .inl (.inl (ev1.wo a (inw a z)))
    · exact .inr (List.mem_singleton.mp z)
  · rw [List.nodup_append]
    exact ⟨fm_nd ev1.wn ok.1 hb', by simp, fun a ha b hb => by rw [List.mem_singleton.mp hb]; exact fun z => pw (by rw [← z]; exact inw a ha)⟩
  · have nin : ∀ a, a ∉ w → a ≠ p → a ∉ (sel.filterMap fun n => w[n]?) ++ [p] := fun a h1 h2 z => (List.mem_append.mp z).elim (fun z => h1 (inw a z)) fun z => h2 (List.mem_singleton.mp z)
    have gg : Gr w H H' := fun a u na h => g a u (nin a na (np a u h)) (g1 a u na h)
    have st : Step (With (OO Oc σ ρ) p) H1 H' := fun a u na h => g a u (nin a (fun z => na (.inl (.inl (ev1.wo a z)))) fun z => na (.inr z)) h
    have l2 := w2.len
    rw [List.length_append, wl, List.length_singleton] at l2
    refine k d (putS sel S1 S2) v H' (ev.go gg (ev1.ws.put0 ev1.wn ok.1 ok.2.1 (by omega) (fun m a c e1 e2 => w2.at' m a c (by rw [List.getElem?_append_left (List.getElem?_eq_some_iff.mp e1).1]; exact e1) e2) st ol fun a ha na o ho => g a o (fun z => ?_) ho)) gg (Rep.less (fun a z => .inl z) d v r) q
    rcases List.mem_append.mp z with z | z
    · exact na z
    · exact pw (by rw [← List.mem_singleton.mp z]; exact ha)
/-- f(e), e a new list -/
def fCallW (C : Ct) (f : FE) : FE := fun ρ S R => f ρ S fun d S1 => match d with
  | .list ds => noLsts ds = true ∧ C [.cel 0] [.lst ds] fun d' _ => R d' S1
  | _ => False
theorem callW_eq (C : Ct) (f : FE) : fCallW C f = fCallL [] C (gLast f) := by
  funext ρ S R
  unfold fCallW fCallL gLast
  congr 1
  funext d S1
  cases d with
  | list ds =>
    refine propext ⟨fun h => ⟨⟨List.nodup_nil, (fun n h => nomatch h), (fun n h => nomatch h)⟩, h.1, ?_⟩, fun h => ⟨h.2.1, ?_⟩⟩
    · simpa [putS, pickS] using h.2
    · simpa [putS, pickS] using h.2.2
  | _ => rfl
theorem d_callW (c : Cal X.prog X.w X.K X.mg X.base x k 1 C) (hr : RoomG k X.A) (ha : PE X e (rn X.K f)) (hg : Gl X x := by rfl) (hdb : (x == ("__debug__" : Str)) = false := by decide)
    (he : starEach (e :: []) X.env = (false, eval e X.env) :: starEach [] X.env := by rfl) (hpl : (backTo pos (starEach [] X.env)).any (·.1) = false := by rfl) : PE X (.Call (.Name x p) [e] [] pos) (rd X.K (fCallW C f)) :=
  PE.imp (d_callL [] c hr (l_last ha he) hg hdb he hpl) fun σ H Q ⟨Oc, w, ρ, S, R, ev, hf, k⟩ => ⟨Oc, w, ρ, S, R, ev, by rw [← callW_eq]; exact hf, k⟩
end
section
variable {K : Fr_} {Oc : AS} {w : List Addr} {σ : L2.St} {H H1 : Hp} {ρ : Rho} {S S1 : SW}
/-- a new list comes to a slot, as an object of the callers -/
theorem EV.newCel {p : Addr} {vs : List V} {ds : List PyData} (e : EV K Oc w σ H ρ S) (e1 : EV K Oc w σ H1 ρ S1) (g : Gr w H H1) (i : Nat) (n : H p = none) (hp : H1 p = some (.lst vs)) (nl : noLsts ds = true) (r : Reps K O0 H1 ds vs) :
    EV K (With Oc p) (w ++ [p]) (σ.set i (some (.ref p))) H1 (ρ.set i (.cel w.length)) (S1 ++ [.lst ds]) := by
  have pw : p ∉ w := fun z => by
    obtain ⟨u, h1, _⟩ := e.ws.there z
    rw [n] at h1
    cases h1
  have new : ∀ {y : Sl}, (ρ.set i (.cel w.length))[i]? = some y → y = .cel w.length ∧ (σ.set i (some (.ref p)))[i]? = some (some (.ref p)) := fun {y} h => by
    by_cases hk : i < ρ.length
    · rw [List.getElem?_set_self hk] at h
      cases h
      exact ⟨rfl, by rw [List.getElem?_set_self (by rw [← e.len]; exact hk)]⟩
    · rw [List.getElem?_eq_none (by simpa using hk)] at h; cases h
  have old : ∀ {j : Nat} {y : Sl}, (∀ m, y ≠ .cel m) → (ρ.set i (.cel w.length))[j]? = some y → i ≠ j ∧ ρ[j]? = some y ∧ (σ.set i (some (.ref p)))[j]? = σ[j]? := fun {j y} hy h => by
    by_cases hj : i = j
    · subst hj
      exact absurd (new h).1 (hy _)
    · rw [List.getElem?_set_ne hj] at h
      exact ⟨hj, h, List.getElem?_set_ne hj⟩
  have oo : ∀ a, OO (With Oc p) (σ.set i (some (.ref p))) (ρ.set i (.cel w.length)) a → OO Oc σ ρ a ∨ H a = none := by
    rintro a ((z | z) | ⟨j, xs, h1, h2⟩)
    · exact .inl (.inl z)
    · exact .inr (by rw [z]; exact n)
    · obtain ⟨_, q1, q2⟩ := old (by intro m z; cases z) h1
      exact .inl (.inr ⟨j, xs, q1, by rw [← q2]; exact h2⟩)
  refine ⟨by simp [e.len], fun j d h => ?_, fun j xs h => ?_, fun j l xs ys a h1 h2 h3 h4 => ?_, fun j m h => ?_, fun a z => ?_, ?_, e1.ws.more hp nl r, fun a z => ?_, e.dct.to (fun j kvs h => (old (by intro m z; cases z) h).2) (fun a ws h o => ⟨g a _ (fun z => ?_) h, .inl o⟩) fun ds vs => Reps.fw oo (e.stepO g) e.Ool ds vs⟩
  · obtain ⟨_, q1, q2⟩ := old (by intro m z; cases z) h
    obtain ⟨v, hv, rv⟩ := e.dat j d q1
    exact ⟨v, by rw [q2]; exact hv, Rep.fw oo (e.stepO g) e.Ool d v rv⟩
  · obtain ⟨_, q1, q2⟩ := old (by intro m z; cases z) h
    obtain ⟨a, us, h1, h2, h3, h4⟩ := e.own j xs q1
    exact ⟨a, us, by rw [q2]; exact h1, g a _ (e.nw h3) h2, (fun z => z.elim h3 fun z => by rw [z, n] at h2; cases h2), Reps.fw oo (e.stepO g) e.Ool xs us h4⟩
  · obtain ⟨_, q1, q2⟩ := old (by intro m z; cases z) h1
    obtain ⟨_, q3, q4⟩ := old (by intro m z; cases z) h2
    exact e.inj j l xs ys a q1 q3 (by rw [← q2]; exact h3) (by rw [← q4]; exact h4)
  · by_cases hj : i = j
    · subst hj
      obtain ⟨q1, q2⟩ := new h
      cases q1
      exact ⟨p, by simp, q2⟩
    · rw [List.getElem?_set_ne hj] at h
      obtain ⟨a, h1, h2⟩ := e.cel j m h
      exact ⟨a, by rw [List.getElem?_append_left (List.getElem?_eq_some_iff.mp h1).1]; exact h1, by rw [List.getElem?_set_ne hj]; exact h2⟩
  · rcases List.mem_append.mp z with z | z
    · exact .inl (e.wo a z)
    · exact .inr (List.mem_singleton.mp z)
  · rw [List.nodup_append]
    exact ⟨e.wn, by simp, fun a ha b hb => by rw [List.mem_singleton.mp hb]; exact fun z => pw (by rw [← z]; exact ha)⟩
  · rcases z with z | z
    · exact e1.ol a z
    · rw [z]; exact ⟨_, hp, trivial⟩
  · obtain ⟨u, h1, _, h2⟩ := e.ws.there z
    rw [h1] at h
    cases h
    exact h2 _ rfl
end
section
variable {X : Cx} {e : Expr} {rest : List Stmt} {pos p : Pos} {f : FE} {h : FS} {x : Str}
/-- x = e, e a new list: from here on one of the objects; the rest hands back -/
def sWell (i : Nat) (f : FE) (h : FS) : FS := fun ρ S B => f ρ S fun d S1 => match d with
  | .list ds => noLsts ds = true ∧ h (ρ.set i (.cel S.length)) (S1 ++ [.lst ds]) { nx := fun _ _ => False, rt := fun d S2 => B.rt d S2.dropLast, rn := fun d S2 => B.rn d S2.dropLast }
  | _ => False
theorem Wel.drop {K : Fr_} {w : List Addr} {p : Addr} {H : Hp} {S : SW} (h : Wel K (w ++ [p]) H S) : Wel K w H S.dropLast := by
  have hl := h.len
  rw [List.length_append, List.length_singleton] at hl
  refine ⟨by rw [List.length_dropLast]; omega, fun n a c e1 e2 => ?_⟩
  have l1 := (List.getElem?_eq_some_iff.mp e1).1
  rw [List.getElem?_dropLast, if_pos (by omega)] at e2
  exact h.at' n a c (by rw [List.getElem?_append_left l1]; exact e1) e2
theorem s_well (i : Nat) (hN : X.N.Nodup) (he : PE X e (rn X.K f)) (hrest : PSs X rest (rs X.K h)) (hi : X.N[i]? = some x := by rfl) (hx : Loc X.env.scope x := by first | exact Or.inl rfl | exact Or.inr rfl) (hs : swapsWith e (some (.Name x p)) pos.line X.env = pure false := by rfl)
    (hf : X.fn x = true ∨ X.env.scope.names.lookup x = some .local := by first | exact .inl rfl | exact .inr rfl) : PSs X (.Assign [.Name x p] e pos :: rest) (rs X.K (sWell i f h)) := PSs.imp (pss_cons (ps_set (i := i) hN hi hx he hs hf) hrest) fun D σ H ⟨Oc, w, H0, ρ, S, B, ev, fz, hf, k1, k2, k3, k4⟩ => by
  refine ⟨Oc, w, ρ, S, _, ev, hf, fun ds S1 p vs H1 ev1 g1 n hp r ⟨nl, hc⟩ => ?_⟩
  have evN := ev.newCel ev1 g1 i n hp nl (Reps.free ds vs nl r)
  rw [ev.ws.len] at evN
  have p0 : H0 p = none := by
    cases e : H0 p with
    | none => rfl
    | some u =>
      by_cases hw : p ∈ w
      · obtain ⟨u, z, _⟩ := ev.ws.there hw
        rw [z] at n
        cases n
      · rw [fz.gr p u hw e] at n
        cases n
  have np : ∀ a u, H0 a = some u → a ≠ p := fun a u h z => by rw [z, p0] at h; cases h
  have nin : ∀ a, a ∉ w → a ≠ p → a ∉ w ++ [p] := fun a h1 h2 z => (List.mem_append.mp z).elim h1 fun z => h2 (List.mem_singleton.mp z)
  refine ⟨With Oc p, w ++ [p], H0, _, _, _, evN, ⟨fun a u na h => ?_, fun j xs a h1 h2 => ?_, fun j xs a h1 h2 => ?_⟩, hc, fun _ _ _ _ _ _ _ q => q.elim, ⟨fun H' d v S' g w' r q => ?_, fun H' ds q us S' g w' n' hq rr z => ?_⟩, fun _ _ _ _ _ _ _ q => q.elim, fun _ _ _ _ _ _ _ q => q.elim⟩
  · exact (fz.gr.trans g1) a u (fun z => na (List.mem_append_left _ z)) h
  · by_cases hj : i = j
    · subst hj
      by_cases hk : i < ρ.length
      · rw [List.getElem?_set_self hk] at h1; cases h1
      · rw [List.getElem?_eq_none (by simpa using hk)] at h1; cases h1
    · rw [List.getElem?_set_ne hj] at h1 h2
      exact fz.own j xs a h1 h2
  · by_cases hj : i = j
    · subst hj
      by_cases hk : i < ρ.length
      · rw [List.getElem?_set_self hk] at h1; cases h1
      · rw [List.getElem?_eq_none (by simpa using hk)] at h1; cases h1
    · rw [List.getElem?_set_ne hj] at h1 h2
      exact fz.dct j xs a h1 h2
  · exact k2.1 H' d v _ (fun a u na h => g a u (nin a na (np a u h)) h) w'.drop (Rep.less (fun a z => .inl z) d v r) q
  · exact k2.2 H' ds q us _ (fun a u na h => g a u (nin a na (np a u h)) h) w'.drop n' hq (Reps.less (fun (a : Addr) (z : With Oc q a) => z.elim (fun z => .inl (.inl z)) .inr) ds us rr) z
end
end DL

namespace DL
open PySem L2 PyProof.Rows
/-! ### the operators as the printed terms name them -/
section
variable {X : Cx} {e a b c : Expr} {pos p : Pos} {f fa fb fc : FE} {k : Nat}
theorem isi_tuple : isiAll "tuple" = true := by decide +kernel
theorem isi_str : isiAll "str" = true := by decide +kernel
theorem isi_int : isiAll "int" = true := by decide +kernel
theorem isi_bool : isiAll "bool" = true := by decide +kernel
theorem isi_list : isiAll "list" = true := by decide +kernel
/-- order: ints, texts -/
def rLtA : R2 := fun x y H Q => rI0 (fun i j => .bl (decide (i < j))) x y H Q ∨ ∃ i j, x = .str i ∧ y = .str j ∧ Q (.bl (decide (i.cps.toList < j.cps.toList))) H
theorem op_ltA : OpR X (compareOp .Lt) rLtA := op_lt.or op_lt_str
def oLt : O2 := fun x y R => match x, y with
  | .int i, .int j => R (.bool (decide (i < j)))
  | .str i, .str j => R (.bool (decide (i.cps.toList < j.cps.toList)))
  | _, _ => False
theorem sLt {K : Fr_} : OpS K rLtA oLt := ⟨fun {O w H x y vx vy R Q} ol rx ry h k => by
  unfold oLt at h
  split at h
  · exact .inl ⟨_, _, rx.int, ry.int, k _ _ H (Same.refl H) (by simp only [Rep]) h⟩
  · exact .inr ⟨_, _, rx.str, ry.str, k _ _ H (Same.refl H) (by simp only [Rep]) h⟩
  · exact h.elim⟩
abbrev oLe : O2 := oI fun i j => .bool (decide (i ≤ j))
abbrev oGt : O2 := oI fun i j => .bool (decide (j < i))
abbrev oGe : O2 := oI fun i j => .bool (decide (j ≤ i))
theorem op_eqH (hr : RoomG k X.A) : OpR X (compareOp .Eq) (rEqAll X.K) := op_eqAll hr.room
theorem op_neH (hr : RoomG k X.A) : OpR X (compareOp .NotEq) (rNeAll X.K) := op_neAll hr.room
def isNonD : PyData → Bool
  | .none => true
  | _ => false
/-- is None -/
def oIsN : O2 := fun x y R => match y with
  | .none => R (.bool (isNonD x))
  | _ => False
def oNotN : O2 := fun x y R => match y with
  | .none => R (.bool (!isNonD x))
  | _ => False
theorem RepB.isN {K : Fr_} {O : AS} {w : List Addr} {H : Hp} {d : PyData} {v : V} (h : RepB K O w H d v) : decide (v = .non) = isNonD d := by
  cases d with
  | none => rw [h.non]; rfl
  | bool b => rw [h.bool]; rfl
  | int b => rw [h.int]; rfl
  | str b => rw [h.str]; rfl
  | list ds =>
    obtain ⟨a, vs, rfl, _⟩ := h.lst
    rfl
  | tuple ds =>
    obtain ⟨a, vs, rfl, _⟩ := h.tup
    rfl
  | dict kvs =>
    rcases h with h | ⟨a, vs, ds, e, _⟩
    · simp only [Rep] at h
      obtain ⟨a, ps, rfl, _⟩ := h
      rfl
    · cases e
theorem sIsN {K : Fr_} : OpS K (fun x y H Q => y = .non ∧ Q (.bl (decide (x = .non))) H) oIsN := ⟨fun {O w H x y vx vy R Q} ol rx ry h k => by
  unfold oIsN at h
  split at h
  · exact ⟨ry.non, k _ _ H (Same.refl H) (by rw [rx.isN]; simp only [Rep]) h⟩
  · exact h.elim⟩
theorem sNotN {K : Fr_} : OpS K (fun x y H Q => y = .non ∧ Q (.bl (!decide (x = .non))) H) oNotN := ⟨fun {O w H x y vx vy R Q} ol rx ry h k => by
  unfold oNotN at h
  split at h
  · refine ⟨ry.non, k _ _ H (Same.refl H) ?_ h⟩
    rw [rx.isN]
    simp only [Rep]
  · exact h.elim⟩
/-- repr of a truth, of None, of an int -/
def rReprS : List V → Hp → VK → Prop := fun xs H Q => (∃ b, xs = [.bl b] ∧ Q (.str (PyData.bool b).shown) H) ∨ (xs = [.non] ∧ Q (.str PyData.none.shown) H) ∨ ∃ i, xs = [.int i] ∧ i.natAbs.log2 < 1920 ∧ Q (.str (toString i)) H
theorem call_reprD : CallR X (.builtin "repr") rReprS := by
  rintro pins s σ H xs us Q I r (⟨b, rfl, q⟩ | ⟨rfl, q⟩ | ⟨i, rfl, hz, q⟩)
  · obtain ⟨u, rfl, ru⟩ := vals1 r
    cases ru
    refine PySem.P.repr_of_bool ⟨.str _, H, I.tok _, ⟨_, rfl⟩, ?_⟩
    simpa only [PyData.shown] using q
  · obtain ⟨u, rfl, ru⟩ := vals1 r
    cases ru
    refine PySem.P.repr_of_none ⟨.str _, H, I.tok _, ⟨_, rfl⟩, ?_⟩
    simpa only [PyData.shown] using q
  · obtain ⟨u, rfl, t, rfl⟩ := vals1 r
    exact PySem.P.repr_of_int hz ⟨.str _, H, I.tok _, ⟨_, rfl⟩, q⟩
def oRepr : O1 := fun x R => match x with
  | .bool b => R (.str (PyData.bool b).shown)
  | .none => R (.str PyData.none.shown)
  | .int i => i.natAbs.log2 < 1920 ∧ R (.str (toString i))
  | _ => False
theorem sRepr {K : Fr_} : UnS K (t1 rReprS) oRepr := ⟨fun {O w H x vx R Q} ol rx h k => by
  unfold oRepr at h
  split at h
  · have e := rx.bool
    subst e
    exact .inl ⟨_, rfl, k _ _ H (Same.refl H) (by simp only [Rep]) h⟩
  · have e := rx.non
    subst e
    exact .inr (.inl ⟨rfl, k _ _ H (Same.refl H) (by simp only [Rep]) h⟩)
  · have e := rx.int
    subst e
    exact .inr (.inr ⟨_, rfl, h.1, k _ _ H (Same.refl H) (by simp only [Rep]) h.2⟩)
  · exact h.elim⟩
def pmId {α : Type} (l : List α) : List α := l
end
end DL

namespace DL
open PySem L2 PyProof.Rows
/-! ### how transformers are reduced -/
theorem asB_bool (b : Bool) (k : Bool → Prop) : asB (.bool b) k = k b := rfl
theorem asI_int (i : Int) (k : Int → Prop) : asI (.int i) k = k i := rfl
theorem if_tt {A B : Prop} : (if true = true then A else B) = A := if_pos rfl
theorem if_ff {A B : Prop} : (if false = true then A else B) = B := if_neg Bool.false_ne_true
def isTup : PyData → Bool
  | .tuple _ => true
  | _ => false
def isStr : PyData → Bool
  | .str _ => true
  | _ => false
def isBoo : PyData → Bool
  | .bool _ => true
  | _ => false
def isNum : PyData → Bool
  | .int _ => true
  | .bool _ => true
  | _ => false
def isLst : PyData → Bool
  | .list _ => true
  | _ => false
theorem isi_tup (d : PyData) : isiD "tuple" d = isTup d := by cases d <;> simp only [isiD, tyD, isTup] <;> decide +kernel
theorem isi_strD (d : PyData) : isiD "str" d = isStr d := by cases d <;> simp only [isiD, tyD, isStr] <;> decide +kernel
theorem isi_intD (d : PyData) : isiD "int" d = isNum d := by cases d <;> simp only [isiD, tyD, isNum] <;> decide +kernel
theorem isi_boolD (d : PyData) : isiD "bool" d = isBoo d := by cases d <;> simp only [isiD, tyD, isBoo] <;> decide +kernel
theorem isi_listD (d : PyData) : isiD "list" d = isLst d := by cases d <;> simp only [isiD, tyD, isLst] <;> decide +kernel
theorem atI_zero {α : Type} (x : α) (xs : List α) : atI (x :: xs) (0 : Int) = some x := atI_nat (j := 0) rfl
theorem atI_one {α : Type} (x y : α) (xs : List α) : atI (x :: y :: xs) (1 : Int) = some y := atI_nat (j := 1) rfl
theorem atI_two {α : Type} (x y z : α) (xs : List α) : atI (x :: y :: z :: xs) (2 : Int) = some z := atI_nat (j := 2) rfl
theorem atI_three {α : Type} (x y z u : α) (xs : List α) : atI (x :: y :: z :: u :: xs) (3 : Int) = some u := atI_nat (j := 3) rfl
theorem atI_four {α : Type} (x y z u v : α) (xs : List α) : atI (x :: y :: z :: u :: v :: xs) (4 : Int) = some v := atI_nat (j := 4) rfl
theorem oIx_tup (ds : List PyData) (i : Int) (R : PyData → Prop) : oIx (.tuple ds) (.int i) R = match atI ds i with | some d => R d | none => False := rfl
theorem oIx_lst (ds : List PyData) (i : Int) (R : PyData → Prop) : oIx (.list ds) (.int i) R = match atI ds i with | some d => R d | none => False := rfl
theorem oEq_int (a b : Int) (R : PyData → Prop) : oEq (.int a) (.int b) R = R (.bool (decide (a = b))) := rfl
theorem oEq_str (a b : Str) (R : PyData → Prop) : oEq (.str a) (.str b) R = R (.bool (decide (a = b))) := rfl
theorem oEq_bool (a b : Bool) (R : PyData → Prop) : oEq (.bool a) (.bool b) R = R (.bool (decide (a = b))) := rfl
theorem oEq_nil (ds : List PyData) (R : PyData → Prop) : oEq (.tuple ds) (.tuple []) R = R (.bool ds.isEmpty) := rfl
theorem oNe_int (a b : Int) (R : PyData → Prop) : oNe (.int a) (.int b) R = R (.bool (!decide (a = b))) := rfl
theorem oNe_str (a b : Str) (R : PyData → Prop) : oNe (.str a) (.str b) R = R (.bool (!decide (a = b))) := rfl
theorem oNe_bool (a b : Bool) (R : PyData → Prop) : oNe (.bool a) (.bool b) R = R (.bool (!decide (a = b))) := rfl
theorem oLen_tup (ds : List PyData) (R : PyData → Prop) : oLen (.tuple ds) R = R (.int ds.length) := rfl
theorem oLen_lst (ds : List PyData) (R : PyData → Prop) : oLen (.list ds) R = R (.int ds.length) := rfl
theorem oI_int (g : Int → Int → PyData) (i j : Int) (R : PyData → Prop) : oI g (.int i) (.int j) R = R (g i j) := rfl
theorem oIC_int (C : Int → Int → Prop) (g : Int → Int → PyData) (i j : Int) (R : PyData → Prop) : oIC C g (.int i) (.int j) R = (C i j ∧ R (g i j)) := rfl
theorem oAdd_int (i j : Int) (R : PyData → Prop) : oAdd (.int i) (.int j) R = R (.int (i + j)) := rfl
theorem oAdd_tup (a b : List PyData) (R : PyData → Prop) : oAdd (.tuple a) (.tuple b) R = (a.length + b.length ≤ sizeLine ∧ R (.tuple (a ++ b))) := rfl
theorem oAdd_lst (a b : List PyData) (R : PyData → Prop) : oAdd (.list a) (.list b) R = (a.length + b.length ≤ sizeLine ∧ R (.list (a ++ b))) := rfl
theorem oAdd_str (a b : Str) (R : PyData → Prop) : oAdd (.str a) (.str b) R = (a.length + b.length ≤ sizeLine ∧ R (.str (a ++ b))) := rfl
theorem oLt_int (i j : Int) (R : PyData → Prop) : oLt (.int i) (.int j) R = R (.bool (decide (i < j))) := rfl
theorem oInt_int (i : Int) (R : PyData → Prop) : oInt (.int i) R = R (.int i) := rfl
theorem oInt_bool (b : Bool) (R : PyData → Prop) : oInt (.bool b) R = R (.int (if b then 1 else 0)) := rfl
theorem oIn_tup (neg : Bool) (x : PyData) (ds : List PyData) (R : PyData → Prop) : oIn neg x (.tuple ds) R = (flatD x = true ∧ ds.all flatD = true ∧ R (.bool (if neg then !(ds.any fun z => PyData.eqv z x) else ds.any fun z => PyData.eqv z x))) := rfl
theorem oIn_lst (neg : Bool) (x : PyData) (ds : List PyData) (R : PyData → Prop) : oIn neg x (.list ds) R = (flatD x = true ∧ ds.all flatD = true ∧ R (.bool (if neg then !(ds.any fun z => PyData.eqv z x) else ds.any fun z => PyData.eqv z x))) := rfl
theorem oSl_tup (ds : List PyData) (lo hi : Option Int) (R : PyData → Prop) : oSl (.tuple ds) lo hi R = R (.tuple (cutD ds lo hi)) := rfl
theorem oSl_lst (ds : List PyData) (lo hi : Option Int) (R : PyData → Prop) : oSl (.list ds) lo hi R = R (.list (cutD ds lo hi)) := rfl
theorem cut_from1 (d : PyData) (ds : List PyData) : cutD (d :: ds) (some 1) none = ds := by
  unfold cutD
  have e : HT.sIx (d :: ds).length 0 (some 1) = 1 := by
    have := HT.sIx_nat (d :: ds).length 0 1
    simp only [List.length_cons] at this ⊢
    rw [show (1 : Int) = ((1 : Nat) : Int) from rfl, this]
    omega
  rw [e, HT.sIx_none]
  simp
theorem cut_to (ds : List PyData) (k : Nat) : cutD ds none (some (k : Int)) = ds.take k := by
  unfold cutD
  rw [HT.sIx_none, HT.sIx_nat, List.drop_zero, Nat.sub_zero]
  by_cases h : k ≤ ds.length
  · rw [Nat.min_eq_left h]
  · rw [Nat.min_eq_right (by omega), List.take_of_length_le (Nat.le_refl _), List.take_of_length_le (by omega)]
theorem cut_from (ds : List PyData) (k : Nat) : cutD ds (some (k : Int)) none = ds.drop k := by
  unfold cutD
  rw [HT.sIx_none, HT.sIx_nat]
  by_cases h : k ≤ ds.length
  · rw [Nat.min_eq_left h, List.take_of_length_le (by rw [List.length_drop]; omega)]
  · rw [Nat.min_eq_right (by omega), List.drop_eq_nil_of_le (Nat.le_refl _), List.drop_eq_nil_of_le (by omega)]
    simp
/-- a comprehension without draws: its elements one by one -/
theorem lcGo_map {i : Nat} {fe : FE} {ρ : Rho} {S : SW} {g : PyData → PyData} {T : List PyData → SW → Prop} : ∀ {ds acc : List PyData}, (∀ d ∈ ds, ∀ R : PyData → SW → Prop, R (g d) S → fe (ρ.set i (.dat d)) S R) → T (acc ++ ds.map g) S →
    lcGo (gNm i) (fC (.bool true)) fe ρ ds acc S T
  | [], acc, _, h => by simpa [lcGo] using h
  | d :: ds, acc, he, h => by
    simp only [lcGo, gNm, fC, asB_bool, if_tt]
    refine he d (by simp) _ ?_
    refine lcGo_map (fun d' hd' => he d' (by simp [hd'])) ?_
    simpa using h
theorem map_bool (f : PyData → Bool) (ds : List PyData) : (ds.map fun d => PyData.bool (f d)) = (ds.map f).map PyData.bool := by rw [List.map_map]; rfl
theorem map_int (f : PyData → Int) (ds : List PyData) : (ds.map fun d => PyData.int (f d)) = (ds.map f).map PyData.int := by rw [List.map_map]; rfl
end DL

namespace DL
open PySem PySem.Spec PyProof.Rows L2
/-! ### the end: the defs as the top leaves them, the constants, the script -/
structure Has (K : Fr_) (mg : Str → Option Value) (x : Str) (st : Stmt) (ps : List Str) : Prop where
  ex : ∃ f fd, Fun K x x st f fd ∧ mg x = some (.ref f) ∧ Binds K fd ps [] ∧ (∀ (s : Shared) (ws : List Value), ws.length = ps.length → BindsTo s fd ⟨ws, []⟩ (ps.zip ws)) ∧
    ∀ (s : Shared) (ws : List Value), ws.length = ps.length → BindsTo s fd ⟨[], ps.zip ws⟩ (ps.zip ws)
section
variable {K : Fr_} {h : Heap} {mg : Str → Option Value} {x : Str} {st : Stmt} {ps : List Str}
theorem Has.mk' {f : Addr} {oc : Value} {od an : Option Addr} {osl : Array (Option Value)} {kV doc pm cdv ct : Value} (X : K.In h) (G : h.Ns mainGlobals mg)
    (hb : ∀ (kV doc pm : Value) (an : Option Addr) (cdv ct : Value) (us : List Value), us.length = ps.length → bindArgs (PySem.W.fnOf x x (defArgs st) (defBody st) (defScope st) .none kV doc pm an cdv ct) ⟨us, []⟩ = pure (ps.zip us))
    (hk : ∀ (kV doc pm : Value) (an : Option Addr) (cdv ct : Value) (us : List Value), us.length = ps.length → bindArgs (PySem.W.fnOf x x (defArgs st) (defBody st) (defScope st) .none kV doc pm an cdv ct) ⟨[], ps.zip us⟩ = pure (ps.zip us))
    (a : PySem.W.nsIn K mainGlobals x = some (some (.ref f))) (l : K.lookup f = some ⟨oc, od, .func (PySem.W.fnOf x x (defArgs st) (defBody st) (defScope st) .none kV doc pm an cdv ct), osl⟩) (c : PySem.W.codeIn K cdv x = true) (k : PySem.W.keepIn K (.ref f) = true) : Has K mg x st ps :=
  ⟨f, _, fun_mk l c k, PySem.W.mg_of X G a, (fun_mk l c k).binds hb, fun _ ws e => .of_eq (hb _ _ _ _ _ _ ws e), fun _ ws e => .of_eq (hk _ _ _ _ _ _ ws e)⟩
theorem glob_int {i : Int} {t : Nat} (X : K.In h) (G : h.Ns mainGlobals mg) (a : PySem.W.nsIn K mainGlobals x = some (some (.int i t))) : GlobD K mg x (.int i) :=
  ⟨.int i, _, PySem.W.mg_of X G a, ⟨t, rfl⟩, fun _ _ => by simp only [Rep]⟩
/-- a value of the module that shows data whatever the heap -/
def Fix (K : Fr_) (d : PyData) (u : Value) : Prop := ∃ v, RelV v u ∧ ∀ O H, Rep K O H d v
def Fixs (K : Fr_) (ds : List PyData) (us : List Value) : Prop := ∃ vs, Vals vs us ∧ ∀ O H, Reps K O H ds vs
theorem fix_str {s : Str} {t : Nat} : Fix K (.str s) (.str s t) := ⟨.str s, ⟨t, rfl⟩, fun _ _ => by simp only [Rep]⟩
theorem fix_int {s : Int} {t : Nat} : Fix K (.int s) (.int s t) := ⟨.int s, ⟨t, rfl⟩, fun _ _ => by simp only [Rep]⟩
theorem fixs_nil : Fixs K [] [] := ⟨[], .nil, fun _ _ => by simp only [Reps]⟩
theorem fixs_cons {d : PyData} {ds : List PyData} {u : Value} {us : List Value} (a : Fix K d u) (b : Fixs K ds us) : Fixs K (d :: ds) (u :: us) := by
  obtain ⟨v, h1, h2⟩ := a
  obtain ⟨vs, h3, h4⟩ := b
  exact ⟨v :: vs, .cons h1 h3, fun O H => by simp only [Reps]; exact ⟨v, vs, rfl, h2 O H, h4 O H⟩⟩
theorem fix_tup {p : Addr} {ds : List PyData} {od : Option Addr} {us : List Value} {n : Nat} {sl : Array (Option Value)} (l : K.lookup p = some ⟨.type "tuple", od, .seq us.toArray n, sl⟩) (hs : ds.length ≤ 1000) (hv : Fixs K ds us) : Fix K (.tuple ds) (.ref p) := by
  obtain ⟨vs, h1, h2⟩ := hv
  have e : us.length = ds.length := by rw [← h1.length, (h2 (fun _ => False) fun _ => none).len]
  have z : us.length ≤ sizeLine := by rw [e, sizeLine_eq]; omega
  exact ⟨.ref p, rfl, fun O H => by simp only [Rep]; exact ⟨p, vs, rfl, .inr ⟨_, us.toArray, n, l, rfl, rfl, by simpa using z, by simpa using h1⟩, h2 O H⟩⟩
theorem glob_fix {d : PyData} {u : Value} (X : K.In h) (G : h.Ns mainGlobals mg) (a : PySem.W.nsIn K mainGlobals x = some (some u)) (f : Fix K d u) : GlobD K mg x d := by
  obtain ⟨v, h1, h2⟩ := f
  exact ⟨v, u, PySem.W.mg_of X G a, h1, h2⟩
theorem script_of {O : AS} {H : Hp} {a : Addr} {ns : List Int} (no : ∀ a, ¬ O a) (h : SqL K H a (ns.map V.int)) : Rep K O H (.list (ns.map .int)) (.ref a) := by
  simp only [Rep]
  refine ⟨a, _, rfl, ?_, Reps.of_ints ns⟩
  rcases h with h | h
  · exact .inl ⟨h, no a⟩
  · exact .inr (.inr h)
theorem CalK.of {P : Program} {W : World} {base : Heap} {k n : Nat} {C : Ct} {f : Addr} {fd : FuncData} (F : Pro P W K mg base k f fd ps (spC K n C)) (hk : PySem.W.keepIn K (.ref f) = true) (hm : mg x = some (.ref f)) (hn : ps.length = n)
    (b : ∀ (s : Shared) (ws : List Value), ws.length = ps.length → BindsTo s fd ⟨[], ps.zip ws⟩ (ps.zip ws)) : CalK P W K mg base x k n C ps pmId :=
  ⟨⟨f, fd, ps, F, hk, b, hm⟩, fun _ h => h, fun _ h => h, fun h => by rw [← hn]; exact h⟩
/-- the promise of a law's def: given its script, True -/
def C_true : Ct := fun as S R => ∃ ns : List Int, as = [.dat (.list (ns.map .int))] ∧ ns.length ≤ 63 ∧ R (.bool true) S
theorem law_sp {H : Hp} {a : Addr} {ns : List Int} {E : XK} (hl : ns.length ≤ 63) (h : SqL K H a (ns.map V.int)) : spC K 1 C_true [.ref a] H (fun v _ => v = .bl true) E := by
  refine ⟨fun _ => False, [], [], [.dat (.list (ns.map .int))], fun d _ => d = .bool true, rfl, ?_, fun a z => z.elim, (fun a z => nomatch z), List.nodup_nil, ⟨rfl, fun n a c z => by simp at z⟩, ⟨ns, rfl, hl, rfl⟩, fun d S' v H' _ _ r e => ?_⟩
  · simp only [Args, ArgRep]
    exact ⟨_, [], rfl, script_of (fun _ z => z) h, rfl⟩
  · subst e
    simpa only [Rep] using r
/-- the heap behind the top with what H tracks put away -/
theorem at_top {P : Program} {w : World} {K : Fr_} {mg mb : Str → Option Value} {s : Shared} {H : Hp} (KX : K.In s.heap) (G : s.heap.Ns mainGlobals mg) (B : s.heap.Ns builtinsNs mb) (BB : ∀ x : Str, x ≠ "__name__" → mb x = bootBuiltins x) (L : s.heap.NoLimit) (gs : s.gens = #[])
    (ok : HOk P w H s.heap) (hK : ∀ b, H b ≠ none → K.lookup b = none) (hD : ∀ b o es ep, s.heap.get? b = some o → o.data = .dict es ep → H b = none) :
    ∃ base : Heap, K.In base ∧ base.Ns mainGlobals mg ∧ Env0 P w K mg base callerA [] s H := by
  have keep : ∀ {b : Addr} {m : Str → Option Value}, s.heap.Ns b m → (hidT s.heap H).Ns b m := by
    rintro b m ⟨o, es, ep, e, d, r⟩
    exact ⟨o, es, ep, hidT_get e (hD b o es ep e d), d, r⟩
  have kin : K.In (hidT s.heap H) := fun b o e => hidT_get (KX b o e) (by
    by_cases z : H b = none
    · exact z
    · rw [hK b z] at e; cases e)
  obtain ⟨mc, l1, l2⟩ := L
  refine ⟨hidT s.heap H, kin, keep G, rfl, ⟨kin, keep G, ⟨mb, keep B, BB⟩, mc, keep l1, l2⟩, fun b o => of_hidT, Nat.le_of_eq (hidT_size _ _), trivial, fun b z => ?_, ok, .of_eq gs⟩
  cases z
theorem law_act {P : Program} {w : World} {K : Fr_} {mg mb : Str → Option Value} {k : Nat} {fa a : Addr} {fd : FuncData} {x : Str} {s : Shared} {vs : List Value} {ns : List Int} (KX : K.In s.heap) (G : s.heap.Ns mainGlobals mg) (B : s.heap.Ns builtinsNs mb) (BB : ∀ x : Str, x ≠ "__name__" → mb x = bootBuiltins x)
    (L : s.heap.NoLimit) (gs : s.gens = #[]) (ha : s.heap.get? a = some { cls := .type "list", data := .seq vs.toArray }) (hi : IntsAre vs ns) (hl : ns.length ≤ 63) (room : Room k callerA) (F : ∀ base : Heap, K.In base → base.Ns mainGlobals mg → Pro P w K mg base k fa fd [x] (spC K 1 C_true))
    (bind : ∀ (s : Shared) (u : Value), BindsTo s fd ⟨[u], []⟩ [(x, u)]) : codeAny (model P w) callerA (.call (.ref fa) ⟨[.ref a], []⟩) (fun r s' => r = .ok (.ret (.bool true)) ∧ OldK s.heap s'.heap ∧ s'.os = s.os ∧ AllBare s'.gens) s := by
  have rv := vals_ints hi
  have small : ns.length ≤ sizeLine := by rw [sizeLine_eq]; omega
  have main : ∀ H : Hp, SqL K H a (ns.map V.int) → HOk P w H s.heap → (∀ b, H b ≠ none → K.lookup b = none) → (∀ b, H b = none ∨ (b = a ∧ H a = some (.frz { cls := .type "list", data := .seq vs.toArray } (.lst (ns.map V.int))))) →
      codeAny (model P w) callerA (.call (.ref fa) ⟨[.ref a], []⟩) (fun r s' => r = .ok (.ret (.bool true)) ∧ OldK s.heap s'.heap ∧ s'.os = s.os ∧ AllBare s'.gens) s := by
    intro H hS ok hK only
    obtain ⟨base, b1, b2, e0⟩ := at_top KX G B BB L gs ok hK fun b o es ep e d => by
      rcases only b with z | ⟨rfl, _⟩
      · exact z
      · rw [ha] at e
        cases e
        exact absurd d (by simp)
    refine codeAny_mono ((F base b1 b2).act (us := [.ref a]) (E := fun _ _ _ => False) rfl room e0 (bind s (.ref a)) (.cons (show RelV (.ref a) (.ref a) from rfl) .nil) (law_sp hl hS)) fun r s' q => ?_
    match r, q with
    | .error e, q => exact q.elim
    | .ok .next, q => exact False.elim q
    | .ok .brk, q => exact False.elim q
    | .ok .cont, q => exact False.elim q
    | .ok (.ret u), ⟨v, H', os, bare, un, ok', rel, q⟩ =>
      replace q : v = .bl true := q
      rw [q] at rel
      cases rel
      refine ⟨rfl, OldK.of_keep fun b o e => ?_, os, bare⟩
      rcases only b with z | ⟨rfl, z⟩
      · exact un.keep b o e z (fun z => by cases z) (by simp)
      · obtain ⟨e1, _⟩ := ok _ _ z
        obtain ⟨e2, _⟩ := ok' _ _ (un.frzs _ _ _ z)
        rw [e] at e1
        cases e1
        exact e2
  by_cases hk : K.lookup a = none
  · refine main (fun b => if b = a then some (.frz { cls := .type "list", data := .seq vs.toArray } (.lst (ns.map V.int))) else none) (.inl (.inr ⟨_, if_pos rfl⟩)) (fun b u z => ?_) (fun b z => ?_) fun b => ?_
    · by_cases e : b = a
      · subst e
        cases (if_pos rfl).symm.trans z
        exact ⟨ha, by rw [List.length_map]; exact small, vs, _, rv, ha⟩
      · cases (if_neg e).symm.trans z
    · by_cases e : b = a
      · rw [e]; exact hk
      · exact absurd (if_neg e) z
    · by_cases e : b = a
      · exact .inr ⟨e, if_pos rfl⟩
      · exact .inl (if_neg e)
  · obtain ⟨o, ho⟩ := Option.ne_none_iff_exists'.mp hk
    have e := KX a o ho
    rw [ha] at e
    cases e
    exact main (fun _ => none) (.inr ⟨_, vs.toArray, _, ho, rfl, rfl, rfl, by rw [List.size_toArray, hi.length]; exact small, by simpa using rv⟩) (fun b u z => by cases z) (fun b z => absurd rfl z) fun b => .inl rfl
/-- the goal that the head leaves -/
theorem law_walk {l : PySem.W.OpenLaw} {q : Program} {loose : List Str} {XP : (Str → Option Value) → Heap → Prop} {YP : World → Heap → Prop} {d : DefRec} {K : Params → PySem.W.Frag} {x : Str} (k : Nat) (hn : l.most = some 63) (hdf : d.params.defaults = []) (hr : Room k callerA)
    (hY : ∀ (w : World) (h : Heap), YP w h → (K w.params).In h) (hst : d.name = "law")
    (F : ∀ (w : World) (mg : Str → Option Value) (fa : Addr) (h : Heap), (K w.params).In h → h.Ns mainGlobals mg → mg "law" = some (.ref fa) →
      ∃ f fd, mg "law" = some (.ref f) ∧ (∀ (s : Shared) (ws : List Value), ws.length = [x].length → BindsTo s fd ⟨ws, []⟩ ([x].zip ws)) ∧ ∀ base : Heap, (K w.params).In base → base.Ns mainGlobals mg → Pro l.prog w (K w.params) mg base k f fd [x] (spC (K w.params) 1 C_true)) :
    PySem.W.WalkO q loose XP YP l.row.toRowW d [] (fun f vs => PySem.call f vs) :=
  Att.attach_call hn hdf fun w s₀ s₁ mg mb fa o pm cd doc a vs ns G Y ho hd hcd hmg hobj hints hlen hg => by
    have KX := hY w _ Y
    rw [hst] at hmg
    obtain ⟨f, fd, e, b, ok⟩ := F w mg fa _ KX G.T.g hmg
    cases hmg.symm.trans e
    exact law_act KX G.T.g G.T.b G.T.builtins G.T.nolimit hg hobj hints hlen hr ok fun s u => b s [u] rfl
end
end DL

namespace DL
open PySem PySem.Spec PyProof.Rows L2
/-! ### truths among ints -/
def bI (b : Bool) : Int := if b = true then 1 else 0
def rMix (g : Int → Int → Int) : R2 := fun x y H Q => (∃ a b, x = .bl a ∧ y = .bl b ∧ Q (.int (g (bI a) (bI b))) H) ∨ (∃ a j, x = .bl a ∧ y = .int j ∧ Q (.int (g (bI a) j)) H) ∨ (∃ i b, x = .int i ∧ y = .bl b ∧ Q (.int (g i (bI b))) H)
section
variable {X : Cx}
theorem op_mix {op : Operator} {g : Int → Int → Int}
    (bb : ∀ (s : Shared) (Q E : Value → Shared → Prop) (a b : Bool), Q (.int (g (bI a) (bI b)) s.toks) { s with toks := s.toks + 1 } → wpAny (model X.prog X.w) X.A (binaryOp op (.bool a) (.bool b)) Q E s)
    (bi : ∀ (s : Shared) (Q E : Value → Shared → Prop) (a : Bool) (j : Int) (u : Tok), Q (.int (g (bI a) j) s.toks) { s with toks := s.toks + 1 } → wpAny (model X.prog X.w) X.A (binaryOp op (.bool a) (.int j u)) Q E s)
    (ib : ∀ (s : Shared) (Q E : Value → Shared → Prop) (i : Int) (t : Tok) (b : Bool), Q (.int (g i (bI b)) s.toks) { s with toks := s.toks + 1 } → wpAny (model X.prog X.w) X.A (binaryOp op (.int i t) (.bool b)) Q E s) : OpR X (binaryOp op) (rMix g) := by
  rintro pins s σ H x y v u Q I rx ry (⟨a, b, rfl, rfl, q⟩ | ⟨a, j, rfl, rfl, q⟩ | ⟨i, b, rfl, rfl, q⟩)
  · cases rx; cases ry
    exact bb s _ _ a b ⟨.int _, H, I.tok _, ⟨_, rfl⟩, q⟩
  · cases rx
    obtain ⟨t, rfl⟩ := ry
    exact bi s _ _ a j t ⟨.int _, H, I.tok _, ⟨_, rfl⟩, q⟩
  · cases ry
    obtain ⟨t, rfl⟩ := rx
    exact ib s _ _ i t b ⟨.int _, H, I.tok _, ⟨_, rfl⟩, q⟩
theorem op_addX : OpR X (binaryOp .Add) (rMix (· + ·)) := op_mix (fun _ _ _ _ _ q => add_bool q) (fun _ _ _ _ _ _ q => IntBool.add_bool_int q) (fun _ _ _ _ _ _ q => add_int_bool q)
theorem op_subX : OpR X (binaryOp .Sub) (rMix (· - ·)) := op_mix (fun _ _ _ _ _ q => sub_bool q) (fun _ _ _ _ _ _ q => IntBool.sub_bool_int q) (fun _ _ _ _ _ _ q => IntBool.sub_int_bool q)
theorem op_mulX : OpR X (binaryOp .Mult) (rMix (· * ·)) := op_mix (fun _ _ _ _ _ q => mul_bool q) (fun _ _ _ _ _ _ q => IntBool.mul_bool_int q) (fun _ _ _ _ _ _ q => IntBool.mul_int_bool q)
end
/-- a truth and an int, in any order -/
def oMix (g : Int → Int → Int) (o : O2) : O2 := fun x y R => match x, y with
  | .bool a, .bool b => R (.int (g (bI a) (bI b)))
  | .bool a, .int j => R (.int (g (bI a) j))
  | .int i, .bool b => R (.int (g i (bI b)))
  | x, y => o x y R
section
variable {K : Fr_}
theorem sMix {g : Int → Int → Int} {r : R2} {o : O2} (s : OpS K r o) : OpS K (fun x y H Q => rMix g x y H Q ∨ r x y H Q) (oMix g o) := ⟨fun {O w H x y vx vy R Q} ol rx ry h k => by
  unfold oMix at h
  split at h
  · exact .inl (.inl ⟨_, _, rx.bool, ry.bool, k _ _ H (Same.refl H) (by simp only [Rep]) h⟩)
  · exact .inl (.inr (.inl ⟨_, _, rx.bool, ry.int, k _ _ H (Same.refl H) (by simp only [Rep]) h⟩))
  · exact .inl (.inr (.inr ⟨_, _, rx.int, ry.bool, k _ _ H (Same.refl H) (by simp only [Rep]) h⟩))
  · exact .inr (s.run ol rx ry h k)⟩
abbrev oAddM : O2 := oMix (· + ·) oAdd
abbrev oSubM : O2 := oMix (· - ·) (oI fun i j => .int (i - j))
abbrev oMulM : O2 := oMix (· * ·) (oIC CMulA fun i j => .int (i * j))
end
section
variable {X : Cx} {a b : Expr} {fa fb : FE} {pos : Pos}
theorem d_addM (ha : PE X a (rb X.K fa)) (hb : PE X b (rb X.K fb)) : PE X (.BinOp a .Add b pos) (rd X.K (fOp oAddM fa fb)) := d_bin (op_addX.or op_addAll) (sMix sAdd) ha hb
theorem d_subM (ha : PE X a (rb X.K fa)) (hb : PE X b (rb X.K fb)) : PE X (.BinOp a .Sub b pos) (rd X.K (fOp oSubM fa fb)) := d_bin (op_subX.or op_sub) (sMix sInt) ha hb
theorem d_mulM (ha : PE X a (rb X.K fa)) (hb : PE X b (rb X.K fb)) : PE X (.BinOp a .Mult b pos) (rd X.K (fOp oMulM fa fb)) := d_bin (op_mulX.or op_mulA) (sMix sIntC) ha hb
end
/-! ### repr and str -/
def rReprG (K : Fr_) : List V → Hp → VK → Prop := fun xs H Q => rReprS xs H Q ∨ ∃ a d, xs = [.ref a] ∧ Dp K H (.ref a) d ∧ d.canLay0 = true ∧ d.showable = true ∧ d.depth ≤ 60 ∧ d.shown.length ≤ sizeLine ∧ Q (.str d.shown) H
theorem call_reprG {X : Cx} {k : Nat} (hr : RoomG k X.A) : CallR X (.builtin "repr") (rReprG X.K) := by
  rintro pins s σ H xs us Q I r (h | ⟨a, d, rfl, hd, hc, hs, hdp, hz, q⟩)
  · exact call_reprD pins s σ H xs us Q I r h
  · obtain ⟨u, rfl, ru⟩ := vals1 r
    obtain ⟨as, rr⟩ := Dp.reads I d _ u hd ru
    cases ru
    refine repr_of_reads' rr hs (PyData.noDict_hsm (PyData.hasDict_of_canLay d hc)) hr.quiet (by have := hr.room.un; omega) (fun _ _ e => e) (fun h' u tk keep => ?_) hz
    exact ⟨.str _, H, I.kept keep, ⟨_, rfl⟩, q⟩
def showOk (d : PyData) : Prop := d.canLay0 = true ∧ d.showable = true ∧ d.depth ≤ 60 ∧ d.shown.length ≤ sizeLine
def oReprG : O1 := fun x R => match x with
  | .list ds => showOk (.list ds) ∧ R (.str (PyData.list ds).shown)
  | .tuple ds => showOk (.tuple ds) ∧ R (.str (PyData.tuple ds).shown)
  | x => oRepr x R
theorem sReprG {K : Fr_} : UnS K (t1 (rReprG K)) oReprG := ⟨fun {O w H x vx R Q} ol rx h k => by
  unfold oReprG at h
  split at h
  · obtain ⟨⟨c, s, dp, z⟩, q⟩ := h
    have hd := rx.dp c
    obtain ⟨p, vs, rfl, _⟩ := rx.lst
    exact .inr ⟨p, _, rfl, hd, c, s, dp, z, k _ _ H (Same.refl H) (by simp only [Rep]) q⟩
  · obtain ⟨⟨c, s, dp, z⟩, q⟩ := h
    have hd := rx.dp c
    obtain ⟨p, vs, rfl, _⟩ := rx.tup
    exact .inr ⟨p, _, rfl, hd, c, s, dp, z, k _ _ H (Same.refl H) (by simp only [Rep]) q⟩
  · exact .inl (sRepr.run ol rx h k)⟩
def rStrS : List V → Hp → VK → Prop := fun xs H Q => (∃ b, xs = [.bl b] ∧ Q (.str (if b then "True" else "False")) H) ∨ (∃ i, xs = [.int i] ∧ i.natAbs.log2 < 1920 ∧ Q (.str (toString i)) H) ∨ ∃ a, xs = [.str a] ∧ Q (.str a) H
theorem call_strD {X : Cx} : CallR X (.type "str") rStrS := by
  rintro pins s σ H xs us Q I r (⟨b, rfl, q⟩ | ⟨i, rfl, hz, q⟩ | ⟨a, rfl, q⟩)
  · obtain ⟨u, rfl, ru⟩ := vals1 r
    cases ru
    exact PySem.P.str_of_bool ⟨.str _, H, I.tok _, ⟨_, rfl⟩, q⟩
  · exact call_str_int pins s σ H _ us Q I r ⟨i, rfl, hz, q⟩
  · exact SkE.call_str_str pins s σ H _ us Q I r ⟨a, rfl, q⟩
def oStr : O1 := fun x R => match x with
  | .bool b => R (.str (if b then "True" else "False"))
  | .int i => i.natAbs.log2 < 1920 ∧ R (.str (toString i))
  | .str a => R (.str a)
  | _ => False
theorem sStr {K : Fr_} : UnS K (t1 rStrS) oStr := ⟨fun {O w H x vx R Q} ol rx h k => by
  unfold oStr at h
  split at h
  · have e := rx.bool
    subst e
    exact .inl ⟨_, rfl, k _ _ H (Same.refl H) (by simp only [Rep]) h⟩
  · have e := rx.int
    subst e
    exact .inr (.inl ⟨_, rfl, h.1, k _ _ H (Same.refl H) (by simp only [Rep]) h.2⟩)
  · have e := rx.str
    subst e
    exact .inr (.inr ⟨_, rfl, k _ _ H (Same.refl H) (by simp only [Rep]) h⟩)
  · exact h.elim⟩
end DL

namespace DL
open PySem PySem.Spec PyProof.Rows L2 HT
/-! ### xs[::-1] -/
section
variable {prog : Program} {w : World} {A : Around} {E : Value → Shared → Prop} {s : Shared}
theorem back_places (n : Nat) : Builtin.Slice.slicePlaces ((n : Int) - 1) (-1) (-1) = n := by
  unfold Builtin.Slice.slicePlaces
  rw [if_neg (by decide)]
  split
  · rw [show (- -1 : Int) = 1 by decide, Int.ediv_one]
    omega
  · omega
theorem back_pick (xs : Array Value) : ((List.range xs.size).filterMap fun (m : Nat) => xs[(((xs.size : Int) - 1) + (m : Int) * -1).toNat]?).toArray = xs.toList.reverse.toArray := by
  have e : (List.range xs.size).filterMap (fun (m : Nat) => xs[(((xs.size : Int) - 1) + (m : Int) * -1).toNat]?) = ((List.range xs.size).map fun k => xs.size - 1 - k).filterMap (xs[·]?) := by
    rw [List.filterMap_map]
    refine congrArg (fun f => List.filterMap f (List.range xs.size)) (funext fun m => ?_)
    have : (((xs.size : Int) - 1) + (m : Int) * -1).toNat = xs.size - 1 - m := by omega
    rw [this]
    rfl
  rw [e, PySem.W.krv_range, List.filterMap_reverse, PySem.W.krv_all]
theorem applied_back {sl : Addr} {u : Tok} {n : Nat} {Q : Int × Int × Nat → Shared → Prop} (hs : s.heap.IsSliceOf sl .none .none (.int (-1) u)) (h : Q ((n : Int) - 1, -1, n) s) :
    wpAny (model prog w) A (Builtin.Slice.sliceApplied (.ref sl) (pure (n : Int))) Q E s := by
  obtain ⟨os, hos, hcs, hds⟩ := id hs
  unfold Builtin.Slice.sliceApplied Builtin.Slice.sliceFields
  refine wpAny_bind (wpAny_bind (wpAny_field hos hds (x := .none) rfl (wpAny_bind (wpAny_field hos hds (x := .none) rfl (wpAny_bind (wpAny_field hos hds (x := .int (-1) u) rfl (wpAny_pure ?_)))))))
  refine wpAny_bind (slicePart_int ?_)
  show wpAny _ _ (if ((-1 : Int) == 0) = true then _ else _) _ _ s
  rw [if_neg (by decide)]
  refine wpAny_bind (slicePart_none (wpAny_bind (slicePart_none (wpAny_bind (wpAny_pure ?_)))))
  show wpAny _ _ (pure ((n : Int) - 1, (-1 : Int), Builtin.Slice.slicePlaces ((n : Int) - 1) (-1) (-1))) _ _ s
  rw [back_places]
  exact wpAny_pure h
theorem tuple_back {t sl : Addr} {items : Array Value} {u : Tok} {Q : Value → Shared → Prop} (ht : IsTup s.heap t items) (hs : s.heap.IsSliceOf sl .none .none (.int (-1) u))
    (h : Q (.ref s.heap.objs.size) { s with heap := s.heap.push { cls := .type "tuple", data := .seq items.toList.reverse.toArray } }) (hsz : items.size ≤ sizeLine) : wpAny (model prog w) A (getItem (.ref t) (.ref sl)) Q E s := by
  have fit : sizeOk (.seq items.toList.reverse.toArray) := by
    show items.toList.reverse.toArray.size ≤ sizeLine
    rw [List.size_toArray, List.length_reverse, Array.length_toList]
    exact hsz
  obtain ⟨os, hos, hcs, hds⟩ := id hs
  have hTs : s.TypeIs (.ref sl) "slice" := ⟨os, hos, hcs⟩
  unfold getItem
  try with_reducible refine wpAny_holding ?_
  first | refine wpAny_bind (wpAny_pure ?_) | skip
  refine wpAny_bind (wpAny_sequenceKey ht.typeIs (by decide) (wpAny_bind (wpAny_callSpecial?_slot (name := Str.ofString "__getitem__") ht.typeIs PyProof.Rows.slot_tuple_getitem
    (wpAny_call_entry PyProof.Rows.slot_tuple_getitem ht.typeIs entry_tuple_getitem ?_ (args_tuple_getitem _ _)))))
  show wpAny _ _ (Builtin.Tuple.tupleItemsOf (.ref t) >>= _) _ _ s
  refine wpAny_bind (tupleItemsOf_ ht (wpAny_bind (wpAny_typeOf hTs ?_)))
  rw [if_pos (by decide)]
  refine wpAny_bind (applied_back hs ?_)
  show wpAny _ _ (if (((items.size : Int) - 1) == 0 && (-1 : Int) == 1 && items.size == items.size) = true then _ else _) _ _ s
  rw [if_neg (by simp), back_pick]
  first
    | exact wpAny_bind (m := Builtin.Tuple.tupleExact _) (wpAny_newObj_type (wpAny_pure ⟨_, rfl, wpAny_pure h⟩) fit)
    | exact wpAny_bind (m := Builtin.Tuple.tupleExact _) (wpAny_newObj_type (wpAny_bind (wpAny_pure (wpAny_pure ⟨_, rfl, wpAny_pure h⟩))) fit)
    | exact wpAny_bind (wpAny_bind (m := Builtin.Tuple.tupleExact _) (wpAny_newObj_type (wpAny_pure (wpAny_pure ⟨_, rfl, wpAny_pure h⟩)) fit))
    | exact wpAny_bind (wpAny_bind (m := Builtin.Tuple.tupleExact _) (wpAny_newObj_type (wpAny_pure ⟨_, rfl, wpAny_pure h⟩) fit))
end
section
variable {X : Cx} {e : Expr} {pos p2 p3 p4 : Pos} {j : Nat} {te : TE} {f : FE}
def tBack (K : Fr_) (te : TE) : TE := fun σ H Q => te σ H fun x H1 => ∃ a xs, x = .ref a ∧ ((SqT K H1 a xs ∧ ∀ p, H1 p = none → Q (.ref p) (upd H1 p (.tup xs.reverse))) ∨ (SqL K H1 a xs ∧ ∀ p, H1 p = none → Q (.ref p) (upd H1 p (.lst xs.reverse))))
theorem pe_back (he : PE X e te) : PE X (.Subscript e (.Slice none none (some (.UnaryOp .USub (.Constant (.int 1) j p3) p4)) p2) pos) (tBack X.K te) := by
  refine ⟨fun pins s σ H Q I h => Subscript_ (thn (he.run pins s σ H _ I h) fun v s1 ⟨x, H1, I1, r1, q1⟩ => ?_)⟩
  have step : PE X (.UnaryOp .USub (.Constant (.int 1) j p3) p4) _ := pe_un un_neg pe_int
  refine wpAny_Slice ?_
  rw [evalPart_none]
  refine wpAny_pure (wpAny_pure ?_)
  rw [evalPart_some]
  refine thn (step.run pins s1 σ H1 (fun x H' => x = .int (-1) ∧ H' = H1) I1 ⟨1, rfl, rfl, rfl⟩) ?_
  rintro u s2 ⟨y, H2, I2, ry, rfl, rfl⟩
  obtain ⟨t, rfl⟩ := ry
  have I3 : Inv X pins σ H2 { s2 with heap := s2.heap.push { cls := .type "slice", data := .fields #[.none, .none, .int (-1) t] } } := I2.kept (t' := s2.toks) fun b ob q => Heap.get?_push_of_some _ q
  obtain ⟨a, xs, rfl, q | q⟩ := q1
  · obtain ⟨hx, q⟩ := q
    cases r1
    obtain ⟨its, r, ht, hz⟩ := I3.tuple hx
    have hl := r.length
    refine tail_any (T := "tuple") (ops := [.ref a, .ref s2.heap.objs.size]) ht.typeIs PyProof.Rows.slot_tuple_getitem.lookup ?_ (by with_unfolding_all rfl)
    refine tuple_back ht (Heap.IsSliceOf.new ..) ?_ (by rw [List.size_toArray, ← hl]; exact hz)
    refine ⟨.ref _, _, I3.laid (t' := s2.toks) (o := .tup xs.reverse) (fun b ob q => Heap.get?_push_of_some _ q) (Nat.le_refl _) ?_, rfl, q _ (I3.hok.fresh (Nat.le_refl _))⟩
    exact ⟨by rw [List.length_reverse]; exact hz, _, r.reverse, IsTup.new _ _⟩
  · obtain ⟨hx, q⟩ := q
    cases r1
    obtain ⟨its, r, ht, hz⟩ := I3.list hx
    have hl := r.length
    refine tail_any (T := "list") (ops := [.ref a, .ref s2.heap.objs.size]) ht.isList.typeIs slot_list_getitem.lookup ?_ (by with_unfolding_all rfl)
    refine wpAny_getItem_list_slice ht.isList (Heap.IsSliceOf.new ..) .none .none (.int (-1) t) (by simp) ?_ (by rw [List.size_toArray, ← hl]; exact hz)
    rw [PySem.W.krv_pick]
    refine ⟨.ref _, _, I3.laid (t' := s2.toks) (o := .lst xs.reverse) (fun b ob q => Heap.get?_push_of_some _ q) (Nat.le_refl _) ?_, rfl, q _ (I3.hok.fresh (Nat.le_refl _))⟩
    exact ⟨by rw [List.length_reverse]; exact hz, _, 0, r.reverse, Heap.get?_push_size _ rfl⟩
theorem Reps.back {K : Fr_} {O : AS} {H : Hp} : ∀ {ds : List PyData} {vs : List V}, Reps K O H ds vs → Reps K O H ds.reverse vs.reverse
  | [], _, h => by simp only [Reps] at h; subst h; simp [Reps]
  | d :: ds, _, h => by
    simp only [Reps] at h
    obtain ⟨v, r, rfl, h1, h2⟩ := h
    rw [List.reverse_cons, List.reverse_cons]
    exact (Reps.back h2).app (by simp only [Reps]; exact ⟨v, [], rfl, h1, rfl⟩)
def oBack : O1 := fun x R => match x with
  | .tuple ds => R (.tuple ds.reverse)
  | .list ds => R (.list ds.reverse)
  | _ => False
theorem d_back (he : PE X e (rb X.K f)) : PE X (.Subscript e (.Slice none none (some (.UnaryOp .USub (.Constant (.int 1) j p3) p4)) p2) pos) (rd X.K (fUn oBack f)) := PE.imp (pe_back he) fun σ H Q ⟨Oc, w, ρ, S, R, ev, hf, k⟩ =>
  ⟨Oc, w, ρ, S, _, ev, hf, fun d S1 v H1 ev1 g1 r h1 => by
    unfold oBack at h1
    split at h1
    · obtain ⟨p, vs, rfl, q1, r1⟩ := r.tup
      exact ⟨p, vs, rfl, .inl ⟨q1, fun t ht => k _ S1 _ _ (ev1.same (Same.new ht)) (g1.trans (Gr.of (Same.new ht))) (rep_tup ev1.Ool ht r1.back) h1⟩⟩
    · obtain ⟨p, vs, rfl, q1, r1⟩ := r.lst
      exact ⟨p, vs, rfl, .inr ⟨q1, fun t ht => k _ S1 _ _ (ev1.same (Same.new ht)) (g1.trans (Gr.of (Same.new ht))) (rep_lst ev1.Ool ht r1.back) h1⟩⟩
    · exact h1.elim⟩
end
end DL
namespace DL
open PySem PySem.Spec PyProof.Rows L2
/-! ### {'A': 1}; calls by keywords in another order -/
section
variable {X : Cx} {pos p1 p2 : Pos} {k : Str} {i : Int} {j j2 : Nat}
theorem d_dict1 : PE X (.Dict [some (.Constant (.str k) j p1)] [.Constant (.int i) j2 p2] pos) (rd X.K (fC (.dict [(.str k, .int i)]))) :=
  PE.imp (pe_disp (pps_cons pe_str pe_int pps_nil) rfl rfl (by simp) (by simp)) fun σ H Q ⟨Oc, w, ρ, S, R, ev, hf, kk⟩ => by
    intro p hp
    refine ⟨upd_same, [(.inr k, .int i)], rfl, by simp, ?_⟩
    have e : upd (upd H p (.dK [])) p (.dK (mergeK [] [(.inr k, .int i)])) = upd H p (.dK [(.inr k, .int i)]) := by
      funext a
      by_cases z : a = p
      · subst z
        rw [upd_same, upd_same]
        rfl
      · rw [upd_ne z, upd_ne z, upd_ne z]
    show Q (.ref p) (upd (upd H p (.dK [])) p (.dK (mergeK [] [(.inr k, .int i)])))
    rw [e]
    refine kk (.dict [(.str k, .int i)]) S (.ref p) _ (ev.same (Same.new hp)) (Gr.of (Same.new hp)) ?_ hf
    simp only [Rep, Repd]
    exact ⟨p, _, rfl, ⟨.inl upd_same, ev.Ool.away hp⟩, .inr k, .int i, [], rfl, rfl, rfl, rfl⟩
end
def pm10 {α : Type} (l : List α) : List α := match l with | [a, b] => [b, a] | l => l
def pm120 {α : Type} (l : List α) : List α := match l with | [a, b, c] => [b, c, a] | l => l
section
variable {P : Program} {W : World} {K : Fr_} {mg : Str → Option Value} {base : Heap} {x : Str} {st : Stmt} {f : Addr} {fd : FuncData} {ps ks : List Str} {k n : Nat} {C : Ct}
theorem Fun.kw {pm : {α : Type} → List α → List α} (F : Fun K x x st f fd)
    (h : ∀ (kV doc pmv : Value) (an : Option Addr) (cdv ct : Value) (us : List Value), us.length = ks.length → bindArgs (PySem.W.fnOf x x (defArgs st) (defBody st) (defScope st) .none kV doc pmv an cdv ct) ⟨[], ks.zip us⟩ = pure (ps.zip (pm us))) :
    ∀ (s : Shared) (ws : List Value), ws.length = ks.length → BindsTo s fd ⟨[], ks.zip ws⟩ (ps.zip (pm ws)) := by
  obtain ⟨oc, od, kV, doc, pmv, an, cdv, ct, osl, rfl, lk, hcd⟩ := F.ex
  exact fun s ws e => .of_eq (h _ _ _ _ _ _ ws e)
theorem CalK.of10 (F : Pro P W K mg base k f fd ps (spC K 2 C)) (hk : PySem.W.keepIn K (.ref f) = true) (hm : mg x = some (.ref f)) (h2 : ks.length = 2)
    (b : ∀ (s : Shared) (ws : List Value), ws.length = ks.length → BindsTo s fd ⟨[], ks.zip ws⟩ (ps.zip (pm10 ws))) : CalK P W K mg base x k 2 C ks pm10 := by
  refine ⟨⟨f, fd, ps, F, hk, b, hm⟩, fun {vs us} hl r => ?_, fun {O w H as vs} hl r => ?_, fun {as} hl => ?_⟩
  · rw [h2] at hl
    match vs, us, r, hl with
    | [_, _], _, .cons r1 (.cons r2 .nil), _ => exact .cons r2 (.cons r1 .nil)
  · rw [h2] at hl
    match as, hl with
    | [a, b], _ =>
      simp only [Args] at r
      obtain ⟨v, _, rfl, r1, v2, _, rfl, r2, rfl⟩ := r
      simp only [pm10, Args]
      exact ⟨v2, [v], rfl, r2, v, [], rfl, r1, rfl⟩
  · rw [h2] at hl
    match as, hl with
    | [_, _], _ => rfl
theorem CalK.of120 (F : Pro P W K mg base k f fd ps (spC K 3 C)) (hk : PySem.W.keepIn K (.ref f) = true) (hm : mg x = some (.ref f)) (h2 : ks.length = 3)
    (b : ∀ (s : Shared) (ws : List Value), ws.length = ks.length → BindsTo s fd ⟨[], ks.zip ws⟩ (ps.zip (pm120 ws))) : CalK P W K mg base x k 3 C ks pm120 := by
  refine ⟨⟨f, fd, ps, F, hk, b, hm⟩, fun {vs us} hl r => ?_, fun {O w H as vs} hl r => ?_, fun {as} hl => ?_⟩
  · rw [h2] at hl
    match vs, us, r, hl with
    | [_, _, _], _, .cons r1 (.cons r2 (.cons r3 .nil)), _ => exact .cons r2 (.cons r3 (.cons r1 .nil))
  · rw [h2] at hl
    match as, hl with
    | [a, b, c], _ =>
      simp only [Args] at r
      obtain ⟨v, _, rfl, r1, v2, _, rfl, r2, v3, _, rfl, r3, rfl⟩ := r
      simp only [pm120, Args]
      exact ⟨v2, [v3, v], rfl, r2, v3, [v], rfl, r3, v, [], rfl, r1, rfl⟩
  · rw [h2] at hl
    match as, hl with
    | [_, _, _], _ => rfl
end
end DL

namespace DL
open PySem PySem.Spec PyProof.Rows L2
/-! ### enumerate of a tuple -/
theorem meets_enum1 {v : Value} {o : Obj} {H : Heap → Prop} (B : Begins v o H) :
    Meets (Builtin.«enumerate.__new__» ⟨[.type "enumerate", v], []⟩) (fun _ R s => H s.heap ∧
      R (.ok (.ret (.ref (s.heap.push o).objs.size))) { s with heap := (s.heap.push o).push { cls := .type "enumerate", data := .fields #[.none, .bool false, .ref s.heap.objs.size, rawInt 0, .none, .none] } }) :=
  .of_wp fun prog w A R s h => by
    obtain ⟨hp, g, d, tk, os⟩ := s; obtain ⟨h1, h⟩ := h
    have hsub := sub_enumerate
    have q1 : ∀ {A' : Around} {E : Value → Shared → Prop} {Q : Value → Shared → Prop}, Q (.ref hp.objs.size) ⟨hp.push o, g, d, tk, os⟩ → wpAny (model prog w) A' (pyIter v) Q E ⟨hp, g, d, tk, os⟩ :=
      fun q => B.iter prog w _ _ ⟨hp, g, d, tk, os⟩ _ h1 q
    wp_walk using q1
    refine wpAny_stack_any fun st => wpAny_pure ?_
    split
    · rename_i c _ _ _ _ _
      cases (c == Value.type "enumerate")
      · wp_walk using q1
        exact ⟨_, rfl, h⟩
      · wp_walk using q1
        exact ⟨_, rfl, h⟩
    · wp_walk using q1
      exact ⟨_, rfl, h⟩
theorem enum_begins1 {prog : Program} {w : World} {A : Around} {E : Value → Shared → Prop} {s : Shared} {v : Value} {o : Obj} {H : Heap → Prop} {Q : Value → Shared → Prop} (B : Begins v o H) (h1 : H s.heap)
    (h : ∀ h', IsEnum h' (s.heap.objs.size + 1) s.heap.objs.size 0 .none → h'.get? s.heap.objs.size = some o → h'.objs.size = s.heap.objs.size + 2 →
      (∀ b o, s.heap.get? b = some o → h'.get? b = some o) → Q (.ref (s.heap.objs.size + 1)) { s with heap := h' }) :
    wpAny (model prog w) A (call (.type "enumerate") [v]) Q E s := by
  refine callType_new F.called_enumerate (by decide) (F.typeCall_enumerate_1 _) (F.newCall_enumerate_1 _) (fun obj => F.args_object_init_2 obj _) F.entry_enumerate_new
    (meets_enum1 B) ⟨h1, ?_⟩
  have hz : (s.heap.push o).objs.size = s.heap.objs.size + 1 := Heap.size_push ..
  show _ ∧ _
  rw [hz]
  have he : IsEnum ((s.heap.push o).push { cls := .type "enumerate", data := .fields #[.none, .bool false, .ref s.heap.objs.size, rawInt 0, .none, .none] }) (s.heap.objs.size + 1) s.heap.objs.size 0 .none := by
    have := Heap.get?_push_size (s.heap.push o) (o := { cls := .type "enumerate", data := .fields #[.none, .bool false, .ref s.heap.objs.size, rawInt 0, .none, .none] }) rfl
    rw [hz] at this; exact this
  refine ⟨⟨_, he, rfl⟩, h _ he (Heap.get?_push_of_some _ (Heap.get?_push_size _ B.free)) (by rw [Heap.size_push, hz]) fun b o x => Heap.get?_push_of_some _ (Heap.get?_push_of_some _ x)⟩
theorem pyNext_enumT_end {prog : Program} {w : World} {A : Around} {E : Value → Shared → Prop} {s : Shared} {e it l : Addr} {i : Nat} {items : Array Value} {old : Value} {Q : Option Value → Shared → Prop} (hh : A.handled = none)
    (he : IsEnum s.heap e it i old) (hit : s.heap.IsTupleIter it l i) (hl : s.heap.IsTuple l items) (hx : items[i]? = none)
    (hQ : ∀ h', Heap.ExtBut it s.heap h' → Q none { s with heap := h' }) : wpAny (model prog w) A (pyNext (.ref e)) Q E s := by
  have hT : s.TypeIs (.ref e) "enumerate" := ⟨_, he, rfl⟩
  unfold pyNext
  refine wpAny_bind (wpAny_attempt (wpAny_callSpecial?_slot (name := Str.ofString "__next__") hT F.slot_enumerate_next
    (wpAny_call_entry F.slot_enumerate_next hT F.entry_enumerate_next ?_ (F.args_enumerate_next_1 _))))
  show wpAny _ _ (field (.ref e) 2 >>= _) _ _ _
  refine wpAny_bind (wpAny_field he rfl (x := .ref it) rfl ?_)
  refine wpAny_bind (wpAny_nextOf_tuple_end hh hit hl hx fun h' x he' hx' => ?_)
  obtain ⟨o, ho, hc⟩ := hx'
  refine wpAny_bind (wpAny_isInstance (T := "StopIteration") (b := true) ⟨o, ho, hc⟩ isSubtype_stop ?_)
  exact wpAny_pure (hQ _ he')
def IteT (K : PySem.W.Frag) (a : Addr) : It :=
  ⟨fun i H => ∃ (xs : List V) (x : V), SqT K H a xs ∧ xs[i]? = some x, fun i H v H' => ∃ T x, v = .ref T ∧ H T = none ∧ H' = upd H T (.tup [.int (i : Nat), x]) ∧ ∀ xs, SqT K H a xs → xs[i]? = some x, fun i H => ∃ xs : List V, SqT K H a xs ∧ xs.length ≤ i⟩
theorem turn_enumT {P : Program} {w : World} {K : PySem.W.Frag} {elts : List Expr} {kk : Nat} {tpos : Pos} {a e it : Addr} (hne : e ≠ it) (h1 : a ≠ it) (h2 : a ≠ e) :
    Turn P w K (.Tuple elts kk tpos) (IteT K a) [e, it] e (fun i h => (∃ old, IsEnum h e it ((i : Nat) : Int) old) ∧ h.IsTupleIter it a i) where
  mem := by simp
  obj := fun i h st b hb => by
    obtain ⟨⟨old, he⟩, ⟨o, ho, hc, hd⟩⟩ := st
    have e' : b = e ∨ b = it := by simpa using hb
    rcases e' with z | z
    · rw [z]; exact ⟨_, he, fun v q => nomatch q⟩
    · rw [z]; exact ⟨o, ho, fun v q => by rw [hd] at q; cases q⟩
  keep := fun i h h' st k => let ⟨⟨old, he⟩, hi⟩ := st; ⟨⟨old, k e (by simp) _ he⟩, hi.at fun o q => k it (by simp) o q⟩
  item := by
    intro X hP hw hK hc i pins s σ H E I hf st hg
    subst hP hw hK
    obtain ⟨⟨old, he⟩, hit⟩ := st
    obtain ⟨xs, x, hq, hx⟩ := hg
    obtain ⟨its, rv, p, hz⟩ := I.tuple hq
    obtain ⟨u, hu, ru⟩ := rv.get hx
    have hel : e < s.heap.objs.size := Heap.lt_size he
    have hil : it < s.heap.objs.size := by obtain ⟨_, q, _⟩ := hit; exact Heap.lt_size q
    have hlt : i < its.length := (List.getElem?_eq_some_iff.mp hu).1
    have hh : X.A.in1.handled = none := I.ok.hd hc
    refine wpAny_pyNext_enum_itemD (Draws.tuple hh it a h1 its.toArray) he ⟨hit, p⟩ (by simpa using hlt) hne (by simp [hne, Ne.symm h2]) fun u' h' tk hu' ho hst' hT hsz hk => ?_
    have eu : u' = u := by
      have : its.toArray[i]? = some u' := hu'
      rw [List.getElem?_toArray, hu] at this
      exact (Option.some.inj this).symm
    subst eu
    refine ⟨_, rfl, wpAny_letOwnedTupleGo_enum (s := { s with heap := h', toks := tk + 1 }) ho fun h'' he' sb => ?_⟩
    have hT2 : h''.get? s.heap.objs.size = some { cls := .type "tuple", data := .seq #[.int i tk, u'] } := (sb.2 _ (Nat.ne_of_gt hel)).trans hT
    have new : ObjOk X.prog X.w (upd H s.heap.objs.size (.tup [.int (i : Nat), x])) h'' s.heap.objs.size (.tup [.int (i : Nat), x]) :=
      ⟨by show 2 ≤ sizeLine; decide, [.int i tk, u'], .cons ⟨_, rfl⟩ (.cons ru .nil), ⟨_, hT2, rfl, _, rfl⟩⟩
    have I1 : Inv X pins σ (upd H s.heap.objs.size (.tup [.int (i : Nat), x])) { s with heap := h'', toks := tk + 1 } :=
      I.turnedNew (ch := [e, it]) (fun b ob hb q => (sb.2 b (fun z => hb (by simp [z]))).trans (hk b ob (fun z => hb (by simp [z])) (fun z => hb (by simp [z])) q)) hf (Nat.le_refl _) new
    refine ⟨.ref s.heap.objs.size, _, I1, rfl, ⟨_, x, rfl, I.hok.fresh (Nat.le_refl _), rfl, fun ys hy => by rw [I.tuple_inj hy hq]; exact hx⟩, ⟨⟨u', ?_⟩, hst'.1.at fun o q => (sb.2 it (Ne.symm hne)).trans q⟩, fun b hb => ?_⟩
    · have e1 : ((i + 1 : Nat) : Int) = (i : Int) + 1 := by omega
      rw [e1]; exact he'
    · have hb' : b < s.heap.objs.size := by
        have e' : b = e ∨ b = it := by simpa using hb
        rcases e' with z | z
        · rw [z]; exact hel
        · rw [z]; exact hil
      rw [upd_ne (Nat.ne_of_lt hb')]
      exact (hf b hb).1
  done := by
    intro X hP hw hK hc i pins s σ H E I hf st hg
    subst hP hw hK
    obtain ⟨⟨old, he⟩, hit⟩ := st
    obtain ⟨xs, hq, hx⟩ := hg
    obtain ⟨its, rv, p, hz⟩ := I.tuple hq
    obtain ⟨f0, f1, f2, f3, f4, f5⟩ := hf it (by simp)
    have hl := rv.length
    exact pyNext_enumT_end (I.ok.hd hc) he hit p (by simp; omega) fun h' eb => ⟨rfl, I.turned (t' := s.toks) (fun b o hb q => eb b o hb q) f0 f1 f3 f4 f5⟩
  self := fun A i s Q E st h => let ⟨⟨_, he⟩, _⟩ := st; wpAny_pyIter_enum he h
theorem walk_enumT {K : PySem.W.Frag} {a : Addr} {xs : List V} : Walk (IteT K a) xs.length (fun H => SqT K H a xs) (YPair (fun i => some (.int (i : Nat))) (fun i => xs[i]?)) := by
  refine ⟨fun i _ hi q => ⟨xs, xs[i], q, by simp [hi]⟩, fun _ q => ⟨xs, q, Nat.le_refl _⟩, fun i H v H' _ q y => ?_⟩
  obtain ⟨T, x, h1, h2, h3, h4⟩ := y
  exact ⟨T, .int (i : Nat), x, h1, h2, h3, rfl, h4 xs q⟩
def iEnumA (K : PySem.W.Frag) (ta : TA) : TI := fun σ H R => ta σ H fun vs H1 => ∃ a xs, vs = [.ref a] ∧ ((SqL K H1 a xs ∧ R (Ite K a) H1) ∨ (SqT K H1 a xs ∧ R (IteT K a) H1))
theorem pi_enumA {X : Cx} {e : Expr} {ta : TA} {p pos tpos : Pos} {elts : List Expr} {kk : Nat} (hg : Gl X "enumerate") (hm : X.mg "enumerate" = none) (ha : PA X [e] ta) (hs : starEach [e] X.env = [(false, eval e X.env)] := by rfl) :
    PI X (.Tuple elts kk tpos) (.Call (.Name "enumerate" p) [e] [] pos) (iEnumA X.K ta) := by
  refine ⟨fun pins s σ H R I h => ?_⟩
  refine Call_ (ld_blt I hg hm boot_enumerate (PyProof.Rows.callWith_type1 (thn (ha.run pos pins s σ H _ I h) fun us s1 ⟨vs, H1, I1, r1, q1⟩ => ?_) hs rfl))
  obtain ⟨a, xs, ex, q1⟩ := q1
  subst ex
  cases r1 with
  | cons r rr =>
    cases rr
    cases r
    have fresh2 : ∀ b, b ∈ [s1.heap.objs.size + 1, s1.heap.objs.size] → FpOk X pins H1 b := fun b hb => by
      have e' : b = s1.heap.objs.size + 1 ∨ b = s1.heap.objs.size := by simpa using hb
      have hle : s1.heap.objs.size ≤ b := by
        rcases e' with z | z
        · rw [z]; exact Nat.le_add_right _ _
        · rw [z]; exact Nat.le_refl _
      exact I1.fpOk hle (I1.hok.fresh hle)
    rcases q1 with ⟨hq, q⟩ | ⟨hq, q⟩
    · obtain ⟨its, rv, p', hz⟩ := I1.list hq
      refine call_enumerate_list p'.isList fun h' he hit hsz hk => wpAny_pyIter_enum he ?_
      have I2 : Inv X pins σ H1 { s1 with heap := h' } := I1.kept (t' := s1.toks) hk
      exact ⟨s1.heap.objs.size + 1, [s1.heap.objs.size + 1, s1.heap.objs.size], _, _, H1, rfl, I2, turn_enum a (s1.heap.objs.size + 1) s1.heap.objs.size, ⟨⟨.none, he⟩, hit, Nat.succ_ne_self _⟩, fresh2, q⟩
    · obtain ⟨its, rv, p', hz⟩ := I1.tuple hq
      have p2 : s1.heap.IsTuple a its.toArray := p'
      obtain ⟨o1, ho1, _⟩ := id p2
      have la : a < s1.heap.objs.size := Heap.lt_size ho1
      refine enum_begins1 (begins_tuple a its.toArray) p2 fun h' he hit hsz hk => wpAny_pyIter_enum he ?_
      have I2 : Inv X pins σ H1 { s1 with heap := h' } := I1.kept (t' := s1.toks) hk
      exact ⟨s1.heap.objs.size + 1, [s1.heap.objs.size + 1, s1.heap.objs.size], _, _, H1, rfl, I2, turn_enumT (Nat.succ_ne_self _) (Nat.ne_of_lt la) (Nat.ne_of_lt (Nat.lt_succ_of_lt la)), ⟨⟨.none, he⟩, ⟨_, hit, rfl, rfl⟩⟩, fresh2, q⟩
/-! ### for data -/
def enumD : Nat → List PyData → List PyData
  | _, [] => []
  | k, d :: ds => .tuple [.int (k : Nat), d] :: enumD (k + 1) ds
theorem enumD_len : ∀ (k : Nat) (ds : List PyData), (enumD k ds).length = ds.length
  | _, [] => rfl
  | k, d :: ds => by simp only [enumD, List.length_cons, enumD_len]
theorem enumD_at : ∀ {k : Nat} {ds : List PyData} {i : Nat} {d : PyData}, ds[i]? = some d → (enumD k ds)[i]? = some (.tuple [.int ((k + i : Nat) : Int), d])
  | k, d :: ds, 0, e, h => by cases h; rfl
  | k, d :: ds, i + 1, e, h => by
    simp only [enumD, List.getElem?_cons_succ] at h ⊢
    rw [enumD_at h, show k + 1 + i = k + (i + 1) from by omega]
def fiE (f : FE) : FI := fun ρ S T => f ρ S fun d S1 => match rowD d with
  | some ds => T (enumD 0 ds) S1
  | none => False
section
variable {K : Fr_} {O : AS} {w : List Addr} {H : Hp} {ds : List PyData} {vs : List V} {a : Addr}
theorem pair_rep {K : Fr_} {O : AS} {H : Hp} {p : Addr} {i : Int} {d : PyData} {v : V} (ol : OL O H) (n : H p = none) (r : Rep K O H d v) : Rep K O (upd H p (.tup [.int i, v])) (.tuple [.int i, d]) (.ref p) :=
  rep_tup ol n (by simp only [Reps, Rep]; exact ⟨_, _, rfl, rfl, _, _, rfl, r, rfl⟩)
theorem itg_enum {Rl : Hp → Prop} (hR : ∀ H', Rl H' → Step O H H') (hk : ∀ H', Rl H' → SqL K H' a vs) (ol : OL O H) (r : Reps K O H ds vs) : Itg K Rl O H (Ite K a) (enumD 0 ds) := by
  refine ⟨⟨_, _, by rw [enumD_len, ← r.len]; exact walk_enum (K := K) (a := a) (xs := vs), fun O' H' ol' ho h' => ⟨hk H' h', fun i x H3 y hi => ?_⟩⟩⟩
  obtain ⟨T, z, u, rfl, hT, rfl, hz, hu⟩ := y
  cases hz
  rw [enumD_len] at hi
  have hi' : ds[i]? = some ds[i] := List.getElem?_eq_getElem hi
  obtain ⟨v, hv, rv⟩ := (Reps.fw ho (hR _ h') ol ds vs r).at hi'
  replace hu : vs[i]? = some u := hu
  rw [hv] at hu
  cases hu
  have e := enumD_at (k := 0) hi'
  rw [Nat.zero_add] at e
  exact ⟨_, e, Same.new hT, pair_rep ol' hT rv⟩
theorem itg_enumT {Rl : Hp → Prop} (hR : ∀ H', Rl H' → Step O H H') (hq : SqT K H a vs) (ol : OL O H) (r : Reps K O H ds vs) : Itg K Rl O H (IteT K a) (enumD 0 ds) := by
  refine ⟨⟨_, _, by rw [enumD_len, ← r.len]; exact walk_enumT (K := K) (a := a) (xs := vs), fun O' H' ol' ho h' => ⟨SqT.step (hR H' h') ol hq, fun i x H3 y hi => ?_⟩⟩⟩
  obtain ⟨T, z, u, rfl, hT, rfl, hz, hu⟩ := y
  cases hz
  rw [enumD_len] at hi
  have hi' : ds[i]? = some ds[i] := List.getElem?_eq_getElem hi
  obtain ⟨v, hv, rv⟩ := (Reps.fw ho (hR _ h') ol ds vs r).at hi'
  replace hu : vs[i]? = some u := hu
  rw [hv] at hu
  cases hu
  have e := enumD_at (k := 0) hi'
  rw [Nat.zero_add] at e
  exact ⟨_, e, Same.new hT, pair_rep ol' hT rv⟩
end
section
variable {X : Cx} {e : Expr} {pos p tpos : Pos} {f : FE} {elts : List Expr} {kk : Nat}
theorem i_enum (h : PE X e (rd X.K f)) (hm : X.mg "enumerate" = none) (hg : Gl X "enumerate" := by rfl) (hs : starEach [e] X.env = [(false, eval e X.env)] := by rfl) (hs' : starEach (e :: []) X.env = (false, eval e X.env) :: starEach [] X.env := by rfl) :
    PI X (.Tuple elts kk tpos) (.Call (.Name "enumerate" p) [e] [] pos) (rif X.K (fiE f)) := PI.imp (pi_enumA hg hm (pa_cons h pa_nil hs') hs) fun σ H R ⟨Oc, w, ρ, S, T, ev, hf, k⟩ =>
  ⟨Oc, w, ρ, S, _, ev, hf, fun d S1 v H1 ev1 g1 r h1 => by
    cases d with
    | list ds =>
      simp only [Rep] at r
      obtain ⟨a, vs, rfl, q, r⟩ := r
      exact ⟨a, vs, rfl, .inl ⟨q.sq, k _ S1 _ H1 ev1 g1 (itg_enum (fun _ z => z) (fun H' s => (QL.step s q).sq) ev1.Ool r) h1⟩⟩
    | tuple ds =>
      simp only [Rep] at r
      obtain ⟨a, vs, rfl, q, r⟩ := r
      exact ⟨a, vs, rfl, .inr ⟨q, k _ S1 _ H1 ev1 g1 (itg_enumT (fun _ z => z) q ev1.Ool r) h1⟩⟩
    | _ => exact h1.elim⟩
end
end DL

namespace DL
open PySem PySem.Spec PyProof.Rows L2 SeqAt
/-! ### in, of any depth -/
section
variable {X : Cx}
def rInA (K : Fr_) (neg : Bool) : R2 := fun x y H Q => ∃ d e ds, Dp K H x d ∧ Dp K H y e ∧ (e = .list ds ∨ e = .tuple ds) ∧ SeqAt.shaped d = true ∧ SeqAt.shaped e = true ∧ Q (.bl (if neg then !(ds.any fun z => PyData.eqv z d) else ds.any fun z => PyData.eqv z d)) H
theorem op_inA (hu : X.A.units + 65 < cLine) : OpR X (compareOp .In) (rInA X.K false) := by
  intro pins s σ H x y v u Q I rx ry h
  obtain ⟨d, e, ds, hd, he, hk, sd, se, q⟩ := h
  obtain ⟨as, r1⟩ := Dp.reads I d x v hd rx
  obtain ⟨bs, r2⟩ := Dp.reads I e y u he ry
  rcases hk with rfl | rfl
  · exact SeqAt.in_list_reads r2 r1 (SeqAt.canLay_of_shaped se) (SeqAt.canLay_of_shaped sd) (room_in_shaped sd hu) ⟨.bl _, H, I, rfl, q⟩
  · exact SeqAt.in_tuple_reads r2 r1 (SeqAt.canLay_of_shaped se) (SeqAt.canLay_of_shaped sd) (room_in_shaped sd hu) ⟨.bl _, H, I, rfl, q⟩
theorem op_notInA (hu : X.A.units + 65 < cLine) : OpR X (compareOp .NotIn) (rInA X.K true) := by
  intro pins s σ H x y v u Q I rx ry h
  obtain ⟨d, e, ds, hd, he, hk, sd, se, q⟩ := h
  obtain ⟨as, r1⟩ := Dp.reads I d x v hd rx
  obtain ⟨bs, r2⟩ := Dp.reads I e y u he ry
  rcases hk with rfl | rfl
  · exact SeqAt.notIn_list_reads r2 r1 (SeqAt.canLay_of_shaped se) (SeqAt.canLay_of_shaped sd) (room_in_shaped sd hu) ⟨.bl _, H, I, rfl, q⟩
  · exact SeqAt.notIn_tuple_reads r2 r1 (SeqAt.canLay_of_shaped se) (SeqAt.canLay_of_shaped sd) (room_in_shaped sd hu) ⟨.bl _, H, I, rfl, q⟩
theorem op_inDeep {k : Nat} (hr : RoomG k X.A) : OpR X (compareOp .In) (rInA X.K false) := op_inA (by have := hr.room.un; omega)
theorem op_inDeepN {k : Nat} (hr : RoomG k X.A) : OpR X (compareOp .NotIn) (rInA X.K true) := op_notInA (by have := hr.room.un; omega)
end
def oInD (neg : Bool) : O2 := fun x y R => match rowD y with
  | some ds => SeqAt.shaped x = true ∧ SeqAt.shaped y = true ∧ R (.bool (if neg then !(ds.any fun z => PyData.eqv z x) else ds.any fun z => PyData.eqv z x))
  | none => False
theorem sInD {K : Fr_} {neg : Bool} : OpS K (rInA K neg) (oInD neg) := ⟨fun {O w H x y vx vy R Q} ol rx ry h k => by
  unfold oInD at h
  split at h
  · rename_i ds hy
    obtain ⟨h1, h2, h3⟩ := h
    have e : y = .list ds ∨ y = .tuple ds := by
      cases y <;> simp only [rowD] at hy <;> cases hy
      · exact .inl rfl
      · exact .inr rfl
    exact ⟨x, y, ds, rx.dp (SeqAt.canLay_of_shaped h1), ry.dp (SeqAt.canLay_of_shaped h2), e, h1, h2, k _ _ H (Same.refl H) (by simp only [Rep]) h3⟩
  · exact h.elim⟩
end DL

namespace DL
open PySem L2 PyProof.Rows
/-! ### a list of one's own that is written no more; name, name2 = [], e -/
def sFrz (i : Nat) (h : FS) : FS := fun ρ S B => match ρ[i]? with
  | some (.own xs) => h (ρ.set i (.dat (.list xs))) S B
  | _ => False
theorem EV.frz {K : Fr_} {Oc : AS} {w : List Addr} {σ : L2.St} {H : Hp} {ρ : Rho} {S : SW} {i : Nat} {xs : List PyData} (e : EV K Oc w σ H ρ S) (hx : ρ[i]? = some (Sl.own xs)) :
    EV K Oc w σ H (ρ.set i (.dat (.list xs))) S ∧ (∀ (j : Nat) (ys : List PyData), (ρ.set i (.dat (.list xs)))[j]? = some (Sl.own ys) → ρ[j]? = some (Sl.own ys)) ∧
    ∀ (j : Nat) (ys : List (List Key × PyData)), (ρ.set i (.dat (.list xs)))[j]? = some (Sl.dct ys) → ρ[j]? = some (Sl.dct ys) := by
  have hk : i < ρ.length := (List.getElem?_eq_some_iff.mp hx).1
  have own : ∀ j ys, (ρ.set i (.dat (.list xs)))[j]? = some (Sl.own ys) → i ≠ j ∧ ρ[j]? = some (.own ys) := fun j ys h => by
    by_cases hj : i = j
    · subst hj
      rw [List.getElem?_set_self hk] at h
      cases h
    · rw [List.getElem?_set_ne hj] at h
      exact ⟨hj, h⟩
  have dct : ∀ (j : Nat) (ys : List (List Key × PyData)), (ρ.set i (.dat (.list xs)))[j]? = some (Sl.dct ys) → ρ[j]? = some (Sl.dct ys) := fun j ys h => by
    by_cases hj : i = j
    · subst hj
      rw [List.getElem?_set_self hk] at h
      cases h
    · rw [List.getElem?_set_ne hj] at h
      exact h
  have oo : ∀ a, OO Oc σ (ρ.set i (.dat (.list xs))) a → OO Oc σ ρ a := by
    rintro a (h | ⟨j, ys, h1, h2⟩)
    · exact .inl h
    · exact .inr ⟨j, ys, (own j ys h1).2, h2⟩
  obtain ⟨p, vs, q1, q2, q3, q4⟩ := e.own i xs hx
  have np : ¬ OO Oc σ (ρ.set i (.dat (.list xs))) p := by
    rintro (h | ⟨j, ys, h1, h2⟩)
    · exact q3 h
    · obtain ⟨hj, h3⟩ := own j ys h1
      exact hj (e.inj i j xs ys p hx h3 q1 h2)
  refine ⟨⟨by simp [e.len], fun j d h => ?_, fun j ys h => ?_, fun j l ys zs a h1 h2 h3 h4 => e.inj j l ys zs a (own j ys h1).2 (own l zs h2).2 h3 h4, fun j n h => ?_, e.wo, e.wn, e.ws, e.ol, e.dct.to (fun j ys h => ⟨dct j ys h, rfl⟩) (fun a ws h o => ⟨h, o⟩) fun ds vs => Reps.less oo ds vs⟩, fun j ys h => (own j ys h).2, dct⟩
  · by_cases hj : i = j
    · subst hj
      rw [List.getElem?_set_self hk] at h
      cases h
      refine ⟨_, q1, ?_⟩
      simp only [Rep]
      exact ⟨p, vs, rfl, .inl ⟨.inl q2, np⟩, Reps.less oo xs vs q4⟩
    · rw [List.getElem?_set_ne hj] at h
      obtain ⟨v, hv, r⟩ := e.dat j d h
      exact ⟨v, hv, Rep.less oo d v r⟩
  · obtain ⟨_, h⟩ := own j ys h
    obtain ⟨a, us, h1, h2, h3, h4⟩ := e.own j ys h
    exact ⟨a, us, h1, h2, h3, Reps.less oo ys us h4⟩
  · by_cases hj : i = j
    · subst hj
      rw [List.getElem?_set_self hk] at h
      cases h
    · rw [List.getElem?_set_ne hj] at h
      exact e.cel j n h
section
variable {X : Cx} {sts : List Stmt} {a b : Expr} {pos : Pos} {h : FS} {x y : Str} {f : FE}
theorem s_frz (i : Nat) (hb : PSs X sts (rs X.K h)) : PSs X sts (rs X.K (sFrz i h)) := PSs.imp hb fun D σ H ⟨Oc, w, H0, ρ, S, B, ev, fz, hf, k1, k2, k3, k4⟩ => by
  unfold sFrz at hf
  split at hf
  · rename_i xs hx
    obtain ⟨ev2, own, dct⟩ := ev.frz hx
    have fw : Fw Oc σ ρ H σ (ρ.set i (.dat (.list xs))) H := ⟨fun _ _ _ h => h, fun a z => .inl (by
      rcases z with z | ⟨j, ys, h1, h2⟩
      · exact .inl z
      · exact .inr ⟨j, ys, own j ys h1, h2⟩)⟩
    exact ⟨Oc, w, H0, _, S, B, ev2, ⟨fz.gr, fun j ys a h1 h2 => fz.own j ys a (own j ys h1) h2, fun j ys a h1 h2 => fz.dct j ys a (dct j ys h1) h2⟩, hf, k1.go fw, k2, k3.go fw, k4.go fw⟩
  · exact hf.elim
def sParO (i j : Nat) (f : FE) : FS := fun ρ S B => f ρ S fun d S1 => B.nx ((ρ.set i (.own [])).set j (.dat d)) S1
theorem EV.lessOc {K : Fr_} {Oc : AS} {w : List Addr} {σ : L2.St} {H : Hp} {ρ : Rho} {S : SW} {p : Addr} (e : EV K (With Oc p) w σ H ρ S) (hw : ∀ a, a ∈ w → Oc a) (nt : ∀ ws, H p ≠ some (.dT ws)) : EV K Oc w σ H ρ S := by
  have oo : ∀ a, OO Oc σ ρ a → OO (With Oc p) σ ρ a := fun a h => h.elim (fun h => .inl (.inl h)) .inr
  refine ⟨e.len, fun j d h => ?_, fun j ys h => ?_, e.inj, e.cel, hw, e.wn, e.ws, fun a h => e.ol a (.inl h), e.dct.to (fun j ys h => ⟨h, rfl⟩) (fun a ws h o => ⟨h, o.elim id fun z => absurd h (by rw [z]; exact nt ws)⟩) fun ds vs => Reps.less oo ds vs⟩
  · obtain ⟨v, hv, r⟩ := e.dat j d h
    exact ⟨v, hv, Rep.less oo d v r⟩
  · obtain ⟨a, us, h1, h2, h3, h4⟩ := e.own j ys h
    exact ⟨a, us, h1, h2, fun z => h3 (.inl z), Reps.less oo ys us h4⟩
theorem wipe_nil (σ : L2.St) : wipe σ [] = σ := rfl
theorem rwipe_nil (ρ : Rho) : rwipe ρ [] = ρ := rfl
theorem s_parO (i j : Nat) {px py pt lp : Pos} {kt k2 pt2} (hc : X.calm = true) (hN : X.N.Nodup) (hb : PE X b (rd X.K f)) (hi : X.N[i]? = some x := by rfl) (hj : X.N[j]? = some y := by rfl) (hij : i ≠ j := by decide)
    (hx : X.env.scope.names.lookup x = some .local := by rfl) (hy : X.env.scope.names.lookup y = some .local := by rfl)
    (hw : swappedStores [.Tuple [.Name x px, .Name y py] kt pt] (.Tuple [.List [] lp, b] k2 pt2) X.env = pure (some [x, y]) := by rfl)
    (hs : swapsWithSole [.Tuple [.Name x px, .Name y py] kt pt] (.Tuple [.List [] lp, b] k2 pt2) pos.line X.env = pure false := by rfl)
    (h1 : starEach (.List [] lp :: [b]) X.env = (false, eval (.List [] lp) X.env) :: starEach [b] X.env := by rfl) (h2 : starEach (b :: []) X.env = (false, eval b X.env) :: starEach [] X.env := by rfl) :
    PS X (.Assign [.Tuple [.Name x px, .Name y py] kt pt] (.Tuple [.List [] lp, b] k2 pt2) pos) (rs X.K (sParO i j f)) :=
  PS.imp (ps_par hc hN hi hj hij hx hy (pa_cons (pe_lst pa_nil) (pa_cons hb pa_nil h2) h1) hw hs) fun D σ H ⟨Oc, w, H0, ρ, S, B, ev, fz, hf, k1, k2, k3, k4⟩ => by
    refine ⟨by simp, fun p hp => ?_⟩
    have ev1 := ev.block (vs := []) hp
    rw [wipe_nil, rwipe_nil] at ev1
    refine ⟨With Oc p, w, ρ, S, _, ev1, hf, fun d S2 v H2 ev2 g2 r q => ?_⟩
    have nwp : p ∉ w := fun z => by
      obtain ⟨u, h1, _⟩ := ev.ws.there z
      rw [hp] at h1
      cases h1
    have g : Gr w H H2 := (Gr.of (Same.new hp)).trans g2
    have hp2 : H2 p = some (.lst []) := g2 p _ nwp upd_same
    have ev3 := ev2.lessOc ev.wo (fun ws z => by rw [hp2] at z; cases z)
    obtain ⟨ev4, oo⟩ := EV.putOwn ev ev3 g i hp hp2 (ds := []) (by simp only [Reps])
    have r4 : Rep X.K (OO Oc (σ.set i (some (.ref p))) (ρ.set i (.own []))) H2 d v := Rep.less (fun a z => by
      rcases oo a z with (z | z) | z
      · exact .inl (.inl z)
      · exact .inr z
      · exact .inl (.inr z)) d v r
    obtain ⟨ev5, t5⟩ := ev4.put j r4
    have fw : Fw Oc σ ρ H (σ.set i (some (.ref p))) (ρ.set i (.own [])) H2 := ⟨ev.stepO g, fun a z => (oo a z).elim .inl fun z => .inr (by rw [z]; exact hp)⟩
    have fz4 : Fz w H0 (σ.set i (some (.ref p))) H2 (ρ.set i (.own [])) := ⟨fz.gr.trans g, fun l ys a h1 h2 => by
      by_cases hl : i = l
      · subst hl
        by_cases hk : i < σ.length
        · rw [List.getElem?_set_self hk] at h2
          cases h2
          cases e : H0 p with
          | none => rfl
          | some u => rw [fz.gr p u nwp e] at hp; cases hp
        · rw [List.getElem?_eq_none (by simpa using hk)] at h2; cases h2
      · rw [List.getElem?_set_ne hl] at h1 h2
        exact fz.own l ys a h1 h2, fun l ys a h1 h2 => by
      by_cases hl : i = l
      · subst hl
        by_cases hk : i < ρ.length
        · rw [List.getElem?_set_self hk] at h1
          cases h1
        · rw [List.getElem?_eq_none (by simpa using hk)] at h1; cases h1
      · rw [List.getElem?_set_ne hl] at h1 h2
        exact fz.dct l ys a h1 h2⟩
    exact ⟨_, _, rfl, k1 _ H2 _ S2 ev5 (t5.fz fz4) (fw.trans t5.fw) q⟩
/-- the same where the names are no plain locals: a pair is built -/
theorem s_asgO (i j : Nat) {px py pt lp : Pos} {kt k2 pt2} (hc : X.calm = true) (hN : X.N.Nodup) (hb : PE X b (rd X.K f)) (hi : X.N[i]? = some x := by rfl) (hj : X.N[j]? = some y := by rfl)
    (hx : Loc X.env.scope x := by first | exact Or.inl rfl | exact Or.inr rfl) (hy : Loc X.env.scope y := by first | exact Or.inl rfl | exact Or.inr rfl)
    (hxf : X.fn x = true ∨ X.env.scope.names.lookup x = some .local := by first | exact .inl rfl | exact .inr rfl) (hyf : X.fn y = true ∨ X.env.scope.names.lookup y = some .local := by first | exact .inl rfl | exact .inr rfl)
    (hs1 : (assignEach (.Name x px :: [.Name y py]) X.env).map (·.2) = assign (.Name x px) X.env :: (assignEach [.Name y py] X.env).map (·.2) := by rfl) (hs2 : (assignEach (.Name y py :: []) X.env).map (·.2) = assign (.Name y py) X.env :: (assignEach [] X.env).map (·.2) := by rfl)
    (hn : (assignEach [.Name x px, .Name y py] X.env).length = 2 := by rfl) (hst : (assignEach [.Name x px, .Name y py] X.env).findIdx? (·.1) = none := by rfl)
    (hs : swapsWithSole [.Tuple [.Name x px, .Name y py] kt pt] (.Tuple [.List [] lp, b] k2 pt2) pos.line X.env = pure false := by rfl) (hw : swappedStores [.Tuple [.Name x px, .Name y py] kt pt] (.Tuple [.List [] lp, b] k2 pt2) X.env = pure none := by rfl)
    (h0 : (assignEach [.Tuple [.Name x px, .Name y py] kt pt] X.env).map (·.2) = [assign (.Tuple [.Name x px, .Name y py] kt pt) X.env] := by rfl)
    (h1 : starEach (.List [] lp :: [b]) X.env = (false, eval (.List [] lp) X.env) :: starEach [b] X.env := by rfl) (h2 : starEach (b :: []) X.env = (false, eval b X.env) :: starEach [] X.env := by rfl) :
    PS X (.Assign [.Tuple [.Name x px, .Name y py] kt pt] (.Tuple [.List [] lp, b] k2 pt2) pos) (rs X.K (sParO i j f)) :=
  PS.imp (ps_asg (pe_tup (pa_cons (pe_lst pa_nil) (pa_cons hb pa_nil h2) h1)) (pg_tup hc (pgs_cons (pg_name hN hi hx hxf) (pgs_cons (pg_name hN hj hy hyf) pgs_nil hs2) hs1) hn hst) hs hw h0) fun D σ H ⟨Oc, w, H0, ρ, S, B, ev, fz, hf, k1, k2, k3, k4⟩ => by
    refine ⟨by simp, fun p hp => ?_⟩
    have ev1 := ev.block (vs := []) hp
    rw [wipe_nil, rwipe_nil] at ev1
    refine ⟨With Oc p, w, ρ, S, _, ev1, hf, fun d S2 v H2 ev2' g2' r' q => ⟨by rw [sizeLine_eq]; simp, fun t ht => ⟨t, _, rfl, .inl (.inl upd_same), rfl, _, _, rfl, ?_⟩⟩⟩
    have ev2 := ev2'.same (Same.new (o := .tup [.ref p, v]) ht)
    have g2 := g2'.trans (Gr.of (Same.new (o := .tup [.ref p, v]) ht))
    have r := Rep.same ev2'.Ool (Same.new (o := .tup [.ref p, v]) ht) r'
    generalize upd H2 t (.tup [.ref p, v]) = H3 at *
    have nwp : p ∉ w := fun z => by
      obtain ⟨u, h1, _⟩ := ev.ws.there z
      rw [hp] at h1
      cases h1
    have g : Gr w H H3 := (Gr.of (Same.new hp)).trans g2
    have hp2 : H3 p = some (.lst []) := g2 p _ nwp upd_same
    have ev3 := ev2.lessOc ev.wo (fun ws z => by rw [hp2] at z; cases z)
    obtain ⟨ev4, oo⟩ := EV.putOwn ev ev3 g i hp hp2 (ds := []) (by simp only [Reps])
    have r4 : Rep X.K (OO Oc (σ.set i (some (.ref p))) (ρ.set i (.own []))) H3 d v := Rep.less (fun a z => by
      rcases oo a z with (z | z) | z
      · exact .inl (.inl z)
      · exact .inr z
      · exact .inl (.inr z)) d v r
    obtain ⟨ev5, t5⟩ := ev4.put j r4
    have fw : Fw Oc σ ρ H (σ.set i (some (.ref p))) (ρ.set i (.own [])) H3 := ⟨ev.stepO g, fun a z => (oo a z).elim .inl fun z => .inr (by rw [z]; exact hp)⟩
    have fz4 : Fz w H0 (σ.set i (some (.ref p))) H3 (ρ.set i (.own [])) := ⟨fz.gr.trans g, fun l ys a h1 h2 => by
      by_cases hl : i = l
      · subst hl
        by_cases hk : i < σ.length
        · rw [List.getElem?_set_self hk] at h2
          cases h2
          cases e : H0 p with
          | none => rfl
          | some u => rw [fz.gr p u nwp e] at hp; cases hp
        · rw [List.getElem?_eq_none (by simpa using hk)] at h2; cases h2
      · rw [List.getElem?_set_ne hl] at h1 h2
        exact fz.own l ys a h1 h2, fun l ys a h1 h2 => by
      by_cases hl : i = l
      · subst hl
        by_cases hk : i < ρ.length
        · rw [List.getElem?_set_self hk] at h1
          cases h1
        · rw [List.getElem?_eq_none (by simpa using hk)] at h1; cases h1
      · rw [List.getElem?_set_ne hl] at h1 h2
        exact fz.dct l ys a h1 h2⟩
    exact ⟨_, _, rfl, rfl, k1 _ H3 _ S2 ev5 (t5.fz fz4) (fw.trans t5.fw) q⟩
end
end DL

namespace DL
open PySem L2 PyProof.Rows
/-! ### what repr can show: bounds -/
/-- ints below 2 ^ k, depth up to n, weight up to W -/
structure Tin (k n W : Nat) (d : PyData) : Prop where
  lay : d.canLay0 = true
  sh : d.showable = true
  dp : d.depth ≤ n
  lv : d.leavesShort (k + 10) = true
  wt : d.weight ≤ W
structure TinAll (k n W : Nat) (ds : List PyData) : Prop where
  lay : PyData.canLayAll0 ds = true
  sh : PyData.showableAll ds = true
  dp : PyData.depthAll ds ≤ n
  lv : PyData.leavesShortAll (k + 10) ds = true
  wt : PyData.weightAll ds ≤ W
theorem Tin.up {k n m W W' : Nat} {d : PyData} (h : Tin k n W d) (h1 : n ≤ m) (h2 : W ≤ W') : Tin k m W' d := ⟨h.lay, h.sh, Nat.le_trans h.dp h1, h.lv, Nat.le_trans h.wt h2⟩
theorem Tin.ok {k n W : Nat} {d : PyData} (h : Tin k n W d) (hn : n ≤ 60) (hW : (k + 12) * W + k + 10 ≤ 16777216) : showOk d := by
  refine ⟨h.lay, h.sh, Nat.le_trans h.dp hn, ?_⟩
  have a := PyData.shown_le (k + 10) (by omega) d h.lv
  rw [show k + 10 + 2 = k + 12 from by omega] at a
  have b : (k + 12) * d.weight ≤ (k + 12) * W := Nat.mul_le_mul_left _ h.wt
  rw [sizeLine_eq]
  omega
theorem Tin.bool {k n : Nat} {b : Bool} : Tin k n 0 (.bool b) := ⟨rfl, rfl, by simp [PyData.depth], rfl, by simp [PyData.weight]⟩
theorem Tin.int {k n : Nat} {i : Int} (hk : k < 1920) (h : i.natAbs < 2 ^ k) : Tin k n (k + 1) (.int i) := by
  have l : i.natAbs.log2 < k + 1 := by
    by_cases z : i.natAbs = 0
    · rw [z]; simp
    · have := (Nat.log2_lt z).mpr h
      omega
  refine ⟨rfl, ?_, by simp [PyData.depth], ?_, ?_⟩
  · simp only [PyData.showable, decide_eq_true_eq]
    omega
  · simp only [PyData.leavesShort, decide_eq_true_eq, PyData.shown]
    have := int_text_length_le (a := i) (by omega) l
    have e : (Str.ofString (toString i)).length = (toString i).length := by rw [PySem.ofString_length]
    refine decide_eq_true ?_
    omega
  · simp only [PyData.weight]
    split <;> omega
theorem TinAll.nil {k n W : Nat} : TinAll k n W [] := ⟨rfl, rfl, by simp [PyData.depthAll], rfl, by simp [PyData.weightAll]⟩
theorem TinAll.cons {k n W W' : Nat} {d : PyData} {ds : List PyData} (h : Tin k n W d) (t : TinAll k n W' ds) : TinAll k n (W + 1 + W') (d :: ds) := by
  refine ⟨?_, ?_, ?_, ?_, ?_⟩
  · simp only [PyData.canLayAll0, h.lay, t.lay, Bool.and_self]
  · simp only [PyData.showableAll, h.sh, t.sh, Bool.and_self]
  · simp only [PyData.depthAll]
    have := h.dp
    have := t.dp
    omega
  · simp only [PyData.leavesShortAll, h.lv, t.lv, Bool.and_self]
  · simp only [PyData.weightAll]
    have := h.wt
    have := t.wt
    omega
theorem TinAll.of {k n W : Nat} : ∀ {ds : List PyData}, (∀ d ∈ ds, Tin k n W d) → TinAll k n ((W + 1) * ds.length) ds
  | [], _ => .nil
  | d :: ds, h => by
    have e : (W + 1) * (d :: ds).length = W + 1 + (W + 1) * ds.length := by rw [List.length_cons, Nat.mul_add, Nat.mul_one, Nat.add_comm]
    rw [e]
    exact .cons (h d (by simp)) (TinAll.of fun x hx => h x (List.mem_cons_of_mem d hx))
theorem Tin.tup {k n W : Nat} {ds : List PyData} (h : TinAll k n W ds) : Tin k (n + 1) W (.tuple ds) := by
  refine ⟨?_, ?_, ?_, ?_, ?_⟩
  · simpa only [PyData.canLay0] using h.lay
  · simpa only [PyData.showable] using h.sh
  · simp only [PyData.depth]
    have := h.dp
    omega
  · simpa only [PyData.leavesShort] using h.lv
  · simpa only [PyData.weight] using h.wt
theorem Tin.lst {k n W : Nat} {ds : List PyData} (h : TinAll k n W ds) : Tin k (n + 1) W (.list ds) := by
  refine ⟨?_, ?_, ?_, ?_, ?_⟩
  · simpa only [PyData.canLay0] using h.lay
  · simpa only [PyData.showable] using h.sh
  · simp only [PyData.depth]
    have := h.dp
    omega
  · simpa only [PyData.leavesShort] using h.lv
  · simpa only [PyData.weight] using h.wt
theorem TinAll.up {k n W W' : Nat} {ds : List PyData} (h : TinAll k n W ds) (hw : W ≤ W') : TinAll k n W' ds := ⟨h.lay, h.sh, h.dp, h.lv, Nat.le_trans h.wt hw⟩
theorem Tin.shaped {k n W : Nat} {d : PyData} (h : Tin k n W d) (hn : n ≤ 60) : SeqAt.shaped d = true := by
  simp only [SeqAt.shaped, Bool.and_eq_true, decide_eq_true_eq]
  exact ⟨h.lay, by have := h.dp; omega⟩
end DL

namespace DL
open PySem L2
theorem oReprG_bool (b : Bool) (R : PyData → Prop) : oReprG (.bool b) R = R (.str (PyData.bool b).shown) := rfl
theorem oReprG_lst (ds : List PyData) (R : PyData → Prop) : oReprG (.list ds) R = (showOk (.list ds) ∧ R (.str (PyData.list ds).shown)) := rfl
theorem oReprG_tup (ds : List PyData) (R : PyData → Prop) : oReprG (.tuple ds) R = (showOk (.tuple ds) ∧ R (.str (PyData.tuple ds).shown)) := rfl
theorem oGtD_int (i j : Int) (R : PyData → Prop) : oGt (.int i) (.int j) R = R (.bool (decide (j < i))) := rfl
theorem oLeD_int (i j : Int) (R : PyData → Prop) : oLe (.int i) (.int j) R = R (.bool (decide (i ≤ j))) := rfl
theorem oGeD_int (i j : Int) (R : PyData → Prop) : oGe (.int i) (.int j) R = R (.bool (decide (j ≤ i))) := rfl
theorem oMixD_int (g : Int → Int → Int) (o : O2) (i j : Int) (R : PyData → Prop) : oMix g o (.int i) (.int j) R = o (.int i) (.int j) R := rfl
theorem oMixD_tup (g : Int → Int → Int) (o : O2) (a b : List PyData) (R : PyData → Prop) : oMix g o (.tuple a) (.tuple b) R = o (.tuple a) (.tuple b) R := rfl
theorem oMixD_bi (g : Int → Int → Int) (o : O2) (a : Bool) (j : Int) (R : PyData → Prop) : oMix g o (.bool a) (.int j) R = R (.int (g (bI a) j)) := rfl
theorem oMixD_ib (g : Int → Int → Int) (o : O2) (i : Int) (b : Bool) (R : PyData → Prop) : oMix g o (.int i) (.bool b) R = R (.int (g i (bI b))) := rfl
theorem oMixD_bb (g : Int → Int → Int) (o : O2) (a b : Bool) (R : PyData → Prop) : oMix g o (.bool a) (.bool b) R = R (.int (g (bI a) (bI b))) := rfl
theorem oStrD_int (i : Int) (R : PyData → Prop) : oStr (.int i) R = (i.natAbs.log2 < 1920 ∧ R (.str (toString i))) := rfl
theorem oListD_tup (ds : List PyData) (R : PyData → Prop) : oList (.tuple ds) R = R (.list ds) := rfl
theorem oListD_lst (ds : List PyData) (R : PyData → Prop) : oList (.list ds) R = R (.list ds) := rfl
theorem oTupleD_lst (ds : List PyData) (R : PyData → Prop) : oTuple (.list ds) R = R (.tuple ds) := rfl
theorem oTupleD_tup (ds : List PyData) (R : PyData → Prop) : oTuple (.tuple ds) R = R (.tuple ds) := rfl
theorem oBackD_tup (ds : List PyData) (R : PyData → Prop) : oBack (.tuple ds) R = R (.tuple ds.reverse) := rfl
theorem oBackD_lst (ds : List PyData) (R : PyData → Prop) : oBack (.list ds) R = R (.list ds.reverse) := rfl
theorem oNegD_int (i : Int) (R : PyData → Prop) : oNeg (.int i) R = R (.int (-i)) := rfl
theorem small_leD (n : Nat) (h : n ≤ 1000) : n ≤ sizeLine := by rw [sizeLine_eq]; omega
/-- a comprehension with a test, without draws -/
theorem lcGo_keep {i : Nat} {ft fe : FE} {ρ : Rho} {S : SW} {f : PyData → Bool} {g : PyData → PyData} {T : List PyData → SW → Prop} : ∀ {ds acc : List PyData}, (∀ d ∈ ds, ∀ Q : PyData → SW → Prop, Q (.bool (f d)) S → ft (ρ.set i (.dat d)) S Q) →
    (∀ d ∈ ds, f d = true → ∀ Q : PyData → SW → Prop, Q (g d) S → fe (ρ.set i (.dat d)) S Q) → T (acc ++ (ds.filter f).map g) S → lcGo (gNm i) ft fe ρ ds acc S T
  | [], acc, _, _, h => by simpa [lcGo] using h
  | d :: ds, acc, ht, he, h => by
    simp only [lcGo, gNm]
    refine ht d (by simp) _ ?_
    simp only [asB_bool]
    cases e : f d
    · rw [if_neg Bool.false_ne_true]
      rw [List.filter_cons_of_neg (by simp [e])] at h
      exact lcGo_keep (fun d' hd' => ht d' (by simp [hd'])) (fun d' hd' => he d' (by simp [hd'])) h
    · rw [if_pos rfl]
      rw [List.filter_cons_of_pos (by simp [e])] at h
      refine he d (by simp) e _ ?_
      refine lcGo_keep (fun d' hd' => ht d' (by simp [hd'])) (fun d' hd' => he d' (by simp [hd'])) ?_
      simpa using h
theorem atI_at {α : Type} {xs : List α} {k : Nat} {x : α} (h : xs[k]? = some x) : atI xs (k : Int) = some x := atI_nat h
/-- an int's slot, a row's element, .. -/
theorem fLc_map {fi : FI} {i : Nat} {fe : FE} {ρ : Rho} {S : SW} {ds : List PyData} {g : PyData → PyData} {Q : PyData → SW → Prop} (hi : ∀ T : List PyData → SW → Prop, T ds S → fi ρ S T) (hl : ds.length ≤ 1000) (own : notOwn ρ [i])
    (he : ∀ d ∈ ds, ∀ R : PyData → SW → Prop, R (g d) S → fe ((rwipe ρ [i]).set i (.dat d)) S R) (h : Q (.list (ds.map g)) S) : fLc fi [i] (gNm i) (fC (.bool true)) fe ρ S Q :=
  hi _ ⟨own, small_leD _ hl, lcGo_map he (by rw [List.nil_append]; exact h)⟩
theorem fLc_keep {fi : FI} {i : Nat} {ft fe : FE} {ρ : Rho} {S : SW} {ds : List PyData} {f : PyData → Bool} {g : PyData → PyData} {Q : PyData → SW → Prop} (hi : ∀ T : List PyData → SW → Prop, T ds S → fi ρ S T) (hl : ds.length ≤ 1000) (own : notOwn ρ [i])
    (ht : ∀ d ∈ ds, ∀ R : PyData → SW → Prop, R (.bool (f d)) S → ft ((rwipe ρ [i]).set i (.dat d)) S R)
    (he : ∀ d ∈ ds, f d = true → ∀ R : PyData → SW → Prop, R (g d) S → fe ((rwipe ρ [i]).set i (.dat d)) S R) (h : Q (.list ((ds.filter f).map g)) S) : fLc fi [i] (gNm i) ft fe ρ S Q :=
  hi _ ⟨own, small_leD _ hl, lcGo_keep ht he (by rw [List.nil_append]; exact h)⟩
end DL

namespace DL
open PySem L2
/-! ### one statement, one expression at a time -/
section
variable {ρ : Rho} {S : SW} {B : Out} {rest : FS} {i j : Nat} {f a b c : FE} {Q : PyData → SW → Prop} {d : PyData}
theorem w_seq {g : FS} (h : g ρ S { B with nx := fun ρ' S' => rest ρ' S' B }) : sSeq g rest ρ S B := h
theorem w_asg {g : FG} (h : f ρ S fun d S1 => g ρ d fun ρ' => rest ρ' S1 B) : sSeq (sAsg f g) rest ρ S B := h
theorem w_set (h : f ρ S fun d S1 => rest (ρ.set i (.dat d)) S1 B) : sSeq (sSet i f) rest ρ S B := h
theorem w_setE (h : f ρ S fun d S1 => B.nx (ρ.set i (.dat d)) S1) : sSet i f ρ S B := h
theorem w_own0 (h : rest (ρ.set i (.own [])) S B) : sSeq (sOwn i (fLst fNil)) rest ρ S B := h
theorem w_own {g : FL} (h : g ρ S fun ds S1 => rest (ρ.set i (.own ds)) S1 B) : sSeq (sOwn i (fLst g)) rest ρ S B := h
theorem w_par (h : a ρ S fun x S1 => b ρ S1 fun y S2 => rest ((ρ.set i (.dat x)).set j (.dat y)) S2 B) : sSeq (sPar i j (fCons a (fCons b fNil))) rest ρ S B := h
theorem w_parO (h : f ρ S fun d S1 => rest ((ρ.set i (.own [])).set j (.dat d)) S1 B) : sSeq (sParO i j f) rest ρ S B := h
theorem w_ret (h : f ρ S B.rt) : sRet f ρ S B := h
theorem w_drop (h : f ρ S fun _ S1 => rest ρ S1 B) : sSeq (sDrop f) rest ρ S B := h
theorem w_for {fi : FI} {fg : FG} {gb : FS} (h : fi ρ S fun ds S1 => forGo fg gb ds ρ S1 { B with nx := fun ρ' S' => rest ρ' S' B }) : sSeq (sFor fi fg gb) rest ρ S B := h
theorem w_while {fc : FE} {gb : FS} (h : sWhile fc gb ρ S { B with nx := fun ρ' S' => rest ρ' S' B }) : sSeq (sWhile fc gb) rest ρ S B := h
theorem w_frz {xs : List PyData} {g : FS} (hρ : ρ[i]? = some (.own xs)) (h : g (ρ.set i (.dat (.list xs))) S B) : sFrz i g ρ S B := by
  unfold sFrz
  rw [hρ]
  exact h
theorem w_app {xs : List PyData} (hρ : ρ[i]? = some (.own xs)) (hl : xs.length ≤ 1000) (h : f ρ S fun d S1 => B.nx (ρ.set i (.own (xs ++ [d]))) S1) : sApp i f ρ S B := by
  unfold sApp
  rw [hρ]
  exact ⟨by rw [sizeLine_eq]; omega, h⟩
theorem w_appS {xs : List PyData} (hρ : ρ[i]? = some (.own xs)) (hl : xs.length ≤ 1000) (h : f ρ S fun d S1 => rest (ρ.set i (.own (xs ++ [d]))) S1 B) : sSeq (sApp i f) rest ρ S B := w_seq (w_app hρ hl h)
theorem w_ins {xs : List PyData} {k : Nat} (hρ : ρ[i]? = some (.own xs)) (hl : xs.length ≤ 1000) (hk : k ≤ 1000) (ha : ∀ Q : PyData → SW → Prop, Q (.int k) S → a ρ S Q) (h : f ρ S fun d S1 => B.nx (ρ.set i (.own (xs.take k ++ [d] ++ xs.drop k))) S1) : sIns i a f ρ S B := by
  unfold sIns
  rw [hρ]
  refine ⟨by rw [sizeLine_eq]; omega, ha _ ?_⟩
  simp only [asI_int, Int.toNat_natCast]
  exact (show f ρ S (fun d S2 => (0 ≤ (k : Int) ∧ (k : Int) < 2 ^ 63) ∧ B.nx (ρ.set i (.own (xs.take k ++ [d] ++ xs.drop k))) S2) from by
    have e : (0 ≤ (k : Int) ∧ (k : Int) < 2 ^ 63) = True := eq_true ⟨by omega, by omega⟩
    simp only [e, true_and]
    exact h)
theorem w_if {X Y : FS} {b : Bool} (hc : ∀ Q : PyData → SW → Prop, Q (.bool b) S → f ρ S Q) (h1 : b = true → X ρ S B) (h2 : b = false → Y ρ S B) : sIf f X Y ρ S B := by
  refine hc _ ?_
  simp only [asB_bool]
  cases b
  · rw [if_neg Bool.false_ne_true]; exact h2 rfl
  · rw [if_pos rfl]; exact h1 rfl
theorem w_ifS {X Y : FS} {b : Bool} (hc : ∀ Q : PyData → SW → Prop, Q (.bool b) S → f ρ S Q) (h1 : b = true → X ρ S { B with nx := fun ρ' S' => rest ρ' S' B }) (h2 : b = false → Y ρ S { B with nx := fun ρ' S' => rest ρ' S' B }) : sSeq (sIf f X Y) rest ρ S B :=
  w_seq (w_if hc h1 h2)
theorem w_un {o : O1} (h : f ρ S fun x S1 => o x fun d => Q d S1) : fUn o f ρ S Q := h
theorem w_op {o : O2} (h : a ρ S fun x S1 => b ρ S1 fun y S2 => o x y fun d => Q d S2) : fOp o a b ρ S Q := h
theorem w_var (hρ : ρ[i]? = some (.dat d)) (h : Q d S) : fVar i ρ S Q := by
  unfold fVar
  rw [hρ]
  exact h
theorem w_varB (hρ : ρ[i]? = some (.dat d)) (h : Q d S) : fVarB i ρ S Q := by
  unfold fVarB
  rw [hρ]
  exact h
theorem w_varO {xs : List PyData} (hρ : ρ[i]? = some (.own xs)) (h : Q (.list xs) S) : fVarB i ρ S Q := by
  unfold fVarB
  rw [hρ]
  exact h
theorem w_tup1 (h : a ρ S fun x S1 => Q (.tuple [x]) S1) : fTup (fCons a fNil) ρ S Q := h
theorem w_tup2 (h : a ρ S fun x S1 => b ρ S1 fun y S2 => Q (.tuple [x, y]) S2) : fTup (fCons a (fCons b fNil)) ρ S Q := h
theorem w_lst1 (h : a ρ S fun x S1 => Q (.list [x]) S1) : fLst (fCons a fNil) ρ S Q := h
theorem w_lst2 (h : a ρ S fun x S1 => b ρ S1 fun y S2 => Q (.list [x, y]) S2) : fLst (fCons a (fCons b fNil)) ρ S Q := h
theorem w_lst3 (h : a ρ S fun x S1 => b ρ S1 fun y S2 => c ρ S2 fun z S3 => Q (.list [x, y, z]) S3) : fLst (fCons a (fCons b (fCons c fNil))) ρ S Q := h
theorem w_call1 {C : Ct} (h1 : ρ[i]? = some (.dat d)) (h : C [.dat d] S Q) : fCall C (gDat (fVar i) gaNil) ρ S Q := by
  unfold fCall gDat fVar gaNil
  rw [h1]
  exact h
theorem w_call2 {C : Ct} {d e : PyData} (h1 : ρ[i]? = some (.dat d)) (h2 : ρ[j]? = some (.dat e)) (h : C [.dat d, .dat e] S Q) : fCall C (gDat (fVar i) (gDat (fVar j) gaNil)) ρ S Q := by
  unfold fCall gDat fVar gaNil
  rw [h1, h2]
  exact h
theorem w_call3 {C : Ct} {k : Nat} {d e g : PyData} (h1 : ρ[i]? = some (.dat d)) (h2 : ρ[j]? = some (.dat e)) (h3 : ρ[k]? = some (.dat g)) (h : C [.dat d, .dat e, .dat g] S Q) : fCall C (gDat (fVar i) (gDat (fVar j) (gDat (fVar k) gaNil))) ρ S Q := by
  unfold fCall gDat fVar gaNil
  rw [h1, h2, h3]
  exact h
/-- a call that is an argument -/
theorem w_callF {C : Ct} (h : f ρ S fun d S1 => C [.dat d] S1 Q) : fCall C (gDat f gaNil) ρ S Q := h
theorem w_callF2 {C : Ct} (h : a ρ S fun d S1 => b ρ S1 fun e S2 => C [.dat d, .dat e] S2 Q) : fCall C (gDat a (gDat b gaNil)) ρ S Q := h
theorem w_wel {C : Ct} {m : Nat} (h0 : ρ[i]? = some (.cel m)) (h : C [.cel m] S Q) : fCall C (gWel i gaNil) ρ S Q := by
  unfold fCall gWel gaNil
  rw [h0]
  exact h
theorem w_welF {C : Ct} {m : Nat} (h0 : ρ[i]? = some (.cel m)) (h : f ρ S fun d S1 => C [.cel m, .dat d] S1 Q) : fCall C (gWel i (gDat f gaNil)) ρ S Q := by
  unfold fCall gWel gDat gaNil
  rw [h0]
  exact h
theorem w_welF2 {C : Ct} {m : Nat} (h0 : ρ[i]? = some (.cel m)) (h : a ρ S fun d S1 => b ρ S1 fun e S2 => C [.cel m, .dat d, .dat e] S2 Q) : fCall C (gWel i (gDat a (gDat b gaNil))) ρ S Q := by
  unfold fCall gWel gDat gaNil
  rw [h0]
  exact h
theorem w_ix0 {x : PyData} {r : List PyData} (hρ : ρ[i]? = some (.dat (.tuple (x :: r)))) (h : Q x S) : fOp oIx (fVarB i) (fC (.int 0)) ρ S Q := by
  unfold fOp fVarB fC
  rw [hρ]
  show oIx (.tuple (x :: r)) (.int 0) _
  rw [oIx_tup, atI_zero]
  exact h
theorem w_ix1 {x y : PyData} {r : List PyData} (hρ : ρ[i]? = some (.dat (.tuple (x :: y :: r)))) (h : Q y S) : fOp oIx (fVarB i) (fC (.int 1)) ρ S Q := by
  unfold fOp fVarB fC
  rw [hρ]
  show oIx (.tuple (x :: y :: r)) (.int 1) _
  rw [oIx_tup, atI_one]
  exact h
theorem w_ix2 {x y z : PyData} {r : List PyData} (hρ : ρ[i]? = some (.dat (.tuple (x :: y :: z :: r)))) (h : Q z S) : fOp oIx (fVarB i) (fC (.int 2)) ρ S Q := by
  unfold fOp fVarB fC
  rw [hρ]
  show oIx (.tuple (x :: y :: z :: r)) (.int 2) _
  rw [oIx_tup, atI_two]
  exact h
/-- repr(a) == repr(b) at the end -/
theorem w_same {l : PyData} (ok : showOk l) (hl : ∀ R, oReprG l R = (showOk l ∧ R (.str l.shown))) (ha : ∀ Q : PyData → SW → Prop, Q l S → a ρ S Q) (hb : ∀ Q : PyData → SW → Prop, Q l S → b ρ S Q) (h : Q (.bool true) S) : fOp oEq (fUn oReprG a) (fUn oReprG b) ρ S Q := by
  unfold fOp fUn
  refine ha _ ?_
  rw [hl]
  refine ⟨ok, hb _ ?_⟩
  rw [hl]
  refine ⟨ok, ?_⟩
  show oEq (.str _) (.str _) _
  rw [oEq_str, decide_eq_true rfl]
  exact h
theorem w_differ {l : PyData} (ok : showOk l) (hl : ∀ R, oReprG l R = (showOk l ∧ R (.str l.shown))) (ha : ∀ Q : PyData → SW → Prop, Q l S → a ρ S Q) (hb : ∀ Q : PyData → SW → Prop, Q l S → b ρ S Q) (h : Q (.bool false) S) : fOp oNe (fUn oReprG a) (fUn oReprG b) ρ S Q := by
  unfold fOp fUn
  refine ha _ ?_
  rw [hl]
  refine ⟨ok, hb _ ?_⟩
  rw [hl]
  refine ⟨ok, ?_⟩
  show oNe (.str _) (.str _) _
  rw [oNe_str, decide_eq_true rfl]
  exact h
end
end DL

namespace DL
open PySem PySem.Spec PyProof.Rows L2 PySem.W
/-! ### sorted of alike data -/
def sortD (ds : List PyData) : List PyData := ds.mergeSort (dataLe false fun d => d)
/-- values that stand for data: xs and us, one by one -/
def Both (R : V → PyData → Prop) (u : Value) (d : PyData) : Prop := ∃ x, RelV x u ∧ R x d
def rSortD (K : Fr_) : List V → Hp → VK → Prop := fun vs H Q => ∃ (a : Addr) (xs : List V) (ds : List PyData) (R : V → PyData → Prop), vs = [V.ref a] ∧ SqL K H a xs ∧ DpAll K H xs ds ∧ (∀ us, Vals xs us → EachIs (Both R) us ds) ∧ AllAlike ds ∧ Sortable ds ∧ (∀ d ∈ ds, d.depth ≤ 60) ∧
  ∀ ys p, (∀ us, EachIs (Both R) us (sortD ds) → Vals ys us → True) → EachIs (fun x d => R x d) ys (sortD ds) → H p = none → Q (.ref p) (upd H p (.lst ys))
theorem both_split {R : V → PyData → Prop} : ∀ {us : List Value} {ds : List PyData}, EachIs (Both R) us ds → ∃ ys, Vals ys us ∧ EachIs (fun x d => R x d) ys ds
  | _, _, .nil => ⟨[], .nil, .nil⟩
  | _, _, .cons h t => by
    obtain ⟨x, r, q⟩ := h
    obtain ⟨ys, r2, q2⟩ := both_split t
    exact ⟨x :: ys, .cons r r2, .cons q q2⟩
theorem each_len {α β : Type} {R : α → β → Prop} : ∀ {as : List α} {bs : List β}, EachIs R as bs → as.length = bs.length
  | _, _, .nil => rfl
  | _, _, .cons _ t => by rw [List.length_cons, List.length_cons, each_len t]
theorem cr_sortedD {X : Cx} (hu : X.A.units + 65 < cLine) : CallR X (.builtin "sorted") (rSortD X.K) := by
  intro pins s σ H vs us Q I r h
  obtain ⟨a, xs, ds, R, rfl, hs, hd, hb, hal, hk, hdp, q⟩ := h
  obtain ⟨its, rv, hl, hz⟩ := I.list hs
  rw [Vals.ref1 r]
  obtain ⟨as, ra⟩ := Dp.readsAll I ds xs its hd rv
  have hlen : its.length ≤ sizeLine := by rw [← rv.length]; exact hz
  have e0 : EachIs (fun v d => ∃ as, Reads s.heap v d as) its ds := readsAll_each (enc := fun d => d) (bs := ds) (by rw [List.map_id']; exact ra)
  have e1 : EachIs (fun v d => ∃ as, Reads (sortingHeap (copyHeap s.heap its) (s.heap.objs.size + 1) its) v d as) its ds := e0.mono fun v d ⟨as, r⟩ => ⟨as, Reads.keeps (fun b o e => sorting_copy_old e) r⟩
  refine sorted_vals hl.isList (SortsAt.data e1 hal hk fun d m => by have := hdp d m; show X.A.units + 1 + 1 + d.depth < cLine; omega) hlen ?_
  have e2 := sortVals_data (h' := sortingHeap (copyHeap s.heap its) (s.heap.objs.size + 1) its) (enc := fun d => d) (bs := ds) false (hb its rv) (by exact e1) (by rw [List.map_id']; exact hal)
  rw [List.map_id'] at e2
  generalize sortVals (dataKind (sortingHeap (copyHeap s.heap its) (s.heap.objs.size + 1) its) ds) false its its = out at *
  obtain ⟨ys, r1, r2⟩ := both_split e2
  obtain ⟨ep, he'⟩ := PyProof.Rows.sortedAll_at s.heap its out.toArray
  have ly : ys.length ≤ sizeLine := by
    rw [each_len r2]
    show (ds.mergeSort _).length ≤ _
    rw [(List.mergeSort_perm _ _).length_eq, ← each_len e0]
    exact hlen
  exact ⟨.ref _, upd H (s.heap.objs.size + 1) (.lst ys), I.laid (t' := s.toks) (fun _ _ => PyProof.Rows.sortedAll_old) (Nat.le_succ _) ⟨ly, out, ep, r1, he'⟩, rfl, q _ _ (fun _ _ _ => trivial) r2 (I.hok.fresh (Nat.le_succ _))⟩
theorem cr_sortedH {X : Cx} {k : Nat} (hr : RoomG k X.A) : CallR X (.builtin "sorted") (rSortD X.K) := cr_sortedD (by have := hr.room.un; omega)
def oSorted : O1 := fun x R => match x with
  | .list ds => PyData.canLayAll0 ds = true ∧ AllAlike ds ∧ Sortable ds ∧ (∀ d ∈ ds, d.depth ≤ 60) ∧ R (.list (sortD ds))
  | _ => False
theorem reps_each {K : Fr_} {O : AS} {H : Hp} : ∀ {ds : List PyData} {vs : List V}, Reps K O H ds vs → ∀ us, Vals vs us → EachIs (Both fun x d => Rep K O H d x) us ds
  | [], vs, r, us, q => by
    simp only [Reps] at r
    subst r
    cases q
    exact .nil
  | d :: ds, vs, r, us, q => by
    simp only [Reps] at r
    obtain ⟨v, r', rfl, h1, h2⟩ := r
    cases q with
    | cons q1 q2 => exact .cons ⟨v, q1, h1⟩ (reps_each h2 _ q2)
theorem each_reps {K : Fr_} {O : AS} {H : Hp} : ∀ {vs : List V} {ds : List PyData}, EachIs (fun x d => Rep K O H d x) vs ds → Reps K O H ds vs
  | _, _, .nil => by simp only [Reps]
  | _, _, .cons h t => by
    simp only [Reps]
    exact ⟨_, _, rfl, h, each_reps t⟩
theorem nSorted {K : Fr_} : UnN K (t1 (rSortD K)) oSorted := ⟨fun {O w H x vx R Q} ol rx h k => by
  unfold oSorted at h
  split at h
  · rename_i ds
    obtain ⟨h1, h2, h3, h4, h5⟩ := h
    obtain ⟨p, vs, rfl, q1, r1⟩ := rx.lst
    refine ⟨p, vs, ds, fun x d => Rep K O H d x, rfl, q1, Reps.dp ds vs h1 r1, reps_each r1, h2, h3, h4, fun ys l _ he hl => ?_⟩
    exact k (sortD ds) l ys _ (Same.new hl) hl upd_same (reps_new ol hl (each_reps he)) h5
  · exact h.elim⟩
section
variable {X : Cx} {e a : Expr} {pos p : Pos} {f fa fb : FE} {b : Expr} {tg : Expr}
theorem n_sorted {k : Nat} (hr : RoomG k X.A) (ha : PE X a (rb X.K fa)) (hm : X.mg "sorted" = none) (hg : Gl X "sorted" := by rfl) (hs : starEach (a :: []) X.env = (false, eval a X.env) :: starEach [] X.env := by rfl) (hpl : (backTo pos (starEach [] X.env)).any (·.1) = false := by rfl) :
    PE X (.Call (.Name "sorted" p) [a] [] pos) (rn X.K (fUn oSorted fa)) := PE.imp (pe_callB (cr_sortedH hr) hg hm PyProof.Rows.boot_sorted (pa_cons ha pa_nil hs) (by decide) (by decide) hs hpl) fun σ H Q h => rn_un nSorted h
end
end DL

namespace DL
open PySem PySem.Spec PyProof.Rows L2
/-! ### a list or a tuple walked -/
def iAny (K : PySem.W.Frag) (te : TE) : TI := fun σ H R => te σ H fun x H1 => ∃ a, x = .ref a ∧ (((∃ xs, SqL K H1 a xs) ∧ R (Itl K a) H1) ∨ ((∃ xs, SqT K H1 a xs) ∧ R (Itt K a) H1))
theorem pi_any {X : Cx} {tg l : Expr} {te : TE} (hl : PE X l te) : PI X tg l (iAny X.K te) := by
  refine ⟨fun pins s σ H R I h => ?_⟩
  refine thn (hl.run pins s σ H _ I h) fun v s1 ⟨x, H1, I1, r1, q1⟩ => ?_
  obtain ⟨a, e, q1⟩ := q1
  subst e
  cases r1
  rcases q1 with ⟨⟨xs, hq⟩, q⟩ | ⟨⟨xs, hq⟩, q⟩
  · obtain ⟨its, rv, p, hz⟩ := I1.list hq
    refine wpAny_pyIter_list p.isList ?_
    refine ⟨s1.heap.objs.size, [s1.heap.objs.size], _, _, H1, rfl, I1.kept (t' := s1.toks) fun b o e => Heap.get?_push_of_some _ e, turn_list a _, ⟨_, Heap.get?_push_size _ rfl, rfl, rfl⟩, fun b hb => ?_, q⟩
    have e : b = s1.heap.objs.size := by simpa using hb
    subst e
    exact I1.fpOk (Nat.le_refl _) (I1.hok.fresh (Nat.le_refl _))
  · obtain ⟨its, rv, p, hz⟩ := I1.tuple hq
    refine wpAny_pyIter_tuple (show s1.heap.IsTuple a its.toArray from p) ?_
    refine ⟨s1.heap.objs.size, [s1.heap.objs.size], _, _, H1, rfl, I1.kept (t' := s1.toks) fun b o e => Heap.get?_push_of_some _ e, turn_tuple a _, ⟨_, Heap.get?_push_size _ rfl, rfl, rfl⟩, fun b hb => ?_, q⟩
    have e : b = s1.heap.objs.size := by simpa using hb
    subst e
    exact I1.fpOk (Nat.le_refl _) (I1.hok.fresh (Nat.le_refl _))
def fiA (f : FE) : FI := fun ρ S T => f ρ S fun d S1 => match rowD d with
  | some ds => T ds S1
  | none => False
section
variable {X : Cx} {tg e : Expr} {pos p1 p2 : Pos} {f : FE}
theorem i_any (h : PE X e (rd X.K f)) : PI X tg e (rif X.K (fiA f)) := PI.imp (pi_any h) fun σ H R ⟨Oc, w, ρ, S, T, ev, hf, k⟩ =>
  ⟨Oc, w, ρ, S, _, ev, hf, fun d S1 v H1 ev1 g1 r h1 => by
    cases d with
    | list ds =>
      simp only [Rep] at r
      obtain ⟨a, vs, rfl, q, r⟩ := r
      exact ⟨a, rfl, .inl ⟨⟨vs, q.sq⟩, k ds S1 _ H1 ev1 g1 (itg_list (fun _ z => z) (fun H' s => (QL.step s q).sq) ev1.Ool r) h1⟩⟩
    | tuple ds =>
      simp only [Rep] at r
      obtain ⟨a, vs, rfl, q, r⟩ := r
      exact ⟨a, rfl, .inr ⟨⟨vs, q⟩, k ds S1 _ H1 ev1 g1 (itg_tup (fun _ z => z) q ev1.Ool r) h1⟩⟩
    | _ => exact h1.elim⟩
/-! ### [e] * k -/
def fRep (k : Nat) (f : FE) : FE := fun ρ S R => f ρ S fun d S1 => R (.list (List.replicate k d)) S1
theorem reps_rep {K : Fr_} {O : AS} {H : Hp} {d : PyData} {v : V} (h : Rep K O H d v) : ∀ k, Reps K O H (List.replicate k d) (List.replicate k v)
  | 0 => by simp only [List.replicate, Reps]
  | k + 1 => by
    simp only [List.replicate, Reps]
    exact ⟨v, _, rfl, h, reps_rep h k⟩
theorem flat_rep {α : Type} (v : α) : ∀ k, (List.replicate k [v]).flatten = List.replicate k v
  | 0 => rfl
  | k + 1 => by
    rw [List.replicate_succ, List.flatten_cons, flat_rep v k, List.replicate_succ]
    rfl
theorem d_rep (k : Nat) {j : Nat} (hk : k ≤ 1000) (he : PE X e (rd X.K f)) (hs : starEach (e :: []) X.env = (false, eval e X.env) :: starEach [] X.env := by rfl) : PE X (.BinOp (.List [e] p1) .Mult (.Constant (.int (k : Nat)) j p2) pos) (rd X.K (fRep k f)) :=
  PE.imp (pe_op op_rep (n_lst (a_cons he a_nil hs)) pe_int) fun σ H Q ⟨Oc, w, ρ, S, R, ev, hf, kk⟩ =>
    ⟨Oc, w, ρ, S, fun x S1 => match x with | .list [d] => R (.list (List.replicate k d)) S1 | _ => False, ev, hf, fun ds S1 p vs H1 ev1 g1 n hp r q => by
      dsimp only at q
      split at q
      · rename_i d e
        cases e
        simp only [Reps] at r
        obtain ⟨v, _, rfl, r1, rfl⟩ := r
        have rv : Rep X.K (OO Oc σ ρ) H1 d v := Rep.less (fun a z => .inl z) d v r1
        refine ⟨p, (k : Nat), [v], rfl, rfl, hp, by omega, by omega, ?_, fun t ht => ?_⟩
        · rw [sizeLine_eq, Int.toNat_natCast]
          simp only [List.length_singleton]
          omega
        · rw [Int.toNat_natCast, flat_rep]
          exact kk _ S1 _ _ (ev1.same (Same.new ht)) (g1.trans (Gr.of (Same.new ht))) (rep_lst ev1.Ool ht (reps_rep rv k)) q
      · exact q.elim⟩
end
end DL

namespace DL
open PySem PySem.Spec PyProof.Rows L2
/-! ### // by what may be below 0 -/
def CDivZ (_ j : Int) : Prop := j ≠ 0 ∧ j.natAbs.log2 < 9000
theorem op_fdivZ {X : Cx} : OpR X (binaryOp .FloorDiv) (rI CDivZ fun i j => .int (i.fdiv j)) := opI fun i j _ _ _ _ _ hc q => by
  exact floordiv_int hc.1 q (.inl (PyProof.noPylong_of_log2 hc.2))
section
variable {X : Cx} {a b : Expr} {pos : Pos} {fa fb : FE}
theorem d_fdivZ (ha : PE X a (rb X.K fa)) (hb : PE X b (rb X.K fb)) : PE X (.BinOp a .FloorDiv b pos) (rd X.K (fOp (oIC CDivZ fun i j => .int (i.fdiv j)) fa fb)) := d_bin op_fdivZ sIntC ha hb
end
end DL

/-! ### zip whose pairs are kept -/
namespace DL
open PySem PySem.Spec PyProof.Rows L2 PySem.W
def Ow (v : Value) : Prop := v = .none ∨ ∃ T : Nat, v = rawInt T
abbrev ZipAt (h : Heap) (z TI TO : Addr) (v : Value) (f : Bool) : Prop := h.get? z = some { cls := .type "zip", dict := none, data := .fields #[v, .bool f, .bool false, .ref TI, .ref TO], slots := #[] }
section
variable {prog : Program} {w : World} {A : Around} {E : Value → Shared → Prop} {s : Shared} {z TI TO i1 i2 : Addr} {fp1 fp2 : List Addr} {n1 n2 i : Nat} {P1 P2 : Nat → Value → Prop} {St1 St2 : Nat → Heap → Prop} {a1 a2 v : Value} {f : Bool}
theorem zn_alive {a : Addr} {Q : Option Obj → Shared → Prop} (h : Q (s.heap.get? a) s) : wpAny (model prog w) A (loadIfAlive a) Q E s := fun _ _ _ => h
/-- whether the tuple that was handed out is free -/
theorem zn_free {Q : Bool → Shared → Prop} (hz : ZipAt s.heap z TI TO v f) (ow : Ow v) (h1 : Q true s) (h2 : ∀ h', ZipAt h' z TI TO v true → Heap.SameBut z s.heap h' → Q false { s with heap := h' }) :
    wpAny (model prog w) A (Builtin.SmallTypes.ownedTupleIsFree (.ref z)) Q E s := by
  unfold Builtin.SmallTypes.ownedTupleIsFree
  rcases ow with rfl | ⟨T, rfl⟩
  · exact wpAny_bind (wpAny_field hz rfl (x := .none) rfl (wpAny_pure h1))
  · refine wpAny_bind (wpAny_field hz rfl (x := rawInt T) rfl ?_)
    show wpAny _ _ (loadIfAlive ((T : Int).toNat) >>= _) _ _ _
    rw [Int.toNat_natCast]
    refine wpAny_bind (zn_alive ?_)
    cases e : s.heap.get? T with
    | none => exact wpAny_pure h1
    | some o =>
      simp only [Option.isNone_some, Bool.false_eq_true, if_false]
      refine wpAny_bind (wpAny_field hz rfl (x := .bool f) rfl ?_)
      cases f with
      | true =>
        rw [if_neg (show ¬ ((Value.bool true != Value.bool true) = true) from Bool.false_ne_true)]
        exact wpAny_pure (h2 s.heap hz (Heap.SameBut.refl _ _))
      | false =>
        rw [if_pos (show (Value.bool false != Value.bool true) = true from rfl)]
        exact wpAny_bind (wpAny_setField_rec hz (by simp) fun h' g1 g2 => wpAny_pure (h2 h' g1 g2))
theorem zn_item {Q : Value → Shared → Prop} (S : ZipSep2 z TI TO i1 i2 fp1 fp2) (D1 : Draws prog w A i1 fp1 n1 P1 St1) (D2 : Draws prog w A i2 fp2 n2 P2 St2)
    (hz : ZipAt s.heap z TI TO v f) (ow : Ow v) (hTI : IsTupOf2 s.heap TI (.ref i1) (.ref i2)) (hTO : IsTupOf2 s.heap TO a1 a2) (st1 : St1 i s.heap) (st2 : St2 i s.heap) (hlt1 : i < n1) (hlt2 : i < n2)
    (hQ : ∀ x1 x2 v' f' b1 b2 h' tk, P1 i x1 → P2 i x2 → ZipAt h' z TI TO v' f' → Ow v' → IsTupOf2 h' TO b1 b2 → St1 (i + 1) h' → St2 (i + 1) h' → IsTupOf2 h' s.heap.objs.size x1 x2 → h'.objs.size = s.heap.objs.size + 1 →
      (∀ c o, c ≠ z → c ≠ TO → c ≠ i1 → c ≠ i2 → s.heap.get? c = some o → h'.get? c = some o) → Q (.ref s.heap.objs.size) { s with heap := h', toks := tk }) :
    wpAny (model prog w) A (Builtin.«zip.__next__» ⟨[.ref z], []⟩) (fun fin s' => ∃ v, fin = .done (.ret v) ∧ Q v s') E s := by
  obtain ⟨hp, g, d, tk0, os⟩ := s
  show wpAny _ _ (field (.ref z) 2 >>= _) _ _ _
  refine wpAny_bind (wpAny_field hz rfl (x := .bool false) rfl ?_)
  show wpAny _ _ (field (.ref z) 3 >>= _) _ _ _
  refine wpAny_bind (wpAny_field hz rfl (x := .ref TI) rfl ?_)
  refine wpAny_bind (wpAny_seqItems hTI rfl ?_)
  show wpAny _ _ (Builtin.SmallTypes.ownedTupleIsFree (.ref z) >>= _) _ _ _
  refine wpAny_bind (zn_free hz ow ?_ fun g0 hz0 hs0 => ?_)
  · simp only [if_true]
    refine wpAny_bind (wpAny_rule ?_)
    refine wpAny_bind (wpAny_field hz rfl (x := .ref TO) rfl ?_)
    refine wpAny_bind (wpAny_setField_rec hz (by simp) fun g0 hz0 hs0 => ?_)
    replace hz0 : ZipAt g0 z TI TO .ellipsis f := hz0
    replace hs0 : Heap.SameBut z hp g0 := hs0
    refine wpAny_bind ?_
    simp only [List.zipIdx_cons, List.zipIdx_nil, List.forIn_cons, List.forIn_nil]
    refine wpAny_bind (wpAny_bind (wpAny_onRaise ?_))
    show wpAny _ _ (Builtin.SmallTypes.nextOf (.ref i1) >>= _) _ _ ⟨g0, g, d, tk0, os⟩
    refine wpAny_bind (D1.item i _ _ _ hlt1 (D1.over st1 hs0 S.zf1) fun x1 p1 tk1 hx1 sn1 hp1 => wpAny_pure ?_)
    replace hp1 : Heap.SameBut i1 g0 p1 := hp1
    have hU1 : IsTupOf2 p1 TO a1 a2 := hp1.extBut _ _ S.Ti1 (hs0.extBut _ _ S.TOz hTO)
    refine wpAny_bind (wpAny_seqItems (s := ⟨p1, g, d, tk1, os⟩) hU1 rfl ?_)
    refine wpAny_bind (updateSeq_IsTupOf2 (s := ⟨p1, g, d, tk1, os⟩) hU1 fun g1 hT1 hs1 => ?_)
    replace hT1 : IsTupOf2 g1 TO x1 a2 := hT1
    replace hs1 : Heap.SameBut TO p1 g1 := hs1
    refine wpAny_bind (wpAny_letGo (wpAny_pure ?_))
    refine wpAny_bind (wpAny_bind (wpAny_onRaise ?_))
    show wpAny _ _ (Builtin.SmallTypes.nextOf (.ref i2) >>= _) _ _ ⟨g1, g, d, tk1, os⟩
    refine wpAny_bind (D2.item i _ _ _ hlt2 (D2.over (D2.over (D2.over st2 hs0 S.zf2) hp1 S.sep1_2) hs1 S.Tf2) fun x2 p2 tk2 hx2 sn2 hp2 => wpAny_pure ?_)
    replace hp2 : Heap.SameBut i2 g1 p2 := hp2
    have hU2 : IsTupOf2 p2 TO x1 a2 := hp2.extBut _ _ S.Ti2 hT1
    refine wpAny_bind (wpAny_seqItems (s := ⟨p2, g, d, tk2, os⟩) hU2 rfl ?_)
    refine wpAny_bind (updateSeq_IsTupOf2 (s := ⟨p2, g, d, tk2, os⟩) hU2 fun g2 hT2 hs2 => ?_)
    replace hT2 : IsTupOf2 g2 TO x1 x2 := hT2
    replace hs2 : Heap.SameBut TO p2 g2 := hs2
    refine wpAny_bind (wpAny_letGo (wpAny_pure (wpAny_pure ?_)))
    refine wpAny_bind (wpAny_seqItems (s := ⟨g2, g, d, tk2, os⟩) hT2 rfl ?_)
    refine wpAny_bind (wpAny_newTuple ?_)
    have hsz : g2.objs.size = hp.objs.size := by rw [hs2.1, hp2.1, hs1.1, hp1.1, hs0.1]
    have hzz : ZipAt g2 z TI TO .ellipsis f := hs2.extBut _ _ S.TOz.symm (hp2.extBut _ _ S.zi2 (hs1.extBut _ _ S.TOz.symm (hp1.extBut _ _ S.zi1 hz0)))
    have hj1 : St1 (i + 1) g2 := D1.over (D1.over (D1.over sn1 hs1 S.Tf1) hp2 S.sep2_1) hs2 S.Tf1
    have hj2 : St2 (i + 1) g2 := D2.over sn2 hs2 S.Tf2
    have hzlt : z < g2.objs.size := Heap.lt_size hzz
    show wpAny _ _ (Builtin.SmallTypes.ownedTupleHandOut (.ref z) (.ref g2.objs.size) >>= _) _ _ ⟨g2.push { cls := .type "tuple", data := .seq #[x1, x2] }, g, d, tk2, os⟩
    refine wpAny_bind ?_
    unfold Builtin.SmallTypes.ownedTupleHandOut
    have hz6 : ZipAt (g2.push { cls := .type "tuple", data := .seq #[x1, x2] }) z TI TO .ellipsis f := Heap.get?_push_of_some _ hzz
    refine wpAny_bind (wpAny_setField_rec hz6 (by simp) fun h7 hz7 hs7 => ?_)
    replace hz7 : ZipAt h7 z TI TO (rawInt g2.objs.size) f := hz7
    refine wpAny_setField_rec hz7 (by simp) fun h8 hz8 hs8 => ?_
    replace hz8 : ZipAt h8 z TI TO (rawInt g2.objs.size) false := hz8
    replace hs7 : Heap.SameBut z (g2.push { cls := .type "tuple", data := .seq #[x1, x2] }) h7 := hs7
    replace hs8 : Heap.SameBut z h7 h8 := hs8
    have up : ∀ c o, c ≠ z → g2.get? c = some o → h8.get? c = some o := fun c o c1 e => hs8.extBut _ _ c1 (hs7.extBut _ _ c1 (Heap.get?_push_of_some _ e))
    have hT8 : IsTupOf2 h8 g2.objs.size x1 x2 := hs8.extBut _ _ (Nat.ne_of_gt hzlt) (hs7.extBut _ _ (Nat.ne_of_gt hzlt) (Heap.get?_push_size _ rfl))
    have hz9 : h8.objs.size = g2.objs.size + 1 := by rw [hs8.1, hs7.1, Heap.size_push]
    rw [hsz] at hT8 hz9
    refine wpAny_pure ⟨_, rfl, ?_⟩
    show Q (.ref g2.objs.size) ⟨h8, g, d, tk2, os⟩
    rw [hsz]
    exact hQ x1 x2 _ _ x1 x2 h8 tk2 hx1 hx2 hz8 (.inr ⟨_, rfl⟩) (up _ _ S.TOz hT2) (D1.frame _ _ _ hj1 fun b hb o e => up b o (fun q => S.zf1 (q ▸ hb)) e) (D2.frame _ _ _ hj2 fun b hb o e => up b o (fun q => S.zf2 (q ▸ hb)) e) hT8 hz9
      fun c o cz cT c1 c2 e => up c o cz (hs2.extBut _ _ cT (hp2.extBut _ _ c2 (hs1.extBut _ _ cT (hp1.extBut _ _ c1 (hs0.extBut _ _ cz e)))))
  · simp only [Bool.false_eq_true, if_false]
    refine wpAny_bind ?_
    rw [← Array.forIn_toList]
    simp only [List.forIn_cons, List.forIn_nil]
    refine wpAny_bind (wpAny_bind (wpAny_holding ?_))
    show wpAny _ _ (Builtin.SmallTypes.nextOf (.ref i1) >>= _) _ _ ⟨g0, g, d, tk0, os⟩
    replace hs0 : Heap.SameBut z hp g0 := hs0
    refine wpAny_bind (D1.item i _ _ _ hlt1 (D1.over st1 hs0 S.zf1) fun x1 p1 tk1 hx1 sn1 hp1 => wpAny_pure (wpAny_pure ?_))
    replace hp1 : Heap.SameBut i1 g0 p1 := hp1
    refine wpAny_bind (wpAny_bind (wpAny_holding ?_))
    show wpAny _ _ (Builtin.SmallTypes.nextOf (.ref i2) >>= _) _ _ ⟨p1, g, d, tk1, os⟩
    refine wpAny_bind (D2.item i _ _ _ hlt2 (D2.over (D2.over st2 hs0 S.zf2) hp1 S.sep1_2) fun x2 p2 tk2 hx2 sn2 hp2 => wpAny_pure (wpAny_pure (wpAny_pure ?_)))
    replace hp2 : Heap.SameBut i2 p1 p2 := hp2
    show wpAny _ _ (newTuple [x1, x2] >>= _) _ _ ⟨p2, g, d, tk2, os⟩
    refine wpAny_bind (wpAny_newTuple ?_)
    have hsz : p2.objs.size = hp.objs.size := by rw [hp2.1, hp1.1, hs0.1]
    have hz3 : ZipAt p2 z TI TO v true := hp2.extBut _ _ S.zi2 (hp1.extBut _ _ S.zi1 hz0)
    have hk : ∀ c o, c ≠ z → c ≠ i1 → c ≠ i2 → hp.get? c = some o → p2.get? c = some o := fun c o c1 c2 c3 e => hp2.extBut _ _ c3 (hp1.extBut _ _ c2 (hs0.extBut _ _ c1 e))
    have hj1 : St1 (i + 1) p2 := D1.over sn1 hp2 S.sep2_1
    have up : ∀ c o, p2.get? c = some o → (p2.push { cls := .type "tuple", data := .seq #[x1, x2] }).get? c = some o := fun c o e => Heap.get?_push_of_some _ e
    have hT8 : IsTupOf2 (p2.push { cls := .type "tuple", data := .seq #[x1, x2] }) p2.objs.size x1 x2 := Heap.get?_push_size _ rfl
    have hz9 : (p2.push { cls := .type "tuple", data := .seq #[x1, x2] }).objs.size = p2.objs.size + 1 := Heap.size_push ..
    rw [hsz] at hT8 hz9
    refine wpAny_pure ⟨_, rfl, ?_⟩
    show Q (.ref p2.objs.size) _
    rw [hsz]
    exact hQ x1 x2 v true a1 a2 _ tk2 hx1 hx2 (up _ _ hz3) ow (up _ _ (hk _ _ S.TOz S.Ti1 S.Ti2 hTO)) (D1.frame _ _ _ hj1 fun b _ o e => up b o e) (D2.frame _ _ _ sn2 fun b _ o e => up b o e) hT8 hz9
      fun c o cz _ c1 c2 e => up c o (hk c o cz c1 c2 e)
end
end DL

namespace DL
open PySem PySem.Spec PyProof.Rows L2 PySem.W
section
variable {prog : Program} {w : World} {A : Around} {E : Value → Shared → Prop} {s : Shared} {z TI TO i1 i2 : Addr} {fp1 fp2 : List Addr} {n1 n2 i : Nat} {P1 P2 : Nat → Value → Prop} {St1 St2 : Nat → Heap → Prop} {a1 a2 v : Value} {f : Bool}
theorem zn_end {Q : Fin → Shared → Prop} (S : ZipSep2 z TI TO i1 i2 fp1 fp2) (D1 : Draws prog w A i1 fp1 n1 P1 St1) (D2 : Draws prog w A i2 fp2 n2 P2 St2)
    (hz : ZipAt s.heap z TI TO v f) (ow : Ow v) (hTI : IsTupOf2 s.heap TI (.ref i1) (.ref i2)) (hTO : IsTupOf2 s.heap TO a1 a2) (st1 : St1 i s.heap) (st2 : St2 i s.heap) (hle1 : i ≤ n1) (hle2 : i ≤ n2) (hend : i = n1 ∨ i = n2)
    (hE : ∀ h' tk e, (∀ c o, c ≠ z → c ≠ TO → c ≠ i1 → c ≠ i2 → s.heap.get? c = some o → h'.get? c = some o) → (∃ o, h'.get? e = some o ∧ o.cls = .type "StopIteration") → E (.ref e) { s with heap := h', toks := tk }) :
    wpAny (model prog w) A (Builtin.«zip.__next__» ⟨[.ref z], []⟩) Q E s := by
  obtain ⟨hp, g, d, tk0, os⟩ := s
  show wpAny _ _ (field (.ref z) 2 >>= _) _ _ _
  refine wpAny_bind (wpAny_field hz rfl (x := .bool false) rfl ?_)
  show wpAny _ _ (field (.ref z) 3 >>= _) _ _ _
  refine wpAny_bind (wpAny_field hz rfl (x := .ref TI) rfl ?_)
  refine wpAny_bind (wpAny_seqItems hTI rfl ?_)
  show wpAny _ _ (Builtin.SmallTypes.ownedTupleIsFree (.ref z) >>= _) _ _ _
  refine wpAny_bind (zn_free hz ow ?_ fun g0 hz0 hs0 => ?_)
  · simp only [if_true]
    refine wpAny_bind (wpAny_rule ?_)
    refine wpAny_bind (wpAny_field hz rfl (x := .ref TO) rfl ?_)
    refine wpAny_bind (wpAny_setField_rec hz (by simp) fun g0 hz0 hs0 => ?_)
    replace hz0 : ZipAt g0 z TI TO .ellipsis f := hz0
    replace hs0 : Heap.SameBut z hp g0 := hs0
    refine wpAny_bind ?_
    simp only [List.zipIdx_cons, List.zipIdx_nil, List.forIn_cons, List.forIn_nil]
    refine wpAny_bind (wpAny_bind (wpAny_onRaise ?_))
    show wpAny _ _ (Builtin.SmallTypes.nextOf (.ref i1) >>= _) _ _ ⟨g0, g, d, tk0, os⟩
    by_cases hlt1 : i < n1
    · refine wpAny_bind (D1.item i _ _ _ hlt1 (D1.over st1 hs0 S.zf1) fun x1 p1 tk1 hx1 sn1 hp1 => wpAny_pure ?_)
      replace hp1 : Heap.SameBut i1 g0 p1 := hp1
      have hU1 : IsTupOf2 p1 TO a1 a2 := hp1.extBut _ _ S.Ti1 (hs0.extBut _ _ S.TOz hTO)
      refine wpAny_bind (wpAny_seqItems (s := ⟨p1, g, d, tk1, os⟩) hU1 rfl ?_)
      refine wpAny_bind (updateSeq_IsTupOf2 (s := ⟨p1, g, d, tk1, os⟩) hU1 fun g1 hT1 hs1 => ?_)
      replace hs1 : Heap.SameBut TO p1 g1 := hs1
      refine wpAny_bind (wpAny_letGo (wpAny_pure ?_))
      have hi2 : i = n2 := by omega
      refine wpAny_bind (wpAny_bind (wpAny_onRaise ?_))
      show wpAny _ _ (Builtin.SmallTypes.nextOf (.ref i2) >>= _) _ _ ⟨g1, g, d, tk1, os⟩
      refine wpAny_bind (D2.done ⟨g1, g, d, tk1, os⟩ _ _ (by rw [← hi2]; exact D2.over (D2.over (D2.over st2 hs0 S.zf2) hp1 S.sep1_2) hs1 S.Tf2) fun q e hq he => ?_)
      replace hq : Heap.ExtBut i2 g1 q := hq
      obtain ⟨oe, hoe, hce⟩ := he
      replace hoe : q.get? e = some oe := hoe
      have hzq : ZipAt q z TI TO .ellipsis f := hq _ _ S.zi2 (hs1.extBut _ _ S.TOz.symm (hp1.extBut _ _ S.zi1 hz0))
      have hez : e ≠ z := fun x => by subst x; rw [hzq] at hoe; cases hoe; simp at hce
      refine wpAny_setField_rec (s := ⟨q, g, d, tk1, os⟩) hzq (by simp) fun q' _ hq' => ?_
      replace hq' : Heap.SameBut z q q' := hq'
      exact hE q' tk1 e (fun c o cz cT c1 c2 x => hq'.extBut _ _ cz (hq _ _ c2 (hs1.extBut _ _ cT (hp1.extBut _ _ c1 (hs0.extBut _ _ cz x))))) ⟨oe, hq'.extBut _ _ hez hoe, hce⟩
    · have hi1 : i = n1 := by omega
      refine wpAny_bind (D1.done ⟨g0, g, d, tk0, os⟩ _ _ (by rw [← hi1]; exact D1.over st1 hs0 S.zf1) fun q e hq he => ?_)
      replace hq : Heap.ExtBut i1 g0 q := hq
      obtain ⟨oe, hoe, hce⟩ := he
      replace hoe : q.get? e = some oe := hoe
      have hzq : ZipAt q z TI TO .ellipsis f := hq _ _ S.zi1 hz0
      have hez : e ≠ z := fun x => by subst x; rw [hzq] at hoe; cases hoe; simp at hce
      refine wpAny_setField_rec (s := ⟨q, g, d, tk0, os⟩) hzq (by simp) fun q' _ hq' => ?_
      replace hq' : Heap.SameBut z q q' := hq'
      exact hE q' tk0 e (fun c o cz cT c1 c2 x => hq'.extBut _ _ cz (hq _ _ c1 (hs0.extBut _ _ cz x))) ⟨oe, hq'.extBut _ _ hez hoe, hce⟩
  · simp only [Bool.false_eq_true, if_false]
    replace hs0 : Heap.SameBut z hp g0 := hs0
    refine wpAny_bind ?_
    rw [← Array.forIn_toList]
    simp only [List.forIn_cons, List.forIn_nil]
    refine wpAny_bind (wpAny_bind (wpAny_holding ?_))
    show wpAny _ _ (Builtin.SmallTypes.nextOf (.ref i1) >>= _) _ _ ⟨g0, g, d, tk0, os⟩
    by_cases hlt1 : i < n1
    · refine wpAny_bind (D1.item i _ _ _ hlt1 (D1.over st1 hs0 S.zf1) fun x1 p1 tk1 hx1 sn1 hp1 => wpAny_pure (wpAny_pure ?_))
      replace hp1 : Heap.SameBut i1 g0 p1 := hp1
      have hi2 : i = n2 := by omega
      refine wpAny_bind (wpAny_bind (wpAny_holding ?_))
      show wpAny _ _ (Builtin.SmallTypes.nextOf (.ref i2) >>= _) _ _ ⟨p1, g, d, tk1, os⟩
      refine wpAny_bind (D2.done ⟨p1, g, d, tk1, os⟩ _ _ (by rw [← hi2]; exact D2.over (D2.over st2 hs0 S.zf2) hp1 S.sep1_2) fun q e hq he => ?_)
      exact hE q tk1 e (fun c o cz _ c1 c2 x => hq _ _ c2 (hp1.extBut _ _ c1 (hs0.extBut _ _ cz x))) he
    · have hi1 : i = n1 := by omega
      refine wpAny_bind (D1.done ⟨g0, g, d, tk0, os⟩ _ _ (by rw [← hi1]; exact D1.over st1 hs0 S.zf1) fun q e hq he => ?_)
      exact hE q tk0 e (fun c o cz _ c1 c2 x => hq _ _ c1 (hs0.extBut _ _ cz x)) he
theorem zn_next {Q : Option Value → Shared → Prop} (S : ZipSep2 z TI TO i1 i2 fp1 fp2) (D1 : Draws prog w A.in1 i1 fp1 n1 P1 St1) (D2 : Draws prog w A.in1 i2 fp2 n2 P2 St2)
    (hz : ZipAt s.heap z TI TO v f) (ow : Ow v) (hTI : IsTupOf2 s.heap TI (.ref i1) (.ref i2)) (hTO : IsTupOf2 s.heap TO a1 a2) (st1 : St1 i s.heap) (st2 : St2 i s.heap) (hlt1 : i < n1) (hlt2 : i < n2)
    (hQ : ∀ x1 x2 v' f' b1 b2 h' tk, P1 i x1 → P2 i x2 → ZipAt h' z TI TO v' f' → Ow v' → IsTupOf2 h' TO b1 b2 → St1 (i + 1) h' → St2 (i + 1) h' → IsTupOf2 h' s.heap.objs.size x1 x2 → h'.objs.size = s.heap.objs.size + 1 →
      (∀ c o, c ≠ z → c ≠ TO → c ≠ i1 → c ≠ i2 → s.heap.get? c = some o → h'.get? c = some o) → Q (some (.ref s.heap.objs.size)) { s with heap := h', toks := tk }) :
    wpAny (model prog w) A (pyNext (.ref z)) Q E s := by
  have hT : s.TypeIs (.ref z) "zip" := ⟨_, hz, rfl⟩
  unfold pyNext
  exact wpAny_bind (wpAny_attempt (wpAny_callSpecial?_slot (name := Str.ofString "__next__") hT F.slot_zip_next
    (wpAny_call_entry F.slot_zip_next hT F.entry_zip_next
      (zn_item S D1 D2 hz ow hTI hTO st1 st2 hlt1 hlt2 fun x1 x2 v' f' c1 c2 h' tk y1 y2 b1 b2 b3 d1 d2 b5 b6 b7 => wpAny_pure (hQ x1 x2 v' f' c1 c2 h' tk y1 y2 b1 b2 b3 d1 d2 b5 b6 b7)) (F.args_zip_next_1 _))))
theorem zn_stop {Q : Option Value → Shared → Prop} (S : ZipSep2 z TI TO i1 i2 fp1 fp2) (D1 : Draws prog w A.in1 i1 fp1 n1 P1 St1) (D2 : Draws prog w A.in1 i2 fp2 n2 P2 St2)
    (hz : ZipAt s.heap z TI TO v f) (ow : Ow v) (hTI : IsTupOf2 s.heap TI (.ref i1) (.ref i2)) (hTO : IsTupOf2 s.heap TO a1 a2) (st1 : St1 i s.heap) (st2 : St2 i s.heap) (hle1 : i ≤ n1) (hle2 : i ≤ n2) (hend : i = n1 ∨ i = n2)
    (hQ : ∀ h' tk, (∀ c o, c ≠ z → c ≠ TO → c ≠ i1 → c ≠ i2 → s.heap.get? c = some o → h'.get? c = some o) → Q none { s with heap := h', toks := tk }) : wpAny (model prog w) A (pyNext (.ref z)) Q E s := by
  have hT : s.TypeIs (.ref z) "zip" := ⟨_, hz, rfl⟩
  unfold pyNext
  refine wpAny_bind (wpAny_attempt (wpAny_callSpecial?_slot (name := Str.ofString "__next__") hT F.slot_zip_next
    (wpAny_call_entry F.slot_zip_next hT F.entry_zip_next (zn_end S D1 D2 hz ow hTI hTO st1 st2 hle1 hle2 hend fun h' tk e hk he => ?_) (F.args_zip_next_1 _))))
  obtain ⟨o, ho, hc⟩ := he
  refine wpAny_bind (wpAny_isInstance (T := "StopIteration") (b := true) ⟨o, ho, hc⟩ isSubtype_stop ?_)
  exact wpAny_pure (hQ _ _ hk)
theorem zn_iter {Q : Value → Shared → Prop} (hz : ZipAt s.heap z TI TO v f) (h : Q (.ref z) s) : wpAny (model prog w) A (pyIter (.ref z)) Q E s := by
  have hT : s.TypeIs (.ref z) "zip" := ⟨_, hz, rfl⟩
  refine wpAny_pyIter_slot hT F.slot_zip_iter (wpAny_call_entry F.slot_zip_iter hT F.entry_zip_iter ?_ (F.args_zip_iter_1 _))
  show wpAny _ _ (ret (.ref z)) _ _ s
  exact wpAny_pure ⟨_, rfl, "zip", _, hT, F.slot_zip_next.lookup, h⟩
/-! a list or a tuple -/
def ItAt (b : Bool) (h : Heap) (it l : Addr) (i : Nat) : Prop := if b = true then h.IsListIter it l i else h.IsTupleIter it l i
def SrcAt (b : Bool) (h : Heap) (l : Addr) (items : Array Value) : Prop := if b = true then h.IsList l items else h.IsTuple l items
theorem draws_of (b : Bool) (hh : A.handled = none) (it l : Addr) (hne : l ≠ it) (items : Array Value) : Draws prog w A it [it, l] items.size (fun i v => items[i]? = some v) (fun i h => ItAt b h it l i ∧ SrcAt b h l items) := by
  cases b
  · show Draws prog w A it [it, l] items.size (fun i v => items[i]? = some v) (fun i h => h.IsTupleIter it l i ∧ h.IsTuple l items)
    exact {
      live := fun _ _ st => let ⟨o, ho, _⟩ := st.1; ⟨o, ho⟩
      frame := fun _ _ _ st hk => ⟨st.1.at fun o e => hk it (by simp) o e, by
        obtain ⟨o, ho, r⟩ := st.2
        exact ⟨o, hk l (by simp) o ho, r⟩⟩
      item := fun i s Q E hi st hQ => by
        refine RZ.nextOf_tuple_item st.1 st.2 (x := items[i]) (by simp [hi]) fun h' hit' hs' => ?_
        refine hQ _ h' s.toks (by simp [hi]) ⟨hit', ?_⟩ hs'
        obtain ⟨o, ho, r⟩ := st.2
        exact ⟨o, hs'.extBut _ _ hne ho, r⟩
      done := fun s Q E st hE => RZ.nextOf_tuple_end hh st.1 st.2 (by simp) hE }
  · exact Draws.list hh it l hne items
end
def SqS (b : Bool) (K : PySem.W.Frag) (H : Hp) (a : Addr) (xs : List V) : Prop := if b = true then SqL K H a xs else SqT K H a xs
def ZTn (b : Bool) (a c z TI TO i1 i2 : Addr) (i : Nat) (h : Heap) : Prop := ∃ v f, ZipAt h z TI TO v f ∧ Ow v ∧ IsTupOf2 h TI (.ref i1) (.ref i2) ∧ (∃ x y, IsTupOf2 h TO x y) ∧ ItAt b h i1 a i ∧ ItAt b h i2 c i
theorem zsep {z TI TO i1 i2 a c : Addr} (D : ZipApart z TI TO i1 i2 a c) : ZipSep2 z TI TO i1 i2 [i1, a] [i2, c] where
  TIz := D.TIz
  TOz := D.TOz
  TITO := D.TITO
  TIi1 := D.TIi1
  mem1 := by simp
  zf1 := by simp [D.i1z.symm, D.l1z.symm]
  Tf1 := by simp [D.TOi1, D.l1TO.symm]
  TIi2 := D.TIi2
  mem2 := by simp
  zf2 := by simp [D.i2z.symm, D.l2z.symm]
  Tf2 := by simp [D.TOi2, D.l2TO.symm]
  sep1_2 := by simp [D.i12, D.l2i1.symm]
  sep2_1 := by simp [D.i12.symm, D.l1i2.symm]
section
variable {X : Cx} {pins : List (Addr × Obj)} {s : Shared} {σ : L2.St} {H : Hp} {A : Around} {E : Value → Shared → Prop} {b : Bool} {a c z TI TO i1 i2 : Addr} {i : Nat} {xs ys : List V} {x y : V}
theorem src_of (I : Inv X pins σ H s) (h : SqS b X.K H a xs) : ∃ its : List Value, Vals xs its ∧ SrcAt b s.heap a its.toArray := by
  cases b
  · obtain ⟨its, rv, p, _⟩ := I.tuple h
    exact ⟨its, rv, p⟩
  · obtain ⟨its, rv, p, _⟩ := I.list h
    exact ⟨its, rv, p.isList⟩
abbrev zfp (z TI TO i1 i2 : Addr) : List Addr := [z, TI, TO, i1, i2]
theorem zn_go {Q : Option Value → Shared → Prop} (hh : A.handled = none) (D : ZipApart z TI TO i1 i2 a c) (I : Inv X pins σ H s) (hf : ∀ b ∈ zfp z TI TO i1 i2, FpOk X pins H b) (st : ZTn b a c z TI TO i1 i2 i s.heap) (hx : SqS b X.K H a xs) (hy : SqS b X.K H c ys) (ex : xs[i]? = some x) (ey : ys[i]? = some y)
    (hQ : ∀ h' tk, Inv X pins σ (upd H s.heap.objs.size (.tup [x, y])) { s with heap := h', toks := tk } → ZTn b a c z TI TO i1 i2 (i + 1) h' → H s.heap.objs.size = none → (∀ b ∈ zfp z TI TO i1 i2, FpOk X pins (upd H s.heap.objs.size (.tup [x, y])) b) → Q (some (.ref s.heap.objs.size)) { s with heap := h', toks := tk }) :
    wpAny (model X.prog X.w) A (pyNext (.ref z)) Q E s := by
  obtain ⟨v, f, hz, ow, hTI, ⟨b1, b2, hTO⟩, h1, h2⟩ := st
  obtain ⟨its, rv, p⟩ := src_of I hx
  obtain ⟨its2, rv2, p2⟩ := src_of I hy
  obtain ⟨u, hu, ru⟩ := rv.get ex
  obtain ⟨u2, hu2, ru2⟩ := rv2.get ey
  have l1 : i < its.toArray.size := by rw [List.size_toArray]; exact (List.getElem?_eq_some_iff.mp hu).1
  have l2 : i < its2.toArray.size := by rw [List.size_toArray]; exact (List.getElem?_eq_some_iff.mp hu2).1
  have hh1 : A.in1.handled = none := hh
  refine zn_next (zsep D) (draws_of b hh1 i1 a D.l1i1 its.toArray) (draws_of b hh1 i2 c D.l2i2 its2.toArray) hz ow hTI hTO ⟨h1, p⟩ ⟨h2, p2⟩ l1 l2 fun x1 x2 v' f' c1 c2 h' tk y1 y2 z' ow' TO' s1 s2 hT hsz hk => ?_
  have e1 : x1 = u := by
    have : its[i]? = some x1 := by simpa using y1
    rw [hu] at this
    exact (Option.some.inj this).symm
  have e2 : x2 = u2 := by
    have : its2[i]? = some x2 := by simpa using y2
    rw [hu2] at this
    exact (Option.some.inj this).symm
  subst e1
  subst e2
  have new : ObjOk X.prog X.w (upd H s.heap.objs.size (.tup [x, y])) h' s.heap.objs.size (.tup [x, y]) :=
    ⟨by show 2 ≤ sizeLine; decide, [x1, x2], .cons ru (.cons ru2 .nil), ⟨_, hT, rfl, _, rfl⟩⟩
  have I1 : Inv X pins σ (upd H s.heap.objs.size (.tup [x, y])) { s with heap := h', toks := tk } :=
    I.turnedNew (ch := zfp z TI TO i1 i2) (fun c o hb q => hk c o (fun q' => hb (by simp [q'])) (fun q' => hb (by simp [q'])) (fun q' => hb (by simp [q'])) (fun q' => hb (by simp [q'])) q) hf (Nat.le_refl _) new
  refine hQ h' tk I1 ⟨v', f', z', ow', hk _ _ D.TIz D.TITO D.TIi1 D.TIi2 hTI, ⟨_, _, TO'⟩, s1.1, s2.1⟩ (I.hok.fresh (Nat.le_refl _)) fun d hd => ?_
  refine ⟨?_, (hf d hd).2⟩
  have hlt : d < s.heap.objs.size := by
    have it_lt : ∀ {it l : Addr}, ItAt b s.heap it l i → it < s.heap.objs.size := fun {it l} q => by
      cases b
      · obtain ⟨_, e1, _⟩ := (show s.heap.IsTupleIter it l i from q); exact Heap.lt_size e1
      · obtain ⟨_, e1, _⟩ := (show s.heap.IsListIter it l i from q); exact Heap.lt_size e1
    have e' : d = z ∨ d = TI ∨ d = TO ∨ d = i1 ∨ d = i2 := by simpa using hd
    rcases e' with q | q | q | q | q
    · rw [q]; exact Heap.lt_size hz
    · rw [q]; exact Heap.lt_size hTI
    · rw [q]; exact Heap.lt_size hTO
    · rw [q]; exact it_lt h1
    · rw [q]; exact it_lt h2
  rw [upd_ne (Nat.ne_of_lt hlt)]
  exact (hf d hd).1
theorem zn_fin {Q : Option Value → Shared → Prop} (hh : A.handled = none) (D : ZipApart z TI TO i1 i2 a c) (I : Inv X pins σ H s) (hf : ∀ b ∈ zfp z TI TO i1 i2, FpOk X pins H b) (st : ZTn b a c z TI TO i1 i2 i s.heap) (hx : SqS b X.K H a xs) (hy : SqS b X.K H c ys) (l1 : i ≤ xs.length) (l2 : i ≤ ys.length) (hend : i = xs.length ∨ i = ys.length)
    (hQ : ∀ h' tk, Inv X pins σ H { s with heap := h', toks := tk } → Q none { s with heap := h', toks := tk }) : wpAny (model X.prog X.w) A (pyNext (.ref z)) Q E s := by
  obtain ⟨v, f, hz, ow, hTI, ⟨b1, b2, hTO⟩, h1, h2⟩ := st
  obtain ⟨its, rv, p⟩ := src_of I hx
  obtain ⟨its2, rv2, p2⟩ := src_of I hy
  have e1 := rv.length
  have e2 := rv2.length
  have hh1 : A.in1.handled = none := hh
  refine zn_stop (zsep D) (draws_of b hh1 i1 a D.l1i1 its.toArray) (draws_of b hh1 i2 c D.l2i2 its2.toArray) hz ow hTI hTO ⟨h1, p⟩ ⟨h2, p2⟩ (by rw [List.size_toArray]; omega) (by rw [List.size_toArray]; omega) (by rw [List.size_toArray, List.size_toArray]; omega) fun h' tk hk => ?_
  exact hQ h' tk (I.turnedL (t' := tk) (ch := zfp z TI TO i1 i2) (fun c o hb q => hk c o (fun q' => hb (by simp [q'])) (fun q' => hb (by simp [q'])) (fun q' => hb (by simp [q'])) (fun q' => hb (by simp [q'])) q) hf)
end
end DL

namespace DL
open PySem PySem.Spec PyProof.Rows L2 PySem.W
/-! ### zip: its pairs kept by a name -/
def ItzN (b : Bool) (K : PySem.W.Frag) (a c : Addr) : It :=
  ⟨fun i H => ∃ (xs ys : List V) (x y : V), SqS b K H a xs ∧ SqS b K H c ys ∧ xs[i]? = some x ∧ ys[i]? = some y,
    fun i H v H' => ∃ T x y, v = .ref T ∧ H T = none ∧ H' = upd H T (.tup [x, y]) ∧ (∀ xs, SqS b K H a xs → xs[i]? = some x) ∧ ∀ ys, SqS b K H c ys → ys[i]? = some y,
    fun i H => ∃ xs ys : List V, SqS b K H a xs ∧ SqS b K H c ys ∧ i ≤ xs.length ∧ i ≤ ys.length ∧ (i = xs.length ∨ i = ys.length)⟩
theorem sq_inj {X : Cx} {pins : List (Addr × Obj)} {s : Shared} {σ : L2.St} {H : Hp} {b : Bool} {a : Addr} {xs ys : List V} (I : Inv X pins σ H s) (h : SqS b X.K H a xs) (h' : SqS b X.K H a ys) : xs = ys := by
  cases b
  · exact I.tuple_inj h h'
  · exact I.list_inj h h'
theorem it_keep {b : Bool} {h h' : Heap} {it l : Addr} {i : Nat} (st : ItAt b h it l i) (k : ∀ o, h.get? it = some o → h'.get? it = some o) : ItAt b h' it l i := by
  cases b
  · exact (show h.IsTupleIter it l i from st).at k
  · exact (show h.IsListIter it l i from st).at k
theorem it_obj {b : Bool} {h : Heap} {it l : Addr} {i : Nat} (st : ItAt b h it l i) : ∃ o, h.get? it = some o ∧ ∀ v, o.data ≠ .cell v := by
  cases b
  · obtain ⟨o, e, _, d⟩ := (show h.IsTupleIter it l i from st); exact ⟨o, e, fun v q => by rw [d] at q; cases q⟩
  · obtain ⟨o, e, _, d⟩ := (show h.IsListIter it l i from st); exact ⟨o, e, fun v q => by rw [d] at q; cases q⟩
theorem turn_zipN {P : Program} {w : World} {K : PySem.W.Frag} {x : Str} {tpos : Pos} {b : Bool} {a c z TI TO i1 i2 : Addr} (D : ZipApart z TI TO i1 i2 a c) :
    Turn P w K (.Name x tpos) (ItzN b K a c) (zfp z TI TO i1 i2) z (fun i h => ZTn b a c z TI TO i1 i2 i h) where
  mem := by simp
  obj := fun i h st c hc => by
    obtain ⟨v, f, hz, ow, hTI, ⟨x, y, hTO⟩, h1, h2⟩ := st
    have e' : c = z ∨ c = TI ∨ c = TO ∨ c = i1 ∨ c = i2 := by simpa using hc
    rcases e' with q | q | q | q | q
    · rw [q]; exact ⟨_, hz, fun v q => nomatch q⟩
    · rw [q]; exact ⟨_, hTI, fun v q => nomatch q⟩
    · rw [q]; exact ⟨_, hTO, fun v q => nomatch q⟩
    · rw [q]; exact it_obj h1
    · rw [q]; exact it_obj h2
  keep := fun i h h' st k => by
    obtain ⟨v, f, hz, ow, hTI, ⟨x, y, hTO⟩, h1, h2⟩ := st
    exact ⟨v, f, k z (by simp) _ hz, ow, k TI (by simp) _ hTI, ⟨x, y, k TO (by simp) _ hTO⟩, it_keep h1 fun o q => k i1 (by simp) o q, it_keep h2 fun o q => k i2 (by simp) o q⟩
  item := by
    intro X hP hw hK hc i pins s σ H E I hf st hg
    subst hP hw hK
    obtain ⟨xs, ys, x, y, hqx, hqy, hx, hy⟩ := hg
    refine zn_go (I.ok.hd hc) D I hf st hqx hqy hx hy fun h' tk I1 st' hn hf' => ⟨_, rfl, wpAny_pure ⟨.ref s.heap.objs.size, _, I1, rfl, ⟨_, x, y, rfl, hn, rfl, fun l hl => by rw [sq_inj I hl hqx]; exact hx, fun l hl => by rw [sq_inj I hl hqy]; exact hy⟩, st', fun c hc => (hf' c hc).1⟩⟩
  done := by
    intro X hP hw hK hc i pins s σ H E I hf st hg
    subst hP hw hK
    obtain ⟨xs, ys, hqx, hqy, l1, l2, hend⟩ := hg
    exact zn_fin (I.ok.hd hc) D I hf st hqx hqy l1 l2 hend fun h' tk I1 => ⟨rfl, I1⟩
  self := fun A i s Q E st h => by
    obtain ⟨v, f, hz, _⟩ := st
    exact zn_iter hz h
/-- zip(e, e2) is called: two lists or two tuples -/
theorem call_zn {X : Cx} {pins : List (Addr × Obj)} {s1 : Shared} {σ : L2.St} {H1 : Hp} {A : Around} {E : Value → Shared → Prop} {Q : Value → Shared → Prop} {b : Bool} {a c : Addr} {xs ys : List V} (I1 : Inv X pins σ H1 s1) (hqx : SqS b X.K H1 a xs) (hqy : SqS b X.K H1 c ys)
    (h : ∀ h', Inv X pins σ H1 { s1 with heap := h' } → ZipApart (s1.heap.objs.size + 4) (s1.heap.objs.size + 2) (s1.heap.objs.size + 3) s1.heap.objs.size (s1.heap.objs.size + 1) a c →
      ZTn b a c (s1.heap.objs.size + 4) (s1.heap.objs.size + 2) (s1.heap.objs.size + 3) s1.heap.objs.size (s1.heap.objs.size + 1) 0 h' →
      (∀ d ∈ zfp (s1.heap.objs.size + 4) (s1.heap.objs.size + 2) (s1.heap.objs.size + 3) s1.heap.objs.size (s1.heap.objs.size + 1), FpOk X pins H1 d) → Q (.ref (s1.heap.objs.size + 4)) { s1 with heap := h' }) :
    wpAny (model X.prog X.w) A (call (.type "zip") [.ref a, .ref c]) Q E s1 := by
  have fresh5 : ∀ d ∈ zfp (s1.heap.objs.size + 4) (s1.heap.objs.size + 2) (s1.heap.objs.size + 3) s1.heap.objs.size (s1.heap.objs.size + 1), FpOk X pins H1 d := fun d hd => by
    have e' : d = s1.heap.objs.size + 4 ∨ d = s1.heap.objs.size + 2 ∨ d = s1.heap.objs.size + 3 ∨ d = s1.heap.objs.size ∨ d = s1.heap.objs.size + 1 := by simpa using hd
    have hle : s1.heap.objs.size ≤ d := by
      rcases e' with z | z | z | z | z
      · rw [z]; exact Nat.le_add_right _ _
      · rw [z]; exact Nat.le_add_right _ _
      · rw [z]; exact Nat.le_add_right _ _
      · rw [z]; exact Nat.le_refl _
      · rw [z]; exact Nat.le_add_right _ _
    exact I1.fpOk hle (I1.hok.fresh hle)
  cases b
  · obtain ⟨its, rv, p1, _⟩ := I1.tuple hqx
    obtain ⟨its2, rv2, p2, _⟩ := I1.tuple hqy
    obtain ⟨o1, ho1, _⟩ := id p1
    obtain ⟨o2, ho2, _⟩ := id p2
    refine RZ.call_zipT (show s1.heap.IsTuple a its.toArray from p1) (show s1.heap.IsTuple c its2.toArray from p2) fun h' hz hTI hTO h1 h2 hsz hk => ?_
    exact h h' (I1.kept (t' := s1.toks) hk) (PySem.W.ktu_apart s1.heap.objs.size a c (Heap.lt_size ho1) (Heap.lt_size ho2)) ⟨.none, false, hz, .inl rfl, hTI, ⟨_, _, hTO⟩, h1, h2⟩ fresh5
  · obtain ⟨its, rv, p1, _⟩ := I1.list hqx
    obtain ⟨its2, rv2, p2, _⟩ := I1.list hqy
    refine call_zip_2 p1.isList p2.isList fun h' hz hTI hTO h1 h2 hsz hk => ?_
    exact h h' (I1.kept (t' := s1.toks) hk) (PySem.W.ktu_apart s1.heap.objs.size a c p1.lt p2.lt) ⟨.none, false, hz, .inl rfl, hTI, ⟨_, _, hTO⟩, h1, h2⟩ fresh5
def iZipN (K : PySem.W.Frag) (ta : TA) : TI := fun σ H R => ta σ H fun vs H1 => ∃ b a c xs ys, vs = [.ref a, .ref c] ∧ SqS b K H1 a xs ∧ SqS b K H1 c ys ∧ R (ItzN b K a c) H1
theorem pi_zipN {X : Cx} {e e2 : Expr} {ta : TA} {p pos tpos : Pos} {x : Str} (hg : Gl X "zip") (hm : X.mg "zip" = none) (ha : PA X [e, e2] ta)
    (hs : starEach [e, e2] X.env = (false, eval e X.env) :: starEach [e2] X.env := by rfl) (hpl : (backTo pos (starEach [e2] X.env)).any (·.1) = false := by rfl) :
    PI X (.Name x tpos) (.Call (.Name "zip" p) [e, e2] [] pos) (iZipN X.K ta) := by
  refine ⟨fun pins s σ H R I h => ?_⟩
  refine Call_ (ld_blt I hg hm PyProof.Rows.boot_zip (PyProof.Rows.callWith_type1 (thn (ha.run pos pins s σ H _ I h) fun us s1 ⟨vs, H1, I1, r1, q1⟩ => ?_) hs hpl))
  obtain ⟨b, a, c, xs, ys, ex, hqx, hqy, q⟩ := q1
  subst ex
  cases r1 with
  | cons r rr =>
    cases rr with
    | cons r' rr =>
      cases rr
      cases r
      cases r'
      refine call_zn I1 hqx hqy fun h' I2 D st fp => ?_
      obtain ⟨v, f, hz, _⟩ := id st
      exact zn_iter hz ⟨_, _, _, _, H1, rfl, I2, turn_zipN D, st, fp, q⟩
theorem walk_zipN {b : Bool} {K : PySem.W.Frag} {a c : Addr} {xs ys : List V} {n : Nat} (hn : n = min xs.length ys.length) : Walk (ItzN b K a c) n (fun H => SqS b K H a xs ∧ SqS b K H c ys) (YPair (fun i => xs[i]?) (fun i => ys[i]?)) := by
  subst hn
  refine ⟨fun i _ hi q => ?_, fun _ q => ⟨xs, ys, q.1, q.2, by omega, by omega, by omega⟩, fun i H v H' _ q y => ?_⟩
  · have h1 : i < xs.length := by omega
    have h2 : i < ys.length := by omega
    exact ⟨xs, ys, xs[i], ys[i], q.1, q.2, by simp [h1], by simp [h2]⟩
  · obtain ⟨T, x, z, h1, h2, h3, h4, h5⟩ := y
    exact ⟨T, x, z, h1, h2, h3, h4 xs q.1, h5 ys q.2⟩
/-! ### list(zip(..)) -/
theorem slot_zip_nolen : typeLookup (.type "zip") "__len__" = pure none := by rw [typeLookup_type, builtinLookup_eq_fast]; kernel_rfl
theorem slot_zip_nohint : typeLookup (.type "zip") "__length_hint__" = pure none := by rw [typeLookup_type, builtinLookup_eq_fast]; kernel_rfl
end DL

namespace DL
open PySem PySem.Spec PyProof.Rows L2 PySem.W
theorem sq_same {b : Bool} {K : PySem.W.Frag} {H H' : Hp} {a : Addr} {xs : List V} (g : Same H H') (h : SqS b K H a xs) : SqS b K H' a xs := by
  have st : Step (fun _ => False) H H' := fun c u _ e => g c u e
  cases b
  · rcases (show SqT K H a xs from h) with h | h
    · exact .inl (Rd.step st (fun z => z) h)
    · exact .inr h
  · rcases (show SqL K H a xs from h) with h | h
    · exact .inl (Rd.step st (fun z => z) h)
    · exact .inr h
theorem fp_upd {X : Cx} {pins : List (Addr × Obj)} {H : Hp} {b p : Addr} {o : HO} (h : FpOk X pins H b) (n : b ≠ p) : FpOk X pins (upd H p o) b := ⟨by rw [upd_ne n]; exact h.1, h.2⟩
/-- the pairs that stand in the new list -/
def Prs (H : Hp) (xs ys acc : List V) : Prop := ∀ (j : Nat) (v : V), acc[j]? = some v → ∃ (T : Addr) (x y : V), v = V.ref T ∧ H T = some (.tup [x, y]) ∧ xs[j]? = some x ∧ ys[j]? = some y
theorem ztn_keep {b : Bool} {a c z TI TO i1 i2 : Addr} {i : Nat} {h h' : Heap} (st : ZTn b a c z TI TO i1 i2 i h) (k : ∀ d ∈ zfp z TI TO i1 i2, ∀ o, h.get? d = some o → h'.get? d = some o) : ZTn b a c z TI TO i1 i2 i h' := by
  obtain ⟨v, f, hz, ow, hTI, ⟨x, y, hTO⟩, h1, h2⟩ := st
  exact ⟨v, f, k z (by simp) _ hz, ow, k TI (by simp) _ hTI, ⟨x, y, k TO (by simp) _ hTO⟩, it_keep h1 fun o q => k i1 (by simp) o q, it_keep h2 fun o q => k i2 (by simp) o q⟩
section
variable {X : Cx} {pins : List (Addr × Obj)} {σ : L2.St} {A1 : Around} {b : Bool} {a c z TI TO i1 i2 q : Addr} {xs ys : List V} {H0 : Hp} {Rs : Result → Shared → Prop}
theorem zl_loop (res : Value) (hh : A1.in1.handled = none) (D : ZipApart z TI TO i1 i2 a c) (hx : SqS b X.K H0 a xs) (hy : SqS b X.K H0 c ys) (q0 : H0 q = none) (lx : xs.length ≤ sizeLine)
    (hdone : ∀ H s acc, Inv X pins σ H s → Same H0 H → H q = some (.lst acc) → acc.length = min xs.length ys.length → Prs H xs ys acc → Rs (.ok (.ret res)) s) :
    ∀ (k i : Nat) (acc : List V) (H : Hp) (s : Shared), min xs.length ys.length - i = k → i ≤ min xs.length ys.length → Inv X pins σ H s → ZTn b a c z TI TO i1 i2 i s.heap → (∀ d ∈ zfp z TI TO i1 i2, FpOk X pins H d) → Same H0 H → H q = some (.lst acc) → acc.length = i → Prs H xs ys acc →
      codeAny (model X.prog X.w) A1 (.builtin "list.extend.loop" ⟨[.ref q, .ref z, res], []⟩) Rs s := by
  intro k
  induction k with
  | zero =>
    intro i acc H s hk hi I st hf g hq ha hp
    refine codeAny_builtin PySem.F.entry_extend_loop ?_
    rw [Around.under_plainId PySem.F.plain_extend_loop _]
    show wpAny _ A1.in1 (pyNext (.ref z) >>= _) _ _ s
    refine wpAny_bind (zn_fin hh D I hf st (sq_same g hx) (sq_same g hy) (by omega) (by omega) (by omega) fun h' tk I1 => ?_)
    exact wpAny_pure (hdone H _ acc I1 g hq (by omega) hp)
  | succ k ih =>
    intro i acc H s hk hi I st hf g hq ha hp
    refine codeAny_builtin PySem.F.entry_extend_loop ?_
    rw [Around.under_plainId PySem.F.plain_extend_loop _]
    show wpAny _ A1.in1 (pyNext (.ref z) >>= _) _ _ s
    have h1 : i < xs.length := by omega
    have h2 : i < ys.length := by omega
    refine wpAny_bind (zn_go (x := xs[i]) (y := ys[i]) hh D I hf st (sq_same g hx) (sq_same g hy) (List.getElem?_eq_getElem h1) (List.getElem?_eq_getElem h2) fun h' tk I1 st' hn hf' => ?_)
    have hqT : q ≠ s.heap.objs.size := fun z => by rw [← z, hq] at hn; cases hn
    have hq1 : upd H s.heap.objs.size (.tup [xs[i], ys[i]]) q = some (.lst acc) := by rw [upd_ne hqT]; exact hq
    show wpAny _ A1.in1 (updateSeq q (·.push (.ref s.heap.objs.size)) >>= _) _ _ _
    obtain ⟨zz, its, m, r2, hl, e⟩ := I1.lstM hq1
    refine wpAny_bind (wpAny_updateSeq e rfl (wpAny_pure ⟨plainId_quiet PySem.F.plain_extend_loop _, ?_⟩) (by rw [List.size_toArray]; omega) (by show (its.toArray.push _).size ≤ sizeLine + 1; rw [Array.size_push, List.size_toArray]; omega))
    have I2 := I1.lset (f := (·.push (Value.ref s.heap.objs.size))) (its' := its ++ [Value.ref s.heap.objs.size]) (ys := acc ++ [V.ref s.heap.objs.size]) (t' := tk) hq1 e (by simp) (r2.append (.cons rfl .nil)) (by rw [List.length_append, List.length_singleton]; omega)
    have ne : ∀ d ∈ zfp z TI TO i1 i2, d ≠ q := fun d hd z => by
      have := (hf' d hd).1
      rw [z, hq1] at this
      cases this
    have g2 : Same H0 (upd (upd H s.heap.objs.size (.tup [xs[i], ys[i]])) q (.lst (acc ++ [.ref s.heap.objs.size]))) := fun d u e => by
      rw [upd_ne (fun z => by rw [z, q0] at e; cases e), upd_ne (fun z => by
        have := g d u e
        rw [z, hn] at this
        cases this)]
      exact g d u e
    refine ih (i + 1) _ _ _ (by omega) (by omega) I2 (ztn_keep st' fun d hd o e => (Heap.get?_update_other _ _ (ne d hd).symm).trans e) (fun d hd => fp_upd (hf' d hd) (ne d hd)) g2 upd_same (by rw [List.length_append, List.length_singleton, ha]) fun j v hj => ?_
    have keep : ∀ T u, H T = some u → T ≠ q → upd (upd H s.heap.objs.size (.tup [xs[i], ys[i]])) q (.lst (acc ++ [.ref s.heap.objs.size])) T = some u := fun T u e n => by
      rw [upd_ne n, upd_ne (fun z => by rw [z, hn] at e; cases e)]
      exact e
    by_cases hjl : j < acc.length
    · rw [List.getElem?_append_left hjl] at hj
      obtain ⟨T, x, y, e1, e2, e3, e4⟩ := hp j v hj
      exact ⟨T, x, y, e1, keep T _ e2 (fun z => by rw [z, hq] at e2; cases e2), e3, e4⟩
    · rw [List.getElem?_append_right (by omega)] at hj
      have hj0 : j = i := by
        have := (List.getElem?_eq_some_iff.mp hj).1
        simp at this
        omega
      subst hj0
      rw [ha, Nat.sub_self] at hj
      cases hj
      exact ⟨_, _, _, rfl, by rw [upd_ne hqT.symm]; exact upd_same, List.getElem?_eq_getElem h1, List.getElem?_eq_getElem h2⟩
theorem zl_call {s : Shared} {H : Hp} {A : Around} {E : Value → Shared → Prop} {Q : Value → Shared → Prop} (hh : A.handled = none) (I : Inv X pins σ H s) (D : ZipApart z TI TO i1 i2 a c) (st : ZTn b a c z TI TO i1 i2 0 s.heap) (hf : ∀ d ∈ zfp z TI TO i1 i2, FpOk X pins H d) (hx : SqS b X.K H a xs) (hy : SqS b X.K H c ys) (lx : xs.length ≤ sizeLine)
    (hQ : ∀ H' s' q acc, Inv X pins σ H' s' → Same H H' → H q = none → H' q = some (.lst acc) → acc.length = min xs.length ys.length → Prs H' xs ys acc → Q (.ref q) s') :
    wpAny (model X.prog X.w) A (call (.type "list") [.ref z]) Q E s := by
  refine callType_codes (Q₁ := fun obj s₁ => obj = .ref s.heap.objs.size ∧ s₁ = { s with heap := s.heap.push { cls := .type "list", data := .seq #[] } }) PySem.F.called_list (PySem.F.typeCall_list_1 _) PySem.F.entry_list_init
    (code_list_new _ ⟨rfl, rfl⟩) fun obj s₁ h₁ => ?_
  obtain ⟨rfl, rfl⟩ := h₁
  have hS : (s.heap.push { cls := .type "list", data := .seq #[] }).get? s.heap.objs.size = some { cls := .type "list", data := .seq #[] } := Heap.get?_push_size _ rfl
  refine ⟨⟨_, hS, rfl⟩, PySem.F.args_list_init_2 _ _, ?_⟩
  have fr : H s.heap.objs.size = none := I.hok.fresh (Nat.le_refl _)
  have I1 : Inv X pins σ (upd H s.heap.objs.size (.lst [])) { s with heap := s.heap.push { cls := .type "list", data := .seq #[] } } := I.lnew (its := []) (t' := s.toks) .nil (Nat.zero_le _)
  have st1 : ZTn b a c z TI TO i1 i2 0 (s.heap.push { cls := .type "list", data := .seq #[] }) := ztn_keep st fun d _ o e => Heap.get?_push_of_some _ e
  have fl : ∀ d ∈ zfp z TI TO i1 i2, d ≠ s.heap.objs.size := fun d hd e => by
    obtain ⟨v, f, hz, ow, hTI, ⟨x, y, hTO⟩, h1, h2⟩ := st
    have e' : d = z ∨ d = TI ∨ d = TO ∨ d = i1 ∨ d = i2 := by simpa using hd
    have lt : d < s.heap.objs.size := by
      rcases e' with q | q | q | q | q
      · rw [q]; exact Heap.lt_size hz
      · rw [q]; exact Heap.lt_size hTI
      · rw [q]; exact Heap.lt_size hTO
      · rw [q]; obtain ⟨o, ho, _⟩ := it_obj h1; exact Heap.lt_size ho
      · rw [q]; obtain ⟨o, ho, _⟩ := it_obj h2; exact Heap.lt_size ho
    exact Nat.lt_irrefl _ (by rw [e] at lt; exact lt)
  show wpAny _ _ (do let old ← Builtin.List.listItems (.ref s.heap.objs.size); Builtin.List.listUpdate (.ref s.heap.objs.size) (fun _ => #[]); letGo old.toList.reverse; Builtin.List.listExtendWith (.ref s.heap.objs.size) (.ref z) .none) _ _ _
  refine wpAny_bind ?_
  unfold Builtin.List.listItems
  refine wpAny_bind (wpAny_seqItems hS rfl (wpAny_pure ?_))
  show wpAny _ _ (updateSeq s.heap.objs.size (fun _ => #[]) >>= fun _ => letGo (#[] : Array Value).toList.reverse >>= fun _ => Builtin.List.listExtendWith (.ref s.heap.objs.size) (.ref z) .none) _ _ _
  refine wpAny_bind (wpAny_updateSeq hS rfl ?_)
  have I2 := I1.lset (f := fun _ => #[]) (its := []) (its' := []) (ys := []) (t' := s.toks) upd_same hS rfl .nil (Nat.zero_le _)
  rw [upd_upd] at I2
  have st2 := ztn_keep st1 fun d hd o e => (Heap.get?_update_other _ (Obj.mapSeq fun _ => (#[] : Array Value)) (fl d hd).symm).trans e
  refine wpAny_bind (wpAny_letGo ?_)
  generalize (s.heap.push { cls := .type "list", data := .seq #[] }).update s.heap.objs.size (Obj.mapSeq fun _ => (#[] : Array Value)) = hp2 at *
  obtain ⟨v, f, hz, _⟩ := id st2
  have hT : ({ s with heap := hp2 } : Shared).TypeIs (.ref z) "zip" := ⟨_, hz, rfl⟩
  unfold Builtin.List.listExtendWith
  refine wpAny_bind (wpAny_typeOf (T := "zip") hT ?_)
  have h1 : Builtin.List.listSameRef (.ref s.heap.objs.size) (.ref z) = false := by simp [Builtin.List.listSameRef, (fl z (by simp)).symm]
  have h2 : (Value.type "zip" == Value.type "list") = false := by decide
  have h3 : (Value.type "zip" == Value.type "tuple") = false := by decide
  simp only [h1, h2, h3, Bool.or_false, Bool.false_eq_true, if_false]
  refine wpAny_bind (zn_iter hz ?_)
  refine wpAny_bind (wpAny_holding ?_)
  unfold Builtin.List.listLengthHint
  refine wpAny_bind (wpAny_specialOf hT slot_zip_nolen ?_)
  show wpAny _ _ (specialOf (Value.ref z) (Str.ofString "__length_hint__") >>= _) _ _ _
  refine wpAny_bind (wpAny_specialOf hT slot_zip_nohint ?_)
  refine wpAny_pure ?_
  have key : ∀ hp, Inv X pins σ (upd H s.heap.objs.size (.lst [])) { s with heap := hp } → ZTn b a c z TI TO i1 i2 0 hp →
      codeAny (model X.prog X.w) A.in1 (.builtin "list.extend.loop" ⟨[.ref s.heap.objs.size, .ref z, .none], []⟩) (wants (fun r s₂ => r = .none ∧ Q (.ref s.heap.objs.size) s₂) E) { s with heap := hp } := fun hp I3 st3 =>
    zl_loop .none (q := s.heap.objs.size) (show A.in1.in1.handled = none from hh) D hx hy fr lx (fun H' s' acc I' g hq hl hp => ⟨rfl, hQ H' s' _ acc I' g fr hq hl hp⟩) _ 0 [] _ _ rfl (Nat.zero_le _) I3 st3 (fun d hd => fp_upd (hf d hd) (fl d hd))
      (Same.new fr) upd_same rfl (fun j v e => by simp at e)
  obtain ⟨z3, its3, k3, r3, hl3, e3⟩ := I2.lstM upd_same
  cases r3
  show wpAny _ _ (rule "list.extend.makes-room" >>= fun _ => Builtin.List.listTouch (.ref s.heap.objs.size) >>= fun _ => again (.builtin "list.extend.loop" ⟨[.ref s.heap.objs.size, .ref z, .none], []⟩)) _ _ _
  refine wpAny_bind (wpAny_rule ?_)
  refine wpAny_bind ?_
  show wpAny _ _ (updateSeq s.heap.objs.size (·.push .none) >>= fun _ => updateSeq s.heap.objs.size (·.pop)) _ _ _
  refine wpAny_bind (wpAny_updateSeq e3 rfl ?_)
  have I4 := I2.lset (f := (·.push Value.none)) (its' := [Value.none]) (ys := [.non]) (t' := s.toks) upd_same e3 (by simp) (.cons rfl .nil) (by rw [List.length_singleton, sizeLine_eq]; decide)
  rw [upd_upd] at I4
  obtain ⟨z4, its4, k4, r4, hl4, e4⟩ := I4.lstM upd_same
  obtain ⟨u4, rfl, ru4⟩ := r4.one
  refine wpAny_updateSeq e4 rfl ?_ (by show 1 ≤ sizeLine; rw [sizeLine_eq]; decide) (by show 0 ≤ sizeLine + 1; exact Nat.zero_le _)
  have I5 := I4.lset (f := (·.pop)) (its := [u4]) (its' := []) (ys := []) (t' := s.toks) upd_same e4 (by rfl) .nil (Nat.zero_le _)
  rw [upd_upd] at I5
  refine wpAny_pure ⟨plainId_quiet PySem.F.plain_extend_loop _, key _ I5 (ztn_keep st2 fun d hd o e => ?_)⟩
  exact (Heap.get?_update_other _ _ (fl d hd).symm).trans ((Heap.get?_update_other _ _ (fl d hd).symm).trans e)
end
end DL

namespace DL
open PySem PySem.Spec PyProof.Rows L2 PySem.W
/-! ### zip of data -/
def zipD : List PyData → List PyData → List PyData
  | a :: as, b :: bs => .tuple [a, b] :: zipD as bs
  | _, _ => []
theorem zipD_len : ∀ as bs, (zipD as bs).length = min as.length bs.length
  | [], _ => by simp [zipD]
  | _ :: _, [] => by simp [zipD]
  | a :: as, b :: bs => by simp only [zipD, List.length_cons, zipD_len as bs]; omega
theorem zipD_at : ∀ {as bs : List PyData} {i : Nat} {a b : PyData}, as[i]? = some a → bs[i]? = some b → (zipD as bs)[i]? = some (.tuple [a, b])
  | _ :: _, _ :: _, 0, _, _, h, g => by cases h; cases g; rfl
  | _ :: as, _ :: bs, i + 1, a, b, h, g => zipD_at (as := as) (bs := bs) (i := i) h g
  | [], _, _, _, _, h, _ => by simp at h
  | _ :: _, [], _, _, _, _, g => by simp at g
def fiZ (fa fb : FE) : FI := fun ρ S T => fa ρ S fun x S1 => fb ρ S1 fun y S2 => match x, y with
  | .list a, .list b => T (zipD a b) S2
  | .tuple a, .tuple b => T (zipD a b) S2
  | _, _ => False
def fZipL (fa fb : FE) : FE := fun ρ S R => fa ρ S fun x S1 => fb ρ S1 fun y S2 => match x, y with
  | .list a, .list b => R (.list (zipD a b)) S2
  | .tuple a, .tuple b => R (.list (zipD a b)) S2
  | _, _ => False
section
variable {K : Fr_} {O : AS} {w : List Addr} {H : Hp} {ds es : List PyData} {vs us : List V} {a c : Addr} {b : Bool}
theorem pairD_rep {p : Addr} {d e : PyData} {v u : V} (ol : OL O H) (n : H p = none) (r : Rep K O H d v) (r2 : Rep K O H e u) : Rep K O (upd H p (.tup [v, u])) (.tuple [d, e]) (.ref p) :=
  rep_tup ol n (by simp only [Reps]; exact ⟨_, _, rfl, r, _, _, rfl, r2, rfl⟩)
theorem itg_pair {Rl : Hp → Prop} {J : It} (wk : Walk J (zipD ds es).length (fun H => SqS b K H a vs ∧ SqS b K H c us) (YPair (fun i => vs[i]?) (fun i => us[i]?))) (hR : ∀ H', Rl H' → Step O H H') (hk : ∀ H', Rl H' → SqS b K H' a vs ∧ SqS b K H' c us) (ol : OL O H) (r : Reps K O H ds vs) (r2 : Reps K O H es us) : Itg K Rl O H J (zipD ds es) := by
  refine ⟨⟨_, _, wk, fun O' H' ol' ho h' => ⟨hk H' h', fun i x H3 y hi => ?_⟩⟩⟩
  obtain ⟨T, z, u, rfl, hT, rfl, hz, hu⟩ := y
  rw [zipD_len] at hi
  have h1 : ds[i]? = some ds[i] := List.getElem?_eq_getElem (by omega)
  have h2 : es[i]? = some es[i] := List.getElem?_eq_getElem (by omega)
  obtain ⟨v, hv, rv⟩ := (Reps.fw ho (hR _ h') ol ds vs r).at h1
  obtain ⟨v2, hv2, rv2⟩ := (Reps.fw ho (hR _ h') ol es us r2).at h2
  replace hz : vs[i]? = some z := hz
  replace hu : us[i]? = some u := hu
  rw [hv] at hz
  rw [hv2] at hu
  cases hz
  cases hu
  exact ⟨_, zipD_at h1 h2, Same.new hT, pairD_rep ol' hT rv rv2⟩
theorem walk_zipT {K : PySem.W.Frag} {a c : Addr} {xs ys : List V} {n : Nat} (hn : n = min xs.length ys.length) : Walk (RZ.ItzT K a c) n (fun H => SqS false K H a xs ∧ SqS false K H c ys) (YPair (fun i => xs[i]?) (fun i => ys[i]?)) := by
  subst hn
  refine ⟨fun i _ hi q => ?_, fun _ q => ⟨xs, ys, q.1, q.2, by omega⟩, fun i H v H' _ q y => ?_⟩
  · have h1 : i < xs.length := by omega
    have h2 : i < ys.length := by omega
    exact ⟨xs, ys, xs[i], ys[i], q.1, q.2, by simp [h1], by simp [h2]⟩
  · obtain ⟨T, x, z, h1, h2, h3, h4, h5⟩ := y
    exact ⟨T, x, z, h1, h2, h3, h4 xs q.1, h5 ys q.2⟩
theorem reps_zip : ∀ {ds es : List PyData} {vs us acc : List V}, Reps K O H ds vs → Reps K O H es us → Prs H vs us acc → acc.length = min vs.length us.length → Reps K O H (zipD ds es) acc
  | [], es, vs, us, acc, r, r2, p, l => by
    simp only [Reps] at r
    subst r
    simp at l
    subst l
    simp only [zipD, Reps]
  | _ :: _, [], vs, us, acc, r, r2, p, l => by
    simp only [Reps] at r2
    subst r2
    simp at l
    subst l
    simp only [zipD, Reps]
  | d :: ds, e :: es, vs, us, acc, r, r2, p, l => by
    simp only [Reps] at r r2
    obtain ⟨v, r', rfl, h1, h2⟩ := r
    obtain ⟨u, s', rfl, g1, g2⟩ := r2
    match acc, l, p with
    | [], l, p => simp at l
    | t :: acc, l, p =>
      obtain ⟨T, x, y, rfl, e1, e2, e3⟩ := p 0 t rfl
      cases e2
      cases e3
      simp only [zipD, Reps]
      refine ⟨_, acc, rfl, ?_, reps_zip h2 g2 (fun j w hj => p (j + 1) w hj) (by simp at l; omega)⟩
      simp only [Rep]
      exact ⟨T, _, rfl, .inl (.inl e1), by simp only [Reps]; exact ⟨_, _, rfl, h1, _, _, rfl, g1, rfl⟩⟩
end
section
variable {X : Cx} {e e2 : Expr} {pos p p2 pos2 tpos : Pos} {fa fb : FE} {elts : List Expr} {kk : Nat} {x : Str}
/-- what the two rows are -/
theorem zip_read {K : Fr_} {σ : L2.St} {H : Hp} {R : It → Hp → Prop} {Jl Jt : Addr → Addr → It} (hl : ∀ a c (xs ys : List V) n, n = min xs.length ys.length → Walk (Jl a c) n (fun H => SqS true K H a xs ∧ SqS true K H c ys) (YPair (fun i => xs[i]?) (fun i => ys[i]?)))
    (ht : ∀ a c (xs ys : List V) n, n = min xs.length ys.length → Walk (Jt a c) n (fun H => SqS false K H a xs ∧ SqS false K H c ys) (YPair (fun i => xs[i]?) (fun i => ys[i]?))) (h : rif K (fiZ fa fb) σ H R) :
    tCons (rd K fa) (tCons (rd K fb) tNil) σ H fun vs H1 => ∃ a c xs ys, vs = [.ref a, .ref c] ∧ ((SqS true K H1 a xs ∧ SqS true K H1 c ys ∧ R (Jl a c) H1) ∨ (SqS false K H1 a xs ∧ SqS false K H1 c ys ∧ R (Jt a c) H1)) := by
  obtain ⟨Oc, w, ρ, S, T, ev, hf, k⟩ := h
  refine ⟨Oc, w, ρ, S, _, ev, hf, fun d S1 v H1 ev1 g1 r h1 => ⟨Oc, w, ρ, S1, _, ev1, h1, fun e S2 u H2 ev2 g2 r2 h2 => ?_⟩⟩
  have r' := Rep.step (ev1.stepO g2) ev1.Ool d v r
  split at h2
  · simp only [Rep] at r' r2
    obtain ⟨a, vs, rfl, q, rr⟩ := r'
    obtain ⟨c, us, rfl, q2, rr2⟩ := r2
    exact ⟨a, c, vs, us, rfl, .inl ⟨q.sq, q2.sq, k _ S2 _ H2 ev2 (g1.trans g2) (itg_pair (b := true) (hl a c vs us _ (by rw [zipD_len, rr.len, rr2.len])) (fun _ z => z) (fun H' s => ⟨(QL.step s q).sq, (QL.step s q2).sq⟩) ev2.Ool rr rr2) h2⟩⟩
  · simp only [Rep] at r' r2
    obtain ⟨a, vs, rfl, q, rr⟩ := r'
    obtain ⟨c, us, rfl, q2, rr2⟩ := r2
    exact ⟨a, c, vs, us, rfl, .inr ⟨q, q2, k _ S2 _ H2 ev2 (g1.trans g2) (itg_pair (b := false) (ht a c vs us _ (by rw [zipD_len, rr.len, rr2.len])) (fun _ z => z) (fun H' s => ⟨SqT.step s ev2.Ool q, SqT.step s ev2.Ool q2⟩) ev2.Ool rr rr2) h2⟩⟩
  · exact h2.elim
theorem i_zip (ha : PE X e (rd X.K fa)) (hb : PE X e2 (rd X.K fb)) (hm : X.mg "zip" = none) (hg : Gl X "zip" := by rfl) (hs1 : starEach (e :: [e2]) X.env = (false, eval e X.env) :: starEach [e2] X.env := by rfl) (hs2 : starEach (e2 :: []) X.env = (false, eval e2 X.env) :: starEach [] X.env := by rfl)
    (hs : starEach [e, e2] X.env = (false, eval e X.env) :: starEach [e2] X.env := by rfl) (hpl : (backTo pos (starEach [e2] X.env)).any (·.1) = false := by rfl) :
    PI X (.Tuple elts kk tpos) (.Call (.Name "zip" p) [e, e2] [] pos) (rif X.K (fiZ fa fb)) := PI.imp (RZ.pi_zipA hg hm (pa_cons ha (pa_cons hb pa_nil hs2) hs1) hs hpl) fun σ H R h =>
  zip_read (Jl := fun a c => Itz X.K a c) (Jt := fun a c => RZ.ItzT X.K a c) (fun a c xs ys n hn => walk_zip hn) (fun a c xs ys n hn => walk_zipT hn) h
theorem i_zipN (ha : PE X e (rd X.K fa)) (hb : PE X e2 (rd X.K fb)) (hm : X.mg "zip" = none) (hg : Gl X "zip" := by rfl) (hs1 : starEach (e :: [e2]) X.env = (false, eval e X.env) :: starEach [e2] X.env := by rfl) (hs2 : starEach (e2 :: []) X.env = (false, eval e2 X.env) :: starEach [] X.env := by rfl)
    (hs : starEach [e, e2] X.env = (false, eval e X.env) :: starEach [e2] X.env := by rfl) (hpl : (backTo pos (starEach [e2] X.env)).any (·.1) = false := by rfl) :
    PI X (.Name x tpos) (.Call (.Name "zip" p) [e, e2] [] pos) (rif X.K (fiZ fa fb)) := PI.imp (pi_zipN hg hm (pa_cons ha (pa_cons hb pa_nil hs2) hs1) hs hpl) fun σ H R h => by
  obtain ⟨Oc, w, ρ, S, Q, ev, hf, k⟩ := zip_read (K := X.K) (Jl := fun a c => ItzN true X.K a c) (Jt := fun a c => ItzN false X.K a c) (fun a c xs ys n hn => walk_zipN hn) (fun a c xs ys n hn => walk_zipN hn) h
  refine ⟨Oc, w, ρ, S, Q, ev, hf, fun d S1 v H1 ev1 g1 r h1 => ?_⟩
  obtain ⟨Oc, w, ρ, S, Q, ev, hf, k⟩ := k d S1 v H1 ev1 g1 r h1
  refine ⟨Oc, w, ρ, S, Q, ev, hf, fun e S2 u H2 ev2 g2 r2 h2 => ?_⟩
  obtain ⟨a, c, xs, ys, e, h⟩ := k e S2 u H2 ev2 g2 r2 h2
  rcases h with ⟨q1, q2, q3⟩ | ⟨q1, q2, q3⟩
  · exact ⟨true, a, c, xs, ys, e, q1, q2, q3⟩
  · exact ⟨false, a, c, xs, ys, e, q1, q2, q3⟩
/-- list(zip(a, b)) -/
theorem n_zipL (hc : X.calm = true) (ha : PE X e (rd X.K fa)) (hb : PE X e2 (rd X.K fb)) (hml : X.mg "list" = none) (hm : X.mg "zip" = none) (hgl : Gl X "list" := by rfl) (hg : Gl X "zip" := by rfl)
    (hs1 : starEach (e :: [e2]) X.env = (false, eval e X.env) :: starEach [e2] X.env := by rfl) (hs2 : starEach (e2 :: []) X.env = (false, eval e2 X.env) :: starEach [] X.env := by rfl) (hs : starEach [e, e2] X.env = (false, eval e X.env) :: starEach [e2] X.env := by rfl) (hpl : (backTo pos2 (starEach [e2] X.env)).any (·.1) = false := by rfl)
    (ho : starEach [.Call (.Name "zip" p2) [e, e2] [] pos2] X.env = (false, eval (.Call (.Name "zip" p2) [e, e2] [] pos2) X.env) :: starEach [] X.env := by rfl) (hol : (backTo pos (starEach [] X.env)).any (·.1) = false := by rfl) :
    PE X (.Call (.Name "list" p) [.Call (.Name "zip" p2) [e, e2] [] pos2] [] pos) (rn X.K (fZipL fa fb)) := by
  refine ⟨fun pins s σ H Q I ⟨Oc, w, ρ, S, R, ev, hf, k⟩ => ?_⟩
  refine Call_ (ld_blt I hgl hml PyProof.Rows.boot_list (PyProof.Rows.callWith_type1 ?_ ho hol))
  rw [ho]
  refine Calls.spliced_cons (Call_ (ld_blt I hg hm PyProof.Rows.boot_zip (PyProof.Rows.callWith_type1 (thn ((pa_cons ha (pa_cons hb pa_nil hs2) hs1).run pos2 pins s σ H
    (fun vs H2 => ∃ b a c xs ys S2 ds es, vs = [V.ref a, V.ref c] ∧ EV X.K Oc w σ H2 ρ S2 ∧ Gr w H H2 ∧ SqS b X.K H2 a xs ∧ SqS b X.K H2 c ys ∧ Reps X.K (OO Oc σ ρ) H2 ds xs ∧ Reps X.K (OO Oc σ ρ) H2 es ys ∧ R (.list (zipD ds es)) S2) I
    ⟨Oc, w, ρ, S, _, ev, hf, fun d S1 v H1 ev1 g1 r h1 => ⟨Oc, w, ρ, S1, _, ev1, h1, fun e S2 u H2 ev2 g2 r2 h2 => ?_⟩⟩) fun us s1 ⟨vs, H1, I1, r1, q1⟩ => ?_) hs hpl)))
  · have r' := Rep.step (ev1.stepO g2) ev1.Ool d v r
    split at h2
    · simp only [Rep] at r' r2
      obtain ⟨a, vs, rfl, q, rr⟩ := r'
      obtain ⟨c, us, rfl, q2, rr2⟩ := r2
      exact ⟨true, a, c, vs, us, S2, _, _, rfl, ev2, g1.trans g2, q.sq, q2.sq, rr, rr2, h2⟩
    · simp only [Rep] at r' r2
      obtain ⟨a, vs, rfl, q, rr⟩ := r'
      obtain ⟨c, us, rfl, q2, rr2⟩ := r2
      exact ⟨false, a, c, vs, us, S2, _, _, rfl, ev2, g1.trans g2, q, q2, rr, rr2, h2⟩
    · exact h2.elim
  · obtain ⟨b, a, c, xs, ys, S2, ds, es, ex, ev2, g2, hqx, hqy, rr, rr2, hR⟩ := q1
    subst ex
    cases r1 with
    | cons r rest =>
      cases rest with
      | cons r' rest =>
        cases rest
        cases r
        cases r'
        have lx : xs.length ≤ sizeLine := by
          cases b
          · obtain ⟨_, _, _, z⟩ := I1.tuple hqx; exact z
          · obtain ⟨_, _, _, z⟩ := I1.list hqx; exact z
        refine call_zn I1 hqx hqy fun h' I2 D st fp => Calls.spliced_nil ?_
        refine zl_call (I1.ok.hd hc) I2 D st fp hqx hqy lx fun H3 s3 q acc I3 g3 q0 hq hl hp => ?_
        have st3 : Step (OO Oc σ ρ) H1 H3 := Step.of g3
        have fw : ∀ a, With (OO Oc σ ρ) q a → OO Oc σ ρ a ∨ H1 a = none := fun a z => z.elim .inl fun z => .inr (by rw [z]; exact q0)
        exact ⟨.ref q, H3, I3, rfl, k _ S2 q acc H3 (ev2.same g3) (g2.trans (Gr.of g3)) (free_of ev2 g2 q0) hq (reps_zip (Reps.fw fw st3 ev2.Ool ds xs rr) (Reps.fw fw st3 ev2.Ool es ys rr2) hp hl) hR⟩
end
end DL

namespace DL
open PySem PySem.Spec PyProof.Rows L2 PySem.W
/-! ### sorted(d), d a dict with tuple keys -/
def keyT (k : List Key) : PyData := .tuple (k.map keyD)
def KeyAt (H : Hp) (x : V) (d : PyData) : Prop := ∃ k b, d = keyT k ∧ x = V.ref b ∧ H b = some (.tup (k.map kV))
def rSortT (K : Fr_) : List V → Hp → VK → Prop := fun xs H Q => ∃ (d : Addr) (kvs : List (List Key × V)), xs = [V.ref d] ∧ Rd H d (.dT kvs) ∧ (∀ kv ∈ kvs, PyData.canLayAll0 (kv.1.map keyD) = true) ∧ AllAlike (kvs.map fun kv => keyT kv.1) ∧ Sortable (kvs.map fun kv => keyT kv.1) ∧
  (∀ d ∈ kvs.map (fun kv => keyT kv.1), d.depth ≤ 60) ∧ ∀ ys p, EachIs (KeyAt H) ys (sortD (kvs.map fun kv => keyT kv.1)) → H p = none → Q (.ref p) (upd H p (.lst ys))
theorem keyD_rep {K : Fr_} {O : AS} {H : Hp} : ∀ (k : List Key), Reps K O H (k.map keyD) (k.map kV)
  | [] => by simp only [List.map_nil, Reps]
  | .inl i :: k => by simp only [List.map_cons, Reps, keyD, Rep]; exact ⟨_, _, rfl, rfl, keyD_rep k⟩
  | .inr x :: k => by simp only [List.map_cons, Reps, keyD, Rep]; exact ⟨_, _, rfl, rfl, keyD_rep k⟩
theorem keyT_dp {K : Fr_} {H : Hp} {k : List Key} {b : Addr} (c : PyData.canLayAll0 (k.map keyD) = true) (h : H b = some (.tup (k.map kV))) : Dp K H (.ref b) (keyT k) :=
  .tup (.inl (.inl h)) (Reps.dp (O := fun _ => False) _ _ c (keyD_rep k))
theorem cr_sortedT {X : Cx} (hc : X.calm = true) (hu : X.A.units + 65 < cLine) : CallR X (.builtin "sorted") (rSortT X.K) := by
  intro pins s σ H xs us Q I r h
  obtain ⟨d, kvs, rfl, hd, hcl, hal, hk, hdp, q⟩ := h
  obtain ⟨u, rfl, rx⟩ := r.one
  cases rx
  obtain ⟨z, hs, ks, pr, o, es, ep, ho, hx, hdt, he, hn⟩ := (show ObjOk X.prog X.w H s.heap d (.dT kvs) from hd.ok I.hok)
  have l1 : es.size = ks.length := size_of_entries he
  have l2 : kvs.length = ks.length := Paired.length pr
  refine Calls.call_function_entry PyProof.Rows.kind_sorted PyProof.Rows.plain_sorted PyProof.Rows.entry_sorted (PyProof.Rows.args_sorted1 _) ?_
  unfold Builtin.«sorted»
  refine wpAny_bind (m := checkCount "sorted" 1 1 _) (wpAny_pure ?_)
  refine wpAny_bind (PySem.W.kdu_collect (A := X.A.in1) (kdl_raw hs hx hdt) (I.ok.hd hc) ho (by omega) fun h' tk acc hkp it => ?_)
  have ea : acc.toList = ks.map fun x => Value.ref x.2.1 := by
    have hl : acc.toList.length = ks.length := by rw [Array.length_toList, it.1]; exact l1
    apply List.ext_getElem?
    intro j
    rw [List.getElem?_map]
    cases hj : acc.toList[j]? with
    | none =>
      have h1 := List.getElem?_eq_none_iff.mp hj
      rw [List.getElem?_eq_none (by omega)]
      all_goals rfl
    | some v =>
      obtain ⟨en, hen, hv⟩ := it.2 j v (by rw [← Array.getElem?_toList]; exact hj)
      have qe := entry_at he j
      rw [hen] at qe
      cases hb : ks[j]? with
      | none =>
        rw [hb] at qe
        exact nomatch (show some en = none from qe)
      | some b =>
        rw [hb] at qe
        have e2 : en = entryOfKey (tupleKind (mixKind X.prog X.w)) b := Option.some.inj qe
        rw [hv, e2]
        all_goals rfl
  have I1 : Inv X pins σ H { s with heap := h', toks := tk } := I.kept hkp
  have each : EachIs (Both (KeyAt H)) acc.toList (kvs.map fun kv => keyT kv.1) ∧ DpAll X.K H (ks.map fun x => V.ref x.2.1) (kvs.map fun kv => keyT kv.1) ∧ Vals (ks.map fun x => V.ref x.2.1) acc.toList := by
    rw [ea]
    clear it ea he hn hdt l1 l2 hal hk hdp q z hkp I1 hd
    induction pr with
    | nil => exact ⟨.nil, .nil, .nil⟩
    | @cons p q ps qs h t ih =>
      obtain ⟨e1, e2, e3⟩ := h
      obtain ⟨i1, i2, i3⟩ := ih fun kv m => hcl kv (List.mem_cons_of_mem _ m)
      exact ⟨.cons ⟨V.ref q.2.1, rfl, p.1, q.2.1, rfl, rfl, e2⟩ i1, .cons (keyT_dp (hcl p (by simp)) e2) i2, .cons rfl i3⟩
  obtain ⟨e0, dp, rv⟩ := each
  obtain ⟨as, ra⟩ := Dp.readsAll I1 _ _ acc.toList dp rv
  have lacc : acc.toList.length ≤ sizeLine := by rw [ea, List.length_map]; omega
  refine wpAny_bind (wpAny_newList ?_ (by rw [sizeLine_eq] at lacc ⊢; omega))
  have hoL : (h'.push (seqObj "list" acc.toList.toArray 0)).get? h'.objs.size = some (seqObj "list" acc.toList.toArray 0) := Heap.get?_push_size _ rfl
  show wpAny _ _ _ _ _ { s with heap := h'.push (seqObj "list" acc.toList.toArray 0), toks := tk }
  have r0 : EachIs (fun v d => ∃ as, Reads h' v d as) acc.toList (kvs.map fun kv => keyT kv.1) := readsAll_each (enc := fun d => d) (bs := kvs.map fun kv => keyT kv.1) (by rw [List.map_id']; exact ra)
  have r1 : EachIs (fun v d => ∃ as, Reads (sortingHeap (h'.push (seqObj "list" acc.toList.toArray 0)) h'.objs.size acc.toList) v d as) acc.toList (kvs.map fun kv => keyT kv.1) :=
    r0.mono fun v d ⟨as, r⟩ => ⟨as, Reads.keeps (fun b o e => sortingHeap_old (Nat.ne_of_lt (Heap.lt_size e)) (Heap.get?_push_of_some _ e)) r⟩
  refine wpAny_bind (wpAny_holding (wpAny_call_entry PyProof.Rows.slot_list_sort ⟨_, hoL, rfl⟩ PyProof.Rows.entry_list_sort
    (list_sort_vals (s := { s with heap := h'.push (seqObj "list" acc.toList.toArray 0), toks := tk }) hoL (SortsAt.data r1 hal hk fun d m => by have := hdp d m; show X.A.units + 1 + 1 + d.depth < cLine; omega) lacc ⟨_, rfl, ?_⟩) (PyProof.Rows.args_list_sort _)))
  have e2 := sortVals_data (h' := sortingHeap (h'.push (seqObj "list" acc.toList.toArray 0)) h'.objs.size acc.toList) (enc := fun d => d) (bs := kvs.map fun kv => keyT kv.1) false e0 r1 (by rw [List.map_id']; exact hal)
  rw [List.map_id'] at e2
  generalize sortVals (dataKind (sortingHeap (h'.push (seqObj "list" acc.toList.toArray 0)) h'.objs.size acc.toList) (kvs.map fun kv => keyT kv.1)) false acc.toList acc.toList = out at *
  obtain ⟨ys, q1, q2⟩ := both_split e2
  obtain ⟨e', he'⟩ := PyProof.Rows.sortedHeap_at (vs := acc.toList) (out := out.toArray) hoL
  have ly : ys.length ≤ sizeLine := by
    rw [each_len q2]
    show ((kvs.map fun kv => keyT kv.1).mergeSort _).length ≤ _
    rw [(List.mergeSort_perm _ _).length_eq, List.length_map]
    exact z
  refine wpAny_pure ⟨_, rfl, .ref h'.objs.size, upd H h'.objs.size (.lst ys), I1.laid (t' := tk) (fun b u e => ?_) (Nat.le_refl _) ⟨ly, out, e', q1, he'⟩, rfl, q ys _ q2 (I1.hok.fresh (Nat.le_refl _))⟩
  have hb : b < h'.objs.size := Heap.lt_size e
  rw [PyProof.Rows.sortedHeap_old (Nat.ne_of_lt hb) (by rw [size_push']; exact Nat.lt_succ_of_lt hb)]
  exact Heap.get?_push_of_some _ e
theorem keyAt_rep {K : Fr_} {O : AS} {H : Hp} {x : V} {d : PyData} (h : KeyAt H x d) : Rep K O H d x := by
  obtain ⟨k, b, rfl, rfl, e⟩ := h
  simp only [keyT, Rep]
  exact ⟨b, _, rfl, .inl (.inl e), keyD_rep k⟩
def fSortK (i : Nat) : FE := fun ρ S R => match ρ[i]? with
  | some (.dct kvs) => (∀ kv ∈ kvs, PyData.canLayAll0 (kv.1.map keyD) = true) ∧ AllAlike (kvs.map fun kv => keyT kv.1) ∧ Sortable (kvs.map fun kv => keyT kv.1) ∧ (∀ d ∈ kvs.map (fun kv => keyT kv.1), d.depth ≤ 60) ∧ R (.list (sortD (kvs.map fun kv => keyT kv.1))) S
  | _ => False
section
variable {X : Cx} {pos p p2 : Pos} {x : Str}
theorem n_sortedK {k : Nat} (hc : X.calm = true) (hr : RoomG k X.A) (i : Nat) (hm : X.mg "sorted" = none) (hg : Gl X "sorted" := by rfl) (hN : X.N[i]? = some x := by rfl) (hv : Vis X.env.scope x := by first | exact Or.inl rfl | exact Or.inr (Or.inl rfl) | exact Or.inr (Or.inr rfl)) (hd : (x == ("__debug__" : Str)) = false := by decide)
    (hcd : (x == ("__classdict__" : Str)) = false := by decide) (hs : starEach (.Name x p2 :: []) X.env = (false, eval (.Name x p2) X.env) :: starEach [] X.env := by rfl) (hpl : (backTo pos (starEach [] X.env)).any (·.1) = false := by rfl) :
    PE X (.Call (.Name "sorted" p) [.Name x p2] [] pos) (rn X.K (fSortK i)) := PE.imp (pe_callB (cr_sortedT hc (by have := hr.room.un; omega)) hg hm PyProof.Rows.boot_sorted (pa_cons (pe_var (i := i) hN hv hd hcd) pa_nil hs) (by decide) (by decide) hs hpl) fun σ H Q ⟨Oc, w, ρ, S, R, ev, hf, k⟩ => by
  unfold fSortK at hf
  split at hf
  · rename_i kvs hx
    obtain ⟨h0, h1, h2, h3, h4⟩ := hf
    obtain ⟨a, ws, e1, e2, e3, e4, e5⟩ := ev.dct.1 i kvs hx
    have em : ws.map (fun kv => keyT kv.1) = kvs.map fun kv => keyT kv.1 := by
      have := congrArg (List.map keyT) e4
      rw [List.map_map, List.map_map] at this
      exact this
    have hcl : ∀ kv ∈ ws, PyData.canLayAll0 (kv.1.map keyD) = true := fun kv m => by
      have : kv.1 ∈ kvs.map (·.1) := by rw [← e4]; exact List.mem_map_of_mem m
      obtain ⟨kv', m', e⟩ := List.mem_map.mp this
      rw [← e]
      exact h0 kv' m'
    refine ⟨_, e1, a, ws, rfl, .inl e2, hcl, by rw [em]; exact h1, by rw [em]; exact h2, by rw [em]; exact h3, fun ys p he hn => ?_⟩
    rw [em] at he
    exact k _ S p ys _ (ev.same (Same.new hn)) (Gr.of (Same.new hn)) hn upd_same (reps_new ev.Ool hn (each_reps (he.mono fun x d h => keyAt_rep h))) h4
  · exact hf.elim
end
end DL

namespace DL
open PySem PySem.Spec PyProof.Rows L2
/-! ### a dict of one's own: made, stored into -/
def putD (kvs : List (List Key × PyData)) (k : List Key) (d : PyData) : List (List Key × PyData) :=
  if (kvs.any fun kv => decide (kv.1 = k)) = true then kvs.map (fun kv => if kv.1 = k then (kv.1, d) else kv) else kvs ++ [(k, d)]
section
variable {K : Fr_} {O : AS} {H : Hp}
theorem any_key {κ α β : Type} [DecidableEq κ] : ∀ {ws : List (κ × α)} {kvs : List (κ × β)} {k : κ}, ws.map (·.1) = kvs.map (·.1) → (ws.any fun kv => decide (kv.1 = k)) = kvs.any fun kv => decide (kv.1 = k)
  | [], [], _, _ => rfl
  | w :: ws, q :: kvs, k, h => by
    simp only [List.map_cons, List.cons.injEq] at h
    simp only [List.any_cons, h.1, any_key h.2]
  | [], _ :: _, _, h => by simp at h
  | _ :: _, [], _, h => by simp at h
theorem drep_map {k : List Key} {d : PyData} {v : V} (r : Rep K O H d v) : ∀ {kvs : List (List Key × PyData)} {ws : List (List Key × V)}, DRep K O H kvs ws → DRep K O H (kvs.map fun kv => if kv.1 = k then (kv.1, d) else kv) (ws.map fun kv => if kv.1 = k then (kv.1, v) else kv)
  | [], [], h => h
  | q :: kvs, w :: ws, h => by
    obtain ⟨h1, h2⟩ := h
    simp only [List.map_cons, List.cons.injEq] at h1
    simp only [List.map_cons, Reps] at h2
    obtain ⟨v', r', e, g1, g2⟩ := h2
    obtain ⟨e1, e2⟩ := List.cons.inj e
    subst e1
    subst e2
    obtain ⟨i1, i2⟩ := drep_map r (kvs := kvs) (ws := ws) ⟨h1.2, g2⟩
    refine ⟨?_, ?_⟩
    · simp only [List.map_cons]
      rw [i1]
      congr 1
      rw [h1.1]
      split
      · rfl
      · exact h1.1
    · simp only [List.map_cons, Reps]
      rw [h1.1]
      split
      · exact ⟨_, _, rfl, r, i2⟩
      · exact ⟨_, _, rfl, g1, i2⟩
  | [], _ :: _, h => by obtain ⟨h1, _⟩ := h; simp at h1
  | _ :: _, [], h => by obtain ⟨h1, _⟩ := h; simp at h1
theorem drep_put {k : List Key} {d : PyData} {v : V} (r : Rep K O H d v) {kvs : List (List Key × PyData)} {ws : List (List Key × V)} (h : DRep K O H kvs ws) : DRep K O H (putD kvs k d) (putK ws k v) := by
  unfold putD putK
  rw [any_key h.1]
  split
  · exact drep_map r h
  · obtain ⟨h1, h2⟩ := h
    refine ⟨?_, ?_⟩
    · rw [List.map_append, List.map_append, h1]
      rfl
    · rw [List.map_append, List.map_append]
      exact h2.app (by simp only [List.map_cons, List.map_nil, Reps]; exact ⟨_, _, rfl, r, rfl⟩)
theorem drep_len {kvs : List (List Key × PyData)} {ws : List (List Key × V)} (h : DRep K O H kvs ws) : ws.length = kvs.length := by
  have := congrArg List.length h.1
  rw [List.length_map, List.length_map] at this
  exact this
end
/-- a new dict comes to a slot; what the callers may write has grown by it -/
theorem EV.putDct {K : Fr_} {Oc : AS} {w : List Addr} {H0 : Hp} {σ : L2.St} {H : Hp} {ρ : Rho} {S : SW} {p : Addr} (e : EV K Oc w σ H ρ S) (fz : Fz w H0 σ H ρ) (i : Nat) (n : H p = none) :
    EV K (With Oc p) w (σ.set i (some (.ref p))) (upd H p (.dT [])) (ρ.set i (.dct [])) S ∧ Fz w H0 (σ.set i (some (.ref p))) (upd H p (.dT [])) (ρ.set i (.dct [])) := by
  have old : ∀ {j : Nat} {y : Sl}, i ≠ j → (ρ.set i (.dct []))[j]? = some y → ρ[j]? = some y ∧ (σ.set i (some (.ref p)))[j]? = σ[j]? := fun {j y} hj h => by
    rw [List.getElem?_set_ne hj] at h
    exact ⟨h, by rw [List.getElem?_set_ne hj]⟩
  have new : ∀ {y : Sl}, (ρ.set i (.dct []))[i]? = some y → y = .dct [] ∧ (σ.set i (some (.ref p)))[i]? = some (some (.ref p)) := fun {y} h => by
    by_cases hk : i < ρ.length
    · rw [List.getElem?_set_self hk] at h
      cases h
      exact ⟨rfl, by rw [List.getElem?_set_self (by rw [← e.len]; exact hk)]⟩
    · rw [List.getElem?_eq_none (by simpa using hk)] at h; cases h
  have oo : ∀ a, OO (With Oc p) (σ.set i (some (.ref p))) (ρ.set i (.dct [])) a → OO Oc σ ρ a ∨ H a = none := by
    rintro a ((h | h) | ⟨j, xs, h1, h2⟩)
    · exact .inl (.inl h)
    · exact .inr (by rw [h]; exact n)
    · by_cases hj : i = j
      · subst hj
        obtain ⟨q, _⟩ := new h1
        cases q
      · obtain ⟨q1, q2⟩ := old hj h1
        exact .inl (.inr ⟨j, xs, q1, by rw [← q2]; exact h2⟩)
  have sm : Same H (upd H p (.dT [])) := Same.new n
  have st : Step (OO Oc σ ρ) H (upd H p (.dT [])) := Step.of sm
  have ne : ∀ {a : Addr} {u : HO}, H a = some u → a ≠ p := fun h z => by rw [z, n] at h; cases h
  refine ⟨⟨by simp [e.len], fun j d h => ?_, fun j xs h => ?_, fun j l xs ys a h1 h2 h3 h4 => ?_, fun j m h => ?_, fun a h => .inl (e.wo a h), e.wn, e.ws.step (Step.of sm) e.Ool (fun a _ o h => sm a o h), fun a h => ?_, ⟨fun j kvs h => ?_, fun j l ks ls a h1 h2 h3 h4 => ?_⟩⟩, ⟨fz.gr.trans (Gr.of sm), fun j xs a h1 h2 => ?_, fun j xs a h1 h2 => ?_⟩⟩
  · by_cases hj : i = j
    · subst hj
      obtain ⟨q, _⟩ := new h
      cases q
    · obtain ⟨q1, q2⟩ := old hj h
      obtain ⟨v, hv, rv⟩ := e.dat j d q1
      exact ⟨v, by rw [q2]; exact hv, Rep.fw oo st e.Ool d v rv⟩
  · by_cases hj : i = j
    · subst hj
      obtain ⟨q, _⟩ := new h
      cases q
    · obtain ⟨q1, q2⟩ := old hj h
      obtain ⟨a, us, h1, h2, h3, h4⟩ := e.own j xs q1
      exact ⟨a, us, by rw [q2]; exact h1, sm _ _ h2, fun z => z.elim h3 (ne h2), Reps.fw oo st e.Ool xs us h4⟩
  · by_cases hj : i = j
    · subst hj
      obtain ⟨q, _⟩ := new h1
      cases q
    · by_cases hl : i = l
      · subst hl
        obtain ⟨q, _⟩ := new h2
        cases q
      · obtain ⟨q1, q2⟩ := old hj h1
        obtain ⟨q3, q4⟩ := old hl h2
        exact e.inj j l xs ys a q1 q3 (by rw [← q2]; exact h3) (by rw [← q4]; exact h4)
  · by_cases hj : i = j
    · subst hj
      obtain ⟨q, _⟩ := new h
      cases q
    · obtain ⟨q1, q2⟩ := old hj h
      obtain ⟨a, h1, h2⟩ := e.cel j m q1
      exact ⟨a, h1, by rw [q2]; exact h2⟩
  · rcases h with h | h
    · obtain ⟨u, hu, mu⟩ := e.ol a h
      exact ⟨u, sm _ _ hu, mu⟩
    · rw [h]; exact ⟨_, upd_same, trivial⟩
  · by_cases hj : i = j
    · subst hj
      obtain ⟨q1, q2⟩ := new h
      cases q1
      exact ⟨p, [], q2, upd_same, .inr rfl, rfl, by simp only [List.map_nil, Reps]⟩
    · obtain ⟨q1, q2⟩ := old hj h
      obtain ⟨a, ws, h1, h2, h3, h4, h5⟩ := e.dct.1 j kvs q1
      exact ⟨a, ws, by rw [q2]; exact h1, sm _ _ h2, .inl h3, h4, Reps.fw oo st e.Ool _ _ h5⟩
  · have far : ∀ {j : Nat} {ks : List (List Key × PyData)}, i ≠ j → (ρ.set i (.dct []))[j]? = some (.dct ks) → (σ.set i (some (.ref p)))[j]? ≠ some (some (.ref p)) := fun {j ks} hj h z => by
      obtain ⟨q1, q2⟩ := old hj h
      obtain ⟨b, us, h1, h2, _⟩ := e.dct.1 j ks q1
      rw [q2, h1] at z
      cases z
      exact ne h2 rfl
    by_cases hj : i = j
    · subst hj
      by_cases hl : i = l
      · exact hl
      · obtain ⟨_, q2⟩ := new h1
        rw [q2] at h3
        cases h3
        exact absurd h4 (far hl h2)
    · by_cases hl : i = l
      · subst hl
        obtain ⟨_, q2⟩ := new h2
        rw [q2] at h4
        cases h4
        exact absurd h3 (far hj h1)
      · obtain ⟨q1, q2⟩ := old hj h1
        obtain ⟨q3, q4⟩ := old hl h2
        exact e.dct.2 j l ks ls a q1 q3 (by rw [← q2]; exact h3) (by rw [← q4]; exact h4)
  · by_cases hj : i = j
    · subst hj
      obtain ⟨q, _⟩ := new h1
      cases q
    · obtain ⟨q1, q2⟩ := old hj h1
      exact fz.own j xs a q1 (by rw [← q2]; exact h2)
  · by_cases hj : i = j
    · subst hj
      obtain ⟨_, q2⟩ := new h1
      rw [q2] at h2
      cases h2
      cases q : H0 p with
      | none => rfl
      | some u =>
        by_cases hw : p ∈ w
        · obtain ⟨u, z, _⟩ := e.ws.there hw
          rw [z] at n
          cases n
        · rw [fz.gr p u hw q] at n
          cases n
    · obtain ⟨q1, q2⟩ := old hj h1
      exact fz.dct j xs a q1 (by rw [← q2]; exact h2)
/-- a store into it -/
theorem EV.dctSet {K : Fr_} {Oc : AS} {w : List Addr} {H0 : Hp} {σ : L2.St} {H : Hp} {ρ : Rho} {S : SW} {p : Addr} {kvs ls : List (List Key × PyData)} {ws : List (List Key × V)} (e : EV K Oc w σ H ρ S) (fz : Fz w H0 σ H ρ) {i : Nat} (hx : ρ[i]? = some (.dct kvs)) (hp : σ[i]? = some (some (.ref p)))
    (r : DRep K (OO Oc σ ρ) H ls ws) : EV K Oc w σ (upd H p (.dT ws)) (ρ.set i (.dct ls)) S ∧ Fz w H0 σ (upd H p (.dT ws)) (ρ.set i (.dct ls)) ∧ Fw Oc σ ρ H σ (ρ.set i (.dct ls)) (upd H p (.dT ws)) := by
  have hi : i < ρ.length := (List.getElem?_eq_some_iff.mp hx).1
  obtain ⟨p', us, hp', hl, op, _⟩ := e.dct.1 i kvs hx
  rw [hp] at hp'
  cases hp'
  have old : ∀ {j : Nat} {y : Sl}, i ≠ j → (ρ.set i (.dct ls))[j]? = some y → ρ[j]? = some y := fun {j y} hj h => by
    rw [List.getElem?_set_ne hj] at h
    exact h
  have oo : ∀ a, OO Oc σ (ρ.set i (.dct ls)) a → OO Oc σ ρ a := by
    rintro a (h | ⟨j, ys, h1, h2⟩)
    · exact .inl h
    · by_cases hj : i = j
      · subst hj
        rw [List.getElem?_set_self hi] at h1
        cases h1
      · exact .inr ⟨j, ys, old hj h1, h2⟩
  have st : Step (OO Oc σ ρ) H (upd H p (.dT ws)) := fun a u n h => by rw [upd_ne (fun z => n (.inl (by rw [z]; exact op)))]; exact h
  have pw : p ∉ w := fun z => by
    obtain ⟨u, h1, _, h2⟩ := e.ws.there z
    rw [hl] at h1
    cases h1
    exact h2 _ rfl
  have nl : ∀ {a : Addr} {vs : List V}, H a = some (.lst vs) → a ≠ p := fun h z => by rw [z, hl] at h; cases h
  have dold : ∀ {j : Nat} {ks : List (List Key × PyData)}, (ρ.set i (.dct ls))[j]? = some (Sl.dct ks) → ∃ ks', ρ[j]? = some (Sl.dct ks') := fun {j ks} h => by
    by_cases hj : i = j
    · subst hj
      exact ⟨_, hx⟩
    · exact ⟨_, old hj h⟩
  refine ⟨⟨by simp [e.len], fun j d h => ?_, fun j ys h => ?_, fun j l ys zs a h1 h2 h3 h4 => ?_, fun j m h => ?_, e.wo, e.wn, e.ws.step st e.Ool (fun a ha o h => by rw [upd_ne (fun z => pw (by rw [← z]; exact ha))]; exact h), fun a h => ?_, ⟨fun j ks h => ?_, fun j l ks ks' a h1 h2 h3 h4 => ?_⟩⟩, ⟨fun a u n h => ?_, fun j ys a h1 h2 => ?_, fun j ys a h1 h2 => ?_⟩, ⟨st, fun a z => .inl (oo a z)⟩⟩
  · by_cases hj : i = j
    · subst hj
      rw [List.getElem?_set_self hi] at h
      cases h
    · obtain ⟨v, hv, rv⟩ := e.dat j d (old hj h)
      exact ⟨v, hv, Rep.less oo d v (Rep.step st e.Ool d v rv)⟩
  · by_cases hj : i = j
    · subst hj
      rw [List.getElem?_set_self hi] at h
      cases h
    · obtain ⟨a, us, h1, h2, h3, h4⟩ := e.own j ys (old hj h)
      exact ⟨a, us, h1, by rw [upd_ne (nl h2)]; exact h2, h3, Reps.less oo ys us (Reps.step st e.Ool ys us h4)⟩
  · have up : ∀ {j : Nat} {ys : List PyData}, (ρ.set i (.dct ls))[j]? = some (Sl.own ys) → ρ[j]? = some (Sl.own ys) := fun {j ys} h => by
      by_cases hj : i = j
      · subst hj
        rw [List.getElem?_set_self hi] at h
        cases h
      · exact old hj h
    exact e.inj j l ys zs a (up h1) (up h2) h3 h4
  · by_cases hj : i = j
    · subst hj
      rw [List.getElem?_set_self hi] at h
      cases h
    · exact e.cel j m (old hj h)
  · by_cases hap : a = p
    · rw [hap]; exact ⟨_, upd_same, trivial⟩
    · obtain ⟨u, hu, mu⟩ := e.ol a h
      exact ⟨u, by rw [upd_ne hap]; exact hu, mu⟩
  · by_cases hj : i = j
    · subst hj
      rw [List.getElem?_set_self hi] at h
      cases h
      exact ⟨p, ws, hp, upd_same, op, r.1, Reps.less oo _ _ (Reps.step st e.Ool _ _ r.2)⟩
    · obtain ⟨a, us, h1, h2, h3, h4, h5⟩ := e.dct.1 j ks (old hj h)
      have hne : a ≠ p := fun z => hj (e.dct.2 i j kvs ks p hx (old hj h) hp (by rw [← z]; exact h1))
      exact ⟨a, us, h1, by rw [upd_ne hne]; exact h2, h3, h4, Reps.less oo _ _ (Reps.step st e.Ool _ _ h5)⟩
  · obtain ⟨k1, e1⟩ := dold h1
    obtain ⟨k2, e2⟩ := dold h2
    exact e.dct.2 j l k1 k2 a e1 e2 h3 h4
  · have hne : a ≠ p := fun z => by
      have q := fz.dct i kvs p hx hp
      rw [z, q] at h
      cases h
    rw [upd_ne hne]
    exact fz.gr a u n h
  · by_cases hj : i = j
    · subst hj
      rw [List.getElem?_set_self hi] at h1
      cases h1
    · exact fz.own j ys a (old hj h1) h2
  · obtain ⟨k1, e1⟩ := dold h1
    exact fz.dct j k1 a e1 h2
def sDct (i : Nat) (h : FS) : FS := fun ρ S B => h (ρ.set i (.dct [])) S { nx := fun _ _ => False, rt := B.rt, rn := B.rn }
def sParD (i j : Nat) (f : FE) (h : FS) : FS := fun ρ S B => f ρ S fun d S1 => h ((ρ.set i (.dat d)).set j (.dct [])) S1 { nx := fun _ _ => False, rt := B.rt, rn := B.rn }
/-- what the rest hands back -/
theorem Rx.dct {K : Fr_} {Oc : AS} {w : List Addr} {H0 : Hp} {P : PyData → SW → Prop} {Pn : List PyData → SW → Prop} {Dr : VK} {p : Addr} (k : Rx K Oc w H0 P Pn Dr) : Rx K (With Oc p) w H0 P Pn Dr :=
  ⟨fun H' d v S' g w' r q => k.1 H' d v S' g w' (Rep.less (fun a z => .inl z) d v r) q, fun H' ds q vs S' g w' n hp r z => k.2 H' ds q vs S' g w' n hp (Reps.less (fun a z => z.elim (fun z => .inl (.inl z)) .inr) ds vs r) z⟩
def sDput (i n : Nat) (gl : FL) (f : FE) : FS := fun ρ S B => match ρ[i]? with
  | some (.dct kvs) => f ρ S fun d S1 => gl ρ S1 fun ks S2 => ∃ k : List Key, ks = k.map keyD ∧ kvs.length < sizeLine ∧ B.nx (ρ.set i (.dct (putD kvs k d))) S2
  | _ => False
theorem reps_keys {K : Fr_} {O : AS} {H : Hp} : ∀ {k : List Key} {vs : List V}, Reps K O H (k.map keyD) vs → vs = k.map kV
  | [], vs, h => by simpa [Reps] using h
  | .inl i :: k, vs, h => by
    simp only [List.map_cons, Reps, keyD, Rep] at h
    obtain ⟨v, r, rfl, rfl, h2⟩ := h
    rw [reps_keys h2]
    rfl
  | .inr x :: k, vs, h => by
    simp only [List.map_cons, Reps, keyD, Rep] at h
    obtain ⟨v, r, rfl, rfl, h2⟩ := h
    rw [reps_keys h2]
    rfl
section
variable {X : Cx} {e : Expr} {rest : List Stmt} {pos p pd : Pos} {f : FE} {gl : FL} {h : FS} {x y : Str} {es : List Expr} {n : Nat}
theorem s_dct (i : Nat) (hN : X.N.Nodup) (hrest : PSs X rest (rs X.K h)) (hi : X.N[i]? = some x := by rfl) (hx : Loc X.env.scope x := by first | exact Or.inl rfl | exact Or.inr rfl) (hs : swapsWith (.Dict [] [] pd) (some (.Name x p)) pos.line X.env = pure false := by rfl)
    (hf : X.fn x = true ∨ X.env.scope.names.lookup x = some .local := by first | exact .inl rfl | exact .inr rfl) : PSs X (.Assign [.Name x p] (.Dict [] [] pd) pos :: rest) (rs X.K (sDct i h)) := PSs.imp (pss_cons (ps_set (i := i) hN hi hx pe_dnewT hs hf) hrest) fun D σ H ⟨Oc, w, H0, ρ, S, B, ev, fz, hf, k1, k2, k3, k4⟩ => fun p hp => by
  obtain ⟨ev2, fz2⟩ := ev.putDct fz i hp
  exact ⟨With Oc p, w, H0, _, S, _, ev2, fz2, hf, fun _ _ _ _ _ _ _ q => q.elim, k2.dct, fun _ _ _ _ _ _ _ q => q.elim, fun _ _ _ _ _ _ _ q => q.elim⟩
theorem s_parD (i j : Nat) {px py pt : Pos} {kt k2 pt2} (hc : X.calm = true) (hN : X.N.Nodup) (ha : PE X e (rd X.K f)) (hrest : PSs X rest (rs X.K h)) (hi : X.N[i]? = some x := by rfl) (hj : X.N[j]? = some y := by rfl) (hij : i ≠ j := by decide)
    (hx : X.env.scope.names.lookup x = some .local := by rfl) (hy : X.env.scope.names.lookup y = some .local := by rfl)
    (hw : swappedStores [.Tuple [.Name x px, .Name y py] kt pt] (.Tuple [e, .Dict [] [] pd] k2 pt2) X.env = pure (some [x, y]) := by rfl)
    (hs : swapsWithSole [.Tuple [.Name x px, .Name y py] kt pt] (.Tuple [e, .Dict [] [] pd] k2 pt2) pos.line X.env = pure false := by rfl)
    (h1 : starEach (e :: [.Dict [] [] pd]) X.env = (false, eval e X.env) :: starEach [.Dict [] [] pd] X.env := by rfl) (h2 : starEach (.Dict [] [] pd :: []) X.env = (false, eval (.Dict [] [] pd) X.env) :: starEach [] X.env := by rfl) :
    PSs X (.Assign [.Tuple [.Name x px, .Name y py] kt pt] (.Tuple [e, .Dict [] [] pd] k2 pt2) pos :: rest) (rs X.K (sParD i j f h)) :=
  PSs.imp (pss_cons (ps_par hc hN hi hj hij hx hy (pa_cons ha (pa_cons pe_dnewT pa_nil h2) h1) hw hs) hrest) fun D σ H ⟨Oc, w, H0, ρ, S, B, ev, fz, hf, k1, k2, k3, k4⟩ => by
    refine ⟨Oc, w, ρ, S, _, ev, hf, fun d S1 v H1 ev1 g1 r q => fun p hp => ?_⟩
    obtain ⟨ev2, t2⟩ := ev1.put i r
    obtain ⟨ev3, fz3⟩ := ev2.putDct (t2.fz (fz.go g1)) j hp
    exact ⟨v, .ref p, rfl, With Oc p, w, H0, _, S1, _, ev3, fz3, q, fun _ _ _ _ _ _ _ q => q.elim, k2.dct, fun _ _ _ _ _ _ _ q => q.elim, fun _ _ _ _ _ _ _ q => q.elim⟩
/-- the same where the names are no plain locals -/
theorem s_asgD (i j : Nat) {px py pt : Pos} {kt k2 pt2} (hc : X.calm = true) (hN : X.N.Nodup) (ha : PE X e (rd X.K f)) (hrest : PSs X rest (rs X.K h)) (hi : X.N[i]? = some x := by rfl) (hj : X.N[j]? = some y := by rfl)
    (hx : Loc X.env.scope x := by first | exact Or.inl rfl | exact Or.inr rfl) (hy : Loc X.env.scope y := by first | exact Or.inl rfl | exact Or.inr rfl)
    (hxf : X.fn x = true ∨ X.env.scope.names.lookup x = some .local := by first | exact .inl rfl | exact .inr rfl) (hyf : X.fn y = true ∨ X.env.scope.names.lookup y = some .local := by first | exact .inl rfl | exact .inr rfl)
    (hs1 : (assignEach (.Name x px :: [.Name y py]) X.env).map (·.2) = assign (.Name x px) X.env :: (assignEach [.Name y py] X.env).map (·.2) := by rfl) (hs2 : (assignEach (.Name y py :: []) X.env).map (·.2) = assign (.Name y py) X.env :: (assignEach [] X.env).map (·.2) := by rfl)
    (hn : (assignEach [.Name x px, .Name y py] X.env).length = 2 := by rfl) (hst : (assignEach [.Name x px, .Name y py] X.env).findIdx? (·.1) = none := by rfl)
    (hs : swapsWithSole [.Tuple [.Name x px, .Name y py] kt pt] (.Tuple [e, .Dict [] [] pd] k2 pt2) pos.line X.env = pure false := by rfl) (hw : swappedStores [.Tuple [.Name x px, .Name y py] kt pt] (.Tuple [e, .Dict [] [] pd] k2 pt2) X.env = pure none := by rfl)
    (h0 : (assignEach [.Tuple [.Name x px, .Name y py] kt pt] X.env).map (·.2) = [assign (.Tuple [.Name x px, .Name y py] kt pt) X.env] := by rfl)
    (h1 : starEach (e :: [.Dict [] [] pd]) X.env = (false, eval e X.env) :: starEach [.Dict [] [] pd] X.env := by rfl) (h2 : starEach (.Dict [] [] pd :: []) X.env = (false, eval (.Dict [] [] pd) X.env) :: starEach [] X.env := by rfl) :
    PSs X (.Assign [.Tuple [.Name x px, .Name y py] kt pt] (.Tuple [e, .Dict [] [] pd] k2 pt2) pos :: rest) (rs X.K (sParD i j f h)) :=
  PSs.imp (pss_cons (ps_asg (pe_tup (pa_cons ha (pa_cons pe_dnewT pa_nil h2) h1)) (pg_tup hc (pgs_cons (pg_name hN hi hx hxf) (pgs_cons (pg_name hN hj hy hyf) pgs_nil hs2) hs1) hn hst) hs hw h0) hrest) fun D σ H ⟨Oc, w, H0, ρ, S, B, ev, fz, hf, k1, k2, k3, k4⟩ => by
    refine ⟨Oc, w, ρ, S, _, ev, hf, fun d S1 v H1 ev1 g1 r q => fun p hp => ⟨by rw [sizeLine_eq]; simp, fun t ht => ⟨t, _, rfl, .inl (.inl upd_same), rfl, _, _, rfl, ?_⟩⟩⟩
    obtain ⟨ev2, t2⟩ := ev1.put i r
    obtain ⟨ev3, fz3⟩ := ev2.putDct (t2.fz (fz.go g1)) j hp
    have sm : Same (upd H1 p (.dT [])) (upd (upd H1 p (.dT [])) t (.tup [v, .ref p])) := Same.new ht
    exact ⟨_, _, rfl, rfl, With Oc p, w, H0, _, S1, _, ev3.same sm, fz3.go (Gr.of sm), q, fun _ _ _ _ _ _ _ q => q.elim, k2.dct, fun _ _ _ _ _ _ _ q => q.elim, fun _ _ _ _ _ _ _ q => q.elim⟩
theorem s_dput {k : Nat} (hr : RoomG k X.A) (i : Nat) {kt : Nat} {tp spos : Pos} (he : PE X e (rd X.K f)) (ha : PA X es (rda X.K n gl)) (hN : X.N[i]? = some x := by rfl) (hv : Vis X.env.scope x := by first | exact Or.inl rfl | exact Or.inr (Or.inl rfl) | exact Or.inr (Or.inr rfl)) (hd : (x == ("__debug__" : Str)) = false := by decide)
    (hcd : (x == ("__classdict__" : Str)) = false := by decide) (hs : swapsWith e (some (.Subscript (.Name x p) (.Tuple es kt tp) spos)) pos.line X.env = pure false := by rfl) (hn : n ≤ sizeLine := by decide) :
    PS X (.Assign [.Subscript (.Name x p) (.Tuple es kt tp) spos] e pos) (rs X.K (sDput i n gl f)) :=
  PS.imp (ps_dput (by have := hr.room.un; omega) (pe_var (i := i) hN hv hd hcd) (pe_tup ha) he hs) fun D σ H ⟨Oc, w, H0, ρ, S, B, ev, fz, hf, k1, k2, k3, k4⟩ => by
    unfold sDput at hf
    split at hf
    · rename_i kvs hx
      refine ⟨Oc, w, ρ, S, _, ev, hf, fun d S1 v H1 ev1 g1 r q => ?_⟩
      obtain ⟨a, ws, e1, e2, e3, e4⟩ := ev1.dct.1 i kvs hx
      refine ⟨_, e1, Oc, w, ρ, S1, _, ev1, q, fun ks S2 vs H2 ev2 g2 rk hl ⟨kk, ek, hz, q2⟩ => ⟨by rw [rk.len, hl]; exact hn, fun t ht => ?_⟩⟩
      subst ek
      have evs := reps_keys rk
      subst evs
      obtain ⟨a', ws', f1, f2, f3, f4⟩ := ev2.dct.1 i kvs hx
      rw [e1] at f1
      cases f1
      have sm : Same H2 (upd H2 t (.tup (kk.map kV))) := Same.new ht
      have ev3 := ev2.same sm
      have r3 := Rep.step (Step.of sm) ev2.Ool d v (Rep.step (ev1.stepO g2) ev1.Ool d v r)
      have gg := (g1.trans g2).trans (Gr.of sm)
      have f5 : DRep X.K (OO Oc σ ρ) (upd H2 t (.tup (kk.map kV))) kvs ws' := ⟨f4.1, Reps.step (Step.of sm) ev2.Ool _ _ f4.2⟩
      obtain ⟨ev4, fz4, fw4⟩ := EV.dctSet ev3 (fz.go gg) hx e1 (drep_put (k := kk) r3 f5)
      exact ⟨a, _, rfl, DPut.t (sm _ _ f2) upd_same (by rw [drep_len f4]; exact hz), k1 _ _ _ S2 ev4 fz4 ((ev.fw gg).trans fw4) q2⟩
    · exact hf.elim
end
end DL

namespace DL
open PySem PySem.Spec PyProof.Rows L2
/-! ### for y in zip(a, b): x[y] = True -/
def putZ (kvs : List (List Key × PyData)) : List Key → List Key → List (List Key × PyData)
  | a :: as, b :: bs => putZ (putD kvs [a, b] (.bool true)) as bs
  | _, _ => kvs
theorem putD_len (kvs : List (List Key × PyData)) (k : List Key) (d : PyData) : (putD kvs k d).length ≤ kvs.length + 1 := by
  unfold putD
  split
  · rw [List.length_map]; omega
  · rw [List.length_append, List.length_singleton]
    exact Nat.le_refl _
def sZipPut (i j : Nat) (fa fb : FE) : FS := fun ρ S B => match ρ[i]? with
  | some (.dct kvs) => ρ[j]? = some .un ∧ i ≠ j ∧ fa ρ S fun x S1 => fb ρ S1 fun y S2 => ∃ as bs : List Key, ((x = .list (as.map keyD) ∧ y = .list (bs.map keyD)) ∨ (x = .tuple (as.map keyD) ∧ y = .tuple (bs.map keyD))) ∧ kvs.length + as.length < sizeLine ∧ B.nx (ρ.set i (.dct (putZ kvs as bs))) S2
  | _ => False
theorem EV.unSet {K : Fr_} {Oc : AS} {w : List Addr} {σ : L2.St} {H : Hp} {ρ : Rho} {S : SW} (e : EV K Oc w σ H ρ S) {j : Nat} (hj : ρ[j]? = some .un) (v : Option V) : EV K Oc w (σ.set j v) H ρ S ∧ Tgt [j] σ (σ.set j v) ρ ρ := by
  have ne : ∀ {l : Nat} {y : Sl}, y ≠ .un → ρ[l]? = some y → j ≠ l := fun hy h z => by
    rw [← z, hj] at h
    cases h
    exact hy rfl
  have at' : ∀ {l : Nat} {y : Sl}, y ≠ .un → ρ[l]? = some y → (σ.set j v)[l]? = σ[l]? := fun hy h => List.getElem?_set_ne (ne hy h)
  refine ⟨e.less (by simp) rfl (fun l d h => ?_) (fun l xs h => ⟨h, at' (by intro z; cases z) h⟩) (fun l n h => ⟨h, at' (by intro z; cases z) h⟩) (fun l xs h => ⟨h, at' (by intro z; cases z) h⟩), ⟨by simp, fun l hl => ⟨List.getElem?_set_ne (fun z => hl (by simp [z])), rfl⟩, fun l xs h => ⟨h, at' (by intro z; cases z) h⟩, fun l xs h => ⟨h, at' (by intro z; cases z) h⟩⟩⟩
  obtain ⟨u, hu, r⟩ := e.dat l d h
  exact ⟨u, by rw [at' (by intro z; cases z) h]; exact hu, r⟩
/-- all but dicts stays -/
def Kp (H H' : Hp) : Prop := ∀ a u, (∀ ws, u ≠ .dT ws) → H a = some u → H' a = some u
theorem sq_kp {b : Bool} {K : Fr_} {H H' : Hp} {a : Addr} {xs : List V} (g : Kp H H') (h : SqS b K H a xs) : SqS b K H' a xs := by
  have rd : ∀ {u : HO}, (∀ ws, u ≠ .dT ws) → Rd H a u → Rd H' a u := fun n r => by
    rcases r with r | ⟨o, r⟩
    · exact .inl (g _ _ n r)
    · exact .inr ⟨o, g _ _ (fun ws z => nomatch z) r⟩
  cases b
  · rcases (show SqT K H a xs from h) with h | h
    · exact .inl (rd (fun ws z => nomatch z) h)
    · exact .inr h
  · rcases (show SqL K H a xs from h) with h | h
    · exact .inl (rd (fun ws z => nomatch z) h)
    · exact .inr h
theorem putZ_at : ∀ {as bs : List Key} {k : Nat} {kvs : List (List Key × PyData)} {a b : Key}, as[k]? = some a → bs[k]? = some b → putD (putZ kvs (as.take k) (bs.take k)) [a, b] (.bool true) = putZ kvs (as.take (k + 1)) (bs.take (k + 1))
  | _ :: _, _ :: _, 0, kvs, _, _, h, g => by cases h; cases g; simp [putZ]
  | _ :: as, _ :: bs, k + 1, kvs, a, b, h, g => by
    simp only [List.take_succ_cons, putZ]
    exact putZ_at h g
  | [], _, _, _, _, _, h, _ => by simp at h
  | _ :: _, [], _, _, _, _, _, g => by simp at g
theorem putZ_len : ∀ (as bs : List Key) (kvs : List (List Key × PyData)), (putZ kvs as bs).length ≤ kvs.length + as.length
  | a :: as, b :: bs, kvs => by
    have h1 := putZ_len as bs (putD kvs [a, b] (.bool true))
    have h2 := putD_len kvs [a, b] (.bool true)
    simp only [putZ, List.length_cons]
    omega
  | [], _, kvs => by simp [putZ]
  | _ :: _, [], kvs => by simp [putZ]
theorem putZ_min : ∀ (as bs : List Key) (kvs : List (List Key × PyData)), putZ kvs (as.take (min as.length bs.length)) (bs.take (min as.length bs.length)) = putZ kvs as bs
  | a :: as, b :: bs, kvs => by
    simp only [List.length_cons, Nat.succ_min_succ, List.take_succ_cons, putZ]
    exact putZ_min as bs _
  | [], bs, kvs => by simp [putZ]
  | a :: as, [], kvs => by simp [putZ]
section
variable {X : Cx} {e e2 : Expr} {pos p px py p1 p2 p3 pz ps pa : Pos} {fa fb : FE} {x y : Str} {jj : Nat}
theorem s_zipPut {k : Nat} (hr : RoomG k X.A) (i j : Nat) (hp : PassesOwn (model X.prog X.w) X.A X.env X.xe) (hc : X.calm = true) (hN : X.N.Nodup) (ha : PE X e (rd X.K fa)) (hb : PE X e2 (rd X.K fb)) (hm : X.mg "zip" = none) (hg : Gl X "zip" := by rfl)
    (hi : X.N[i]? = some x := by rfl) (hj : X.N[j]? = some y := by rfl) (hv : Vis X.env.scope x := by first | exact Or.inl rfl | exact Or.inr (Or.inl rfl) | exact Or.inr (Or.inr rfl)) (hd : (x == ("__debug__" : Str)) = false := by decide) (hcd : (x == ("__classdict__" : Str)) = false := by decide)
    (hv2 : Vis X.env.scope y := by first | exact Or.inl rfl | exact Or.inr (Or.inl rfl) | exact Or.inr (Or.inr rfl)) (hd2 : (y == ("__debug__" : Str)) = false := by decide) (hcd2 : (y == ("__classdict__" : Str)) = false := by decide)
    (hy : Loc X.env.scope y := by first | exact Or.inl rfl | exact Or.inr rfl) (hyf : X.fn y = true ∨ X.env.scope.names.lookup y = some .local := by first | exact .inl rfl | exact .inr rfl)
    (hs1 : starEach (e :: [e2]) X.env = (false, eval e X.env) :: starEach [e2] X.env := by rfl) (hs2 : starEach (e2 :: []) X.env = (false, eval e2 X.env) :: starEach [] X.env := by rfl)
    (hs : starEach [e, e2] X.env = (false, eval e X.env) :: starEach [e2] X.env := by rfl) (hpl : (backTo pz (starEach [e2] X.env)).any (·.1) = false := by rfl)
    (hsw : swapsWith (.Constant (.bool true) jj p3) (some (.Subscript (.Name x p1) (.Name y p2) ps)) pa.line X.env = pure false := by rfl) (hf : ∀ z, foldedSetIterable (.Call (.Name "zip" p) [e, e2] [] pz) X.env z = pure z := by intro _; rfl) :
    PS X (.For (.Name y py) (.Call (.Name "zip" p) [e, e2] [] pz) [.Assign [.Subscript (.Name x p1) (.Name y p2) ps] (.Constant (.bool true) jj p3) pa] [] pos) (rs X.K (sZipPut i j fa fb)) :=
  PS.imp (ps_for hp hc (pi_zipN hg hm (pa_cons ha (pa_cons hb pa_nil hs2) hs1) hs hpl) (pg_name (i := j) hN hj hy hyf) (pss_one (ps_dput (by have := hr.room.un; omega) (pe_var (i := i) hi hv hd hcd) (pe_var (i := j) hj hv2 hd2 hcd2) pe_bl hsw)) hf) fun D σ H ⟨Oc, w, H0, ρ, S, B, ev, fz, hf, k1, k2, k3, k4⟩ => by
    unfold sZipPut at hf
    split at hf
    · rename_i kvs hx
      obtain ⟨hun, hij, hf⟩ := hf
      refine ⟨Oc, w, ρ, S, _, ev, hf, fun d S1 v H1 ev1 g1 r h1 => ⟨Oc, w, ρ, S1, _, ev1, h1, fun d2 S2 u H2 ev2 g2 r2 ⟨as, bs, hrow, hz, q⟩ => ?_⟩⟩
      have r' := Rep.step (ev1.stepO g2) ev1.Ool d v r
      have rows : ∃ b a c, v = .ref a ∧ u = .ref c ∧ SqS b X.K H2 a (as.map kV) ∧ SqS b X.K H2 c (bs.map kV) := by
        rcases hrow with ⟨rfl, rfl⟩ | ⟨rfl, rfl⟩ <;> simp only [Rep] at r' r2
        · obtain ⟨a, vs, rfl, q1, rr⟩ := r'
          obtain ⟨c, us, rfl, q2, rr2⟩ := r2
          rw [reps_keys rr] at q1
          rw [reps_keys rr2] at q2
          exact ⟨true, a, c, rfl, rfl, q1.sq, q2.sq⟩
        · obtain ⟨a, vs, rfl, q1, rr⟩ := r'
          obtain ⟨c, us, rfl, q2, rr2⟩ := r2
          rw [reps_keys rr] at q1
          rw [reps_keys rr2] at q2
          exact ⟨false, a, c, rfl, rfl, q1, q2⟩
      obtain ⟨b, a, c, rfl, rfl, qa, qc⟩ := rows
      have gg := g1.trans g2
      refine ⟨b, a, c, _, _, rfl, qa, qc, ?_⟩
      have hil : i < ρ.length := (List.getElem?_eq_some_iff.mp hx).1
      have hjl : j < ρ.length := (List.getElem?_eq_some_iff.mp hun).1
      refine for_it (walk_zipN (n := min as.length bs.length) (by rw [List.length_map, List.length_map])) (fun m σ' H' => EV X.K Oc w σ' H' (ρ.set i (.dct (putZ kvs (as.take m) (bs.take m)))) S2 ∧ Fz w H0 σ' H' (ρ.set i (.dct (putZ kvs (as.take m) (bs.take m)))) ∧ Fw Oc σ ρ H σ' (ρ.set i (.dct (putZ kvs (as.take m) (bs.take m)))) H' ∧ Kp H2 H')
        ?_ (fun m σ' H' _ ⟨_, _, _, kp⟩ => ⟨sq_kp kp qa, sq_kp kp qc⟩) (fun m xx σ' H' H3 hlt ⟨ev', fz', fw', kp⟩ hy => ?_) (fun σ' H' ⟨ev', fz', fw', kp⟩ => ?_)
      · have e0 : ρ.set i (.dct (putZ kvs (as.take 0) (bs.take 0))) = ρ := by
          simp only [List.take_zero, putZ]
          exact List.ext_getElem? fun l => by
            by_cases hl : i = l
            · subst hl; rw [List.getElem?_set_self hil, hx]
            · rw [List.getElem?_set_ne hl]
        rw [e0]
        exact ⟨ev2, fz.go gg, ev.fw gg, fun _ _ _ h => h⟩
      · obtain ⟨T, x1, y1, rfl, hT, rfl, hx1, hy1⟩ := hy
        have ha1 : m < as.length := by omega
        have hb1 : m < bs.length := by omega
        have ea : as[m]? = some as[m] := List.getElem?_eq_getElem ha1
        have eb : bs[m]? = some bs[m] := List.getElem?_eq_getElem hb1
        replace hx1 : (as.map kV)[m]? = some x1 := hx1
        replace hy1 : (bs.map kV)[m]? = some y1 := hy1
        rw [List.getElem?_map, ea] at hx1
        rw [List.getElem?_map, eb] at hy1
        cases hx1
        cases hy1
        have hunk : (ρ.set i (.dct (putZ kvs (as.take m) (bs.take m))))[j]? = some .un := by rw [List.getElem?_set_ne hij]; exact hun
        have hik : (ρ.set i (.dct (putZ kvs (as.take m) (bs.take m))))[i]? = some (.dct (putZ kvs (as.take m) (bs.take m))) := List.getElem?_set_self hil
        have sm : Same H' (upd H' T (.tup ([as[m], bs[m]].map kV))) := Same.new hT
        have ev3 := ev'.same sm
        obtain ⟨ev4, t4⟩ := ev3.unSet hunk (some (.ref T))
        have fz4 := t4.fz (fz'.go (Gr.of sm))
        have fw4 := (fw'.trans (ev'.fw (Gr.of sm))).trans t4.fw
        obtain ⟨p', ws, e1, e2, e3, e4⟩ := ev4.dct.1 i _ hik
        have e1' := e1
        obtain ⟨ev5, fz5, fw5⟩ := EV.dctSet ev4 fz4 hik e1 (drep_put (k := [as[m], bs[m]]) (d := .bool true) (v := .bl true) (by simp only [Rep]) e4)
        have es : (ρ.set i (.dct (putZ kvs (as.take m) (bs.take m)))).set i (.dct (putD (putZ kvs (as.take m) (bs.take m)) [as[m], bs[m]] (.bool true))) = ρ.set i (.dct (putZ kvs (as.take (m + 1)) (bs.take (m + 1)))) := by
          rw [List.set_set, putZ_at ea eb]
        rw [es] at ev5 fz5 fw5
        have hjs : j < σ'.length := by
          have := ev'.len
          rw [List.length_set] at this
          omega
        have hlen : ws.length < sizeLine := by
          rw [drep_len e4]
          have := putZ_len (as.take m) (bs.take m) kvs
          rw [List.length_take] at this
          omega
        refine ⟨_, e1, .ref T, by rw [List.getElem?_set_self hjs], p', _, rfl, DPut.t e2 upd_same hlen, ev5, fz5, fw4.trans fw5, fun d u n h => ?_⟩
        have h' := kp d u n h
        have nT : d ≠ T := fun z => by rw [z, hT] at h'; cases h'
        have h2 : upd H' T (.tup ([as[m], bs[m]].map kV)) d = some u := by rw [upd_ne nT]; exact h'
        rw [upd_ne (fun z => n ws (by rw [z, e2] at h2; exact (Option.some.inj h2).symm))]
        exact h2
      · have en := putZ_min as bs kvs
        rw [en] at ev' fz' fw'
        exact k1 σ' H' _ S2 ev' fz' fw' q
    · exact hf.elim
end
/-! ### a list of one's own, lent -/

def fLend (i : Nat) (f : FE) : FE := fun ρ S R => match ρ[i]? with
  | some (.own xs) => f (ρ.set i (.dat (.list xs))) S fun d S' => noLst d = true ∧ R d S'
  | _ => False
theorem d_lend {X : Cx} {e : Expr} {f : FE} (i : Nat) (he : PE X e (rd X.K f)) : PE X e (rd X.K (fLend i f)) := PE.imp he fun σ H Q ⟨Oc, w, ρ, S, R, ev, hf, k⟩ => by
  unfold fLend at hf
  split at hf
  · rename_i xs hx
    obtain ⟨ev2, own, _⟩ := ev.frz hx
    exact ⟨Oc, w, _, S, _, ev2, hf, fun d S' v H' ev' g r ⟨nl, q⟩ => k d S' v H' (ev.go g ev'.ws) g (Rep.free d v nl r) q⟩
  · exact hf.elim
end DL

namespace DL
open PySem PySem.Spec PyProof.Rows L2 HT
/-! ### t[::k], t a tuple, k 1 or -1 -/
section
variable {prog : Program} {w : World} {A : Around} {E : Value → Shared → Prop} {s : Shared}
theorem fwd_places (n : Nat) : Builtin.Slice.slicePlaces 0 n 1 = n := by
  unfold Builtin.Slice.slicePlaces
  rw [if_pos (by decide)]
  split
  · rw [Int.ediv_one]
    omega
  · omega
theorem applied_fwd {sl : Addr} {u : Tok} {n : Nat} {Q : Int × Int × Nat → Shared → Prop} (hs : s.heap.IsSliceOf sl .none .none (.int 1 u)) (h : Q (0, 1, n) s) :
    wpAny (model prog w) A (Builtin.Slice.sliceApplied (.ref sl) (pure (n : Int))) Q E s := by
  obtain ⟨os, hos, hcs, hds⟩ := id hs
  unfold Builtin.Slice.sliceApplied Builtin.Slice.sliceFields
  refine wpAny_bind (wpAny_bind (wpAny_field hos hds (x := .none) rfl (wpAny_bind (wpAny_field hos hds (x := .none) rfl (wpAny_bind (wpAny_field hos hds (x := .int 1 u) rfl (wpAny_pure ?_)))))))
  refine wpAny_bind (slicePart_int ?_)
  show wpAny _ _ (if ((1 : Int) == 0) = true then _ else _) _ _ s
  rw [if_neg (by decide)]
  refine wpAny_bind (slicePart_none (wpAny_bind (slicePart_none (wpAny_bind (wpAny_pure ?_)))))
  show wpAny _ _ (pure ((0 : Int), (1 : Int), Builtin.Slice.slicePlaces 0 n 1)) _ _ s
  rw [fwd_places]
  exact wpAny_pure h
theorem tuple_fwd {t sl : Addr} {items : Array Value} {u : Tok} {Q : Value → Shared → Prop} (ht : IsTup s.heap t items) (hs : s.heap.IsSliceOf sl .none .none (.int 1 u))
    (h : Q (.ref t) s) : wpAny (model prog w) A (getItem (.ref t) (.ref sl)) Q E s := by
  obtain ⟨os, hos, hcs, hds⟩ := id hs
  have hTs : s.TypeIs (.ref sl) "slice" := ⟨os, hos, hcs⟩
  unfold getItem
  try with_reducible refine wpAny_holding ?_
  first | refine wpAny_bind (wpAny_pure ?_) | skip
  refine wpAny_bind (wpAny_sequenceKey ht.typeIs (by decide) (wpAny_bind (wpAny_callSpecial?_slot (name := Str.ofString "__getitem__") ht.typeIs PyProof.Rows.slot_tuple_getitem
    (wpAny_call_entry PyProof.Rows.slot_tuple_getitem ht.typeIs entry_tuple_getitem ?_ (args_tuple_getitem _ _)))))
  show wpAny _ _ (Builtin.Tuple.tupleItemsOf (.ref t) >>= _) _ _ s
  refine wpAny_bind (tupleItemsOf_ ht (wpAny_bind (wpAny_typeOf hTs ?_)))
  rw [if_pos (by decide)]
  refine wpAny_bind (applied_fwd hs ?_)
  show wpAny _ _ (if ((0 : Int) == 0 && (1 : Int) == 1 && items.size == items.size) = true then _ else _) _ _ s
  rw [if_pos (by simp)]
  refine wpAny_bind (m := Builtin.Tuple.tupleIsExact _) ?_
  unfold Builtin.Tuple.tupleIsExact
  refine wpAny_bind (wpAny_typeOf ht.typeIs (wpAny_pure ?_))
  rw [if_pos (by decide)]
  refine wpAny_bind (wpAny_rule ?_)
  first
    | exact wpAny_bind (wpAny_pure ⟨_, rfl, wpAny_pure h⟩)
    | exact wpAny_bind (wpAny_pure (wpAny_pure ⟨_, rfl, wpAny_pure h⟩))
    | exact wpAny_pure ⟨_, rfl, wpAny_pure h⟩
end
section
variable {X : Cx} {e g : Expr} {pos p2 : Pos} {te tg : TE} {f fg : FE}
def tStep (K : Fr_) (te tg : TE) : TE := fun σ H Q => te σ H fun x H1 => tg σ H1 fun y H2 => ∃ a xs, x = .ref a ∧ SqT K H2 a xs ∧ ((y = .int 1 ∧ Q (.ref a) H2) ∨ (y = .int (-1) ∧ ∀ p, H2 p = none → Q (.ref p) (upd H2 p (.tup xs.reverse))))
theorem pe_step (he : PE X e te) (hg : PE X g tg) : PE X (.Subscript e (.Slice none none (some g) p2) pos) (tStep X.K te tg) := by
  refine ⟨fun pins s σ H Q I h => Subscript_ (thn (he.run pins s σ H _ I h) fun v s1 ⟨x, H1, I1, r1, q1⟩ => ?_)⟩
  refine wpAny_Slice ?_
  rw [evalPart_none]
  refine wpAny_pure (wpAny_pure ?_)
  rw [evalPart_some]
  refine thn (hg.run pins s1 σ H1 _ I1 q1) ?_
  rintro u s2 ⟨y, H2, I2, ry, a, xs, rfl, hx, q⟩
  cases r1
  rcases q with ⟨rfl, q⟩ | ⟨rfl, q⟩
  · obtain ⟨t, rfl⟩ := ry
    have I3 : Inv X pins σ H2 { s2 with heap := s2.heap.push { cls := .type "slice", data := .fields #[.none, .none, .int 1 t] } } := I2.kept (t' := s2.toks) fun b ob q => Heap.get?_push_of_some _ q
    obtain ⟨its, r, ht, hz⟩ := I3.tuple hx
    refine tail_any (T := "tuple") (ops := [.ref a, .ref s2.heap.objs.size]) ht.typeIs PyProof.Rows.slot_tuple_getitem.lookup ?_ (by with_unfolding_all rfl)
    exact tuple_fwd ht (Heap.IsSliceOf.new ..) ⟨.ref a, _, I3, rfl, q⟩
  · obtain ⟨t, rfl⟩ := ry
    have I3 : Inv X pins σ H2 { s2 with heap := s2.heap.push { cls := .type "slice", data := .fields #[.none, .none, .int (-1) t] } } := I2.kept (t' := s2.toks) fun b ob q => Heap.get?_push_of_some _ q
    obtain ⟨its, r, ht, hz⟩ := I3.tuple hx
    have hl := r.length
    refine tail_any (T := "tuple") (ops := [.ref a, .ref s2.heap.objs.size]) ht.typeIs PyProof.Rows.slot_tuple_getitem.lookup ?_ (by with_unfolding_all rfl)
    refine tuple_back ht (Heap.IsSliceOf.new ..) ?_ (by rw [List.size_toArray, ← hl]; exact hz)
    refine ⟨.ref _, _, I3.laid (t' := s2.toks) (o := .tup xs.reverse) (fun b ob q => Heap.get?_push_of_some _ q) (Nat.le_refl _) ?_, rfl, q _ (I3.hok.fresh (Nat.le_refl _))⟩
    exact ⟨by rw [List.length_reverse]; exact hz, _, r.reverse, IsTup.new _ _⟩
def oStep : O2 := fun x y R => match x, y with
  | .tuple ds, .int k => (k = 1 ∧ R (.tuple ds)) ∨ (k = -1 ∧ R (.tuple ds.reverse))
  | _, _ => False
theorem d_step (he : PE X e (rd X.K f)) (hg : PE X g (rd X.K fg)) : PE X (.Subscript e (.Slice none none (some g) p2) pos) (rd X.K (fOp oStep f fg)) := PE.imp (pe_step he hg) fun σ H Q ⟨Oc, w, ρ, S, R, ev, hf, k⟩ =>
  ⟨Oc, w, ρ, S, _, ev, hf, fun d S1 v H1 ev1 g1 r h1 => ⟨Oc, w, ρ, S1, _, ev1, h1, fun d2 S2 u H2 ev2 g2 r2 h2 => by
    have r' := Rep.step (ev1.stepO g2) ev1.Ool d v r
    unfold oStep at h2
    split at h2
    · rename_i ds kk
      have r0 := r'
      simp only [Rep] at r' r2
      obtain ⟨a, vs, rfl, q1, rr⟩ := r'
      refine ⟨a, vs, rfl, q1, ?_⟩
      rcases h2 with ⟨rfl, h2⟩ | ⟨rfl, h2⟩
      · exact .inl ⟨r2, k _ S2 _ H2 ev2 (g1.trans g2) r0 h2⟩
      · exact .inr ⟨r2, fun t ht => k _ S2 _ _ (ev2.same (Same.new ht)) ((g1.trans g2).trans (Gr.of (Same.new ht))) (rep_tup ev2.Ool ht rr.back) h2⟩
    · exact h2.elim⟩⟩
end
end DL

namespace DL
open PySem PySem.Spec PyProof.Rows L2
/-! ### [e for x in a for y in b] -/
/-- slots forgotten -/
theorem EV.wiped {K : Fr_} {Oc : AS} {w : List Addr} {σ : L2.St} {H : Hp} {ρ : Rho} {S : SW} (e : EV K Oc w σ H ρ S) (vs : List Nat) : EV K Oc w (wipe σ vs) H (rwipe ρ vs) S ∧ ∀ a, OO Oc (wipe σ vs) (rwipe ρ vs) a → OO Oc σ ρ a := by
  have inn : ∀ {j : Nat} {x : Sl}, x ≠ .un → (rwipe ρ vs)[j]? = some x → ρ[j]? = some x ∧ (wipe σ vs)[j]? = σ[j]? := fun {j x} hx h => by
    by_cases hj : j ∈ vs
    · rcases rwipe_in (ρ := ρ) hj with z | z
      · rw [z] at h; cases h; exact absurd rfl hx
      · rw [z] at h; cases h
    · exact ⟨by rw [← rwipe_out hj]; exact h, wipe_out hj⟩
  refine ⟨e.less (by rw [wipe_length]) (by rw [rwipe_len]) (fun j d h => ?_) (fun j xs h => inn (by intro z; cases z) h) (fun j n h => inn (by intro z; cases z) h) (fun j xs h => inn (by intro z; cases z) h), ?_⟩
  · obtain ⟨t1, t2⟩ := inn (by intro z; cases z) h
    obtain ⟨v, hv, r⟩ := e.dat j d t1
    exact ⟨v, t2.trans hv, r⟩
  · rintro a (h | ⟨j, xs, h1, h2⟩)
    · exact .inl h
    · obtain ⟨t1, t2⟩ := inn (by intro z; cases z) h1
      exact .inr ⟨j, xs, t1, by rw [← t2]; exact h2⟩
/-- slots as they were but those of vs, forgotten -/
theorem EV.backTo {K : Fr_} {Oc : AS} {w : List Addr} {σ σ' : L2.St} {H : Hp} {ρ ρ' : Rho} {S : SW} {vs : List Nat} (e : EV K Oc w σ' H ρ' S) (l1 : σ'.length = σ.length) (l2 : ρ'.length = ρ.length) (h : ∀ j, j ∉ vs → σ'[j]? = σ[j]? ∧ ρ'[j]? = ρ[j]?) : EV K Oc w (wipe σ vs) H (rwipe ρ vs) S := by
  have e1 : wipe σ vs = wipe σ' vs := (wipe_eq l1 fun j hj => (h j hj).1).symm
  have e2 : rwipe ρ vs = rwipe ρ' vs := by
    refine List.ext_getElem? fun j => ?_
    by_cases hj : j ∈ vs
    · by_cases hk : j < ρ.length
      · rcases rwipe_in (ρ := ρ) hj with z | z
        · rcases rwipe_in (ρ := ρ') hj with z' | z'
          · rw [z, z']
          · rw [List.getElem?_eq_none_iff, rwipe_len] at z'
            omega
        · rw [List.getElem?_eq_none_iff, rwipe_len] at z
          omega
      · rw [List.getElem?_eq_none (by rw [rwipe_len]; omega), List.getElem?_eq_none (by rw [rwipe_len]; omega)]
    · rw [rwipe_out hj, rwipe_out hj, (h j hj).2]
  rw [e1, e2]
  exact (e.wiped vs).1
def lc2In (fg : FG) (fe : FE) (ρ : Rho) : List PyData → List PyData → SW → (List PyData → SW → Prop) → Prop
  | [], acc, S, T => T acc S
  | d :: ds, acc, S, T => fg ρ d fun ρ' => fe ρ' S fun y S1 => acc.length < sizeLine ∧ lc2In fg fe ρ ds (acc ++ [y]) S1 T
def lc2Go (fg : FG) (fi1 : FI) (vs1 : List Nat) (fg1 : FG) (fe : FE) (ρ : Rho) : List PyData → List PyData → SW → (List PyData → SW → Prop) → Prop
  | [], acc, S, T => T acc S
  | d :: ds, acc, S, T => fg ρ d fun ρ' => fi1 ρ' S fun es S1 => lc2In fg1 fe (rwipe ρ' vs1) es acc S1 fun acc' S2 => lc2Go fg fi1 vs1 fg1 fe ρ ds acc' S2 T
def fLc2 (fi : FI) (vs : List Nat) (fg : FG) (fi1 : FI) (vs1 : List Nat) (fg1 : FG) (fe : FE) : FE := fun ρ S R => fi ρ S fun ds S1 => notOwn ρ vs ∧ lc2Go fg fi1 vs1 fg1 fe (rwipe ρ vs) ds [] S1 fun out S2 => R (.list out) S2
theorem rd_lc2 {K : Fr_} {fi fi1 : FI} {vs vs1 is is1 : List Nat} {fg fg1 : FG} {fe : FE} (hv : ∀ j ∈ vs1, j ∈ vs) (his : ∀ j ∈ is, j ∈ vs) (his1 : ∀ j ∈ is1, j ∈ vs1) : ∀ σ H Q, rn K (fLc2 fi vs fg fi1 vs1 fg1 fe) σ H Q →
    tLc2 (ric K fi) (rg K is fg) (rt K (fC (.bool true))) (rif K fi1) (rg K is1 fg1) (rt K (fC (.bool true))) (rd K fe) vs vs1 σ H Q := by
  rintro σ H Q ⟨Oc, w, ρ, S, R, ev, hf, k⟩
  refine ⟨Oc, w, ρ, S, _, ev, hf, fun ds S1 J H1 ev1 g1 it ⟨no, h1⟩ D hD => ?_⟩
  obtain ⟨G, Y, wk, hG⟩ := it.ex
  have hwD : D ∉ w := fun z => by
    obtain ⟨u, h1, _⟩ := ev1.ws.there z
    rw [hD] at h1
    cases h1
  have same0 : ∀ j, j ∉ vs → (wipe σ vs)[j]? = σ[j]? ∧ (rwipe ρ vs)[j]? = ρ[j]? := fun j hj => ⟨wipe_out hj, rwipe_out hj⟩
  have oo2 : ∀ a, OO (With Oc D) (wipe σ vs) (rwipe ρ vs) a → OO Oc σ ρ a ∨ H1 a = none := by
    rintro a ((h1 | h1) | ⟨i, xs, h1, h2⟩)
    · exact .inl (.inl h1)
    · exact .inr (by rw [h1]; exact hD)
    · by_cases hi : i ∈ vs
      · rcases rwipe_in (ρ := ρ) hi with z | z <;> (rw [z] at h1; cases h1)
      · rw [rwipe_out hi] at h1
        rw [wipe_out hi] at h2
        exact .inl (.inr ⟨i, xs, h1, h2⟩)
  let Pv : Nat → Hp → Prop := fun i H' => ∃ acc va S2, EV K (With Oc D) w (wipe σ vs) H' (rwipe ρ vs) S2 ∧ Gr w H1 H' ∧ H' D = some (.lst va) ∧ Reps K (With (OO Oc σ ρ) D) H' acc va ∧ lc2Go fg fi1 vs1 fg1 fe (rwipe ρ vs) (ds.drop i) acc S2 fun out S3 => R (.list out) S3
  refine ⟨fun i m H => m = ds.length - i ∧ i ≤ ds.length ∧ Pv i H, ⟨ds.length, by simp, Nat.zero_le _, [], [], S1, ev1.block hD, Gr.of (Same.new hD), upd_same, by simp only [Reps], h1⟩, ?_⟩
  rintro i m H' ⟨rfl, hi, acc, va, S2, ev2, g2, hDv, ra, hgo⟩
  have hGG := hG _ H' ev2.Ool oo2 g2
  rcases Nat.lt_or_ge i ds.length with hlt | hge
  · refine .inr ⟨wk.goes i H' hlt hGG.1, Pv (i + 1), fun H'' p => ⟨ds.length - (i + 1), by omega, rfl, by omega, p⟩, fun x H3 hy => ?_⟩
    obtain ⟨d, hd, sm, rx⟩ := hGG.2 i x H3 (wk.yields i H' x H3 hlt hGG.1 hy) hlt
    rw [List.drop_eq_getElem_cons hlt] at hgo
    rw [List.getElem?_eq_getElem hlt] at hd
    cases hd
    have ev3 := ev2.same sm
    refine ⟨_, w, _, S2, _, _, ev3, rx, hgo, fun σ2 ρ2 ev4 tg q4 => ?_⟩
    have agree : ∀ j, j ∉ vs → σ2[j]? = σ[j]? ∧ ρ2[j]? = ρ[j]? := fun j hj => by
      obtain ⟨t1, t2⟩ := tg.at' j fun z => hj (his j z)
      obtain ⟨s1, s2⟩ := same0 j hj
      exact ⟨t1.trans s1, t2.trans s2⟩
    have len2 : σ2.length = σ.length := by rw [tg.len, wipe_length]
    refine ⟨wipe_eq len2 fun j hj => (agree j hj).1, _, w, ρ2, S2, fun b S' => b = true ∧ fi1 ρ2 S' fun es S1 => lc2In fg1 fe (rwipe ρ2 vs1) es acc S1 fun acc' S2 => lc2Go fg fi1 vs1 fg1 fe (rwipe ρ vs) (ds.drop (i + 1)) acc' S2 fun out S3 => R (.list out) S3, ev4, ⟨rfl, q4⟩, fun b S3 H4 ev5 g5 ⟨eb, q5⟩ => ?_⟩
    subst eb
    refine iteT ?_
    refine ⟨_, w, ρ2, S3, _, ev5, q5, fun es S4 J1 H5 ev6 g6 it1 q6 => ?_⟩
    obtain ⟨G1, Y1, wk1, hG1⟩ := it1.ex
    obtain ⟨evI, ooI⟩ := ev6.wiped vs1
    have gA : Gr w H' H5 := ((Gr.of sm).trans g5).trans g6
    have hD5 : H5 D = some (.lst va) := gA _ _ hwD hDv
    have wOc : ∀ a, a ∈ w → With Oc D a := ev6.wo
    have stR : ∀ {Ha Hb : Hp}, Gr w Ha Hb → Step (With (OO Oc σ ρ) D) Ha Hb := fun g a u n h => g a u (fun z => n (.inl (.inl (ev1.wo a z)))) h
    have olR : OL (With (OO Oc σ ρ) D) H' := fun a z => ev2.Ool a (notOwn.oo no same0 a z)
    have ra5 := Reps.step (stR gA) olR acc va ra
    have agI : ∀ j, j ∉ vs → (wipe σ2 vs1)[j]? = σ[j]? ∧ (rwipe ρ2 vs1)[j]? = ρ[j]? := fun j hj => by
      have hj1 : j ∉ vs1 := fun z => hj (hv j z)
      exact ⟨(wipe_out hj1).trans (agree j hj).1, (rwipe_out hj1).trans (agree j hj).2⟩
    let Pi : Nat → Hp → Prop := fun j H' => ∃ acc va S', EV K (With Oc D) w (wipe σ2 vs1) H' (rwipe ρ2 vs1) S' ∧ Gr w H1 H' ∧ H' D = some (.lst va) ∧ Reps K (With (OO Oc σ ρ) D) H' acc va ∧ Step (OO (With Oc D) σ2 ρ2) H5 H' ∧ lc2In fg1 fe (rwipe ρ2 vs1) (es.drop j) acc S' fun acc' S2 => lc2Go fg fi1 vs1 fg1 fe (rwipe ρ vs) (ds.drop (i + 1)) acc' S2 fun out S3 => R (.list out) S3
    refine ⟨fun j m H => m = es.length - j ∧ j ≤ es.length ∧ Pi j H, ⟨es.length, by simp, Nat.zero_le _, acc, va, S4, evI, g2.trans gA, hD5, ra5, fun _ _ _ h => h, q6⟩, ?_⟩
    rintro j m' H6 ⟨rfl, hj, acc1, va1, S5, evJ, gJ, hDJ, raJ, stJ, hgJ⟩
    have hGJ := hG1 _ H6 evJ.Ool (fun a z => .inl (ooI a z)) stJ
    rcases Nat.lt_or_ge j es.length with hlj | hgej
    · refine .inr ⟨wk1.goes j H6 hlj hGJ.1, Pi (j + 1), fun H'' p => ⟨es.length - (j + 1), by omega, rfl, by omega, p⟩, fun x1 H7 hy1 => ?_⟩
      obtain ⟨d1, hd1, sm1, rx1⟩ := hGJ.2 j x1 H7 (wk1.yields j H6 x1 H7 hlj hGJ.1 hy1) hlj
      rw [List.drop_eq_getElem_cons hlj] at hgJ
      rw [List.getElem?_eq_getElem hlj] at hd1
      cases hd1
      have ev7 := evJ.same sm1
      refine ⟨_, w, _, S5, _, _, ev7, rx1, hgJ, fun σ3 ρ3 ev8 tg1 q8 => ?_⟩
      have len3 : σ3.length = σ2.length := by rw [tg1.len, wipe_length]
      have ag1 : ∀ l, l ∉ vs1 → σ3[l]? = σ2[l]? ∧ ρ3[l]? = ρ2[l]? := fun l hl => by
        obtain ⟨t1, t2⟩ := tg1.at' l fun z => hl (his1 l z)
        exact ⟨t1.trans (wipe_out hl), t2.trans (rwipe_out hl)⟩
      have ag3 : ∀ l, l ∉ vs → σ3[l]? = σ[l]? ∧ ρ3[l]? = ρ[l]? := fun l hl => by
        obtain ⟨t1, t2⟩ := ag1 l fun z => hl (hv l z)
        exact ⟨t1.trans (agree l hl).1, t2.trans (agree l hl).2⟩
      refine ⟨wipe_eq len3 fun l hl => (ag1 l hl).1, _, w, ρ3, S5, fun b S' => b = true ∧ fe ρ3 S' fun y S1 => acc1.length < sizeLine ∧ lc2In fg1 fe (rwipe ρ2 vs1) (es.drop (j + 1)) (acc1 ++ [y]) S1 fun acc' S2 => lc2Go fg fi1 vs1 fg1 fe (rwipe ρ vs) (ds.drop (i + 1)) acc' S2 fun out S3 => R (.list out) S3, ev8, ⟨rfl, q8⟩, fun b S6 H8 ev9 g9 ⟨eb1, q9⟩ => ?_⟩
      subst eb1
      refine iteT ?_
      refine ⟨_, w, ρ3, S6, _, ev9, q9, fun y S7 vy H9 ev10 g10 ry ⟨hlen, q10⟩ => ?_⟩
      have gB : Gr w H6 H9 := ((Gr.of sm1).trans g9).trans g10
      have hD9 : H9 D = some (.lst va1) := gB _ _ hwD hDJ
      have olJ : OL (With (OO Oc σ ρ) D) H6 := fun a z => evJ.Ool a (notOwn.oo no agI a z)
      have ol9 : OL (With (OO Oc σ ρ) D) H9 := fun a z => ev10.Ool a (notOwn.oo no ag3 a z)
      have ra9 := Reps.step (stR gB) olJ acc1 va1 raJ
      have ry9 : Rep K (With (OO Oc σ ρ) D) H9 y vy := Rep.less (notOwn.oo no ag3) y vy ry
      have st9 : Step (With (OO Oc σ ρ) D) H9 (upd H9 D (.lst (va1 ++ [vy]))) := fun a u n h => by rw [upd_ne (fun z => n (.inr z))]; exact h
      have ev11 := (ev10.backTo (vs := vs1) len3 (by rw [ev10.len, ev6.len, len3]) ag1).mut (p := D) (o := .lst (va1 ++ [vy])) (.inr rfl) hwD trivial (fun ws z => by rw [hD9] at z; cases z)
      refine ⟨va1, hD9, by rw [ra9.len]; exact hlen, acc1 ++ [y], va1 ++ [vy], S7, ev11, fun a u n h => ?_, upd_same, Reps.step st9 ol9 _ _ (ra9.app (by simp only [Reps]; exact ⟨vy, [], rfl, ry9, rfl⟩)), fun a u n h => ?_, q10⟩
      · have hne : a ≠ D := fun z => by rw [z, hD] at h; cases h
        rw [upd_ne hne]
        exact (gJ.trans gB) a u n h
      · have hne : a ≠ D := fun z => n (.inl (.inr z))
        rw [upd_ne hne]
        exact gB a u (fun z => n (.inl (wOc a z))) (stJ a u n h)
    · have e : j = es.length := by omega
      subst e
      rw [List.drop_eq_nil_of_le (Nat.le_refl _)] at hgJ
      refine .inl ⟨wk1.stops H6 hGJ.1, acc1, va1, S5, ?_, gJ, hDJ, raJ, hgJ⟩
      exact evJ.backTo (vs := vs) (by rw [wipe_length, len2]) (by rw [rwipe_len, ev6.len, len2, ← ev.len]) agI
  · have e : i = ds.length := by omega
    subst e
    rw [List.drop_eq_nil_of_le (Nat.le_refl _)] at hgo
    exact .inl ⟨wk.stops H' hGG.1, k acc S2 D va H' (ev1.go g2 ev2.ws) (g1.trans g2) (free_of ev1 g1 hD) hDv ra hgo⟩
section
variable {X : Cx} {elt tg iter tg1 iter1 : Expr} {scope : Scope} {own : List (Str × Nat)} {pos : Pos} {fi fi1 : FI} {fg fg1 : FG} {fe : FE} {is is1 vs1 : List Nat}
theorem n_lc2 (hc : X.calm = true) (hN : X.N.Nodup) (hi : PI X tg iter (ric X.K fi)) (ok : BlkOk X.N X.env.scope scope own) (hv : ∀ i ∈ vs1, i ∈ own.map (·.2)) (his : ∀ j ∈ is, j ∈ own.map (·.2)) (his1 : ∀ j ∈ is1, j ∈ vs1)
    (hg : ∀ (s : Shared) (H : Hp) (C : Addr) (cl : List (Str × Addr)) (fp : List Addr), PG (X.blk s H scope (compEnvC scope cl C X.env) fp) tg (rg X.K is fg)) (hi1 : ∀ (s : Shared) (H : Hp) (C : Addr) (cl : List (Str × Addr)) (fp : List Addr), PI (X.blk s H scope (compEnvC scope cl C X.env) fp) tg1 iter1 (rif X.K fi1))
    (hg1 : ∀ (s : Shared) (H : Hp) (C : Addr) (cl : List (Str × Addr)) (fp : List Addr), PG (X.blk s H scope (compEnvC scope cl C X.env) fp) tg1 (rg X.K is1 fg1)) (he : ∀ (s : Shared) (H : Hp) (C : Addr) (cl : List (Str × Addr)) (fp : List Addr), PE (X.blk s H scope (compEnvC scope cl C X.env) fp) elt (rd X.K fe))
    (hs : ∀ x, foldedSetIterable iter X.env x = pure x := by intro _; rfl) (hs1 : ∀ env x, foldedSetIterable iter1 env x = pure x := by intro _ _; rfl) :
    PE X (.ListComp elt [⟨tg, iter, [], 0⟩, ⟨tg1, iter1, [], 0⟩] scope pos) (rn X.K (fLc2 fi (own.map (·.2)) fg fi1 vs1 fg1 fe)) :=
  PE.imp (pe_lc2 hc hN hi ok hv hg (fun _ _ _ _ _ => p_nil) hi1 hg1 (fun _ _ _ _ _ => p_nil) he hs hs1) (rd_lc2 hv his his1)
end
end DL

namespace DL
open PySem L2 PyProof.Rows
/-! ### how long it is what repr shows -/
structure Lg (n N : Nat) (d : PyData) : Prop where
  lay : d.canLay0 = true
  sh : d.showable = true
  dp : d.depth ≤ n
  ln : d.shown.length ≤ N
structure LgAll (n N : Nat) (ds : List PyData) : Prop where
  lay : PyData.canLayAll0 ds = true
  sh : PyData.showableAll ds = true
  dp : PyData.depthAll ds ≤ n
  ln : ((PyData.shownAll ds).map (·.length)).sum + 2 * ds.length ≤ N
theorem Lg.up {n m N M : Nat} {d : PyData} (h : Lg n N d) (h1 : n ≤ m) (h2 : N ≤ M) : Lg m M d := ⟨h.lay, h.sh, Nat.le_trans h.dp h1, Nat.le_trans h.ln h2⟩
theorem LgAll.up {n N M : Nat} {ds : List PyData} (h : LgAll n N ds) (h2 : N ≤ M) : LgAll n M ds := ⟨h.lay, h.sh, h.dp, Nat.le_trans h.ln h2⟩
theorem Lg.ok {n N : Nat} {d : PyData} (h : Lg n N d) (hn : n ≤ 60) (hN : N ≤ 16777216) : showOk d :=
  ⟨h.lay, h.sh, Nat.le_trans h.dp hn, by rw [sizeLine_eq]; exact Nat.le_trans h.ln hN⟩
theorem Lg.bool {n : Nat} {b : Bool} : Lg n 5 (.bool b) := ⟨rfl, rfl, by simp [PyData.depth], by cases b <;> decide⟩
theorem Lg.int {k n : Nat} {i : Int} (hk : k < 1920) (h : i.natAbs < 2 ^ k) : Lg n (k + 2) (.int i) := by
  have l : i.natAbs.log2 < k + 1 := by
    by_cases z : i.natAbs = 0
    · rw [z]; simp
    · have := (Nat.log2_lt z).mpr h
      omega
  refine ⟨rfl, ?_, by simp [PyData.depth], ?_⟩
  · simp only [PyData.showable, decide_eq_true_eq]
    omega
  · simp only [PyData.shown]
    have := int_text_length_le (a := i) (by omega) l
    have e : (Str.ofString (toString i)).length = (toString i).length := by rw [PySem.ofString_length]
    have e2 : (PySem.Str.ofString (toString i)).length ≤ k + 2 := by omega
    exact e2
theorem LgAll.nil {n : Nat} : LgAll n 0 [] := ⟨rfl, rfl, by simp [PyData.depthAll], by simp [PyData.shownAll]⟩
theorem LgAll.cons {n N M : Nat} {d : PyData} {ds : List PyData} (h : Lg n N d) (t : LgAll n M ds) : LgAll n (N + 2 + M) (d :: ds) := by
  refine ⟨?_, ?_, ?_, ?_⟩
  · simp only [PyData.canLayAll0, h.lay, t.lay, Bool.and_self]
  · simp only [PyData.showableAll, h.sh, t.sh, Bool.and_self]
  · simp only [PyData.depthAll]
    have := h.dp
    have := t.dp
    omega
  · simp only [PyData.shownAll, List.map_cons, List.sum_cons, List.length_cons]
    have := h.ln
    have := t.ln
    omega
theorem LgAll.of {n N : Nat} : ∀ {ds : List PyData}, (∀ d ∈ ds, Lg n N d) → LgAll n ((N + 2) * ds.length) ds
  | [], _ => .nil
  | d :: ds, h => by
    have e : (N + 2) * (d :: ds).length = N + 2 + (N + 2) * ds.length := by rw [List.length_cons, Nat.mul_add, Nat.mul_one, Nat.add_comm]
    rw [e]
    exact .cons (h d (by simp)) (LgAll.of fun x hx => h x (List.mem_cons_of_mem d hx))
theorem Lg.tup {n N : Nat} {ds : List PyData} (h : LgAll n N ds) : Lg (n + 1) (N + 3) (.tuple ds) := by
  refine ⟨?_, ?_, ?_, ?_⟩
  · simpa only [PyData.canLay0] using h.lay
  · simpa only [PyData.showable] using h.sh
  · simp only [PyData.depth]
    have := h.dp
    omega
  · simp only [PyData.shown]
    have a := tupleText_len_le (PyData.shownAll ds)
    have b := PyData.shownAll_length ds
    have := h.ln
    omega
theorem Lg.lst {n N : Nat} {ds : List PyData} (h : LgAll n N ds) : Lg (n + 1) (N + 3) (.list ds) := by
  refine ⟨?_, ?_, ?_, ?_⟩
  · simpa only [PyData.canLay0] using h.lay
  · simpa only [PyData.showable] using h.sh
  · simp only [PyData.depth]
    have := h.dp
    omega
  · simp only [PyData.shown]
    have a := listText_len_le (PyData.shownAll ds)
    have b := PyData.shownAll_length ds
    have := h.ln
    omega
theorem Lg.shaped {n N : Nat} {d : PyData} (h : Lg n N d) (hn : n ≤ 60) : SeqAt.shaped d = true := by
  simp only [SeqAt.shaped, Bool.and_eq_true, decide_eq_true_eq]
  exact ⟨h.lay, by have := h.dp; omega⟩
end DL

namespace DL
open PySem L2 PyProof.Rows
/-! ### more rules, one head at a time -/
theorem w_forE {fi : FI} {fg : FG} {gb : FS} {ρ : Rho} {S : SW} {B : Out} (h : fi ρ S fun ds S1 => forGo fg gb ds ρ S1 B) : sFor fi fg gb ρ S B := h
theorem w_fiT {f : FE} {ρ : Rho} {S : SW} {T : List PyData → SW → Prop} (h : f ρ S fun d S1 => match d with | .tuple ds => T ds S1 | _ => False) : fiT f ρ S T := h
theorem w_fiL {f : FE} {ρ : Rho} {S : SW} {T : List PyData → SW → Prop} (h : f ρ S fun d S1 => match d with | .list ds => T ds S1 | _ => False) : fiL f ρ S T := h
theorem w_fiE {f : FE} {ρ : Rho} {S : SW} {T : List PyData → SW → Prop} (h : f ρ S fun d S1 => match rowD d with | some ds => T (enumD 0 ds) S1 | none => False) : fiE f ρ S T := h
theorem w_lst0 {ρ : Rho} {S : SW} {Q : PyData → SW → Prop} (h : Q (.list []) S) : fLst fNil ρ S Q := h
theorem lc2_cons {i : Nat} {f fe : FE} {vs1 : List Nat} {fg1 : FG} {d : PyData} {ds acc : List PyData} {ρ : Rho} {S : SW} {T : List PyData → SW → Prop} (h : f (ρ.set i (.dat d)) S fun x S1 => (match x with | .tuple es => lc2In fg1 fe (rwipe (ρ.set i (.dat d)) vs1) es acc S1 fun acc' S2 => lc2Go (gNm i) (fiT f) vs1 fg1 fe ρ ds acc' S2 T | _ => False)) :
    lc2Go (gNm i) (fiT f) vs1 fg1 fe ρ (d :: ds) acc S T := h
theorem lc2In_cons {i : Nat} {fe : FE} {d : PyData} {ds acc : List PyData} {ρ : Rho} {S : SW} {T : List PyData → SW → Prop} (h : fe (ρ.set i (.dat d)) S fun y S1 => acc.length < sizeLine ∧ lc2In (gNm i) fe ρ ds (acc ++ [y]) S1 T) : lc2In (gNm i) fe ρ (d :: ds) acc S T := h
theorem lc2In_nil {fg : FG} {fe : FE} {acc : List PyData} {ρ : Rho} {S : SW} {T : List PyData → SW → Prop} (h : T acc S) : lc2In fg fe ρ [] acc S T := h
theorem w_goP {i j : Nat} {gb : FS} {a b : PyData} {ds : List PyData} {ρ : Rho} {S : SW} {B : Out} (h : gb ((ρ.set i (.dat a)).set j (.dat b)) S { nx := fun ρ2 S2 => forGo (gTp 2 (gsCons (gNm i) (gsCons (gNm j) gsNil))) gb ds ρ2 S2 B, rt := B.rt, rn := B.rn, bk := B.nx, ct := fun ρ2 S2 => forGo (gTp 2 (gsCons (gNm i) (gsCons (gNm j) gsNil))) gb ds ρ2 S2 B }) :
    forGo (gTp 2 (gsCons (gNm i) (gsCons (gNm j) gsNil))) gb (.tuple [a, b] :: ds) ρ S B := (show 2 = 2 ∧ [] = [] ∧ _ from ⟨rfl, rfl, h⟩)
theorem sl_to {i j k : Nat} {ds : List PyData} {ρ : Rho} {S : SW} {Q : PyData → SW → Prop} (h1 : ρ[i]? = some (.dat (.tuple ds))) (h2 : ρ[j]? = some (.dat (.int (k : Nat)))) (h : Q (.tuple (ds.take k)) S) : fSl (fVarB i) fNoP (fP (fVarB j)) ρ S Q := by
  unfold fSl fNoP fP fVarB
  simp only [h1, h2, asI_int, oSl_tup, cut_to]
  exact h
theorem w_lc2 {fi fi1 : FI} {vs vs1 : List Nat} {fg fg1 : FG} {fe : FE} {ρ : Rho} {S : SW} {R : PyData → SW → Prop} (h : fi ρ S fun ds S1 => notOwn ρ vs ∧ lc2Go fg fi1 vs1 fg1 fe (rwipe ρ vs) ds [] S1 fun out S2 => R (.list out) S2) : fLc2 fi vs fg fi1 vs1 fg1 fe ρ S R := h
theorem w_lc {fi : FI} {vs : List Nat} {fg : FG} {ft fe : FE} {ρ : Rho} {S : SW} {R : PyData → SW → Prop} (h : fi ρ S fun ds S1 => notOwn ρ vs ∧ ds.length ≤ sizeLine ∧ lcGo fg ft fe (rwipe ρ vs) ds [] S1 fun out S2 => R (.list out) S2) : fLc fi vs fg ft fe ρ S R := h
theorem w_fiA {f : FE} {ρ : Rho} {S : SW} {T : List PyData → SW → Prop} (h : f ρ S fun d S1 => match rowD d with | some ds => T ds S1 | none => False) : fiA f ρ S T := h
theorem w_fiZ {fa fb : FE} {ρ : Rho} {S : SW} {T : List PyData → SW → Prop} (h : fa ρ S fun x S1 => fb ρ S1 fun y S2 => match x, y with | .list a, .list b => T (zipD a b) S2 | .tuple a, .tuple b => T (zipD a b) S2 | _, _ => False) : fiZ fa fb ρ S T := by
  unfold fiZ
  exact h
theorem w_dput2 {i : Nat} {a b f : FE} {kvs : List (List Key × PyData)} {ρ : Rho} {S : SW} {B : Out} (hρ : ρ[i]? = some (.dct kvs)) (h : f ρ S fun d S1 => a ρ S1 fun x S2 => b ρ S2 fun y S3 => ∃ k : List Key, [x, y] = k.map keyD ∧ kvs.length < sizeLine ∧ B.nx (ρ.set i (.dct (putD kvs k d))) S3) : sDput i 2 (fCons a (fCons b fNil)) f ρ S B := by
  unfold sDput
  rw [hρ]
  exact h
theorem w_zipput {i j : Nat} {fa fb : FE} {kvs : List (List Key × PyData)} {ρ : Rho} {S : SW} {B : Out} (hρ : ρ[i]? = some (.dct kvs)) (hj : ρ[j]? = some .un) (ij : i ≠ j)
    (h : fa ρ S fun x S1 => fb ρ S1 fun y S2 => ∃ as bs : List Key, ((x = .list (as.map keyD) ∧ y = .list (bs.map keyD)) ∨ (x = .tuple (as.map keyD) ∧ y = .tuple (bs.map keyD))) ∧ kvs.length + as.length < sizeLine ∧ B.nx (ρ.set i (.dct (putZ kvs as bs))) S2) : sZipPut i j fa fb ρ S B := by
  unfold sZipPut
  rw [hρ]
  exact ⟨hj, ij, h⟩
theorem w_parD {i j : Nat} {f : FE} {g : FS} {ρ : Rho} {S : SW} {B : Out} (h : f ρ S fun d S1 => g ((ρ.set i (.dat d)).set j (.dct [])) S1 { nx := fun _ _ => False, rt := B.rt, rn := B.rn }) : sParD i j f g ρ S B := h
theorem w_dct {i : Nat} {g : FS} {ρ : Rho} {S : SW} {B : Out} (h : g (ρ.set i (.dct [])) S { nx := fun _ _ => False, rt := B.rt, rn := B.rn }) : sDct i g ρ S B := h
theorem w_c' {d : PyData} {ρ : Rho} {S : SW} {Q : PyData → SW → Prop} (h : Q d S) : fC d ρ S Q := h
theorem sl_toL {i j k : Nat} {ds : List PyData} {ρ : Rho} {S : SW} {Q : PyData → SW → Prop} (h1 : ρ[i]? = some (.dat (.list ds))) (h2 : ρ[j]? = some (.dat (.int (k : Nat)))) (h : Q (.list (ds.take k)) S) : fSl (fVarB i) fNoP (fP (fVarB j)) ρ S Q := by
  unfold fSl fNoP fP fVarB
  simp only [h1, h2, asI_int, oSl_lst, cut_to]
  exact h
theorem sl_l1 {i : Nat} {ds : List PyData} {ρ : Rho} {S : SW} {Q : PyData → SW → Prop} (h1 : ρ[i]? = some (.dat (.list ds))) (h : Q (.list (ds.drop 1)) S) : fSl (fVarB i) (fP (fC (.int 1))) fNoP ρ S Q := by
  unfold fSl
  refine w_varB h1 ?_
  refine (show oSl (.list ds) (some ((1 : Nat) : Int)) none (fun d => Q d S) from ?_)
  rw [oSl_lst, cut_from]
  exact h
theorem keys_map (l : List Int) : l.map PyData.int = (l.map (Sum.inl : Int → Key)).map keyD := by rw [List.map_map]; rfl
end DL

namespace DL
open PySem L2 PyProof.Rows
/-! ### dicts of the module, keys texts -/
def Ents (P : Params) (K : Fr_) : List DictEntry → List (Str × PyData) → Prop
  | [], kvs => kvs = []
  | e :: es, kvs => ∃ x d r, kvs = (x, d) :: r ∧ (∃ t, e.key = .str x t) ∧ e.hash = PyData.keyHash P x ∧ Fix K d e.val ∧ Ents P K es r
structure DicC (P : Params) (K : Fr_) (mg : Str → Option Value) (x : Str) (kvs : List (Str × PyData)) : Prop where
  ex : ∃ d es n, mg x = some (.ref d) ∧ K.lookup d = some ⟨.type "dict", none, .dict es n, #[]⟩ ∧ Ents P K es.toList kvs ∧ (d == sysModules) = false
theorem ents_nil {P : Params} {K : Fr_} : Ents P K [] [] := rfl
theorem ents_cons {P : Params} {K : Fr_} {x : Str} {t : Nat} {h : Int} {d : PyData} {v : Value} {es : List DictEntry} {r : List (Str × PyData)} (hh : h = PyData.keyHash P x) (f : Fix K d v) (g : Ents P K es r) : Ents P K (⟨h, .str x t, v⟩ :: es) ((x, d) :: r) := ⟨x, d, r, rfl, ⟨t, rfl⟩, hh, f, g⟩
theorem dic_mk {P : Params} {K : Fr_} {mg : Str → Option Value} {h : Heap} {x : Str} {d : Addr} {es : List DictEntry} {n : Nat} {kvs : List (Str × PyData)} (X : K.In h) (G : h.Ns mainGlobals mg) (a : PySem.W.nsIn K mainGlobals x = some (some (.ref d)))
    (l : K.lookup d = some ⟨.type "dict", none, .dict es.toArray n, #[]⟩) (lo : (d == sysModules) = false) (g : Ents P K es kvs) : DicC P K mg x kvs := ⟨d, es.toArray, n, PySem.W.mg_of X G a, l, by simpa using g, lo⟩
theorem Ents.lit {P : Params} {K : Fr_} : ∀ {es : List DictEntry} {kvs : List (Str × PyData)}, Ents P K es kvs → PySem.W.KeysLit P es
  | [], _, _ => trivial
  | e :: es, _, ⟨x, d, r, _, ⟨t, h1⟩, h2, _, h4⟩ => ⟨⟨x, t, h1, h2⟩, h4.lit⟩
theorem Ents.get {P : Params} {K : Fr_} {z : Str} : ∀ {es : List DictEntry} {kvs : List (Str × PyData)}, Ents P K es kvs →
    (match kvs.lookup z with
      | some d => ∃ e u, es.find? (·.key.isStr z) = some e ∧ e.val = u ∧ Fix K d u
      | none => es.find? (·.key.isStr z) = none) ∧ es.any (·.refKey) = false
  | [], _, h => by
    simp only [Ents] at h
    subst h
    exact ⟨rfl, rfl⟩
  | e :: es, _, ⟨x, d, r, h0, ⟨t, h1⟩, h2, h3, h4⟩ => by
    subst h0
    obtain ⟨g1, g2⟩ := h4.get (z := z)
    have rk : e.refKey = false := by unfold DictEntry.refKey; rw [h1]
    refine ⟨?_, by rw [List.any_cons, rk, g2]; rfl⟩
    have ks : e.key.isStr z = (x == z) := by rw [h1]; rfl
    rw [List.lookup_cons]
    by_cases c : x = z
    · subst c
      rw [show (x == x) = true from beq_self_eq_true x]
      exact ⟨e, _, by rw [List.find?_cons_of_pos (by rw [ks]; exact beq_self_eq_true x)], rfl, h3⟩
    · have c1 : (x == z) = false := by simpa using c
      have c2 : (z == x) = false := by simpa using fun q => c q.symm
      rw [c2]
      have hn : es.find? (·.key.isStr z) = (e :: es).find? (·.key.isStr z) := by rw [List.find?_cons_of_neg (by rw [ks, c1]; simp)]
      rw [← hn]
      exact g1
section
variable {K : Fr_} {P : Params} {d : Addr} {es : Array DictEntry} {n : Nat} {kvs : List (Str × PyData)}
theorem ents_ns (l : K.lookup d = some ⟨.type "dict", none, .dict es n, #[]⟩) (g : Ents P K es.toList kvs) (z : Str) : match kvs.lookup z with
    | some x => ∃ u, PySem.W.nsIn K d z = some (some u) ∧ Fix K x u
    | none => PySem.W.nsIn K d z = some none := by
  obtain ⟨g1, g2⟩ := g.get (z := z)
  unfold PySem.W.nsIn
  rw [l]
  dsimp only
  split at g1
  · obtain ⟨e, u, h1, h2, h3⟩ := g1
    rename_i x hx
    rw [h1]
    exact ⟨_, rfl, by rw [h2]; exact h3⟩
  · rename_i hx
    rw [g1, g2]
    rfl
end
def fDIn (neg : Bool) (kvs : List (Str × PyData)) (fa : FE) : FE := fun ρ S R => fa ρ S fun x S1 => match x with
  | .str z => R (.bool (if neg then !(kvs.lookup z).isSome else (kvs.lookup z).isSome)) S1
  | _ => False
def fDIx (kvs : List (Str × PyData)) (fb : FE) : FE := fun ρ S R => fb ρ S fun x S1 => match x with
  | .str z => match kvs.lookup z with
    | some d => R d S1
    | none => False
  | _ => False
section
variable {X : Cx} {e a b : Expr} {es : List Expr} {pos p p2 : Pos} {f fa fb : FE} {g : FL} {n : Nat} {x : Str} {kvs : List (Str × PyData)}
theorem ns_in {K : Fr_} {P : Params} {d : Addr} {es : Array DictEntry} {n : Nat} (l : K.lookup d = some ⟨.type "dict", none, .dict es n, #[]⟩) (g : Ents P K es.toList kvs) (z : Str) : ∃ r, PySem.W.nsIn K d z = some r ∧ r.isSome = (kvs.lookup z).isSome := by
  have h := ents_ns l g z
  split at h
  · rename_i y hy
    obtain ⟨u, h1, _⟩ := h
    exact ⟨_, h1, by rw [hy]; rfl⟩
  · rename_i hy
    exact ⟨_, h, by rw [hy]; rfl⟩
/-- x in D, x not in D -/
theorem d_din (T : DicC X.w.params X.K X.mg x kvs) (ha : PE X a (rb X.K fa)) (hg : Gl X x := by rfl) (hd : (x == ("__debug__" : Str)) = false := by decide) (hm : behindInMarks .In (.Name x p) = false := by rfl) : PE X (.Compare a [.In] [.Name x p] pos) (rd X.K (fDIn false kvs fa)) := by
  obtain ⟨d, es, n, h1, h2, h3, h4⟩ := T.ex
  exact PE.imp (pe_cmpR (op_in_kd ⟨h2, h3.lit, h4⟩) ha (pe_glob hg h1 (v := .ref d) rfl hd) hm) fun σ H Q ⟨Oc, w, ρ, S, R, ev, hf, k⟩ => ⟨Oc, w, ρ, S, _, ev, hf, fun x S1 vx H1 ev1 g1 rx q => by
    cases x with
    | str z =>
      obtain ⟨r, e1, e2⟩ := ns_in h2 h3 z
      refine ⟨z, r, rx.str, rfl, e1, ?_⟩
      rw [e2]
      exact k _ S1 _ H1 ev1 g1 (by simp [Rep]) q
    | _ => exact q.elim⟩
theorem d_dnotin (T : DicC X.w.params X.K X.mg x kvs) (ha : PE X a (rb X.K fa)) (hg : Gl X x := by rfl) (hd : (x == ("__debug__" : Str)) = false := by decide) (hm : behindInMarks .NotIn (.Name x p) = false := by rfl) : PE X (.Compare a [.NotIn] [.Name x p] pos) (rd X.K (fDIn true kvs fa)) := by
  obtain ⟨d, es, n, h1, h2, h3, h4⟩ := T.ex
  exact PE.imp (pe_cmpR (op_notIn_kd ⟨h2, h3.lit, h4⟩) ha (pe_glob hg h1 (v := .ref d) rfl hd) hm) fun σ H Q ⟨Oc, w, ρ, S, R, ev, hf, k⟩ => ⟨Oc, w, ρ, S, _, ev, hf, fun x S1 vx H1 ev1 g1 rx q => by
    cases x with
    | str z =>
      obtain ⟨r, e1, e2⟩ := ns_in h2 h3 z
      refine ⟨z, r, rx.str, rfl, e1, ?_⟩
      rw [e2]
      exact k _ S1 _ H1 ev1 g1 (by simp [Rep]) q
    | _ => exact q.elim⟩
theorem rt_din {neg : Bool} {op : CmpOp} (T : DicC X.w.params X.K X.mg x kvs) (hop : ∀ (d : Addr) (es : Array DictEntry) (n : Nat), KDict X.K X.w d es n → OpR X (compareOp op) (fun x y H Q => ∃ (z : Str) (r : Option Value), x = .str z ∧ y = .ref d ∧ PySem.W.nsIn X.K d z = some r ∧ Q (.bl (if neg then !r.isSome else r.isSome)) H)) (ha : PE X a (rb X.K fa)) (hg : Gl X x) (hd : (x == ("__debug__" : Str)) = false) (hm : behindInMarks op (.Name x p) = false) :
    PT X (.Compare a [op] [.Name x p] pos) (rt X.K (fDIn neg kvs fa)) := by
  obtain ⟨d, es, n, h1, h2, h3, h4⟩ := T.ex
  exact PT.imp (pt_cmpR (hop d es n ⟨h2, h3.lit, h4⟩) ha (pe_glob hg h1 (v := .ref d) rfl hd) hm) fun σ H Q ⟨Oc, w, ρ, S, R, ev, hf, k⟩ => ⟨Oc, w, ρ, S, _, ev, hf, fun x S1 vx H1 ev1 g1 rx q => by
    cases x with
    | str z =>
      obtain ⟨r, e1, e2⟩ := ns_in h2 h3 z
      refine ⟨z, r, rx.str, rfl, e1, ?_⟩
      rw [e2]
      exact ⟨_, rfl, k _ S1 H1 ev1 g1 q⟩
    | _ => exact q.elim⟩
theorem t_din (T : DicC X.w.params X.K X.mg x kvs) (ha : PE X a (rb X.K fa)) (hg : Gl X x := by rfl) (hd : (x == ("__debug__" : Str)) = false := by decide) (hm : behindInMarks .In (.Name x p) = false := by rfl) : PT X (.Compare a [.In] [.Name x p] pos) (rt X.K (fDIn false kvs fa)) :=
  rt_din T (fun d es n D => op_in_kd D) ha hg hd hm
theorem t_dnotin (T : DicC X.w.params X.K X.mg x kvs) (ha : PE X a (rb X.K fa)) (hg : Gl X x := by rfl) (hd : (x == ("__debug__" : Str)) = false := by decide) (hm : behindInMarks .NotIn (.Name x p) = false := by rfl) : PT X (.Compare a [.NotIn] [.Name x p] pos) (rt X.K (fDIn true kvs fa)) :=
  rt_din T (fun d es n D => op_notIn_kd D) ha hg hd hm
/-- D[x] -/
theorem d_dix (T : DicC X.w.params X.K X.mg x kvs) (hb : PE X b (rb X.K fb)) (hg : Gl X x := by rfl) (hd : (x == ("__debug__" : Str)) = false := by decide) (hs : PlainIx b := by intro _ _; rfl) : PE X (.Subscript (.Name x p) b pos) (rd X.K (fDIx kvs fb)) := by
  obtain ⟨d, es, n, h1, h2, h3, h4⟩ := T.ex
  exact PE.imp (pe_ix ix_kdict (pe_glob hg h1 (v := .ref d) rfl hd) hb hs) fun σ H Q ⟨Oc, w, ρ, S, R, ev, hf, k⟩ => ⟨Oc, w, ρ, S, _, ev, hf, fun x S1 vx H1 ev1 g1 rx q => by
    cases x with
    | str z =>
      have g := ents_ns h2 h3 z
      dsimp only at q
      split at q
      · rename_i y hy
        rw [hy] at g
        obtain ⟨u, e1, v, e2, e3⟩ := g
        exact ⟨d, z, v, rfl, rx.str, ⟨es, n, u, h2, h3.lit, e1, e2⟩, k _ S1 v H1 ev1 g1 (e3 _ _) q⟩
      · exact q.elim
    | _ => exact q.elim⟩
/-! ### (*t, ..) -/
def fStar (f : FE) (g : FL) : FL := fun ρ S R => f ρ S fun d S1 => match d with
  | .tuple ds => g ρ S1 fun es S2 => R (ds ++ es) S2
  | _ => False
/-- a row with stars: how long it is is asked -/
def rdx (K : Fr_) (g : FL) : TA := fun σ H Q => ∃ Oc w ρ S R, EV K Oc w σ H ρ S ∧ g ρ S R ∧
  ∀ ds S' vs H', EV K Oc w σ H' ρ S' → Gr w H H' → Reps K (OO Oc σ ρ) H' ds vs → R ds S' → Q vs H'
theorem x_nil : PA X [] (rdx X.K fNil) := PA.imp pa_nil fun σ H Q ⟨Oc, w, ρ, S, R, ev, hf, k⟩ => k [] S [] H ev Gr.refl (by simp only [Reps]) hf
theorem x_cons (he : PE X e (rd X.K f)) (hr : PA X es (rdx X.K g)) (hs : starEach (e :: es) X.env = (false, eval e X.env) :: starEach es X.env := by rfl) : PA X (e :: es) (rdx X.K (fCons f g)) := PA.imp (pa_cons he hr hs) fun σ H Q ⟨Oc, w, ρ, S, R, ev, hf, k⟩ =>
  ⟨Oc, w, ρ, S, _, ev, hf, fun d S1 v H1 ev1 g1 r1 h1 => ⟨Oc, w, ρ, S1, _, ev1, h1, fun ds S2 vs H2 ev2 g2 r2 h2 =>
    k (d :: ds) S2 (v :: vs) H2 ev2 (g1.trans g2) (by simp only [Reps]; exact ⟨v, vs, rfl, Rep.step (ev1.stepO g2) ev1.Ool d v r1, r2⟩) h2⟩⟩
theorem x_star (he : PE X e (rd X.K f)) (hr : PA X es (rdx X.K g)) (hs : starEach (.Starred e p :: es) X.env = (true, eval e X.env) :: starEach es X.env := by rfl) : PA X (.Starred e p :: es) (rdx X.K (fStar f g)) := PA.imp (StX.pa_star he hr hs) fun σ H Q ⟨Oc, w, ρ, S, R, ev, hf, k⟩ =>
  ⟨Oc, w, ρ, S, _, ev, hf, fun d S1 v H1 ev1 g1 r1 h1 => by
    cases d with
    | tuple ds =>
      simp only [Rep] at r1
      obtain ⟨a, xs, rfl, q, rr⟩ := r1
      exact ⟨a, xs, rfl, .inl q, Oc, w, ρ, S1, _, ev1, h1, fun es S2 vs H2 ev2 g2 r2 h2 =>
        k (ds ++ es) S2 (xs ++ vs) H2 ev2 (g1.trans g2) ((Reps.step (ev1.stepO g2) ev1.Ool ds xs rr).app r2) h2⟩
    | _ => exact h1.elim⟩
def fTupX (g : FL) : FE := fun ρ S R => g ρ S fun ds S1 => ds.length ≤ 16777216 ∧ R (.tuple ds) S1
theorem d_tupX {k : Nat} (h : PA X es (rdx X.K g)) : PE X (.Tuple es k pos) (rd X.K (fTupX g)) := PE.imp (pe_tup h) fun σ H Q ⟨Oc, w, ρ, S, R, ev, hf, k⟩ =>
  ⟨Oc, w, ρ, S, _, ev, hf, fun ds S1 vs H1 ev1 g1 r1 ⟨hl, h1⟩ => ⟨by rw [sizeLine_eq, r1.len]; exact hl, fun p hp =>
    k _ S1 _ _ (ev1.same (Same.new hp)) (g1.trans (Gr.of (Same.new hp))) (rep_tup ev1.Ool hp r1) h1⟩⟩
end
end DL

namespace DL
open PySem PySem.Spec PyProof.Rows L2 PySem.W
open AutoSeq1 (wpAny_loadPart')
section
variable {X : Cx} {pins : List (Addr × Obj)} {σ : L2.St} {b : Bool} {a c z TI TO i1 i2 : Addr} {xs ys : List V}
theorem zt_collect {s : Shared} {H : Hp} {A : Around} {E : Value → Shared → Prop} {Q : List Value → Shared → Prop} (hh : A.handled = none) (I : Inv X pins σ H s) (D : ZipApart z TI TO i1 i2 a c) (st : ZTn b a c z TI TO i1 i2 0 s.heap) (hf : ∀ d ∈ zfp z TI TO i1 i2, FpOk X pins H d) (hx : SqS b X.K H a xs) (hy : SqS b X.K H c ys) (lx : xs.length ≤ sizeLine)
    (hQ : ∀ H' s' q its acc, Inv X pins σ H' s' → Same H H' → H q = none → H' q = some (.lst acc) → Vals acc its → acc.length = min xs.length ys.length → Prs H' xs ys acc → Q its s') :
    wpAny (model X.prog X.w) A (collect (.ref z)) Q E s := by
  have fr : H s.heap.objs.size = none := I.hok.fresh (Nat.le_refl _)
  have I1 : Inv X pins σ (upd H s.heap.objs.size (.lst [])) { s with heap := s.heap.push { cls := .type "list", data := .seq #[] } } := I.lnew (its := []) (t' := s.toks) .nil (Nat.zero_le _)
  have st1 : ZTn b a c z TI TO i1 i2 0 (s.heap.push { cls := .type "list", data := .seq #[] }) := ztn_keep st fun d _ o e => Heap.get?_push_of_some _ e
  have hS : (s.heap.push { cls := .type "list", data := .seq #[] }).get? s.heap.objs.size = some { cls := .type "list", data := .seq #[] } := Heap.get?_push_size _ rfl
  have fl : ∀ d ∈ zfp z TI TO i1 i2, d ≠ s.heap.objs.size := fun d hd e => by
    obtain ⟨v, f, hz, ow, hTI, ⟨x, y, hTO⟩, h1, h2⟩ := st
    have e' : d = z ∨ d = TI ∨ d = TO ∨ d = i1 ∨ d = i2 := by simpa using hd
    have lt : d < s.heap.objs.size := by
      rcases e' with q | q | q | q | q
      · rw [q]; exact Heap.lt_size hz
      · rw [q]; exact Heap.lt_size hTI
      · rw [q]; exact Heap.lt_size hTO
      · rw [q]; obtain ⟨o, ho, _⟩ := it_obj h1; exact Heap.lt_size ho
      · rw [q]; obtain ⟨o, ho, _⟩ := it_obj h2; exact Heap.lt_size ho
    exact Nat.lt_irrefl _ (by rw [e] at lt; exact lt)
  unfold collect
  refine wpAny_bind (wpAny_runValue (codeAny_builtin F.entry_proto_collect ?_))
  rw [Around.under_plainId F.plain_proto_collect _]
  show wpAny _ A.in1 (newList [] >>= fun l => again (.builtin "list.__iadd__" ⟨[l, .ref z], []⟩)) _ _ s
  refine wpAny_bind (wpAny_newObj_type ?_)
  refine wpAny_pure ⟨plainId_quiet F.plain_list_iadd _, codeAny_builtin F.entry_list_iadd ?_⟩
  rw [Around.under_plainId F.plain_list_iadd _]
  show wpAny _ A.in1 (Builtin.List.listExtendWith (.ref s.heap.objs.size) (.ref z) (.ref s.heap.objs.size)) _ _ _
  generalize (s.heap.push { cls := .type "list", data := .seq #[] }) = hp2 at *
  obtain ⟨v, f, hz, _⟩ := id st1
  have hT : ({ s with heap := hp2 } : Shared).TypeIs (.ref z) "zip" := ⟨_, hz, rfl⟩
  unfold Builtin.List.listExtendWith
  refine wpAny_bind (wpAny_typeOf (T := "zip") hT ?_)
  have h1 : Builtin.List.listSameRef (.ref s.heap.objs.size) (.ref z) = false := by simp [Builtin.List.listSameRef, (fl z (by simp)).symm]
  have h2 : (Value.type "zip" == Value.type "list") = false := by decide
  have h3 : (Value.type "zip" == Value.type "tuple") = false := by decide
  simp only [h1, h2, h3, Bool.or_false, Bool.false_eq_true, if_false]
  refine wpAny_bind (zn_iter hz ?_)
  refine wpAny_bind (wpAny_holding ?_)
  unfold Builtin.List.listLengthHint
  refine wpAny_bind (wpAny_specialOf hT slot_zip_nolen ?_)
  show wpAny _ _ (specialOf (Value.ref z) (Str.ofString "__length_hint__") >>= _) _ _ _
  refine wpAny_bind (wpAny_specialOf hT slot_zip_nohint ?_)
  refine wpAny_pure ?_
  obtain ⟨z3, its3, k3, r3, hl3, e3⟩ := I1.lstM upd_same
  cases r3
  show wpAny _ _ (rule "list.extend.makes-room" >>= fun _ => Builtin.List.listTouch (.ref s.heap.objs.size) >>= fun _ => again (.builtin "list.extend.loop" ⟨[.ref s.heap.objs.size, .ref z, .ref s.heap.objs.size], []⟩)) _ _ _
  refine wpAny_bind (wpAny_rule ?_)
  refine wpAny_bind ?_
  show wpAny _ _ (updateSeq s.heap.objs.size (·.push .none) >>= fun _ => updateSeq s.heap.objs.size (·.pop)) _ _ _
  refine wpAny_bind (wpAny_updateSeq e3 rfl ?_)
  have I4 := I1.lset (f := (·.push Value.none)) (its' := [Value.none]) (ys := [.non]) (t' := s.toks) upd_same e3 (by simp) (.cons rfl .nil) (by rw [List.length_singleton, sizeLine_eq]; decide)
  rw [upd_upd] at I4
  obtain ⟨z4, its4, k4, r4, hl4, e4⟩ := I4.lstM upd_same
  obtain ⟨u4, rfl, ru4⟩ := r4.one
  refine wpAny_updateSeq e4 rfl ?_ (by show 1 ≤ sizeLine; rw [sizeLine_eq]; decide) (by show 0 ≤ sizeLine + 1; exact Nat.zero_le _)
  have I5 := I4.lset (f := (·.pop)) (its := [u4]) (its' := []) (ys := []) (t' := s.toks) upd_same e4 (by rfl) .nil (Nat.zero_le _)
  rw [upd_upd] at I5
  refine wpAny_pure ⟨plainId_quiet F.plain_extend_loop _, zl_loop (.ref s.heap.objs.size) (q := s.heap.objs.size) (A1 := A) (show A.in1.handled = none from hh) D hx hy fr lx (fun H' s' acc I' g hq hl hp => ?_) _ 0 [] _ _ rfl (Nat.zero_le _) I5 (ztn_keep st1 fun d hd o e => ?_) (fun d hd => fp_upd (hf d hd) (fl d hd))
      (Same.new fr) upd_same rfl (fun j v e => by simp at e)⟩
  · obtain ⟨zz, its, m, r2, hl2, e2⟩ := I'.lstM hq
    show wpAny _ A (load s.heap.objs.size >>= _) _ _ s'
    refine wpAny_bind (wpAny_load e2 ?_)
    refine wpAny_pure ?_
    have e9 : its.toArray.toList = its := by simp
    rw [e9]
    exact hQ H' s' _ its acc I' g fr hq r2 hl hp
  · exact (Heap.get?_update_other _ _ (fl d hd).symm).trans ((Heap.get?_update_other _ _ (fl d hd).symm).trans e)
theorem zt_new {s : Shared} {H : Hp} {A : Around} {E : Value → Shared → Prop} {Q₁ : Value → Shared → Prop} (hh : A.handled = none) (I : Inv X pins σ H s) (D : ZipApart z TI TO i1 i2 a c) (st : ZTn b a c z TI TO i1 i2 0 s.heap) (hf : ∀ d ∈ zfp z TI TO i1 i2, FpOk X pins H d) (hx : SqS b X.K H a xs) (hy : SqS b X.K H c ys) (lx : xs.length ≤ sizeLine)
    (h : ∀ H' s' q acc, Inv X pins σ H' s' → Same H H' → H q = none → H' q = some (.tup acc) → acc.length = min xs.length ys.length → Prs H' xs ys acc → s'.TypeIs (.ref q) "tuple" ∧ Q₁ (.ref q) s') :
    codeAny (model X.prog X.w) A (.call (.builtin "tuple.__new__") ⟨[.type "tuple", .ref z], []⟩) (wants Q₁ E) s := by
  refine codeAny_of_tree ?_
  show wpAny _ A.in1 (do checkBuiltinCall "tuple.__new__" ⟨[.type "tuple", .ref z], []⟩; again (.builtin "tuple.__new__" ⟨[.type "tuple", .ref z], []⟩)) _ _ s
  refine wpAny_bind (wpAny_of_eq (F.newCall_tuple_1 _) (wpAny_pure ⟨plainId_quiet F.plain_tuple_new _, codeAny_builtin F.entry_tuple_new ?_⟩))
  rw [Around.under_plainId F.plain_tuple_new _]
  have hsub := sub_tuple_self
  have hinit := init_tuple_lookup
  have hmh := madeHere_tuple
  obtain ⟨v, f, hz, _⟩ := id st
  have hTI : s.TypeIs (.ref z) "zip" := ⟨_, hz, rfl⟩
  have hh1 : A.in1.handled = none := hh
  wp_walk using wpAny_typeOf hTI, zt_collect (A := A.in1) hh1 I D st hf hx hy lx
  intro H' s' q its acc I' g hq hq' hv hl hp
  show wpAny _ _ (Builtin.Tuple.tupleExact its.toArray >>= fun v => ret v) _ _ _
  unfold Builtin.Tuple.tupleExact
  have li : its.length = acc.length := hv.length.symm
  have lz : acc.length ≤ sizeLine := by rw [hl]; omega
  refine wpAny_bind (wpAny_newObj_type ?_ (by show its.toArray.size ≤ sizeLine; rw [List.size_toArray, li]; exact lz))
  refine wpAny_pure ?_
  have fr : H' s'.heap.objs.size = none := I'.hok.fresh (Nat.le_refl _)
  have fr0 : H s'.heap.objs.size = none := by
    cases e : H s'.heap.objs.size with
    | none => rfl
    | some o => rw [g _ _ e] at fr; cases fr
  show wants Q₁ E (.ok (.ret (.ref s'.heap.objs.size))) _
  refine (fun z => z.2) (h (upd H' s'.heap.objs.size (.tup acc)) _ s'.heap.objs.size acc (I'.laid (t' := s'.toks) (fun b u q => Heap.get?_push_of_some _ q) (Nat.le_refl _) ⟨lz, its, hv, IsTup.new _ _⟩) (g.trans (Same.new fr)) fr0 upd_same hl (fun j v e => ?_))
  obtain ⟨T, x, y, e1, e2, e3, e4⟩ := hp j v e
  exact ⟨T, x, y, e1, Same.new fr _ _ e2, e3, e4⟩
theorem zt_call {s : Shared} {H : Hp} {A : Around} {E : Value → Shared → Prop} {Q : Value → Shared → Prop} (hh : A.handled = none) (I : Inv X pins σ H s) (D : ZipApart z TI TO i1 i2 a c) (st : ZTn b a c z TI TO i1 i2 0 s.heap) (hf : ∀ d ∈ zfp z TI TO i1 i2, FpOk X pins H d) (hx : SqS b X.K H a xs) (hy : SqS b X.K H c ys) (lx : xs.length ≤ sizeLine)
    (hQ : ∀ H' s' q acc, Inv X pins σ H' s' → Same H H' → H q = none → H' q = some (.tup acc) → acc.length = min xs.length ys.length → Prs H' xs ys acc → Q (.ref q) s') :
    wpAny (model X.prog X.w) A (call (.type "tuple") [.ref z]) Q E s := by
  refine callType_codes (Q₁ := fun obj s₁ => s₁.TypeIs obj "tuple" ∧ Q obj s₁) F.called_tuple (F.typeCall_tuple_1 _) F.entry_object_init
    (zt_new (A := A.in1) hh I D st hf hx hy lx fun H' s' q acc I' g hq hq' hl hp => ⟨?_, ?_, ?_⟩) fun obj s₁ h₁ => ?_
  · obtain ⟨_, its, _, ob, h1, h2, _⟩ := I'.hok q _ hq'
    exact ⟨ob, h1, h2⟩
  · obtain ⟨_, its, _, ob, h1, h2, _⟩ := I'.hok q _ hq'
    exact ⟨ob, h1, h2⟩
  · exact hQ H' s' q acc I' g hq hq' hl hp
  · exact ⟨h₁.1, F.args_object_init_2 obj _, object_init_meets F.called_tuple.init.lookup F.called_tuple.made (by decide) X.prog X.w A.in1 _ s₁ ⟨h₁.1, rfl, h₁.2⟩⟩
end
def fZipT (fa fb : FE) : FE := fun ρ S R => fa ρ S fun x S1 => fb ρ S1 fun y S2 => match x, y with
  | .list a, .list b => R (.tuple (zipD a b)) S2
  | .tuple a, .tuple b => R (.tuple (zipD a b)) S2
  | _, _ => False
section
variable {X : Cx} {e e2 : Expr} {pos p p2 pos2 tpos : Pos} {fa fb : FE}
/-- tuple(zip(a, b)) -/
theorem d_zipT (hc : X.calm = true) (ha : PE X e (rd X.K fa)) (hb : PE X e2 (rd X.K fb)) (hml : X.mg "tuple" = none) (hm : X.mg "zip" = none) (hgl : Gl X "tuple" := by rfl) (hg : Gl X "zip" := by rfl)
    (hs1 : starEach (e :: [e2]) X.env = (false, eval e X.env) :: starEach [e2] X.env := by rfl) (hs2 : starEach (e2 :: []) X.env = (false, eval e2 X.env) :: starEach [] X.env := by rfl) (hs : starEach [e, e2] X.env = (false, eval e X.env) :: starEach [e2] X.env := by rfl) (hpl : (backTo pos2 (starEach [e2] X.env)).any (·.1) = false := by rfl)
    (ho : starEach [.Call (.Name "zip" p2) [e, e2] [] pos2] X.env = (false, eval (.Call (.Name "zip" p2) [e, e2] [] pos2) X.env) :: starEach [] X.env := by rfl) (hol : (backTo pos (starEach [] X.env)).any (·.1) = false := by rfl) :
    PE X (.Call (.Name "tuple" p) [.Call (.Name "zip" p2) [e, e2] [] pos2] [] pos) (rd X.K (fZipT fa fb)) := by
  refine ⟨fun pins s σ H Q I ⟨Oc, w, ρ, S, R, ev, hf, k⟩ => ?_⟩
  refine Call_ (ld_blt I hgl hml PyProof.Rows.boot_tuple (PyProof.Rows.callWith_type1 ?_ ho hol))
  rw [ho]
  refine Calls.spliced_cons (Call_ (ld_blt I hg hm PyProof.Rows.boot_zip (PyProof.Rows.callWith_type1 (thn ((pa_cons ha (pa_cons hb pa_nil hs2) hs1).run pos2 pins s σ H
    (fun vs H2 => ∃ b a c xs ys S2 ds es, vs = [V.ref a, V.ref c] ∧ EV X.K Oc w σ H2 ρ S2 ∧ Gr w H H2 ∧ SqS b X.K H2 a xs ∧ SqS b X.K H2 c ys ∧ Reps X.K (OO Oc σ ρ) H2 ds xs ∧ Reps X.K (OO Oc σ ρ) H2 es ys ∧ R (.tuple (zipD ds es)) S2) I
    ⟨Oc, w, ρ, S, _, ev, hf, fun d S1 v H1 ev1 g1 r h1 => ⟨Oc, w, ρ, S1, _, ev1, h1, fun e S2 u H2 ev2 g2 r2 h2 => ?_⟩⟩) fun us s1 ⟨vs, H1, I1, r1, q1⟩ => ?_) hs hpl)))
  · have r' := Rep.step (ev1.stepO g2) ev1.Ool d v r
    split at h2
    · simp only [Rep] at r' r2
      obtain ⟨a, vs, rfl, q, rr⟩ := r'
      obtain ⟨c, us, rfl, q2, rr2⟩ := r2
      exact ⟨true, a, c, vs, us, S2, _, _, rfl, ev2, g1.trans g2, q.sq, q2.sq, rr, rr2, h2⟩
    · simp only [Rep] at r' r2
      obtain ⟨a, vs, rfl, q, rr⟩ := r'
      obtain ⟨c, us, rfl, q2, rr2⟩ := r2
      exact ⟨false, a, c, vs, us, S2, _, _, rfl, ev2, g1.trans g2, q, q2, rr, rr2, h2⟩
    · exact h2.elim
  · obtain ⟨b, a, c, xs, ys, S2, ds, es, ex, ev2, g2, hqx, hqy, rr, rr2, hR⟩ := q1
    subst ex
    cases r1 with
    | cons r rest =>
      cases rest with
      | cons r' rest =>
        cases rest
        cases r
        cases r'
        have lx : xs.length ≤ sizeLine := by
          cases b
          · obtain ⟨_, _, _, z⟩ := I1.tuple hqx; exact z
          · obtain ⟨_, _, _, z⟩ := I1.list hqx; exact z
        refine call_zn I1 hqx hqy fun h' I2 D st fp => Calls.spliced_nil ?_
        refine zt_call (I1.ok.hd hc) I2 D st fp hqx hqy lx fun H3 s3 q acc I3 g3 q0 hq hl hp => ?_
        have st3 : Step (OO Oc σ ρ) H1 H3 := Step.of g3
        have fw : ∀ a, With (OO Oc σ ρ) q a → OO Oc σ ρ a ∨ H1 a = none := fun a z => z.elim .inl fun z => .inr (by rw [z]; exact q0)
        have ev3 := ev2.same (K := X.K) g3
        exact ⟨.ref q, H3, I3, rfl, k _ S2 _ H3 ev3 (g2.trans (Gr.of g3)) (by simp only [Rep]; exact ⟨q, acc, rfl, .inl (.inl hq), reps_zip (Reps.step st3 ev2.Ool ds xs rr) (Reps.step st3 ev2.Ool es ys rr2) hp hl⟩) hR⟩
end
end DL

namespace K12
open PySem L2 DL
def top (i : Nat) : Stmt := PySem.Challenge.pw_bentalike_k12_figures_of_anything.main.body.getD i (.Pass ⟨0, 0, 0, 0⟩)
def D_LEAST_POINTS : List (Str × PyData) := [(PySem.Str.ofString "path", .int 2), (PySem.Str.ofString "area", .int 3)]
def D_PARTS : List (Str × PyData) := [(PySem.Str.ofString "both", .int 2), (PySem.Str.ofString "either", .int 2), (PySem.Str.ofString "less", .int 2), (PySem.Str.ofString "closure", .int 1), (PySem.Str.ofString "inner", .int 1), (PySem.Str.ofString "rim", .int 1)]
/-- what the top has written: built-ins as they were, constants -/
structure Txt (W : World) (K : Fr_) (mg : Str → Option Value) : Prop where
  t_LEAST_POINTS : DicC W.params K mg "LEAST_POINTS" D_LEAST_POINTS
  t_PARTS : DicC W.params K mg "PARTS" D_PARTS
  g_MOST_DEEP : GlobD K mg "MOST_DEEP" (.int 6)
  g_MOST_POINTS : GlobD K mg "MOST_POINTS" (.int 12)
  g_MOST_SEGMENTS : GlobD K mg "MOST_SEGMENTS" (.int 24)
  z_abs : mg "abs" = none
  z_all : mg "all" = none
  z_bool : mg "bool" = none
  z_divmod : mg "divmod" = none
  z_gcd : mg "gcd" = some (.builtin "math.gcd")
  z_int : mg "int" = none
  z_isinstance : mg "isinstance" = none
  z_len : mg "len" = none
  z_list : mg "list" = none
  z_max : mg "max" = none
  z_min : mg "min" = none
  z_range : mg "range" = none
  z_repr : mg "repr" = none
  z_str : mg "str" = none
  z_sum : mg "sum" = none
  z_tuple : mg "tuple" = none
  z_zip : mg "zip" = none
section
variable {P : Program} {W : World} {K : Fr_} {mg : Str → Option Value} {base : Heap}
/-! is_whole -/
abbrev s_is_whole : Stmt := top 2
abbrev N_is_whole : List Str := ["value"]
theorem sc_is_whole : FnScope N_is_whole ["value"] (defScope s_is_whole) := ⟨rfl, rfl, rfl, by decide +kernel, rfl, by decide +kernel, by decide +kernel⟩
def G_is_whole : FS :=
    (sRet (fAnd (fUn (fun x R => R (.bool (isiD "int" x))) (fVarB 0)) (fNot (fUn (fun x R => R (.bool (isiD "bool" x))) (fVarB 0)))))
theorem ok_is_whole {k : Nat} {C : Ct} (T : Txt W K mg) {f : Addr} {fd : FuncData} (F : Fun K "is_whole" "is_whole" s_is_whole f fd) (hm : mg "is_whole" = some (.ref f)) (hb : Binds K fd ["value"] []) (hC : ∀ as S R, as.length = 1 → C as S R → G_is_whole (ent N_is_whole as) S { nx := fun _ S' => R .none S', rt := R }) : Pro P W K mg base (k + 1) f fd ["value"] (spC K 1 C) := by
  have nd := sc_is_whole.nd
  exact dfn_ok F sc_is_whole rfl (by decide) (fun cdv A outer s H E hr =>
    (s_one (s_ret (d_and (b_of (d_isi isi_int (b_var 0) T.z_isinstance T.z_int PyProof.Rows.boot_int)) (d_one (d_not (b_of (d_isi isi_bool (b_var 0) T.z_isinstance T.z_bool PyProof.Rows.boot_bool)))))))) hC
theorem bd_is_whole {k : Nat} {C : Ct} (T : Txt W K mg) {f : Addr} {fd : FuncData} (F : Fun K "is_whole" "is_whole" s_is_whole f fd) (hm : mg "is_whole" = some (.ref f)) (hb : Binds K fd ["value"] []) (hC : ∀ as S R, as.length = 1 → C as S R → G_is_whole (ent N_is_whole as) S { nx := fun _ S' => R .none S', rt := R }) : Cal P W K mg base "is_whole" (k + 1) 1 C := ⟨f, fd, _, ok_is_whole T F hm hb hC, F.kp, hb, hm⟩
/-! are_wholes -/
abbrev s_are_wholes : Stmt := top 3
abbrev N_are_wholes : List Str := ["value", "many", "each"]
theorem sc_are_wholes : FnScope N_are_wholes ["value", "many"] (defScope s_are_wholes) := ⟨rfl, rfl, rfl, by decide +kernel, rfl, by decide +kernel, by decide +kernel⟩
def G_are_wholes (C_is_whole : Ct) : FS :=
    (sRet (fAnd (fUn (fun x R => R (.bool (isiD "tuple" x))) (fVarB 0)) (fAnd (fOp oEq (fUn oLen (fVarB 0)) (fVarB 1)) (fUn oAll (fLc (fiT (fVarB 0)) [2] (gNm 2) (fC (.bool true)) (fCall C_is_whole (gDat (fVar 2) gaNil)))))))
theorem ok_are_wholes {k : Nat} {C_is_whole : Ct} {C : Ct} (T : Txt W K mg) {f : Addr} {fd : FuncData} (F : Fun K "are_wholes" "are_wholes" s_are_wholes f fd) (hm : mg "are_wholes" = some (.ref f)) (hb : Binds K fd ["value", "many"] []) (c_is_whole : Cal P W K mg base "is_whole" k 1 C_is_whole) (hC : ∀ as S R, as.length = 2 → C as S R → (G_are_wholes C_is_whole) (ent N_are_wholes as) S { nx := fun _ S' => R .none S', rt := R }) : Pro P W K mg base (k + 1) f fd ["value", "many"] (spC K 2 C) := by
  have nd := sc_are_wholes.nd
  exact dfn_ok F sc_are_wholes rfl (by decide) (fun cdv A outer s H E hr =>
    (s_one (s_ret (d_and (b_of (d_isi isi_tuple (b_var 0) T.z_isinstance T.z_tuple PyProof.Rows.boot_tuple)) (d_and (b_of (d_cmp (op_eqH hr) sEq (b_of (d_callB call_len sLen (b_var 0) T.z_len PySem.boot_len)) (b_var 1))) (d_one (d_callB (cr_all rfl) sAll (b_of (d_of_n (n_lc rfl nd (ic_of (i_tup (b_var 0))) (blkOk_by (own := [("each", 2)]) (N := N_are_wholes) (sc := defScope s_are_wholes) (by decide +kernel)) (by decide) (fun _ _ _ _ _ => (g_name 2 nd)) (fun _ _ _ _ _ => p_nil) (fun _ _ _ _ _ => (d_call c_is_whole (hr.mono (by omega)) (c_dat (d_var 2) c_nil)))))) T.z_all PyProof.Rows.boot_all))))))) hC
theorem bd_are_wholes {k : Nat} {C_is_whole : Ct} {C : Ct} (T : Txt W K mg) {f : Addr} {fd : FuncData} (F : Fun K "are_wholes" "are_wholes" s_are_wholes f fd) (hm : mg "are_wholes" = some (.ref f)) (hb : Binds K fd ["value", "many"] []) (c_is_whole : Cal P W K mg base "is_whole" k 1 C_is_whole) (hC : ∀ as S R, as.length = 2 → C as S R → (G_are_wholes C_is_whole) (ent N_are_wholes as) S { nx := fun _ S' => R .none S', rt := R }) : Cal P W K mg base "are_wholes" (k + 1) 2 C := ⟨f, fd, _, ok_are_wholes T F hm hb c_is_whole hC, F.kp, hb, hm⟩
/-! is_ratio -/
abbrev s_is_ratio : Stmt := top 5
abbrev N_is_ratio : List Str := ["value"]
theorem sc_is_ratio : FnScope N_is_ratio ["value"] (defScope s_is_ratio) := ⟨rfl, rfl, rfl, by decide +kernel, rfl, by decide +kernel, by decide +kernel⟩
def G_is_ratio (C_are_wholes : Ct) : FS :=
    (sRet (fAnd (fCall C_are_wholes (gDat (fVar 0) (gDat (fC (.int 2)) gaNil))) (fAnd (fOp oGt (fOp oIx (fVarB 0) (fC (.int 1))) (fC (.int 0))) (fOp oEq (fOp (oI fun i j => .int ((Nat.gcd i.natAbs j.natAbs : Nat) : Int)) (fOp oIx (fVarB 0) (fC (.int 0))) (fOp oIx (fVarB 0) (fC (.int 1)))) (fC (.int 1))))))
theorem ok_is_ratio {k : Nat} {C_are_wholes : Ct} {C : Ct} (T : Txt W K mg) {f : Addr} {fd : FuncData} (F : Fun K "is_ratio" "is_ratio" s_is_ratio f fd) (hm : mg "is_ratio" = some (.ref f)) (hb : Binds K fd ["value"] []) (c_are_wholes : Cal P W K mg base "are_wholes" k 2 C_are_wholes) (hC : ∀ as S R, as.length = 1 → C as S R → (G_is_ratio C_are_wholes) (ent N_is_ratio as) S { nx := fun _ S' => R .none S', rt := R }) : Pro P W K mg base (k + 1) f fd ["value"] (spC K 1 C) := by
  have nd := sc_is_ratio.nd
  exact dfn_ok F sc_is_ratio rfl (by decide) (fun cdv A outer s H E hr =>
    (s_one (s_ret (d_and (b_of (d_call c_are_wholes (hr.mono (by omega)) (c_dat (d_var 0) (c_dat d_int c_nil)))) (d_and (b_of (d_cmp op_gt sIntB (b_of (d_ix (b_var 0) (b_of d_int))) (b_of d_int))) (d_one (d_cmp (op_eqH hr) sEq (b_of (d_callF2 cr_gcd sGcd (b_of (d_ix (b_var 0) (b_of d_int))) (b_of (d_ix (b_var 0) (b_of d_int))) T.z_gcd)) (b_of d_int)))))))) hC
theorem bd_is_ratio {k : Nat} {C_are_wholes : Ct} {C : Ct} (T : Txt W K mg) {f : Addr} {fd : FuncData} (F : Fun K "is_ratio" "is_ratio" s_is_ratio f fd) (hm : mg "is_ratio" = some (.ref f)) (hb : Binds K fd ["value"] []) (c_are_wholes : Cal P W K mg base "are_wholes" k 2 C_are_wholes) (hC : ∀ as S R, as.length = 1 → C as S R → (G_is_ratio C_are_wholes) (ent N_is_ratio as) S { nx := fun _ S' => R .none S', rt := R }) : Cal P W K mg base "is_ratio" (k + 1) 1 C := ⟨f, fd, _, ok_is_ratio T F hm hb c_are_wholes hC, F.kp, hb, hm⟩
/-! is_pointed -/
abbrev s_is_pointed : Stmt := top 7
abbrev N_is_pointed : List Str := ["value", "each"]
theorem sc_is_pointed : FnScope N_is_pointed ["value"] (defScope s_is_pointed) := ⟨rfl, rfl, rfl, by decide +kernel, rfl, by decide +kernel, by decide +kernel⟩
def G_is_pointed (C_is_ratio : Ct) : FS :=
    (sRet (fAnd (fUn (fun x R => R (.bool (isiD "tuple" x))) (fVarB 0)) (fAnd (fOp oEq (fUn oLen (fVarB 0)) (fC (.int 2))) (fUn oAll (fLc (fiT (fVarB 0)) [1] (gNm 1) (fC (.bool true)) (fCall C_is_ratio (gDat (fVar 1) gaNil)))))))
theorem ok_is_pointed {k : Nat} {C_is_ratio : Ct} {C : Ct} (T : Txt W K mg) {f : Addr} {fd : FuncData} (F : Fun K "is_pointed" "is_pointed" s_is_pointed f fd) (hm : mg "is_pointed" = some (.ref f)) (hb : Binds K fd ["value"] []) (c_is_ratio : Cal P W K mg base "is_ratio" k 1 C_is_ratio) (hC : ∀ as S R, as.length = 1 → C as S R → (G_is_pointed C_is_ratio) (ent N_is_pointed as) S { nx := fun _ S' => R .none S', rt := R }) : Pro P W K mg base (k + 1) f fd ["value"] (spC K 1 C) := by
  have nd := sc_is_pointed.nd
  exact dfn_ok F sc_is_pointed rfl (by decide) (fun cdv A outer s H E hr =>
    (s_one (s_ret (d_and (b_of (d_isi isi_tuple (b_var 0) T.z_isinstance T.z_tuple PyProof.Rows.boot_tuple)) (d_and (b_of (d_cmp (op_eqH hr) sEq (b_of (d_callB call_len sLen (b_var 0) T.z_len PySem.boot_len)) (b_of d_int))) (d_one (d_callB (cr_all rfl) sAll (b_of (d_of_n (n_lc rfl nd (ic_of (i_tup (b_var 0))) (blkOk_by (own := [("each", 1)]) (N := N_is_pointed) (sc := defScope s_is_pointed) (by decide +kernel)) (by decide) (fun _ _ _ _ _ => (g_name 1 nd)) (fun _ _ _ _ _ => p_nil) (fun _ _ _ _ _ => (d_call c_is_ratio (hr.mono (by omega)) (c_dat (d_var 1) c_nil)))))) T.z_all PyProof.Rows.boot_all))))))) hC
theorem bd_is_pointed {k : Nat} {C_is_ratio : Ct} {C : Ct} (T : Txt W K mg) {f : Addr} {fd : FuncData} (F : Fun K "is_pointed" "is_pointed" s_is_pointed f fd) (hm : mg "is_pointed" = some (.ref f)) (hb : Binds K fd ["value"] []) (c_is_ratio : Cal P W K mg base "is_ratio" k 1 C_is_ratio) (hC : ∀ as S R, as.length = 1 → C as S R → (G_is_pointed C_is_ratio) (ent N_is_pointed as) S { nx := fun _ S' => R .none S', rt := R }) : Cal P W K mg base "is_pointed" (k + 1) 1 C := ⟨f, fd, _, ok_is_pointed T F hm hb c_is_ratio hC, F.kp, hb, hm⟩
/-! closed -/
abbrev s_closed : Stmt := top 14
abbrev N_closed : List Str := ["points"]
theorem sc_closed : FnScope N_closed ["points"] (defScope s_closed) := ⟨rfl, rfl, rfl, by decide +kernel, rfl, by decide +kernel, by decide +kernel⟩
def G_closed : FS :=
    (sRet (fTupX (fStar (fVar 0) (fCons (fOp oIx (fVarB 0) (fC (.int 0))) fNil))))
theorem ok_closed {k : Nat} {C : Ct} (T : Txt W K mg) {f : Addr} {fd : FuncData} (F : Fun K "closed" "closed" s_closed f fd) (hm : mg "closed" = some (.ref f)) (hb : Binds K fd ["points"] []) (hC : ∀ as S R, as.length = 1 → C as S R → G_closed (ent N_closed as) S { nx := fun _ S' => R .none S', rt := R }) : Pro P W K mg base (k + 1) f fd ["points"] (spC K 1 C) := by
  have nd := sc_closed.nd
  exact dfn_ok F sc_closed rfl (by decide) (fun cdv A outer s H E hr =>
    (s_one (s_ret (d_tupX (x_star (d_var 0) (x_cons (d_ix (b_var 0) (b_of d_int)) x_nil)))))) hC
theorem bd_closed {k : Nat} {C : Ct} (T : Txt W K mg) {f : Addr} {fd : FuncData} (F : Fun K "closed" "closed" s_closed f fd) (hm : mg "closed" = some (.ref f)) (hb : Binds K fd ["points"] []) (hC : ∀ as S R, as.length = 1 → C as S R → G_closed (ent N_closed as) S { nx := fun _ S' => R .none S', rt := R }) : Cal P W K mg base "closed" (k + 1) 1 C := ⟨f, fd, _, ok_closed T F hm hb hC, F.kp, hb, hm⟩
/-! are_pointed -/
abbrev s_are_pointed : Stmt := top 15
abbrev N_are_pointed : List Str := ["value", "least", "is_closed", "line", "one", "two", "each"]
theorem sc_are_pointed : FnScope N_are_pointed ["value", "least", "is_closed"] (defScope s_are_pointed) := ⟨rfl, rfl, rfl, by decide +kernel, rfl, by decide +kernel, by decide +kernel⟩
def G_are_pointed (C_is_pointed C_closed : Ct) : FS :=
    (sSeq (sIf (fOr (fNot (fUn (fun x R => R (.bool (isiD "tuple" x))) (fVarB 0))) (fNot (fChain oLe oLe (fVarB 1) (fUn oLen (fVarB 0)) (fC (.int 12)))))
    (sRet (fC (.bool false)))
    sNext)
    (sSeq (sIf (fNot (fUn oAll (fLc (fiT (fVarB 0)) [6] (gNm 6) (fC (.bool true)) (fCall C_is_pointed (gDat (fVar 6) gaNil)))))
    (sRet (fC (.bool false)))
    sNext)
    (sSeq (sSet 3 (fIf (fVarB 2) (fCall C_closed (gDat (fVar 0) gaNil)) (fVar 0)))
    (sRet (fUn oAll (fLc (fiZ (fVar 3) (fSl (fVarB 3) (fP (fC (.int 1))) fNoP)) [4, 5] (gTp 2 (gsCons (gNm 4) (gsCons (gNm 5) gsNil))) (fC (.bool true)) (fOp oNe (fVarB 4) (fVarB 5))))))))
theorem ok_are_pointed {k : Nat} {C_is_pointed C_closed : Ct} {C : Ct} (T : Txt W K mg) {f : Addr} {fd : FuncData} (F : Fun K "are_pointed" "are_pointed" s_are_pointed f fd) (hm : mg "are_pointed" = some (.ref f)) (hb : Binds K fd ["value", "least", "is_closed"] []) (c_is_pointed : Cal P W K mg base "is_pointed" k 1 C_is_pointed) (c_closed : Cal P W K mg base "closed" k 1 C_closed) (hC : ∀ as S R, as.length = 3 → C as S R → (G_are_pointed C_is_pointed C_closed) (ent N_are_pointed as) S { nx := fun _ S' => R .none S', rt := R }) : Pro P W K mg base (k + 1) f fd ["value", "least", "is_closed"] (spC K 3 C) := by
  have nd := sc_are_pointed.nd
  exact dfn_ok F sc_are_pointed rfl (by decide) (fun cdv A outer s H E hr =>
    (s_cons (s_if (PW.pt (w_or (t_not (t_val (b_of (d_isi isi_tuple (b_var 0) T.z_isinstance T.z_tuple PyProof.Rows.boot_tuple)))) (w_or1 (t_not (t_chain op_le op_le sIntB sIntB (b_var 1) (b_of (d_callB call_len sLen (b_var 0) T.z_len PySem.boot_len)) (b_of (d_glob T.g_MOST_POINTS)))))))
    (s_one (s_ret d_bool))
    s_nil)
    (s_cons (s_if (t_not (t_val (b_of (d_callB (cr_all rfl) sAll (b_of (d_of_n (n_lc rfl nd (ic_of (i_tup (b_var 0))) (blkOk_by (own := [("each", 6)]) (N := N_are_pointed) (sc := defScope s_are_pointed) (by decide +kernel)) (by decide) (fun _ _ _ _ _ => (g_name 6 nd)) (fun _ _ _ _ _ => p_nil) (fun _ _ _ _ _ => (d_call c_is_pointed (hr.mono (by omega)) (c_dat (d_var 6) c_nil)))))) T.z_all PyProof.Rows.boot_all))))
    (s_one (s_ret d_bool))
    s_nil)
    (s_cons (s_set 3 nd (d_if (t_val (b_var 2)) (d_call c_closed (hr.mono (by omega)) (c_dat (d_var 0) c_nil)) (d_var 0)))
    (s_one (s_ret (d_callB (cr_all rfl) sAll (b_of (d_of_n (n_lc rfl nd (ic_of (i_zip (d_var 3) (d_slice (b_var 3) (o_some (b_of d_int)) o_none) T.z_zip)) (blkOk_by (own := [("one", 4), ("two", 5)]) (N := N_are_pointed) (sc := defScope s_are_pointed) (by decide +kernel)) (by decide) (fun _ _ _ _ _ => (g_tup rfl (gs_cons (g_name 4 nd) (gs_cons (g_name 5 nd) gs_nil)))) (fun _ _ _ _ _ => p_nil) (fun _ _ _ _ _ => (d_cmp (op_neH hr) sNe (b_var 4) (b_var 5)))))) T.z_all PyProof.Rows.boot_all))))))) hC
theorem bd_are_pointed {k : Nat} {C_is_pointed C_closed : Ct} {C : Ct} (T : Txt W K mg) {f : Addr} {fd : FuncData} (F : Fun K "are_pointed" "are_pointed" s_are_pointed f fd) (hm : mg "are_pointed" = some (.ref f)) (hb : Binds K fd ["value", "least", "is_closed"] []) (c_is_pointed : Cal P W K mg base "is_pointed" k 1 C_is_pointed) (c_closed : Cal P W K mg base "closed" k 1 C_closed) (hC : ∀ as S R, as.length = 3 → C as S R → (G_are_pointed C_is_pointed C_closed) (ent N_are_pointed as) S { nx := fun _ S' => R .none S', rt := R }) : Cal P W K mg base "are_pointed" (k + 1) 3 C := ⟨f, fd, _, ok_are_pointed T F hm hb c_is_pointed c_closed hC, F.kp, hb, hm⟩
/-! is_shaped -/
abbrev s_is_shaped : Stmt := top 16
abbrev N_is_shaped : List Str := ["value", "deep", "word", "each"]
theorem sc_is_shaped : FnScope N_is_shaped ["value", "deep"] (defScope s_is_shaped) := ⟨rfl, rfl, rfl, by decide +kernel, rfl, by decide +kernel, by decide +kernel⟩
def G_is_shaped (C_is_shaped C_is_pointed C_are_pointed : Ct) : FS :=
    (sSeq (sIf (fOr (fOp oEq (fVarB 1) (fC (.int 0))) (fOr (fNot (fUn (fun x R => R (.bool (isiD "tuple" x))) (fVarB 0))) (fOr (fOp oEq (fVarB 0) (fTup fNil)) (fNot (fUn (fun x R => R (.bool (isiD "str" x))) (fOp oIx (fVarB 0) (fC (.int 0))))))))
    (sRet (fC (.bool false)))
    sNext)
    (sSeq (sSet 2 (fOp oIx (fVarB 0) (fC (.int 0))))
    (sSeq (sIf (fDIn false D_PARTS (fVarB 2))
    (sRet (fAnd (fOp oEq (fUn oLen (fVarB 0)) (fOp oAdd (fC (.int 1)) (fDIx D_PARTS (fVarB 2)))) (fUn oAll (fLc (fiT (fSl (fVarB 0) (fP (fC (.int 1))) fNoP)) [3] (gNm 3) (fC (.bool true)) (fCall C_is_shaped (gDat (fVar 3) (gDat (fOp (oI fun i j => .int (i - j)) (fVarB 1) (fC (.int 1))) gaNil)))))))
    sNext)
    (sSeq (sIf (fOp oNe (fUn oLen (fVarB 0)) (fC (.int 2)))
    (sRet (fC (.bool false)))
    sNext)
    (sSeq (sIf (fOp oEq (fVarB 2) (fC (.str (PySem.Str.ofString "spot"))))
    (sRet (fCall C_is_pointed (gDat (fOp oIx (fVarB 0) (fC (.int 1))) gaNil)))
    sNext)
    (sRet (fAnd (fDIn false D_LEAST_POINTS (fVarB 2)) (fCall C_are_pointed (gDat (fOp oIx (fVarB 0) (fC (.int 1))) (gDat (fDIx D_LEAST_POINTS (fVarB 2)) (gDat (fOp oEq (fVarB 2) (fC (.str (PySem.Str.ofString "area")))) gaNil)))))))))))
theorem ok_is_shaped {k : Nat} {C_is_shaped C_is_pointed C_are_pointed : Ct} {C : Ct} (T : Txt W K mg) {f : Addr} {fd : FuncData} (F : Fun K "is_shaped" "is_shaped" s_is_shaped f fd) (hm : mg "is_shaped" = some (.ref f)) (hb : Binds K fd ["value", "deep"] []) (c_is_shaped : Cal P W K mg base "is_shaped" k 2 C_is_shaped) (c_is_pointed : Cal P W K mg base "is_pointed" k 1 C_is_pointed) (c_are_pointed : Cal P W K mg base "are_pointed" k 3 C_are_pointed) (hC : ∀ as S R, as.length = 2 → C as S R → (G_is_shaped C_is_shaped C_is_pointed C_are_pointed) (ent N_is_shaped as) S { nx := fun _ S' => R .none S', rt := R }) : Pro P W K mg base (k + 1) f fd ["value", "deep"] (spC K 2 C) := by
  have nd := sc_is_shaped.nd
  exact dfn_ok F sc_is_shaped rfl (by decide) (fun cdv A outer s H E hr =>
    (s_cons (s_if (PW.pt (w_or (t_cmp (op_eqH hr) sEq (b_var 1) (b_of d_int)) (w_or (t_not (t_val (b_of (d_isi isi_tuple (b_var 0) T.z_isinstance T.z_tuple PyProof.Rows.boot_tuple)))) (w_or (t_cmp (op_eqH hr) sEq (b_var 0) (b_of (d_tup a_nil))) (w_or1 (t_not (t_val (b_of (d_isi isi_str (b_of (d_ix (b_var 0) (b_of d_int))) T.z_isinstance T.z_str PyProof.Rows.boot_str)))))))))
    (s_one (s_ret d_bool))
    s_nil)
    (s_cons (s_set 2 nd (d_ix (b_var 0) (b_of d_int)))
    (s_cons (s_if (t_din T.t_PARTS (b_var 2))
    (s_one (s_ret (d_and (b_of (d_cmp (op_eqH hr) sEq (b_of (d_callB call_len sLen (b_var 0) T.z_len PySem.boot_len)) (b_of (d_add (b_of d_int) (b_of (d_dix T.t_PARTS (b_var 2))))))) (d_one (d_callB (cr_all rfl) sAll (b_of (d_of_n (n_lc rfl nd (ic_of (i_tup (b_of (d_slice (b_var 0) (o_some (b_of d_int)) o_none)))) (blkOk_by (own := [("each", 3)]) (N := N_is_shaped) (sc := defScope s_is_shaped) (by decide +kernel)) (by decide) (fun _ _ _ _ _ => (g_name 3 nd)) (fun _ _ _ _ _ => p_nil) (fun _ _ _ _ _ => (d_call c_is_shaped (hr.mono (by omega)) (c_dat (d_var 3) (c_dat (d_sub (b_var 1) (b_of d_int)) c_nil))))))) T.z_all PyProof.Rows.boot_all)))))
    s_nil)
    (s_cons (s_if (t_cmp (op_neH hr) sNe (b_of (d_callB call_len sLen (b_var 0) T.z_len PySem.boot_len)) (b_of d_int))
    (s_one (s_ret d_bool))
    s_nil)
    (s_cons (s_if (t_cmp (op_eqH hr) sEq (b_var 2) (b_of d_str))
    (s_one (s_ret (d_call c_is_pointed (hr.mono (by omega)) (c_dat (d_ix (b_var 0) (b_of d_int)) c_nil))))
    s_nil)
    (s_one (s_ret (d_and (b_of (d_din T.t_LEAST_POINTS (b_var 2))) (d_one (d_call c_are_pointed (hr.mono (by omega)) (c_dat (d_ix (b_var 0) (b_of d_int)) (c_dat (d_dix T.t_LEAST_POINTS (b_var 2)) (c_dat (d_cmp (op_eqH hr) sEq (b_var 2) (b_of d_str)) c_nil)))))))))))))) hC
theorem bd_is_shaped {k : Nat} {C_is_shaped C_is_pointed C_are_pointed : Ct} {C : Ct} (T : Txt W K mg) {f : Addr} {fd : FuncData} (F : Fun K "is_shaped" "is_shaped" s_is_shaped f fd) (hm : mg "is_shaped" = some (.ref f)) (hb : Binds K fd ["value", "deep"] []) (c_is_shaped : Cal P W K mg base "is_shaped" k 2 C_is_shaped) (c_is_pointed : Cal P W K mg base "is_pointed" k 1 C_is_pointed) (c_are_pointed : Cal P W K mg base "are_pointed" k 3 C_are_pointed) (hC : ∀ as S R, as.length = 2 → C as S R → (G_is_shaped C_is_shaped C_is_pointed C_are_pointed) (ent N_is_shaped as) S { nx := fun _ S' => R .none S', rt := R }) : Cal P W K mg base "is_shaped" (k + 1) 2 C := ⟨f, fd, _, ok_is_shaped T F hm hb c_is_shaped c_is_pointed c_are_pointed hC, F.kp, hb, hm⟩
/-! lines_of -/
abbrev s_lines_of : Stmt := top 17
abbrev N_lines_of : List Str := ["figure", "points"]
theorem sc_lines_of : FnScope N_lines_of ["figure"] (defScope s_lines_of) := ⟨rfl, rfl, rfl, by decide +kernel, rfl, by decide +kernel, by decide +kernel⟩
def G_lines_of (C_closed : Ct) : FS :=
    (sSeq (sSet 1 (fIf (fOp oEq (fOp oIx (fVarB 0) (fC (.int 0))) (fC (.str (PySem.Str.ofString "area")))) (fCall C_closed (gDat (fOp oIx (fVarB 0) (fC (.int 1))) gaNil)) (fOp oIx (fVarB 0) (fC (.int 1)))))
    (sRet (fZipT (fVar 1) (fSl (fVarB 1) (fP (fC (.int 1))) fNoP))))
theorem ok_lines_of {k : Nat} {C_closed : Ct} {C : Ct} (T : Txt W K mg) {f : Addr} {fd : FuncData} (F : Fun K "lines_of" "lines_of" s_lines_of f fd) (hm : mg "lines_of" = some (.ref f)) (hb : Binds K fd ["figure"] []) (c_closed : Cal P W K mg base "closed" k 1 C_closed) (hC : ∀ as S R, as.length = 1 → C as S R → (G_lines_of C_closed) (ent N_lines_of as) S { nx := fun _ S' => R .none S', rt := R }) : Pro P W K mg base (k + 1) f fd ["figure"] (spC K 1 C) := by
  have nd := sc_lines_of.nd
  exact dfn_ok F sc_lines_of rfl (by decide) (fun cdv A outer s H E hr =>
    (s_cons (s_set 1 nd (d_if (t_cmp (op_eqH hr) sEq (b_of (d_ix (b_var 0) (b_of d_int))) (b_of d_str)) (d_call c_closed (hr.mono (by omega)) (c_dat (d_ix (b_var 0) (b_of d_int)) c_nil)) (d_ix (b_var 0) (b_of d_int))))
    (s_one (s_ret (d_zipT rfl (d_var 1) (d_slice (b_var 1) (o_some (b_of d_int)) o_none) T.z_tuple T.z_zip))))) hC
theorem bd_lines_of {k : Nat} {C_closed : Ct} {C : Ct} (T : Txt W K mg) {f : Addr} {fd : FuncData} (F : Fun K "lines_of" "lines_of" s_lines_of f fd) (hm : mg "lines_of" = some (.ref f)) (hb : Binds K fd ["figure"] []) (c_closed : Cal P W K mg base "closed" k 1 C_closed) (hC : ∀ as S R, as.length = 1 → C as S R → (G_lines_of C_closed) (ent N_lines_of as) S { nx := fun _ S' => R .none S', rt := R }) : Cal P W K mg base "lines_of" (k + 1) 1 C := ⟨f, fd, _, ok_lines_of T F hm hb c_closed hC, F.kp, hb, hm⟩
/-! segments_by -/
abbrev s_segments_by : Stmt := top 18
abbrev N_segments_by : List Str := ["figure", "found", "part"]
theorem sc_segments_by : FnScope N_segments_by ["figure"] (defScope s_segments_by) := ⟨rfl, rfl, rfl, by decide +kernel, rfl, by decide +kernel, by decide +kernel⟩
def G_segments_by (C_segments_by C_lines_of : Ct) : FS :=
    (sSeq (sIf (fDIn false D_PARTS (fOp oIx (fVarB 0) (fC (.int 0))))
    (sSeq (sSet 1 (fTup fNil))
    (sSeq (sFor (fiT (fSl (fVarB 0) (fP (fC (.int 1))) fNoP)) (gNm 2)
    (sSet 1 (fOp oAdd (fVarB 1) (fCall C_segments_by (gDat (fVar 2) gaNil)))))
    (sRetV 1)))
    sNext)
    (sRet (fIf (fOp oNe (fOp oIx (fVarB 0) (fC (.int 0))) (fC (.str (PySem.Str.ofString "spot")))) (fCall C_lines_of (gDat (fVar 0) gaNil)) (fTup fNil))))
theorem ok_segments_by {k : Nat} {C_segments_by C_lines_of : Ct} {C : Ct} (T : Txt W K mg) {f : Addr} {fd : FuncData} (F : Fun K "segments_by" "segments_by" s_segments_by f fd) (hm : mg "segments_by" = some (.ref f)) (hb : Binds K fd ["figure"] []) (c_segments_by : Cal P W K mg base "segments_by" k 1 C_segments_by) (c_lines_of : Cal P W K mg base "lines_of" k 1 C_lines_of) (hC : ∀ as S R, as.length = 1 → C as S R → (G_segments_by C_segments_by C_lines_of) (ent N_segments_by as) S { nx := fun _ S' => R .none S', rt := R }) : Pro P W K mg base (k + 1) f fd ["figure"] (spC K 1 C) := by
  have nd := sc_segments_by.nd
  exact dfn_ok F sc_segments_by rfl (by decide) (fun cdv A outer s H E hr =>
    (s_cons (s_if (t_din T.t_PARTS (b_of (d_ix (b_var 0) (b_of d_int))))
    (s_cons (s_set 1 nd (d_tup a_nil))
    (s_cons (s_for PassesOwn.never rfl (i_tup (b_of (d_slice (b_var 0) (o_some (b_of d_int)) o_none))) (g_name 2 nd)
    (s_one (s_set 1 nd (d_add (b_var 1) (b_of (d_call c_segments_by (hr.mono (by omega)) (c_dat (d_var 2) c_nil)))))))
    (s_one (s_retV 1))))
    s_nil)
    (s_one (s_ret (d_if (t_cmp (op_neH hr) sNe (b_of (d_ix (b_var 0) (b_of d_int))) (b_of d_str)) (d_call c_lines_of (hr.mono (by omega)) (c_dat (d_var 0) c_nil)) (d_tup a_nil)))))) hC
theorem bd_segments_by {k : Nat} {C_segments_by C_lines_of : Ct} {C : Ct} (T : Txt W K mg) {f : Addr} {fd : FuncData} (F : Fun K "segments_by" "segments_by" s_segments_by f fd) (hm : mg "segments_by" = some (.ref f)) (hb : Binds K fd ["figure"] []) (c_segments_by : Cal P W K mg base "segments_by" k 1 C_segments_by) (c_lines_of : Cal P W K mg base "lines_of" k 1 C_lines_of) (hC : ∀ as S R, as.length = 1 → C as S R → (G_segments_by C_segments_by C_lines_of) (ent N_segments_by as) S { nx := fun _ S' => R .none S', rt := R }) : Cal P W K mg base "segments_by" (k + 1) 1 C := ⟨f, fd, _, ok_segments_by T F hm hb c_segments_by c_lines_of hC, F.kp, hb, hm⟩
/-! is_figured -/
abbrev s_is_figured : Stmt := top 19
abbrev N_is_figured : List Str := ["value"]
theorem sc_is_figured : FnScope N_is_figured ["value"] (defScope s_is_figured) := ⟨rfl, rfl, rfl, by decide +kernel, rfl, by decide +kernel, by decide +kernel⟩
def G_is_figured (C_segments_by C_is_shaped : Ct) : FS :=
    (sRet (fAnd (fCall C_is_shaped (gDat (fVar 0) (gDat (fC (.int 6)) gaNil))) (fOp oLe (fUn oLen (fCall C_segments_by (gDat (fVar 0) gaNil))) (fC (.int 24)))))
theorem ok_is_figured {k : Nat} {C_segments_by C_is_shaped : Ct} {C : Ct} (T : Txt W K mg) {f : Addr} {fd : FuncData} (F : Fun K "is_figured" "is_figured" s_is_figured f fd) (hm : mg "is_figured" = some (.ref f)) (hb : Binds K fd ["value"] []) (c_segments_by : Cal P W K mg base "segments_by" k 1 C_segments_by) (c_is_shaped : Cal P W K mg base "is_shaped" k 2 C_is_shaped) (hC : ∀ as S R, as.length = 1 → C as S R → (G_is_figured C_segments_by C_is_shaped) (ent N_is_figured as) S { nx := fun _ S' => R .none S', rt := R }) : Pro P W K mg base (k + 1) f fd ["value"] (spC K 1 C) := by
  have nd := sc_is_figured.nd
  exact dfn_ok F sc_is_figured rfl (by decide) (fun cdv A outer s H E hr =>
    (s_one (s_ret (d_and (b_of (d_call c_is_shaped (hr.mono (by omega)) (c_dat (d_var 0) (c_dat (d_glob T.g_MOST_DEEP) c_nil)))) (d_one (d_cmp op_le sIntB (b_of (d_callB call_len sLen (b_of (d_call c_segments_by (hr.mono (by omega)) (c_dat (d_var 0) c_nil))) T.z_len PySem.boot_len)) (b_of (d_glob T.g_MOST_SEGMENTS)))))))) hC
theorem bd_is_figured {k : Nat} {C_segments_by C_is_shaped : Ct} {C : Ct} (T : Txt W K mg) {f : Addr} {fd : FuncData} (F : Fun K "is_figured" "is_figured" s_is_figured f fd) (hm : mg "is_figured" = some (.ref f)) (hb : Binds K fd ["value"] []) (c_segments_by : Cal P W K mg base "segments_by" k 1 C_segments_by) (c_is_shaped : Cal P W K mg base "is_shaped" k 2 C_is_shaped) (hC : ∀ as S R, as.length = 1 → C as S R → (G_is_figured C_segments_by C_is_shaped) (ent N_is_figured as) S { nx := fun _ S' => R .none S', rt := R }) : Cal P W K mg base "is_figured" (k + 1) 1 C := ⟨f, fd, _, ok_is_figured T F hm hb c_segments_by c_is_shaped hC, F.kp, hb, hm⟩
/-! is_figure -/
abbrev s_is_figure : Stmt := top 21
abbrev N_is_figure : List Str := ["value"]
theorem sc_is_figure : FnScope N_is_figure ["value"] (defScope s_is_figure) := ⟨rfl, rfl, rfl, by decide +kernel, rfl, by decide +kernel, by decide +kernel⟩
def G_is_figure (C_is_figured : Ct) : FS :=
    (sRet (fCall C_is_figured (gDat (fVar 0) gaNil)))
theorem ok_is_figure {k : Nat} {C_is_figured : Ct} {C : Ct} (T : Txt W K mg) {f : Addr} {fd : FuncData} (F : Fun K "is_figure" "is_figure" s_is_figure f fd) (hm : mg "is_figure" = some (.ref f)) (hb : Binds K fd ["value"] []) (c_is_figured : Cal P W K mg base "is_figured" k 1 C_is_figured) (hC : ∀ as S R, as.length = 1 → C as S R → (G_is_figure C_is_figured) (ent N_is_figure as) S { nx := fun _ S' => R .none S', rt := R }) : Pro P W K mg base (k + 1) f fd ["value"] (spC K 1 C) := by
  have nd := sc_is_figure.nd
  exact dfn_ok F sc_is_figure rfl (by decide) (fun cdv A outer s H E hr =>
    (s_one (s_ret (d_call c_is_figured (hr.mono (by omega)) (c_dat (d_var 0) c_nil))))) hC
theorem bd_is_figure {k : Nat} {C_is_figured : Ct} {C : Ct} (T : Txt W K mg) {f : Addr} {fd : FuncData} (F : Fun K "is_figure" "is_figure" s_is_figure f fd) (hm : mg "is_figure" = some (.ref f)) (hb : Binds K fd ["value"] []) (c_is_figured : Cal P W K mg base "is_figured" k 1 C_is_figured) (hC : ∀ as S R, as.length = 1 → C as S R → (G_is_figure C_is_figured) (ent N_is_figure as) S { nx := fun _ S' => R .none S', rt := R }) : Cal P W K mg base "is_figure" (k + 1) 1 C := ⟨f, fd, _, ok_is_figure T F hm hb c_is_figured hC, F.kp, hb, hm⟩
/-! _law_spring -/
abbrev s_law_spring : Stmt := top 23
abbrev N_law_spring : List Str := ["_law_script", "_law_turn", "_law_mixed", "_law_cell", "_law_own"]
theorem sc_law_spring : FnScope N_law_spring ["_law_script", "_law_turn"] (defScope s_law_spring) := ⟨rfl, rfl, rfl, by decide +kernel, rfl, by decide +kernel, by decide +kernel⟩
def G_law_spring : FS :=
    (sSeq (sSet 2 (fOp oAdd (fC (.int 722251)) (fOp (oIC CMulA fun i j => .int (i * j)) (fC (.int 9241)) (fVarB 1))))
    (sSeq (sFor (fiL (fSl (fVarB 0) fNoP (fP (fC (.int 9))))) (gNm 3)
    (sSet 2 (fOp (oIC (fun _ j => 0 < j) fun i j => .int (i % j)) (fUn oInt (fOp oAdd (fOp oAdd (fOp (oIC CMulA fun i j => .int (i * j)) (fVarB 2) (fC (.int 58027))) (fOp (oIC (fun _ j => 0 < j) fun i j => .int (i % j)) (fUn oInt (fVarB 3)) (fC (.int 2147483587)))) (fC (.int 19)))) (fC (.int 2147483629)))))
    (sSeq (sSet 4 (fIf (fOp oLt (fVarB 1) (fUn oLen (fVarB 0))) (fUn oInt (fOp oIx (fVarB 0) (fVarB 1))) (fC (.int 0))))
    (sSeq (sSet 2 (fOp (oIC (fun _ j => 0 < j) fun i j => .int (i % j)) (fUn oInt (fOp oAdd (fOp oAdd (fOp (oIC CMulA fun i j => .int (i * j)) (fVarB 2) (fC (.int 61))) (fOp (oIC CMulA fun i j => .int (i * j)) (fOp (oIC (fun _ j => 0 < j) fun i j => .int (i % j)) (fUn oInt (fVarB 4)) (fC (.int 2147483587))) (fC (.int 30011)))) (fC (.int 7)))) (fC (.int 2147483629))))
    (sRetNew (fLst (fCons (fIf (fOr (fOp oLt (fVarB 4) (fC (.int 0))) (fOp oGe (fVarB 4) (fOp (oIC CPow fun i j => .int (i ^ j.toNat)) (fC (.int 10)) (fC (.int 15))))) (fUn oAbs (fVarB 4)) (fC (.int 0))) (fCons (fVar 2) (fCons (fC (.int 0)) fNil)))))))))
theorem bd_law_spring {k : Nat} {C : Ct} (T : Txt W K mg) {f : Addr} {fd : FuncData} (F : Fun K "_law_spring" "_law_spring" s_law_spring f fd) (hm : mg "_law_spring" = some (.ref f)) (hb : Binds K fd ["_law_script", "_law_turn"] []) (hC : ∀ as S R, as.length = 2 → C as S R → G_law_spring (ent N_law_spring as) S { nx := fun _ _ => False, rt := fun _ _ => False, rn := fun ds S' => R (.list ds) S' }) : CalN P W K mg base "_law_spring" (k + 1) 2 C := by
  have nd := sc_law_spring.nd
  exact dfnN F sc_law_spring hm hb rfl (by decide) (fun cdv A outer s H E hr =>
    (s_cons (s_set 2 nd (d_add (b_of d_int) (b_of (d_mul (b_of d_int) (b_var 1)))))
    (s_cons (s_for PassesOwn.never rfl (i_list (d_slice (b_var 0) o_none (o_some (b_of d_int)))) (g_name 3 nd)
    (s_one (s_set 2 nd (d_mod (b_of (d_callT call_int1 sIntOf (b_of (d_add (b_of (d_add (b_of (d_mul (b_var 2) (b_of d_int))) (b_of (d_mod (b_of (d_callT call_int1 sIntOf (b_var 3) T.z_int PyProof.Rows.boot_int)) (b_of d_int))))) (b_of d_int))) T.z_int PyProof.Rows.boot_int)) (b_of d_int)))))
    (s_cons (s_set 4 nd (d_if (t_cmp op_ltA sLt (b_var 1) (b_of (d_callB call_len sLen (b_var 0) T.z_len PySem.boot_len))) (d_callT call_int1 sIntOf (b_of (d_ix (b_var 0) (b_var 1))) T.z_int PyProof.Rows.boot_int) d_int))
    (s_cons (s_set 2 nd (d_mod (b_of (d_callT call_int1 sIntOf (b_of (d_add (b_of (d_add (b_of (d_mul (b_var 2) (b_of d_int))) (b_of (d_mul (b_of (d_mod (b_of (d_callT call_int1 sIntOf (b_var 4) T.z_int PyProof.Rows.boot_int)) (b_of d_int))) (b_of d_int))))) (b_of d_int))) T.z_int PyProof.Rows.boot_int)) (b_of d_int)))
    (s_one (s_retNew (n_lst (a_cons (d_if (PW.pt (w_or (t_cmp op_ltA sLt (b_var 4) (b_of d_int)) (w_or1 (t_cmp op_ge sIntB (b_var 4) (b_of (d_pow (b_of d_int) (b_of d_int))))))) (d_callB call_abs sAbs (b_var 4) T.z_abs PyProof.Rows.boot_abs) d_int) (a_cons (d_var 2) (a_cons d_int a_nil))))))))))) hC
/-! _law_draw -/
abbrev s_law_draw : Stmt := top 24
abbrev N_law_draw : List Str := ["_law_spring_here", "_law_many", "_law_digit", "_law_seed"]
theorem sc_law_draw : FnScope N_law_draw ["_law_spring_here", "_law_many"] (defScope s_law_draw) := ⟨rfl, rfl, rfl, by decide +kernel, rfl, by decide +kernel, by decide +kernel⟩
def G_law_draw : FS :=
    (sSeq (sIf (fOp oGt (fWix 0 (fC (.int 0))) (fC (.int 0)))
    (sSeq (sWdiv 0 2 (fC (.int 0)) (fOp oDivmod (fWix 0 (fC (.int 0))) (fVarB 1)))
    (sRetV 2))
    sNext)
    (sSeq (sWput 0 (fC (.int 2)) (fOp oAdd (fWix 0 (fC (.int 2))) (fC (.int 1))))
    (sSeq (sSet 3 (fOp (oIC (fun _ j => 0 < j) fun i j => .int (i % j)) (fUn oInt (fOp oAdd (fWix 0 (fC (.int 1))) (fOp (oIC CMulA fun i j => .int (i * j)) (fC (.int 70003)) (fWix 0 (fC (.int 2)))))) (fC (.int 2147483629))))
    (sSeq (sWput 0 (fC (.int 1)) (fOp (oIC (fun _ j => 0 < j) fun i j => .int (i % j)) (fUn oInt (fOp oAdd (fOp (oIC CMulA fun i j => .int (i * j)) (fVarB 3) (fOp oAdd (fOp (oIC (fun _ j => 0 < j) fun i j => .int (i % j)) (fUn oInt (fVarB 3)) (fC (.int 6007))) (fC (.int 50021)))) (fOp (oIC CMulA fun i j => .int (i * j)) (fC (.int 29)) (fWix 0 (fC (.int 2)))))) (fC (.int 2147483629))))
    (sRet (fOp (oIC (fun _ j => 0 < j) fun i j => .int (i % j)) (fUn oInt (fOp (oIC CDivW fun i j => .int (i / j)) (fWix 0 (fC (.int 1))) (fC (.int 769)))) (fVarB 1)))))))
theorem ok_law_draw {k : Nat} {C : Ct} (T : Txt W K mg) {f : Addr} {fd : FuncData} (F : Fun K "_law_draw" "_law_draw" s_law_draw f fd) (hm : mg "_law_draw" = some (.ref f)) (hb : Binds K fd ["_law_spring_here", "_law_many"] []) (hC : ∀ as S R, as.length = 2 → C as S R → G_law_draw (ent N_law_draw as) S { nx := fun _ S' => R .none S', rt := R }) : Pro P W K mg base (k + 1) f fd ["_law_spring_here", "_law_many"] (spC K 2 C) := by
  have nd := sc_law_draw.nd
  exact dfn_ok F sc_law_draw rfl (by decide) (fun cdv A outer s H E hr =>
    (s_cons (s_if (t_cmp op_gt sIntB (b_of (d_wix 0 (b_of d_int))) (b_of d_int))
    (s_cons (s_wdiv 0 2 nd rfl (b_of (d_callB2 call_divmod sDivmod (b_of (d_wix 0 (b_of d_int))) (b_var 1) T.z_divmod PyProof.Rows.boot_divmod)) (b_of d_int))
    (s_one (s_retV 2)))
    s_nil)
    (s_cons (s_wput 0 (d_add (b_of (d_wix 0 (b_of d_int))) (b_of d_int)) (b_of d_int))
    (s_cons (s_set 3 nd (d_mod (b_of (d_callT call_int1 sIntOf (b_of (d_add (b_of (d_wix 0 (b_of d_int))) (b_of (d_mul (b_of d_int) (b_of (d_wix 0 (b_of d_int))))))) T.z_int PyProof.Rows.boot_int)) (b_of d_int)))
    (s_cons (s_wput 0 (d_mod (b_of (d_callT call_int1 sIntOf (b_of (d_add (b_of (d_mul (b_var 3) (b_of (d_add (b_of (d_mod (b_of (d_callT call_int1 sIntOf (b_var 3) T.z_int PyProof.Rows.boot_int)) (b_of d_int))) (b_of d_int))))) (b_of (d_mul (b_of d_int) (b_of (d_wix 0 (b_of d_int))))))) T.z_int PyProof.Rows.boot_int)) (b_of d_int)) (b_of d_int))
    (s_one (s_ret (d_mod (b_of (d_callT call_int1 sIntOf (b_of (d_fdiv (b_of (d_wix 0 (b_of d_int))) (b_of d_int))) T.z_int PyProof.Rows.boot_int)) (b_var 1))))))))) hC
theorem bd_law_draw {k : Nat} {C : Ct} (T : Txt W K mg) {f : Addr} {fd : FuncData} (F : Fun K "_law_draw" "_law_draw" s_law_draw f fd) (hm : mg "_law_draw" = some (.ref f)) (hb : Binds K fd ["_law_spring_here", "_law_many"] []) (hC : ∀ as S R, as.length = 2 → C as S R → G_law_draw (ent N_law_draw as) S { nx := fun _ S' => R .none S', rt := R }) : Cal P W K mg base "_law_draw" (k + 1) 2 C := ⟨f, fd, _, ok_law_draw T F hm hb hC, F.kp, hb, hm⟩
/-! _law_one_of -/
abbrev s_law_one_of : Stmt := top 25
abbrev N_law_one_of : List Str := ["_law_spring_here", "_law_some"]
theorem sc_law_one_of : FnScope N_law_one_of ["_law_spring_here", "_law_some"] (defScope s_law_one_of) := ⟨rfl, rfl, rfl, by decide +kernel, rfl, by decide +kernel, by decide +kernel⟩
def G_law_one_of (C_law_draw : Ct) : FS :=
    (sRet (fOp oIx (fVarB 1) (fCall C_law_draw (gWel 0 (gDat (fUn oLen (fVarB 1)) gaNil)))))
theorem ok_law_one_of {k : Nat} {C_law_draw : Ct} {C : Ct} (T : Txt W K mg) {f : Addr} {fd : FuncData} (F : Fun K "_law_one_of" "_law_one_of" s_law_one_of f fd) (hm : mg "_law_one_of" = some (.ref f)) (hb : Binds K fd ["_law_spring_here", "_law_some"] []) (c_law_draw : Cal P W K mg base "_law_draw" k 2 C_law_draw) (hC : ∀ as S R, as.length = 2 → C as S R → (G_law_one_of C_law_draw) (ent N_law_one_of as) S { nx := fun _ S' => R .none S', rt := R }) : Pro P W K mg base (k + 1) f fd ["_law_spring_here", "_law_some"] (spC K 2 C) := by
  have nd := sc_law_one_of.nd
  exact dfn_ok F sc_law_one_of rfl (by decide) (fun cdv A outer s H E hr =>
    (s_one (s_ret (d_ix (b_var 1) (b_of (d_call c_law_draw (hr.mono (by omega)) (c_wel 0 (c_dat (d_callB call_len sLen (b_var 1) T.z_len PySem.boot_len) c_nil)))))))) hC
theorem bd_law_one_of {k : Nat} {C_law_draw : Ct} {C : Ct} (T : Txt W K mg) {f : Addr} {fd : FuncData} (F : Fun K "_law_one_of" "_law_one_of" s_law_one_of f fd) (hm : mg "_law_one_of" = some (.ref f)) (hb : Binds K fd ["_law_spring_here", "_law_some"] []) (c_law_draw : Cal P W K mg base "_law_draw" k 2 C_law_draw) (hC : ∀ as S R, as.length = 2 → C as S R → (G_law_one_of C_law_draw) (ent N_law_one_of as) S { nx := fun _ S' => R .none S', rt := R }) : Cal P W K mg base "_law_one_of" (k + 1) 2 C := ⟨f, fd, _, ok_law_one_of T F hm hb c_law_draw hC, F.kp, hb, hm⟩
/-! _law_divisor -/
abbrev s_law_divisor : Stmt := top 26
abbrev N_law_divisor : List Str := ["_law_one", "_law_two", "_law_far", "_law_rest"]
theorem sc_law_divisor : FnScope N_law_divisor ["_law_one", "_law_two"] (defScope s_law_divisor) := ⟨rfl, rfl, rfl, by decide +kernel, rfl, by decide +kernel, by decide +kernel⟩
def G_law_divisor : FS :=
    (sSeq (sPar 2 3 (fCons (fUn oAbs (fVarB 0)) (fCons (fUn oAbs (fVarB 1)) fNil)))
    (sSeq (sWhile (fOp oNe (fVarB 3) (fC (.int 0)))
    (sPar 2 3 (fCons (fVar 3) (fCons (fOp (oIC (fun _ j => 0 < j) fun i j => .int (i % j)) (fUn oInt (fVarB 2)) (fVarB 3)) fNil))))
    (sRetV 2)))
theorem ok_law_divisor {k : Nat} {C : Ct} (T : Txt W K mg) {f : Addr} {fd : FuncData} (F : Fun K "_law_divisor" "_law_divisor" s_law_divisor f fd) (hm : mg "_law_divisor" = some (.ref f)) (hb : Binds K fd ["_law_one", "_law_two"] []) (hC : ∀ as S R, as.length = 2 → C as S R → G_law_divisor (ent N_law_divisor as) S { nx := fun _ S' => R .none S', rt := R }) : Pro P W K mg base (k + 1) f fd ["_law_one", "_law_two"] (spC K 2 C) := by
  have nd := sc_law_divisor.nd
  exact dfn_ok F sc_law_divisor rfl (by decide) (fun cdv A outer s H E hr =>
    (s_cons (s_par 2 3 rfl nd (a_cons (d_callB call_abs sAbs (b_var 0) T.z_abs PyProof.Rows.boot_abs) (a_cons (d_callB call_abs sAbs (b_var 1) T.z_abs PyProof.Rows.boot_abs) a_nil)))
    (s_cons (s_while PassesOwn.never (t_cmp (op_neH hr) sNe (b_var 3) (b_of d_int))
    (s_one (s_par 2 3 rfl nd (a_cons (d_var 3) (a_cons (d_mod (b_of (d_callT call_int1 sIntOf (b_var 2) T.z_int PyProof.Rows.boot_int)) (b_var 3)) a_nil)))))
    (s_one (s_retV 2))))) hC
theorem bd_law_divisor {k : Nat} {C : Ct} (T : Txt W K mg) {f : Addr} {fd : FuncData} (F : Fun K "_law_divisor" "_law_divisor" s_law_divisor f fd) (hm : mg "_law_divisor" = some (.ref f)) (hb : Binds K fd ["_law_one", "_law_two"] []) (hC : ∀ as S R, as.length = 2 → C as S R → G_law_divisor (ent N_law_divisor as) S { nx := fun _ S' => R .none S', rt := R }) : Cal P W K mg base "_law_divisor" (k + 1) 2 C := ⟨f, fd, _, ok_law_divisor T F hm hb hC, F.kp, hb, hm⟩
/-! _law_part -/
abbrev s_law_part : Stmt := top 27
abbrev N_law_part : List Str := ["_law_top", "_law_base", "_law_far"]
theorem sc_law_part : FnScope N_law_part ["_law_top", "_law_base"] (defScope s_law_part) := ⟨rfl, rfl, rfl, by decide +kernel, rfl, by decide +kernel, by decide +kernel⟩
def G_law_part (C_law_divisor : Ct) : FS :=
    (sSeq (sSet 2 (fIf (fOp oGt (fVarB 1) (fC (.int 0))) (fCall C_law_divisor (gDat (fVar 0) (gDat (fVar 1) gaNil))) (fOp (oI fun i j => .int (i - j)) (fC (.int 0)) (fCall C_law_divisor (gDat (fVar 0) (gDat (fVar 1) gaNil))))))
    (sRet (fTup (fCons (fOp (oIC CDivW fun i j => .int (i / j)) (fVarB 0) (fVarB 2)) (fCons (fOp (oIC CDivW fun i j => .int (i / j)) (fVarB 1) (fVarB 2)) fNil)))))
theorem ok_law_part {k : Nat} {C_law_divisor : Ct} {C : Ct} (T : Txt W K mg) {f : Addr} {fd : FuncData} (F : Fun K "_law_part" "_law_part" s_law_part f fd) (hm : mg "_law_part" = some (.ref f)) (hb : Binds K fd ["_law_top", "_law_base"] []) (c_law_divisor : Cal P W K mg base "_law_divisor" k 2 C_law_divisor) (hC : ∀ as S R, as.length = 2 → C as S R → (G_law_part C_law_divisor) (ent N_law_part as) S { nx := fun _ S' => R .none S', rt := R }) : Pro P W K mg base (k + 1) f fd ["_law_top", "_law_base"] (spC K 2 C) := by
  have nd := sc_law_part.nd
  exact dfn_ok F sc_law_part rfl (by decide) (fun cdv A outer s H E hr =>
    (s_cons (s_set 2 nd (d_if (t_cmp op_gt sIntB (b_var 1) (b_of d_int)) (d_call c_law_divisor (hr.mono (by omega)) (c_dat (d_var 0) (c_dat (d_var 1) c_nil))) (d_sub (b_of d_int) (b_of (d_call c_law_divisor (hr.mono (by omega)) (c_dat (d_var 0) (c_dat (d_var 1) c_nil)))))))
    (s_one (s_ret (d_tup (a_cons (d_fdiv (b_var 0) (b_var 2)) (a_cons (d_fdiv (b_var 1) (b_var 2)) a_nil))))))) hC
theorem bd_law_part {k : Nat} {C_law_divisor : Ct} {C : Ct} (T : Txt W K mg) {f : Addr} {fd : FuncData} (F : Fun K "_law_part" "_law_part" s_law_part f fd) (hm : mg "_law_part" = some (.ref f)) (hb : Binds K fd ["_law_top", "_law_base"] []) (c_law_divisor : Cal P W K mg base "_law_divisor" k 2 C_law_divisor) (hC : ∀ as S R, as.length = 2 → C as S R → (G_law_part C_law_divisor) (ent N_law_part as) S { nx := fun _ S' => R .none S', rt := R }) : Cal P W K mg base "_law_part" (k + 1) 2 C := ⟨f, fd, _, ok_law_part T F hm hb c_law_divisor hC, F.kp, hb, hm⟩
/-! _law_frame -/
abbrev s_law_frame : Stmt := top 28
abbrev N_law_frame : List Str := ["_law_spring_here", "_law_wide_here", "_law_x", "_law_y", "_law_step", "_law_under"]
theorem sc_law_frame : FnScope N_law_frame ["_law_spring_here"] (defScope s_law_frame) := ⟨rfl, rfl, rfl, by decide +kernel, rfl, by decide +kernel, by decide +kernel⟩
def G_law_frame (C_law_one_of : Ct) : FS :=
    (sSeq (sSet 1 (fCall C_law_one_of (gWel 0 (gDat (fTup (fCons (fC (.int 3)) (fCons (fC (.int 4)) (fCons (fC (.int 5)) fNil)))) gaNil))))
    (sSeq (sAsg (fCall C_law_one_of (gWel 0 (gDat (fTup (fCons (fTup (fCons (fC (.int 0)) (fCons (fC (.int 0)) (fCons (fC (.int 1)) (fCons (fC (.int 1)) fNil))))) (fCons (fTup (fCons (fC (.int 0)) (fCons (fC (.int 0)) (fCons (fC (.int 1)) (fCons (fC (.int 1)) fNil))))) (fCons (fTup (fCons (fUn oNeg (fC (.int 2))) (fCons (fUn oNeg (fC (.int 1))) (fCons (fC (.int 1)) (fCons (fC (.int 1)) fNil))))) (fCons (fTup (fCons (fUn oNeg (fC (.int 3))) (fCons (fC (.int 1)) (fCons (fC (.int 1)) (fCons (fC (.int 2)) fNil))))) (fCons (fTup (fCons (fC (.int 0)) (fCons (fUn oNeg (fC (.int 5))) (fCons (fC (.int 2)) (fCons (fC (.int 3)) fNil))))) (fCons (fTup (fCons (fC (.int 1)) (fCons (fC (.int 1)) (fCons (fC (.int 5)) (fCons (fC (.int 6)) fNil))))) (fCons (fTup (fCons (fUn oNeg (fC (.int 700000))) (fCons (fC (.int 250001)) (fCons (fC (.int 100003)) (fCons (fC (.int 1)) fNil))))) (fCons (fTup (fCons (fUn oNeg (fC (.int 1))) (fCons (fUn oNeg (fC (.int 2))) (fCons (fC (.int 2)) (fCons (fC (.int 1)) fNil))))) fNil))))))))) gaNil))) (gTp 4 (gsCons (gNm 2) (gsCons (gNm 3) (gsCons (gNm 4) (gsCons (gNm 5) gsNil))))))
    (sRet (fTup (fCons (fVar 2) (fCons (fVar 3) (fCons (fVar 4) (fCons (fVar 5) (fCons (fVar 1) fNil)))))))))
theorem ok_law_frame {k : Nat} {C_law_one_of : Ct} {C : Ct} (T : Txt W K mg) {f : Addr} {fd : FuncData} (F : Fun K "_law_frame" "_law_frame" s_law_frame f fd) (hm : mg "_law_frame" = some (.ref f)) (hb : Binds K fd ["_law_spring_here"] []) (c_law_one_of : Cal P W K mg base "_law_one_of" k 2 C_law_one_of) (hC : ∀ as S R, as.length = 1 → C as S R → (G_law_frame C_law_one_of) (ent N_law_frame as) S { nx := fun _ S' => R .none S', rt := R }) : Pro P W K mg base (k + 1) f fd ["_law_spring_here"] (spC K 1 C) := by
  have nd := sc_law_frame.nd
  exact dfn_ok F sc_law_frame rfl (by decide) (fun cdv A outer s H E hr =>
    (s_cons (s_set 1 nd (d_call c_law_one_of (hr.mono (by omega)) (c_wel 0 (c_dat (d_tup (a_cons d_int (a_cons d_int (a_cons d_int a_nil)))) c_nil))))
    (s_cons (s_asg (d_call c_law_one_of (hr.mono (by omega)) (c_wel 0 (c_dat (d_tup (a_cons (d_tup (a_cons d_int (a_cons d_int (a_cons d_int (a_cons d_int a_nil))))) (a_cons (d_tup (a_cons d_int (a_cons d_int (a_cons d_int (a_cons d_int a_nil))))) (a_cons (d_tup (a_cons (d_neg (b_of d_int)) (a_cons (d_neg (b_of d_int)) (a_cons d_int (a_cons d_int a_nil))))) (a_cons (d_tup (a_cons (d_neg (b_of d_int)) (a_cons d_int (a_cons d_int (a_cons d_int a_nil))))) (a_cons (d_tup (a_cons d_int (a_cons (d_neg (b_of d_int)) (a_cons d_int (a_cons d_int a_nil))))) (a_cons (d_tup (a_cons d_int (a_cons d_int (a_cons d_int (a_cons d_int a_nil))))) (a_cons (d_tup (a_cons (d_neg (b_of d_int)) (a_cons d_int (a_cons d_int (a_cons d_int a_nil))))) (a_cons (d_tup (a_cons (d_neg (b_of d_int)) (a_cons (d_neg (b_of d_int)) (a_cons d_int (a_cons d_int a_nil))))) a_nil))))))))) c_nil))) (g_tup rfl (gs_cons (g_name 2 nd) (gs_cons (g_name 3 nd) (gs_cons (g_name 4 nd) (gs_cons (g_name 5 nd) gs_nil))))))
    (s_one (s_ret (d_tup (a_cons (d_var 2) (a_cons (d_var 3) (a_cons (d_var 4) (a_cons (d_var 5) (a_cons (d_var 1) a_nil))))))))))) hC
theorem bd_law_frame {k : Nat} {C_law_one_of : Ct} {C : Ct} (T : Txt W K mg) {f : Addr} {fd : FuncData} (F : Fun K "_law_frame" "_law_frame" s_law_frame f fd) (hm : mg "_law_frame" = some (.ref f)) (hb : Binds K fd ["_law_spring_here"] []) (c_law_one_of : Cal P W K mg base "_law_one_of" k 2 C_law_one_of) (hC : ∀ as S R, as.length = 1 → C as S R → (G_law_frame C_law_one_of) (ent N_law_frame as) S { nx := fun _ S' => R .none S', rt := R }) : Cal P W K mg base "_law_frame" (k + 1) 1 C := ⟨f, fd, _, ok_law_frame T F hm hb c_law_one_of hC, F.kp, hb, hm⟩
/-! _law_grid -/
abbrev s_law_grid : Stmt := top 29
abbrev N_law_grid : List Str := ["_law_frame_here", "_law_i", "_law_j", "_law_n", "_law_x", "_law_y", "_law_step", "_law_under", "_law_wide_here"]
theorem sc_law_grid : FnScope N_law_grid ["_law_frame_here", "_law_i", "_law_j", "_law_n"] (defScope s_law_grid) := ⟨rfl, rfl, rfl, by decide +kernel, rfl, by decide +kernel, by decide +kernel⟩
def G_law_grid (C_law_part : Ct) : FS :=
    (sSeq (sAsg (fVar 0) (gTp 5 (gsCons (gNm 4) (gsCons (gNm 5) (gsCons (gNm 6) (gsCons (gNm 7) (gsCons (gNm 8) gsNil)))))))
    (sRet (fTup (fCons (fCall C_law_part (gDat (fOp oAdd (fOp (oIC CMulA fun i j => .int (i * j)) (fVarB 4) (fVarB 3)) (fOp (oIC CMulA fun i j => .int (i * j)) (fVarB 6) (fVarB 1))) (gDat (fOp (oIC CMulA fun i j => .int (i * j)) (fVarB 7) (fVarB 3)) gaNil))) (fCons (fCall C_law_part (gDat (fOp oAdd (fOp (oIC CMulA fun i j => .int (i * j)) (fVarB 5) (fVarB 3)) (fOp (oIC CMulA fun i j => .int (i * j)) (fVarB 6) (fVarB 2))) (gDat (fOp (oIC CMulA fun i j => .int (i * j)) (fVarB 7) (fVarB 3)) gaNil))) fNil)))))
theorem ok_law_grid {k : Nat} {C_law_part : Ct} {C : Ct} (T : Txt W K mg) {f : Addr} {fd : FuncData} (F : Fun K "_law_grid" "_law_grid" s_law_grid f fd) (hm : mg "_law_grid" = some (.ref f)) (hb : Binds K fd ["_law_frame_here", "_law_i", "_law_j", "_law_n"] []) (c_law_part : Cal P W K mg base "_law_part" k 2 C_law_part) (hC : ∀ as S R, as.length = 4 → C as S R → (G_law_grid C_law_part) (ent N_law_grid as) S { nx := fun _ S' => R .none S', rt := R }) : Pro P W K mg base (k + 1) f fd ["_law_frame_here", "_law_i", "_law_j", "_law_n"] (spC K 4 C) := by
  have nd := sc_law_grid.nd
  exact dfn_ok F sc_law_grid rfl (by decide) (fun cdv A outer s H E hr =>
    (s_cons (s_asg (d_var 0) (g_tup rfl (gs_cons (g_name 4 nd) (gs_cons (g_name 5 nd) (gs_cons (g_name 6 nd) (gs_cons (g_name 7 nd) (gs_cons (g_name 8 nd) gs_nil)))))))
    (s_one (s_ret (d_tup (a_cons (d_call c_law_part (hr.mono (by omega)) (c_dat (d_add (b_of (d_mul (b_var 4) (b_var 3))) (b_of (d_mul (b_var 6) (b_var 1)))) (c_dat (d_mul (b_var 7) (b_var 3)) c_nil))) (a_cons (d_call c_law_part (hr.mono (by omega)) (c_dat (d_add (b_of (d_mul (b_var 5) (b_var 3))) (b_of (d_mul (b_var 6) (b_var 2)))) (c_dat (d_mul (b_var 7) (b_var 3)) c_nil))) a_nil))))))) hC
theorem bd_law_grid {k : Nat} {C_law_part : Ct} {C : Ct} (T : Txt W K mg) {f : Addr} {fd : FuncData} (F : Fun K "_law_grid" "_law_grid" s_law_grid f fd) (hm : mg "_law_grid" = some (.ref f)) (hb : Binds K fd ["_law_frame_here", "_law_i", "_law_j", "_law_n"] []) (c_law_part : Cal P W K mg base "_law_part" k 2 C_law_part) (hC : ∀ as S R, as.length = 4 → C as S R → (G_law_grid C_law_part) (ent N_law_grid as) S { nx := fun _ S' => R .none S', rt := R }) : Cal P W K mg base "_law_grid" (k + 1) 4 C := ⟨f, fd, _, ok_law_grid T F hm hb c_law_part hC, F.kp, hb, hm⟩
/-! _law_dot -/
abbrev s_law_dot : Stmt := top 30
abbrev N_law_dot : List Str := ["_law_spring_here", "_law_frame_here", "_law_n", "_law_i", "_law_j"]
theorem sc_law_dot : FnScope N_law_dot ["_law_spring_here", "_law_frame_here"] (defScope s_law_dot) := ⟨rfl, rfl, rfl, by decide +kernel, rfl, by decide +kernel, by decide +kernel⟩
def G_law_dot (C_law_one_of C_law_draw C_law_grid : Ct) : FS :=
    (sSeq (sSet 2 (fCall C_law_one_of (gWel 0 (gDat (fTup (fCons (fC (.int 1)) (fCons (fC (.int 1)) (fCons (fC (.int 2)) (fCons (fC (.int 2)) (fCons (fC (.int 3)) fNil)))))) gaNil))))
    (sSeq (sPar 3 4 (fCons (fCall C_law_draw (gWel 0 (gDat (fOp oAdd (fOp (oIC CMulA fun i j => .int (i * j)) (fVarB 2) (fOp oIx (fVarB 1) (fC (.int 4)))) (fC (.int 1))) gaNil))) (fCons (fCall C_law_draw (gWel 0 (gDat (fOp oAdd (fOp (oIC CMulA fun i j => .int (i * j)) (fVarB 2) (fOp oIx (fVarB 1) (fC (.int 4)))) (fC (.int 1))) gaNil))) fNil)))
    (sRet (fCall C_law_grid (gDat (fVar 1) (gDat (fVar 3) (gDat (fVar 4) (gDat (fVar 2) gaNil))))))))
theorem ok_law_dot {k : Nat} {C_law_one_of C_law_draw C_law_grid : Ct} {C : Ct} (T : Txt W K mg) {f : Addr} {fd : FuncData} (F : Fun K "_law_dot" "_law_dot" s_law_dot f fd) (hm : mg "_law_dot" = some (.ref f)) (hb : Binds K fd ["_law_spring_here", "_law_frame_here"] []) (c_law_one_of : Cal P W K mg base "_law_one_of" k 2 C_law_one_of) (c_law_draw : Cal P W K mg base "_law_draw" k 2 C_law_draw) (c_law_grid : Cal P W K mg base "_law_grid" k 4 C_law_grid) (hC : ∀ as S R, as.length = 2 → C as S R → (G_law_dot C_law_one_of C_law_draw C_law_grid) (ent N_law_dot as) S { nx := fun _ S' => R .none S', rt := R }) : Pro P W K mg base (k + 1) f fd ["_law_spring_here", "_law_frame_here"] (spC K 2 C) := by
  have nd := sc_law_dot.nd
  exact dfn_ok F sc_law_dot rfl (by decide) (fun cdv A outer s H E hr =>
    (s_cons (s_set 2 nd (d_call c_law_one_of (hr.mono (by omega)) (c_wel 0 (c_dat (d_tup (a_cons d_int (a_cons d_int (a_cons d_int (a_cons d_int (a_cons d_int a_nil)))))) c_nil))))
    (s_cons (s_par 3 4 rfl nd (a_cons (d_call c_law_draw (hr.mono (by omega)) (c_wel 0 (c_dat (d_add (b_of (d_mul (b_var 2) (b_of (d_ix (b_var 1) (b_of d_int))))) (b_of d_int)) c_nil))) (a_cons (d_call c_law_draw (hr.mono (by omega)) (c_wel 0 (c_dat (d_add (b_of (d_mul (b_var 2) (b_of (d_ix (b_var 1) (b_of d_int))))) (b_of d_int)) c_nil))) a_nil)))
    (s_one (s_ret (d_call c_law_grid (hr.mono (by omega)) (c_dat (d_var 1) (c_dat (d_var 3) (c_dat (d_var 4) (c_dat (d_var 2) c_nil)))))))))) hC
theorem bd_law_dot {k : Nat} {C_law_one_of C_law_draw C_law_grid : Ct} {C : Ct} (T : Txt W K mg) {f : Addr} {fd : FuncData} (F : Fun K "_law_dot" "_law_dot" s_law_dot f fd) (hm : mg "_law_dot" = some (.ref f)) (hb : Binds K fd ["_law_spring_here", "_law_frame_here"] []) (c_law_one_of : Cal P W K mg base "_law_one_of" k 2 C_law_one_of) (c_law_draw : Cal P W K mg base "_law_draw" k 2 C_law_draw) (c_law_grid : Cal P W K mg base "_law_grid" k 4 C_law_grid) (hC : ∀ as S R, as.length = 2 → C as S R → (G_law_dot C_law_one_of C_law_draw C_law_grid) (ent N_law_dot as) S { nx := fun _ S' => R .none S', rt := R }) : Cal P W K mg base "_law_dot" (k + 1) 2 C := ⟨f, fd, _, ok_law_dot T F hm hb c_law_one_of c_law_draw c_law_grid hC, F.kp, hb, hm⟩
/-! _law_row -/
abbrev s_law_row : Stmt := top 31
abbrev N_law_row : List Str := ["_law_spring_here", "_law_frame_here", "_law_many", "_law_is_closed", "_law_wide_here", "_law_found", "_law_turn", "_law_shut", "_law_each"]
theorem sc_law_row : FnScope N_law_row ["_law_spring_here", "_law_frame_here", "_law_many", "_law_is_closed"] (defScope s_law_row) := ⟨rfl, rfl, rfl, by decide +kernel, rfl, by decide +kernel, by decide +kernel⟩
def G_law_row (C_law_draw C_law_one_of C_law_grid : Ct) : FS :=
    (sSeq (sSet 4 (fOp oIx (fVarB 1) (fC (.int 4))))
    (sSeq (sOwn 5 (fLst (fCons (fCall C_law_draw (gWel 0 (gDat (fOp (oIC CMulA fun i j => .int (i * j)) (fVarB 4) (fVarB 4)) gaNil))) fNil)))
    (sSeq (sFor (fiR2 (fC (.int 1)) (fVarB 2)) (gNm 6)
    (sSeq (sSet 7 (fIf (fAnd (fVarB 3) (fOp oEq (fVarB 6) (fOp (oI fun i j => .int (i - j)) (fVarB 2) (fC (.int 1))))) (fLst (fCons (fOp oIx (fVarB 5) (fUn oNeg (fC (.int 1)))) (fCons (fOp oIx (fVarB 5) (fC (.int 0))) fNil))) (fLst (fCons (fOp oIx (fVarB 5) (fUn oNeg (fC (.int 1)))) fNil))))
    (sApp 5 (fCall C_law_one_of (gWel 0 (gDat (fLc (fiR1 (fOp (oIC CMulA fun i j => .int (i * j)) (fVarB 4) (fVarB 4))) [8] (gNm 8) (fOp (oIn true) (fVarB 8) (fVarB 7)) (fVar 8)) gaNil))))))
    (sRet (fUn oTuple (fLc (fiL (fVarB 5)) [8] (gNm 8) (fC (.bool true)) (fCall C_law_grid (gDat (fVar 1) (gDat (fOp (oIC CDivW fun i j => .int (i / j)) (fVarB 8) (fVarB 4)) (gDat (fOp (oIC (fun _ j => 0 < j) fun i j => .int (i % j)) (fUn oInt (fVarB 8)) (fVarB 4)) (gDat (fC (.int 1)) gaNil)))))))))))
theorem ok_law_row {k : Nat} {C_law_draw C_law_one_of C_law_grid : Ct} {C : Ct} (T : Txt W K mg) {f : Addr} {fd : FuncData} (F : Fun K "_law_row" "_law_row" s_law_row f fd) (hm : mg "_law_row" = some (.ref f)) (hb : Binds K fd ["_law_spring_here", "_law_frame_here", "_law_many", "_law_is_closed"] []) (c_law_draw : Cal P W K mg base "_law_draw" k 2 C_law_draw) (c_law_one_of : Cal P W K mg base "_law_one_of" k 2 C_law_one_of) (c_law_grid : Cal P W K mg base "_law_grid" k 4 C_law_grid) (hC : ∀ as S R, as.length = 4 → C as S R → (G_law_row C_law_draw C_law_one_of C_law_grid) (ent N_law_row as) S { nx := fun _ S' => R .none S', rt := R }) : Pro P W K mg base (k + 1) f fd ["_law_spring_here", "_law_frame_here", "_law_many", "_law_is_closed"] (spC K 4 C) := by
  have nd := sc_law_row.nd
  exact dfn_ok F sc_law_row rfl (by decide) (fun cdv A outer s H E hr =>
    (s_cons (s_set 4 nd (d_ix (b_var 1) (b_of d_int)))
    (s_cons (s_own 5 nd (n_lst (a_cons (d_call c_law_draw (hr.mono (by omega)) (c_wel 0 (c_dat (d_mul (b_var 4) (b_var 4)) c_nil))) a_nil)))
    (s_cons (s_for PassesOwn.never rfl (i_range2 (b_of d_int) (b_var 2) T.z_range) (g_name 6 nd)
    (s_cons (s_set 7 nd (d_if (PW.pt (w_and (t_val (b_var 3)) (w_and1 (t_cmp (op_eqH hr) sEq (b_var 6) (b_of (d_sub (b_var 2) (b_of d_int))))))) (d_lst (a_cons (d_ix (b_var 5) (b_of (d_neg (b_of d_int)))) (a_cons (d_ix (b_var 5) (b_of d_int)) a_nil))) (d_lst (a_cons (d_ix (b_var 5) (b_of (d_neg (b_of d_int)))) a_nil))))
    (s_one (s_app 5 (d_call c_law_one_of (hr.mono (by omega)) (c_wel 0 (c_dat (d_of_n (n_lc rfl nd (ic_of (i_range1 (b_of (d_mul (b_var 4) (b_var 4))) T.z_range)) (blkOk_by (own := [("_law_each", 8)]) (N := N_law_row) (sc := defScope s_law_row) (by decide +kernel)) (by decide) (fun _ _ _ _ _ => (g_name 8 nd)) (fun _ _ _ _ _ => (p_one (t_cmp op_notIn_seq sIn (b_var 8) (b_var 7)))) (fun _ _ _ _ _ => (d_var 8)))) c_nil)))))))
    (s_one (s_ret (d_callT call_tuple_of sTuple (b_of (d_of_n (n_lc rfl nd (ib_list (b_var 5)) (blkOk_by (own := [("_law_each", 8)]) (N := N_law_row) (sc := defScope s_law_row) (by decide +kernel)) (by decide) (fun _ _ _ _ _ => (g_name 8 nd)) (fun _ _ _ _ _ => p_nil) (fun _ _ _ _ _ => (d_call c_law_grid (hr.mono (by omega)) (c_dat (d_var 1) (c_dat (d_fdiv (b_var 8) (b_var 4)) (c_dat (d_mod (b_of (d_callT call_int1 sIntOf (b_var 8) T.z_int PyProof.Rows.boot_int)) (b_var 4)) (c_dat d_int c_nil))))))))) T.z_tuple PyProof.Rows.boot_tuple))))))) hC
theorem bd_law_row {k : Nat} {C_law_draw C_law_one_of C_law_grid : Ct} {C : Ct} (T : Txt W K mg) {f : Addr} {fd : FuncData} (F : Fun K "_law_row" "_law_row" s_law_row f fd) (hm : mg "_law_row" = some (.ref f)) (hb : Binds K fd ["_law_spring_here", "_law_frame_here", "_law_many", "_law_is_closed"] []) (c_law_draw : Cal P W K mg base "_law_draw" k 2 C_law_draw) (c_law_one_of : Cal P W K mg base "_law_one_of" k 2 C_law_one_of) (c_law_grid : Cal P W K mg base "_law_grid" k 4 C_law_grid) (hC : ∀ as S R, as.length = 4 → C as S R → (G_law_row C_law_draw C_law_one_of C_law_grid) (ent N_law_row as) S { nx := fun _ S' => R .none S', rt := R }) : Cal P W K mg base "_law_row" (k + 1) 4 C := ⟨f, fd, _, ok_law_row T F hm hb c_law_draw c_law_one_of c_law_grid hC, F.kp, hb, hm⟩
/-! _law_box -/
abbrev s_law_box : Stmt := top 32
abbrev N_law_box : List Str := ["_law_spring_here", "_law_frame_here", "_law_i", "_law_j", "_law_k", "_law_m", "_law_row_here"]
theorem sc_law_box : FnScope N_law_box ["_law_spring_here", "_law_frame_here"] (defScope s_law_box) := ⟨rfl, rfl, rfl, by decide +kernel, rfl, by decide +kernel, by decide +kernel⟩
def G_law_box (C_law_draw C_law_grid : Ct) : FS :=
    (sSeq (sPar 2 3 (fCons (fCall C_law_draw (gWel 0 (gDat (fOp (oI fun i j => .int (i - j)) (fOp oIx (fVarB 1) (fC (.int 4))) (fC (.int 1))) gaNil))) (fCons (fCall C_law_draw (gWel 0 (gDat (fOp (oI fun i j => .int (i - j)) (fOp oIx (fVarB 1) (fC (.int 4))) (fC (.int 1))) gaNil))) fNil)))
    (sSeq (sPar 4 5 (fCons (fOp oAdd (fOp oAdd (fVarB 2) (fC (.int 1))) (fCall C_law_draw (gWel 0 (gDat (fOp (oI fun i j => .int (i - j)) (fOp (oI fun i j => .int (i - j)) (fOp oIx (fVarB 1) (fC (.int 4))) (fC (.int 1))) (fVarB 2)) gaNil)))) (fCons (fOp oAdd (fOp oAdd (fVarB 3) (fC (.int 1))) (fCall C_law_draw (gWel 0 (gDat (fOp (oI fun i j => .int (i - j)) (fOp (oI fun i j => .int (i - j)) (fOp oIx (fVarB 1) (fC (.int 4))) (fC (.int 1))) (fVarB 3)) gaNil)))) fNil)))
    (sSeq (sSet 6 (fLst (fCons (fCall C_law_grid (gDat (fVar 1) (gDat (fVar 2) (gDat (fVar 3) (gDat (fC (.int 1)) gaNil))))) (fCons (fCall C_law_grid (gDat (fVar 1) (gDat (fVar 4) (gDat (fVar 3) (gDat (fC (.int 1)) gaNil))))) (fCons (fCall C_law_grid (gDat (fVar 1) (gDat (fVar 4) (gDat (fVar 5) (gDat (fC (.int 1)) gaNil))))) (fCons (fCall C_law_grid (gDat (fVar 1) (gDat (fVar 2) (gDat (fVar 5) (gDat (fC (.int 1)) gaNil))))) fNil))))))
    (sRet (fUn oTuple (fIf (fOp oGt (fCall C_law_draw (gWel 0 (gDat (fC (.int 3)) gaNil))) (fC (.int 0))) (fVar 6) (fUn oBack (fVarB 6))))))))
theorem ok_law_box {k : Nat} {C_law_draw C_law_grid : Ct} {C : Ct} (T : Txt W K mg) {f : Addr} {fd : FuncData} (F : Fun K "_law_box" "_law_box" s_law_box f fd) (hm : mg "_law_box" = some (.ref f)) (hb : Binds K fd ["_law_spring_here", "_law_frame_here"] []) (c_law_draw : Cal P W K mg base "_law_draw" k 2 C_law_draw) (c_law_grid : Cal P W K mg base "_law_grid" k 4 C_law_grid) (hC : ∀ as S R, as.length = 2 → C as S R → (G_law_box C_law_draw C_law_grid) (ent N_law_box as) S { nx := fun _ S' => R .none S', rt := R }) : Pro P W K mg base (k + 1) f fd ["_law_spring_here", "_law_frame_here"] (spC K 2 C) := by
  have nd := sc_law_box.nd
  exact dfn_ok F sc_law_box rfl (by decide) (fun cdv A outer s H E hr =>
    (s_cons (s_par 2 3 rfl nd (a_cons (d_call c_law_draw (hr.mono (by omega)) (c_wel 0 (c_dat (d_sub (b_of (d_ix (b_var 1) (b_of d_int))) (b_of d_int)) c_nil))) (a_cons (d_call c_law_draw (hr.mono (by omega)) (c_wel 0 (c_dat (d_sub (b_of (d_ix (b_var 1) (b_of d_int))) (b_of d_int)) c_nil))) a_nil)))
    (s_cons (s_par 4 5 rfl nd (a_cons (d_add (b_of (d_add (b_var 2) (b_of d_int))) (b_of (d_call c_law_draw (hr.mono (by omega)) (c_wel 0 (c_dat (d_sub (b_of (d_sub (b_of (d_ix (b_var 1) (b_of d_int))) (b_of d_int))) (b_var 2)) c_nil))))) (a_cons (d_add (b_of (d_add (b_var 3) (b_of d_int))) (b_of (d_call c_law_draw (hr.mono (by omega)) (c_wel 0 (c_dat (d_sub (b_of (d_sub (b_of (d_ix (b_var 1) (b_of d_int))) (b_of d_int))) (b_var 3)) c_nil))))) a_nil)))
    (s_cons (s_set 6 nd (d_lst (a_cons (d_call c_law_grid (hr.mono (by omega)) (c_dat (d_var 1) (c_dat (d_var 2) (c_dat (d_var 3) (c_dat d_int c_nil))))) (a_cons (d_call c_law_grid (hr.mono (by omega)) (c_dat (d_var 1) (c_dat (d_var 4) (c_dat (d_var 3) (c_dat d_int c_nil))))) (a_cons (d_call c_law_grid (hr.mono (by omega)) (c_dat (d_var 1) (c_dat (d_var 4) (c_dat (d_var 5) (c_dat d_int c_nil))))) (a_cons (d_call c_law_grid (hr.mono (by omega)) (c_dat (d_var 1) (c_dat (d_var 2) (c_dat (d_var 5) (c_dat d_int c_nil))))) a_nil))))))
    (s_one (s_ret (d_callT call_tuple_of sTuple (b_of (d_if (t_cmp op_gt sIntB (b_of (d_call c_law_draw (hr.mono (by omega)) (c_wel 0 (c_dat d_int c_nil)))) (b_of d_int)) (d_var 6) (d_back (b_var 6)))) T.z_tuple PyProof.Rows.boot_tuple))))))) hC
theorem bd_law_box {k : Nat} {C_law_draw C_law_grid : Ct} {C : Ct} (T : Txt W K mg) {f : Addr} {fd : FuncData} (F : Fun K "_law_box" "_law_box" s_law_box f fd) (hm : mg "_law_box" = some (.ref f)) (hb : Binds K fd ["_law_spring_here", "_law_frame_here"] []) (c_law_draw : Cal P W K mg base "_law_draw" k 2 C_law_draw) (c_law_grid : Cal P W K mg base "_law_grid" k 4 C_law_grid) (hC : ∀ as S R, as.length = 2 → C as S R → (G_law_box C_law_draw C_law_grid) (ent N_law_box as) S { nx := fun _ S' => R .none S', rt := R }) : Cal P W K mg base "_law_box" (k + 1) 2 C := ⟨f, fd, _, ok_law_box T F hm hb c_law_draw c_law_grid hC, F.kp, hb, hm⟩
/-! _law_pairs -/
abbrev s_law_pairs : Stmt := top 33
abbrev N_law_pairs : List Str := ["_law_row_here", "_law_is_closed", "_law_found"]
theorem sc_law_pairs : FnScope N_law_pairs ["_law_row_here", "_law_is_closed"] (defScope s_law_pairs) := ⟨rfl, rfl, rfl, by decide +kernel, rfl, by decide +kernel, by decide +kernel⟩
def G_law_pairs : FS :=
    (sSeq (sOwn 2 (fZipL (fVar 0) (fSl (fVarB 0) (fP (fC (.int 1))) fNoP)))
    (sSeq (sIf (fVarB 1)
    (sApp 2 (fTup (fCons (fOp oIx (fVarB 0) (fUn oNeg (fC (.int 1)))) (fCons (fOp oIx (fVarB 0) (fC (.int 0))) fNil))))
    sNext)
    (sRetV 2)))
theorem ok_law_pairs {k : Nat} {C : Ct} (T : Txt W K mg) {f : Addr} {fd : FuncData} (F : Fun K "_law_pairs" "_law_pairs" s_law_pairs f fd) (hm : mg "_law_pairs" = some (.ref f)) (hb : Binds K fd ["_law_row_here", "_law_is_closed"] []) (hC : ∀ as S R, as.length = 2 → C as S R → G_law_pairs (ent N_law_pairs as) S { nx := fun _ S' => R .none S', rt := R }) : Pro P W K mg base (k + 1) f fd ["_law_row_here", "_law_is_closed"] (spC K 2 C) := by
  have nd := sc_law_pairs.nd
  exact dfn_ok F sc_law_pairs rfl (by decide) (fun cdv A outer s H E hr =>
    (s_cons (s_own 2 nd (n_zipL rfl (d_var 0) (d_slice (b_var 0) (o_some (b_of d_int)) o_none) T.z_list T.z_zip))
    (s_cons (s_if (t_val (b_var 1))
    (s_one (s_app 2 (d_tup (a_cons (d_ix (b_var 0) (b_of (d_neg (b_of d_int)))) (a_cons (d_ix (b_var 0) (b_of d_int)) a_nil)))))
    s_nil)
    (s_one (s_retV 2))))) hC
theorem bd_law_pairs {k : Nat} {C : Ct} (T : Txt W K mg) {f : Addr} {fd : FuncData} (F : Fun K "_law_pairs" "_law_pairs" s_law_pairs f fd) (hm : mg "_law_pairs" = some (.ref f)) (hb : Binds K fd ["_law_row_here", "_law_is_closed"] []) (hC : ∀ as S R, as.length = 2 → C as S R → G_law_pairs (ent N_law_pairs as) S { nx := fun _ S' => R .none S', rt := R }) : Cal P W K mg base "_law_pairs" (k + 1) 2 C := ⟨f, fd, _, ok_law_pairs T F hm hb hC, F.kp, hb, hm⟩
/-! _law_leaf -/
abbrev s_law_leaf : Stmt := top 34
abbrev N_law_leaf : List Str := ["_law_spring_here", "_law_frame_here", "_law_room", "_law_word", "_law_many"]
theorem sc_law_leaf : FnScope N_law_leaf ["_law_spring_here", "_law_frame_here", "_law_room"] (defScope s_law_leaf) := ⟨rfl, rfl, rfl, by decide +kernel, rfl, by decide +kernel, by decide +kernel⟩
def G_law_leaf (C_law_one_of C_law_draw C_law_box C_law_row C_law_dot : Ct) : FS :=
    (sSeq (sSet 3 (fCallS [0] C_law_one_of (gWel 0 (gDat (fTup (fCons (fC (.str (PySem.Str.ofString "spot"))) (fCons (fC (.str (PySem.Str.ofString "path"))) (fCons (fC (.str (PySem.Str.ofString "area"))) (fCons (fC (.str (PySem.Str.ofString "area"))) (fCons (fC (.str (PySem.Str.ofString "area"))) fNil)))))) gaNil))))
    (sSeq (sIf (fAnd (fOp oEq (fVarB 3) (fC (.str (PySem.Str.ofString "area")))) (fOp oGt (fWix 2 (fC (.int 0))) (fC (.int 2))))
    (sSeq (sSet 4 (fOp oAdd (fC (.int 3)) (fCallS [0] C_law_draw (gWel 0 (gDat (fOp (oI fun i j => .int (if j < i then j else i)) (fC (.int 3)) (fOp (oI fun i j => .int (i - j)) (fWix 2 (fC (.int 0))) (fC (.int 2)))) gaNil)))))
    (sSeq (sWput 2 (fC (.int 0)) (fOp (oI fun i j => .int (i - j)) (fWix 2 (fC (.int 0))) (fVarB 4)))
    (sSeq (sIf (fAnd (fOp oEq (fVarB 4) (fC (.int 4))) (fOp oGt (fCallS [0] C_law_draw (gWel 0 (gDat (fC (.int 3)) gaNil))) (fC (.int 0))))
    (sRet (fTup (fCons (fVar 3) (fCons (fCallS [0] C_law_box (gWel 0 (gDat (fVar 1) gaNil))) fNil))))
    sNext)
    (sRet (fTup (fCons (fVar 3) (fCons (fCallS [0] C_law_row (gWel 0 (gDat (fVar 1) (gDat (fVar 4) (gDat (fC (.bool true)) gaNil))))) fNil)))))))
    sNext)
    (sSeq (sIf (fAnd (fOp oNe (fVarB 3) (fC (.str (PySem.Str.ofString "spot")))) (fOp oGt (fWix 2 (fC (.int 0))) (fC (.int 0))))
    (sSeq (sSet 4 (fOp oAdd (fC (.int 2)) (fCallS [0] C_law_draw (gWel 0 (gDat (fOp (oI fun i j => .int (if j < i then j else i)) (fC (.int 3)) (fWix 2 (fC (.int 0)))) gaNil)))))
    (sSeq (sWput 2 (fC (.int 0)) (fOp oAdd (fOp (oI fun i j => .int (i - j)) (fWix 2 (fC (.int 0))) (fVarB 4)) (fC (.int 1))))
    (sRet (fTup (fCons (fC (.str (PySem.Str.ofString "path"))) (fCons (fCallS [0] C_law_row (gWel 0 (gDat (fVar 1) (gDat (fVar 4) (gDat (fC (.bool false)) gaNil))))) fNil))))))
    sNext)
    (sRet (fTup (fCons (fC (.str (PySem.Str.ofString "spot"))) (fCons (fCallS [0] C_law_dot (gWel 0 (gDat (fVar 1) gaNil))) fNil)))))))
theorem ok_law_leaf {k : Nat} {C_law_one_of C_law_draw C_law_box C_law_row C_law_dot : Ct} {C : Ct} (T : Txt W K mg) {f : Addr} {fd : FuncData} (F : Fun K "_law_leaf" "_law_leaf" s_law_leaf f fd) (hm : mg "_law_leaf" = some (.ref f)) (hb : Binds K fd ["_law_spring_here", "_law_frame_here", "_law_room"] []) (c_law_one_of : Cal P W K mg base "_law_one_of" k 2 C_law_one_of) (c_law_draw : Cal P W K mg base "_law_draw" k 2 C_law_draw) (c_law_box : Cal P W K mg base "_law_box" k 2 C_law_box) (c_law_row : Cal P W K mg base "_law_row" k 4 C_law_row) (c_law_dot : Cal P W K mg base "_law_dot" k 2 C_law_dot) (hC : ∀ as S R, as.length = 3 → C as S R → (G_law_leaf C_law_one_of C_law_draw C_law_box C_law_row C_law_dot) (ent N_law_leaf as) S { nx := fun _ S' => R .none S', rt := R }) : Pro P W K mg base (k + 1) f fd ["_law_spring_here", "_law_frame_here", "_law_room"] (spC K 3 C) := by
  have nd := sc_law_leaf.nd
  exact dfn_ok F sc_law_leaf rfl (by decide) (fun cdv A outer s H E hr =>
    (s_cons (s_set 3 nd (d_callS [0] c_law_one_of (hr.mono (by omega)) (c_wel 0 (c_dat (d_tup (a_cons d_str (a_cons d_str (a_cons d_str (a_cons d_str (a_cons d_str a_nil)))))) c_nil))))
    (s_cons (s_if (PW.pt (w_and (t_cmp (op_eqH hr) sEq (b_var 3) (b_of d_str)) (w_and1 (t_cmp op_gt sIntB (b_of (d_wix 2 (b_of d_int))) (b_of d_int)))))
    (s_cons (s_set 4 nd (d_add (b_of d_int) (b_of (d_callS [0] c_law_draw (hr.mono (by omega)) (c_wel 0 (c_dat (d_callB2 (call_min2 rfl) sMin2 (b_of d_int) (b_of (d_sub (b_of (d_wix 2 (b_of d_int))) (b_of d_int))) T.z_min PyProof.Rows.boot_min) c_nil))))))
    (s_cons (s_wput 2 (d_sub (b_of (d_wix 2 (b_of d_int))) (b_var 4)) (b_of d_int))
    (s_cons (s_if (PW.pt (w_and (t_cmp (op_eqH hr) sEq (b_var 4) (b_of d_int)) (w_and1 (t_cmp op_gt sIntB (b_of (d_callS [0] c_law_draw (hr.mono (by omega)) (c_wel 0 (c_dat d_int c_nil)))) (b_of d_int)))))
    (s_one (s_ret (d_tup (a_cons (d_var 3) (a_cons (d_callS [0] c_law_box (hr.mono (by omega)) (c_wel 0 (c_dat (d_var 1) c_nil))) a_nil)))))
    s_nil)
    (s_one (s_ret (d_tup (a_cons (d_var 3) (a_cons (d_callS [0] c_law_row (hr.mono (by omega)) (c_wel 0 (c_dat (d_var 1) (c_dat (d_var 4) (c_dat d_bool c_nil))))) a_nil))))))))
    s_nil)
    (s_cons (s_if (PW.pt (w_and (t_cmp (op_neH hr) sNe (b_var 3) (b_of d_str)) (w_and1 (t_cmp op_gt sIntB (b_of (d_wix 2 (b_of d_int))) (b_of d_int)))))
    (s_cons (s_set 4 nd (d_add (b_of d_int) (b_of (d_callS [0] c_law_draw (hr.mono (by omega)) (c_wel 0 (c_dat (d_callB2 (call_min2 rfl) sMin2 (b_of d_int) (b_of (d_wix 2 (b_of d_int))) T.z_min PyProof.Rows.boot_min) c_nil))))))
    (s_cons (s_wput 2 (d_add (b_of (d_sub (b_of (d_wix 2 (b_of d_int))) (b_var 4))) (b_of d_int)) (b_of d_int))
    (s_one (s_ret (d_tup (a_cons d_str (a_cons (d_callS [0] c_law_row (hr.mono (by omega)) (c_wel 0 (c_dat (d_var 1) (c_dat (d_var 4) (c_dat d_bool c_nil))))) a_nil)))))))
    s_nil)
    (s_one (s_ret (d_tup (a_cons d_str (a_cons (d_callS [0] c_law_dot (hr.mono (by omega)) (c_wel 0 (c_dat (d_var 1) c_nil))) a_nil))))))))) hC
theorem bd_law_leaf {k : Nat} {C_law_one_of C_law_draw C_law_box C_law_row C_law_dot : Ct} {C : Ct} (T : Txt W K mg) {f : Addr} {fd : FuncData} (F : Fun K "_law_leaf" "_law_leaf" s_law_leaf f fd) (hm : mg "_law_leaf" = some (.ref f)) (hb : Binds K fd ["_law_spring_here", "_law_frame_here", "_law_room"] []) (c_law_one_of : Cal P W K mg base "_law_one_of" k 2 C_law_one_of) (c_law_draw : Cal P W K mg base "_law_draw" k 2 C_law_draw) (c_law_box : Cal P W K mg base "_law_box" k 2 C_law_box) (c_law_row : Cal P W K mg base "_law_row" k 4 C_law_row) (c_law_dot : Cal P W K mg base "_law_dot" k 2 C_law_dot) (hC : ∀ as S R, as.length = 3 → C as S R → (G_law_leaf C_law_one_of C_law_draw C_law_box C_law_row C_law_dot) (ent N_law_leaf as) S { nx := fun _ S' => R .none S', rt := R }) : Cal P W K mg base "_law_leaf" (k + 1) 3 C := ⟨f, fd, _, ok_law_leaf T F hm hb c_law_one_of c_law_draw c_law_box c_law_row c_law_dot hC, F.kp, hb, hm⟩
/-! _law_figure -/
abbrev s_law_figure : Stmt := top 35
abbrev N_law_figure : List Str := ["_law_spring_here", "_law_frame_here", "_law_deep", "_law_room", "_law_words", "_law_word", "_law_first"]
theorem sc_law_figure : FnScope N_law_figure ["_law_spring_here", "_law_frame_here", "_law_deep", "_law_room"] (defScope s_law_figure) := ⟨rfl, rfl, rfl, by decide +kernel, rfl, by decide +kernel, by decide +kernel⟩
def G_law_figure (C_law_one_of C_law_leaf C_law_figure : Ct) : FS :=
    (sSeq (sSet 4 (fTup (fCons (fC (.str (PySem.Str.ofString "leaf"))) (fCons (fC (.str (PySem.Str.ofString "leaf"))) (fCons (fC (.str (PySem.Str.ofString "both"))) (fCons (fC (.str (PySem.Str.ofString "either"))) (fCons (fC (.str (PySem.Str.ofString "less"))) (fCons (fC (.str (PySem.Str.ofString "closure"))) (fCons (fC (.str (PySem.Str.ofString "inner"))) (fCons (fC (.str (PySem.Str.ofString "rim"))) fNil))))))))))
    (sSeq (sSet 5 (fIf (fOp oGt (fVarB 2) (fC (.int 1))) (fCallS [0] C_law_one_of (gWel 0 (gDat (fVar 4) gaNil))) (fC (.str (PySem.Str.ofString "leaf")))))
    (sSeq (sIf (fOp oEq (fVarB 5) (fC (.str (PySem.Str.ofString "leaf"))))
    (sRet (fCall C_law_leaf (gWel 0 (gDat (fVar 1) (gWel 3 gaNil)))))
    sNext)
    (sSeq (sSet 6 (fCall C_law_figure (gWel 0 (gDat (fVar 1) (gDat (fOp (oI fun i j => .int (i - j)) (fVarB 2) (fC (.int 1))) (gWel 3 gaNil))))))
    (sSeq (sIf (fOp (oIn false) (fVarB 5) (fTup (fCons (fC (.str (PySem.Str.ofString "closure"))) (fCons (fC (.str (PySem.Str.ofString "inner"))) (fCons (fC (.str (PySem.Str.ofString "rim"))) fNil)))))
    (sRet (fTup (fCons (fVar 5) (fCons (fVar 6) fNil))))
    sNext)
    (sRet (fTup (fCons (fVar 5) (fCons (fVar 6) (fCons (fCall C_law_figure (gWel 0 (gDat (fVar 1) (gDat (fOp (oI fun i j => .int (i - j)) (fVarB 2) (fC (.int 1))) (gWel 3 gaNil))))) fNil))))))))))
theorem ok_law_figure {k : Nat} {C_law_one_of C_law_leaf C_law_figure : Ct} {C : Ct} (T : Txt W K mg) {f : Addr} {fd : FuncData} (F : Fun K "_law_figure" "_law_figure" s_law_figure f fd) (hm : mg "_law_figure" = some (.ref f)) (hb : Binds K fd ["_law_spring_here", "_law_frame_here", "_law_deep", "_law_room"] []) (c_law_one_of : Cal P W K mg base "_law_one_of" k 2 C_law_one_of) (c_law_leaf : Cal P W K mg base "_law_leaf" k 3 C_law_leaf) (c_law_figure : Cal P W K mg base "_law_figure" k 4 C_law_figure) (hC : ∀ as S R, as.length = 4 → C as S R → (G_law_figure C_law_one_of C_law_leaf C_law_figure) (ent N_law_figure as) S { nx := fun _ S' => R .none S', rt := R }) : Pro P W K mg base (k + 1) f fd ["_law_spring_here", "_law_frame_here", "_law_deep", "_law_room"] (spC K 4 C) := by
  have nd := sc_law_figure.nd
  exact dfn_ok F sc_law_figure rfl (by decide) (fun cdv A outer s H E hr =>
    (s_cons (s_set 4 nd (d_tup (a_cons d_str (a_cons d_str (a_cons d_str (a_cons d_str (a_cons d_str (a_cons d_str (a_cons d_str (a_cons d_str a_nil))))))))))
    (s_cons (s_set 5 nd (d_if (t_cmp op_gt sIntB (b_var 2) (b_of d_int)) (d_callS [0] c_law_one_of (hr.mono (by omega)) (c_wel 0 (c_dat (d_var 4) c_nil))) d_str))
    (s_cons (s_if (t_cmp (op_eqH hr) sEq (b_var 5) (b_of d_str))
    (s_one (s_ret (d_call c_law_leaf (hr.mono (by omega)) (c_wel 0 (c_dat (d_var 1) (c_wel 3 c_nil))))))
    s_nil)
    (s_cons (s_set 6 nd (d_call c_law_figure (hr.mono (by omega)) (c_wel 0 (c_dat (d_var 1) (c_dat (d_sub (b_var 2) (b_of d_int)) (c_wel 3 c_nil))))))
    (s_cons (s_if (t_cmp op_in_seq sIn (b_var 5) (b_of (d_tup (a_cons d_str (a_cons d_str (a_cons d_str a_nil))))))
    (s_one (s_ret (d_tup (a_cons (d_var 5) (a_cons (d_var 6) a_nil)))))
    s_nil)
    (s_one (s_ret (d_tup (a_cons (d_var 5) (a_cons (d_var 6) (a_cons (d_call c_law_figure (hr.mono (by omega)) (c_wel 0 (c_dat (d_var 1) (c_dat (d_sub (b_var 2) (b_of d_int)) (c_wel 3 c_nil))))) a_nil)))))))))))) hC
theorem bd_law_figure {k : Nat} {C_law_one_of C_law_leaf C_law_figure : Ct} {C : Ct} (T : Txt W K mg) {f : Addr} {fd : FuncData} (F : Fun K "_law_figure" "_law_figure" s_law_figure f fd) (hm : mg "_law_figure" = some (.ref f)) (hb : Binds K fd ["_law_spring_here", "_law_frame_here", "_law_deep", "_law_room"] []) (c_law_one_of : Cal P W K mg base "_law_one_of" k 2 C_law_one_of) (c_law_leaf : Cal P W K mg base "_law_leaf" k 3 C_law_leaf) (c_law_figure : Cal P W K mg base "_law_figure" k 4 C_law_figure) (hC : ∀ as S R, as.length = 4 → C as S R → (G_law_figure C_law_one_of C_law_leaf C_law_figure) (ent N_law_figure as) S { nx := fun _ S' => R .none S', rt := R }) : Cal P W K mg base "_law_figure" (k + 1) 4 C := ⟨f, fd, _, ok_law_figure T F hm hb c_law_one_of c_law_leaf c_law_figure hC, F.kp, hb, hm⟩
/-! _law_odd -/
abbrev s_law_odd : Stmt := top 36
abbrev N_law_odd : List Str := ["_law_spring_here", "_law_nil", "_law_one", "_law_two", "_law_some"]
theorem sc_law_odd : FnScope N_law_odd ["_law_spring_here"] (defScope s_law_odd) := ⟨rfl, rfl, rfl, by decide +kernel, rfl, by decide +kernel, by decide +kernel⟩
def G_law_odd (C_law_one_of : Ct) : FS :=
    (sSeq (sAsg (fTup (fCons (fTup (fCons (fTup (fCons (fC (.int 0)) (fCons (fC (.int 1)) fNil))) (fCons (fTup (fCons (fC (.int 0)) (fCons (fC (.int 1)) fNil))) fNil))) (fCons (fTup (fCons (fTup (fCons (fC (.int 1)) (fCons (fC (.int 1)) fNil))) (fCons (fTup (fCons (fC (.int 0)) (fCons (fC (.int 1)) fNil))) fNil))) (fCons (fTup (fCons (fTup (fCons (fUn oNeg (fC (.int 3))) (fCons (fC (.int 2)) fNil))) (fCons (fTup (fCons (fC (.int 5)) (fCons (fC (.int 7)) fNil))) fNil))) fNil)))) (gTp 3 (gsCons (gNm 1) (gsCons (gNm 2) (gsCons (gNm 3) gsNil)))))
    (sSeq (sSet 4 (fLst (fCons (fC .none) (fCons (fC (.bool true)) (fCons (fC (.bool false)) (fCons (fC (.int 0)) (fCons (fC (.int 1)) (fCons (fUn oNeg (fC (.int 1))) (fCons (fOp (oIC CPow fun i j => .int (i ^ j.toNat)) (fC (.int 10)) (fC (.int 25))) (fCons (fC (.str (PySem.Str.ofString ""))) (fCons (fC (.str (PySem.Str.ofString "A"))) (fCons (fC (.str (PySem.Str.ofString "E"))) (fCons (fC (.str (PySem.Str.ofString "a"))) (fCons (fC (.str (PySem.Str.ofString "spot"))) (fCons (fC (.str (PySem.Str.ofString "vertex"))) (fCons (fC (.str (PySem.Str.ofString "face"))) (fCons (fTup fNil) (fCons (fTup (fCons (fC (.int 0)) fNil)) (fCons (fTup (fCons (fC (.int 0)) (fCons (fC (.int 1)) fNil))) (fCons (fTup (fCons (fC (.int 1)) (fCons (fC (.int 1)) fNil))) (fCons (fTup (fCons (fC (.int 2)) (fCons (fC (.int 2)) fNil))) (fCons (fTup (fCons (fC (.int 0)) (fCons (fC (.int 3)) fNil))) (fCons (fTup (fCons (fC (.int 0)) (fCons (fC (.int 0)) fNil))) (fCons (fTup (fCons (fC (.int 1)) (fCons (fC (.int 0)) fNil))) (fCons (fTup (fCons (fC (.int 3)) (fCons (fUn oNeg (fC (.int 2))) fNil))) (fCons (fTup (fCons (fC (.bool true)) (fCons (fC (.int 1)) fNil))) (fCons (fTup (fCons (fC (.int 0)) (fCons (fC (.bool true)) fNil))) (fCons (fTup (fCons (fC (.str (PySem.Str.ofString "0"))) (fCons (fC (.int 1)) fNil))) (fCons (fTup (fCons (fC .none) (fCons (fC (.int 1)) fNil))) (fCons (fVar 1) (fCons (fVar 2) (fCons (fVar 3) (fCons (fTup (fCons (fVar 1) (fCons (fVar 2) fNil))) (fCons (fTup (fCons (fVar 3) (fCons (fVar 1) fNil))) (fCons (fTup (fCons (fVar 1) (fCons (fVar 1) fNil))) (fCons (fTup (fCons (fVar 1) (fCons (fVar 2) (fCons (fVar 3) fNil)))) (fCons (fTup (fCons (fVar 2) (fCons (fVar 3) (fCons (fVar 2) fNil)))) (fCons (fTup (fCons (fTup (fCons (fC (.int 0)) (fCons (fC (.int 1)) fNil))) fNil)) (fCons (fTup (fCons (fTup (fCons (fC (.int 0)) (fCons (fC (.int 1)) fNil))) (fCons (fTup (fCons (fC (.int 0)) (fCons (fC (.int 2)) fNil))) fNil))) (fCons (fTup (fCons (fTup (fCons (fC (.int 0)) (fCons (fC (.int 1)) fNil))) (fCons (fTup (fCons (fC (.int 1)) (fCons (fC (.int 1)) fNil))) (fCons (fTup (fCons (fC (.int 0)) (fCons (fC (.int 1)) fNil))) fNil)))) (fCons (fTup (fCons (fLst (fCons (fC (.int 0)) (fCons (fC (.int 1)) fNil))) (fCons (fTup (fCons (fC (.int 0)) (fCons (fC (.int 1)) fNil))) fNil))) (fCons (fLst fNil) (fCons (fLst (fCons (fC (.int 0)) (fCons (fC (.int 1)) fNil))) (fCons (fLst (fCons (fTup (fCons (fC (.int 0)) (fCons (fC (.int 1)) fNil))) (fCons (fTup (fCons (fC (.int 0)) (fCons (fC (.int 1)) fNil))) fNil))) (fCons (fC (.dict [])) (fCons (fC (.dict [(.str (PySem.Str.ofString "A"), .int 1)])) (fCons (fTup (fCons (fC (.str (PySem.Str.ofString "vertex"))) (fCons (fC (.int 0)) fNil))) (fCons (fTup (fCons (fC (.str (PySem.Str.ofString "edge"))) (fCons (fC (.int 0)) fNil))) (fCons (fTup (fCons (fC (.str (PySem.Str.ofString "face"))) (fCons (fC (.int 0)) fNil))) (fCons (fTup (fCons (fC (.str (PySem.Str.ofString "face"))) (fCons (fC (.int 1)) fNil))) (fCons (fTup (fCons (fC (.str (PySem.Str.ofString "face"))) (fCons (fC (.bool true)) fNil))) (fCons (fTup (fCons (fC (.str (PySem.Str.ofString "vertex"))) (fCons (fUn oNeg (fC (.int 1))) fNil))) (fCons (fTup (fCons (fC (.str (PySem.Str.ofString "cell"))) (fCons (fC (.int 0)) fNil))) (fCons (fLst (fCons (fC (.str (PySem.Str.ofString "face"))) (fCons (fC (.int 0)) fNil))) (fCons (fTup (fCons (fC (.str (PySem.Str.ofString "spot"))) (fCons (fVar 1) fNil))) (fCons (fTup (fCons (fC (.str (PySem.Str.ofString "spot"))) (fCons (fTup (fCons (fVar 1) fNil)) fNil))) (fCons (fTup (fCons (fC (.str (PySem.Str.ofString "spot"))) (fCons (fVar 1) (fCons (fVar 2) fNil)))) (fCons (fTup (fCons (fC (.str (PySem.Str.ofString "path"))) (fCons (fTup (fCons (fVar 1) (fCons (fVar 2) fNil))) fNil))) (fCons (fTup (fCons (fC (.str (PySem.Str.ofString "path"))) (fCons (fTup (fCons (fVar 1) (fCons (fVar 1) fNil))) fNil))) (fCons (fTup (fCons (fC (.str (PySem.Str.ofString "path"))) (fCons (fTup (fCons (fVar 1) fNil)) fNil))) (fCons (fTup (fCons (fC (.str (PySem.Str.ofString "path"))) (fCons (fTup fNil) fNil))) (fCons (fTup (fCons (fC (.str (PySem.Str.ofString "area"))) (fCons (fTup (fCons (fVar 1) (fCons (fVar 2) (fCons (fVar 3) fNil)))) fNil))) (fCons (fTup (fCons (fC (.str (PySem.Str.ofString "area"))) (fCons (fTup (fCons (fVar 1) (fCons (fVar 2) (fCons (fVar 1) fNil)))) fNil))) (fCons (fTup (fCons (fC (.str (PySem.Str.ofString "area"))) (fCons (fTup (fCons (fVar 1) (fCons (fVar 2) fNil))) fNil))) (fCons (fTup (fCons (fC (.str (PySem.Str.ofString "area"))) (fCons (fLst (fCons (fVar 1) (fCons (fVar 2) (fCons (fVar 3) fNil)))) fNil))) (fCons (fTup (fCons (fC (.str (PySem.Str.ofString "rim"))) (fCons (fTup (fCons (fC (.str (PySem.Str.ofString "spot"))) (fCons (fVar 1) fNil))) fNil))) (fCons (fTup (fCons (fC (.str (PySem.Str.ofString "rim"))) fNil)) (fCons (fTup (fCons (fC (.str (PySem.Str.ofString "both"))) (fCons (fTup (fCons (fC (.str (PySem.Str.ofString "spot"))) (fCons (fVar 1) fNil))) (fCons (fTup (fCons (fC (.str (PySem.Str.ofString "spot"))) (fCons (fVar 2) fNil))) fNil)))) (fCons (fTup (fCons (fC (.str (PySem.Str.ofString "both"))) (fCons (fTup (fCons (fC (.str (PySem.Str.ofString "spot"))) (fCons (fVar 1) fNil))) fNil))) (fCons (fTup (fCons (fC (.str (PySem.Str.ofString "not"))) (fCons (fTup (fCons (fC (.str (PySem.Str.ofString "spot"))) (fCons (fVar 1) fNil))) fNil))) (fCons (fTup (fCons (fC (.str (PySem.Str.ofString "closure"))) (fCons (fC (.str (PySem.Str.ofString "A"))) fNil))) (fCons (fTup (fCons (fC (.str (PySem.Str.ofString "inner"))) (fCons (fTup (fCons (fC (.str (PySem.Str.ofString "spot"))) (fCons (fVar 2) fNil))) (fCons (fTup (fCons (fC (.str (PySem.Str.ofString "spot"))) (fCons (fVar 2) fNil))) fNil)))) (fCons (fTup (fCons (fTup (fCons (fC (.str (PySem.Str.ofString "A"))) (fCons (fTup (fCons (fC (.str (PySem.Str.ofString "spot"))) (fCons (fVar 1) fNil))) fNil))) fNil)) (fCons (fTup (fCons (fTup (fCons (fC (.str (PySem.Str.ofString "B"))) (fCons (fTup (fCons (fC (.str (PySem.Str.ofString "spot"))) (fCons (fVar 1) fNil))) fNil))) (fCons (fTup (fCons (fC (.str (PySem.Str.ofString "A"))) (fCons (fTup (fCons (fC (.str (PySem.Str.ofString "spot"))) (fCons (fVar 1) fNil))) fNil))) fNil))) (fCons (fTup (fCons (fTup (fCons (fC (.str (PySem.Str.ofString "a"))) (fCons (fTup (fCons (fC (.str (PySem.Str.ofString "spot"))) (fCons (fVar 1) fNil))) fNil))) fNil)) (fCons (fTup (fCons (fTup (fCons (fC (.str (PySem.Str.ofString "A"))) (fCons (fVar 1) fNil))) fNil)) (fCons (fTup (fCons (fTup (fCons (fC (.str (PySem.Str.ofString "A"))) (fCons (fTup (fCons (fC (.str (PySem.Str.ofString "spot"))) (fCons (fVar 1) fNil))) fNil))) (fCons (fTup (fCons (fC (.str (PySem.Str.ofString "A"))) (fCons (fTup (fCons (fC (.str (PySem.Str.ofString "spot"))) (fCons (fVar 2) fNil))) fNil))) fNil))) (fCons (fTup (fCons (fTup (fCons (fVar 1) (fCons (fVar 2) fNil))) (fCons (fTup (fCons (fVar 2) (fCons (fVar 1) fNil))) fNil))) (fCons (fTup (fCons (fTup (fCons (fVar 1) (fCons (fVar 1) fNil))) fNil)) fNil)))))))))))))))))))))))))))))))))))))))))))))))))))))))))))))))))))))))))))))))
    (sRet (fCall C_law_one_of (gWel 0 (gDat (fVar 4) gaNil))))))
theorem ok_law_odd {k : Nat} {C_law_one_of : Ct} {C : Ct} (T : Txt W K mg) {f : Addr} {fd : FuncData} (F : Fun K "_law_odd" "_law_odd" s_law_odd f fd) (hm : mg "_law_odd" = some (.ref f)) (hb : Binds K fd ["_law_spring_here"] []) (c_law_one_of : Cal P W K mg base "_law_one_of" k 2 C_law_one_of) (hC : ∀ as S R, as.length = 1 → C as S R → (G_law_odd C_law_one_of) (ent N_law_odd as) S { nx := fun _ S' => R .none S', rt := R }) : Pro P W K mg base (k + 1) f fd ["_law_spring_here"] (spC K 1 C) := by
  have nd := sc_law_odd.nd
  exact dfn_ok F sc_law_odd rfl (by decide) (fun cdv A outer s H E hr =>
    (s_cons (s_asg (d_tup (a_cons (d_tup (a_cons (d_tup (a_cons d_int (a_cons d_int a_nil))) (a_cons (d_tup (a_cons d_int (a_cons d_int a_nil))) a_nil))) (a_cons (d_tup (a_cons (d_tup (a_cons d_int (a_cons d_int a_nil))) (a_cons (d_tup (a_cons d_int (a_cons d_int a_nil))) a_nil))) (a_cons (d_tup (a_cons (d_tup (a_cons (d_neg (b_of d_int)) (a_cons d_int a_nil))) (a_cons (d_tup (a_cons d_int (a_cons d_int a_nil))) a_nil))) a_nil)))) (g_tup rfl (gs_cons (g_name 1 nd) (gs_cons (g_name 2 nd) (gs_cons (g_name 3 nd) gs_nil)))))
    (s_cons (s_set 4 nd (d_lst (a_cons d_none (a_cons d_bool (a_cons d_bool (a_cons d_int (a_cons d_int (a_cons (d_neg (b_of d_int)) (a_cons (d_pow (b_of d_int) (b_of d_int)) (a_cons d_str (a_cons d_str (a_cons d_str (a_cons d_str (a_cons d_str (a_cons d_str (a_cons d_str (a_cons (d_tup a_nil) (a_cons (d_tup (a_cons d_int a_nil)) (a_cons (d_tup (a_cons d_int (a_cons d_int a_nil))) (a_cons (d_tup (a_cons d_int (a_cons d_int a_nil))) (a_cons (d_tup (a_cons d_int (a_cons d_int a_nil))) (a_cons (d_tup (a_cons d_int (a_cons d_int a_nil))) (a_cons (d_tup (a_cons d_int (a_cons d_int a_nil))) (a_cons (d_tup (a_cons d_int (a_cons d_int a_nil))) (a_cons (d_tup (a_cons d_int (a_cons (d_neg (b_of d_int)) a_nil))) (a_cons (d_tup (a_cons d_bool (a_cons d_int a_nil))) (a_cons (d_tup (a_cons d_int (a_cons d_bool a_nil))) (a_cons (d_tup (a_cons d_str (a_cons d_int a_nil))) (a_cons (d_tup (a_cons d_none (a_cons d_int a_nil))) (a_cons (d_var 1) (a_cons (d_var 2) (a_cons (d_var 3) (a_cons (d_tup (a_cons (d_var 1) (a_cons (d_var 2) a_nil))) (a_cons (d_tup (a_cons (d_var 3) (a_cons (d_var 1) a_nil))) (a_cons (d_tup (a_cons (d_var 1) (a_cons (d_var 1) a_nil))) (a_cons (d_tup (a_cons (d_var 1) (a_cons (d_var 2) (a_cons (d_var 3) a_nil)))) (a_cons (d_tup (a_cons (d_var 2) (a_cons (d_var 3) (a_cons (d_var 2) a_nil)))) (a_cons (d_tup (a_cons (d_tup (a_cons d_int (a_cons d_int a_nil))) a_nil)) (a_cons (d_tup (a_cons (d_tup (a_cons d_int (a_cons d_int a_nil))) (a_cons (d_tup (a_cons d_int (a_cons d_int a_nil))) a_nil))) (a_cons (d_tup (a_cons (d_tup (a_cons d_int (a_cons d_int a_nil))) (a_cons (d_tup (a_cons d_int (a_cons d_int a_nil))) (a_cons (d_tup (a_cons d_int (a_cons d_int a_nil))) a_nil)))) (a_cons (d_tup (a_cons (d_lst (a_cons d_int (a_cons d_int a_nil))) (a_cons (d_tup (a_cons d_int (a_cons d_int a_nil))) a_nil))) (a_cons (d_lst a_nil) (a_cons (d_lst (a_cons d_int (a_cons d_int a_nil))) (a_cons (d_lst (a_cons (d_tup (a_cons d_int (a_cons d_int a_nil))) (a_cons (d_tup (a_cons d_int (a_cons d_int a_nil))) a_nil))) (a_cons d_dict0 (a_cons d_dict1 (a_cons (d_tup (a_cons d_str (a_cons d_int a_nil))) (a_cons (d_tup (a_cons d_str (a_cons d_int a_nil))) (a_cons (d_tup (a_cons d_str (a_cons d_int a_nil))) (a_cons (d_tup (a_cons d_str (a_cons d_int a_nil))) (a_cons (d_tup (a_cons d_str (a_cons d_bool a_nil))) (a_cons (d_tup (a_cons d_str (a_cons (d_neg (b_of d_int)) a_nil))) (a_cons (d_tup (a_cons d_str (a_cons d_int a_nil))) (a_cons (d_lst (a_cons d_str (a_cons d_int a_nil))) (a_cons (d_tup (a_cons d_str (a_cons (d_var 1) a_nil))) (a_cons (d_tup (a_cons d_str (a_cons (d_tup (a_cons (d_var 1) a_nil)) a_nil))) (a_cons (d_tup (a_cons d_str (a_cons (d_var 1) (a_cons (d_var 2) a_nil)))) (a_cons (d_tup (a_cons d_str (a_cons (d_tup (a_cons (d_var 1) (a_cons (d_var 2) a_nil))) a_nil))) (a_cons (d_tup (a_cons d_str (a_cons (d_tup (a_cons (d_var 1) (a_cons (d_var 1) a_nil))) a_nil))) (a_cons (d_tup (a_cons d_str (a_cons (d_tup (a_cons (d_var 1) a_nil)) a_nil))) (a_cons (d_tup (a_cons d_str (a_cons (d_tup a_nil) a_nil))) (a_cons (d_tup (a_cons d_str (a_cons (d_tup (a_cons (d_var 1) (a_cons (d_var 2) (a_cons (d_var 3) a_nil)))) a_nil))) (a_cons (d_tup (a_cons d_str (a_cons (d_tup (a_cons (d_var 1) (a_cons (d_var 2) (a_cons (d_var 1) a_nil)))) a_nil))) (a_cons (d_tup (a_cons d_str (a_cons (d_tup (a_cons (d_var 1) (a_cons (d_var 2) a_nil))) a_nil))) (a_cons (d_tup (a_cons d_str (a_cons (d_lst (a_cons (d_var 1) (a_cons (d_var 2) (a_cons (d_var 3) a_nil)))) a_nil))) (a_cons (d_tup (a_cons d_str (a_cons (d_tup (a_cons d_str (a_cons (d_var 1) a_nil))) a_nil))) (a_cons (d_tup (a_cons d_str a_nil)) (a_cons (d_tup (a_cons d_str (a_cons (d_tup (a_cons d_str (a_cons (d_var 1) a_nil))) (a_cons (d_tup (a_cons d_str (a_cons (d_var 2) a_nil))) a_nil)))) (a_cons (d_tup (a_cons d_str (a_cons (d_tup (a_cons d_str (a_cons (d_var 1) a_nil))) a_nil))) (a_cons (d_tup (a_cons d_str (a_cons (d_tup (a_cons d_str (a_cons (d_var 1) a_nil))) a_nil))) (a_cons (d_tup (a_cons d_str (a_cons d_str a_nil))) (a_cons (d_tup (a_cons d_str (a_cons (d_tup (a_cons d_str (a_cons (d_var 2) a_nil))) (a_cons (d_tup (a_cons d_str (a_cons (d_var 2) a_nil))) a_nil)))) (a_cons (d_tup (a_cons (d_tup (a_cons d_str (a_cons (d_tup (a_cons d_str (a_cons (d_var 1) a_nil))) a_nil))) a_nil)) (a_cons (d_tup (a_cons (d_tup (a_cons d_str (a_cons (d_tup (a_cons d_str (a_cons (d_var 1) a_nil))) a_nil))) (a_cons (d_tup (a_cons d_str (a_cons (d_tup (a_cons d_str (a_cons (d_var 1) a_nil))) a_nil))) a_nil))) (a_cons (d_tup (a_cons (d_tup (a_cons d_str (a_cons (d_tup (a_cons d_str (a_cons (d_var 1) a_nil))) a_nil))) a_nil)) (a_cons (d_tup (a_cons (d_tup (a_cons d_str (a_cons (d_var 1) a_nil))) a_nil)) (a_cons (d_tup (a_cons (d_tup (a_cons d_str (a_cons (d_tup (a_cons d_str (a_cons (d_var 1) a_nil))) a_nil))) (a_cons (d_tup (a_cons d_str (a_cons (d_tup (a_cons d_str (a_cons (d_var 2) a_nil))) a_nil))) a_nil))) (a_cons (d_tup (a_cons (d_tup (a_cons (d_var 1) (a_cons (d_var 2) a_nil))) (a_cons (d_tup (a_cons (d_var 2) (a_cons (d_var 1) a_nil))) a_nil))) (a_cons (d_tup (a_cons (d_tup (a_cons (d_var 1) (a_cons (d_var 1) a_nil))) a_nil)) a_nil)))))))))))))))))))))))))))))))))))))))))))))))))))))))))))))))))))))))))))))))
    (s_one (s_ret (d_call c_law_one_of (hr.mono (by omega)) (c_wel 0 (c_dat (d_var 4) c_nil)))))))) hC
theorem bd_law_odd {k : Nat} {C_law_one_of : Ct} {C : Ct} (T : Txt W K mg) {f : Addr} {fd : FuncData} (F : Fun K "_law_odd" "_law_odd" s_law_odd f fd) (hm : mg "_law_odd" = some (.ref f)) (hb : Binds K fd ["_law_spring_here"] []) (c_law_one_of : Cal P W K mg base "_law_one_of" k 2 C_law_one_of) (hC : ∀ as S R, as.length = 1 → C as S R → (G_law_odd C_law_one_of) (ent N_law_odd as) S { nx := fun _ S' => R .none S', rt := R }) : Cal P W K mg base "_law_odd" (k + 1) 1 C := ⟨f, fd, _, ok_law_odd T F hm hb c_law_one_of hC, F.kp, hb, hm⟩
/-! _law_bent -/
abbrev s_law_bent : Stmt := top 37
abbrev N_law_bent : List Str := ["_law_spring_here", "_law_thing", "_law_at", "_law_branch"]
theorem sc_law_bent : FnScope N_law_bent ["_law_spring_here", "_law_thing"] (defScope s_law_bent) := ⟨rfl, rfl, rfl, by decide +kernel, rfl, by decide +kernel, by decide +kernel⟩
def G_law_bent (C_law_draw C_law_bent C_law_odd : Ct) : FS :=
    (sSeq (sIf (fAnd (fUn (fun x R => R (.bool (isiD "tuple" x))) (fVarB 1)) (fAnd (fOp oNe (fVarB 1) (fTup fNil)) (fOp oGt (fCall C_law_draw (gWel 0 (gDat (fC (.int 5)) gaNil))) (fC (.int 0)))))
    (sSeq (sSet 2 (fCall C_law_draw (gWel 0 (gDat (fUn oLen (fVarB 1)) gaNil))))
    (sRet (fOp oAddM (fOp oAddM (fSl (fVarB 1) fNoP (fP (fVarB 2))) (fTup (fCons (fCall C_law_bent (gWel 0 (gDat (fOp oIx (fVarB 1) (fVarB 2)) gaNil))) fNil))) (fSl (fVarB 1) (fP (fOp oAddM (fVarB 2) (fC (.int 1)))) fNoP))))
    sNext)
    (sSeq (sSet 3 (fCall C_law_draw (gWel 0 (gDat (fC (.int 9)) gaNil))))
    (sSeq (sIf (fAnd (fUn (fun x R => R (.bool (isiD "tuple" x))) (fVarB 1)) (fOp oLt (fVarB 3) (fC (.int 7))))
    (sRet (fOp oIx (fTup (fCons (fUn oList (fVarB 1)) (fCons (fSl (fVarB 1) fNoP (fP (fUn oNeg (fC (.int 1))))) (fCons (fOp oAddM (fVarB 1) (fSl (fVarB 1) (fP (fUn oNeg (fC (.int 1)))) fNoP)) (fCons (fUn oBack (fVarB 1)) (fCons (fSl (fVarB 1) (fP (fC (.int 1))) fNoP) (fCons (fOp oAddM (fSl (fVarB 1) fNoP (fP (fC (.int 1)))) (fVarB 1)) (fCons (fTup (fCons (fVar 1) fNil)) fNil)))))))) (fVarB 3)))
    sNext)
    (sSeq (sIf (fAnd (fUn (fun x R => R (.bool (isiD "int" x))) (fVarB 1)) (fOp oLt (fVarB 3) (fC (.int 6))))
    (sRet (fOp oIx (fTup (fCons (fOp oAddM (fVarB 1) (fC (.int 1))) (fCons (fOp oSubM (fC (.int 0)) (fVarB 1)) (fCons (fOp oMulM (fC (.int 2)) (fVarB 1)) (fCons (fOp oSubM (fVarB 1) (fC (.int 2))) (fCons (fOp oEq (fVarB 1) (fC (.int 1))) (fCons (fUn oStr (fVarB 1)) fNil))))))) (fVarB 3)))
    sNext)
    (sRet (fCall C_law_odd (gWel 0 gaNil)))))))
theorem ok_law_bent {k : Nat} {C_law_draw C_law_bent C_law_odd : Ct} {C : Ct} (T : Txt W K mg) {f : Addr} {fd : FuncData} (F : Fun K "_law_bent" "_law_bent" s_law_bent f fd) (hm : mg "_law_bent" = some (.ref f)) (hb : Binds K fd ["_law_spring_here", "_law_thing"] []) (c_law_draw : Cal P W K mg base "_law_draw" k 2 C_law_draw) (c_law_bent : Cal P W K mg base "_law_bent" k 2 C_law_bent) (c_law_odd : Cal P W K mg base "_law_odd" k 1 C_law_odd) (hC : ∀ as S R, as.length = 2 → C as S R → (G_law_bent C_law_draw C_law_bent C_law_odd) (ent N_law_bent as) S { nx := fun _ S' => R .none S', rt := R }) : Pro P W K mg base (k + 1) f fd ["_law_spring_here", "_law_thing"] (spC K 2 C) := by
  have nd := sc_law_bent.nd
  exact dfn_ok F sc_law_bent rfl (by decide) (fun cdv A outer s H E hr =>
    (s_cons (s_if (PW.pt (w_and (t_val (b_of (d_isi isi_tuple (b_var 1) T.z_isinstance T.z_tuple PyProof.Rows.boot_tuple))) (w_and (t_cmp (op_neH hr) sNe (b_var 1) (b_of (d_tup a_nil))) (w_and1 (t_cmp op_gt sIntB (b_of (d_call c_law_draw (hr.mono (by omega)) (c_wel 0 (c_dat d_int c_nil)))) (b_of d_int))))))
    (s_cons (s_set 2 nd (d_call c_law_draw (hr.mono (by omega)) (c_wel 0 (c_dat (d_callB call_len sLen (b_var 1) T.z_len PySem.boot_len) c_nil))))
    (s_one (s_ret (d_addM (b_of (d_addM (b_of (d_slice (b_var 1) o_none (o_some (b_var 2)))) (b_of (d_tup (a_cons (d_call c_law_bent (hr.mono (by omega)) (c_wel 0 (c_dat (d_ix (b_var 1) (b_var 2)) c_nil))) a_nil))))) (b_of (d_slice (b_var 1) (o_some (b_of (d_addM (b_var 2) (b_of d_int)))) o_none))))))
    s_nil)
    (s_cons (s_set 3 nd (d_call c_law_draw (hr.mono (by omega)) (c_wel 0 (c_dat d_int c_nil))))
    (s_cons (s_if (PW.pt (w_and (t_val (b_of (d_isi isi_tuple (b_var 1) T.z_isinstance T.z_tuple PyProof.Rows.boot_tuple))) (w_and1 (t_cmp op_ltA sLt (b_var 3) (b_of d_int)))))
    (s_one (s_ret (d_ix (b_of (d_tup (a_cons (d_of_n (n_callT call_list_of nList (b_var 1) T.z_list PyProof.Rows.boot_list)) (a_cons (d_slice (b_var 1) o_none (o_some (b_of (d_neg (b_of d_int))))) (a_cons (d_addM (b_var 1) (b_of (d_slice (b_var 1) (o_some (b_of (d_neg (b_of d_int)))) o_none))) (a_cons (d_back (b_var 1)) (a_cons (d_slice (b_var 1) (o_some (b_of d_int)) o_none) (a_cons (d_addM (b_of (d_slice (b_var 1) o_none (o_some (b_of d_int)))) (b_var 1)) (a_cons (d_tup (a_cons (d_var 1) a_nil)) a_nil))))))))) (b_var 3))))
    s_nil)
    (s_cons (s_if (PW.pt (w_and (t_val (b_of (d_isi isi_int (b_var 1) T.z_isinstance T.z_int PyProof.Rows.boot_int))) (w_and1 (t_cmp op_ltA sLt (b_var 3) (b_of d_int)))))
    (s_one (s_ret (d_ix (b_of (d_tup (a_cons (d_addM (b_var 1) (b_of d_int)) (a_cons (d_subM (b_of d_int) (b_var 1)) (a_cons (d_mulM (b_of d_int) (b_var 1)) (a_cons (d_subM (b_var 1) (b_of d_int)) (a_cons (d_cmp (op_eqH hr) sEq (b_var 1) (b_of d_int)) (a_cons (d_callT call_strD sStr (b_var 1) T.z_str PyProof.Rows.boot_str) a_nil)))))))) (b_var 3))))
    s_nil)
    (s_one (s_ret (d_call c_law_odd (hr.mono (by omega)) (c_wel 0 c_nil))))))))) hC
theorem bd_law_bent {k : Nat} {C_law_draw C_law_bent C_law_odd : Ct} {C : Ct} (T : Txt W K mg) {f : Addr} {fd : FuncData} (F : Fun K "_law_bent" "_law_bent" s_law_bent f fd) (hm : mg "_law_bent" = some (.ref f)) (hb : Binds K fd ["_law_spring_here", "_law_thing"] []) (c_law_draw : Cal P W K mg base "_law_draw" k 2 C_law_draw) (c_law_bent : Cal P W K mg base "_law_bent" k 2 C_law_bent) (c_law_odd : Cal P W K mg base "_law_odd" k 1 C_law_odd) (hC : ∀ as S R, as.length = 2 → C as S R → (G_law_bent C_law_draw C_law_bent C_law_odd) (ent N_law_bent as) S { nx := fun _ S' => R .none S', rt := R }) : Cal P W K mg base "_law_bent" (k + 1) 2 C := ⟨f, fd, _, ok_law_bent T F hm hb c_law_draw c_law_bent c_law_odd hC, F.kp, hb, hm⟩
/-! _law_is_whole -/
abbrev s_law_is_whole : Stmt := top 38
abbrev N_law_is_whole : List Str := ["_law_thing"]
theorem sc_law_is_whole : FnScope N_law_is_whole ["_law_thing"] (defScope s_law_is_whole) := ⟨rfl, rfl, rfl, by decide +kernel, rfl, by decide +kernel, by decide +kernel⟩
def G_law_is_whole : FS :=
    (sRet (fAnd (fUn (fun x R => R (.bool (isiD "int" x))) (fVarB 0)) (fNot (fUn (fun x R => R (.bool (isiD "bool" x))) (fVarB 0)))))
theorem ok_law_is_whole {k : Nat} {C : Ct} (T : Txt W K mg) {f : Addr} {fd : FuncData} (F : Fun K "_law_is_whole" "_law_is_whole" s_law_is_whole f fd) (hm : mg "_law_is_whole" = some (.ref f)) (hb : Binds K fd ["_law_thing"] []) (hC : ∀ as S R, as.length = 1 → C as S R → G_law_is_whole (ent N_law_is_whole as) S { nx := fun _ S' => R .none S', rt := R }) : Pro P W K mg base (k + 1) f fd ["_law_thing"] (spC K 1 C) := by
  have nd := sc_law_is_whole.nd
  exact dfn_ok F sc_law_is_whole rfl (by decide) (fun cdv A outer s H E hr =>
    (s_one (s_ret (d_and (b_of (d_isi isi_int (b_var 0) T.z_isinstance T.z_int PyProof.Rows.boot_int)) (d_one (d_not (b_of (d_isi isi_bool (b_var 0) T.z_isinstance T.z_bool PyProof.Rows.boot_bool)))))))) hC
theorem bd_law_is_whole {k : Nat} {C : Ct} (T : Txt W K mg) {f : Addr} {fd : FuncData} (F : Fun K "_law_is_whole" "_law_is_whole" s_law_is_whole f fd) (hm : mg "_law_is_whole" = some (.ref f)) (hb : Binds K fd ["_law_thing"] []) (hC : ∀ as S R, as.length = 1 → C as S R → G_law_is_whole (ent N_law_is_whole as) S { nx := fun _ S' => R .none S', rt := R }) : Cal P W K mg base "_law_is_whole" (k + 1) 1 C := ⟨f, fd, _, ok_law_is_whole T F hm hb hC, F.kp, hb, hm⟩
/-! _law_is_lot -/
abbrev s_law_is_lot : Stmt := top 39
abbrev N_law_is_lot : List Str := ["_law_thing", "_law_low", "_law_high"]
theorem sc_law_is_lot : FnScope N_law_is_lot ["_law_thing", "_law_low", "_law_high"] (defScope s_law_is_lot) := ⟨rfl, rfl, rfl, by decide +kernel, rfl, by decide +kernel, by decide +kernel⟩
def G_law_is_lot : FS :=
    (sRet (fAnd (fUn (fun x R => R (.bool (isiD "tuple" x))) (fVarB 0)) (fChain oLe oLe (fVarB 1) (fUn oLen (fVarB 0)) (fVarB 2))))
theorem ok_law_is_lot {k : Nat} {C : Ct} (T : Txt W K mg) {f : Addr} {fd : FuncData} (F : Fun K "_law_is_lot" "_law_is_lot" s_law_is_lot f fd) (hm : mg "_law_is_lot" = some (.ref f)) (hb : Binds K fd ["_law_thing", "_law_low", "_law_high"] []) (hC : ∀ as S R, as.length = 3 → C as S R → G_law_is_lot (ent N_law_is_lot as) S { nx := fun _ S' => R .none S', rt := R }) : Pro P W K mg base (k + 1) f fd ["_law_thing", "_law_low", "_law_high"] (spC K 3 C) := by
  have nd := sc_law_is_lot.nd
  exact dfn_ok F sc_law_is_lot rfl (by decide) (fun cdv A outer s H E hr =>
    (s_one (s_ret (d_and (b_of (d_isi isi_tuple (b_var 0) T.z_isinstance T.z_tuple PyProof.Rows.boot_tuple)) (d_one (d_chain op_le op_le sIntB sIntB (b_var 1) (b_of (d_callB call_len sLen (b_var 0) T.z_len PySem.boot_len)) (b_var 2))))))) hC
theorem bd_law_is_lot {k : Nat} {C : Ct} (T : Txt W K mg) {f : Addr} {fd : FuncData} (F : Fun K "_law_is_lot" "_law_is_lot" s_law_is_lot f fd) (hm : mg "_law_is_lot" = some (.ref f)) (hb : Binds K fd ["_law_thing", "_law_low", "_law_high"] []) (hC : ∀ as S R, as.length = 3 → C as S R → G_law_is_lot (ent N_law_is_lot as) S { nx := fun _ S' => R .none S', rt := R }) : Cal P W K mg base "_law_is_lot" (k + 1) 3 C := ⟨f, fd, _, ok_law_is_lot T F hm hb hC, F.kp, hb, hm⟩
/-! _law_is_fraction -/
abbrev s_law_is_fraction : Stmt := top 40
abbrev N_law_is_fraction : List Str := ["_law_thing", "_law_each"]
theorem sc_law_is_fraction : FnScope N_law_is_fraction ["_law_thing"] (defScope s_law_is_fraction) := ⟨rfl, rfl, rfl, by decide +kernel, rfl, by decide +kernel, by decide +kernel⟩
def G_law_is_fraction (C_law_is_whole C_law_is_lot C_law_divisor : Ct) : FS :=
    (sSeq (sIf (fOr (fNot (fCall C_law_is_lot (gDat (fVar 0) (gDat (fC (.int 2)) (gDat (fC (.int 2)) gaNil))))) (fNot (fUn oAll (fLc (fiT (fVarB 0)) [1] (gNm 1) (fC (.bool true)) (fCall C_law_is_whole (gDat (fVar 1) gaNil))))))
    (sRet (fC (.bool false)))
    sNext)
    (sRet (fAnd (fOp oGt (fOp oIx (fVarB 0) (fC (.int 1))) (fC (.int 0))) (fOp oEq (fCall C_law_divisor (gDat (fOp oIx (fVarB 0) (fC (.int 0))) (gDat (fOp oIx (fVarB 0) (fC (.int 1))) gaNil))) (fC (.int 1))))))
theorem ok_law_is_fraction {k : Nat} {C_law_is_whole C_law_is_lot C_law_divisor : Ct} {C : Ct} (T : Txt W K mg) {f : Addr} {fd : FuncData} (F : Fun K "_law_is_fraction" "_law_is_fraction" s_law_is_fraction f fd) (hm : mg "_law_is_fraction" = some (.ref f)) (hb : Binds K fd ["_law_thing"] []) (c_law_is_whole : Cal P W K mg base "_law_is_whole" k 1 C_law_is_whole) (c_law_is_lot : Cal P W K mg base "_law_is_lot" k 3 C_law_is_lot) (c_law_divisor : Cal P W K mg base "_law_divisor" k 2 C_law_divisor) (hC : ∀ as S R, as.length = 1 → C as S R → (G_law_is_fraction C_law_is_whole C_law_is_lot C_law_divisor) (ent N_law_is_fraction as) S { nx := fun _ S' => R .none S', rt := R }) : Pro P W K mg base (k + 1) f fd ["_law_thing"] (spC K 1 C) := by
  have nd := sc_law_is_fraction.nd
  exact dfn_ok F sc_law_is_fraction rfl (by decide) (fun cdv A outer s H E hr =>
    (s_cons (s_if (PW.pt (w_or (t_not (t_val (b_of (d_call c_law_is_lot (hr.mono (by omega)) (c_dat (d_var 0) (c_dat d_int (c_dat d_int c_nil))))))) (w_or1 (t_not (t_val (b_of (d_callB (cr_all rfl) sAll (b_of (d_of_n (n_lc rfl nd (ic_of (i_tup (b_var 0))) (blkOk_by (own := [("_law_each", 1)]) (N := N_law_is_fraction) (sc := defScope s_law_is_fraction) (by decide +kernel)) (by decide) (fun _ _ _ _ _ => (g_name 1 nd)) (fun _ _ _ _ _ => p_nil) (fun _ _ _ _ _ => (d_call c_law_is_whole (hr.mono (by omega)) (c_dat (d_var 1) c_nil)))))) T.z_all PyProof.Rows.boot_all)))))))
    (s_one (s_ret d_bool))
    s_nil)
    (s_one (s_ret (d_and (b_of (d_cmp op_gt sIntB (b_of (d_ix (b_var 0) (b_of d_int))) (b_of d_int))) (d_one (d_cmp (op_eqH hr) sEq (b_of (d_call c_law_divisor (hr.mono (by omega)) (c_dat (d_ix (b_var 0) (b_of d_int)) (c_dat (d_ix (b_var 0) (b_of d_int)) c_nil)))) (b_of d_int)))))))) hC
theorem bd_law_is_fraction {k : Nat} {C_law_is_whole C_law_is_lot C_law_divisor : Ct} {C : Ct} (T : Txt W K mg) {f : Addr} {fd : FuncData} (F : Fun K "_law_is_fraction" "_law_is_fraction" s_law_is_fraction f fd) (hm : mg "_law_is_fraction" = some (.ref f)) (hb : Binds K fd ["_law_thing"] []) (c_law_is_whole : Cal P W K mg base "_law_is_whole" k 1 C_law_is_whole) (c_law_is_lot : Cal P W K mg base "_law_is_lot" k 3 C_law_is_lot) (c_law_divisor : Cal P W K mg base "_law_divisor" k 2 C_law_divisor) (hC : ∀ as S R, as.length = 1 → C as S R → (G_law_is_fraction C_law_is_whole C_law_is_lot C_law_divisor) (ent N_law_is_fraction as) S { nx := fun _ S' => R .none S', rt := R }) : Cal P W K mg base "_law_is_fraction" (k + 1) 1 C := ⟨f, fd, _, ok_law_is_fraction T F hm hb c_law_is_whole c_law_is_lot c_law_divisor hC, F.kp, hb, hm⟩
/-! _law_is_told -/
abbrev s_law_is_told : Stmt := top 41
abbrev N_law_is_told : List Str := ["_law_thing", "_law_each"]
theorem sc_law_is_told : FnScope N_law_is_told ["_law_thing"] (defScope s_law_is_told) := ⟨rfl, rfl, rfl, by decide +kernel, rfl, by decide +kernel, by decide +kernel⟩
def G_law_is_told (C_law_is_fraction C_law_is_lot : Ct) : FS :=
    (sRet (fAnd (fCall C_law_is_lot (gDat (fVar 0) (gDat (fC (.int 2)) (gDat (fC (.int 2)) gaNil)))) (fUn oAll (fLc (fiT (fVarB 0)) [1] (gNm 1) (fC (.bool true)) (fCall C_law_is_fraction (gDat (fVar 1) gaNil))))))
theorem ok_law_is_told {k : Nat} {C_law_is_fraction C_law_is_lot : Ct} {C : Ct} (T : Txt W K mg) {f : Addr} {fd : FuncData} (F : Fun K "_law_is_told" "_law_is_told" s_law_is_told f fd) (hm : mg "_law_is_told" = some (.ref f)) (hb : Binds K fd ["_law_thing"] []) (c_law_is_fraction : Cal P W K mg base "_law_is_fraction" k 1 C_law_is_fraction) (c_law_is_lot : Cal P W K mg base "_law_is_lot" k 3 C_law_is_lot) (hC : ∀ as S R, as.length = 1 → C as S R → (G_law_is_told C_law_is_fraction C_law_is_lot) (ent N_law_is_told as) S { nx := fun _ S' => R .none S', rt := R }) : Pro P W K mg base (k + 1) f fd ["_law_thing"] (spC K 1 C) := by
  have nd := sc_law_is_told.nd
  exact dfn_ok F sc_law_is_told rfl (by decide) (fun cdv A outer s H E hr =>
    (s_one (s_ret (d_and (b_of (d_call c_law_is_lot (hr.mono (by omega)) (c_dat (d_var 0) (c_dat d_int (c_dat d_int c_nil))))) (d_one (d_callB (cr_all rfl) sAll (b_of (d_of_n (n_lc rfl nd (ic_of (i_tup (b_var 0))) (blkOk_by (own := [("_law_each", 1)]) (N := N_law_is_told) (sc := defScope s_law_is_told) (by decide +kernel)) (by decide) (fun _ _ _ _ _ => (g_name 1 nd)) (fun _ _ _ _ _ => p_nil) (fun _ _ _ _ _ => (d_call c_law_is_fraction (hr.mono (by omega)) (c_dat (d_var 1) c_nil)))))) T.z_all PyProof.Rows.boot_all)))))) hC
theorem bd_law_is_told {k : Nat} {C_law_is_fraction C_law_is_lot : Ct} {C : Ct} (T : Txt W K mg) {f : Addr} {fd : FuncData} (F : Fun K "_law_is_told" "_law_is_told" s_law_is_told f fd) (hm : mg "_law_is_told" = some (.ref f)) (hb : Binds K fd ["_law_thing"] []) (c_law_is_fraction : Cal P W K mg base "_law_is_fraction" k 1 C_law_is_fraction) (c_law_is_lot : Cal P W K mg base "_law_is_lot" k 3 C_law_is_lot) (hC : ∀ as S R, as.length = 1 → C as S R → (G_law_is_told C_law_is_fraction C_law_is_lot) (ent N_law_is_told as) S { nx := fun _ S' => R .none S', rt := R }) : Cal P W K mg base "_law_is_told" (k + 1) 1 C := ⟨f, fd, _, ok_law_is_told T F hm hb c_law_is_fraction c_law_is_lot hC, F.kp, hb, hm⟩
/-! _law_shape -/
abbrev s_law_shape : Stmt := top 42
abbrev N_law_shape : List Str := ["_law_thing", "_law_word", "_law_rest", "_law_some", "_law_row_here", "_law_low", "_law_pairs_here", "_law_each"]
theorem sc_law_shape : FnScope N_law_shape ["_law_thing"] (defScope s_law_shape) := ⟨rfl, rfl, rfl, by decide +kernel, rfl, by decide +kernel, by decide +kernel⟩
def G_law_shape (C_law_is_lot C_law_shape C_law_is_told C_law_pairs : Ct) : FS :=
    (sSeq (sIf (fOr (fNot (fCall C_law_is_lot (gDat (fVar 0) (gDat (fC (.int 2)) (gDat (fC (.int 3)) gaNil))))) (fNot (fUn (fun x R => R (.bool (isiD "str" x))) (fOp oIx (fVarB 0) (fC (.int 0))))))
    (sRet (fTup (fCons (fC (.int 0)) (fCons (fC (.int 0)) fNil))))
    sNext)
    (sSeq (sPar 1 2 (fCons (fOp oIx (fVarB 0) (fC (.int 0))) (fCons (fSl (fVarB 0) (fP (fC (.int 1))) fNoP) fNil)))
    (sSeq (sIf (fOp (oIn false) (fVarB 1) (fTup (fCons (fC (.str (PySem.Str.ofString "both"))) (fCons (fC (.str (PySem.Str.ofString "either"))) (fCons (fC (.str (PySem.Str.ofString "less"))) (fCons (fC (.str (PySem.Str.ofString "closure"))) (fCons (fC (.str (PySem.Str.ofString "inner"))) (fCons (fC (.str (PySem.Str.ofString "rim"))) fNil))))))))
    (sSeq (sSet 3 (fLc (fiT (fVarB 2)) [7] (gNm 7) (fC (.bool true)) (fCall C_law_shape (gDat (fVar 7) gaNil))))
    (sSeq (sIf (fOr (fOp oNe (fUn oLen (fVarB 2)) (fIf (fOp (oIn false) (fVarB 1) (fTup (fCons (fC (.str (PySem.Str.ofString "both"))) (fCons (fC (.str (PySem.Str.ofString "either"))) (fCons (fC (.str (PySem.Str.ofString "less"))) fNil))))) (fC (.int 2)) (fC (.int 1)))) (fOp (oInD false) (fTup (fCons (fC (.int 0)) (fCons (fC (.int 0)) fNil))) (fVarB 3)))
    (sRet (fTup (fCons (fC (.int 0)) (fCons (fC (.int 0)) fNil))))
    sNext)
    (sRet (fTup (fCons (fOp oAdd (fC (.int 1)) (fUn oMax (fLc (fiL (fVar 3)) [7] (gNm 7) (fC (.bool true)) (fOp oIx (fVarB 7) (fC (.int 0)))))) (fCons (fUn oSum (fLc (fiL (fVar 3)) [7] (gNm 7) (fC (.bool true)) (fOp oIx (fVarB 7) (fC (.int 1))))) fNil))))))
    sNext)
    (sSeq (sIf (fOr (fOp oNe (fUn oLen (fVarB 2)) (fC (.int 1))) (fOp (oIn true) (fVarB 1) (fTup (fCons (fC (.str (PySem.Str.ofString "spot"))) (fCons (fC (.str (PySem.Str.ofString "path"))) (fCons (fC (.str (PySem.Str.ofString "area"))) fNil))))))
    (sRet (fTup (fCons (fC (.int 0)) (fCons (fC (.int 0)) fNil))))
    sNext)
    (sSeq (sIf (fOp oEq (fVarB 1) (fC (.str (PySem.Str.ofString "spot"))))
    (sRet (fIf (fCall C_law_is_told (gDat (fOp oIx (fVarB 2) (fC (.int 0))) gaNil)) (fTup (fCons (fC (.int 1)) (fCons (fC (.int 0)) fNil))) (fTup (fCons (fC (.int 0)) (fCons (fC (.int 0)) fNil)))))
    sNext)
    (sSeq (sPar 4 5 (fCons (fOp oIx (fVarB 2) (fC (.int 0))) (fCons (fIf (fOp oEq (fVarB 1) (fC (.str (PySem.Str.ofString "area")))) (fC (.int 3)) (fC (.int 2))) fNil)))
    (sSeq (sIf (fOr (fNot (fCall C_law_is_lot (gDat (fVar 4) (gDat (fVar 5) (gDat (fC (.int 12)) gaNil))))) (fNot (fUn oAll (fLc (fiT (fVarB 4)) [7] (gNm 7) (fC (.bool true)) (fCall C_law_is_told (gDat (fVar 7) gaNil))))))
    (sRet (fTup (fCons (fC (.int 0)) (fCons (fC (.int 0)) fNil))))
    sNext)
    (sSeq (sSet 6 (fCall C_law_pairs (gDat (fVar 4) (gDat (fOp oEq (fVarB 1) (fC (.str (PySem.Str.ofString "area")))) gaNil))))
    (sRet (fIf (fUn oAll (fLc (fiL (fVar 6)) [7] (gNm 7) (fC (.bool true)) (fOp oNe (fOp oIx (fVarB 7) (fC (.int 0))) (fOp oIx (fVarB 7) (fC (.int 1)))))) (fTup (fCons (fC (.int 1)) (fCons (fUn oLen (fVarB 6)) fNil))) (fTup (fCons (fC (.int 0)) (fCons (fC (.int 0)) fNil)))))))))))))
theorem ok_law_shape {k : Nat} {C_law_is_lot C_law_shape C_law_is_told C_law_pairs : Ct} {C : Ct} (T : Txt W K mg) {f : Addr} {fd : FuncData} (F : Fun K "_law_shape" "_law_shape" s_law_shape f fd) (hm : mg "_law_shape" = some (.ref f)) (hb : Binds K fd ["_law_thing"] []) (c_law_is_lot : Cal P W K mg base "_law_is_lot" k 3 C_law_is_lot) (c_law_shape : Cal P W K mg base "_law_shape" k 1 C_law_shape) (c_law_is_told : Cal P W K mg base "_law_is_told" k 1 C_law_is_told) (c_law_pairs : Cal P W K mg base "_law_pairs" k 2 C_law_pairs) (hC : ∀ as S R, as.length = 1 → C as S R → (G_law_shape C_law_is_lot C_law_shape C_law_is_told C_law_pairs) (ent N_law_shape as) S { nx := fun _ S' => R .none S', rt := R }) : Pro P W K mg base (k + 1) f fd ["_law_thing"] (spC K 1 C) := by
  have nd := sc_law_shape.nd
  exact dfn_ok F sc_law_shape rfl (by decide) (fun cdv A outer s H E hr =>
    (s_cons (s_if (PW.pt (w_or (t_not (t_val (b_of (d_call c_law_is_lot (hr.mono (by omega)) (c_dat (d_var 0) (c_dat d_int (c_dat d_int c_nil))))))) (w_or1 (t_not (t_val (b_of (d_isi isi_str (b_of (d_ix (b_var 0) (b_of d_int))) T.z_isinstance T.z_str PyProof.Rows.boot_str)))))))
    (s_one (s_ret (d_tup (a_cons d_int (a_cons d_int a_nil)))))
    s_nil)
    (s_cons (s_par 1 2 rfl nd (a_cons (d_ix (b_var 0) (b_of d_int)) (a_cons (d_slice (b_var 0) (o_some (b_of d_int)) o_none) a_nil)))
    (s_cons (s_if (t_cmp op_in_seq sIn (b_var 1) (b_of (d_tup (a_cons d_str (a_cons d_str (a_cons d_str (a_cons d_str (a_cons d_str (a_cons d_str a_nil)))))))))
    (s_cons (s_setLcD 3 rfl nd (ic_of (i_tup (b_var 2))) (blkOk_by (own := [("_law_each", 7)]) (N := N_law_shape) (sc := defScope s_law_shape) (by decide +kernel)) (by decide) (fun _ _ _ _ _ => (g_name 7 nd)) (fun _ _ _ _ _ => p_nil) (fun _ _ _ _ _ => (d_call c_law_shape (hr.mono (by omega)) (c_dat (d_var 7) c_nil))) (sw_true rfl rfl rfl (by decide +kernel)))
    (s_cons (s_if (PW.pt (w_or (t_cmp (op_neH hr) sNe (b_of (d_callB call_len sLen (b_var 2) T.z_len PySem.boot_len)) (b_of (d_if (t_cmp op_in_seq sIn (b_var 1) (b_of (d_tup (a_cons d_str (a_cons d_str (a_cons d_str a_nil)))))) d_int d_int))) (w_or1 (t_cmp (op_inDeep hr) sInD (b_of (d_tup (a_cons d_int (a_cons d_int a_nil)))) (b_var 3)))))
    (s_one (s_ret (d_tup (a_cons d_int (a_cons d_int a_nil)))))
    s_nil)
    (s_one (s_ret (d_tup (a_cons (d_add (b_of d_int) (b_of (d_callB (cr_max rfl) sMax (b_of (d_of_n (n_lc rfl nd (ic_of (i_list (d_var 3))) (blkOk_by (own := [("_law_each", 7)]) (N := N_law_shape) (sc := defScope s_law_shape) (by decide +kernel)) (by decide) (fun _ _ _ _ _ => (g_name 7 nd)) (fun _ _ _ _ _ => p_nil) (fun _ _ _ _ _ => (d_ix (b_var 7) (b_of d_int)))))) T.z_max PyProof.Rows.boot_max))) (a_cons (d_callB (cr_sum rfl) sSum (b_of (d_of_n (n_lc rfl nd (ic_of (i_list (d_var 3))) (blkOk_by (own := [("_law_each", 7)]) (N := N_law_shape) (sc := defScope s_law_shape) (by decide +kernel)) (by decide) (fun _ _ _ _ _ => (g_name 7 nd)) (fun _ _ _ _ _ => p_nil) (fun _ _ _ _ _ => (d_ix (b_var 7) (b_of d_int)))))) T.z_sum PyProof.Rows.boot_sum) a_nil)))))))
    s_nil)
    (s_cons (s_if (PW.pt (w_or (t_cmp (op_neH hr) sNe (b_of (d_callB call_len sLen (b_var 2) T.z_len PySem.boot_len)) (b_of d_int)) (w_or1 (t_cmp op_notIn_seq sIn (b_var 1) (b_of (d_tup (a_cons d_str (a_cons d_str (a_cons d_str a_nil)))))))))
    (s_one (s_ret (d_tup (a_cons d_int (a_cons d_int a_nil)))))
    s_nil)
    (s_cons (s_if (t_cmp (op_eqH hr) sEq (b_var 1) (b_of d_str))
    (s_one (s_ret (d_if (t_val (b_of (d_call c_law_is_told (hr.mono (by omega)) (c_dat (d_ix (b_var 2) (b_of d_int)) c_nil)))) (d_tup (a_cons d_int (a_cons d_int a_nil))) (d_tup (a_cons d_int (a_cons d_int a_nil))))))
    s_nil)
    (s_cons (s_par 4 5 rfl nd (a_cons (d_ix (b_var 2) (b_of d_int)) (a_cons (d_if (t_cmp (op_eqH hr) sEq (b_var 1) (b_of d_str)) d_int d_int) a_nil)))
    (s_cons (s_if (PW.pt (w_or (t_not (t_val (b_of (d_call c_law_is_lot (hr.mono (by omega)) (c_dat (d_var 4) (c_dat (d_var 5) (c_dat d_int c_nil))))))) (w_or1 (t_not (t_val (b_of (d_callB (cr_all rfl) sAll (b_of (d_of_n (n_lc rfl nd (ic_of (i_tup (b_var 4))) (blkOk_by (own := [("_law_each", 7)]) (N := N_law_shape) (sc := defScope s_law_shape) (by decide +kernel)) (by decide) (fun _ _ _ _ _ => (g_name 7 nd)) (fun _ _ _ _ _ => p_nil) (fun _ _ _ _ _ => (d_call c_law_is_told (hr.mono (by omega)) (c_dat (d_var 7) c_nil)))))) T.z_all PyProof.Rows.boot_all)))))))
    (s_one (s_ret (d_tup (a_cons d_int (a_cons d_int a_nil)))))
    s_nil)
    (s_cons (s_set 6 nd (d_call c_law_pairs (hr.mono (by omega)) (c_dat (d_var 4) (c_dat (d_cmp (op_eqH hr) sEq (b_var 1) (b_of d_str)) c_nil))))
    (s_one (s_ret (d_if (t_val (b_of (d_callB (cr_all rfl) sAll (b_of (d_of_n (n_lc rfl nd (ic_of (i_list (d_var 6))) (blkOk_by (own := [("_law_each", 7)]) (N := N_law_shape) (sc := defScope s_law_shape) (by decide +kernel)) (by decide) (fun _ _ _ _ _ => (g_name 7 nd)) (fun _ _ _ _ _ => p_nil) (fun _ _ _ _ _ => (d_cmp (op_neH hr) sNe (b_of (d_ix (b_var 7) (b_of d_int))) (b_of (d_ix (b_var 7) (b_of d_int)))))))) T.z_all PyProof.Rows.boot_all))) (d_tup (a_cons d_int (a_cons (d_callB call_len sLen (b_var 6) T.z_len PySem.boot_len) a_nil))) (d_tup (a_cons d_int (a_cons d_int a_nil))))))))))))))) hC
theorem bd_law_shape {k : Nat} {C_law_is_lot C_law_shape C_law_is_told C_law_pairs : Ct} {C : Ct} (T : Txt W K mg) {f : Addr} {fd : FuncData} (F : Fun K "_law_shape" "_law_shape" s_law_shape f fd) (hm : mg "_law_shape" = some (.ref f)) (hb : Binds K fd ["_law_thing"] []) (c_law_is_lot : Cal P W K mg base "_law_is_lot" k 3 C_law_is_lot) (c_law_shape : Cal P W K mg base "_law_shape" k 1 C_law_shape) (c_law_is_told : Cal P W K mg base "_law_is_told" k 1 C_law_is_told) (c_law_pairs : Cal P W K mg base "_law_pairs" k 2 C_law_pairs) (hC : ∀ as S R, as.length = 1 → C as S R → (G_law_shape C_law_is_lot C_law_shape C_law_is_told C_law_pairs) (ent N_law_shape as) S { nx := fun _ S' => R .none S', rt := R }) : Cal P W K mg base "_law_shape" (k + 1) 1 C := ⟨f, fd, _, ok_law_shape T F hm hb c_law_is_lot c_law_shape c_law_is_told c_law_pairs hC, F.kp, hb, hm⟩
/-! _law_wrapped -/
abbrev s_law_wrapped : Stmt := top 43
abbrev N_law_wrapped : List Str := ["_law_spring_here", "_law_frame_here", "_law_found", "_law_turn", "_law_word", "_law_leaf_here"]
theorem sc_law_wrapped : FnScope N_law_wrapped ["_law_spring_here", "_law_frame_here"] (defScope s_law_wrapped) := ⟨rfl, rfl, rfl, by decide +kernel, rfl, by decide +kernel, by decide +kernel⟩
def G_law_wrapped (C_law_leaf C_law_draw C_law_one_of : Ct) : FS :=
    (sSeq (sSet 2 (fCallL [0] C_law_leaf (gWelN 0 (gDatN (fVar 1) (gLast (fLst (fCons (fC (.int 6)) fNil)))))))
    (sSeq (sFor (fiR1 (fOp oAdd (fC (.int 4)) (fCall C_law_draw (gWel 0 (gDat (fC (.int 4)) gaNil))))) (gNm 3)
    (sSeq (sSet 4 (fCall C_law_one_of (gWel 0 (gDat (fTup (fCons (fC (.str (PySem.Str.ofString "closure"))) (fCons (fC (.str (PySem.Str.ofString "inner"))) (fCons (fC (.str (PySem.Str.ofString "rim"))) (fCons (fC (.str (PySem.Str.ofString "both"))) (fCons (fC (.str (PySem.Str.ofString "either"))) (fCons (fC (.str (PySem.Str.ofString "less"))) fNil))))))) gaNil))))
    (sIf (fOp (oIn false) (fVarB 4) (fTup (fCons (fC (.str (PySem.Str.ofString "closure"))) (fCons (fC (.str (PySem.Str.ofString "inner"))) (fCons (fC (.str (PySem.Str.ofString "rim"))) fNil)))))
    (sSet 2 (fTup (fCons (fVar 4) (fCons (fVar 2) fNil))))
    (sSeq (sSet 5 (fCallL [0] C_law_leaf (gWelN 0 (gDatN (fVar 1) (gLast (fLst (fCons (fC (.int 1)) fNil)))))))
    (sSet 2 (fIf (fOp oEq (fCall C_law_draw (gWel 0 (gDat (fC (.int 2)) gaNil))) (fC (.int 0))) (fTup (fCons (fVar 4) (fCons (fVar 2) (fCons (fVar 5) fNil)))) (fTup (fCons (fVar 4) (fCons (fVar 5) (fCons (fVar 2) fNil))))))))))
    (sRetV 2)))
theorem ok_law_wrapped {k : Nat} {C_law_leaf C_law_draw C_law_one_of : Ct} {C : Ct} (T : Txt W K mg) {f : Addr} {fd : FuncData} (F : Fun K "_law_wrapped" "_law_wrapped" s_law_wrapped f fd) (hm : mg "_law_wrapped" = some (.ref f)) (hb : Binds K fd ["_law_spring_here", "_law_frame_here"] []) (c_law_leaf : Cal P W K mg base "_law_leaf" k 3 C_law_leaf) (c_law_draw : Cal P W K mg base "_law_draw" k 2 C_law_draw) (c_law_one_of : Cal P W K mg base "_law_one_of" k 2 C_law_one_of) (hC : ∀ as S R, as.length = 2 → C as S R → (G_law_wrapped C_law_leaf C_law_draw C_law_one_of) (ent N_law_wrapped as) S { nx := fun _ S' => R .none S', rt := R }) : Pro P W K mg base (k + 1) f fd ["_law_spring_here", "_law_frame_here"] (spC K 2 C) := by
  have nd := sc_law_wrapped.nd
  exact dfn_ok F sc_law_wrapped rfl (by decide) (fun cdv A outer s H E hr =>
    (s_cons (s_set 2 nd (d_callL [0] c_law_leaf (hr.mono (by omega)) (l_wel 0 (l_dat (d_var 1) (l_last (n_lst (a_cons d_int a_nil)))))))
    (s_cons (s_for PassesOwn.never rfl (i_range1 (b_of (d_add (b_of d_int) (b_of (d_call c_law_draw (hr.mono (by omega)) (c_wel 0 (c_dat d_int c_nil)))))) T.z_range) (g_name 3 nd)
    (s_cons (s_set 4 nd (d_call c_law_one_of (hr.mono (by omega)) (c_wel 0 (c_dat (d_tup (a_cons d_str (a_cons d_str (a_cons d_str (a_cons d_str (a_cons d_str (a_cons d_str a_nil))))))) c_nil))))
    (s_one (s_if (t_cmp op_in_seq sIn (b_var 4) (b_of (d_tup (a_cons d_str (a_cons d_str (a_cons d_str a_nil))))))
    (s_one (s_set 2 nd (d_tup (a_cons (d_var 4) (a_cons (d_var 2) a_nil)))))
    (s_cons (s_set 5 nd (d_callL [0] c_law_leaf (hr.mono (by omega)) (l_wel 0 (l_dat (d_var 1) (l_last (n_lst (a_cons d_int a_nil)))))))
    (s_one (s_set 2 nd (d_if (t_cmp (op_eqH hr) sEq (b_of (d_call c_law_draw (hr.mono (by omega)) (c_wel 0 (c_dat d_int c_nil)))) (b_of d_int)) (d_tup (a_cons (d_var 4) (a_cons (d_var 2) (a_cons (d_var 5) a_nil)))) (d_tup (a_cons (d_var 4) (a_cons (d_var 5) (a_cons (d_var 2) a_nil))))))))))))
    (s_one (s_retV 2))))) hC
theorem bd_law_wrapped {k : Nat} {C_law_leaf C_law_draw C_law_one_of : Ct} {C : Ct} (T : Txt W K mg) {f : Addr} {fd : FuncData} (F : Fun K "_law_wrapped" "_law_wrapped" s_law_wrapped f fd) (hm : mg "_law_wrapped" = some (.ref f)) (hb : Binds K fd ["_law_spring_here", "_law_frame_here"] []) (c_law_leaf : Cal P W K mg base "_law_leaf" k 3 C_law_leaf) (c_law_draw : Cal P W K mg base "_law_draw" k 2 C_law_draw) (c_law_one_of : Cal P W K mg base "_law_one_of" k 2 C_law_one_of) (hC : ∀ as S R, as.length = 2 → C as S R → (G_law_wrapped C_law_leaf C_law_draw C_law_one_of) (ent N_law_wrapped as) S { nx := fun _ S' => R .none S', rt := R }) : Cal P W K mg base "_law_wrapped" (k + 1) 2 C := ⟨f, fd, _, ok_law_wrapped T F hm hb c_law_leaf c_law_draw c_law_one_of hC, F.kp, hb, hm⟩
/-! _law_wide -/
abbrev s_law_wide : Stmt := top 44
abbrev N_law_wide : List Str := ["_law_spring_here", "_law_frame_here", "_law_first", "_law_second", "_law_third", "_law_word"]
theorem sc_law_wide : FnScope N_law_wide ["_law_spring_here", "_law_frame_here"] (defScope s_law_wide) := ⟨rfl, rfl, rfl, by decide +kernel, rfl, by decide +kernel, by decide +kernel⟩
def G_law_wide (C_law_row C_law_draw C_law_one_of : Ct) : FS :=
    (sSeq (sSet 2 (fTup (fCons (fC (.str (PySem.Str.ofString "area"))) (fCons (fCall C_law_row (gWel 0 (gDat (fVar 1) (gDat (fC (.int 12)) (gDat (fC (.bool true)) gaNil))))) fNil))))
    (sSeq (sSet 3 (fTup (fCons (fC (.str (PySem.Str.ofString "area"))) (fCons (fCall C_law_row (gWel 0 (gDat (fVar 1) (gDat (fOp oAdd (fC (.int 9)) (fCall C_law_draw (gWel 0 (gDat (fC (.int 3)) gaNil)))) (gDat (fC (.bool true)) gaNil))))) fNil))))
    (sSeq (sSet 4 (fTup (fCons (fC (.str (PySem.Str.ofString "path"))) (fCons (fCall C_law_row (gWel 0 (gDat (fVar 1) (gDat (fOp oAdd (fC (.int 2)) (fCall C_law_draw (gWel 0 (gDat (fC (.int 4)) gaNil)))) (gDat (fC (.bool false)) gaNil))))) fNil))))
    (sSeq (sSet 5 (fCall C_law_one_of (gWel 0 (gDat (fTup (fCons (fC (.str (PySem.Str.ofString "either"))) (fCons (fC (.str (PySem.Str.ofString "less"))) (fCons (fC (.str (PySem.Str.ofString "both"))) fNil)))) gaNil))))
    (sRet (fCall C_law_one_of (gWel 0 (gDat (fTup (fCons (fTup (fCons (fVar 5) (fCons (fVar 2) (fCons (fTup (fCons (fVar 5) (fCons (fVar 3) (fCons (fVar 4) fNil)))) fNil)))) (fCons (fTup (fCons (fVar 5) (fCons (fTup (fCons (fC (.str (PySem.Str.ofString "rim"))) (fCons (fTup (fCons (fVar 5) (fCons (fVar 4) (fCons (fVar 2) fNil)))) fNil))) (fCons (fVar 3) fNil)))) fNil))) gaNil))))))))
theorem ok_law_wide {k : Nat} {C_law_row C_law_draw C_law_one_of : Ct} {C : Ct} (T : Txt W K mg) {f : Addr} {fd : FuncData} (F : Fun K "_law_wide" "_law_wide" s_law_wide f fd) (hm : mg "_law_wide" = some (.ref f)) (hb : Binds K fd ["_law_spring_here", "_law_frame_here"] []) (c_law_row : Cal P W K mg base "_law_row" k 4 C_law_row) (c_law_draw : Cal P W K mg base "_law_draw" k 2 C_law_draw) (c_law_one_of : Cal P W K mg base "_law_one_of" k 2 C_law_one_of) (hC : ∀ as S R, as.length = 2 → C as S R → (G_law_wide C_law_row C_law_draw C_law_one_of) (ent N_law_wide as) S { nx := fun _ S' => R .none S', rt := R }) : Pro P W K mg base (k + 1) f fd ["_law_spring_here", "_law_frame_here"] (spC K 2 C) := by
  have nd := sc_law_wide.nd
  exact dfn_ok F sc_law_wide rfl (by decide) (fun cdv A outer s H E hr =>
    (s_cons (s_set 2 nd (d_tup (a_cons d_str (a_cons (d_call c_law_row (hr.mono (by omega)) (c_wel 0 (c_dat (d_var 1) (c_dat d_int (c_dat d_bool c_nil))))) a_nil))))
    (s_cons (s_set 3 nd (d_tup (a_cons d_str (a_cons (d_call c_law_row (hr.mono (by omega)) (c_wel 0 (c_dat (d_var 1) (c_dat (d_add (b_of d_int) (b_of (d_call c_law_draw (hr.mono (by omega)) (c_wel 0 (c_dat d_int c_nil))))) (c_dat d_bool c_nil))))) a_nil))))
    (s_cons (s_set 4 nd (d_tup (a_cons d_str (a_cons (d_call c_law_row (hr.mono (by omega)) (c_wel 0 (c_dat (d_var 1) (c_dat (d_add (b_of d_int) (b_of (d_call c_law_draw (hr.mono (by omega)) (c_wel 0 (c_dat d_int c_nil))))) (c_dat d_bool c_nil))))) a_nil))))
    (s_cons (s_set 5 nd (d_call c_law_one_of (hr.mono (by omega)) (c_wel 0 (c_dat (d_tup (a_cons d_str (a_cons d_str (a_cons d_str a_nil)))) c_nil))))
    (s_one (s_ret (d_call c_law_one_of (hr.mono (by omega)) (c_wel 0 (c_dat (d_tup (a_cons (d_tup (a_cons (d_var 5) (a_cons (d_var 2) (a_cons (d_tup (a_cons (d_var 5) (a_cons (d_var 3) (a_cons (d_var 4) a_nil)))) a_nil)))) (a_cons (d_tup (a_cons (d_var 5) (a_cons (d_tup (a_cons d_str (a_cons (d_tup (a_cons (d_var 5) (a_cons (d_var 4) (a_cons (d_var 2) a_nil)))) a_nil))) (a_cons (d_var 3) a_nil)))) a_nil))) c_nil)))))))))) hC
theorem bd_law_wide {k : Nat} {C_law_row C_law_draw C_law_one_of : Ct} {C : Ct} (T : Txt W K mg) {f : Addr} {fd : FuncData} (F : Fun K "_law_wide" "_law_wide" s_law_wide f fd) (hm : mg "_law_wide" = some (.ref f)) (hb : Binds K fd ["_law_spring_here", "_law_frame_here"] []) (c_law_row : Cal P W K mg base "_law_row" k 4 C_law_row) (c_law_draw : Cal P W K mg base "_law_draw" k 2 C_law_draw) (c_law_one_of : Cal P W K mg base "_law_one_of" k 2 C_law_one_of) (hC : ∀ as S R, as.length = 2 → C as S R → (G_law_wide C_law_row C_law_draw C_law_one_of) (ent N_law_wide as) S { nx := fun _ S' => R .none S', rt := R }) : Cal P W K mg base "_law_wide" (k + 1) 2 C := ⟨f, fd, _, ok_law_wide T F hm hb c_law_row c_law_draw c_law_one_of hC, F.kp, hb, hm⟩
/-! _law_line -/
abbrev s_law_line : Stmt := top 45
abbrev N_law_line : List Str := ["_law_spring_here", "_law_frame_here", "_law_many"]
theorem sc_law_line : FnScope N_law_line ["_law_spring_here", "_law_frame_here"] (defScope s_law_line) := ⟨rfl, rfl, rfl, by decide +kernel, rfl, by decide +kernel, by decide +kernel⟩
def G_law_line (C_law_one_of C_law_row C_law_draw : Ct) : FS :=
    (sSeq (sSet 2 (fCall C_law_one_of (gWel 0 (gDat (fTup (fCons (fC (.int 1)) (fCons (fC (.int 2)) (fCons (fC (.int 3)) (fCons (fC (.int 7)) (fCons (fC (.int 11)) (fCons (fC (.int 12)) (fCons (fC (.int 13)) fNil)))))))) gaNil))))
    (sRet (fTup (fCons (fCall C_law_one_of (gWel 0 (gDat (fTup (fCons (fC (.str (PySem.Str.ofString "path"))) (fCons (fC (.str (PySem.Str.ofString "area"))) fNil))) gaNil))) (fCons (fCall C_law_row (gWel 0 (gDat (fVar 1) (gDat (fVar 2) (gDat (fOp oEq (fCall C_law_draw (gWel 0 (gDat (fC (.int 2)) gaNil))) (fC (.int 0))) gaNil))))) fNil)))))
theorem ok_law_line {k : Nat} {C_law_one_of C_law_row C_law_draw : Ct} {C : Ct} (T : Txt W K mg) {f : Addr} {fd : FuncData} (F : Fun K "_law_line" "_law_line" s_law_line f fd) (hm : mg "_law_line" = some (.ref f)) (hb : Binds K fd ["_law_spring_here", "_law_frame_here"] []) (c_law_one_of : Cal P W K mg base "_law_one_of" k 2 C_law_one_of) (c_law_row : Cal P W K mg base "_law_row" k 4 C_law_row) (c_law_draw : Cal P W K mg base "_law_draw" k 2 C_law_draw) (hC : ∀ as S R, as.length = 2 → C as S R → (G_law_line C_law_one_of C_law_row C_law_draw) (ent N_law_line as) S { nx := fun _ S' => R .none S', rt := R }) : Pro P W K mg base (k + 1) f fd ["_law_spring_here", "_law_frame_here"] (spC K 2 C) := by
  have nd := sc_law_line.nd
  exact dfn_ok F sc_law_line rfl (by decide) (fun cdv A outer s H E hr =>
    (s_cons (s_set 2 nd (d_call c_law_one_of (hr.mono (by omega)) (c_wel 0 (c_dat (d_tup (a_cons d_int (a_cons d_int (a_cons d_int (a_cons d_int (a_cons d_int (a_cons d_int (a_cons d_int a_nil)))))))) c_nil))))
    (s_one (s_ret (d_tup (a_cons (d_call c_law_one_of (hr.mono (by omega)) (c_wel 0 (c_dat (d_tup (a_cons d_str (a_cons d_str a_nil))) c_nil))) (a_cons (d_call c_law_row (hr.mono (by omega)) (c_wel 0 (c_dat (d_var 1) (c_dat (d_var 2) (c_dat (d_cmp (op_eqH hr) sEq (b_of (d_call c_law_draw (hr.mono (by omega)) (c_wel 0 (c_dat d_int c_nil)))) (b_of d_int)) c_nil))))) a_nil))))))) hC
theorem bd_law_line {k : Nat} {C_law_one_of C_law_row C_law_draw : Ct} {C : Ct} (T : Txt W K mg) {f : Addr} {fd : FuncData} (F : Fun K "_law_line" "_law_line" s_law_line f fd) (hm : mg "_law_line" = some (.ref f)) (hb : Binds K fd ["_law_spring_here", "_law_frame_here"] []) (c_law_one_of : Cal P W K mg base "_law_one_of" k 2 C_law_one_of) (c_law_row : Cal P W K mg base "_law_row" k 4 C_law_row) (c_law_draw : Cal P W K mg base "_law_draw" k 2 C_law_draw) (hC : ∀ as S R, as.length = 2 → C as S R → (G_law_line C_law_one_of C_law_row C_law_draw) (ent N_law_line as) S { nx := fun _ S' => R .none S', rt := R }) : Cal P W K mg base "_law_line" (k + 1) 2 C := ⟨f, fd, _, ok_law_line T F hm hb c_law_one_of c_law_row c_law_draw hC, F.kp, hb, hm⟩
/-! _law_is_due -/
abbrev s_law_is_due : Stmt := top 46
abbrev N_law_is_due : List Str := ["_law_thing", "_law_deep", "_law_sides"]
theorem sc_law_is_due : FnScope N_law_is_due ["_law_thing"] (defScope s_law_is_due) := ⟨rfl, rfl, rfl, by decide +kernel, rfl, by decide +kernel, by decide +kernel⟩
def G_law_is_due (C_law_shape : Ct) : FS :=
    (sSeq (sAsg (fCall C_law_shape (gDat (fVar 0) gaNil)) (gTp 2 (gsCons (gNm 1) (gsCons (gNm 2) gsNil))))
    (sRet (fAnd (fChain oLt oLt (fC (.int 0)) (fVarB 1) (fC (.int 7))) (fOp oLt (fVarB 2) (fC (.int 25))))))
theorem ok_law_is_due {k : Nat} {C_law_shape : Ct} {C : Ct} (T : Txt W K mg) {f : Addr} {fd : FuncData} (F : Fun K "_law_is_due" "_law_is_due" s_law_is_due f fd) (hm : mg "_law_is_due" = some (.ref f)) (hb : Binds K fd ["_law_thing"] []) (c_law_shape : Cal P W K mg base "_law_shape" k 1 C_law_shape) (hC : ∀ as S R, as.length = 1 → C as S R → (G_law_is_due C_law_shape) (ent N_law_is_due as) S { nx := fun _ S' => R .none S', rt := R }) : Pro P W K mg base (k + 1) f fd ["_law_thing"] (spC K 1 C) := by
  have nd := sc_law_is_due.nd
  exact dfn_ok F sc_law_is_due rfl (by decide) (fun cdv A outer s H E hr =>
    (s_cons (s_asg (d_call c_law_shape (hr.mono (by omega)) (c_dat (d_var 0) c_nil)) (g_tup rfl (gs_cons (g_name 1 nd) (gs_cons (g_name 2 nd) gs_nil))))
    (s_one (s_ret (d_and (b_of (d_chain op_ltA op_ltA sLt sLt (b_of d_int) (b_var 1) (b_of d_int))) (d_one (d_cmp op_ltA sLt (b_var 2) (b_of d_int)))))))) hC
theorem bd_law_is_due {k : Nat} {C_law_shape : Ct} {C : Ct} (T : Txt W K mg) {f : Addr} {fd : FuncData} (F : Fun K "_law_is_due" "_law_is_due" s_law_is_due f fd) (hm : mg "_law_is_due" = some (.ref f)) (hb : Binds K fd ["_law_thing"] []) (c_law_shape : Cal P W K mg base "_law_shape" k 1 C_law_shape) (hC : ∀ as S R, as.length = 1 → C as S R → (G_law_is_due C_law_shape) (ent N_law_is_due as) S { nx := fun _ S' => R .none S', rt := R }) : Cal P W K mg base "_law_is_due" (k + 1) 1 C := ⟨f, fd, _, ok_law_is_due T F hm hb c_law_shape hC, F.kp, hb, hm⟩
/-! _law_right -/
abbrev s_law_right : Stmt := top 47
abbrev N_law_right : List Str := ["_law_spring_here", "_law_frame_here", "_law_some", "_law_due", "_law_each"]
theorem sc_law_right : FnScope N_law_right ["_law_spring_here"] (defScope s_law_right) := ⟨rfl, rfl, rfl, by decide +kernel, rfl, by decide +kernel, by decide +kernel⟩
def G_law_right (C_law_frame C_law_line C_law_wide C_law_wrapped C_law_figure C_law_bent C_law_odd C_law_one_of C_law_is_due C_is_figure : Ct) : FS :=
    (sSeq (sSet 1 (fCall C_law_frame (gWel 0 gaNil)))
    (sSeq (sOwn 2 (fLst (fCons (fCallL [0] C_law_figure (gWelN 0 (gDatN (fVar 1) (gDatN (fC (.int 4)) (gLast (fLst (fCons (fC (.int 10)) fNil))))))) (fCons (fCall C_law_wrapped (gWel 0 (gDat (fVar 1) gaNil))) (fCons (fCall C_law_wide (gWel 0 (gDat (fVar 1) gaNil))) (fCons (fCall C_law_line (gWel 0 (gDat (fVar 1) gaNil))) fNil))))))
    (sSeq (sOwn 2 (fOp oCatL (fOp oAdd (fVarB 2) (fLc (fiL (fVarB 2)) [4] (gNm 4) (fC (.bool true)) (fCall C_law_bent (gWel 0 (gDat (fVar 4) gaNil))))) (fLst (fCons (fCall C_law_bent (gWel 0 (gDat (fOp oIx (fVarB 2) (fC (.int 0))) gaNil))) (fCons (fCall C_law_odd (gWel 0 gaNil)) (fCons (fCall C_law_odd (gWel 0 gaNil)) fNil))))))
    (sSeq (sApp 2 (fTup (fCons (fCall C_law_one_of (gWel 0 (gDat (fTup (fCons (fC (.str (PySem.Str.ofString "rim"))) (fCons (fC (.str (PySem.Str.ofString "both"))) (fCons (fC (.str (PySem.Str.ofString "spot"))) (fCons (fC (.str (PySem.Str.ofString "area"))) (fCons (fC (.str (PySem.Str.ofString "path"))) (fCons (fC (.str (PySem.Str.ofString "less"))) fNil))))))) gaNil))) (fCons (fCall C_law_odd (gWel 0 gaNil)) fNil))))
    (sSeq (sSet 3 (fLc (fiL (fVarB 2)) [4] (gNm 4) (fC (.bool true)) (fCall C_law_is_due (gDat (fVar 4) gaNil))))
    (sRet (fAnd (fOp oEq (fUn oReprG (fLc (fiL (fVarB 2)) [4] (gNm 4) (fC (.bool true)) (fCall C_is_figure (gDat (fVar 4) gaNil)))) (fUn oReprG (fVarB 3))) (fOp oEq (fUn oReprG (fCallK C_is_figure pmId (gDat (fOp oIx (fVarB 2) (fC (.int 4))) gaNil))) (fUn oReprG (fOp oIx (fVarB 3) (fC (.int 4))))))))))))
theorem ok_law_right {k : Nat} {C_law_frame C_law_line C_law_wide C_law_wrapped C_law_figure C_law_bent C_law_odd C_law_one_of C_law_is_due C_is_figure : Ct} {C : Ct} (T : Txt W K mg) {f : Addr} {fd : FuncData} (F : Fun K "_law_right" "_law_right" s_law_right f fd) (hm : mg "_law_right" = some (.ref f)) (hb : Binds K fd ["_law_spring_here"] []) (c_law_frame : Cal P W K mg base "_law_frame" k 1 C_law_frame) (c_law_line : Cal P W K mg base "_law_line" k 2 C_law_line) (c_law_wide : Cal P W K mg base "_law_wide" k 2 C_law_wide) (c_law_wrapped : Cal P W K mg base "_law_wrapped" k 2 C_law_wrapped) (c_law_figure : Cal P W K mg base "_law_figure" k 4 C_law_figure) (c_law_bent : Cal P W K mg base "_law_bent" k 2 C_law_bent) (c_law_odd : Cal P W K mg base "_law_odd" k 1 C_law_odd) (c_law_one_of : Cal P W K mg base "_law_one_of" k 2 C_law_one_of) (c_law_is_due : Cal P W K mg base "_law_is_due" k 1 C_law_is_due) (c_is_figure : Cal P W K mg base "is_figure" k 1 C_is_figure) (k_is_figure__value : CalK P W K mg base "is_figure" k 1 C_is_figure [PySem.Str.ofString "value"] pmId) (hC : ∀ as S R, as.length = 1 → C as S R → (G_law_right C_law_frame C_law_line C_law_wide C_law_wrapped C_law_figure C_law_bent C_law_odd C_law_one_of C_law_is_due C_is_figure) (ent N_law_right as) S { nx := fun _ S' => R .none S', rt := R }) : Pro P W K mg base (k + 1) f fd ["_law_spring_here"] (spC K 1 C) := by
  have nd := sc_law_right.nd
  exact dfn_ok F sc_law_right rfl (by decide) (fun cdv A outer s H E hr =>
    (s_cons (s_set 1 nd (d_call c_law_frame (hr.mono (by omega)) (c_wel 0 c_nil)))
    (s_cons (s_own 2 nd (n_lst (a_cons (d_callL [0] c_law_figure (hr.mono (by omega)) (l_wel 0 (l_dat (d_var 1) (l_dat d_int (l_last (n_lst (a_cons d_int a_nil))))))) (a_cons (d_call c_law_wrapped (hr.mono (by omega)) (c_wel 0 (c_dat (d_var 1) c_nil))) (a_cons (d_call c_law_wide (hr.mono (by omega)) (c_wel 0 (c_dat (d_var 1) c_nil))) (a_cons (d_call c_law_line (hr.mono (by omega)) (c_wel 0 (c_dat (d_var 1) c_nil))) a_nil))))))
    (s_cons (s_own 2 nd (n_add (b_of (d_add (b_var 2) (b_of (d_of_n (n_lc rfl nd (ib_list (b_var 2)) (blkOk_by (own := [("_law_each", 4)]) (N := N_law_right) (sc := defScope s_law_right) (by decide +kernel)) (by decide) (fun _ _ _ _ _ => (g_name 4 nd)) (fun _ _ _ _ _ => p_nil) (fun _ _ _ _ _ => (d_call c_law_bent (hr.mono (by omega)) (c_wel 0 (c_dat (d_var 4) c_nil))))))))) (b_of (d_lst (a_cons (d_call c_law_bent (hr.mono (by omega)) (c_wel 0 (c_dat (d_ix (b_var 2) (b_of d_int)) c_nil))) (a_cons (d_call c_law_odd (hr.mono (by omega)) (c_wel 0 c_nil)) (a_cons (d_call c_law_odd (hr.mono (by omega)) (c_wel 0 c_nil)) a_nil)))))))
    (s_cons (s_app 2 (d_tup (a_cons (d_call c_law_one_of (hr.mono (by omega)) (c_wel 0 (c_dat (d_tup (a_cons d_str (a_cons d_str (a_cons d_str (a_cons d_str (a_cons d_str (a_cons d_str a_nil))))))) c_nil))) (a_cons (d_call c_law_odd (hr.mono (by omega)) (c_wel 0 c_nil)) a_nil))))
    (s_cons (s_setLcD 3 rfl nd (ib_list (b_var 2)) (blkOk_by (own := [("_law_each", 4)]) (N := N_law_right) (sc := defScope s_law_right) (by decide +kernel)) (by decide) (fun _ _ _ _ _ => (g_name 4 nd)) (fun _ _ _ _ _ => p_nil) (fun _ _ _ _ _ => (d_call c_law_is_due (hr.mono (by omega)) (c_dat (d_var 4) c_nil))) (sw_true rfl rfl rfl (by decide +kernel)))
    (s_one (s_ret (d_and (b_of (d_cmp (op_eqH hr) sEq (b_of (d_callB (call_reprG hr) sReprG (b_of (d_of_n (n_lc rfl nd (ib_list (b_var 2)) (blkOk_by (own := [("_law_each", 4)]) (N := N_law_right) (sc := defScope s_law_right) (by decide +kernel)) (by decide) (fun _ _ _ _ _ => (g_name 4 nd)) (fun _ _ _ _ _ => p_nil) (fun _ _ _ _ _ => (d_call c_is_figure (hr.mono (by omega)) (c_dat (d_var 4) c_nil)))))) T.z_repr PyProof.Rows.boot_repr)) (b_of (d_callB (call_reprG hr) sReprG (b_var 3) T.z_repr PyProof.Rows.boot_repr)))) (d_one (d_cmp (op_eqH hr) sEq (b_of (d_callB (call_reprG hr) sReprG (b_of (d_callK k_is_figure__value (hr.mono (by omega)) (k_dat (d_ix (b_var 2) (b_of d_int)) k_nil))) T.z_repr PyProof.Rows.boot_repr)) (b_of (d_callB (call_reprG hr) sReprG (b_of (d_ix (b_var 3) (b_of d_int))) T.z_repr PyProof.Rows.boot_repr))))))))))))) hC
theorem bd_law_right {k : Nat} {C_law_frame C_law_line C_law_wide C_law_wrapped C_law_figure C_law_bent C_law_odd C_law_one_of C_law_is_due C_is_figure : Ct} {C : Ct} (T : Txt W K mg) {f : Addr} {fd : FuncData} (F : Fun K "_law_right" "_law_right" s_law_right f fd) (hm : mg "_law_right" = some (.ref f)) (hb : Binds K fd ["_law_spring_here"] []) (c_law_frame : Cal P W K mg base "_law_frame" k 1 C_law_frame) (c_law_line : Cal P W K mg base "_law_line" k 2 C_law_line) (c_law_wide : Cal P W K mg base "_law_wide" k 2 C_law_wide) (c_law_wrapped : Cal P W K mg base "_law_wrapped" k 2 C_law_wrapped) (c_law_figure : Cal P W K mg base "_law_figure" k 4 C_law_figure) (c_law_bent : Cal P W K mg base "_law_bent" k 2 C_law_bent) (c_law_odd : Cal P W K mg base "_law_odd" k 1 C_law_odd) (c_law_one_of : Cal P W K mg base "_law_one_of" k 2 C_law_one_of) (c_law_is_due : Cal P W K mg base "_law_is_due" k 1 C_law_is_due) (c_is_figure : Cal P W K mg base "is_figure" k 1 C_is_figure) (k_is_figure__value : CalK P W K mg base "is_figure" k 1 C_is_figure [PySem.Str.ofString "value"] pmId) (hC : ∀ as S R, as.length = 1 → C as S R → (G_law_right C_law_frame C_law_line C_law_wide C_law_wrapped C_law_figure C_law_bent C_law_odd C_law_one_of C_law_is_due C_is_figure) (ent N_law_right as) S { nx := fun _ S' => R .none S', rt := R }) : Cal P W K mg base "_law_right" (k + 1) 1 C := ⟨f, fd, _, ok_law_right T F hm hb c_law_frame c_law_line c_law_wide c_law_wrapped c_law_figure c_law_bent c_law_odd c_law_one_of c_law_is_due c_is_figure k_is_figure__value hC, F.kp, hb, hm⟩
/-! law -/
abbrev s_law : Stmt := top 48
abbrev N_law : List Str := ["_law_script", "_law_turn"]
theorem sc_law : FnScope N_law ["_law_script"] (defScope s_law) := ⟨rfl, rfl, rfl, by decide +kernel, rfl, by decide +kernel, by decide +kernel⟩
def G_law (C_law_right C_law_spring : Ct) : FS :=
    (sRet (fUn oAll (fLc (fiR1 (fOp (oI fun i j => .int (if j > i then j else i)) (fC (.int 2)) (fOp (oI fun i j => .int (if j < i then j else i)) (fUn oLen (fVarB 0)) (fC (.int 4))))) [1] (gNm 1) (fC (.bool true)) (fCallW C_law_right (fCall C_law_spring (gDat (fVar 0) (gDat (fVar 1) gaNil)))))))
theorem ok_law {k : Nat} {C_law_right C_law_spring : Ct} {C : Ct} (T : Txt W K mg) {f : Addr} {fd : FuncData} (F : Fun K "law" "law" s_law f fd) (hm : mg "law" = some (.ref f)) (hb : Binds K fd ["_law_script"] []) (c_law_right : Cal P W K mg base "_law_right" k 1 C_law_right) (c_law_spring : CalN P W K mg base "_law_spring" k 2 C_law_spring) (hC : ∀ as S R, as.length = 1 → C as S R → (G_law C_law_right C_law_spring) (ent N_law as) S { nx := fun _ S' => R .none S', rt := R }) : Pro P W K mg base (k + 1) f fd ["_law_script"] (spC K 1 C) := by
  have nd := sc_law.nd
  exact dfn_ok F sc_law rfl (by decide) (fun cdv A outer s H E hr =>
    (s_one (s_ret (d_callB (cr_all rfl) sAll (b_of (d_of_n (n_lc rfl nd (ic_of (i_range1 (b_of (d_callB2 (call_max2 rfl) sMax2 (b_of d_int) (b_of (d_callB2 (call_min2 rfl) sMin2 (b_of (d_callB call_len sLen (b_var 0) T.z_len PySem.boot_len)) (b_of d_int) T.z_min PyProof.Rows.boot_min)) T.z_max PyProof.Rows.boot_max)) T.z_range)) (blkOk_by (own := [("_law_turn", 1)]) (N := N_law) (sc := defScope s_law) (by decide +kernel)) (by decide) (fun _ _ _ _ _ => (g_name 1 nd)) (fun _ _ _ _ _ => p_nil) (fun _ _ _ _ _ => (d_callW c_law_right (hr.mono (by omega)) (n_call c_law_spring (hr.mono (by omega)) (c_dat (d_var 0) (c_dat (d_var 1) c_nil)))))))) T.z_all PyProof.Rows.boot_all)))) hC
theorem bd_law {k : Nat} {C_law_right C_law_spring : Ct} {C : Ct} (T : Txt W K mg) {f : Addr} {fd : FuncData} (F : Fun K "law" "law" s_law f fd) (hm : mg "law" = some (.ref f)) (hb : Binds K fd ["_law_script"] []) (c_law_right : Cal P W K mg base "_law_right" k 1 C_law_right) (c_law_spring : CalN P W K mg base "_law_spring" k 2 C_law_spring) (hC : ∀ as S R, as.length = 1 → C as S R → (G_law C_law_right C_law_spring) (ent N_law as) S { nx := fun _ S' => R .none S', rt := R }) : Cal P W K mg base "law" (k + 1) 1 C := ⟨f, fd, _, ok_law T F hm hb c_law_right c_law_spring hC, F.kp, hb, hm⟩
end
/-- the defs, as the top leaves them -/
structure Defs (K : Fr_) (mg : Str → Option Value) : Prop where
  d_is_whole : Has K mg "is_whole" s_is_whole ["value"]
  d_are_wholes : Has K mg "are_wholes" s_are_wholes ["value", "many"]
  d_is_ratio : Has K mg "is_ratio" s_is_ratio ["value"]
  d_is_pointed : Has K mg "is_pointed" s_is_pointed ["value"]
  d_closed : Has K mg "closed" s_closed ["points"]
  d_are_pointed : Has K mg "are_pointed" s_are_pointed ["value", "least", "is_closed"]
  d_is_shaped : Has K mg "is_shaped" s_is_shaped ["value", "deep"]
  d_lines_of : Has K mg "lines_of" s_lines_of ["figure"]
  d_segments_by : Has K mg "segments_by" s_segments_by ["figure"]
  d_is_figured : Has K mg "is_figured" s_is_figured ["value"]
  d_is_figure : Has K mg "is_figure" s_is_figure ["value"]
  d_law_spring : Has K mg "_law_spring" s_law_spring ["_law_script", "_law_turn"]
  d_law_draw : Has K mg "_law_draw" s_law_draw ["_law_spring_here", "_law_many"]
  d_law_one_of : Has K mg "_law_one_of" s_law_one_of ["_law_spring_here", "_law_some"]
  d_law_divisor : Has K mg "_law_divisor" s_law_divisor ["_law_one", "_law_two"]
  d_law_part : Has K mg "_law_part" s_law_part ["_law_top", "_law_base"]
  d_law_frame : Has K mg "_law_frame" s_law_frame ["_law_spring_here"]
  d_law_grid : Has K mg "_law_grid" s_law_grid ["_law_frame_here", "_law_i", "_law_j", "_law_n"]
  d_law_dot : Has K mg "_law_dot" s_law_dot ["_law_spring_here", "_law_frame_here"]
  d_law_row : Has K mg "_law_row" s_law_row ["_law_spring_here", "_law_frame_here", "_law_many", "_law_is_closed"]
  d_law_box : Has K mg "_law_box" s_law_box ["_law_spring_here", "_law_frame_here"]
  d_law_pairs : Has K mg "_law_pairs" s_law_pairs ["_law_row_here", "_law_is_closed"]
  d_law_leaf : Has K mg "_law_leaf" s_law_leaf ["_law_spring_here", "_law_frame_here", "_law_room"]
  d_law_figure : Has K mg "_law_figure" s_law_figure ["_law_spring_here", "_law_frame_here", "_law_deep", "_law_room"]
  d_law_odd : Has K mg "_law_odd" s_law_odd ["_law_spring_here"]
  d_law_bent : Has K mg "_law_bent" s_law_bent ["_law_spring_here", "_law_thing"]
  d_law_is_whole : Has K mg "_law_is_whole" s_law_is_whole ["_law_thing"]
  d_law_is_lot : Has K mg "_law_is_lot" s_law_is_lot ["_law_thing", "_law_low", "_law_high"]
  d_law_is_fraction : Has K mg "_law_is_fraction" s_law_is_fraction ["_law_thing"]
  d_law_is_told : Has K mg "_law_is_told" s_law_is_told ["_law_thing"]
  d_law_shape : Has K mg "_law_shape" s_law_shape ["_law_thing"]
  d_law_wrapped : Has K mg "_law_wrapped" s_law_wrapped ["_law_spring_here", "_law_frame_here"]
  d_law_wide : Has K mg "_law_wide" s_law_wide ["_law_spring_here", "_law_frame_here"]
  d_law_line : Has K mg "_law_line" s_law_line ["_law_spring_here", "_law_frame_here"]
  d_law_is_due : Has K mg "_law_is_due" s_law_is_due ["_law_thing"]
  d_law_right : Has K mg "_law_right" s_law_right ["_law_spring_here"]
  d_law : Has K mg "law" s_law ["_law_script"]
end K12

namespace K12
open PySem L2 DL
theorem oRepr_bool (b : Bool) (R : PyData → Prop) : oReprG (.bool b) R = R (.str (PyData.bool b).shown) := rfl
theorem oGt_int (i j : Int) (R : PyData → Prop) : oGt (.int i) (.int j) R = R (.bool (decide (j < i))) := rfl
theorem oLe_int (i j : Int) (R : PyData → Prop) : oLe (.int i) (.int j) R = R (.bool (decide (i ≤ j))) := rfl
theorem oMix_int (g : Int → Int → Int) (o : O2) (i j : Int) (R : PyData → Prop) : oMix g o (.int i) (.int j) R = o (.int i) (.int j) R := rfl
theorem oMix_tup (g : Int → Int → Int) (o : O2) (a b : List PyData) (R : PyData → Prop) : oMix g o (.tuple a) (.tuple b) R = o (.tuple a) (.tuple b) R := rfl
theorem oMix_bi (g : Int → Int → Int) (o : O2) (a : Bool) (j : Int) (R : PyData → Prop) : oMix g o (.bool a) (.int j) R = R (.int (g (bI a) j)) := rfl
theorem oMix_ib (g : Int → Int → Int) (o : O2) (i : Int) (b : Bool) (R : PyData → Prop) : oMix g o (.int i) (.bool b) R = R (.int (g i (bI b))) := rfl
theorem oMix_bb (g : Int → Int → Int) (o : O2) (a b : Bool) (R : PyData → Prop) : oMix g o (.bool a) (.bool b) R = R (.int (g (bI a) (bI b))) := rfl
theorem ixN_30 : ixN 3 (0 : Int) = some 0 := by decide
theorem ixN_31 : ixN 3 (1 : Int) = some 1 := by decide
theorem ixN_32 : ixN 3 (2 : Int) = some 2 := by decide
theorem small_le (n : Nat) (h : n ≤ 1000) : n ≤ sizeLine := by rw [sizeLine_eq]; omega
local macro_rules | `(tactic| walk_at "dx") => `(tactic| try simp only [sSeq, sIf, sRet, sRetN, sRetV, sSet, sNext, sPar, sPar3, sAsg, sDrop, sOwn, sApp, sIns, sPut, sNever, fOr, fAnd, fNot, fIf, fOp, fUn, fVar, fVarB, fC, fCons, fNil, fTup, fLst, fSl, fP, fNoP, fCall, fCallK, gDat, gaNil, gWel, fChain, fWix, sWput, sWdiv, gNm, gTp, gsNil, gsCons, fiL, fiT, fiR1, sFor, ent, asB_bool, asI_int, if_tt, if_ff,
  List.getElem?_cons_zero, List.getElem?_cons_succ, List.set_cons_zero, List.set_cons_succ, List.cons_append, List.nil_append, List.length_cons, List.length_nil, List.replicate, Nat.zero_add, Nat.reduceAdd, Nat.reduceSub,
  isi_tup, isi_strD, oRepr_bool, oGt_int, oLe_int, oMix_int, oMix_tup, oMix_bi, oMix_ib, oMix_bb, isi_intD, isi_boolD, isi_listD, isTup.eq_1, isTup.eq_2, isStr.eq_1, isStr.eq_2, Bool.not_true, Bool.not_false, oIx_tup, oIx_lst, oEq_int, oEq_str, oEq_bool, oEq_nil, oNe_int, oNe_str, oNe_bool, oLen_tup, oLen_lst, oI_int, oIC_int, oAdd_int, oAdd_tup, oAdd_lst, oLt_int, oInt_int, oInt_bool, oIn_tup, oIn_lst, oSl_tup, oSl_lst,
  atI_zero, atI_one, atI_two, cut_from1, Bool.false_eq_true, if_false, if_true])
def WOk (S : SW) : Prop := ∃ a b c, S = [.lst [.int a, .int b, .int c]] ∧ 0 ≤ a ∧ 0 ≤ b ∧ b < 2147483629 ∧ 0 ≤ c
def C_spring : Ct := fun as S R => ∃ (ns : List Int) (t : Nat), as = [.dat (.list (ns.map .int)), .dat (.int t)] ∧ ∀ ds : List PyData, WOk [.lst ds] → R (.list ds) S
theorem c_spring : ∀ as S R, as.length = 2 → C_spring as S R → G_law_spring (ent N_law_spring as) S { nx := fun _ _ => False, rt := fun _ _ => False, rn := fun ds S' => R (.list ds) S' } := by
  rintro as S R _ ⟨ns, t, rfl, h⟩
  unfold G_law_spring
  walk_at "dx"
  have go : ∀ (ds : List Int) (x : Sl) (b : Int) (B : Out), (∀ x b, B.nx [.dat (.list (ns.map .int)), .dat (.int t), .dat (.int b), x, .un] S) →
      forGo (gNm 3) (sSet 2 (fOp (oIC (fun _ j => 0 < j) fun i j => .int (i % j)) (fUn oInt (fOp oAdd (fOp oAdd (fOp (oIC CMulA fun i j => .int (i * j)) (fVarB 2) (fC (.int 58027))) (fOp (oIC (fun _ j => 0 < j) fun i j => .int (i % j)) (fUn oInt (fVarB 3)) (fC (.int 2147483587)))) (fC (.int 19)))) (fC (.int 2147483629)))) (ds.map .int) [.dat (.list (ns.map .int)), .dat (.int t), .dat (.int b), x, .un] S B := by
    intro ds
    induction ds with
    | nil => exact fun x b B k => k x b
    | cons d ds ih =>
      intro x b B k
      simp only [List.map_cons, forGo]
      walk_at "dx"
      exact ⟨.inl (.inr ⟨by omega, by omega⟩), by omega, by omega, ih _ _ _ k⟩
  have ec : cutD (ns.map PyData.int) none (some 9) = (ns.take 9).map .int := by rw [show (9 : Int) = ((9 : Nat) : Int) from rfl, cut_to, List.map_take]
  refine ⟨.inl (.inl ⟨by omega, by omega⟩), ?_⟩
  rw [ec]
  refine go _ _ _ _ fun x b => ?_
  walk_at "dx"
  have fin : ∀ o : Int, (sSeq (sSet 2 (fOp (oIC (fun _ j => 0 < j) fun i j => .int (i % j)) (fUn oInt (fOp oAdd (fOp oAdd (fOp (oIC CMulA fun i j => .int (i * j)) (fVarB 2) (fC (.int 61))) (fOp (oIC CMulA fun i j => .int (i * j)) (fOp (oIC (fun _ j => 0 < j) fun i j => .int (i % j)) (fUn oInt (fVarB 4)) (fC (.int 2147483587))) (fC (.int 30011)))) (fC (.int 7)))) (fC (.int 2147483629))))
    (sRetNew (fLst (fCons (fIf (fOr (fOp oLt (fVarB 4) (fC (.int 0))) (fOp oGe (fVarB 4) (fOp (oIC CPow fun i j => .int (i ^ j.toNat)) (fC (.int 10)) (fC (.int 15))))) (fUn oAbs (fVarB 4)) (fC (.int 0))) (fCons (fVar 2) (fCons (fC (.int 0)) fNil))))))
      [.dat (.list (ns.map .int)), .dat (.int t), .dat (.int b), x, .dat (.int o)] S { nx := fun _ _ => False, rt := fun _ _ => False, rn := fun ds S' => R (.list ds) S' } := by
    intro o
    unfold sRetNew
    walk_at "dx"
    simp only [oAbs, asI_int]
    have out : ∀ a b : Int, 0 ≤ a → R (.list [.int a, .int (b % 2147483629), .int 0]) S := fun a b ha => h [.int a, .int (b % 2147483629), .int 0] ⟨a, _, 0, rfl, ha, by omega, by omega, by omega⟩
    have ab : ∀ z : Int, 0 ≤ (if z < 0 then -z else z) := fun z => by split <;> omega
    refine ⟨.inl (.inr ⟨by omega, by omega⟩), by omega, .inl (.inr ⟨by omega, by omega⟩), by omega, ?_⟩
    split
    · exact out _ _ (ab o)
    · refine ⟨⟨by decide, by decide, by decide⟩, ?_⟩
      split
      · exact out _ _ (ab o)
      · exact out _ _ (by omega)
  by_cases ht : t < ns.length
  · rw [if_pos (decide_eq_true (by rw [List.length_map]; omega))]
    have e : atI (ns.map PyData.int) (t : Int) = some (.int ns[t]) := atI_nat (by rw [List.getElem?_map, List.getElem?_eq_getElem ht]; rfl)
    rw [e]
    exact fin _
  · rw [if_neg (by rw [decide_eq_true_eq, List.length_map]; omega)]
    exact fin _
def C_draw : Ct := fun as S R => ∃ m : Int, as = [.cel 0, .dat (.int m)] ∧ 0 < m ∧ m < 100000000 ∧ WOk S ∧ ∀ r S', 0 ≤ r → r < m → WOk S' → R (.int r) S'
theorem draw_gen (c1 p c2 c3 c4 c5 : Int) (h1 : 0 < p) (h1' : p ≤ 2147483629) (h2 : -(2 ^ 64) < c1 ∧ c1 < 2 ^ 64) (h3 : 0 < c2) (h4 : -(2 ^ 64) < c4 ∧ c4 < 2 ^ 64) (h5 : 0 < c5) (h6 : c5.natAbs.log2 < 9000)
    {m a b c : Int} {R : PyData → SW → Prop} (hm : 0 < m) (hm2 : m < 100000000) (ha : 0 ≤ a) (hb : 0 ≤ b) (hb2 : b < 2147483629) (hc : 0 ≤ c) (h : ∀ r S', 0 ≤ r → r < m → WOk S' → R (.int r) S') :
    (sSeq (sIf (fOp oGt (fWix 0 (fC (.int 0))) (fC (.int 0)))
    (sSeq (sWdiv 0 2 (fC (.int 0)) (fOp oDivmod (fWix 0 (fC (.int 0))) (fVarB 1)))
    (sRetV 2))
    sNext)
    (sSeq (sWput 0 (fC (.int 2)) (fOp oAdd (fWix 0 (fC (.int 2))) (fC (.int 1))))
    (sSeq (sSet 3 (fOp (oIC (fun _ j => 0 < j) fun i j => .int (i % j)) (fUn oInt (fOp oAdd (fWix 0 (fC (.int 1))) (fOp (oIC CMulA fun i j => .int (i * j)) (fC (.int c1)) (fWix 0 (fC (.int 2)))))) (fC (.int p))))
    (sSeq (sWput 0 (fC (.int 1)) (fOp (oIC (fun _ j => 0 < j) fun i j => .int (i % j)) (fUn oInt (fOp oAdd (fOp (oIC CMulA fun i j => .int (i * j)) (fVarB 3) (fOp oAdd (fOp (oIC (fun _ j => 0 < j) fun i j => .int (i % j)) (fUn oInt (fVarB 3)) (fC (.int c2))) (fC (.int c3)))) (fOp (oIC CMulA fun i j => .int (i * j)) (fC (.int c4)) (fWix 0 (fC (.int 2)))))) (fC (.int p))))
    (sRet (fOp (oIC (fun _ j => 0 < j) fun i j => .int (i % j)) (fUn oInt (fOp (oIC CDivW fun i j => .int (i / j)) (fWix 0 (fC (.int 1))) (fC (.int c5)))) (fVarB 1)))))))
    [.cel 0, .dat (.int m), .un, .un] [.lst [.int a, .int b, .int c]] { nx := fun _ S' => R .none S', rt := R } := by
  walk_at "dx"
  simp only [oDivmod]
  walk_at "dx"
  split
  · refine ⟨by decide, ⟨hm, by omega⟩, ?_⟩
    simp only [ixN_30]
    walk_at "dx"
    exact ⟨rfl, h _ _ (Int.emod_nonneg _ (by omega)) (Int.emod_lt_of_pos _ hm) ⟨_, _, _, rfl, Int.ediv_nonneg ha (by omega), hb, hb2, hc⟩⟩
  · simp only [ixN_32]
    walk_at "dx"
    simp only [ixN_31]
    walk_at "dx"
    have cm : ∀ x y : Int, 0 ≤ x → x < 2147483629 → CMulA x y := fun x y q1 q2 => .inl (.inl ⟨by omega, by omega⟩)
    have m1 : ∀ x : Int, 0 ≤ x % p := fun x => Int.emod_nonneg _ (by omega)
    have m2 : ∀ x : Int, x % p < 2147483629 := fun x => Int.lt_of_lt_of_le (Int.emod_lt_of_pos _ h1) h1'
    refine ⟨rfl, .inl (.inl h2), h1, h3, cm _ _ (m1 _) (m2 _), .inl (.inl h4), h1, rfl, ⟨h5, h6⟩, hm, ?_⟩
    exact h _ _ (Int.emod_nonneg _ (by omega)) (Int.emod_lt_of_pos _ hm) ⟨_, _, _, rfl, ha, m1 _, m2 _, by omega⟩
theorem c_draw : ∀ as S R, as.length = 2 → C_draw as S R → G_law_draw (ent N_law_draw as) S { nx := fun _ S' => R .none S', rt := R } := by
  rintro as S R _ ⟨m, rfl, hm, hm2, ⟨a, b, c, rfl, ha, hb, hb2, hc⟩, h⟩
  exact draw_gen 70003 2147483629 6007 50021 29 769 (by decide) (by decide) (by decide) (by decide) (by decide) (by decide) (by decide) hm hm2 ha hb hb2 hc h
def C_one : Ct := fun as S R => ∃ ds, (as = [.cel 0, .dat (.tuple ds)] ∨ as = [.cel 0, .dat (.list ds)]) ∧ 0 < ds.length ∧ ds.length < 1000000 ∧ WOk S ∧ ∀ d S', d ∈ ds → WOk S' → R d S'
theorem c_one : ∀ as S R, as.length = 2 → C_one as S R → G_law_one_of C_draw (ent N_law_one_of as) S { nx := fun _ S' => R .none S', rt := R } := by
  rintro as S R _ ⟨ds, rfl | rfl, h1, h2, hw, h⟩ <;>
  · unfold G_law_one_of
    walk_at "dx"
    refine ⟨_, rfl, by omega, by omega, hw, fun r S' q1 q2 w' => ?_⟩
    walk_at "dx"
    obtain ⟨j, rfl⟩ := Int.eq_ofNat_of_zero_le q1
    have hj : j < ds.length := by omega
    rw [atI_nat (List.getElem?_eq_getElem hj)]
    exact h _ _ (List.getElem_mem hj) w'
theorem one_of {ds : List PyData} {S : SW} {R : PyData → SW → Prop} {x : PyData} {r : List PyData} (e : ds = x :: r) (hl : r.length < 1000) (w : WOk S) (h : ∀ d S', d ∈ ds → WOk S' → R d S') : C_one [.cel 0, .dat (.tuple ds)] S R :=
  ⟨ds, .inl rfl, by rw [e]; exact Nat.succ_pos _, by rw [e, List.length_cons]; omega, w, h⟩
theorem one_ofL {ds : List PyData} {S : SW} {R : PyData → SW → Prop} {x : PyData} {r : List PyData} (e : ds = x :: r) (hl : r.length < 1000) (w : WOk S) (h : ∀ d S', d ∈ ds → WOk S' → R d S') : C_one [.cel 0, .dat (.list ds)] S R :=
  ⟨ds, .inr rfl, by rw [e]; exact Nat.succ_pos _, by rw [e, List.length_cons]; omega, w, h⟩
/-! the greatest common divisor -/
def C_div : Ct := fun as S R => ∃ a b : Int, as = [.dat (.int a), .dat (.int b)] ∧ R (.int (Nat.gcd a.natAbs b.natAbs : Nat)) S
theorem c_div : ∀ as S R, as.length = 2 → C_div as S R → G_law_divisor (ent N_law_divisor as) S { nx := fun _ S' => R .none S', rt := R } := by
  rintro as S R _ ⟨a, b, rfl, h⟩
  unfold G_law_divisor
  walk_at "dx"
  have ab : ∀ z : Int, (if z < 0 then -z else z) = (z.natAbs : Nat) := fun z => by split <;> omega
  simp only [oAbs, asI_int, ab]
  unfold sWhile
  refine ⟨fun ρ S1 => S1 = S ∧ ∃ x y : Nat, ρ = [.dat (.int a), .dat (.int b), .dat (.int x), .dat (.int y)] ∧ Nat.gcd x y = Nat.gcd a.natAbs b.natAbs, fun ρ _ => match ρ with | [_, _, _, .dat (.int y)] => y.toNat | _ => 0, ⟨rfl, _, _, rfl, rfl⟩, ?_⟩
  rintro ρ S1 ⟨rfl, x, y, rfl, hg⟩
  walk_at "dx"
  by_cases hy : y = 0
  · subst hy
    simp only [Int.ofNat_zero, decide_true, Bool.not_true, Bool.false_eq_true, if_false]
    rw [Nat.gcd_zero_right] at hg
    rw [hg]
    exact h
  · have e : decide ((y : Int) = 0) = false := decide_eq_false (by omega)
    simp only [e, Bool.not_false, if_true]
    refine ⟨by omega, ⟨trivial, y, x % y, by rw [Int.natCast_emod], ?_⟩, ?_⟩
    · rw [← hg, Nat.gcd_comm x y, Nat.gcd_rec y x, Nat.gcd_comm]
    · have : x % y < y := Nat.mod_lt _ (by omega)
      have e : ((x : Int) % (y : Int)).toNat = x % y := by rw [← Int.natCast_emod]; rfl
      simp only [e, Int.toNat_natCast]
      exact this
end K12

namespace K12
open PySem L2 DL
local macro_rules | `(tactic| walk_at "dx") => `(tactic| try simp only [sSeq, sIf, sRet, sRetN, sRetV, sSet, sNext, sPar, sPar3, sAsg, sDrop, sOwn, sApp, sIns, sPut, sNever, fOr, fAnd, fNot, fIf, fOp, fUn, fVar, fVarB, fC, fCons, fNil, fTup, fLst, fSl, fP, fNoP, fCall, fCallK, gDat, gaNil, gWel, fChain, fWix, sWput, sWdiv, gNm, gTp, gsNil, gsCons, fiL, fiT, fiR1, sFor, ent, asB_bool, asI_int, if_tt, if_ff,
  List.getElem?_cons_zero, List.getElem?_cons_succ, List.set_cons_zero, List.set_cons_succ, List.cons_append, List.nil_append, List.length_cons, List.length_nil, List.replicate, Nat.zero_add, Nat.reduceAdd, Nat.reduceSub,
  isi_tup, isi_strD, oRepr_bool, oGt_int, oLe_int, oMix_int, oMix_tup, oMix_bi, oMix_ib, oMix_bb, isi_intD, isi_boolD, isi_listD, isTup.eq_1, isTup.eq_2, isStr.eq_1, isStr.eq_2, Bool.not_true, Bool.not_false, oIx_tup, oIx_lst, oEq_int, oEq_str, oEq_bool, oEq_nil, oNe_int, oNe_str, oNe_bool, oLen_tup, oLen_lst, oI_int, oIC_int, oAdd_int, oAdd_tup, oAdd_lst, oLt_int, oInt_int, oInt_bool, oIn_tup, oIn_lst, oSl_tup, oSl_lst,
  atI_zero, atI_one, atI_two, cut_from1, Bool.false_eq_true, if_false, if_true])
theorem all_lc {fi : FI} {i : Nat} {fe : FE} {ρ : Rho} {S : SW} {R : PyData → SW → Prop} (ds : List PyData) (f : PyData → Bool) (hi : ∀ T, T ds S → fi ρ S T) (own : notOwn ρ [i]) (hl : ds.length ≤ 1000)
    (he : ∀ d ∈ ds, ∀ R : PyData → SW → Prop, R (.bool (f d)) S → fe ((rwipe ρ [i]).set i (.dat d)) S R) (h : R (.bool (ds.all f)) S) : fLc fi [i] (gNm i) (fC (.bool true)) fe ρ S fun x S1 => oAll x fun d => R d S1 := by
  unfold fLc
  refine hi _ ⟨own, small_le _ hl, lcGo_map (g := fun d => .bool (f d)) he ?_⟩
  refine ⟨ds.map f, by rw [List.nil_append, map_bool], ?_⟩
  rw [List.all_map]
  exact h
/-! what is whole, a ratio, a point -/
def whole : PyData → Bool
  | .int _ => true
  | _ => false
def wh2 : PyData → Bool
  | .tuple [x, y] => whole x && whole y
  | _ => false
def ratD : PyData → Bool
  | .tuple [.int a, .int b] => decide (0 < b) && decide (Nat.gcd a.natAbs b.natAbs = 1)
  | _ => false
def ptD : PyData → Bool
  | .tuple [x, y] => ratD x && ratD y
  | _ => false
def sgD : PyData → Bool
  | .tuple [x, y] => (ptD x && ptD y) && !PyData.eqv x y
  | _ => false
theorem whole_inv {d : PyData} (h : whole d = true) : ∃ a, d = .int a := by
  unfold whole at h
  split at h
  · exact ⟨_, rfl⟩
  · cases h
theorem wh2_inv {d : PyData} (h : wh2 d = true) : ∃ a b, d = .tuple [.int a, .int b] := by
  unfold wh2 at h
  split at h
  · simp only [Bool.and_eq_true] at h
    obtain ⟨a, rfl⟩ := whole_inv h.1
    obtain ⟨b, rfl⟩ := whole_inv h.2
    exact ⟨a, b, rfl⟩
  · cases h
theorem rat_inv {d : PyData} (h : ratD d = true) : ∃ a b, d = .tuple [.int a, .int b] ∧ 0 < b ∧ Nat.gcd a.natAbs b.natAbs = 1 := by
  unfold ratD at h
  split at h
  · simp only [Bool.and_eq_true, decide_eq_true_eq] at h
    exact ⟨_, _, rfl, h⟩
  · cases h
theorem pt_inv {d : PyData} (h : ptD d = true) : ∃ x y, d = .tuple [x, y] ∧ ratD x = true ∧ ratD y = true := by
  unfold ptD at h
  split at h
  · simp only [Bool.and_eq_true] at h
    exact ⟨_, _, rfl, h⟩
  · cases h
def C_bool (f : PyData → Bool) : Ct := fun as S R => ∃ d, as = [.dat d] ∧ R (.bool (f d)) S
theorem c_whole : ∀ as S R, as.length = 1 → C_bool whole as S R → G_is_whole (ent N_is_whole as) S { nx := fun _ S' => R .none S', rt := R } := by
  rintro as S R _ ⟨d, rfl, h⟩
  unfold G_is_whole
  cases d <;> (walk_at "dx"; exact h)
def C_wholes : Ct := fun as S R => ∃ d, as = [.dat d, .dat (.int 2)] ∧ R (.bool (wh2 d)) S
theorem len2 (n : Nat) : decide (((n + 3 : Nat) : Int) = 2) = false := decide_eq_false (by omega)
theorem c_wholes : ∀ as S R, as.length = 2 → C_wholes as S R → G_are_wholes (C_bool whole) (ent N_are_wholes as) S { nx := fun _ S' => R .none S', rt := R } := by
  rintro as S R _ ⟨d, rfl, h⟩
  unfold G_are_wholes
  cases d with
  | tuple ds =>
    rcases ds with _ | ⟨x, _ | ⟨y, _ | ⟨z, r⟩⟩⟩
    · walk_at "dx"; exact h
    · walk_at "dx"; exact h
    · walk_at "dx"
      rw [if_pos (by decide)]
      refine all_lc [x, y] whole ?_ ?_ (by simp) ?_ (by simpa [wh2] using h)
      · exact fun T h => h
      · exact fun v hv xs => by simp at hv; subst hv; simp
      · intro d hd R q
        simp only [rwipe]
        walk_at "dx"
        exact ⟨d, rfl, q⟩
    · walk_at "dx"
      rw [show r.length + 1 + 1 + 1 = r.length + 3 from rfl, len2]
      exact h
  | _ => walk_at "dx"; exact h
theorem c_ratio_is : ∀ as S R, as.length = 1 → C_bool ratD as S R → G_is_ratio C_wholes (ent N_is_ratio as) S { nx := fun _ S' => R .none S', rt := R } := by
  rintro as S R _ ⟨d, rfl, h⟩
  unfold G_is_ratio
  walk_at "dx"
  refine ⟨d, rfl, ?_⟩
  walk_at "dx"
  by_cases hw : wh2 d = true
  · rw [if_pos hw]
    obtain ⟨a, b, rfl⟩ := wh2_inv hw
    walk_at "dx"
    by_cases hb : 0 < b
    · simp only [hb, decide_true, if_true]
      have e : decide (((Nat.gcd a.natAbs b.natAbs : Nat) : Int) = 1) = decide (Nat.gcd a.natAbs b.natAbs = 1) := decide_eq_decide.mpr (by omega)
      rw [e]
      simpa [ratD, hb] using h
    · simp only [hb, decide_false, Bool.false_eq_true, if_false]
      simpa [ratD, hb] using h
  · rw [if_neg hw]
    have e : ratD d = false := by
      by_cases z : ratD d = true
      · obtain ⟨a, b, rfl, _⟩ := rat_inv z
        exact absurd rfl hw
      · simpa using z
    rw [e] at h
    exact h
theorem c_pointed : ∀ as S R, as.length = 1 → C_bool ptD as S R → G_is_pointed (C_bool ratD) (ent N_is_pointed as) S { nx := fun _ S' => R .none S', rt := R } := by
  rintro as S R _ ⟨d, rfl, h⟩
  unfold G_is_pointed
  cases d with
  | tuple ds =>
    rcases ds with _ | ⟨x, _ | ⟨y, _ | ⟨z, r⟩⟩⟩
    · walk_at "dx"; exact h
    · walk_at "dx"; exact h
    · walk_at "dx"
      rw [if_pos (by decide)]
      refine all_lc [x, y] ratD ?_ ?_ (by simp) ?_ (by simpa [ptD] using h)
      · exact fun T h => h
      · exact fun v hv xs => by simp at hv; subst hv; simp
      · intro d hd R q
        simp only [rwipe]
        walk_at "dx"
        exact ⟨d, rfl, q⟩
    · walk_at "dx"
      rw [show r.length + 1 + 1 + 1 = r.length + 3 from rfl, len2]
      exact h
  | _ => walk_at "dx"; exact h
def isPair : PyData → Bool
  | .tuple [_, _] => true
  | _ => false
def C_lot : Ct := fun as S R => ∃ d, as = [.dat d, .dat (.int 2), .dat (.int 2)] ∧ R (.bool (isPair d)) S
theorem pair_inv {d : PyData} (h : isPair d = true) : ∃ x y, d = .tuple [x, y] := by
  unfold isPair at h
  split at h
  · exact ⟨_, _, rfl⟩
  · cases h
theorem not_pair {d : PyData} (h : ¬ isPair d = true) (f : PyData → PyData → Bool) : ratD d = false ∧ ptD d = false := by
  constructor
  · by_cases z : ratD d = true
    · obtain ⟨_, _, rfl, _⟩ := rat_inv z
      exact absurd rfl h
    · simpa using z
  · by_cases z : ptD d = true
    · obtain ⟨_, _, rfl, _⟩ := pt_inv z
      exact absurd rfl h
    · simpa using z
theorem c_never (f : PyData → Bool) (G : Ct → FS) : True := trivial
def C_chk (f : PyData → Bool) : Ct := fun as S R => ∃ d, as = [.dat d] ∧ f d = true ∧ R .none S
local macro_rules | `(tactic| walk_at "dx") => `(tactic| try simp only [sSeq, sIf, sRet, sRetN, sRetV, sSet, sNext, sPar, sPar3, sAsg, sDrop, sOwn, sApp, sIns, sPut, sNever, fOr, fAnd, fNot, fIf, fOp, fUn, fVar, fVarB, fC, fCons, fNil, fTup, fLst, fSl, fP, fNoP, fCall, fCallK, gDat, gaNil, gWel, fChain, fWix, sWput, sWdiv, gNm, gTp, gsNil, gsCons, fiL, fiT, fiR1, sFor, ent, asB_bool, asI_int, if_tt, if_ff,
  List.getElem?_cons_zero, List.getElem?_cons_succ, List.set_cons_zero, List.set_cons_succ, List.cons_append, List.nil_append, List.length_cons, List.length_nil, List.replicate, Nat.zero_add, Nat.reduceAdd, Nat.reduceSub,
  isi_tup, isi_strD, oRepr_bool, oGt_int, oLe_int, oMix_int, oMix_tup, oMix_bi, oMix_ib, oMix_bb, isi_intD, isi_boolD, isi_listD, isTup.eq_1, isTup.eq_2, isStr.eq_1, isStr.eq_2, Bool.not_true, Bool.not_false, oIx_tup, oIx_lst, oEq_int, oEq_str, oEq_bool, oEq_nil, oNe_int, oNe_str, oNe_bool, oLen_tup, oLen_lst, oI_int, oIC_int, oAdd_int, oAdd_tup, oAdd_lst, oLt_int, oInt_int, oInt_bool, oIn_tup, oIn_lst, oSl_tup, oSl_lst,
  atI_zero, atI_one, atI_two, cut_from1, Bool.false_eq_true, if_false, if_true])
/-! fractions -/
def fr (a b : Int) : Int × Int := (a / (Nat.gcd a.natAbs b.natAbs : Nat), b / (Nat.gcd a.natAbs b.natAbs : Nat))
def mi (p q : Int × Int) : Int × Int := fr (p.1 * q.2 - q.1 * p.2) (p.2 * q.2)
def ti (p q : Int × Int) : Int × Int := fr (p.1 * q.1) (p.2 * q.2)
def qd (p : Int × Int) : PyData := .tuple [.int p.1, .int p.2]
abbrev P2 := (Int × Int) × (Int × Int)
def pd (z : P2) : PyData := .tuple [qd z.1, qd z.2]
/-- a fraction of at most k bits -/
def Bq (k : Nat) (p : Int × Int) : Prop := 0 < p.2 ∧ p.1.natAbs < 2 ^ k ∧ p.2.natAbs < 2 ^ k
def Bp (k : Nat) (z : P2) : Prop := Bq k z.1 ∧ Bq k z.2
theorem pow_le {a b : Nat} (h : a ≤ b) : 2 ^ a ≤ 2 ^ b := Nat.pow_le_pow_right (by decide) h
theorem Bq.up {j k : Nat} {p : Int × Int} (h : Bq j p) (hk : j ≤ k) : Bq k p := ⟨h.1, Nat.lt_of_lt_of_le h.2.1 (pow_le hk), Nat.lt_of_lt_of_le h.2.2 (pow_le hk)⟩
theorem log_lt {x k : Nat} (h : x < 2 ^ k) : x.log2 ≤ k := by
  by_cases z : x = 0
  · subst z; simp
  · have := (Nat.log2_lt z).mpr h
    omega
theorem cmul {x y : Int} {j k : Nat} (hx : x.natAbs < 2 ^ j) (hy : y.natAbs < 2 ^ k) (h : j + k < 1000000) : CMulA x y := by
  have a := log_lt hx
  have b := log_lt hy
  exact .inr (show x.natAbs.log2 + y.natAbs.log2 < 1000000 by omega)
theorem bmul {x y : Int} {j k : Nat} (hx : x.natAbs < 2 ^ j) (hy : y.natAbs < 2 ^ k) : (x * y).natAbs < 2 ^ (j + k) := by
  rw [Int.natAbs_mul, Nat.pow_add]
  exact Nat.mul_lt_mul'' hx hy
theorem bsub {x y : Int} {k : Nat} (hx : x.natAbs < 2 ^ k) (hy : y.natAbs < 2 ^ k) : (x - y).natAbs < 2 ^ (k + 1) := by
  rw [Nat.pow_succ]
  omega
theorem badd {x y : Int} {k : Nat} (hx : x.natAbs < 2 ^ k) (hy : y.natAbs < 2 ^ k) : (x + y).natAbs < 2 ^ (k + 1) := by
  rw [Nat.pow_succ]
  omega
theorem gpos {a b : Int} (hb : 0 < b) : 0 < Nat.gcd a.natAbs b.natAbs := Nat.gcd_pos_of_pos_right _ (by omega)
theorem div_le (a : Int) (g : Nat) : (a / (g : Int)).natAbs ≤ a.natAbs := by
  have := Int.natAbs_ediv_le_natAbs a g
  exact this
theorem gl (a b : Int) : ((Nat.gcd a.natAbs b.natAbs : Nat) : Int) ∣ a := Int.ofNat_dvd_left.mpr (Nat.gcd_dvd_left _ _)
theorem gr (a b : Int) : ((Nat.gcd a.natAbs b.natAbs : Nat) : Int) ∣ b := Int.ofNat_dvd_left.mpr (Nat.gcd_dvd_right _ _)
theorem fr_pos {a b : Int} (hb : 0 < b) : 0 < (fr a b).2 := by
  have g := gpos (a := a) hb
  exact Int.ediv_pos_of_pos_of_dvd hb (by omega) (gr a b)
theorem fr_bq {a b : Int} {k : Nat} (hb : 0 < b) (h1 : a.natAbs < 2 ^ k) (h2 : b.natAbs < 2 ^ k) : Bq k (fr a b) :=
  ⟨fr_pos hb, Nat.lt_of_le_of_lt (div_le _ _) h1, Nat.lt_of_le_of_lt (div_le _ _) h2⟩
theorem mi_bq {p q : Int × Int} {k : Nat} (hp : Bq k p) (hq : Bq k q) : Bq (k + k + 1) (mi p q) :=
  fr_bq (Int.mul_pos hp.1 hq.1) (bsub (bmul hp.2.1 hq.2.2) (bmul hq.2.1 hp.2.2)) (Nat.lt_of_lt_of_le (bmul hp.2.2 hq.2.2) (pow_le (by omega)))
theorem ti_bq {p q : Int × Int} {k : Nat} (hp : Bq k p) (hq : Bq k q) : Bq (k + k) (ti p q) := fr_bq (Int.mul_pos hp.1 hq.1) (bmul hp.2.1 hq.2.1) (bmul hp.2.2 hq.2.2)
/-- p is N / D -/
def Sm (p : Int × Int) (N D : Int) : Prop := 0 < p.2 ∧ 0 < D ∧ p.1 * D = N * p.2
theorem fr_sm {a b : Int} (hb : 0 < b) : Sm (fr a b) a b := by
  have g := gpos (a := a) hb
  refine ⟨fr_pos hb, hb, ?_⟩
  have e1 := Int.ediv_mul_cancel (gl a b)
  have e2 := Int.ediv_mul_cancel (gr a b)
  simp only [fr]
  generalize a / ((Nat.gcd a.natAbs b.natAbs : Nat) : Int) = x at *
  generalize b / ((Nat.gcd a.natAbs b.natAbs : Nat) : Int) = y at *
  generalize ((Nat.gcd a.natAbs b.natAbs : Nat) : Int) = z at *
  grind
theorem cancel {c x y : Int} (hc : 0 < c) (h : c * x = c * y) : x = y := Int.eq_of_mul_eq_mul_left (by omega) h
theorem mi_sm {p q : Int × Int} {N D M E : Int} (hp : Sm p N D) (hq : Sm q M E) : Sm (mi p q) (N * E - M * D) (D * E) := by
  obtain ⟨a1, a2, a3⟩ := hp
  obtain ⟨b1, b2, b3⟩ := hq
  have h := fr_sm (a := p.1 * q.2 - q.1 * p.2) (Int.mul_pos a1 b1)
  refine ⟨h.1, Int.mul_pos a2 b2, cancel (Int.mul_pos a1 b1) ?_⟩
  have h3 := h.2.2
  show p.2 * q.2 * ((fr (p.1 * q.2 - q.1 * p.2) (p.2 * q.2)).1 * (D * E)) = p.2 * q.2 * ((N * E - M * D) * (fr (p.1 * q.2 - q.1 * p.2) (p.2 * q.2)).2)
  generalize (fr (p.1 * q.2 - q.1 * p.2) (p.2 * q.2)).1 = x at *
  generalize (fr (p.1 * q.2 - q.1 * p.2) (p.2 * q.2)).2 = y at *
  grind
theorem ti_sm {p q : Int × Int} {N D M E : Int} (hp : Sm p N D) (hq : Sm q M E) : Sm (ti p q) (N * M) (D * E) := by
  obtain ⟨a1, a2, a3⟩ := hp
  obtain ⟨b1, b2, b3⟩ := hq
  have h := fr_sm (a := p.1 * q.1) (Int.mul_pos a1 b1)
  refine ⟨h.1, Int.mul_pos a2 b2, cancel (Int.mul_pos a1 b1) ?_⟩
  have h3 := h.2.2
  show p.2 * q.2 * ((fr (p.1 * q.1) (p.2 * q.2)).1 * (D * E)) = p.2 * q.2 * ((N * M) * (fr (p.1 * q.1) (p.2 * q.2)).2)
  generalize (fr (p.1 * q.1) (p.2 * q.2)).1 = x at *
  generalize (fr (p.1 * q.1) (p.2 * q.2)).2 = y at *
  grind
theorem sign_mul_pos {x d : Int} (h : 0 < d) : Int.sign (x * d) = Int.sign x := by rw [Int.sign_mul, Int.sign_eq_one_of_pos h, Int.mul_one]
theorem Sm.sign {p : Int × Int} {N D : Int} (h : Sm p N D) : Int.sign p.1 = Int.sign N := by
  rw [← sign_mul_pos h.2.1, h.2.2, sign_mul_pos h.1]
/-- from left to right -/
theorem Sm.less {p q : Int × Int} {N D M E : Int} (hp : Sm p N D) (hq : Sm q M E) : p.1 * q.2 < q.1 * p.2 ↔ N * E < M * D := by
  have s : Int.sign (p.1 * q.2 - q.1 * p.2) = Int.sign (N * E - M * D) := by
    have h := (mi_sm hp hq).sign
    have h2 := (fr_sm (a := p.1 * q.2 - q.1 * p.2) (Int.mul_pos hp.1 hq.1)).sign
    rw [← h, ← h2]
    rfl
  have neg : ∀ x : Int, Int.sign x = -1 ↔ x < 0 := fun x => Int.sign_eq_neg_one_iff_neg
  constructor <;> intro h
  · have := (neg _).mpr (show p.1 * q.2 - q.1 * p.2 < 0 by omega)
    rw [s] at this
    have := (neg _).mp this
    omega
  · have := (neg _).mpr (show N * E - M * D < 0 by omega)
    rw [← s] at this
    have := (neg _).mp this
    omega
def Rq (p : Int × Int) : Prop := 0 < p.2 ∧ Nat.gcd p.1.natAbs p.2.natAbs = 1
theorem Rq.eq {p q : Int × Int} (hp : Rq p) (hq : Rq q) (h : p.1 * q.2 = q.1 * p.2) : p = q := by
  obtain ⟨a, b⟩ := p
  obtain ⟨c, d⟩ := q
  obtain ⟨b0, g1⟩ := hp
  obtain ⟨d0, g2⟩ := hq
  simp only at *
  have hn : a.natAbs * d.natAbs = c.natAbs * b.natAbs := by rw [← Int.natAbs_mul, ← Int.natAbs_mul, h]
  have e1 : b.natAbs ∣ d.natAbs := (Nat.Coprime.dvd_of_dvd_mul_left (Nat.Coprime.symm g1) (by rw [hn]; exact Nat.dvd_mul_left _ _))
  have e2 : d.natAbs ∣ b.natAbs := (Nat.Coprime.dvd_of_dvd_mul_left (Nat.Coprime.symm g2) (by rw [← hn]; exact Nat.dvd_mul_left _ _))
  have e : b.natAbs = d.natAbs := Nat.dvd_antisymm e1 e2
  have e' : b = d := by omega
  subst e'
  have : a = c := Int.eq_of_mul_eq_mul_right (by omega) h
  rw [this]
theorem Sm.eq {p q : Int × Int} {N D M E : Int} (hp : Sm p N D) (hq : Sm q M E) (rp : Rq p) (rq : Rq q) : p = q ↔ N * E = M * D := by
  have z := (hp.less hq)
  have z' := (hq.less hp)
  constructor
  · rintro rfl
    omega
  · intro h
    exact rp.eq rq (by omega)
theorem fr_rq {a b : Int} (hb : 0 < b) : Rq (fr a b) := by
  refine ⟨fr_pos hb, ?_⟩
  have g := gpos (a := a) hb
  simp only [fr]
  rw [Int.natAbs_ediv_of_dvd (gl a b), Int.natAbs_ediv_of_dvd (gr a b), Int.natAbs_natCast]
  rw [Nat.gcd_div (Nat.gcd_dvd_left _ _) (Nat.gcd_dvd_right _ _)]
  exact Nat.div_self g
end K12

namespace K12
open PySem L2 DL
local macro_rules | `(tactic| walk_at "dx") => `(tactic| try simp only [sSeq, sIf, sRet, sRetN, sRetV, sSet, sNext, sPar, sPar3, sAsg, sDrop, sOwn, sApp, sIns, sPut, sNever, fOr, fAnd, fNot, fIf, fOp, fUn, fVar, fVarB, fC, fCons, fNil, fTup, fLst, fSl, fP, fNoP, fCall, fCallK, gDat, gaNil, gWel, fChain, fWix, sWput, sWdiv, gNm, gTp, gsNil, gsCons, fiL, fiT, fiR1, sFor, ent, asB_bool, asI_int, if_tt, if_ff,
  List.getElem?_cons_zero, List.getElem?_cons_succ, List.set_cons_zero, List.set_cons_succ, List.cons_append, List.nil_append, List.length_cons, List.length_nil, List.replicate, Nat.zero_add, Nat.reduceAdd, Nat.reduceSub,
  isi_tup, isi_strD, oRepr_bool, oGt_int, oLe_int, oMix_int, oMix_tup, oMix_bi, oMix_ib, oMix_bb, isi_intD, isi_boolD, isi_listD, isTup.eq_1, isTup.eq_2, isStr.eq_1, isStr.eq_2, Bool.not_true, Bool.not_false, oIx_tup, oIx_lst, oEq_int, oEq_str, oEq_bool, oEq_nil, oNe_int, oNe_str, oNe_bool, oLen_tup, oLen_lst, oI_int, oIC_int, oAdd_int, oAdd_tup, oAdd_lst, oLt_int, oInt_int, oInt_bool, oIn_tup, oIn_lst, oSl_tup, oSl_lst,
  atI_zero, atI_one, atI_two, cut_from1, Bool.false_eq_true, if_false, if_true])
/-! the program's reckoning -/
def C_ratio : Ct := fun as S R => ∃ a b : Int, as = [.dat (.int a), .dat (.int b)] ∧ 0 < b ∧ b.natAbs < 2 ^ 8000 ∧ R (qd (fr a b)) S
theorem gcd_le {a b : Int} {k : Nat} (hb : 0 < b) (h : b.natAbs < 2 ^ k) : Nat.gcd a.natAbs b.natAbs < 2 ^ k := Nat.lt_of_le_of_lt (Nat.gcd_le_right _ (by omega)) h
theorem cdiv {a : Int} {g : Nat} (hg : 0 < g) (h : g < 2 ^ 8000) : CDivW a (g : Int) := ⟨by omega, by rw [Int.natAbs_natCast]; have := log_lt h; omega⟩
def C_part : Ct := C_ratio
theorem c_part : ∀ as S R, as.length = 2 → C_part as S R → G_law_part C_div (ent N_law_part as) S { nx := fun _ S' => R .none S', rt := R } := by
  rintro as S R _ ⟨a, b, rfl, hb, hz, h⟩
  unfold G_law_part
  walk_at "dx"
  simp only [hb, decide_true, if_true]
  refine ⟨a, b, rfl, ?_⟩
  walk_at "dx"
  have g := gpos (a := a) hb
  have z := gcd_le (a := a) hb hz
  exact ⟨cdiv (a := a) g z, cdiv (a := b) g z, h⟩
def C_qq (k : Nat) (f : Int × Int → Int × Int → PyData) : Ct := fun as S R => ∃ p q, as = [.dat (qd p), .dat (qd q)] ∧ Bq k p ∧ Bq k q ∧ R (f p q) S
def less (p q : Int × Int) : Bool := decide (p.1 * q.2 < q.1 * p.2)
def C_sign_of : Ct := fun as S R => ∃ p, as = [.dat (qd p)] ∧ R (.int (Int.sign p.1)) S
theorem sign_bI (a : Int) : bI (decide (0 < a)) - bI (decide (a < 0)) = Int.sign a := by
  rcases Int.lt_trichotomy a 0 with h | h | h
  · rw [Int.sign_eq_neg_one_of_neg h, decide_eq_false (by omega), decide_eq_true h]; rfl
  · subst h; rfl
  · rw [Int.sign_eq_one_of_pos h, decide_eq_true h, decide_eq_false (by omega)]; rfl
def C_step : Ct := fun as S R => ∃ s e : P2, as = [.dat (pd s), .dat (pd e)] ∧ Bp 2000 s ∧ Bp 2000 e ∧ R (.tuple [qd (mi e.1 s.1), qd (mi e.2 s.2)]) S
def C_cross : Ct := fun as S R => ∃ a b : P2, as = [.dat (pd a), .dat (pd b)] ∧ Bp 1000 a ∧ Bp 1000 b ∧ R (qd (mi (ti a.1 b.2) (ti a.2 b.1))) S
def crs (a b c : P2) : Int × Int := mi (ti (mi b.1 a.1) (mi c.2 a.2)) (ti (mi b.2 a.2) (mi c.1 a.1))
def C_turn : Ct := fun as S R => ∃ a b c : P2, as = [.dat (pd a), .dat (pd b), .dat (pd c)] ∧ Bp 499 a ∧ Bp 499 b ∧ Bp 499 c ∧ R (.int (Int.sign (crs a b c).1)) S
theorem Bp.up {j k : Nat} {z : P2} (h : Bp j z) (hk : j ≤ k) : Bp k z := ⟨h.1.up hk, h.2.up hk⟩
theorem eqv_qd (p q : Int × Int) : PyData.eqv (qd p) (qd q) = decide (p = q) := by
  obtain ⟨a, b⟩ := p
  obtain ⟨c, d⟩ := q
  simp only [qd, PyData.eqv, PyData.eqvAll, Bool.and_true]
  rw [Bool.eq_iff_iff]
  simp
theorem eqv_pd (p q : P2) : PyData.eqv (pd p) (pd q) = decide (p = q) := by
  obtain ⟨a, b⟩ := p
  obtain ⟨c, d⟩ := q
  simp only [pd, PyData.eqv, PyData.eqvAll, Bool.and_true, eqv_qd]
  rw [Bool.eq_iff_iff]
  simp
def first (a b : P2) : Bool := less a.1 b.1 || (decide (a.1 = b.1) && less a.2 b.2)
def C_first : Ct := fun as S R => ∃ a b : P2, as = [.dat (pd a), .dat (pd b)] ∧ Bp 2000 a ∧ Bp 2000 b ∧ R (.bool (first a b)) S
theorem oEq_qd (p q : Int × Int) (R : PyData → Prop) (h : R (.bool (decide (p = q)))) : oEq (qd p) (qd q) R := by
  refine ⟨rfl, rfl, ?_⟩
  rw [show PyData.eqv (.tuple [.int p.1, .int p.2]) (.tuple [.int q.1, .int q.2]) = _ from eqv_qd p q]
  exact h
local macro_rules | `(tactic| walk_at "dx") => `(tactic| try simp only [sSeq, sIf, sRet, sRetN, sRetV, sSet, sNext, sPar, sPar3, sAsg, sDrop, sOwn, sApp, sIns, sPut, sNever, fOr, fAnd, fNot, fIf, fOp, fUn, fVar, fVarB, fC, fCons, fNil, fTup, fLst, fSl, fP, fNoP, fCall, fCallK, gDat, gaNil, gWel, fChain, fWix, sWput, sWdiv, gNm, gTp, gsNil, gsCons, fiL, fiT, fiR1, sFor, ent, asB_bool, asI_int, if_tt, if_ff,
  List.getElem?_cons_zero, List.getElem?_cons_succ, List.set_cons_zero, List.set_cons_succ, List.cons_append, List.nil_append, List.length_cons, List.length_nil, List.replicate, Nat.zero_add, Nat.reduceAdd, Nat.reduceSub,
  isi_tup, isi_strD, oRepr_bool, oGt_int, oLe_int, oMix_int, oMix_tup, oMix_bi, oMix_ib, oMix_bb, isi_intD, isi_boolD, isi_listD, isTup.eq_1, isTup.eq_2, isStr.eq_1, isStr.eq_2, Bool.not_true, Bool.not_false, oIx_tup, oIx_lst, oEq_int, oEq_str, oEq_bool, oEq_nil, oNe_int, oNe_str, oNe_bool, oLen_tup, oLen_lst, oI_int, oIC_int, oAdd_int, oAdd_tup, oAdd_lst, oLt_int, oInt_int, oInt_bool, oIn_tup, oIn_lst, oSl_tup, oSl_lst,
  atI_zero, atI_one, atI_two, cut_from1, true_and, Bool.false_eq_true, if_false, if_true])
def sg2 (a b : P2) : PyData := .tuple [pd a, pd b]
def C_asc : Ct := fun as S R => ∃ a b : P2, as = [.dat (sg2 a b)] ∧ Bp 499 a ∧ Bp 499 b ∧ R (if first a b = true then sg2 a b else sg2 b a) S
def onB (a b c : P2) : Bool :=
  let l := if first a b = true then a else b
  let g := if first a b = true then b else a
  !(first c l || first g c) && decide (Int.sign (crs l g c).1 = 0)
def C_onby : Ct := fun as S R => ∃ a b c : P2, as = [.dat (sg2 a b), .dat (pd c)] ∧ Bp 499 a ∧ Bp 499 b ∧ Bp 499 c ∧ R (.bool (onB a b c)) S
def Rp (z : P2) : Prop := Rq z.1 ∧ Rq z.2
theorem pt_pd {z : P2} (h : Rp z) : ptD (pd z) = true := by
  obtain ⟨⟨a, b⟩, ⟨c, d⟩⟩ := z
  obtain ⟨⟨h1, h2⟩, ⟨h3, h4⟩⟩ := h
  simp only at h1 h2 h3 h4
  simp [pd, qd, ptD, ratD, h1, h2, h3, h4]
def C_turn_of : Ct := fun as S R => ∃ a b c : P2, as = [.dat (pd a), .dat (pd b), .dat (pd c)] ∧ (Rp a ∧ Rp b ∧ Rp c) ∧ Bp 499 a ∧ Bp 499 b ∧ Bp 499 c ∧ R (.int (Int.sign (crs a b c).1)) S
def C_is_on : Ct := fun as S R => ∃ a b c : P2, as = [.dat (sg2 a b), .dat (pd c)] ∧ (Rp a ∧ Rp b ∧ Rp c ∧ a ≠ b) ∧ Bp 499 a ∧ Bp 499 b ∧ Bp 499 c ∧ R (.bool (onB a b c)) S
/-! the law's reckoning -/
structure H3 where
  x : Int
  y : Int
  w : Int
def hd (p : H3) : PyData := .tuple [.int p.x, .int p.y, .int p.w]
def Bh (k : Nat) (p : H3) : Prop := 0 < p.w ∧ p.x.natAbs < 2 ^ k ∧ p.y.natAbs < 2 ^ k ∧ p.w.natAbs < 2 ^ k
def place (x y w : Int) : H3 := ⟨x / (Nat.gcd (Nat.gcd x.natAbs y.natAbs) w.natAbs : Nat), y / (Nat.gcd (Nat.gcd x.natAbs y.natAbs) w.natAbs : Nat), w / (Nat.gcd (Nat.gcd x.natAbs y.natAbs) w.natAbs : Nat)⟩
def C_place : Ct := fun as S R => ∃ x y w : Int, as = [.dat (.int x), .dat (.int y), .dat (.int w)] ∧ 0 < w ∧ w.natAbs < 2 ^ 8000 ∧ R (hd (place x y w)) S
theorem place_bh {x y w : Int} {k : Nat} (hw : 0 < w) (h1 : x.natAbs < 2 ^ k) (h2 : y.natAbs < 2 ^ k) (h3 : w.natAbs < 2 ^ k) : Bh k (place x y w) := by
  have g : 0 < Nat.gcd (Nat.gcd x.natAbs y.natAbs) w.natAbs := Nat.gcd_pos_of_pos_right _ (by omega)
  exact ⟨Int.ediv_pos_of_pos_of_dvd hw (by omega) (Int.ofNat_dvd_left.mpr (Nat.gcd_dvd_right _ _)), Nat.lt_of_le_of_lt (div_le _ _) h1, Nat.lt_of_le_of_lt (div_le _ _) h2, Nat.lt_of_le_of_lt (div_le _ _) h3⟩
/-- the place shows x / w, y / w -/
theorem place_sm {x y w : Int} (hw : 0 < w) : 0 < (place x y w).w ∧ (place x y w).x * w = x * (place x y w).w ∧ (place x y w).y * w = y * (place x y w).w := by
  have g : 0 < Nat.gcd (Nat.gcd x.natAbs y.natAbs) w.natAbs := Nat.gcd_pos_of_pos_right _ (by omega)
  have d1 : ((Nat.gcd (Nat.gcd x.natAbs y.natAbs) w.natAbs : Nat) : Int) ∣ x := Int.ofNat_dvd_left.mpr (Nat.dvd_trans (Nat.gcd_dvd_left _ _) (Nat.gcd_dvd_left _ _))
  have d2 : ((Nat.gcd (Nat.gcd x.natAbs y.natAbs) w.natAbs : Nat) : Int) ∣ y := Int.ofNat_dvd_left.mpr (Nat.dvd_trans (Nat.gcd_dvd_left _ _) (Nat.gcd_dvd_right _ _))
  have d3 : ((Nat.gcd (Nat.gcd x.natAbs y.natAbs) w.natAbs : Nat) : Int) ∣ w := Int.ofNat_dvd_left.mpr (Nat.gcd_dvd_right _ _)
  have e1 := Int.ediv_mul_cancel d1
  have e2 := Int.ediv_mul_cancel d2
  have e3 := Int.ediv_mul_cancel d3
  have p : 0 < w / ((Nat.gcd (Nat.gcd x.natAbs y.natAbs) w.natAbs : Nat) : Int) := Int.ediv_pos_of_pos_of_dvd hw (by omega) d3
  simp only [place]
  generalize x / ((Nat.gcd (Nat.gcd x.natAbs y.natAbs) w.natAbs : Nat) : Int) = a at *
  generalize y / ((Nat.gcd (Nat.gcd x.natAbs y.natAbs) w.natAbs : Nat) : Int) = b at *
  generalize w / ((Nat.gcd (Nat.gcd x.natAbs y.natAbs) w.natAbs : Nat) : Int) = c at *
  generalize ((Nat.gcd (Nat.gcd x.natAbs y.natAbs) w.natAbs : Nat) : Int) = z at *
  exact ⟨p, by grind, by grind⟩
def told (p : H3) : P2 := (fr p.x p.w, fr p.y p.w)
def C_told : Ct := fun as S R => ∃ p : H3, as = [.dat (hd p)] ∧ Bh 2000 p ∧ R (pd (told p)) S
def own (z : P2) : H3 := place (z.1.1 * z.2.2) (z.2.1 * z.1.2) (z.1.2 * z.2.2)
def C_own : Ct := fun as S R => ∃ z : P2, as = [.dat (pd z)] ∧ Bp 2000 z ∧ R (hd (own z)) S
def side (p q r : H3) : Int := p.x * (q.y * r.w - r.y * q.w) - p.y * (q.x * r.w - r.x * q.w) + p.w * (q.x * r.y - r.x * q.y)
def C_side : Ct := fun as S R => ∃ p q r : H3, as = [.dat (hd p), .dat (hd q), .dat (hd r)] ∧ Bh 1000 p ∧ Bh 1000 q ∧ Bh 1000 r ∧ R (.int (side p q r)) S
def hless (p q : H3) : Bool := if p.x * q.w = q.x * p.w then decide (p.y * q.w < q.y * p.w) else decide (p.x * q.w < q.x * p.w)
def C_hless : Ct := fun as S R => ∃ p q : H3, as = [.dat (hd p), .dat (hd q)] ∧ Bh 1000 p ∧ Bh 1000 q ∧ R (.bool (hless p q)) S
def lies (p q r : H3) : Bool :=
  decide (side p q r = 0) && (!hless r (if hless p q = true then p else q) && !hless (if hless p q = true then q else p) r)
def C_lies : Ct := fun as S R => ∃ p q r : H3, as = [.dat (hd p), .dat (hd q), .dat (hd r)] ∧ Bh 1000 p ∧ Bh 1000 q ∧ Bh 1000 r ∧ R (.bool (lies p q r)) S
def C_sign : Ct := fun as S R => ∃ x : Int, as = [.dat (.int x)] ∧ R (.int (Int.sign x)) S
end K12

namespace K12
open PySem L2 DL
local macro_rules | `(tactic| walk_at "dx") => `(tactic| try simp only [sSeq, sIf, sRet, sRetN, sRetV, sSet, sNext, sPar, sPar3, sAsg, sDrop, sOwn, sApp, sIns, sPut, sNever, fOr, fAnd, fNot, fIf, fOp, fUn, fVar, fVarB, fC, fCons, fNil, fTup, fLst, fSl, fP, fNoP, fCall, fCallK, gDat, gaNil, gWel, fChain, fWix, sWput, sWdiv, gNm, gTp, gsNil, gsCons, fiL, fiT, fiR1, sFor, ent, asB_bool, asI_int, if_tt, if_ff,
  List.getElem?_cons_zero, List.getElem?_cons_succ, List.set_cons_zero, List.set_cons_succ, List.cons_append, List.nil_append, List.length_cons, List.length_nil, List.replicate, Nat.zero_add, Nat.reduceAdd, Nat.reduceSub,
  isi_tup, isi_strD, oRepr_bool, oGt_int, oLe_int, oMix_int, oMix_tup, oMix_bi, oMix_ib, oMix_bb, isi_intD, isi_boolD, isi_listD, isTup.eq_1, isTup.eq_2, isStr.eq_1, isStr.eq_2, Bool.not_true, Bool.not_false, oIx_tup, oIx_lst, oEq_int, oEq_str, oEq_bool, oEq_nil, oNe_int, oNe_str, oNe_bool, oLen_tup, oLen_lst, oI_int, oIC_int, oAdd_int, oAdd_tup, oAdd_lst, oLt_int, oInt_int, oInt_bool, oIn_tup, oIn_lst, oSl_tup, oSl_lst,
  atI_zero, atI_one, atI_two, cut_from1, true_and, Bool.false_eq_true, if_false, if_true])
def C_num : Ct := fun as S R => as = [.cel 0] ∧ WOk S ∧ ∀ p S', Rq p → Bq 21 p → WOk S' → R (qd p) S'
theorem own_bh {z : P2} {k : Nat} (h : Bp k z) : Bh (k + k) (own z) := place_bh (Int.mul_pos h.1.1 h.2.1) (bmul h.1.2.1 h.2.2.2) (bmul h.2.2.1 h.1.2.2) (bmul h.1.2.2 h.2.2.2)
theorem Bh.up {j k : Nat} {p : H3} (h : Bh j p) (hk : j ≤ k) : Bh k p := ⟨h.1, Nat.lt_of_lt_of_le h.2.1 (pow_le hk), Nat.lt_of_lt_of_le h.2.2.1 (pow_le hk), Nat.lt_of_lt_of_le h.2.2.2 (pow_le hk)⟩
def C_third : Ct := fun as S R => ∃ p q : H3, as = [.cel 0, .dat (hd p), .dat (hd q)] ∧ Bh 42 p ∧ Bh 42 q ∧ WOk S ∧ ∀ r S', Bh 150 r → WOk S' → R (hd r) S'
/-- an expression that delivers something, whatever -/
def Any (f : FE) (ρ : Rho) (S : SW) : Prop := ∀ R : PyData → SW → Prop, (∀ d, R d S) → f ρ S R
def AnyL (n : Nat) (g : FL) (ρ : Rho) (S : SW) : Prop := ∀ R : List PyData → SW → Prop, (∀ ds, ds.length = n → R ds S) → g ρ S R
section
variable {ρ : Rho} {S : SW} {f : FE} {g : FL} {n : Nat}
theorem anyC (d : PyData) : Any (fC d) ρ S := fun _ h => h d
theorem anyV {i : Nat} {d : PyData} (e : ρ[i]? = some (.dat d)) : Any (fVar i) ρ S := fun _ h => by
  unfold fVar
  rw [e]
  exact h d
theorem anyT (a : AnyL n g ρ S) : Any (fTup g) ρ S := fun _ h => a _ fun ds _ => h _
theorem anyLs (a : AnyL n g ρ S) : Any (fLst g) ρ S := fun _ h => a _ fun ds _ => h _
theorem anyN : AnyL 0 fNil ρ S := fun _ h => h [] rfl
theorem anyS (a : Any f ρ S) (b : AnyL n g ρ S) : AnyL (n + 1) (fCons f g) ρ S := fun _ h => a _ fun d => b _ fun ds e => h (d :: ds) (by rw [List.length_cons, e])
theorem anyM (i : Int) : Any (fUn oNeg (fC (.int i))) ρ S := fun _ h => h _
theorem anyP {i j : Int} {k : Int → Int → PyData} (c : CPow i j) : Any (fOp (oIC CPow k) (fC (.int i)) (fC (.int j))) ρ S := fun _ h => ⟨c, h _⟩
end
def C_odd : Ct := fun as S R => as = [.cel 0] ∧ WOk S ∧ ∀ d S', WOk S' → R d S'
/-! ### the plain law -/
/-- the point z is the law's place p -/
def Is (z : P2) (p : H3) : Prop := Sm z.1 p.x p.w ∧ Sm z.2 p.y p.w
theorem own_is {z : P2} {k : Nat} (h : Bp k z) : Is z (own z) := by
  obtain ⟨⟨a, b⟩, ⟨c, d⟩⟩ := z
  obtain ⟨⟨b0, _, _⟩, ⟨d0, _, _⟩⟩ := h
  simp only at b0 d0
  have w0 := Int.mul_pos b0 d0
  obtain ⟨e0, e1, e2⟩ := place_sm (x := a * d) (y := c * b) w0
  simp only [own]
  generalize place (a * d) (c * b) (b * d) = p at *
  refine ⟨⟨b0, e0, cancel w0 ?_⟩, ⟨d0, e0, cancel w0 ?_⟩⟩ <;> simp only <;> grind
theorem told_is {p : H3} (h : 0 < p.w) : Is (told p) p := ⟨fr_sm h, fr_sm h⟩
theorem told_rp {p : H3} (h : 0 < p.w) : Rp (told p) := ⟨fr_rq h, fr_rq h⟩
theorem told_bp {p : H3} {k : Nat} (h : Bh k p) : Bp k (told p) := ⟨fr_bq h.1 h.2.1 h.2.2.2, fr_bq h.1 h.2.2.1 h.2.2.2⟩
theorem crs_side {a b c : P2} {p q r : H3} (ha : Is a p) (hb : Is b q) (hc : Is c r) : Int.sign (crs a b c).1 = Int.sign (side p q r) := by
  have w1 := ha.1.2.1
  have w2 := hb.1.2.1
  have w3 := hc.1.2.1
  have m := mi_sm (ti_sm (mi_sm hb.1 ha.1) (mi_sm hc.2 ha.2)) (ti_sm (mi_sm hb.2 ha.2) (mi_sm hc.1 ha.1))
  have e := m.sign
  rw [show (crs a b c).1 = (mi (ti (mi b.1 a.1) (mi c.2 a.2)) (ti (mi b.2 a.2) (mi c.1 a.1))).1 from rfl, e]
  have f : (q.x * p.w - p.x * q.w) * (r.y * p.w - p.y * r.w) * (q.w * p.w * (r.w * p.w)) - (q.y * p.w - p.y * q.w) * (r.x * p.w - p.x * r.w) * (q.w * p.w * (r.w * p.w)) = side p q r * (p.w * (q.w * p.w * (r.w * p.w))) := by
    simp only [side]
    grind
  rw [f]
  exact sign_mul_pos (Int.mul_pos w1 (Int.mul_pos (Int.mul_pos w2 w1) (Int.mul_pos w3 w1)))
theorem side_turn (p q r : H3) : side q r p = side p q r := by simp only [side]; grind
theorem side_swap (p q r : H3) : side q p r = 0 - side p q r := by simp only [side]; grind
theorem side_pp (p r : H3) : side p p r = 0 := by simp only [side]; grind
theorem sign_swap (x : Int) : Int.sign (0 - x) = 0 - Int.sign x := by rw [Int.zero_sub, Int.sign_neg, Int.zero_sub]
theorem first_less {a b : P2} {p q : H3} (ha : Is a p) (hb : Is b q) (ra : Rp a) (rb : Rp b) : first a b = hless p q := by
  have l1 := ha.1.less hb.1
  have l2 := ha.2.less hb.2
  have e1 := ha.1.eq hb.1 ra.1 rb.1
  simp only [first, hless, less]
  by_cases e : p.x * q.w = q.x * p.w
  · have e' := e1.mpr e
    rw [if_pos e, decide_eq_true e', Bool.true_and, decide_eq_false (show ¬ (a.1.1 * b.1.2 < b.1.1 * a.1.2) from fun z => by have := l1.mp z; omega), Bool.false_or]
    exact decide_eq_decide.mpr l2
  · rw [if_neg e, decide_eq_false (fun z => e (e1.mp z)), Bool.false_and, Bool.or_false]
    exact decide_eq_decide.mpr l1
/-- two unlike places: one is ahead -/
theorem less_other {a b : P2} {p q : H3} (ha : Is a p) (hb : Is b q) (ra : Rp a) (rb : Rp b) (ne : a ≠ b) : hless q p = !hless p q := by
  have e1 := ha.1.eq hb.1 ra.1 rb.1
  have e2 := ha.2.eq hb.2 ra.2 rb.2
  have no : ¬ (p.x * q.w = q.x * p.w ∧ p.y * q.w = q.y * p.w) := fun z => ne (Prod.ext (e1.mpr z.1) (e2.mpr z.2))
  simp only [hless]
  by_cases e : p.x * q.w = q.x * p.w
  · rw [if_pos e, if_pos e.symm]
    have : ¬ (p.y * q.w = q.y * p.w) := fun z => no ⟨e, z⟩
    rw [← decide_not]
    exact decide_eq_decide.mpr (by omega)
  · rw [if_neg e, if_neg (fun z => e z.symm), ← decide_not]
    exact decide_eq_decide.mpr (by omega)
theorem sign_zero (x : Int) : decide (Int.sign x = 0) = decide (x = 0) := decide_eq_decide.mpr Int.sign_eq_zero_iff_zero
theorem onB_lies {a b c : P2} {p q r : H3} (ha : Is a p) (hb : Is b q) (hc : Is c r) (ra : Rp a) (rb : Rp b) (rc : Rp c) : onB a b c = lies p q r := by
  simp only [onB, lies]
  rw [first_less ha hb ra rb]
  cases e : hless p q
  · simp only [Bool.false_eq_true, if_false]
    rw [first_less hc hb rc rb, first_less ha hc ra rc, crs_side hb ha hc, sign_zero, side_swap p q r, show decide (0 - side p q r = 0) = decide (side p q r = 0) from decide_eq_decide.mpr (by omega)]
    cases hless r q <;> cases hless p r <;> simp
  · simp only [if_true]
    rw [first_less hc ha rc ra, first_less hb hc rb rc, crs_side ha hb hc, sign_zero]
    cases hless r p <;> cases hless q r <;> simp
theorem lies_back {a b : P2} {p q r : H3} (ha : Is a p) (hb : Is b q) (ra : Rp a) (rb : Rp b) (ne : a ≠ b) : lies q p r = lies p q r := by
  simp only [lies]
  rw [less_other ha hb ra rb ne, side_swap p q r, show decide (0 - side p q r = 0) = decide (side p q r = 0) from decide_eq_decide.mpr (by omega)]
  cases hless p q <;> simp
theorem less_self (p : H3) : hless p p = false := by
  simp only [hless, if_true]
  exact decide_eq_false (by omega)
theorem lies_end {a b : P2} {p q : H3} (ha : Is a p) (hb : Is b q) (ra : Rp a) (rb : Rp b) (ne : a ≠ b) : lies p q q = true := by
  simp only [lies]
  have s : side p q q = 0 := by simp only [side]; grind
  rw [s]
  cases e : hless p q
  · simp only [Bool.false_eq_true, if_false]
    rw [less_self, e]
    rfl
  · simp only [if_true]
    rw [less_self, less_other ha hb ra rb ne, e]
    rfl
local macro_rules | `(tactic| walk_at "dx") => `(tactic| try simp -implicitDefEqProofs only [sSeq, sIf, sRet, sRetN, sRetV, sSet, sNext, sPar, sPar3, sAsg, sDrop, sOwn, sApp, sIns, sPut, sNever, fOr, fAnd, fNot, fIf, fOp, fUn, fVar, fVarB, fC, fCons, fNil, fTup, fLst, fSl, fP, fNoP, fCall, fCallK, gDat, gaNil, gWel, fChain, fWix, sWput, sWdiv, gNm, gTp, gsNil, gsCons, fiL, fiT, fiR1, sFor, ent, asB_bool, asI_int, if_tt, if_ff,
  List.getElem?_cons_zero, List.getElem?_cons_succ, List.set_cons_zero, List.set_cons_succ, List.cons_append, List.nil_append, List.length_cons, List.length_nil, List.replicate, Nat.zero_add, Nat.reduceAdd, Nat.reduceSub,
  isi_tup, oBack_tup, fCall.eq_1, isi_strD, oRepr_bool, oGt_int, oLe_int, oMix_int, oMix_tup, oMix_bi, oMix_ib, oMix_bb, isi_intD, isi_boolD, isi_listD, isTup.eq_1, isTup.eq_2, isStr.eq_1, isStr.eq_2, Bool.not_true, Bool.not_false, oIx_tup, oIx_lst, oEq_int, oEq_str, oEq_bool, oEq_nil, oNe_int, oNe_str, oNe_bool, oLen_tup, oLen_lst, oI_int, oIC_int, oAdd_int, oAdd_tup, oAdd_lst, oLt_int, oInt_int, oInt_bool, oIn_tup, oIn_lst, oSl_tup, oSl_lst,
  atI_zero, atI_one, atI_two, cut_from1, true_and, Bool.false_eq_true, if_false, if_true])
theorem show_signs (s : Int) (h : s = -1 ∨ s = 0 ∨ s = 1) : showOk (.list [.int s, .int s, .int s, .int s, .int (0 - s), .int (0 - s), .int (0 - s)]) := by
  rcases h with rfl | rfl | rfl <;> exact ⟨by decide +kernel, by decide +kernel, by decide +kernel, by decide +kernel⟩
theorem show_nils : showOk (.list [.int 0, .int 0, .int 0]) := ⟨by decide +kernel, by decide +kernel, by decide +kernel, by decide +kernel⟩
theorem show_truth4 (a b c d : Bool) : showOk (.list [.bool a, .bool b, .bool c, .bool d]) := by
  cases a <;> cases b <;> cases c <;> cases d <;> exact ⟨by decide +kernel, by decide +kernel, by decide +kernel, by decide +kernel⟩
theorem show_truth7 : ∀ a b c d e f g : Bool, showOk (.list [.bool a, .bool b, .bool c, .bool d, .bool e, .bool f, .bool g]) := by
  unfold showOk
  decide +kernel
theorem ne_same {d : PyData} {o : O2} {l : List PyData} {R : PyData → Prop} (ok : showOk (.list l)) (h : R (.bool false)) : oReprG (.list l) fun x => oReprG (.list l) fun y => oNe x y R := by
  refine ⟨ok, ok, ?_⟩
  show oNe (.str _) (.str _) R
  rw [oNe_str, decide_eq_true rfl]
  exact h
theorem eq_same {l : List PyData} {R : PyData → Prop} (ok : showOk (.list l)) (h : R (.bool true)) : oReprG (.list l) fun x => oReprG (.list l) fun y => oEq x y R := by
  refine ⟨ok, ok, ?_⟩
  show oEq (.str _) (.str _) R
  rw [oEq_str, decide_eq_true rfl]
  exact h
theorem ix0 {i : Nat} {x : PyData} {r : List PyData} {ρ : Rho} {S : SW} {Q : PyData → SW → Prop} (hρ : ρ[i]? = some (.dat (.tuple (x :: r)))) (h : Q x S) : fOp oIx (fVarB i) (fC (.int 0)) ρ S Q := by
  unfold fOp fVarB fC
  rw [hρ]
  show oIx (.tuple (x :: r)) (.int 0) _
  rw [oIx_tup, atI_zero]
  exact h
theorem app_of {i : Nat} {xs : List PyData} {f : FE} {ρ : Rho} {S : SW} {B : Out} (hρ : ρ[i]? = some (.own xs)) (hl : xs.length ≤ 400) (h : f ρ S fun d S1 => B.nx (ρ.set i (.own (xs ++ [d]))) S1) : sApp i f ρ S B := by
  unfold sApp
  rw [hρ]
  exact ⟨by rw [sizeLine_eq]; omega, h⟩
theorem tup2 {a b : FE} {ρ : Rho} {S : SW} {Q : PyData → SW → Prop} (h : a ρ S fun x S1 => b ρ S1 fun y S2 => Q (.tuple [x, y]) S2) : fTup (fCons a (fCons b fNil)) ρ S Q := h
theorem chk {a b : FE} {ρ : Rho} {S : SW} {B : Out} {X : FS} {v : Bool} (ha : ∀ Q : PyData → SW → Prop, Q (.bool v) S → a ρ S Q) (hb : ∀ Q : PyData → SW → Prop, Q (.bool v) S → b ρ S Q) (h : B.nx ρ S) : sIf (fOp oNe (fUn oReprG a) (fUn oReprG b)) X sNext ρ S B := by
  unfold sIf fOp fUn
  refine ha _ ?_
  rw [oRepr_bool]
  refine hb _ ?_
  rw [oRepr_bool]
  show oNe (.str _) (.str _) _
  rw [oNe_str, decide_eq_true rfl]
  exact h
theorem own_ix {i : Nat} {xs : List PyData} {k : Int} {d : PyData} {ρ : Rho} {S : SW} {Q : PyData → SW → Prop} (hρ : ρ[i]? = some (.own xs)) (e : atI xs k = some d) (h : Q d S) : fOp oIx (fVarB i) (fC (.int k)) ρ S Q := by
  unfold fOp fVarB fC
  rw [hρ]
  show oIx (.list xs) (.int k) _
  rw [oIx_lst, e]
  exact h
theorem fin_eq {a b : FE} {ρ : Rho} {S : SW} {B : Out} {l : List PyData} (ok : showOk (.list l)) (ha : ∀ Q : PyData → SW → Prop, Q (.list l) S → a ρ S Q) (hb : ∀ Q : PyData → SW → Prop, Q (.list l) S → b ρ S Q) (h : B.rt (.bool true) S) : sRet (fOp oEq (fUn oReprG a) (fUn oReprG b)) ρ S B := by
  unfold sRet fOp fUn
  refine ha _ ⟨ok, ?_⟩
  refine hb _ ⟨ok, ?_⟩
  show oEq (.str _) (.str _) _
  rw [oEq_str, decide_eq_true rfl]
  exact h
theorem lc_own {i : Nat} {j : Nat} {f : PyData → Bool} {xs : List PyData} {ρ : Rho} {S : SW} {Q : PyData → SW → Prop} (hρ : ρ[i]? = some (.own xs)) (hl : xs.length ≤ 1000) (own : notOwn ρ [j]) (hj : ∀ d, ((rwipe ρ [j]).set j (.dat d))[j]? = some (.dat d)) (h : Q (.list (xs.map fun d => .bool (f d))) S) :
    fLc (fiL (fVarB i)) [j] (gNm j) (fC (.bool true)) (fCall (C_bool f) (gDat (fVar j) gaNil)) ρ S Q := by
  unfold fLc fiL fVarB
  rw [hρ]
  refine ⟨own, small_le _ hl, lcGo_map (g := fun d => .bool (f d)) (fun d _ R q => ?_) (by rw [List.nil_append]; exact h)⟩
  unfold fCall gDat fVar gaNil
  rw [hj]
  exact ⟨d, rfl, q⟩
theorem par_of {a b : FE} {i j : Nat} {rest : FS} {ρ : Rho} {S : SW} {B : Out} (h : a ρ S fun x S1 => b ρ S1 fun y S2 => rest ((ρ.set i (.dat x)).set j (.dat y)) S2 B) : sSeq (sPar i j (fCons a (fCons b fNil))) rest ρ S B := h
theorem set_of {f : FE} {i : Nat} {rest : FS} {ρ : Rho} {S : SW} {B : Out} (h : f ρ S fun d S1 => rest (ρ.set i (.dat d)) S1 B) : sSeq (sSet i f) rest ρ S B := h
theorem call1 {C : Ct} {i : Nat} {a : PyData} {ρ : Rho} {S : SW} {R : PyData → SW → Prop} (h1 : ρ[i]? = some (.dat a)) (h : C [.dat a] S R) : fCall C (gDat (fVar i) gaNil) ρ S R := by
  unfold fCall gDat fVar gaNil
  rw [h1]
  exact h
theorem call3 {C : Ct} {i j k : Nat} {a b c : PyData} {ρ : Rho} {S : SW} {R : PyData → SW → Prop} (h1 : ρ[i]? = some (.dat a)) (h2 : ρ[j]? = some (.dat b)) (h3 : ρ[k]? = some (.dat c)) (h : C [.dat a, .dat b, .dat c] S R) : fCall C (gDat (fVar i) (gDat (fVar j) (gDat (fVar k) gaNil))) ρ S R := by
  unfold fCall gDat fVar gaNil
  rw [h1, h2, h3]
  exact h
/-- turn_of of three -/
theorem turn_at {i j k : Nat} {a b c : P2} {p q r : H3} {v : Int} {ρ : Rho} {S : SW} {R : PyData → SW → Prop} (h1 : ρ[i]? = some (.dat (pd a))) (h2 : ρ[j]? = some (.dat (pd b))) (h3 : ρ[k]? = some (.dat (pd c)))
    (ha : Is a p ∧ Rp a ∧ Bp 499 a) (hb : Is b q ∧ Rp b ∧ Bp 499 b) (hc : Is c r ∧ Rp c ∧ Bp 499 c) (e : Int.sign (side p q r) = v) (h : R (.int v) S) : fCall C_turn_of (gDat (fVar i) (gDat (fVar j) (gDat (fVar k) gaNil))) ρ S R := by
  refine call3 h1 h2 h3 ⟨a, b, c, rfl, ⟨ha.2.1, hb.2.1, hc.2.1⟩, ha.2.2, hb.2.2, hc.2.2, ?_⟩
  rw [crs_side ha.1 hb.1 hc.1, e]
  exact h
theorem turn_at120 {i j k : Nat} {a b c : P2} {p q r : H3} {v : Int} {ρ : Rho} {S : SW} {R : PyData → SW → Prop} (h1 : ρ[i]? = some (.dat (pd c))) (h2 : ρ[j]? = some (.dat (pd a))) (h3 : ρ[k]? = some (.dat (pd b)))
    (ha : Is a p ∧ Rp a ∧ Bp 499 a) (hb : Is b q ∧ Rp b ∧ Bp 499 b) (hc : Is c r ∧ Rp c ∧ Bp 499 c) (e : Int.sign (side p q r) = v) (h : R (.int v) S) : fCallK C_turn_of pm120 (gDat (fVar i) (gDat (fVar j) (gDat (fVar k) gaNil))) ρ S R := by
  unfold fCallK gDat fVar gaNil
  rw [h1, h2, h3]
  show C_turn_of [.dat (pd a), .dat (pd b), .dat (pd c)] S R
  refine ⟨a, b, c, rfl, ⟨ha.2.1, hb.2.1, hc.2.1⟩, ha.2.2, hb.2.2, hc.2.2, ?_⟩
  rw [crs_side ha.1 hb.1 hc.1, e]
  exact h
theorem turn_atId {i j k : Nat} {a b c : P2} {p q r : H3} {v : Int} {ρ : Rho} {S : SW} {R : PyData → SW → Prop} (h1 : ρ[i]? = some (.dat (pd a))) (h2 : ρ[j]? = some (.dat (pd b))) (h3 : ρ[k]? = some (.dat (pd c)))
    (ha : Is a p ∧ Rp a ∧ Bp 499 a) (hb : Is b q ∧ Rp b ∧ Bp 499 b) (hc : Is c r ∧ Rp c ∧ Bp 499 c) (e : Int.sign (side p q r) = v) (h : R (.int v) S) : fCallK C_turn_of pmId (gDat (fVar i) (gDat (fVar j) (gDat (fVar k) gaNil))) ρ S R := by
  unfold fCallK gDat fVar gaNil
  rw [h1, h2, h3]
  show C_turn_of [.dat (pd a), .dat (pd b), .dat (pd c)] S R
  refine ⟨a, b, c, rfl, ⟨ha.2.1, hb.2.1, hc.2.1⟩, ha.2.2, hb.2.2, hc.2.2, ?_⟩
  rw [crs_side ha.1 hb.1 hc.1, e]
  exact h
theorem on_at {i j : Nat} {a b c : P2} {p q r : H3} {v : Bool} {ρ : Rho} {S : SW} {R : PyData → SW → Prop} (h1 : ρ[i]? = some (.dat (sg2 a b))) (h2 : ρ[j]? = some (.dat (pd c)))
    (ha : Is a p ∧ Rp a ∧ Bp 499 a) (hb : Is b q ∧ Rp b ∧ Bp 499 b) (hc : Is c r ∧ Rp c ∧ Bp 499 c) (ne : a ≠ b) (e : lies p q r = v) (h : R (.bool v) S) : fCall C_is_on (gDat (fVar i) (gDat (fVar j) gaNil)) ρ S R := by
  unfold fCall gDat fVar gaNil
  rw [h1, h2]
  refine ⟨a, b, c, rfl, ⟨ha.2.1, hb.2.1, hc.2.1, ne⟩, ha.2.2, hb.2.2, hc.2.2, ?_⟩
  rw [onB_lies ha.1 hb.1 hc.1 ha.2.1 hb.2.1 hc.2.1, e]
  exact h
theorem on_at10 {i j : Nat} {a b c : P2} {p q r : H3} {v : Bool} {ρ : Rho} {S : SW} {R : PyData → SW → Prop} (h1 : ρ[i]? = some (.dat (pd c))) (h2 : ρ[j]? = some (.dat (sg2 a b)))
    (ha : Is a p ∧ Rp a ∧ Bp 499 a) (hb : Is b q ∧ Rp b ∧ Bp 499 b) (hc : Is c r ∧ Rp c ∧ Bp 499 c) (ne : a ≠ b) (e : lies p q r = v) (h : R (.bool v) S) : fCallK C_is_on pm10 (gDat (fVar i) (gDat (fVar j) gaNil)) ρ S R := by
  unfold fCallK gDat fVar gaNil
  rw [h1, h2]
  show C_is_on [.dat (sg2 a b), .dat (pd c)] S R
  refine ⟨a, b, c, rfl, ⟨ha.2.1, hb.2.1, hc.2.1, ne⟩, ha.2.2, hb.2.2, hc.2.2, ?_⟩
  rw [onB_lies ha.1 hb.1 hc.1 ha.2.1 hb.2.1 hc.2.1, e]
  exact h
/-- the segment turned round -/
theorem on_back {i j : Nat} {a b c : P2} {p q r : H3} {v : Bool} {ρ : Rho} {S : SW} {R : PyData → SW → Prop} (h1 : ρ[i]? = some (.dat (sg2 a b))) (h2 : ρ[j]? = some (.dat (pd c)))
    (ha : Is a p ∧ Rp a ∧ Bp 499 a) (hb : Is b q ∧ Rp b ∧ Bp 499 b) (hc : Is c r ∧ Rp c ∧ Bp 499 c) (ne : a ≠ b) (e : lies p q r = v) (h : R (.bool v) S) : fCall C_is_on (gDat (fUn oBack (fVarB i)) (gDat (fVar j) gaNil)) ρ S R := by
  unfold fCall gDat fUn fVarB fVar gaNil
  rw [h1, h2]
  show C_is_on [.dat (sg2 b a), .dat (pd c)] S R
  refine ⟨b, a, c, rfl, ⟨hb.2.1, ha.2.1, hc.2.1, fun z => ne z.symm⟩, hb.2.2, ha.2.2, hc.2.2, ?_⟩
  rw [onB_lies hb.1 ha.1 hc.1 hb.2.1 ha.2.1 hc.2.1, lies_back ha.1 hb.1 ha.2.1 hb.2.1 ne, e]
  exact h
end K12

namespace K12
open PySem L2 DL
local macro_rules | `(tactic| walk_at "dw") => `(tactic| try simp -implicitDefEqProofs only [sSeq, sIf, sRet, sRetN, sRetV, sSet, sNext, sPar, sPar3, sAsg, sDrop, sOwn, sApp, sIns, sPut, sNever, sFrz, sParO, fOr, fAnd, fNot, fIf, fOp, fUn, fVar, fVarB, fC, fCons, fNil, fTup, fLst, fSl, fP, fNoP, fCall, fCallK, gDat, gaNil, gWel, fChain, fWix, sWput, sWdiv, gNm, gTp, gsNil, gsCons, fiL, fiT, fiE, fiR1, fiR2, sFor, rowD, ent, asB_bool, asI_int, if_tt, if_ff,
  List.getElem?_cons_zero, List.getElem?_cons_succ, List.set_cons_zero, List.set_cons_succ, List.cons_append, List.nil_append, List.length_cons, List.length_nil, List.replicate, Nat.zero_add, Nat.reduceAdd, Nat.reduceSub,
  isi_tup, oReprG_bool, oGtD_int, oLeD_int, oGeD_int, oMixD_int, oMixD_tup, oMixD_bi, oMixD_ib, oMixD_bb, oStrD_int, oListD_tup, oListD_lst, oTupleD_lst, oTupleD_tup, oBackD_tup, oBackD_lst, oNegD_int, isi_strD, isi_intD, isi_boolD, isi_listD, isTup.eq_1, isTup.eq_2, isStr.eq_1, isStr.eq_2, isNum.eq_1, isNum.eq_2, Bool.not_true, Bool.not_false, oIx_tup, oIx_lst, oEq_int, oEq_str, oEq_bool, oEq_nil, oNe_int, oNe_str, oNe_bool, oLen_tup, oLen_lst, oI_int, oIC_int, oAdd_int, oAdd_tup, oAdd_lst, oLt_int, oInt_int, oInt_bool, oIn_tup, oIn_lst, oSl_tup, oSl_lst,
  atI_zero, atI_one, atI_two, atI_three, atI_four, cut_from1, true_and, Bool.false_eq_true, if_false, if_true])
/-! ### the law's grid -/
structure Fm where
  x : Int
  y : Int
  s : Int
  u : Int
  w : Int
def fmd (f : Fm) : PyData := .tuple [.int f.x, .int f.y, .int f.s, .int f.u, .int f.w]
def FmOk (f : Fm) : Prop := (-1000000 ≤ f.x ∧ f.x ≤ 1000000) ∧ (-1000000 ≤ f.y ∧ f.y ≤ 1000000) ∧ (0 < f.s ∧ f.s ≤ 100003) ∧ (0 < f.u ∧ f.u ≤ 6) ∧ (3 ≤ f.w ∧ f.w ≤ 5)
def C_frame : Ct := fun as S R => as = [.cel 0] ∧ WOk S ∧ ∀ f S', FmOk f → WOk S' → R (fmd f) S'
theorem c_frame : ∀ as S R, as.length = 1 → C_frame as S R → G_law_frame C_one (ent N_law_frame as) S { nx := fun _ S' => R .none S', rt := R } := by
  rintro as S R _ ⟨rfl, w, h⟩
  unfold G_law_frame
  walk_at "dw"
  refine one_of rfl (by decide) w fun d S1 hd w1 => ?_
  have : ∃ u : Int, d = .int u ∧ 3 ≤ u ∧ u ≤ 5 := by
    simp only [List.mem_cons, List.not_mem_nil, or_false] at hd
    rcases hd with e | e | e <;> exact ⟨_, e, by decide, by decide⟩
  obtain ⟨wd, rfl, w2, w3⟩ := this
  refine one_of rfl (by decide) w1 fun d S2 hd w2' => ?_
  have fin : ∀ a b c e : Int, (-1000000 ≤ a ∧ a ≤ 1000000) ∧ (-1000000 ≤ b ∧ b ≤ 1000000) ∧ (0 < c ∧ c ≤ 100003) ∧ (0 < e ∧ e ≤ 6) → R (.tuple [.int a, .int b, .int c, .int e, .int wd]) S2 := fun a b c e q => h ⟨a, b, c, e, wd⟩ S2 ⟨q.1, q.2.1, q.2.2.1, q.2.2.2, w2, w3⟩ w2'
  simp only [List.mem_cons, List.not_mem_nil, or_false] at hd
  rcases hd with e | e | e | e | e | e | e | e <;> subst e <;> walk_at "dw" <;> exact fin _ _ _ _ (by decide)
def gpt (f : Fm) (i j n : Int) : P2 := (fr (f.x * n + f.s * i) (f.u * n), fr (f.y * n + f.s * j) (f.u * n))
def C_grid : Ct := fun as S R => ∃ (f : Fm) (i j n : Int), as = [.dat (fmd f), .dat (.int i), .dat (.int j), .dat (.int n)] ∧ FmOk f ∧ (-1000 < i ∧ i < 1000) ∧ (-1000 < j ∧ j < 1000) ∧ (0 < n ∧ n < 8) ∧ R (pd (gpt f i j n)) S
theorem gpt_b {a n s i : Int} (ha : -1000000 ≤ a ∧ a ≤ 1000000) (hn : 0 < n ∧ n < 8) (hs : 0 < s ∧ s ≤ 100003) (hi : -1000 < i ∧ i < 1000) : (a * n + s * i).natAbs < 2 ^ 28 := by
  have q1 : (a * n).natAbs < 2 ^ 23 := bmul (j := 20) (k := 3) (by omega) (by omega)
  have q2 : (s * i).natAbs < 2 ^ 27 := bmul (j := 17) (k := 10) (by omega) (by omega)
  omega
theorem gpt_w {u n : Int} (hn : 0 < n ∧ n < 8) (hu : 0 < u ∧ u ≤ 6) : 0 < u * n ∧ (u * n).natAbs < 2 ^ 6 := ⟨Int.mul_pos hu.1 hn.1, bmul (j := 3) (k := 3) (by omega) (by omega)⟩
theorem c_grid : ∀ as S R, as.length = 4 → C_grid as S R → G_law_grid C_part (ent N_law_grid as) S { nx := fun _ S' => R .none S', rt := R } := by
  rintro as S R _ ⟨⟨x, y, s, u, wd⟩, i, j, n, rfl, ⟨hx, hy, hs, hu, hw⟩, hi, hj, hn, h⟩
  unfold G_law_grid
  simp only [fmd, gpt] at *
  walk_at "dw"
  have b1 := gpt_w hn hu
  have b2 : (u * n).natAbs < 2 ^ 8000 := Nat.lt_of_lt_of_le b1.2 (pow_le (by omega))
  refine ⟨cmul (j := 20) (k := 3) (by omega) (by omega) (by omega), cmul (j := 17) (k := 10) (by omega) (by omega) (by omega), cmul (j := 3) (k := 3) (by omega) (by omega) (by omega), _, _, rfl, b1.1, b2, ?_⟩
  walk_at "dw"
  exact ⟨cmul (j := 20) (k := 3) (by omega) (by omega) (by omega), cmul (j := 17) (k := 10) (by omega) (by omega) (by omega), cmul (j := 3) (k := 3) (by omega) (by omega) (by omega), _, _, rfl, b1.1, b2, h⟩
theorem gpt_ok {f : Fm} {i j n : Int} (hf : FmOk f) (hi : -1000 < i ∧ i < 1000) (hj : -1000 < j ∧ j < 1000) (hn : 0 < n ∧ n < 8) : Rp (gpt f i j n) ∧ Bp 28 (gpt f i j n) := by
  obtain ⟨hx, hy, hs, hu, hw⟩ := hf
  have b := gpt_w hn hu
  have b2 : (f.u * n).natAbs < 2 ^ 28 := Nat.lt_of_lt_of_le b.2 (pow_le (by omega))
  exact ⟨⟨fr_rq b.1, fr_rq b.1⟩, fr_bq b.1 (gpt_b hx hn hs hi) b2, fr_bq b.1 (gpt_b hy hn hs hj) b2⟩
def C_dot : Ct := fun as S R => ∃ f, as = [.cel 0, .dat (fmd f)] ∧ FmOk f ∧ WOk S ∧ ∀ z S', Rp z → Bp 28 z → WOk S' → R (pd z) S'
theorem c_dot : ∀ as S R, as.length = 2 → C_dot as S R → G_law_dot C_one C_draw C_grid (ent N_law_dot as) S { nx := fun _ S' => R .none S', rt := R } := by
  rintro as S R _ ⟨f, rfl, hf, w, h⟩
  have hw := hf.2.2.2.2
  unfold G_law_dot
  walk_at "dw"
  refine one_of rfl (by decide) w fun d S1 hd w1 => ?_
  have : ∃ u : Int, d = .int u ∧ 1 ≤ u ∧ u ≤ 3 := by
    simp only [List.mem_cons, List.not_mem_nil, or_false] at hd
    rcases hd with e | e | e | e | e <;> exact ⟨_, e, by decide, by decide⟩
  obtain ⟨n, rfl, n1, n2⟩ := this
  simp only [fmd]
  walk_at "dw"
  have b : 0 < n * f.w + 1 ∧ n * f.w + 1 ≤ 16 := by
    have : n = 1 ∨ n = 2 ∨ n = 3 := by omega
    rcases this with rfl | rfl | rfl <;> omega
  have c : CMulA n f.w := cmul (j := 2) (k := 3) (by omega) (by omega) (by omega)
  refine ⟨c, _, rfl, b.1, by omega, w1, fun i S2 i1 i2 w2 => ?_⟩
  walk_at "dw"
  refine ⟨c, _, rfl, b.1, by omega, w2, fun j S3 j1 j2 w3 => ?_⟩
  walk_at "dw"
  have q := gpt_ok (i := i) (j := j) hf (by omega) (by omega) (show 0 < n ∧ n < 8 by omega)
  exact ⟨f, i, j, n, rfl, hf, by omega, by omega, by omega, h _ S3 q.1 q.2 w3⟩
/-! ### places in lowest terms -/
def Red (p : H3) : Prop := 0 < p.w ∧ Nat.gcd (Nat.gcd p.x.natAbs p.y.natAbs) p.w.natAbs = 1
theorem place_red {x y w : Int} (hw : 0 < w) : Red (place x y w) := by
  have g : 0 < Nat.gcd (Nat.gcd x.natAbs y.natAbs) w.natAbs := Nat.gcd_pos_of_pos_right _ (by omega)
  have d1 : ((Nat.gcd (Nat.gcd x.natAbs y.natAbs) w.natAbs : Nat) : Int) ∣ x := Int.ofNat_dvd_left.mpr (Nat.dvd_trans (Nat.gcd_dvd_left _ _) (Nat.gcd_dvd_left _ _))
  have d2 : ((Nat.gcd (Nat.gcd x.natAbs y.natAbs) w.natAbs : Nat) : Int) ∣ y := Int.ofNat_dvd_left.mpr (Nat.dvd_trans (Nat.gcd_dvd_left _ _) (Nat.gcd_dvd_right _ _))
  have d3 : ((Nat.gcd (Nat.gcd x.natAbs y.natAbs) w.natAbs : Nat) : Int) ∣ w := Int.ofNat_dvd_left.mpr (Nat.gcd_dvd_right _ _)
  refine ⟨(place_sm hw).1, ?_⟩
  simp only [place]
  rw [Int.natAbs_ediv_of_dvd d1, Int.natAbs_ediv_of_dvd d2, Int.natAbs_ediv_of_dvd d3, Int.natAbs_natCast]
  rw [Nat.gcd_div (Int.ofNat_dvd_left.mp d1) (Int.ofNat_dvd_left.mp d2), Nat.gcd_div (Nat.gcd_dvd_left _ _) (Nat.gcd_dvd_right _ _)]
  exact Nat.div_self g
theorem red_dvd {p q : H3} (hp : Red p) (h1 : p.x * q.w = q.x * p.w) (h2 : p.y * q.w = q.y * p.w) : p.w.natAbs ∣ q.w.natAbs := by
  have n1 : p.x.natAbs * q.w.natAbs = q.x.natAbs * p.w.natAbs := by rw [← Int.natAbs_mul, ← Int.natAbs_mul, h1]
  have n2 : p.y.natAbs * q.w.natAbs = q.y.natAbs * p.w.natAbs := by rw [← Int.natAbs_mul, ← Int.natAbs_mul, h2]
  have a1 : p.w.natAbs ∣ p.x.natAbs * q.w.natAbs := by rw [n1]; exact Nat.dvd_mul_left _ _
  have a2 : p.w.natAbs ∣ p.y.natAbs * q.w.natAbs := by rw [n2]; exact Nat.dvd_mul_left _ _
  have a3 : p.w.natAbs ∣ p.w.natAbs * q.w.natAbs := Nat.dvd_mul_right _ _
  have b1 := Nat.dvd_gcd (Nat.dvd_gcd a1 a2) a3
  rw [Nat.gcd_mul_right, Nat.gcd_mul_right, hp.2, Nat.one_mul] at b1
  exact b1
theorem red_eq {p q : H3} (hp : Red p) (hq : Red q) (h1 : p.x * q.w = q.x * p.w) (h2 : p.y * q.w = q.y * p.w) : p = q := by
  have e : p.w.natAbs = q.w.natAbs := Nat.dvd_antisymm (red_dvd hp h1 h2) (red_dvd hq h1.symm h2.symm)
  obtain ⟨x, y, w⟩ := p
  obtain ⟨x', y', w'⟩ := q
  have p0 := hp.1
  have q0 := hq.1
  simp only at *
  have ew : w = w' := by omega
  subst ew
  have e1 : x = x' := Int.eq_of_mul_eq_mul_right (by omega) h1
  have e2 : y = y' := Int.eq_of_mul_eq_mul_right (by omega) h2
  rw [e1, e2]
theorem own_red {z : P2} {k : Nat} (h : Bp k z) : Red (own z) := place_red (Int.mul_pos h.1.1 h.2.1)
theorem is_uniq {z : P2} {p q : H3} (h1 : Is z p) (h2 : Is z q) (hp : Red p) (hq : Red q) : p = q := by
  obtain ⟨⟨a0, _, a1⟩, ⟨b0, _, b1⟩⟩ := h1
  obtain ⟨⟨_, _, a2⟩, ⟨_, _, b2⟩⟩ := h2
  refine red_eq hp hq (cancel a0 ?_) (cancel b0 ?_)
  · generalize z.1.1 = a at *
    generalize z.1.2 = b at *
    grind
  · generalize z.2.1 = a at *
    generalize z.2.2 = b at *
    grind
theorem own_told {p : H3} (h : Red p) {k : Nat} (hb : Bp k (told p)) : own (told p) = p := is_uniq (own_is hb) (told_is h.1) (own_red hb) h
theorem eqv_hd (p q : H3) : PyData.eqv (hd p) (hd q) = true ↔ p = q := by
  obtain ⟨a, b, c⟩ := p
  obtain ⟨d, e, f⟩ := q
  simp only [hd, PyData.eqv, PyData.eqvAll, Bool.and_true]
  simp
local macro_rules | `(tactic| walk_at "dw") => `(tactic| try simp -implicitDefEqProofs only [sSeq, sIf, sRet, sRetN, sRetV, sSet, sNext, sPar, sPar3, sAsg, sDrop, sOwn, sApp, sIns, sPut, sNever, sFrz, sParO, fOr, fAnd, fNot, fIf, fOp, fUn, fVar, fVarB, fC, fCons, fNil, fTup, fLst, fSl, fP, fNoP, fCall, fCallK, gDat, gaNil, gWel, fChain, fWix, sWput, sWdiv, gNm, gTp, gsNil, gsCons, fiL, fiT, fiE, fiR1, fiR2, sFor, rowD, ent, asB_bool, asI_int, if_tt, if_ff,
  List.getElem?_cons_zero, List.getElem?_cons_succ, List.set_cons_zero, List.set_cons_succ, List.cons_append, List.nil_append, List.length_cons, List.length_nil, List.replicate, Nat.zero_add, Nat.reduceAdd, Nat.reduceSub,
  isi_tup, oReprG_bool, oGtD_int, oLeD_int, oGeD_int, oMixD_int, oMixD_tup, oMixD_bi, oMixD_ib, oMixD_bb, oStrD_int, oListD_tup, oListD_lst, oTupleD_lst, oTupleD_tup, oBackD_tup, oBackD_lst, oNegD_int, isi_strD, isi_intD, isi_boolD, isi_listD, isTup.eq_1, isTup.eq_2, isStr.eq_1, isStr.eq_2, isNum.eq_1, isNum.eq_2, Bool.not_true, Bool.not_false, oIx_tup, oIx_lst, oEq_int, oEq_str, oEq_bool, oEq_nil, oNe_int, oNe_str, oNe_bool, oLen_tup, oLen_lst, oI_int, oIC_int, oAdd_int, oAdd_tup, oAdd_lst, oLt_int, oInt_int, oInt_bool, oIn_tup, oIn_lst, oSl_tup, oSl_lst,
  atI_zero, atI_one, atI_two, atI_three, atI_four, cut_from1, true_and, Bool.false_eq_true, if_false, if_true])
theorem lcGo_draw {i : Nat} {fe : FE} {ρ : Rho} {T : List PyData → SW → Prop} {P : PyData → Prop} : ∀ {ds acc : List PyData} {S : SW}, WOk S → (∀ a ∈ acc, P a) → (∀ d S, d ∈ ds → WOk S → ∀ Q : PyData → SW → Prop, (∀ y S', P y → WOk S' → Q y S') → fe (ρ.set i (.dat d)) S Q) →
    (∀ out S', out.length = acc.length + ds.length → (∀ y ∈ out, P y) → WOk S' → T out S') → lcGo (gNm i) (fC (.bool true)) fe ρ ds acc S T
  | [], acc, S, w, ha, he, h => h acc S (by simp) ha w
  | d :: ds, acc, S, w, ha, he, h => by
    simp only [lcGo, gNm, fC, asB_bool, if_tt]
    refine he d S (by simp) w _ fun y S' py w' => ?_
    refine lcGo_draw w' (fun a h => ?_) (fun d' S hd' => he d' S (by simp [hd'])) (fun out S' hl ho w'' => h out S' (by simp at hl ⊢; omega) ho w'')
    rcases List.mem_append.mp h with h | h
    · exact ha a h
    · rw [List.mem_singleton.mp h]
      exact py
theorem draw_at {m : Int} {ρ : Rho} {S : SW} {Q : PyData → SW → Prop} (h0 : ρ[0]? = some (.cel 0)) (m0 : 0 < m) (m1 : m < 100000000) (w : WOk S) (h : ∀ r S', 0 ≤ r → r < m → WOk S' → Q (.int r) S') : fCall C_draw (gWel 0 (gDat (fC (.int m)) gaNil)) ρ S Q :=
  w_welF h0 (show C_draw [.cel 0, .dat (.int m)] S Q from ⟨m, rfl, m0, m1, w, h⟩)
theorem draw1_at {a m : Int} {ρ : Rho} {S : SW} {Q : PyData → SW → Prop} (h0 : ρ[0]? = some (.cel 0)) (m0 : 0 < m) (m1 : m < 100000000) (w : WOk S) (h : ∀ r S', 0 ≤ r → r < m → WOk S' → Q (.int (a + r)) S') : fOp oAdd (fC (.int a)) (fCall C_draw (gWel 0 (gDat (fC (.int m)) gaNil))) ρ S Q :=
  w_op (show fCall C_draw (gWel 0 (gDat (fC (.int m)) gaNil)) ρ S _ from draw_at h0 m0 m1 w h)
theorem draw_pick {n : Int} {X Y : FE} {ρ : Rho} {S : SW} {Q : PyData → SW → Prop} (h0 : ρ[0]? = some (.cel 0)) (n0 : 0 < n) (n1 : n < 100000000) (w : WOk S)
    (h : ∀ S', WOk S' → X ρ S' Q) (k : ∀ S', WOk S' → Y ρ S' Q) :
    fIf (fOp oEq (fCall C_draw (gWel 0 (gDat (fC (.int n)) gaNil))) (fC (.int 0))) X Y ρ S Q := by
  unfold fIf fOp fCall gWel gDat fC gaNil
  rw [h0]
  refine ⟨n, rfl, n0, n1, w, fun r S1 r1 r2 w1 => ?_⟩
  simp only [oEq_int, asB_bool]
  split
  · exact h _ w1
  · exact k _ w1
theorem hd_shaped (p : H3) : SeqAt.shaped (hd p) = true := rfl
local macro_rules | `(tactic| walk_at "dw") => `(tactic| try simp -implicitDefEqProofs only [sSeq, sIf, sRet, sRetN, sRetV, sSet, sNext, sPar, sPar3, sAsg, sDrop, sOwn, sApp, sIns, sPut, sNever, sFrz, sParO, fOr, fAnd, fNot, fIf, fOp, fUn, fVar, fVarB, fC, fCons, fNil, fTup, fLst, fSl, fP, fNoP, fCall, fCallK, gDat, gaNil, gWel, fChain, fWix, sWput, sWdiv, gNm, gTp, gsNil, gsCons, fiL, fiT, fiE, fiR1, fiR2, sFor, rowD, ent, asB_bool, asI_int, if_tt, if_ff,
  List.getElem?_cons_zero, List.getElem?_cons_succ, List.set_cons_zero, List.set_cons_succ, List.cons_append, List.nil_append, List.length_cons, List.length_nil, List.replicate, Nat.zero_add, Nat.reduceAdd, Nat.reduceSub,
  isi_tup, oReprG_bool, oGtD_int, oLeD_int, oGeD_int, oMixD_int, oMixD_tup, oMixD_bi, oMixD_ib, oMixD_bb, oStrD_int, oListD_tup, oListD_lst, oTupleD_lst, oTupleD_tup, oBackD_tup, oBackD_lst, oNegD_int, isi_strD, isi_intD, isi_boolD, isi_listD, isTup.eq_1, isTup.eq_2, isStr.eq_1, isStr.eq_2, isNum.eq_1, isNum.eq_2, Bool.not_true, Bool.not_false, oIx_tup, oIx_lst, oEq_int, oEq_str, oEq_bool, oEq_nil, oNe_int, oNe_str, oNe_bool, oLen_tup, oLen_lst, oI_int, oIC_int, oAdd_int, oAdd_tup, oAdd_lst, oLt_int, oInt_int, oInt_bool, oIn_tup, oIn_lst, oSl_tup, oSl_lst,
  atI_zero, atI_one, atI_two, atI_three, atI_four, cut_from1, true_and, Bool.false_eq_true, if_false, if_true])
theorem sgn_pos {a b : Int} (h : Int.sign a = Int.sign b) : (0 < a ↔ 0 < b) ∧ (a = 0 ↔ b = 0) := by
  rcases Int.lt_trichotomy a 0 with c | c | c <;> rcases Int.lt_trichotomy b 0 with d | d | d
  all_goals (first | (subst c; skip) | skip)
  all_goals (try simp only [Int.sign_eq_neg_one_of_neg, Int.sign_eq_one_of_pos, Int.sign_zero, *] at h)
  all_goals omega
theorem lc_rng {m : FE} {n : Int} {i : Nat} {fe : FE} {ρ : Rho} {S : SW} {Q : PyData → SW → Prop} (hm : ∀ Q : PyData → SW → Prop, Q (.int n) S → m ρ S Q) (h0 : 0 ≤ n) (h1 : n ≤ 1000) (own : notOwn ρ [i])
    (he : ∀ (k : Nat) (Q : PyData → SW → Prop), Q (.bool true) S → fe ((rwipe ρ [i]).set i (.dat (.int k))) S Q) (h : Q (.list ((List.range n.toNat).map fun _ => .bool true)) S) :
    fLc (fiR1 m) [i] (gNm i) (fC (.bool true)) fe ρ S Q := by
  unfold fLc fiR1
  refine hm _ ⟨by omega, by omega, own, small_leD _ (by simp; omega), ?_⟩
  refine lcGo_map (g := fun _ => .bool true) (fun d hd R q => ?_) (by simpa [List.map_map, Function.comp_def] using h)
  obtain ⟨k, _, rfl⟩ := List.mem_map.mp hd
  exact he k R q
theorem all_true {f : FE} {n : Nat} {ρ : Rho} {S : SW} {B : Out} (hf : ∀ Q : PyData → SW → Prop, Q (.list ((List.range n).map fun _ => .bool true)) S → f ρ S Q) (h : B.rt (.bool true) S) : sRet (fUn oAll f) ρ S B :=
  hf _ ⟨(List.range n).map fun _ => true, by simp [List.map_map, Function.comp_def], by rw [show ((List.range n).map fun _ => true).all id = true from by rw [List.all_eq_true]; intro x hx; obtain ⟨_, _, rfl⟩ := List.mem_map.mp hx; rfl]; exact h⟩
end K12

namespace K12
open PySem L2 DL
/-! what words ask, what a line of points is -/
def wBoth : Str := "both"
def arN (w : Str) : Nat := if w = "both" then 2 else if w = "either" then 2 else if w = "less" then 2 else if w = "closure" then 1 else if w = "inner" then 1 else if w = "rim" then 1 else 0
def neq2 : PyData → Bool
  | .tuple [a, b] => !PyData.eqv a b
  | _ => false
def lineB (ds : List PyData) : Bool := (zipD ds (ds.drop 1)).all neq2
def shut : List PyData → List PyData
  | [] => []
  | d :: ds => d :: ds ++ [d]
def apB (least : Nat) (cl : Bool) : PyData → Bool
  | .tuple ds => (decide (least ≤ ds.length) && decide (ds.length ≤ 12)) && (ds.all ptD && lineB (if cl = true then shut ds else ds))
  | _ => false
def leafB (w : Str) (x : PyData) : Bool := if w = "spot" then ptD x else if w = "path" then apB 2 false x else if w = "area" then apB 3 true x else false
def leafN (w : Str) : PyData → Nat
  | .tuple ps => if w = "path" then ps.length - 1 else if w = "area" then ps.length else 0
  | _ => 0
def isSh : Nat → PyData → Bool
  | n + 1, .tuple (.str w :: ds) => if arN w = 0 then (match ds with
      | [x] => leafB w x
      | _ => false) else decide (ds.length = arN w) && ds.all (isSh n)
  | _, _ => false
def sumN : List Nat → Nat
  | [] => 0
  | x :: r => x + sumN r
def maxN : List Nat → Nat
  | [] => 0
  | x :: r => max x (maxN r)
def nS : Nat → PyData → Nat
  | n + 1, .tuple (.str w :: ds) => if arN w = 0 then (match ds with
      | [x] => leafN w x
      | _ => 0) else sumN (ds.map (nS n))
  | _, _ => 0
def shp : Nat → PyData → Nat × Nat
  | n + 1, .tuple (.str w :: ds) => if arN w = 0 then (match ds with
      | [x] => if leafB w x = true then (1, leafN w x) else (0, 0)
      | _ => (0, 0)) else if ds.length = arN w ∧ (ds.all fun d => decide (shp n d ≠ (0, 0))) = true then (1 + maxN (ds.map fun d => (shp n d).1), sumN (ds.map fun d => (shp n d).2)) else (0, 0)
  | _, _ => (0, 0)
theorem isSh_inv {m : Nat} {d : PyData} (h : isSh (m + 1) d = true) : ∃ w ds, d = .tuple (.str w :: ds) := by
  unfold isSh at h
  split at h
  · exact ⟨_, _, rfl⟩
  · cases h
theorem shp_inv {m : Nat} {d : PyData} (h : shp (m + 1) d ≠ (0, 0)) : ∃ w ds, d = .tuple (.str w :: ds) := by
  unfold shp at h
  split at h
  · exact ⟨_, _, rfl⟩
  · exact absurd rfl h
theorem shp_zero : ∀ (n : Nat) (d : PyData), (shp n d).1 = 0 → shp n d = (0, 0) := by
  intro n d h
  cases n with
  | zero => simp [shp]
  | succ n =>
    by_cases q : shp (n + 1) d = (0, 0)
    · exact q
    · obtain ⟨w, ds, rfl⟩ := shp_inv q
      simp only [shp] at h ⊢
      by_cases a0 : arN w = 0
      · simp only [a0, if_true] at h ⊢
        split at h
        · split at h
          · simp at h
          · rename_i hb
            simp [hb]
        · rfl
      · simp only [a0, if_false] at h ⊢
        split at h
        · simp at h
        · rename_i hc
          rw [if_neg hc]
theorem maxN_le {k : Nat} : ∀ {xs : List Nat}, (∀ x ∈ xs, x ≤ k) → maxN xs ≤ k
  | [], _ => by simp [maxN]
  | x :: r, h => by
    simp only [maxN]
    have a := h x (by simp)
    have b := maxN_le fun y hy => h y (List.mem_cons_of_mem x hy)
    omega
theorem le_maxN {x : Nat} : ∀ {xs : List Nat}, x ∈ xs → x ≤ maxN xs
  | y :: r, h => by
    simp only [maxN]
    rcases List.mem_cons.mp h with h | h
    · omega
    · have := le_maxN h
      omega
theorem sh_shp : ∀ (m n : Nat) (d : PyData), isSh m d = true → m ≤ n → 1 ≤ (shp n d).1 ∧ (shp n d).1 ≤ m ∧ (shp n d).2 = nS m d := by
  intro m
  induction m with
  | zero => intro n d h _; simp [isSh] at h
  | succ m ih =>
    intro n d h hn
    match n, hn with
    | n + 1, hn =>
    obtain ⟨w, ds, rfl⟩ := isSh_inv h
    simp only [isSh, shp, nS] at h ⊢
    by_cases a0 : arN w = 0
    · simp only [a0, if_true] at h ⊢
      split at h
      · simp only [h, if_true]
        exact ⟨Nat.le_refl _, Nat.succ_le_succ (Nat.zero_le _), trivial⟩
      · cases h
    · simp only [a0, if_false] at h ⊢
      have h := Bool.and_eq_true_iff.mp h
      have hl := of_decide_eq_true h.1
      have ha := List.all_eq_true.mp h.2
      have c : ∀ x ∈ ds, 1 ≤ (shp n x).1 ∧ (shp n x).1 ≤ m ∧ (shp n x).2 = nS m x := fun x hx => ih n x (ha x hx) (by omega)
      rw [if_pos ⟨hl, List.all_eq_true.mpr fun x hx => decide_eq_true fun z => by have := (c x hx).1; rw [z] at this; simp at this⟩]
      refine ⟨by show 1 ≤ 1 + _; omega, ?_, ?_⟩
      · show 1 + _ ≤ m + 1
        have : maxN (ds.map fun d => (shp n d).1) ≤ m := maxN_le fun x hx => by
          obtain ⟨y, hy, rfl⟩ := List.mem_map.mp hx
          exact (c y hy).2.1
        omega
      · show sumN _ = _
        rw [List.map_congr_left fun x hx => (c x hx).2.2]
theorem shp_sh : ∀ (n m : Nat) (d : PyData), (shp n d).1 ≠ 0 → (shp n d).1 ≤ m → isSh m d = true := by
  intro n
  induction n with
  | zero => intro m d h _; simp [shp] at h
  | succ n ih =>
    intro m d h hm
    obtain ⟨w, ds, rfl⟩ := shp_inv (m := n) (d := d) fun z => h (by rw [z])
    match m, hm with
    | 0, hm => omega
    | m + 1, hm =>
    simp only [isSh, shp] at h hm ⊢
    by_cases a0 : arN w = 0
    · simp only [a0, if_true] at h hm ⊢
      split at h
      · split at h
        · rename_i hb
          exact hb
        · simp at h
      · simp at h
    · simp only [a0, if_false] at h hm ⊢
      split at h
      · rename_i hc
        rw [if_pos hc] at hm
        refine Bool.and_eq_true_iff.mpr ⟨decide_eq_true hc.1, List.all_eq_true.mpr fun x hx => ?_⟩
        have hx0 := of_decide_eq_true (List.all_eq_true.mp hc.2 x hx)
        refine ih m x (fun z => hx0 (shp_zero n x z)) ?_
        have : (shp n x).1 ≤ maxN (ds.map fun d => (shp n d).1) := le_maxN (List.mem_map.mpr ⟨x, hx, rfl⟩)
        simp at hm
        omega
      · simp at h
/-- what both tell -/
def figB (d : PyData) : Bool := isSh 6 d && decide (nS 6 d ≤ 24)
theorem fig_due {n : Nat} {d : PyData} (hn : 6 ≤ n) : (decide (0 < (shp n d).1) && decide ((shp n d).1 < 7) && decide ((shp n d).2 < 25)) = figB d := by
  unfold figB
  cases e : isSh 6 d
  · have : ¬ (0 < (shp n d).1 ∧ (shp n d).1 < 7) := fun ⟨h1, h2⟩ => by
      have := shp_sh n 6 d (by omega) (by omega)
      rw [e] at this
      cases this
    rw [Bool.false_and]
    by_cases h1 : 0 < (shp n d).1
    · rw [decide_eq_false (p := (shp n d).1 < 7) (fun h2 => this ⟨h1, h2⟩)]
      simp
    · rw [decide_eq_false h1]
      simp
  · obtain ⟨h1, h2, h3⟩ := sh_shp 6 n d e hn
    rw [decide_eq_true (p := 0 < (shp n d).1) (by omega), decide_eq_true (p := (shp n d).1 < 7) (by omega), h3]
    simp only [Bool.true_and]
    exact decide_eq_decide.mpr (by omega)
/-! the words -/
theorem look_parts (w : Str) : D_PARTS.lookup w = if arN w = 0 then none else some (.int (arN w)) := by
  unfold D_PARTS arN
  simp only [List.lookup_cons, List.lookup_nil]
  by_cases h1 : w = "both"
  · subst h1; rfl
  by_cases h2 : w = "either"
  · subst h2; rfl
  by_cases h3 : w = "less"
  · subst h3; rfl
  by_cases h4 : w = "closure"
  · subst h4; rfl
  by_cases h5 : w = "inner"
  · subst h5; rfl
  by_cases h6 : w = "rim"
  · subst h6; rfl
  have g : ∀ z : Str, w ≠ z → (w == z) = false := fun z h => by simpa using h
  rw [g _ h1, g _ h2, g _ h3, g _ h4, g _ h5, g _ h6]
  simp only [h1, h2, h3, h4, h5, h6, if_false, if_true]
theorem look_least (w : Str) : D_LEAST_POINTS.lookup w = if w = "path" then some (.int 2) else if w = "area" then some (.int 3) else none := by
  unfold D_LEAST_POINTS
  simp only [List.lookup_cons, List.lookup_nil]
  by_cases h1 : w = "path"
  · subst h1; rfl
  by_cases h2 : w = "area"
  · subst h2; rfl
  have g : ∀ z : Str, w ≠ z → (w == z) = false := fun z h => by simpa using h
  rw [g _ h1, g _ h2]
  simp only [h1, h2, if_false]
theorem arN_cases (w : Str) : arN w = 0 ∨ arN w = 1 ∨ arN w = 2 := by
  unfold arN
  repeat' split
  all_goals omega
theorem six (w : Str) : ([PyData.str "both", .str "either", .str "less", .str "closure", .str "inner", .str "rim"].any fun z => PyData.eqv z (.str w)) = decide (arN w ≠ 0) := by
  unfold arN
  simp only [List.any_cons, List.any_nil, PyData.eqv]
  by_cases h1 : w = "both"
  · subst h1; rfl
  by_cases h2 : w = "either"
  · subst h2; rfl
  by_cases h3 : w = "less"
  · subst h3; rfl
  by_cases h4 : w = "closure"
  · subst h4; rfl
  by_cases h5 : w = "inner"
  · subst h5; rfl
  by_cases h6 : w = "rim"
  · subst h6; rfl
  have g : ∀ z : Str, w ≠ z → (z == w) = false := fun z h => by simpa using fun q => h q.symm
  simp only [h1, h2, h3, h4, h5, h6, if_false]
  simp [g _ h1, g _ h2, g _ h3, g _ h4, g _ h5, g _ h6, Ne.symm h1, Ne.symm h2, Ne.symm h3, Ne.symm h4, Ne.symm h5, Ne.symm h6]
theorem three (w : Str) : ([PyData.str "both", .str "either", .str "less"].any fun z => PyData.eqv z (.str w)) = decide (arN w = 2) := by
  unfold arN
  simp only [List.any_cons, List.any_nil, PyData.eqv]
  by_cases h1 : w = "both"
  · subst h1; rfl
  by_cases h2 : w = "either"
  · subst h2; rfl
  by_cases h3 : w = "less"
  · subst h3; rfl
  by_cases h4 : w = "closure"
  · subst h4; rfl
  by_cases h5 : w = "inner"
  · subst h5; rfl
  by_cases h6 : w = "rim"
  · subst h6; rfl
  have g : ∀ z : Str, w ≠ z → (z == w) = false := fun z h => by simpa using fun q => h q.symm
  simp only [h1, h2, h3, h4, h5, h6, if_false]
  simp [g _ h1, g _ h2, g _ h3, Ne.symm h1, Ne.symm h2, Ne.symm h3]
theorem leaves (w : Str) : ([PyData.str "spot", .str "path", .str "area"].any fun z => PyData.eqv z (.str w)) = (decide (w = "spot") || (decide (w = "path") || decide (w = "area"))) := by
  simp only [List.any_cons, List.any_nil, PyData.eqv, Bool.or_false]
  have g : ∀ z : Str, (z == w) = decide (w = z) := fun z => by
    by_cases h : w = z
    · subst h; rw [decide_eq_true rfl]; exact beq_self_eq_true w
    · rw [decide_eq_false h]; simpa using fun q => h q.symm
  simp only [g]
end K12

namespace K12
open PySem L2 DL
local macro_rules | `(tactic| walk_at "dw") => `(tactic| try simp -implicitDefEqProofs only [sSeq, sIf, sRet, sRetN, sRetV, sSet, sNext, sPar, sPar3, sAsg, sDrop, sOwn, sApp, sIns, sPut, sNever, sFrz, sParO, fOr, fAnd, fNot, fIf, fOp, fUn, fVar, fVarB, fC, fCons, fNil, fTup, fLst, fSl, fP, fNoP, fCall, fCallK, gDat, gaNil, gWel, fChain, fWix, sWput, sWdiv, gNm, gTp, gsNil, gsCons, fiL, fiT, fiE, fiR1, fiR2, sFor, rowD, ent, asB_bool, asI_int, if_tt, if_ff,
  List.getElem?_cons_zero, List.getElem?_cons_succ, List.set_cons_zero, List.set_cons_succ, List.cons_append, List.nil_append, List.length_cons, List.length_nil, List.replicate, Nat.zero_add, Nat.reduceAdd, Nat.reduceSub,
  isi_tup, oReprG_bool, oGtD_int, oLeD_int, oGeD_int, oMixD_int, oMixD_tup, oMixD_bi, oMixD_ib, oMixD_bb, oStrD_int, oListD_tup, oListD_lst, oTupleD_lst, oTupleD_tup, oBackD_tup, oBackD_lst, oNegD_int, isi_strD, isi_intD, isi_boolD, isi_listD, isTup.eq_1, isTup.eq_2, isStr.eq_1, isStr.eq_2, isNum.eq_1, isNum.eq_2, Bool.not_true, Bool.not_false, oIx_tup, oIx_lst, oEq_int, oEq_str, oEq_bool, oEq_nil, oNe_int, oNe_str, oNe_bool, oLen_tup, oLen_lst, oI_int, oIC_int, oAdd_int, oAdd_tup, oAdd_lst, oLt_int, oInt_int, oInt_bool, oIn_tup, oIn_lst, oSl_tup, oSl_lst,
  atI_zero, atI_one, atI_two, atI_three, atI_four, cut_from1, true_and, Bool.false_eq_true, if_false, if_true])
/-! the program's checks of figures -/
theorem shut_len : ∀ {ds : List PyData}, ds ≠ [] → (shut ds).length = ds.length + 1
  | [], h => absurd rfl h
  | d :: ds, _ => by simp [shut]
def C_closed : Ct := fun as S R => ∃ ds, as = [.dat (.tuple ds)] ∧ ds ≠ [] ∧ ds.length ≤ 1000 ∧ R (.tuple (shut ds)) S
theorem c_closed : ∀ as S R, as.length = 1 → C_closed as S R → G_closed (ent N_closed as) S { nx := fun _ S' => R .none S', rt := R } := by
  rintro as S R _ ⟨ds, rfl, h0, hl, h⟩
  cases ds with
  | nil => exact absurd rfl h0
  | cons d ds =>
    unfold G_closed
    refine w_ret (show fTupX _ _ _ _ from ?_)
    simp only [fTupX, fStar, fVar, fVarB, fCons, fNil, fOp, fC, ent, List.cons_append, List.nil_append, List.getElem?_cons_zero, oIx_tup, asI_int, atI_zero]
    refine ⟨?_, h⟩
    simp at hl ⊢
    omega
theorem zip_all {vs : List Nat} {f : PyData → Bool} {i j : Nat} {fe : FE} {ρ : Rho} {S : SW} {T : List PyData → SW → Prop} : ∀ {ds es : List PyData} {acc : List PyData}, (∀ a ∈ ds, ∀ b ∈ es, ∀ Q : PyData → SW → Prop, Q (.bool (f (.tuple [a, b]))) S → fe ((ρ.set i (.dat a)).set j (.dat b)) S Q) →
    T (acc ++ (zipD ds es).map fun p => .bool (f p)) S → lcGo (gTp 2 (gsCons (gNm i) (gsCons (gNm j) gsNil))) (fC (.bool true)) fe ρ (zipD ds es) acc S T
  | [], _, acc, _, h => by simpa [zipD, lcGo] using h
  | _ :: _, [], acc, _, h => by simpa [zipD, lcGo] using h
  | a :: ds, b :: es, acc, he, h => by
    simp only [zipD, lcGo]
    refine ⟨rfl, rfl, ?_⟩
    simp only [fC, asB_bool, if_tt]
    refine he a (by simp) b (by simp) _ ?_
    refine zip_all (vs := vs) (fun a' ha b' hb => he a' (by simp [ha]) b' (by simp [hb])) ?_
    simpa [zipD] using h
theorem pt_shaped {d : PyData} (h : ptD d = true) : SeqAt.shaped d = true := by
  obtain ⟨x, y, rfl, h1, h2⟩ := pt_inv h
  obtain ⟨a, b, rfl, _⟩ := rat_inv h1
  obtain ⟨c, e, rfl, _⟩ := rat_inv h2
  rfl
theorem pt_ne {a b : PyData} (ha : ptD a = true) (hb : ptD b = true) (R : PyData → Prop) (h : R (.bool (neq2 (.tuple [a, b])))) : oNe a b R := by
  have h1 := pt_shaped ha
  have h2 := pt_shaped hb
  obtain ⟨x, y, rfl, _⟩ := pt_inv ha
  obtain ⟨z, w, rfl, _⟩ := pt_inv hb
  exact ⟨h1, h2, h⟩
def C_ap : Ct := fun as S R => ∃ (d : PyData) (least : Nat) (cl : Bool), as = [.dat d, .dat (.int least), .dat (.bool cl)] ∧ 1 ≤ least ∧ R (.bool (apB least cl d)) S
theorem line_lc {a b : Nat} {ds : List PyData} {f g : FE} {ρ : Rho} {S : SW} {Q : PyData → SW → Prop} (hf : ∀ Q : PyData → SW → Prop, Q (.tuple ds) S → f ρ S Q) (hg : ∀ Q : PyData → SW → Prop, Q (.tuple (ds.drop 1)) S → g ρ S Q) (hl : ds.length ≤ 1000) (hp : ∀ d ∈ ds, ptD d = true) (own : notOwn ρ [a, b]) (ha : a < ρ.length) (hb : b < ρ.length) (ab : a ≠ b)
    (h : Q (.bool (lineB ds)) S) : fUn oAll (fLc (fiZ f g) [a, b] (gTp 2 (gsCons (gNm a) (gsCons (gNm b) gsNil))) (fC (.bool true)) (fOp oNe (fVarB a) (fVarB b))) ρ S Q := by
  refine w_un (w_lc (w_fiZ (hf _ (hg _ ?_))))
  refine ⟨own, small_leD _ (by rw [zipD_len]; omega), zip_all (vs := []) (f := neq2) (fun x hx y hy Q q => ?_) ?_⟩
  · have la : ∀ s : Sl, a < ((rwipe ρ [a, b]).set a s).length := fun s => by rw [List.length_set, rwipe_len]; exact ha
    have lb : ∀ s : Sl, b < ((rwipe ρ [a, b]).set a s).length := fun s => by rw [List.length_set, rwipe_len]; exact hb
    refine w_op (w_varB (d := x) ?_ (w_varB (d := y) ?_ ?_))
    · rw [List.getElem?_set_ne ab.symm, List.getElem?_set_self (by rw [rwipe_len]; exact ha)]
    · exact List.getElem?_set_self (lb _)
    · exact pt_ne (hp x hx) (hp y (List.mem_of_mem_drop hy)) _ q
  · refine ⟨(zipD ds (ds.drop 1)).map neq2, by rw [List.nil_append, map_bool], ?_⟩
    rw [List.all_map]
    exact h
theorem shut_pt {ds : List PyData} (h : ∀ d ∈ ds, ptD d = true) : ∀ d ∈ shut ds, ptD d = true := by
  cases ds with
  | nil => intro d hd; simp [shut] at hd
  | cons x ds =>
    intro d hd
    simp only [shut, List.mem_append, List.mem_singleton] at hd
    rcases hd with hd | rfl
    · exact h d hd
    · exact h _ (by simp)
theorem w_gate {f : FE} {d : PyData} {rest : FS} {ρ : Rho} {S : SW} {B : Out} {b : Bool} (hc : ∀ Q : PyData → SW → Prop, Q (.bool b) S → f ρ S Q) (h1 : b = true → B.rt d S) (h2 : b = false → rest ρ S B) : sSeq (sIf f (sRet (fC d)) sNext) rest ρ S B :=
  w_ifS hc (fun e => w_ret (w_c' (h1 e))) fun e => h2 e
theorem own_un {i : Nat} {ρ : Rho} (h : ρ[i]? = some .un) : notOwn ρ [i] := fun v hv xs => by
  rw [List.mem_singleton.mp hv, h]
  exact fun z => by cases z
theorem own_un2 {i j : Nat} {ρ : Rho} (h : ρ[i]? = some .un) (g : ρ[j]? = some .un) : notOwn ρ [i, j] := fun v hv xs => by
  rcases List.mem_cons.mp hv with e | e
  · rw [e, h]; exact fun z => by cases z
  · rw [List.mem_singleton.mp e, g]; exact fun z => by cases z
theorem cut1 (ds : List PyData) : cutD ds (some 1) none = ds.drop 1 := by
  cases ds with
  | nil => rfl
  | cons d ds => rw [cut_from1]; rfl
theorem nat_le (a b : Nat) : decide ((a : Int) ≤ (b : Int)) = decide (a ≤ b) := decide_eq_decide.mpr (by omega)
theorem not_tup {d : PyData} (h : ¬ ∃ ds, d = .tuple ds) : isTup d = false := by
  cases d with
  | tuple ds => exact absurd ⟨ds, rfl⟩ h
  | _ => rfl
theorem c_ap : ∀ as S R, as.length = 3 → C_ap as S R → G_are_pointed (C_bool ptD) C_closed (ent N_are_pointed as) S { nx := fun _ S' => R .none S', rt := R } := by
  rintro as S R _ ⟨d, least, cl, rfl, h1, h⟩
  unfold G_are_pointed
  by_cases ht : ∃ ds, d = .tuple ds
  · obtain ⟨ds, rfl⟩ := ht
    simp only [apB] at h
    refine w_gate (b := !(decide (least ≤ ds.length) && decide (ds.length ≤ 12))) (fun Q q => ?_) (fun e => ?_) fun e => ?_
    · walk_at "dw"
      rw [nat_le]
      by_cases c : least ≤ ds.length
      · simp only [c, decide_true, Bool.true_and, if_true] at q ⊢
        rw [show (12 : Int) = ((12 : Nat) : Int) from rfl, nat_le]
        exact q
      · simp only [c, decide_false, Bool.false_and, Bool.false_eq_true, if_false] at q ⊢
        exact q
    · rw [show (decide (least ≤ ds.length) && decide (ds.length ≤ 12)) = false from by simpa only [Bool.not_eq_true'] using e, Bool.false_and] at h
      exact h
    · have e := (Bool.and_eq_true _ _).mp (show (decide (least ≤ ds.length) && decide (ds.length ≤ 12)) = true from by simpa using e)
      rw [e.1, e.2, Bool.true_and, Bool.true_and] at h
      have l12 := of_decide_eq_true e.2
      have l1 := of_decide_eq_true e.1
      refine w_gate (b := !ds.all ptD) (fun Q q => ?_) (fun e2 => ?_) fun e2 => ?_
      · walk_at "dw"
        exact all_lc ds ptD (fun T t => w_fiT (w_varB rfl t)) (own_un rfl) (by omega) (fun d _ R r => ⟨d, rfl, r⟩) (by rw [asB_bool]; exact q)
      · rw [show ds.all ptD = false from by simpa using e2, Bool.false_and] at h
        exact h
      · have e2 : ds.all ptD = true := by simpa using e2
        have hp := List.all_eq_true.mp e2
        rw [e2, Bool.true_and] at h
        refine w_set (show fIf _ _ _ _ _ _ from ?_)
        cases cl with
        | true =>
          rw [if_pos rfl] at h
          walk_at "dw"
          have n0 : ds ≠ [] := fun z => by rw [z] at l1; simp at l1; omega
          refine ⟨ds, rfl, n0, by omega, ?_⟩
          have sl := shut_len n0
          exact line_lc (fun Q q => w_var rfl q) (fun Q q => by
            walk_at "dw"
            rw [cut1]
            exact q) (by omega) (shut_pt hp) (own_un2 rfl rfl) (Nat.lt_of_sub_pos (Nat.succ_pos _)) (Nat.lt_of_sub_pos (Nat.succ_pos _)) (by decide) h
        | false =>
          rw [if_neg (by decide)] at h
          walk_at "dw"
          exact line_lc (fun Q q => w_var rfl q) (fun Q q => by
            walk_at "dw"
            rw [cut1]
            exact q) (by omega) hp (own_un2 rfl rfl) (Nat.lt_of_sub_pos (Nat.succ_pos _)) (Nat.lt_of_sub_pos (Nat.succ_pos _)) (by decide) h
  · have t := not_tup ht
    have : apB least cl d = false := by
      cases d with
      | tuple ds => exact absurd ⟨ds, rfl⟩ ht
      | _ => rfl
    rw [this] at h
    walk_at "dw"
    rw [t]
    exact h
def C_sh (k : Nat) : Ct := fun as S R => ∃ (d : PyData) (m : Nat), as = [.dat d, .dat (.int m)] ∧ m < k ∧ R (.bool (isSh m d)) S
theorem sh_other {m : Nat} {d : PyData} (h : ¬ ∃ w ds, d = .tuple (.str w :: ds)) : isSh m d = false := by
  cases m with
  | zero => simp [isSh]
  | succ m =>
    cases e : isSh (m + 1) d with
    | false => rfl
    | true => exact absurd (isSh_inv e) h
theorem c_sh (k : Nat) : ∀ as S R, as.length = 2 → C_sh (k + 1) as S R → G_is_shaped (C_sh k) (C_bool ptD) C_ap (ent N_is_shaped as) S { nx := fun _ S' => R .none S', rt := R } := by
  rintro as S R _ ⟨d, m, rfl, hm, h⟩
  unfold G_is_shaped
  by_cases ht : m ≠ 0 ∧ ∃ w ds, d = .tuple (.str w :: ds)
  · obtain ⟨m0, w, ds, rfl⟩ := ht
    match m, m0 with
    | m + 1, _ =>
    refine w_gate (b := false) (fun Q q => ?_) (fun e => by cases e) fun _ => ?_
    · have : decide (((m + 1 : Nat) : Int) = 0) = false := decide_eq_false (by omega)
      walk_at "dw"
      rw [this]
      simp only [Bool.false_eq_true, if_false, oEq, List.isEmpty_cons, asB_bool]
      walk_at "dw"
      exact q
    · refine w_set (w_op (w_varB rfl (w_c' ?_)))
      walk_at "dw"
      simp only [fDIn, fDIx]
      walk_at "dw"
      rw [look_parts]
      simp only [isSh] at h
      by_cases a0 : arN w = 0
      · rw [if_pos a0] at h
        rw [if_pos a0]
        simp only [Option.isSome_none, Bool.false_eq_true, if_false]
        match ds with
        | [] => exact h
        | [x] =>
          have e2 : decide ((([x] : List PyData).length + 1 : Nat) = (2 : Int)) = true := rfl
          rw [e2]
          simp only [Bool.not_true, Bool.false_eq_true, if_false, atI_one, leafB] at h ⊢
          by_cases h1 : w = PySem.Str.ofString "spot"
          · rw [if_pos h1] at h
            rw [if_pos (decide_eq_true h1)]
            exact ⟨x, rfl, h⟩
          · rw [if_neg h1] at h
            rw [if_neg (by rw [decide_eq_false h1]; exact Bool.false_ne_true), look_least]
            by_cases h2 : w = PySem.Str.ofString "path"
            · rw [if_pos h2] at h
              rw [if_pos h2]
              have h3 : ¬ w = PySem.Str.ofString "area" := by rw [h2]; decide
              rw [decide_eq_false h3]
              exact ⟨x, 2, false, rfl, by omega, h⟩
            · rw [if_neg h2] at h
              rw [if_neg h2]
              by_cases h3 : w = PySem.Str.ofString "area"
              · rw [if_pos h3] at h
                rw [if_pos h3, decide_eq_true h3]
                exact ⟨x, 3, true, rfl, by omega, h⟩
              · rw [if_neg h3] at h
                rw [if_neg h3]
                exact h
        | x :: y :: r =>
          have e2 : decide (((x :: y :: r).length + 1 : Nat) = (2 : Int)) = false := decide_eq_false (by simp only [List.length_cons]; omega)
          rw [e2]
          exact h
      · rw [if_neg a0] at h
        rw [if_neg a0]
        simp only [Option.isSome_some, if_true, oAdd_int]
        have e2 : decide (((ds.length + 1 : Nat) : Int) = 1 + (arN w : Int)) = decide (ds.length = arN w) := decide_eq_decide.mpr (by omega)
        rw [oEq_int, e2, asB_bool]
        by_cases hl : ds.length = arN w
        · rw [decide_eq_true hl, Bool.true_and] at h
          rw [if_pos (decide_eq_true hl)]
          have l2 : ds.length ≤ 2 := by
            have := arN_cases w
            omega
          refine all_lc ds (isSh m) (fun T t => w_fiT ?_) (own_un rfl) (by omega) (fun d _ R r => ?_) h
          · walk_at "dw"
            exact t
          · walk_at "dw"
            exact ⟨d, m, by show [Sl.dat d, Sl.dat (PyData.int (((m + 1 : Nat) : Int) - 1))] = _; rw [show ((m + 1 : Nat) : Int) - 1 = (m : Int) by omega], by omega, r⟩
        · rw [decide_eq_false hl, Bool.false_and] at h
          rw [if_neg (by rw [decide_eq_false hl]; exact Bool.false_ne_true)]
          exact h
  · have hf : isSh m d = false := by
      by_cases z : m = 0
      · subst z; simp [isSh]
      · exact sh_other fun q => ht ⟨z, q⟩
    rw [hf] at h
    refine w_gate (b := true) (fun Q q => ?_) (fun _ => h) fun e => by cases e
    by_cases z : m = 0
    · subst z
      walk_at "dw"
      exact q
    · have : decide (((m : Nat) : Int) = 0) = false := decide_eq_false (by omega)
      walk_at "dw"
      rw [this]
      simp only [Bool.false_eq_true, if_false]
      cases d with
      | tuple ds =>
        cases ds with
        | nil => exact q
        | cons x ds =>
          simp only [isTup.eq_1, Bool.not_true, Bool.false_eq_true, if_false, oEq, List.isEmpty_cons, asB_bool]
          walk_at "dw"
          cases x with
          | str w => exact absurd ⟨z, w, ds, rfl⟩ ht
          | _ => exact q
      | _ => exact q
end K12

namespace K12
open PySem L2 DL
local macro_rules | `(tactic| walk_at "dw") => `(tactic| try simp -implicitDefEqProofs only [sSeq, sIf, sRet, sRetN, sRetV, sSet, sNext, sPar, sPar3, sAsg, sDrop, sOwn, sApp, sIns, sPut, sNever, sFrz, sParO, fOr, fAnd, fNot, fIf, fOp, fUn, fVar, fVarB, fC, fCons, fNil, fTup, fLst, fSl, fP, fNoP, fCall, fCallK, gDat, gaNil, gWel, fChain, fWix, sWput, sWdiv, gNm, gTp, gsNil, gsCons, fiL, fiT, fiE, fiR1, fiR2, sFor, rowD, ent, asB_bool, asI_int, if_tt, if_ff,
  List.getElem?_cons_zero, List.getElem?_cons_succ, List.set_cons_zero, List.set_cons_succ, List.cons_append, List.nil_append, List.length_cons, List.length_nil, List.replicate, Nat.zero_add, Nat.reduceAdd, Nat.reduceSub,
  isi_tup, oReprG_bool, oGtD_int, oLeD_int, oGeD_int, oMixD_int, oMixD_tup, oMixD_bi, oMixD_ib, oMixD_bb, oStrD_int, oListD_tup, oListD_lst, oTupleD_lst, oTupleD_tup, oBackD_tup, oBackD_lst, oNegD_int, isi_strD, isi_intD, isi_boolD, isi_listD, isTup.eq_1, isTup.eq_2, isStr.eq_1, isStr.eq_2, isNum.eq_1, isNum.eq_2, Bool.not_true, Bool.not_false, oIx_tup, oIx_lst, oEq_int, oEq_str, oEq_bool, oEq_nil, oNe_int, oNe_str, oNe_bool, oLen_tup, oLen_lst, oI_int, oIC_int, oAdd_int, oAdd_tup, oAdd_lst, oLt_int, oInt_int, oInt_bool, oIn_tup, oIn_lst, oSl_tup, oSl_lst,
  atI_zero, atI_one, atI_two, atI_three, atI_four, cut_from1, true_and, Bool.false_eq_true, if_false, if_true])
theorem leafB_pts {w : Str} {x : PyData} (h : leafB w x = true) (hs : w ≠ PySem.Str.ofString "spot") : ∃ ps, x = .tuple ps ∧ (w = PySem.Str.ofString "path" ∧ leafN w x = ps.length - 1 ∨ w = PySem.Str.ofString "area" ∧ leafN w x = ps.length) ∧ 2 ≤ ps.length ∧ ps.length ≤ 12 := by
  unfold leafB at h
  rw [if_neg hs] at h
  by_cases h2 : w = PySem.Str.ofString "path"
  · rw [if_pos h2] at h
    unfold apB at h
    split at h
    · rename_i ps
      simp only [Bool.and_eq_true, decide_eq_true_eq] at h
      exact ⟨ps, rfl, .inl ⟨h2, by show (if w = _ then _ else _) = _; rw [if_pos h2]⟩, by omega, by omega⟩
    · cases h
  · rw [if_neg h2] at h
    by_cases h3 : w = PySem.Str.ofString "area"
    · rw [if_pos h3] at h
      unfold apB at h
      split at h
      · rename_i ps
        simp only [Bool.and_eq_true, decide_eq_true_eq] at h
        exact ⟨ps, rfl, .inr ⟨h3, by show (if w = _ then _ else _) = _; rw [if_neg h2, if_pos h3]⟩, by omega, by omega⟩
      · cases h
    · rw [if_neg h3] at h
      cases h
def C_lines : Ct := fun as S R => ∃ w x, as = [.dat (.tuple [.str w, x])] ∧ leafB w x = true ∧ w ≠ PySem.Str.ofString "spot" ∧ ∀ xs, xs.length = leafN w x → R (.tuple xs) S
theorem c_lines : ∀ as S R, as.length = 1 → C_lines as S R → G_lines_of C_closed (ent N_lines_of as) S { nx := fun _ S' => R .none S', rt := R } := by
  rintro as S R _ ⟨w, x, rfl, hb, hs, h⟩
  obtain ⟨ps, rfl, hk, l1, l2⟩ := leafB_pts hb hs
  unfold G_lines_of
  have zip : ∀ qs : List PyData, (zipD qs (qs.drop 1)).length = leafN w (.tuple ps) → sRet (fZipT (fVar 1) (fSl (fVarB 1) (fP (fC (.int 1))) fNoP)) [.dat (.tuple [.str w, .tuple ps]), .dat (.tuple qs)] S { nx := fun _ S' => R .none S', rt := R } := by
    intro qs hq
    refine w_ret (show fZipT _ _ _ _ _ from ?_)
    simp only [fZipT]
    walk_at "dw"
    rw [cut1]
    exact h _ hq
  rcases hk with ⟨rfl, hn⟩ | ⟨rfl, hn⟩
  · walk_at "dw"
    have e : decide (PySem.Str.ofString "path" = PySem.Str.ofString "area") = false := by decide
    rw [e]
    simp only [Bool.false_eq_true, if_false]
    exact zip ps (by rw [zipD_len, List.length_drop, hn]; omega)
  · walk_at "dw"
    simp only [decide_true, if_true]
    have n0 : ps ≠ [] := fun z => by rw [z] at l1; simp at l1
    refine ⟨ps, rfl, n0, by omega, ?_⟩
    exact zip (shut ps) (by rw [zipD_len, List.length_drop, hn, shut_len n0]; omega)
theorem nS_le : ∀ (k : Nat) (d : PyData), isSh k d = true → nS k d ≤ 12 * 2 ^ k := by
  intro k
  induction k with
  | zero => intro d h; simp [isSh] at h
  | succ k ih =>
    intro d h
    obtain ⟨w, ds, rfl⟩ := isSh_inv h
    simp only [isSh, nS] at h ⊢
    have p : 0 < 2 ^ k := Nat.pow_pos (by decide)
    by_cases a0 : arN w = 0
    · rw [if_pos a0] at h ⊢
      match ds, h with
      | [x], h =>
        have h : leafB w x = true := h
        show leafN w x ≤ _
        by_cases hs : w = PySem.Str.ofString "spot"
        · subst hs
          cases x with
          | tuple ps => show 0 ≤ _; omega
          | _ => show 0 ≤ _; omega
        · obtain ⟨ps, rfl, hk, _, _⟩ := leafB_pts h hs
          rcases hk with ⟨_, e⟩ | ⟨_, e⟩ <;> rw [e, Nat.pow_succ] <;> omega
    · rw [if_neg a0] at h ⊢
      obtain ⟨hl, ha⟩ := Bool.and_eq_true_iff.mp h
      have hl := of_decide_eq_true hl
      have ha := List.all_eq_true.mp ha
      have c := arN_cases w
      have : ∀ (es : List PyData), (∀ x ∈ es, isSh k x = true) → sumN (es.map (nS k)) ≤ es.length * (12 * 2 ^ k) := by
        intro es
        induction es with
        | nil => intro _; simp [sumN]
        | cons x es ih2 =>
          intro hx
          have := ih x (hx x (by simp))
          have := ih2 fun y hy => hx y (by simp [hy])
          simp only [List.map_cons, sumN, List.length_cons]
          generalize 12 * 2 ^ k = m at *
          rw [Nat.add_mul]
          omega
      have := this ds ha
      have : ds.length * (12 * 2 ^ k) ≤ 2 * (12 * 2 ^ k) := Nat.mul_le_mul_right _ (by omega)
      rw [Nat.pow_succ]
      omega
def C_segs (k : Nat) : Ct := fun as S R => ∃ d, as = [.dat d] ∧ isSh k d = true ∧ k ≤ 6 ∧ ∀ xs, xs.length = nS k d → R (.tuple xs) S
theorem c_segs (k : Nat) : ∀ as S R, as.length = 1 → C_segs (k + 1) as S R → G_segments_by (C_segs k) C_lines (ent N_segments_by as) S { nx := fun _ S' => R .none S', rt := R } := by
  rintro as S R _ ⟨d, rfl, hd, hk, h⟩
  have hle := nS_le _ _ hd
  have p7 : 2 ^ (k + 1) ≤ 2 ^ 6 := Nat.pow_le_pow_right (by decide) hk
  have b : nS (k + 1) d ≤ 768 := by omega
  obtain ⟨w, ds, rfl⟩ := isSh_inv hd
  unfold G_segments_by
  by_cases a0 : arN w = 0
  · refine w_ifS (b := false) (fun Q q => ?_) (fun e => by cases e) fun _ => ?_
    · simp only [fDIn]
      walk_at "dw"
      rw [look_parts, if_pos a0]
      exact q
    · simp only [isSh, nS, if_pos a0] at hd h
      match ds, hd, h with
      | [x], hd, h =>
        have hd : leafB w x = true := hd
        have h : ∀ xs : List PyData, xs.length = leafN w x → R (.tuple xs) S := h
        walk_at "dw"
        by_cases hs : w = PySem.Str.ofString "spot"
        · subst hs
          simp only [decide_true, Bool.not_true, Bool.false_eq_true, if_false]
          refine h [] ?_
          cases x with
          | tuple ps => rfl
          | _ => rfl
        · rw [decide_eq_false hs]
          simp only [Bool.not_false, if_true]
          exact ⟨w, x, rfl, hd, hs, h⟩
  · refine w_ifS (b := true) (fun Q q => ?_) (fun _ => ?_) fun e => by cases e
    · simp only [fDIn]
      walk_at "dw"
      rw [look_parts, if_neg a0]
      exact q
    · simp only [isSh, nS, if_neg a0] at hd h b
      have ha := List.all_eq_true.mp (Bool.and_eq_true_iff.mp hd).2
      walk_at "dw"
      have go : ∀ (es : List PyData) (x : Sl) (acc : List PyData) (B : Out), (∀ y ∈ es, isSh k y = true) → acc.length + sumN (es.map (nS k)) ≤ 768 →
          (∀ x xs, xs.length = acc.length + sumN (es.map (nS k)) → B.nx [.dat (.tuple (.str w :: ds)), .dat (.tuple xs), x] S) →
          forGo (gNm 2) (sSet 1 (fOp oAdd (fVarB 1) (fCall (C_segs k) (gDat (fVar 2) gaNil)))) es [.dat (.tuple (.str w :: ds)), .dat (.tuple acc), x] S B := by
        intro es
        induction es with
        | nil =>
          intro x acc B _ _ hB
          exact hB x acc (by simp [sumN])
        | cons y es ih =>
          intro x acc B hy hl hB
          simp only [forGo]
          walk_at "dw"
          simp only [List.map_cons, sumN] at hl hB
          refine ⟨y, rfl, hy y (by simp), by omega, fun xs hx => ⟨small_leD _ (by omega), ih _ _ _ (fun z hz => hy z (by simp [hz])) (by rw [List.length_append]; omega) fun x' xs' hx' => hB x' xs' (by rw [hx', List.length_append]; omega)⟩⟩
      exact go ds _ [] _ ha (by simpa using b) fun x xs hx => h xs (by simpa using hx)
def C_fig : Ct := C_bool figB
theorem c_figured : ∀ as S R, as.length = 1 → C_bool figB as S R → G_is_figured (C_segs 6) (C_sh 7) (ent N_is_figured as) S { nx := fun _ S' => R .none S', rt := R } := by
  rintro as S R _ ⟨d, rfl, h⟩
  unfold G_is_figured
  walk_at "dw"
  refine ⟨d, 6, rfl, by omega, ?_⟩
  unfold figB at h
  cases e : isSh 6 d
  · rw [e, Bool.false_and] at h
    walk_at "dw"
    exact h
  · rw [e, Bool.true_and] at h
    walk_at "dw"
    refine ⟨d, rfl, e, by omega, fun xs hx => ?_⟩
    walk_at "dw"
    rw [hx, show (24 : Int) = ((24 : Nat) : Int) from rfl, nat_le]
    exact h
theorem c_is_figure : ∀ as S R, as.length = 1 → C_bool figB as S R → G_is_figure (C_bool figB) (ent N_is_figure as) S { nx := fun _ S' => R .none S', rt := R } := by
  rintro as S R _ ⟨d, rfl, h⟩
  unfold G_is_figure
  walk_at "dw"
  exact ⟨d, rfl, h⟩
end K12

namespace K12
open PySem L2 DL
local macro_rules | `(tactic| walk_at "dx") => `(tactic| try simp only [sSeq, sIf, sRet, sRetN, sRetV, sSet, sNext, sPar, sPar3, sAsg, sDrop, sOwn, sApp, sIns, sPut, sNever, fOr, fAnd, fNot, fIf, fOp, fUn, fVar, fVarB, fC, fCons, fNil, fTup, fLst, fSl, fP, fNoP, fCall, fCallK, gDat, gaNil, gWel, fChain, fWix, sWput, sWdiv, gNm, gTp, gsNil, gsCons, fiL, fiT, fiR1, sFor, ent, asB_bool, asI_int, if_tt, if_ff,
  List.getElem?_cons_zero, List.getElem?_cons_succ, List.set_cons_zero, List.set_cons_succ, List.cons_append, List.nil_append, List.length_cons, List.length_nil, List.replicate, Nat.zero_add, Nat.reduceAdd, Nat.reduceSub,
  isi_tup, isi_strD, oRepr_bool, oGt_int, oLe_int, oMix_int, oMix_tup, oMix_bi, oMix_ib, oMix_bb, isi_intD, isi_boolD, isi_listD, isTup.eq_1, isTup.eq_2, isStr.eq_1, isStr.eq_2, Bool.not_true, Bool.not_false, oIx_tup, oIx_lst, oEq_int, oEq_str, oEq_bool, oEq_nil, oNe_int, oNe_str, oNe_bool, oLen_tup, oLen_lst, oI_int, oIC_int, oAdd_int, oAdd_tup, oAdd_lst, oLt_int, oInt_int, oInt_bool, oIn_tup, oIn_lst, oSl_tup, oSl_lst,
  atI_zero, atI_one, atI_two, cut_from1, Bool.false_eq_true, if_false, if_true])
theorem c_lwhole : ∀ as S R, as.length = 1 → C_bool whole as S R → G_law_is_whole (ent N_law_is_whole as) S { nx := fun _ S' => R .none S', rt := R } := by
  rintro as S R _ ⟨d, rfl, h⟩
  unfold G_law_is_whole
  cases d <;> (walk_at "dx"; exact h)
theorem c_fraction : ∀ as S R, as.length = 1 → C_bool ratD as S R → G_law_is_fraction (C_bool whole) C_lot C_div (ent N_law_is_fraction as) S { nx := fun _ S' => R .none S', rt := R } := by
  rintro as S R _ ⟨d, rfl, h⟩
  unfold G_law_is_fraction
  walk_at "dx"
  refine ⟨d, rfl, ?_⟩
  walk_at "dx"
  by_cases hp : isPair d = true
  · rw [if_neg (by simp [hp])]
    obtain ⟨x, y, rfl⟩ := pair_inv hp
    refine all_lc (R := fun d S1 => asB d fun k => if (!k) = true then R (.bool false) S1 else _) [x, y] whole ?_ ?_ (by simp) ?_ ?_
    · exact fun T h => h
    · exact fun v hv xs => by simp at hv; subst hv; simp
    · intro d hd R q
      simp only [rwipe]
      walk_at "dx"
      exact ⟨d, rfl, q⟩
    · walk_at "dx"
      by_cases hw : wh2 (.tuple [x, y]) = true
      · obtain ⟨a, b, e⟩ := wh2_inv hw
        cases e
        rw [if_neg (by simp [whole])]
        walk_at "dx"
        by_cases hb : 0 < b
        · simp only [hb, decide_true, if_true]
          refine ⟨a, b, rfl, ?_⟩
          walk_at "dx"
          have e : decide (((Nat.gcd a.natAbs b.natAbs : Nat) : Int) = 1) = decide (Nat.gcd a.natAbs b.natAbs = 1) := decide_eq_decide.mpr (by omega)
          rw [e]
          simpa [ratD, hb] using h
        · simp only [hb, decide_false, Bool.false_eq_true, if_false]
          simpa [ratD, hb] using h
      · rw [if_pos (by cases a : whole x <;> cases b : whole y <;> simp_all [wh2])]
        have e : ratD (.tuple [x, y]) = false := by
          by_cases z : ratD (.tuple [x, y]) = true
          · obtain ⟨a, b, e, _⟩ := rat_inv z
            cases e
            exact absurd rfl hw
          · simpa using z
        rw [e] at h
        exact h
  · rw [if_pos (by simpa using hp)]
    rw [(not_pair hp fun _ _ => true).1] at h
    exact h
theorem c_told_is : ∀ as S R, as.length = 1 → C_bool ptD as S R → G_law_is_told (C_bool ratD) C_lot (ent N_law_is_told as) S { nx := fun _ S' => R .none S', rt := R } := by
  rintro as S R _ ⟨d, rfl, h⟩
  unfold G_law_is_told
  walk_at "dx"
  refine ⟨d, rfl, ?_⟩
  walk_at "dx"
  by_cases hp : isPair d = true
  · rw [if_pos hp]
    obtain ⟨x, y, rfl⟩ := pair_inv hp
    refine all_lc [x, y] ratD ?_ ?_ (by simp) ?_ (by simpa [ptD] using h)
    · exact fun T h => h
    · exact fun v hv xs => by simp at hv; subst hv; simp
    · intro d hd R q
      simp only [rwipe]
      walk_at "dx"
      exact ⟨d, rfl, q⟩
  · rw [if_neg hp]
    rw [(not_pair hp fun _ _ => true).2] at h
    exact h
end K12

namespace K12
open PySem L2 DL
local macro_rules | `(tactic| walk_at "dw") => `(tactic| try simp -implicitDefEqProofs only [sSeq, sIf, sRet, sRetN, sRetV, sSet, sNext, sPar, sPar3, sAsg, sDrop, sOwn, sApp, sIns, sPut, sNever, sFrz, sParO, fOr, fAnd, fNot, fIf, fOp, fUn, fVar, fVarB, fC, fCons, fNil, fTup, fLst, fSl, fP, fNoP, fCall, fCallK, gDat, gaNil, gWel, fChain, fWix, sWput, sWdiv, gNm, gTp, gsNil, gsCons, fiL, fiT, fiE, fiR1, fiR2, sFor, rowD, ent, asB_bool, asI_int, if_tt, if_ff,
  List.getElem?_cons_zero, List.getElem?_cons_succ, List.set_cons_zero, List.set_cons_succ, List.cons_append, List.nil_append, List.length_cons, List.length_nil, List.replicate, Nat.zero_add, Nat.reduceAdd, Nat.reduceSub,
  isi_tup, oReprG_bool, oGtD_int, oLeD_int, oGeD_int, oMixD_int, oMixD_tup, oMixD_bi, oMixD_ib, oMixD_bb, oStrD_int, oListD_tup, oListD_lst, oTupleD_lst, oTupleD_tup, oBackD_tup, oBackD_lst, oNegD_int, isi_strD, isi_intD, isi_boolD, isi_listD, isTup.eq_1, isTup.eq_2, isStr.eq_1, isStr.eq_2, isNum.eq_1, isNum.eq_2, Bool.not_true, Bool.not_false, oIx_tup, oIx_lst, oEq_int, oEq_str, oEq_bool, oEq_nil, oNe_int, oNe_str, oNe_bool, oLen_tup, oLen_lst, oI_int, oIC_int, oAdd_int, oAdd_tup, oAdd_lst, oLt_int, oInt_int, oInt_bool, oIn_tup, oIn_lst, oSl_tup, oSl_lst,
  atI_zero, atI_one, atI_two, atI_three, atI_four, cut_from1, true_and, Bool.false_eq_true, if_false, if_true])
/-! the law's look -/
def lotB (lo hi : Nat) : PyData → Bool
  | .tuple ds => decide (lo ≤ ds.length) && decide (ds.length ≤ hi)
  | _ => false
def C_lotg : Ct := fun as S R => ∃ (d : PyData) (lo hi : Nat), as = [.dat d, .dat (.int lo), .dat (.int hi)] ∧ R (.bool (lotB lo hi d)) S
theorem c_lotg : ∀ as S R, as.length = 3 → C_lotg as S R → G_law_is_lot (ent N_law_is_lot as) S { nx := fun _ S' => R .none S', rt := R } := by
  rintro as S R _ ⟨d, lo, hi, rfl, h⟩
  unfold G_law_is_lot
  cases d with
  | tuple ds =>
    walk_at "dw"
    rw [nat_le]
    simp only [lotB] at h
    by_cases c : lo ≤ ds.length
    · rw [decide_eq_true c, Bool.true_and] at h
      rw [if_pos (decide_eq_true c), nat_le]
      exact h
    · rw [decide_eq_false c, Bool.false_and] at h
      rw [if_neg (by rw [decide_eq_false c]; exact Bool.false_ne_true)]
      exact h
  | _ => walk_at "dw"; exact h
theorem lot_imp : ∀ as S R, C_lot as S R → C_lotg as S R := by
  rintro as S R ⟨d, rfl, h⟩
  refine ⟨d, 2, 2, rfl, ?_⟩
  have : lotB 2 2 d = isPair d := by
    cases d with
    | tuple ds =>
      match ds with
      | [] => rfl
      | [_] => rfl
      | [_, _] => rfl
      | _ :: _ :: _ :: r =>
        show (decide (2 ≤ r.length + 3) && decide (r.length + 3 ≤ 2)) = false
        rw [decide_eq_false (p := r.length + 3 ≤ 2) (by omega), Bool.and_false]
    | _ => rfl
  rw [this]
  exact h
def prs (cl : Bool) (ds : List PyData) : List PyData := zipD ds (ds.drop 1) ++ if cl = true then (match atI ds (-1), atI ds 0 with
  | some a, some b => [.tuple [a, b]]
  | _, _ => []) else []
theorem atI_last {x : PyData} : ∀ {ds : List PyData}, atI (x :: ds) (-1) = some ((x :: ds).getLast (by simp)) := by
  intro ds
  have e : ixN (x :: ds).length (-1) = some ds.length := by
    unfold ixN
    rw [if_neg (by decide), if_pos (by rw [List.length_cons]; omega)]
    congr 1
    rw [List.length_cons]
    omega
  unfold atI
  rw [e]
  show (x :: ds)[ds.length]? = _
  rw [List.getLast_eq_getElem, List.getElem?_eq_getElem (by rw [List.length_cons]; omega)]
  rfl
theorem zip_shut (h : PyData) : ∀ (ds : List PyData) (x : PyData), zipD (x :: ds ++ [h]) (ds ++ [h]) = zipD (x :: ds) ds ++ [.tuple [(x :: ds).getLast (by simp), h]]
  | [], x => rfl
  | y :: r, x => by
    have := zip_shut h r y
    simp only [List.cons_append] at this ⊢
    simp only [zipD]
    rw [this]
    simp [zipD, List.getLast_cons]
theorem prs_line {cl : Bool} {ds : List PyData} (h : ds ≠ []) : lineB (if cl = true then shut ds else ds) = (prs cl ds).all neq2 := by
  cases cl with
  | false => simp [lineB, prs]
  | true =>
    cases ds with
    | nil => exact absurd rfl h
    | cons x ds =>
      simp only [if_true, lineB, prs, shut, atI_last, atI_zero, List.drop_succ_cons, List.drop_zero]
      rw [List.cons_append, List.drop_succ_cons, List.drop_zero, ← List.cons_append, zip_shut]
theorem prs_len {cl : Bool} {ds : List PyData} (h : ds ≠ []) : (prs cl ds).length = if cl = true then ds.length else ds.length - 1 := by
  cases ds with
  | nil => exact absurd rfl h
  | cons x ds =>
    unfold prs
    rw [List.length_append, zipD_len]
    cases cl
    · simp
    · simp [atI_last, atI_zero]
theorem zip_in : ∀ {ds es : List PyData} {d : PyData}, d ∈ zipD ds es → ∃ a b, d = .tuple [a, b] ∧ a ∈ ds ∧ b ∈ es
  | [], _, d, h => by simp [zipD] at h
  | _ :: _, [], d, h => by simp [zipD] at h
  | a :: ds, b :: es, d, h => by
    simp only [zipD, List.mem_cons] at h
    rcases h with rfl | h
    · exact ⟨a, b, rfl, by simp, by simp⟩
    · obtain ⟨x, y, e, h1, h2⟩ := zip_in h
      exact ⟨x, y, e, by simp [h1], by simp [h2]⟩
theorem prs_in {cl : Bool} {ps : List PyData} {d : PyData} (hp : ∀ x ∈ ps, ptD x = true) (hd : d ∈ prs cl ps) : ∃ a b, d = .tuple [a, b] ∧ ptD a = true ∧ ptD b = true := by
  unfold prs at hd
  rcases List.mem_append.mp hd with hd | hd
  · obtain ⟨a, b, e, h1, h2⟩ := zip_in hd
    exact ⟨a, b, e, hp a h1, hp b (List.mem_of_mem_drop h2)⟩
  · cases ps with
    | nil =>
      cases cl
      · cases hd
      · cases hd
    | cons x ps =>
      cases cl
      · cases hd
      · simp only [if_true, atI_last, atI_zero, List.mem_singleton] at hd
        exact ⟨_, _, hd, hp _ (List.getLast_mem _), hp x (by simp)⟩
def C_pairs : Ct := fun as S R => ∃ ds cl, as = [.dat (.tuple ds), .dat (.bool cl)] ∧ ds ≠ [] ∧ ds.length ≤ 100 ∧ R (.list (prs cl ds)) S
theorem c_pairs : ∀ as S R, as.length = 2 → C_pairs as S R → G_law_pairs (ent N_law_pairs as) S { nx := fun _ S' => R .none S', rt := R } := by
  rintro as S R _ ⟨ds, cl, rfl, h0, hl, h⟩
  unfold G_law_pairs
  have z : ∀ Q : PyData → SW → Prop, Q (.list (zipD ds (ds.drop 1))) S → fZipL (fVar 0) (fSl (fVarB 0) (fP (fC (.int 1))) fNoP) (ent N_law_pairs [.dat (.tuple ds), .dat (.bool cl)]) S Q := by
    intro Q q
    simp only [fZipL]
    walk_at "dw"
    rw [cut1]
    exact q
  refine w_seq (show fZipL _ _ _ _ _ from z _ ?_)
  dsimp only
  refine w_ifS (b := cl) (fun Q q => ?_) (fun e => ?_) fun e => ?_
  · exact q
  · subst e
    refine w_app (xs := zipD ds (ds.drop 1)) rfl (by rw [zipD_len]; omega) ?_
    cases ds with
    | nil => exact absurd rfl h0
    | cons x ds =>
      simp only [prs, if_true, atI_last, atI_zero] at h
      refine w_tup2 ?_
      walk_at "dw"
      rw [atI_last]
      exact h
  · subst e
    simp only [prs, Bool.false_eq_true, if_false, List.append_nil] at h
    exact h
/-! what is shown, not too deep -/
inductive Fine : Nat → PyData → Prop
  | non {n : Nat} : Fine (n + 1) .none
  | bool {n : Nat} {b : Bool} : Fine (n + 1) (.bool b)
  | int {n : Nat} {i : Int} : Fine (n + 1) (.int i)
  | str {n : Nat} {x : Str} : Fine (n + 1) (.str x)
  | dict {n : Nat} {kvs : List (PyData × PyData)} : Fine (n + 1) (.dict kvs)
  | tup {n : Nat} {ds : List PyData} : (∀ d ∈ ds, Fine n d) → Fine (n + 1) (.tuple ds)
  | lst {n : Nat} {ds : List PyData} : Fine (n + 1) (.list ds)
def shd (p : Nat × Nat) : PyData := .tuple [.int p.1, .int p.2]
def C_shape (k : Nat) : Ct := fun as S R => ∃ d, as = [.dat d] ∧ Fine k d ∧ R (shd (shp k d)) S
theorem shp_lot {k : Nat} {d : PyData} (h : lotB 2 3 d = false) : shp k d = (0, 0) := by
  cases k with
  | zero => simp [shp]
  | succ k =>
    by_cases q : shp (k + 1) d = (0, 0)
    · exact q
    · obtain ⟨w, ds, rfl⟩ := shp_inv q
      exfalso
      apply q
      simp only [shp]
      match ds, h with
      | [], _ =>
        by_cases a0 : arN w = 0
        · simp only [a0, if_true]
        · rw [if_neg a0, if_neg (fun z => a0 (by have := z.1; simpa using this.symm))]
      | [x], h => simp [lotB] at h
      | [x, y], h => simp [lotB] at h
      | x :: y :: z :: r, _ =>
        have c := arN_cases w
        by_cases a0 : arN w = 0
        · simp only [a0, if_true]
        · rw [if_neg a0, if_neg (fun z => by have := z.1; simp only [List.length_cons] at this; omega)]
theorem shp_str {k : Nat} {d : PyData} (h : ¬ ∃ w ds, d = .tuple (.str w :: ds)) : shp k d = (0, 0) := by
  cases k with
  | zero => simp [shp]
  | succ k =>
    by_cases q : shp (k + 1) d = (0, 0)
    · exact q
    · exact absurd (shp_inv q) h
theorem pair_zero (p : Nat × Nat) : PyData.eqv (shd p) (.tuple [.int 0, .int 0]) = decide (p = (0, 0)) := by
  obtain ⟨a, b⟩ := p
  simp only [shd, PyData.eqv, PyData.eqvAll, Bool.and_true]
  rw [Bool.eq_iff_iff]
  simp
theorem max_one {ps : List (Nat × Nat)} {R : PyData → Prop} (h0 : ps ≠ []) (hl : ps.length ≤ 2) (h : R (.int (maxN (ps.map (·.1)) : Nat))) : oMax (.list (ps.map fun p => .int p.1)) R := by
  refine ⟨ps.map fun p => (p.1 : Int), by rw [List.map_map]; rfl, by rw [List.length_map]; exact List.length_pos_iff.mpr h0, fun m hm hy => ?_⟩
  cases ps with
  | nil => exact absurd rfl h0
  | cons p r =>
    cases r with
    | nil =>
      simp only [List.map_cons, List.map_nil, List.mem_singleton] at hm
      rw [hm]
      simpa [maxN] using h
    | cons q r =>
      cases r with
      | nil =>
        have e : m = ((max p.1 (max q.1 0) : Nat) : Int) := by
          simp only [List.map_cons, List.map_nil, List.mem_cons, List.not_mem_nil, or_false, forall_eq_or_imp, forall_eq] at hm hy
          omega
        rw [e]
        exact h
      | cons t r => simp at hl
theorem sum_one {ps : List (Nat × Nat)} {R : PyData → Prop} (h : R (.int (sumN (ps.map (·.2)) : Nat))) : oSum (.list (ps.map fun p => .int p.2)) R := by
  refine ⟨ps.map fun p => (p.2 : Int), by rw [List.map_map]; rfl, ?_⟩
  have : ∀ qs : List (Nat × Nat), (qs.map fun p => (p.2 : Int)).sum = ((sumN (qs.map (·.2)) : Nat) : Int) := by
    intro qs
    induction qs with
    | nil => rfl
    | cons q qs ih => simp only [List.map_cons, List.sum_cons, sumN, ih]; omega
  rw [this]
  exact h
theorem lc_col {ps : List (Nat × Nat)} {n : Int} {g : Nat × Nat → PyData} {ρ : Rho} {S : SW} {Q : PyData → SW → Prop} (h3 : ρ[3]? = some (.dat (.list (ps.map shd)))) (h7 : ρ[7]? = some .un) (hn : ∀ p, atI [.int (p.1 : Nat), .int (p.2 : Nat)] n = some (g p)) (hl : ps.length ≤ 1000) (h : Q (.list (ps.map g)) S) :
    fLc (fiL (fVar 3)) [7] (gNm 7) (fC (.bool true)) (fOp oIx (fVarB 7) (fC (.int n))) ρ S Q := by
  have l7 : 7 < ρ.length := by
    rcases Nat.lt_or_ge 7 ρ.length with z | z
    · exact z
    · rw [List.getElem?_eq_none z] at h7; cases h7
  refine w_lc (w_fiL (w_var h3 ?_))
  refine ⟨own_un h7, small_leD _ (by rw [List.length_map]; exact hl), ?_⟩
  have go : ∀ (qs : List (Nat × Nat)) (acc : List PyData), Q (.list (acc ++ qs.map g)) S → lcGo (gNm 7) (fC (.bool true)) (fOp oIx (fVarB 7) (fC (.int n))) (rwipe ρ [7]) (qs.map shd) acc S fun out S2 => Q (.list out) S2 := by
    intro qs
    induction qs with
    | nil => intro acc h; simpa [lcGo] using h
    | cons q qs ih =>
      intro acc h
      simp only [List.map_cons, lcGo, gNm, fC, asB_bool, if_tt]
      refine w_op (w_varB (d := shd q) (List.getElem?_set_self (by rw [rwipe_len]; exact l7)) (w_c' ?_))
      show oIx (.tuple [.int q.1, .int q.2]) (.int n) _
      rw [oIx_tup, hn q]
      exact ih _ (by simpa using h)
  exact go ps [] h
theorem shape_fin {ps : List (Nat × Nat)} {ρ : Rho} {S : SW} {Q : PyData → SW → Prop} (h0 : ps ≠ []) (hl : ps.length ≤ 2) (h3 : ρ[3]? = some (.dat (.list (ps.map shd)))) (h7 : ρ[7]? = some .un)
    (h : Q (shd (1 + maxN (ps.map (·.1)), sumN (ps.map (·.2)))) S) :
    fTup (fCons (fOp oAdd (fC (.int 1)) (fUn oMax (fLc (fiL (fVar 3)) [7] (gNm 7) (fC (.bool true)) (fOp oIx (fVarB 7) (fC (.int 0)))))) (fCons (fUn oSum (fLc (fiL (fVar 3)) [7] (gNm 7) (fC (.bool true)) (fOp oIx (fVarB 7) (fC (.int 1))))) fNil)) ρ S Q := by
  refine w_tup2 (w_op (w_c' (w_un (lc_col h3 h7 (g := fun p => .int (p.1 : Nat)) (fun p => rfl) (by omega) (max_one h0 hl ?_)))))
  rw [oAdd_int]
  refine w_un (lc_col h3 h7 (g := fun p => .int (p.2 : Nat)) (fun p => rfl) (by omega) (sum_one ?_))
  have e : (1 : Int) + ((maxN (ps.map (·.1)) : Nat) : Int) = ((1 + maxN (ps.map (·.1)) : Nat) : Int) := by omega
  rw [e]
  exact h
theorem w_sl1 {i : Nat} {d : PyData} {ds : List PyData} {ρ : Rho} {S : SW} {Q : PyData → SW → Prop} (h1 : ρ[i]? = some (.dat (.tuple (d :: ds)))) (h : Q (.tuple ds) S) : fSl (fVarB i) (fP (fC (.int 1))) fNoP ρ S Q := by
  simp only [fSl, fVarB, h1, fP, fC, asI_int, fNoP, oSl_tup, cut_from1]
  exact h
theorem w_next {ρ : Rho} {S : SW} {B : Out} (h : B.nx ρ S) : sNext ρ S B := h
theorem c_shape (k : Nat) : ∀ as S R, as.length = 1 → C_shape (k + 1) as S R → G_law_shape C_lotg (C_shape k) (C_bool ptD) C_pairs (ent N_law_shape as) S { nx := fun _ S' => R .none S', rt := R } := by
  rintro as S R _ ⟨d, rfl, hf, h⟩
  unfold G_law_shape
  by_cases ht : lotB 2 3 d = true ∧ ∃ w ds, d = .tuple (.str w :: ds)
  · obtain ⟨hl, w, ds, rfl⟩ := ht
    have l12 : ds.length = 1 ∨ ds.length = 2 := by
      simp only [lotB, Bool.and_eq_true, decide_eq_true_eq, List.length_cons] at hl
      omega
    have fd : ∀ x ∈ ds, Fine k x := fun x hx => by
      cases hf with
      | tup h => exact h x (by simp [hx])
    simp only [shp] at h
    refine w_gate (b := false) (fun Q q => ?_) (fun e => by cases e) fun _ => ?_
    · walk_at "dw"
      exact ⟨_, 2, 3, rfl, by rw [hl]; walk_at "dw"; exact q⟩
    · refine w_par (w_op (w_varB rfl (w_c' ?_)))
      rw [oIx_tup, atI_zero]
      refine w_sl1 rfl ?_
      refine w_ifS (b := decide (arN w ≠ 0)) (fun Q q => ?_) (fun a0 => ?_) fun a0 => ?_
      · refine w_op (w_varB rfl ?_)
        walk_at "dw"
        exact ⟨rfl, rfl, by rw [← six] at q; exact q⟩
      · have a0 := of_decide_eq_true a0
        rw [if_neg a0] at h
        refine w_set (fLc_map (ds := ds) (g := fun x => shd (shp k x)) (fun T t => w_fiT (w_varB rfl t)) (by omega) (own_un rfl) (fun x hx R r => ?_) ?_)
        · exact w_call1 rfl ⟨x, rfl, fd x hx, r⟩
        · have ac := arN_cases w
          have e9 : ds.map (fun x => shd (shp k x)) = (ds.map (shp k)).map shd := by rw [List.map_map]; rfl
          have bx : (((ds.map (shp k)).map shd).any fun z => PyData.eqv z (.tuple [.int 0, .int 0])) = !(ds.all fun d => decide (shp k d ≠ (0, 0))) := by
            rw [List.any_map, List.any_map, List.not_all_eq_any_not]
            congr 1
            funext d
            simp [pair_zero]
          have shp9 : SeqAt.shaped (.list ((ds.map (shp k)).map shd)) = true := by
            match ds, l12 with
            | [x], _ => rfl
            | [x, y], _ => rfl
          rw [e9]
          refine w_gate (b := !(decide (ds.length = arN w) && ds.all fun d => decide (shp k d ≠ (0, 0)))) (fun Q q => ?_) (fun e => ?_) fun e => w_ret (shape_fin (ps := ds.map (shp k)) ?_ ?_ rfl rfl ?_)
          · walk_at "dw"
            simp only [oInD]
            walk_at "dw"
            refine ⟨rfl, rfl, ?_⟩
            rw [show ([PyData.str (PySem.Str.ofString "both"), PyData.str (PySem.Str.ofString "either"), PyData.str (PySem.Str.ofString "less")].any fun z => PyData.eqv z (.str w)) = decide (arN w = 2) from three w]
            have fin : ∀ n : Nat, n = arN w → (if (!decide ((ds.length : Int) = (n : Int))) = true then Q (.bool true) S else SeqAt.shaped (.tuple [.int 0, .int 0]) = true ∧ SeqAt.shaped (.list ((ds.map (shp k)).map shd)) = true ∧ Q (.bool (((ds.map (shp k)).map shd).any fun z => PyData.eqv z (.tuple [.int 0, .int 0]))) S) := by
              intro n hn
              subst hn
              have e7 : decide ((ds.length : Int) = (arN w : Int)) = decide (ds.length = arN w) := decide_eq_decide.mpr (by omega)
              rw [e7]
              by_cases c : ds.length = arN w
              · rw [decide_eq_true c, Bool.true_and] at q
                rw [decide_eq_true c, if_neg (by decide)]
                exact ⟨rfl, shp9, by rw [bx]; exact q⟩
              · rw [decide_eq_false c, Bool.false_and] at q
                rw [decide_eq_false c, if_pos (show (!false) = true from rfl)]
                exact q
            by_cases a2 : arN w = 2
            · rw [if_pos (decide_eq_true a2)]
              exact fin 2 a2.symm
            · rw [if_neg (by rw [decide_eq_false a2]; exact Bool.false_ne_true)]
              exact fin 1 (by omega)
          · have e : (decide (ds.length = arN w) && ds.all fun d => decide (shp k d ≠ (0, 0))) = false := by simpa only [Bool.not_eq_true'] using e
            rw [if_neg (fun z => by rw [decide_eq_true z.1, z.2] at e; cases e)] at h
            exact h
          · intro z
            have := congrArg List.length z
            simp at this
            rw [this] at l12
            simp at l12
          · rw [List.length_map]; omega
          · have e : (decide (ds.length = arN w) && ds.all fun d => decide (shp k d ≠ (0, 0))) = true := by simpa only [Bool.not_eq_false'] using e
            obtain ⟨z1, z2⟩ := Bool.and_eq_true_iff.mp e
            rw [if_pos ⟨of_decide_eq_true z1, z2⟩] at h
            rw [List.map_map, List.map_map]
            exact h
      · have a0 : arN w = 0 := by simpa using a0
        rw [if_pos a0] at h
        refine w_next ?_
        dsimp only
        refine w_gate (b := !(decide (ds.length = 1) && (decide (w = PySem.Str.ofString "spot") || (decide (w = PySem.Str.ofString "path") || decide (w = PySem.Str.ofString "area"))))) (fun Q q => ?_) (fun e => ?_) fun e => ?_
        · walk_at "dw"
          have e7 : decide ((ds.length : Int) = 1) = decide (ds.length = 1) := decide_eq_decide.mpr (by omega)
          rw [e7]
          by_cases c : ds.length = 1
          · rw [decide_eq_true c, Bool.true_and] at q
            rw [decide_eq_true c, if_neg (by decide)]
            exact ⟨rfl, rfl, by rw [← leaves] at q; exact q⟩
          · rw [decide_eq_false c, Bool.false_and] at q
            rw [decide_eq_false c, if_pos (show (!false) = true from rfl)]
            exact q
        · have e : (decide (ds.length = 1) && (decide (w = PySem.Str.ofString "spot") || (decide (w = PySem.Str.ofString "path") || decide (w = PySem.Str.ofString "area")))) = false := by simpa only [Bool.not_eq_true'] using e
          match ds, l12 with
          | [x], _ =>
            have e : (decide (w = PySem.Str.ofString "spot") || (decide (w = PySem.Str.ofString "path") || decide (w = PySem.Str.ofString "area"))) = false := e
            simp only [Bool.or_eq_false_iff, decide_eq_false_iff_not] at e
            have : leafB w x = false := by
              unfold leafB
              rw [if_neg e.1, if_neg e.2.1, if_neg e.2.2]
            simp only [this, Bool.false_eq_true, if_false] at h
            exact h
          | [x, y], _ => exact h
        · have e : (decide (ds.length = 1) && (decide (w = PySem.Str.ofString "spot") || (decide (w = PySem.Str.ofString "path") || decide (w = PySem.Str.ofString "area")))) = true := by simpa only [Bool.not_eq_false'] using e
          obtain ⟨hl1, hw⟩ := Bool.and_eq_true_iff.mp e
          match ds, of_decide_eq_true hl1 with
          | [x], _ =>
            replace h : R (shd (if leafB w x = true then (1, leafN w x) else (0, 0))) S := h
            clear hl l12 fd hf e hl1
            refine w_ifS (b := decide (w = PySem.Str.ofString "spot")) (fun Q q => ?_) (fun hs => ?_) fun hs => ?_
            · walk_at "dw"
              exact q
            · have hs := of_decide_eq_true hs
              subst hs
              walk_at "dw"
              refine ⟨x, rfl, ?_⟩
              have e1 : leafB (PySem.Str.ofString "spot") x = ptD x := if_pos rfl
              have e2 : leafN (PySem.Str.ofString "spot") x = 0 := by cases x <;> rfl
              rw [e1, e2] at h
              dsimp only
              rw [asB_bool]
              cases c : ptD x
              · rw [c] at h
                exact h
              · rw [c] at h
                exact h
            · have hs := of_decide_eq_false hs
              refine w_next ?_
              dsimp only
              have lb : leafB w x = apB (if w = PySem.Str.ofString "area" then 3 else 2) (decide (w = PySem.Str.ofString "area")) x := by
                unfold leafB
                rw [if_neg hs]
                by_cases hp : w = PySem.Str.ofString "path"
                · subst hp
                  rfl
                · have ha : w = PySem.Str.ofString "area" := by simpa [hs, hp] using hw
                  subst ha
                  rfl
              rw [lb] at h
              have cln : ∀ ps : List PyData, leafN w (.tuple ps) = if decide (w = PySem.Str.ofString "area") = true then ps.length else ps.length - 1 := by
                intro ps
                by_cases hp : w = PySem.Str.ofString "path"
                · subst hp
                  rfl
                · have ha : w = PySem.Str.ofString "area" := by simpa [hs, hp] using hw
                  subst ha
                  rfl
              have lowE : ∀ Q : PyData → SW → Prop, Q (.int ((if w = PySem.Str.ofString "area" then 3 else 2 : Nat) : Int)) S → fIf (fOp oEq (fVarB 1) (fC (.str (PySem.Str.ofString "area")))) (fC (.int 3)) (fC (.int 2)) [.dat (.tuple [.str w, x]), .dat (.str w), .dat (.tuple [x]), .un, .un, .un, .un, .un] S Q := by
                intro Q q
                walk_at "dw"
                by_cases ha : w = PySem.Str.ofString "area"
                · rw [if_pos ha] at q
                  rw [if_pos (decide_eq_true ha)]
                  exact q
                · rw [if_neg ha] at q
                  rw [if_neg (by rw [decide_eq_false ha]; exact Bool.false_ne_true)]
                  exact q
              have low1 : 2 ≤ (if w = PySem.Str.ofString "area" then 3 else 2 : Nat) := by split <;> omega
              generalize (if w = PySem.Str.ofString "area" then 3 else 2 : Nat) = low at *
              refine w_par (w_op (w_varB rfl (w_c' ?_)))
              rw [oIx_tup, atI_zero]
              refine lowE _ ?_
              clear lowE
              by_cases hx : ∃ ps, x = .tuple ps
              · obtain ⟨ps, rfl⟩ := hx
                have ea : apB low (decide (w = PySem.Str.ofString "area")) (.tuple ps) = (((decide (low ≤ ps.length) && decide (ps.length ≤ 12)) && ps.all ptD) && lineB (if decide (w = PySem.Str.ofString "area") = true then shut ps else ps)) := (Bool.and_assoc _ _ _).symm
                rw [cln, ea] at h
                refine w_gate (b := !((decide (low ≤ ps.length) && decide (ps.length ≤ 12)) && ps.all ptD)) (fun Q q => ?_) (fun e => ?_) fun e => ?_
                · walk_at "dw"
                  refine ⟨_, low, 12, rfl, ?_⟩
                  simp only [lotB]
                  walk_at "dw"
                  by_cases c : (decide (low ≤ ps.length) && decide (ps.length ≤ 12)) = true
                  · rw [c, Bool.true_and] at q
                    rw [c, if_neg (by decide)]
                    simp only [Bool.and_eq_true, decide_eq_true_eq] at c
                    exact all_lc ps ptD (fun T t => w_fiT (w_varB rfl t)) (own_un rfl) (by omega) (fun d _ R r => ⟨d, rfl, r⟩) q
                  · rw [Bool.eq_false_iff.mpr c, Bool.false_and] at q
                    rw [Bool.eq_false_iff.mpr c, if_pos (show (!false) = true from rfl)]
                    exact q
                · have e : ((decide (low ≤ ps.length) && decide (ps.length ≤ 12)) && ps.all ptD) = false := by simpa only [Bool.not_eq_true'] using e
                  rw [e, Bool.false_and, if_neg Bool.false_ne_true] at h
                  exact h
                · have e : ((decide (low ≤ ps.length) && decide (ps.length ≤ 12)) && ps.all ptD) = true := by simpa only [Bool.not_eq_false'] using e
                  rw [e, Bool.true_and] at h
                  simp only [Bool.and_eq_true, decide_eq_true_eq, List.all_eq_true] at e
                  obtain ⟨⟨l1, l2⟩, hp⟩ := e
                  have n0 : ps ≠ [] := fun z => by rw [z] at l1; simp at l1; omega
                  rw [prs_line n0] at h
                  rw [← prs_len n0] at h
                  refine w_set ?_
                  walk_at "dw"
                  refine ⟨ps, decide (w = PySem.Str.ofString "area"), rfl, n0, by omega, ?_⟩
                  generalize decide (w = PySem.Str.ofString "area") = cl at *
                  have pl : (prs cl ps).length ≤ 12 := by rw [prs_len n0]; split <;> omega
                  refine all_lc (prs cl ps) neq2 (fun T t => w_fiL (w_var rfl t)) (own_un rfl) (by omega) (fun d hd R r => ?_) ?_
                  · obtain ⟨a, b, rfl, ha, hb⟩ := prs_in hp hd
                    walk_at "dw"
                    exact pt_ne ha hb (fun d => R d S) r
                  · rw [asB_bool]
                    cases c : (prs cl ps).all neq2
                    · rw [c] at h
                      exact h
                    · rw [c] at h
                      exact h
              · have e1 : apB low (decide (w = PySem.Str.ofString "area")) x = false := by
                  cases x with
                  | tuple ps => exact absurd ⟨ps, rfl⟩ hx
                  | _ => rfl
                rw [e1, if_neg Bool.false_ne_true] at h
                refine w_gate (b := true) (fun Q q => ?_) (fun _ => h) fun e => by cases e
                walk_at "dw"
                refine ⟨x, low, 12, rfl, ?_⟩
                have e2 : lotB low 12 x = false := by
                  cases x with
                  | tuple ps => exact absurd ⟨ps, rfl⟩ hx
                  | _ => rfl
                rw [e2]
                exact q
  · have e0 : shp (k + 1) d = (0, 0) := by
      by_cases c : lotB 2 3 d = true
      · exact shp_str fun q => ht ⟨c, q⟩
      · exact shp_lot (Bool.eq_false_iff.mpr c)
    rw [e0] at h
    refine w_gate (b := true) (fun Q q => ?_) (fun _ => h) fun e => by cases e
    walk_at "dw"
    refine ⟨d, 2, 3, rfl, ?_⟩
    cases c : lotB 2 3 d
    · exact q
    · cases d with
      | tuple ds =>
        cases ds with
        | nil => cases c
        | cons x ds =>
          walk_at "dw"
          cases x with
          | str w => exact absurd ⟨c, w, ds, rfl⟩ ht
          | _ => exact q
      | _ => cases c
end K12

namespace K12
open PySem L2 DL
local macro_rules | `(tactic| walk_at "dw") => `(tactic| try simp -implicitDefEqProofs only [sSeq, sIf, sRet, sRetN, sRetV, sSet, sNext, sPar, sPar3, sAsg, sDrop, sOwn, sApp, sIns, sPut, sNever, sFrz, sParO, fOr, fAnd, fNot, fIf, fOp, fUn, fVar, fVarB, fC, fCons, fNil, fTup, fLst, fSl, fP, fNoP, fCall, fCallK, gDat, gaNil, gWel, fChain, fWix, sWput, sWdiv, gNm, gTp, gsNil, gsCons, fiL, fiT, fiE, fiR1, fiR2, sFor, rowD, ent, asB_bool, asI_int, if_tt, if_ff,
  List.getElem?_cons_zero, List.getElem?_cons_succ, List.set_cons_zero, List.set_cons_succ, List.cons_append, List.nil_append, List.length_cons, List.length_nil, List.replicate, Nat.zero_add, Nat.reduceAdd, Nat.reduceSub,
  isi_tup, oReprG_bool, oGtD_int, oLeD_int, oGeD_int, oMixD_int, oMixD_tup, oMixD_bi, oMixD_ib, oMixD_bb, oStrD_int, oListD_tup, oListD_lst, oTupleD_lst, oTupleD_tup, oBackD_tup, oBackD_lst, oNegD_int, isi_strD, isi_intD, isi_boolD, isi_listD, isTup.eq_1, isTup.eq_2, isStr.eq_1, isStr.eq_2, isNum.eq_1, isNum.eq_2, Bool.not_true, Bool.not_false, oIx_tup, oIx_lst, oEq_int, oEq_str, oEq_bool, oEq_nil, oNe_int, oNe_str, oNe_bool, oLen_tup, oLen_lst, oI_int, oIC_int, oAdd_int, oAdd_tup, oAdd_lst, oLt_int, oInt_int, oInt_bool, oIn_tup, oIn_lst, oSl_tup, oSl_lst,
  atI_zero, atI_one, atI_two, atI_three, atI_four, cut_from1, true_and, Bool.false_eq_true, if_false, if_true])
theorem Fine.up {n m : Nat} {d : PyData} (h : Fine n d) (hm : n ≤ m) : Fine m d := by
  induction h generalizing m with
  | non => obtain ⟨m, rfl⟩ : ∃ k, m = k + 1 := ⟨m - 1, by omega⟩; exact .non
  | bool => obtain ⟨m, rfl⟩ : ∃ k, m = k + 1 := ⟨m - 1, by omega⟩; exact .bool
  | int => obtain ⟨m, rfl⟩ : ∃ k, m = k + 1 := ⟨m - 1, by omega⟩; exact .int
  | str => obtain ⟨m, rfl⟩ : ∃ k, m = k + 1 := ⟨m - 1, by omega⟩; exact .str
  | dict => obtain ⟨m, rfl⟩ : ∃ k, m = k + 1 := ⟨m - 1, by omega⟩; exact .dict
  | lst => obtain ⟨m, rfl⟩ : ∃ k, m = k + 1 := ⟨m - 1, by omega⟩; exact .lst
  | tup _ ih => obtain ⟨m, rfl⟩ : ∃ k, m = k + 1 := ⟨m - 1, by omega⟩; exact .tup fun d hd => ih d hd (by omega)
inductive Nice : Nat → PyData → Prop
  | int {n : Nat} {i : Int} : i.natAbs < 2 ^ 400 → Nice (n + 1) (.int i)
  | str {n : Nat} {x : Str} : PyData.canLay0 (.str x) = true → Nice (n + 1) (.str x)
  | tup {n : Nat} {ds : List PyData} : ds.length ≤ 20 → (∀ d ∈ ds, Nice n d) → Nice (n + 1) (.tuple ds)
theorem Nice.up {n m : Nat} {d : PyData} (h : Nice n d) (hm : n ≤ m) : Nice m d := by
  induction h generalizing m with
  | int h => obtain ⟨m, rfl⟩ : ∃ k, m = k + 1 := ⟨m - 1, by omega⟩; exact .int h
  | str h => obtain ⟨m, rfl⟩ : ∃ k, m = k + 1 := ⟨m - 1, by omega⟩; exact .str h
  | tup hl _ ih => obtain ⟨m, rfl⟩ : ∃ k, m = k + 1 := ⟨m - 1, by omega⟩; exact .tup hl fun d hd => ih d hd (by omega)
theorem Nice.fine {n : Nat} {d : PyData} (h : Nice n d) : Fine n d := by
  induction h with
  | int h => exact .int
  | str h => exact .str
  | tup hl _ ih => exact .tup ih
theorem lay_all : ∀ {ds : List PyData}, (∀ d ∈ ds, d.canLay0 = true) → PyData.canLayAll0 ds = true
  | [], _ => by simp [PyData.canLayAll0]
  | d :: ds, h => by
    simp only [PyData.canLayAll0, Bool.and_eq_true]
    exact ⟨h d (by simp), lay_all fun x hx => h x (by simp [hx])⟩
theorem dep_all {k : Nat} : ∀ {ds : List PyData}, (∀ d ∈ ds, d.depth ≤ k) → PyData.depthAll ds ≤ k
  | [], _ => by simp [PyData.depthAll]
  | d :: ds, h => by
    simp only [PyData.depthAll]
    have a := h d (by simp)
    have b := dep_all (k := k) fun x hx => h x (List.mem_cons_of_mem d hx)
    omega
theorem Nice.lay {n : Nat} {d : PyData} (h : Nice n d) : d.canLay0 = true ∧ d.depth ≤ n := by
  induction h with
  | int h => exact ⟨rfl, by simp only [PyData.depth]; omega⟩
  | str h => exact ⟨h, by simp only [PyData.depth]; omega⟩
  | tup _ _ ih =>
    refine ⟨by simp only [PyData.canLay0]; exact lay_all fun d hd => (ih d hd).1, ?_⟩
    simp only [PyData.depth]
    have := dep_all fun d hd => (ih d hd).2
    omega
theorem Nice.shaped {n : Nat} {d : PyData} (h : Nice n d) (hn : n ≤ 60) : SeqAt.shaped d = true := by
  have := h.lay
  simp only [SeqAt.shaped, Bool.and_eq_true, decide_eq_true_eq]
  exact ⟨this.1, by omega⟩
/-! values of any kind, not too deep -/
def AnyF (n : Nat) (f : FE) (ρ : Rho) (S : SW) : Prop := ∀ R : PyData → SW → Prop, (∀ d, Fine n d → R d S) → f ρ S R
def AnyR (k n : Nat) (g : FL) (ρ : Rho) (S : SW) : Prop := ∀ R : List PyData → SW → Prop, (∀ ds, ds.length = k → (∀ d ∈ ds, Fine n d) → R ds S) → g ρ S R
section
variable {ρ : Rho} {S : SW} {f : FE} {g : FL} {n k : Nat}
theorem aC0 : AnyF (n + 1) (fC .none) ρ S := fun _ h => h _ .non
theorem aCb {b : Bool} : AnyF (n + 1) (fC (.bool b)) ρ S := fun _ h => h _ .bool
theorem aCi {i : Int} : AnyF (n + 1) (fC (.int i)) ρ S := fun _ h => h _ .int
theorem aCs {x : Str} : AnyF (n + 1) (fC (.str x)) ρ S := fun _ h => h _ .str
theorem aCd {kvs : List (PyData × PyData)} : AnyF (n + 1) (fC (.dict kvs)) ρ S := fun _ h => h _ .dict
theorem aV {i m : Nat} {d : PyData} (q : Fine m d) (e : ρ[i]? = some (.dat d)) (hm : m ≤ n) : AnyF n (fVar i) ρ S := fun _ h => w_var e (h d (q.up hm))
theorem aT (a : AnyR k n g ρ S) : AnyF (n + 1) (fTup g) ρ S := fun _ h => a _ fun ds _ hd => h _ (.tup hd)
theorem aL (a : AnyR k n g ρ S) : AnyF (n + 1) (fLst g) ρ S := fun _ h => a _ fun ds _ _ => h _ .lst
theorem aN : AnyR 0 n fNil ρ S := fun _ h => h [] rfl (by simp)
theorem aS (a : AnyF n f ρ S) (b : AnyR k n g ρ S) : AnyR (k + 1) n (fCons f g) ρ S := fun _ h => a _ fun d hd => b _ fun ds e hds => h (d :: ds) (by rw [List.length_cons, e]) fun x hx => by
  rcases List.mem_cons.mp hx with rfl | hx
  · exact hd
  · exact hds x hx
theorem aM (i : Int) : AnyF (n + 1) (fUn oNeg (fC (.int i))) ρ S := fun _ h => h _ .int
theorem aP {i j : Int} (c : CPow i j) : AnyF (n + 1) (fOp (oIC CPow fun i j => .int (i ^ j.toNat)) (fC (.int i)) (fC (.int j))) ρ S := fun _ h => ⟨c, h _ .int⟩
end
def C_oddF : Ct := fun as S R => as = [.cel 0] ∧ WOk S ∧ ∀ d S', Fine 8 d → WOk S' → R d S'
theorem odd_any {r1 r2 : FL} {n : Nat} {S : SW} {R : PyData → SW → Prop} (h1 : AnyR 3 3 r1 [.cel 0, .un, .un, .un, .un] S) (h2 : ∀ a b c, Fine 3 a → Fine 3 b → Fine 3 c → AnyR n 8 r2 [.cel 0, .dat a, .dat b, .dat c, .un] S) (n0 : 0 < n) (n1 : n < 1000) (w : WOk S) (h : ∀ d S', Fine 8 d → WOk S' → R d S') :
    (sSeq (sAsg (fTup r1) (gTp 3 (gsCons (gNm 1) (gsCons (gNm 2) (gsCons (gNm 3) gsNil))))) (sSeq (sSet 4 (fLst r2)) (sRet (fCall C_one (gWel 0 (gDat (fVar 4) gaNil)))))) [.cel 0, .un, .un, .un, .un] S { nx := fun _ S' => R .none S', rt := R } := by
  refine h1 _ fun ds e hd => ?_
  match ds, e, hd with
  | [a, b, c], _, hd =>
    refine ⟨rfl, rfl, ?_⟩
    refine h2 a b c (hd a (by simp)) (hd b (by simp)) (hd c (by simp)) _ fun ds e hds => ?_
    exact ⟨ds, .inr rfl, by omega, by omega, w, fun d S' hm w' => h d S' (hds d hm) w'⟩
theorem c_odd : ∀ as S R, as.length = 1 → C_oddF as S R → G_law_odd C_one (ent N_law_odd as) S { nx := fun _ S' => R .none S', rt := R } := by
  rintro as S R _ ⟨rfl, w, h⟩
  refine odd_any (n := 77) ?_ (fun a b c ha hb hc => ?_) ?_ ?_ w h
  · repeat (first | exact aN | exact aCi | exact aM _ | apply aS | apply aT)
  · repeat (first | exact aN | exact aC0 | exact aCb | exact aCi | exact aCs | exact aCd | exact aM _ | exact aV ha rfl (by decide) | exact aV hb rfl (by decide) | exact aV hc rfl (by decide) | exact aP ⟨by decide, by decide, by decide⟩ | apply aS | apply aT | apply aL)
  · exact Nat.succ_pos _
  · decide
end K12

set_option maxHeartbeats 400000
namespace K12
open PySem L2 DL
theorem oStr_int (i : Int) (R : PyData → Prop) : oStr (.int i) R = (i.natAbs.log2 < 1920 ∧ R (.str (toString i))) := rfl
theorem oList_tup (ds : List PyData) (R : PyData → Prop) : oList (.tuple ds) R = R (.list ds) := rfl
theorem oBack_tup (ds : List PyData) (R : PyData → Prop) : oBack (.tuple ds) R = R (.tuple ds.reverse) := rfl
theorem isNum_tup (ds : List PyData) : isNum (.tuple ds) = false := rfl
theorem isNum_str (x : Str) : isNum (.str x) = false := rfl
theorem isTup_str (x : Str) : isTup (.str x) = false := rfl
theorem oNeg_int (i : Int) (R : PyData → Prop) : oNeg (.int i) R = R (.int (-i)) := rfl
local macro_rules | `(tactic| walk_at "dx") => `(tactic| try simp -implicitDefEqProofs only [sSeq, sIf, sRet, sRetN, sRetV, sSet, sNext, sPar, sPar3, sAsg, sDrop, sOwn, sApp, sIns, sPut, sNever, fOr, fAnd, fNot, fIf, fOp, fUn, fVar, fVarB, fC, fCons, fNil, fTup, fLst, fSl, fP, fNoP, fCall, fCallK, gDat, gaNil, gWel, fChain, fWix, sWput, sWdiv, gNm, gTp, gsNil, gsCons, fiL, fiT, fiR1, sFor, ent, asB_bool, asI_int, if_tt, if_ff,
  List.getElem?_cons_zero, List.getElem?_cons_succ, List.set_cons_zero, List.set_cons_succ, List.cons_append, List.nil_append, List.length_cons, List.length_nil, List.replicate, Nat.zero_add, Nat.reduceAdd, Nat.reduceSub,
  isi_tup, oStr_int, oList_tup, oBack_tup, oNeg_int, isNum.eq_1, isNum.eq_2, isNum_tup, isNum_str, isTup_str, isi_strD, oRepr_bool, oGt_int, oLe_int, oMix_int, oMix_tup, oMix_bi, oMix_ib, oMix_bb, isi_intD, isi_boolD, isi_listD, isTup.eq_1, isTup.eq_2, isStr.eq_1, isStr.eq_2, Bool.not_true, Bool.not_false, oEq_int, oEq_str, oEq_bool, oEq_nil, oNe_int, oNe_str, oNe_bool, oLen_tup, oLen_lst, oI_int, oIC_int, oAdd_int, oAdd_tup, oAdd_lst, oLt_int, oInt_int, oInt_bool, oIn_tup, oIn_lst, oSl_tup, oSl_lst,
  atI_zero, atI_one, atI_two, cut_from1, true_and, Bool.false_eq_true, if_false, if_true])
theorem at_some {ds : List PyData} {r : Int} (h0 : 0 ≤ r) (h1 : r < ds.length) : ∃ d, d ∈ ds ∧ atI ds r = some d := by
  obtain ⟨j, rfl⟩ := Int.eq_ofNat_of_zero_le h0
  have hj : j < ds.length := by omega
  exact ⟨_, List.getElem_mem hj, atI_nat (List.getElem?_eq_getElem hj)⟩
theorem ix_any {ds : List PyData} {r : Int} {R : PyData → Prop} (h0 : 0 ≤ r) (h1 : r < ds.length) (k : ∀ d ∈ ds, R d) : oIx (.tuple ds) (.int r) R := by
  obtain ⟨d, hd, e⟩ := at_some h0 h1
  rw [oIx_tup, e]
  exact k d hd
theorem at_draw {i : Nat} {m : Int} {rest : FS} {ρ : Rho} {S : SW} {B : Out} (hρ : ρ[0]? = some (.cel 0)) (h : C_draw [.cel 0, .dat (.int m)] S fun d S1 => rest (ρ.set i (.dat d)) S1 B) : sSeq (sSet i (fCall C_draw (gWel 0 (gDat (fC (.int m)) gaNil)))) rest ρ S B := by
  unfold sSeq sSet fCall gWel
  rw [hρ]
  exact h
theorem seq_if {c : FE} {X rest : FS} {ρ : Rho} {S : SW} {B : Out} {P : (PyData → SW → Prop) → Prop} (hc : ∀ Rk, P Rk → c ρ S Rk) (h : P fun x S1 => asB x fun k => if k = true then X ρ S1 { B with nx := fun ρ' S' => rest ρ' S' B } else rest ρ S1 B) : sSeq (sIf c X sNext) rest ρ S B := hc _ h
theorem ret_of {f : FE} {ρ : Rho} {S : SW} {B : Out} (h : f ρ S B.rt) : sRet f ρ S B := h
theorem call_wel {C : Ct} {ρ : Rho} {S : SW} {R : PyData → SW → Prop} (hρ : ρ[0]? = some (.cel 0)) (h : C [.cel 0] S R) : fCall C (gWel 0 gaNil) ρ S R := by
  unfold fCall gWel
  rw [hρ]
  exact h
theorem mem_len_cut (ds : List PyData) (lo hi : Option Int) : (cutD ds lo hi).length ≤ ds.length := by
  simp only [cutD, List.length_take, List.length_drop]
  omega
theorem ix_row {n m i : Nat} {row : FL} {ρ : Rho} {S : SW} {R : PyData → SW → Prop} {r : Int} (a : AnyR n m row ρ S) (hρ : ρ[i]? = some (.dat (.int r))) (h0 : 0 ≤ r) (h1 : r < n) (h : ∀ d, Fine m d → R d S) : fOp oIx (fTup row) (fVarB i) ρ S R := by
  refine a _ fun ds e hd => ?_
  show fVarB i ρ S _
  unfold fVarB
  rw [hρ]
  exact ix_any h0 (by rw [e]; exact h1) fun d hm => h d (hd d hm)
section
variable {ρ : Rho} {S : SW} {ds : List PyData} {i n : Nat} (e : ρ[i]? = some (.dat (.tuple ds)))
include e
theorem vb (R : PyData → SW → Prop) (h : R (.tuple ds) S) : fVarB i ρ S R := by
  unfold fVarB
  rw [e]
  exact h
theorem aList : AnyF (n + 1) (fUn oList (fVarB i)) ρ S := fun R h => vb e _ (h _ .lst)
variable (hd : ∀ d ∈ ds, Fine n d)
include hd
theorem aBack : AnyF (n + 1) (fUn oBack (fVarB i)) ρ S := fun R h => vb e _ (h _ (.tup fun d q => hd d (List.mem_reverse.mp q)))
theorem cut_fine (lo hi : Option Int) : ∀ d ∈ cutD ds lo hi, Fine n d := fun d q => hd d (by
  unfold cutD at q
  exact List.mem_of_mem_drop (List.mem_of_mem_take q))
theorem aCutN (k : Int) : AnyF (n + 1) (fSl (fVarB i) fNoP (fP (fUn oNeg (fC (.int k))))) ρ S := fun R h => vb e _ (h _ (.tup (cut_fine e hd _ _)))
theorem aCutF (k : Int) : AnyF (n + 1) (fSl (fVarB i) (fP (fC (.int k))) fNoP) ρ S := fun R h => vb e _ (h _ (.tup (cut_fine e hd _ _)))
theorem aAddL (k : Int) (hl : ds.length ≤ 400) : AnyF (n + 1) (fOp oAddM (fVarB i) (fSl (fVarB i) (fP (fUn oNeg (fC (.int k)))) fNoP)) ρ S := fun R h =>
  vb e _ (vb e _ ⟨small_le _ (by have := mem_len_cut ds (some (-k)) none; omega), h _ (.tup fun d q => (List.mem_append.mp q).elim (hd d) (cut_fine e hd _ _ d))⟩)
theorem aAddF (k : Int) (hl : ds.length ≤ 400) : AnyF (n + 1) (fOp oAddM (fSl (fVarB i) fNoP (fP (fC (.int k)))) (fVarB i)) ρ S := fun R h => by
  simp only [fOp, fSl, fNoP, fP, fC, fVarB, e, asI_int, oSl_tup, oMix_tup, oAdd_tup]
  exact ⟨small_le _ (by have := mem_len_cut ds none (some k); omega), h _ (.tup fun d q => (List.mem_append.mp q).elim (cut_fine e hd _ _ d) (hd d))⟩
end
def C_bent (n : Nat) : Ct := fun as S R => ∃ d, as = [.cel 0, .dat d] ∧ Nice n d ∧ n ≤ 40 ∧ WOk S ∧ ∀ e S', Fine (n + 9) e → WOk S' → R e S'
theorem bent_int (k : Nat) {i : Int} (hi : i.natAbs < 2 ^ 400) {S : SW} {R : PyData → SW → Prop} (hk : k + 1 ≤ 40) (w : WOk S) (h : ∀ e S', Fine (k + 1 + 9) e → WOk S' → R e S') : G_law_bent C_draw (C_bent k) C_oddF (ent N_law_bent [.cel 0, .dat (.int i)]) S { nx := fun _ S' => R .none S', rt := R } := by
  unfold G_law_bent
  walk_at "dx"
  refine ⟨9, rfl, by omega, by omega, w, fun r S1 r1 r2 w1 => ?_⟩
  walk_at "dx"
  split
  · rename_i c
    have c := of_decide_eq_true c
    refine ⟨.inl (.inl ⟨by omega, by omega⟩), by have := log_lt hi; omega, ?_⟩
    exact ix_any r1 (by show r < 6; omega) fun d hm => h _ _ (by
      simp only [List.mem_cons, List.not_mem_nil, or_false] at hm
      rcases hm with rfl | rfl | rfl | rfl | rfl | rfl
      · exact .int
      · exact .int
      · exact .int
      · exact .int
      · exact .bool
      · exact .str) w1
  · exact ⟨rfl, w1, fun d S' q w' => h _ _ (q.up (by omega)) w'⟩
theorem bent_str (k : Nat) {x : Str} {S : SW} {R : PyData → SW → Prop} (hk : k + 1 ≤ 40) (w : WOk S) (h : ∀ e S', Fine (k + 1 + 9) e → WOk S' → R e S') : G_law_bent C_draw (C_bent k) C_oddF (ent N_law_bent [.cel 0, .dat (.str x)]) S { nx := fun _ S' => R .none S', rt := R } := by
  unfold G_law_bent
  have c1 : ∀ (X : FE) (S : SW) (Rk : PyData → SW → Prop), Rk (.bool false) S → fAnd (fUn (fun x R => R (.bool (isiD "tuple" x))) (fVarB 1)) X [.cel 0, .dat (.str x), .un, .un] S Rk := fun X S Rk q => q
  refine w_ifS (c1 _ S) (fun e => by cases e) fun _ => ?_
  refine w_next ?_
  dsimp only
  refine at_draw rfl ⟨9, rfl, by omega, by omega, w, fun r S1 r1 r2 w1 => ?_⟩
  simp only [List.set_cons_succ, List.set_cons_zero]
  have c2 : ∀ (X : FE) (Rk : PyData → SW → Prop), Rk (.bool false) S1 → fAnd (fUn (fun x R => R (.bool (isiD "tuple" x))) (fVarB 1)) X [.cel 0, .dat (.str x), .un, .dat (.int r)] S1 Rk := fun X Rk q => q
  have c3 : ∀ (X : FE) (Rk : PyData → SW → Prop), Rk (.bool false) S1 → fAnd (fUn (fun x R => R (.bool (isiD "int" x))) (fVarB 1)) X [.cel 0, .dat (.str x), .un, .dat (.int r)] S1 Rk := fun X Rk q => q
  refine w_ifS (c2 _) (fun e => by cases e) fun _ => ?_
  refine w_next ?_
  dsimp only
  refine w_ifS (c3 _) (fun e => by cases e) fun _ => ?_
  refine w_next ?_
  dsimp only
  have x3 : C_oddF [.cel 0] S1 R := ⟨rfl, w1, fun d S' q w' => h _ _ (q.up (by omega)) w'⟩
  exact ret_of (call_wel rfl x3)
theorem bent_tup (k : Nat) {ds : List PyData} (sh : SeqAt.shaped (.tuple ds) = true) (hl : ds.length ≤ 20) (hd : ∀ d ∈ ds, Nice k d) {S : SW} {R : PyData → SW → Prop} (hk : k + 1 ≤ 40) (w : WOk S) (h : ∀ e S', Fine (k + 1 + 9) e → WOk S' → R e S') : G_law_bent C_draw (C_bent k) C_oddF (ent N_law_bent [.cel 0, .dat (.tuple ds)]) S { nx := fun _ S' => R .none S', rt := R } := by
  unfold G_law_bent
  have fd : ∀ d ∈ ds, Fine (k + 9) d := fun d q => (hd d q).fine.up (by omega)
  have tail : ∀ S, WOk S → (sSeq (sSet 3 (fCall C_draw (gWel 0 (gDat (fC (.int 9)) gaNil))))
  (sSeq (sIf (fAnd (fUn (fun x R => R (.bool (isiD "tuple" x))) (fVarB 1)) (fOp oLt (fVarB 3) (fC (.int 7))))
  (sRet (fOp oIx (fTup (fCons (fUn oList (fVarB 1)) (fCons (fSl (fVarB 1) fNoP (fP (fUn oNeg (fC (.int 1))))) (fCons (fOp oAddM (fVarB 1) (fSl (fVarB 1) (fP (fUn oNeg (fC (.int 1)))) fNoP)) (fCons (fUn oBack (fVarB 1)) (fCons (fSl (fVarB 1) (fP (fC (.int 1))) fNoP) (fCons (fOp oAddM (fSl (fVarB 1) fNoP (fP (fC (.int 1)))) (fVarB 1)) (fCons (fTup (fCons (fVar 1) fNil)) fNil)))))))) (fVarB 3)))
  sNext)
  (sSeq (sIf (fAnd (fUn (fun x R => R (.bool (isiD "int" x))) (fVarB 1)) (fOp oLt (fVarB 3) (fC (.int 6))))
  (sRet (fOp oIx (fTup (fCons (fOp oAddM (fVarB 1) (fC (.int 1))) (fCons (fOp oSubM (fC (.int 0)) (fVarB 1)) (fCons (fOp oMulM (fC (.int 2)) (fVarB 1)) (fCons (fOp oSubM (fVarB 1) (fC (.int 2))) (fCons (fOp oEq (fVarB 1) (fC (.int 1))) (fCons (fUn oStr (fVarB 1)) fNil))))))) (fVarB 3)))
  sNext)
  (sRet (fCall C_oddF (gWel 0 gaNil)))))) [.cel 0, .dat (.tuple ds), .un, .un] S { nx := fun _ S' => R .none S', rt := R } := by
    intro S w
    refine at_draw rfl ⟨9, rfl, by omega, by omega, w, fun r S1 r1 r2 w1 => ?_⟩
    simp only [List.set_cons_succ, List.set_cons_zero]
    have c2 : ∀ Rk : PyData → SW → Prop, Rk (.bool (decide (r < 7))) S1 → (fAnd (fUn (fun x R => R (.bool (isiD "tuple" x))) (fVarB 1)) (fOp oLt (fVarB 3) (fC (.int 7)))) [.cel 0, .dat (.tuple ds), .un, .dat (.int r)] S1 Rk := by
      intro Rk q
      walk_at "dx"
      exact q
    refine seq_if c2 ?_
    simp only [asB_bool]
    by_cases h7 : r < 7
    · rw [if_pos (decide_eq_true h7)]
      have x2 : (fOp oIx (fTup (fCons (fUn oList (fVarB 1)) (fCons (fSl (fVarB 1) fNoP (fP (fUn oNeg (fC (.int 1))))) (fCons (fOp oAddM (fVarB 1) (fSl (fVarB 1) (fP (fUn oNeg (fC (.int 1)))) fNoP)) (fCons (fUn oBack (fVarB 1)) (fCons (fSl (fVarB 1) (fP (fC (.int 1))) fNoP) (fCons (fOp oAddM (fSl (fVarB 1) fNoP (fP (fC (.int 1)))) (fVarB 1)) (fCons (fTup (fCons (fVar 1) fNil)) fNil)))))))) (fVarB 3)) [.cel 0, .dat (.tuple ds), .un, .dat (.int r)] S1 R := by
        exact ix_row (n := 7) (m := k + 1 + 9) (aS (aList (n := k + 9) rfl) (aS (aCutN (n := k + 9) rfl fd 1) (aS (aAddL (n := k + 9) rfl fd 1 (by omega)) (aS (aBack (n := k + 9) rfl fd) (aS (aCutF (n := k + 9) rfl fd 1) (aS (aAddF (n := k + 9) rfl fd 1 (by omega)) (aS (aT (n := k + 9) (aS (aV (m := k + 1) (.tup fun d q => (hd d q).fine) rfl (by omega)) aN)) aN))))))) rfl r1 (by omega) fun d q => h _ _ q w1
      exact ret_of x2
    · rw [if_neg (by simpa using h7)]
      have c3 : ∀ Rk : PyData → SW → Prop, Rk (.bool false) S1 → (fAnd (fUn (fun x R => R (.bool (isiD "int" x))) (fVarB 1)) (fOp oLt (fVarB 3) (fC (.int 6)))) [.cel 0, .dat (.tuple ds), .un, .dat (.int r)] S1 Rk := by
        intro Rk q
        walk_at "dx"
        exact q
      refine seq_if c3 ?_
      simp only [asB_bool]
      rw [if_neg Bool.false_ne_true]
      have x3 : C_oddF [.cel 0] S1 R := ⟨rfl, w1, fun d S' q w' => h _ _ (q.up (by omega)) w'⟩
      exact ret_of (call_wel rfl x3)
  have c1 : ∀ Rk : PyData → SW → Prop, (∀ S' b, WOk S' → (b = true → 0 < ds.length) → Rk (.bool b) S') → (fAnd (fUn (fun x R => R (.bool (isiD "tuple" x))) (fVarB 1)) (fAnd (fOp oNe (fVarB 1) (fTup fNil)) (fOp oGt (fCall C_draw (gWel 0 (gDat (fC (.int 5)) gaNil))) (fC (.int 0))))) [.cel 0, .dat (.tuple ds), .un, .un] S Rk := by
    intro Rk q
    walk_at "dx"
    refine (show SeqAt.shaped (.tuple ds) = true ∧ SeqAt.shaped (.tuple []) = true ∧ _ from ⟨sh, rfl, ?_⟩)
    cases ds with
    | nil => exact q S false w (by simp)
    | cons x r =>
      walk_at "dx"
      refine ⟨5, rfl, by omega, by omega, w, fun c S1 q1 q2 w1 => ?_⟩
      walk_at "dx"
      exact q _ _ w1 fun _ => by simp
  refine seq_if c1 fun S1 b w1 hb => ?_
  simp only [asB_bool]
  cases b
  · rw [if_neg Bool.false_ne_true]
    exact tail S1 w1
  · rw [if_pos rfl]
    have hl0 := hb rfl
    have x1 : (sSeq (sSet 2 (fCall C_draw (gWel 0 (gDat (fUn oLen (fVarB 1)) gaNil))))
  (sRet (fOp oAddM (fOp oAddM (fSl (fVarB 1) fNoP (fP (fVarB 2))) (fTup (fCons (fCall (C_bent k) (gWel 0 (gDat (fOp oIx (fVarB 1) (fVarB 2)) gaNil))) fNil))) (fSl (fVarB 1) (fP (fOp oAddM (fVarB 2) (fC (.int 1)))) fNoP)))) [.cel 0, .dat (.tuple ds), .un, .un] S1 { nx := fun _ S' => R .none S', rt := R } := by
      walk_at "dx"
      refine ⟨_, rfl, by omega, by omega, w1, fun a S2 a1 a2 w2 => ?_⟩
      walk_at "dx"
      refine ix_any a1 a2 fun d hd' => ?_
      refine ⟨d, rfl, hd d hd', by omega, w2, fun e S3 qe w3 => ?_⟩
      have l1 := mem_len_cut ds none (some a)
      have l2 := mem_len_cut ds (some (a + 1)) none
      walk_at "dx"
      refine ⟨small_le _ (by omega), small_le _ (by simp only [List.length_append, List.length_singleton]; omega), h _ _ (.tup fun x q => ?_) w3⟩
      rcases List.mem_append.mp q with q | q
      · rcases List.mem_append.mp q with q | q
        · exact (show Fine (k + 9) x from cut_fine (ρ := [.dat (.tuple ds)]) (i := 0) rfl fd _ _ x q)
        · rw [List.mem_singleton.mp q]
          exact qe
      · exact (show Fine (k + 9) x from cut_fine (ρ := [.dat (.tuple ds)]) (i := 0) rfl fd _ _ x q)
    exact x1
theorem c_bent (k : Nat) : ∀ as S R, as.length = 2 → C_bent (k + 1) as S R → G_law_bent C_draw (C_bent k) C_oddF (ent N_law_bent as) S { nx := fun _ S' => R .none S', rt := R } := by
  rintro as S R _ ⟨d, rfl, hn, hk, w, h⟩
  have sh := hn.shaped (by omega)
  cases hn with
  | int hi => exact bent_int k hi hk w h
  | str hx => exact bent_str k hk w h
  | tup hl hd => exact bent_tup k sh hl hd hk w h
end K12

set_option maxHeartbeats 1000000
namespace K12
open PySem L2 DL
local macro_rules | `(tactic| walk_at "dw") => `(tactic| try simp -implicitDefEqProofs only [sSeq, sIf, sRet, sRetN, sRetV, sSet, sNext, sPar, sPar3, sAsg, sDrop, sOwn, sApp, sIns, sPut, sNever, sFrz, sParO, fOr, fAnd, fNot, fIf, fOp, fUn, fVar, fVarB, fC, fCons, fNil, fTup, fLst, fSl, fP, fNoP, fCall, fCallK, gDat, gaNil, gWel, fChain, fWix, sWput, sWdiv, gNm, gTp, gsNil, gsCons, fiL, fiT, fiE, fiR1, fiR2, sFor, rowD, ent, asB_bool, asI_int, if_tt, if_ff,
  List.getElem?_cons_zero, List.getElem?_cons_succ, List.set_cons_zero, List.set_cons_succ, List.cons_append, List.nil_append, List.length_cons, List.length_nil, List.replicate, Nat.zero_add, Nat.reduceAdd, Nat.reduceSub,
  isi_tup, oReprG_bool, oGtD_int, oLeD_int, oGeD_int, oMixD_int, oMixD_tup, oMixD_bi, oMixD_ib, oMixD_bb, oStrD_int, oListD_tup, oListD_lst, oTupleD_lst, oTupleD_tup, oBackD_tup, oBackD_lst, oNegD_int, isi_strD, isi_intD, isi_boolD, isi_listD, isTup.eq_1, isTup.eq_2, isStr.eq_1, isStr.eq_2, isNum.eq_1, isNum.eq_2, Bool.not_true, Bool.not_false, oIx_tup, oIx_lst, oEq_int, oEq_str, oEq_bool, oEq_nil, oNe_int, oNe_str, oNe_bool, oLen_tup, oLen_lst, oI_int, oIC_int, oAdd_int, oAdd_tup, oAdd_lst, oLt_int, oInt_int, oInt_bool, oIn_tup, oIn_lst, oSl_tup, oSl_lst,
  atI_zero, atI_one, atI_two, atI_three, atI_four, cut_from1, true_and, Bool.false_eq_true, if_false, if_true])
def C_due : Ct := fun as S R => ∃ d, as = [.dat d] ∧ Fine 30 d ∧ R (.bool (figB d)) S
theorem c_due : ∀ as S R, as.length = 1 → C_due as S R → G_law_is_due (C_shape 30) (ent N_law_is_due as) S { nx := fun _ S' => R .none S', rt := R } := by
  rintro as S R _ ⟨d, rfl, hf, h⟩
  unfold G_law_is_due
  refine w_asg (w_call1 rfl ⟨d, rfl, hf, ?_⟩)
  have e := fig_due (n := 30) (d := d) (by decide)
  rw [← e] at h
  generalize shp 30 d = p at *
  obtain ⟨a, b⟩ := p
  refine ⟨rfl, rfl, ?_⟩
  walk_at "dw"
  have e1 : decide ((0 : Int) < (a : Int)) = decide (0 < a) := decide_eq_decide.mpr (by omega)
  have e2 : decide ((a : Int) < 7) = decide (a < 7) := decide_eq_decide.mpr (by omega)
  have e3 : decide ((b : Int) < 25) = decide (b < 25) := decide_eq_decide.mpr (by omega)
  dsimp only at h ⊢
  rw [e1, e2, e3]
  by_cases c1 : 0 < a
  · by_cases c2 : a < 7
    · simp only [c1, c2, decide_true, Bool.true_and, if_true] at h ⊢
      exact h
    · simp only [c1, c2, decide_true, decide_false, Bool.true_and, Bool.and_false, Bool.false_and, if_true, Bool.false_eq_true, if_false] at h ⊢
      exact h
  · simp only [c1, decide_false, Bool.false_and, Bool.false_eq_true, if_false] at h ⊢
    exact h
/-! points, rows -/
theorem nice_qd {p : Int × Int} (h : Bq 28 p) : Nice 2 (qd p) := .tup (by simp [qd]) fun d hd => by
  have : 2 ^ 28 ≤ 2 ^ 400 := pow_le (by decide)
  simp only [qd, List.mem_cons, List.not_mem_nil, or_false] at hd
  rcases hd with rfl | rfl
  · exact .int (Nat.lt_of_lt_of_le h.2.1 this)
  · exact .int (Nat.lt_of_lt_of_le h.2.2 this)
theorem nice_pd {z : P2} (h : Bp 28 z) : Nice 3 (pd z) := .tup (by simp [pd]) fun d hd => by
  simp only [pd, List.mem_cons, List.not_mem_nil, or_false] at hd
  rcases hd with rfl | rfl
  · exact nice_qd h.1
  · exact nice_qd h.2
def C_row : Ct := fun as S R => ∃ (f : Fm) (m : Nat) (cl : Bool), as = [.cel 0, .dat (fmd f), .dat (.int m), .dat (.bool cl)] ∧ FmOk f ∧ (1 ≤ m ∧ m ≤ 13) ∧ WOk S ∧ ∀ ps S', ps.length = m → (∀ d ∈ ps, Nice 3 d) → WOk S' → R (.tuple ps) S'
/-- numbers from 0 on, fewer than n -/
def Nums (n : Int) (xs : List PyData) : Prop := ∀ d ∈ xs, ∃ i : Int, d = .int i ∧ 0 ≤ i ∧ i < n
theorem num_last {n : Int} {xs : List PyData} (h : Nums n xs) (h0 : 0 < xs.length) : ∃ i : Int, atI xs (-1) = some (.int i) ∧ 0 ≤ i ∧ i < n := by
  cases xs with
  | nil => cases h0
  | cons x xs =>
    obtain ⟨i, e, a, b⟩ := h _ (List.getLast_mem (l := x :: xs) (by simp))
    exact ⟨i, by rw [atI_last, e], a, b⟩
theorem num_first {n : Int} {xs : List PyData} (h : Nums n xs) (h0 : 0 < xs.length) : ∃ i : Int, atI xs 0 = some (.int i) ∧ 0 ≤ i ∧ i < n := by
  cases xs with
  | nil => cases h0
  | cons x xs =>
    obtain ⟨i, rfl, a, b⟩ := h x (by simp)
    exact ⟨i, atI_zero _ _, a, b⟩
def shutOk (sh : List PyData) : Prop := (∃ a : Int, sh = [.int a]) ∨ ∃ a b : Int, sh = [.int a, .int b]
theorem row_pick {n : Int} {m : FE} {sh : List PyData} {ρ : Rho} {S : SW} {Q : PyData → SW → Prop} (hs : shutOk sh) (n0 : 9 ≤ n) (n1 : n ≤ 25) (hm : ∀ Q : PyData → SW → Prop, Q (.int n) S → m ρ S Q) (h0 : ρ[0]? = some (.cel 0)) (h7 : ρ[7]? = some (.dat (.list sh))) (h8 : ρ[8]? = some .un) (w : WOk S)
    (h : ∀ (i : Int) S', 0 ≤ i → i < n → WOk S' → Q (.int i) S') :
    fCall C_one (gWel 0 (gDat (fLc (fiR1 m) [8] (gNm 8) (fOp (oIn true) (fVarB 8) (fVarB 7)) (fVar 8)) gaNil)) ρ S Q := by
  have l8 : 8 < ρ.length := by
    rcases Nat.lt_or_ge 8 ρ.length with z | z
    · exact z
    · rw [List.getElem?_eq_none z] at h8; cases h8
  refine w_welF h0 (fLc_keep (ds := (List.range n.toNat).map fun k => .int (k : Nat)) (f := fun d => !(sh.any fun z => PyData.eqv z d)) (g := id) (fun T t => ?_) (by simp; omega) (own_un h8) (fun d hd R r => ?_) (fun d hd _ R r => ?_) ?_)
  · unfold fiR1
    exact hm _ ⟨by omega, by omega, t⟩
  · have e7 : ((rwipe ρ [8]).set 8 (.dat d))[7]? = some (.dat (.list sh)) := by
      rw [List.getElem?_set_ne (by decide), rwipe_out (by decide)]
      exact h7
    refine w_op (w_varB (d := d) (List.getElem?_set_self (by rw [rwipe_len]; exact l8)) (w_varB e7 ?_))
    obtain ⟨i, _, rfl⟩ := List.mem_map.mp hd
    rcases hs with ⟨a, rfl⟩ | ⟨a, b, rfl⟩
    · exact ⟨rfl, rfl, r⟩
    · exact ⟨rfl, rfl, r⟩
  · exact w_var (List.getElem?_set_self (by rw [rwipe_len]; exact l8)) r
  · rw [List.map_id]
    have mem : ∀ k : Nat, k < 3 → (sh.any fun z => PyData.eqv z (.int k)) = false → 0 < (((List.range n.toNat).map fun k => PyData.int (k : Nat)).filter fun d => !(sh.any fun z => PyData.eqv z d)).length := by
      intro k hk e
      refine List.length_pos_iff.mpr (List.ne_nil_of_mem (a := .int k) (List.mem_filter.mpr ⟨List.mem_map.mpr ⟨k, by simp; omega, rfl⟩, ?_⟩))
      rw [e]
      rfl
    refine ⟨_, .inr rfl, ?_, ?_, w, fun d S' hd w' => ?_⟩
    · have key : ∃ k : Nat, k < 3 ∧ (sh.any fun z => PyData.eqv z (.int k)) = false := by
        rcases hs with ⟨a, rfl⟩ | ⟨a, b, rfl⟩
        · by_cases c : a = 0
          · exact ⟨1, by omega, by subst c; rfl⟩
          · exact ⟨0, by omega, by simp [PyData.eqv, c]⟩
        · have : (a ≠ 0 ∧ b ≠ 0) ∨ (a ≠ 1 ∧ b ≠ 1) ∨ (a ≠ 2 ∧ b ≠ 2) := by omega
          rcases this with ⟨c, e⟩ | ⟨c, e⟩ | ⟨c, e⟩
          · exact ⟨0, by omega, by simp [PyData.eqv, c, e]⟩
          · exact ⟨1, by omega, by simp [PyData.eqv, c, e]⟩
          · exact ⟨2, by omega, by simp [PyData.eqv, c, e]⟩
      obtain ⟨k, hk, e⟩ := key
      exact mem k hk e
    · refine Nat.lt_of_le_of_lt (List.length_filter_le _ _) ?_
      simp
      omega
    · obtain ⟨i, hi, rfl⟩ := List.mem_map.mp (List.mem_filter.mp hd).1
      have hi := List.mem_range.mp hi
      exact h _ _ (by omega) (by omega) w'
end K12

namespace K12
open PySem L2 DL
local macro_rules | `(tactic| walk_at "dw") => `(tactic| try simp -implicitDefEqProofs only [sSeq, sIf, sRet, sRetN, sRetV, sSet, sNext, sPar, sPar3, sAsg, sDrop, sOwn, sApp, sIns, sPut, sNever, sFrz, sParO, fOr, fAnd, fNot, fIf, fOp, fUn, fVar, fVarB, fC, fCons, fNil, fTup, fLst, fSl, fP, fNoP, fCall, fCallK, gDat, gaNil, gWel, fChain, fWix, sWput, sWdiv, gNm, gTp, gsNil, gsCons, fiL, fiT, fiE, fiR1, fiR2, sFor, rowD, ent, asB_bool, asI_int, if_tt, if_ff,
  List.getElem?_cons_zero, List.getElem?_cons_succ, List.set_cons_zero, List.set_cons_succ, List.cons_append, List.nil_append, List.length_cons, List.length_nil, List.replicate, Nat.zero_add, Nat.reduceAdd, Nat.reduceSub,
  isi_tup, oReprG_bool, oGtD_int, oLeD_int, oGeD_int, oMixD_int, oMixD_tup, oMixD_bi, oMixD_ib, oMixD_bb, oStrD_int, oListD_tup, oListD_lst, oTupleD_lst, oTupleD_tup, oBackD_tup, oBackD_lst, oNegD_int, isi_strD, isi_intD, isi_boolD, isi_listD, isTup.eq_1, isTup.eq_2, isStr.eq_1, isStr.eq_2, isNum.eq_1, isNum.eq_2, Bool.not_true, Bool.not_false, oIx_tup, oIx_lst, oEq_int, oEq_str, oEq_bool, oEq_nil, oNe_int, oNe_str, oNe_bool, oLen_tup, oLen_lst, oI_int, oIC_int, oAdd_int, oAdd_tup, oAdd_lst, oLt_int, oInt_int, oInt_bool, oIn_tup, oIn_lst, oSl_tup, oSl_lst,
  atI_zero, atI_one, atI_two, atI_three, atI_four, cut_from1, true_and, Bool.false_eq_true, if_false, if_true])
theorem shut_any {n : Int} {f : Fm} {m : Nat} {cl : Bool} {wd i : Int} {xs : List PyData} {x7 x8 : Sl} {S : SW} {Q : PyData → SW → Prop} (hx : Nums n xs) (h0 : 0 < xs.length) (h : ∀ sh, shutOk sh → Q (.list sh) S) :
    fIf (fAnd (fVarB 3) (fOp oEq (fVarB 6) (fOp (oI fun i j => .int (i - j)) (fVarB 2) (fC (.int 1))))) (fLst (fCons (fOp oIx (fVarB 5) (fUn oNeg (fC (.int 1)))) (fCons (fOp oIx (fVarB 5) (fC (.int 0))) fNil))) (fLst (fCons (fOp oIx (fVarB 5) (fUn oNeg (fC (.int 1)))) fNil))
      [.cel 0, .dat (fmd f), .dat (.int m), .dat (.bool cl), .dat (.int wd), .own xs, .dat (.int i), x7, x8] S Q := by
  obtain ⟨a, ea, _⟩ := num_last hx h0
  obtain ⟨b, eb, _⟩ := num_first hx h0
  have two : fLst (fCons (fOp oIx (fVarB 5) (fUn oNeg (fC (.int 1)))) (fCons (fOp oIx (fVarB 5) (fC (.int 0))) fNil)) [.cel 0, .dat (fmd f), .dat (.int m), .dat (.bool cl), .dat (.int wd), .own xs, .dat (.int i), x7, x8] S Q := by
    walk_at "dw"
    rw [ea, eb]
    exact h _ (.inr ⟨a, b, rfl⟩)
  have one : fLst (fCons (fOp oIx (fVarB 5) (fUn oNeg (fC (.int 1)))) fNil) [.cel 0, .dat (fmd f), .dat (.int m), .dat (.bool cl), .dat (.int wd), .own xs, .dat (.int i), x7, x8] S Q := by
    walk_at "dw"
    rw [ea]
    exact h _ (.inl ⟨a, rfl⟩)
  have test : ∀ Rk : PyData → SW → Prop, (∀ b, Rk (.bool b) S) → fAnd (fVarB 3) (fOp oEq (fVarB 6) (fOp (oI fun i j => .int (i - j)) (fVarB 2) (fC (.int 1)))) [.cel 0, .dat (fmd f), .dat (.int m), .dat (.bool cl), .dat (.int wd), .own xs, .dat (.int i), x7, x8] S Rk := by
    intro Rk q
    walk_at "dw"
    cases cl
    · exact q _
    · exact q _
  refine test _ fun b => ?_
  rw [asB_bool]
  cases b
  · exact one
  · exact two
theorem w_r2 {f : FE} {m : Int} {ρ : Rho} {S : SW} {T : List PyData → SW → Prop} (hm : ∀ Q : PyData → SW → Prop, Q (.int m) S → f ρ S Q) (h0 : 0 ≤ m) (h1 : m ≤ 1000) (h : T ((List.range (m - 1).toNat).map fun k => .int (1 + (k : Nat))) S) : fiR2 (fC (.int 1)) f ρ S T :=
  hm _ ⟨by omega, h⟩
theorem w_go1 {i : Nat} {gb : FS} {d : PyData} {ds : List PyData} {ρ : Rho} {S : SW} {B : Out} (h : gb (ρ.set i (.dat d)) S { nx := fun ρ2 S2 => forGo (gNm i) gb ds ρ2 S2 B, rt := B.rt, rn := B.rn, bk := B.nx, ct := fun ρ2 S2 => forGo (gNm i) gb ds ρ2 S2 B }) : forGo (gNm i) gb (d :: ds) ρ S B := h
theorem c_row : ∀ as S R, as.length = 4 → C_row as S R → G_law_row C_draw C_one C_grid (ent N_law_row as) S { nx := fun _ S' => R .none S', rt := R } := by
  rintro as S R _ ⟨f, m, cl, rfl, hf, hm, w, h⟩
  have hw := hf.2.2.2.2
  unfold G_law_row
  refine w_set (w_op (w_varB (d := fmd f) rfl (w_c' ?_)))
  have e4 : ∀ (R : PyData → Prop), R (.int f.w) → oIx (fmd f) (.int 4) R := fun R r => r
  refine e4 _ ?_
  have w3 : f.w = 3 ∨ f.w = 4 ∨ f.w = 5 := by omega
  have cm : CMulA f.w f.w := cmul (j := 3) (k := 3) (by omega) (by omega) (by omega)
  have nn : 9 ≤ f.w * f.w ∧ f.w * f.w ≤ 25 := by rcases w3 with e | e | e <;> rw [e] <;> decide
  have dv : ∀ i : Int, 0 ≤ i → i < f.w * f.w → 0 ≤ i / f.w ∧ i / f.w < 1000 ∧ 0 ≤ i % f.w ∧ i % f.w < 1000 := by
    intro i i0 i1
    rcases w3 with e | e | e <;> rw [e] at i1 ⊢ <;> omega
  have mulE : ∀ (ρ : Rho) (S : SW) (Q : PyData → SW → Prop), ρ[4]? = some (.dat (.int f.w)) → Q (.int (f.w * f.w)) S → fOp (oIC CMulA fun i j => .int (i * j)) (fVarB 4) (fVarB 4) ρ S Q := fun ρ S Q e q => w_op (w_varB e (w_varB e (by rw [oIC_int]; exact ⟨cm, q⟩)))
  generalize hn : f.w * f.w = n at *
  refine w_own (g := fCons _ fNil) (w_welF rfl (mulE _ _ _ rfl ⟨n, rfl, by omega, by omega, w, fun r S1 r1 r2 w1 => ?_⟩))
  refine w_for (w_r2 (m := m) (fun Q q => w_varB rfl q) (by omega) (by omega) ?_)
  have go : ∀ (ts : List PyData) (x6 x7 : Sl) (xs : List PyData) (S : SW) (B : Out), (∀ t ∈ ts, ∃ i : Int, t = .int i) → Nums n xs → 0 < xs.length → xs.length + ts.length ≤ 13 → WOk S →
      (∀ x6 x7 xs' S', Nums n xs' → xs'.length = xs.length + ts.length → WOk S' → B.nx [.cel 0, .dat (fmd f), .dat (.int m), .dat (.bool cl), .dat (.int f.w), .own xs', x6, x7, .un] S') →
      forGo (gNm 6) (sSeq (sSet 7 (fIf (fAnd (fVarB 3) (fOp oEq (fVarB 6) (fOp (oI fun i j => .int (i - j)) (fVarB 2) (fC (.int 1))))) (fLst (fCons (fOp oIx (fVarB 5) (fUn oNeg (fC (.int 1)))) (fCons (fOp oIx (fVarB 5) (fC (.int 0))) fNil))) (fLst (fCons (fOp oIx (fVarB 5) (fUn oNeg (fC (.int 1)))) fNil))))
        (sApp 5 (fCall C_one (gWel 0 (gDat (fLc (fiR1 (fOp (oIC CMulA fun i j => .int (i * j)) (fVarB 4) (fVarB 4))) [8] (gNm 8) (fOp (oIn true) (fVarB 8) (fVarB 7)) (fVar 8)) gaNil)))))
        ts [.cel 0, .dat (fmd f), .dat (.int m), .dat (.bool cl), .dat (.int f.w), .own xs, x6, x7, .un] S B := by
    intro ts
    induction ts with
    | nil =>
      intro x6 x7 xs S B _ hx _ _ w hB
      exact hB x6 x7 xs S hx rfl w
    | cons t ts ih =>
      intro x6 x7 xs S B ht hx hx0 hl w hB
      obtain ⟨i, rfl⟩ := ht t (by simp)
      rw [List.length_cons] at hl
      refine (show forGo _ _ _ _ _ _ from w_go1 (w_set (shut_any (i := i) hx hx0 fun sh hs => ?_)))
      refine w_app (xs := xs) rfl (by omega) (row_pick hs nn.1 nn.2 (fun Q q => mulE _ _ _ rfl q) rfl rfl rfl w fun j S' j0 j1 w' => ?_)
      refine ih _ _ (xs ++ [.int j]) S' B (fun t h => ht t (by simp [h])) (fun d hd => ?_) (by simp) (by simp; omega) w' fun x6 x7 xs' S' hx' hl' w'' => hB x6 x7 xs' S' hx' (by rw [hl']; simp; omega) w''
      rcases List.mem_append.mp hd with hd | hd
      · exact hx d hd
      · rw [List.mem_singleton.mp hd]
        exact ⟨j, rfl, j0, j1⟩
  refine go _ _ _ [.int r] S1 _ (fun t ht => ?_) (fun d hd => ?_) (by simp) ?_ w1 fun x6 x7 xs S2 hx hl w2 => ?_
  · obtain ⟨i, _, rfl⟩ := List.mem_map.mp ht
    exact ⟨_, rfl⟩
  · rw [List.mem_singleton.mp hd]
    exact ⟨r, rfl, r1, r2⟩
  · simp
    omega
  · have hl : xs.length = m := by
      rw [hl]
      simp
      omega
    have key : ∀ T : List PyData → SW → Prop, (∀ ps, ps.length = xs.length → (∀ d ∈ ps, Nice 3 d) → T ps S2) → lcGo (gNm 8) (fC (.bool true)) (fCall C_grid (gDat (fVar 1) (gDat (fOp (oIC CDivW fun i j => .int (i / j)) (fVarB 8) (fVarB 4)) (gDat (fOp (oIC (fun _ j => 0 < j) fun i j => .int (i % j)) (fUn oInt (fVarB 8)) (fVarB 4)) (gDat (fC (.int 1)) gaNil))))) (rwipe [.cel 0, .dat (fmd f), .dat (.int m), .dat (.bool cl), .dat (.int f.w), .own xs, x6, x7, .un] [8]) xs [] S2 T := by
      intro T hT
      have go2 : ∀ (ds acc : List PyData), Nums n ds → (∀ d ∈ acc, Nice 3 d) → acc.length + ds.length = xs.length → lcGo (gNm 8) (fC (.bool true)) (fCall C_grid (gDat (fVar 1) (gDat (fOp (oIC CDivW fun i j => .int (i / j)) (fVarB 8) (fVarB 4)) (gDat (fOp (oIC (fun _ j => 0 < j) fun i j => .int (i % j)) (fUn oInt (fVarB 8)) (fVarB 4)) (gDat (fC (.int 1)) gaNil))))) (rwipe [.cel 0, .dat (fmd f), .dat (.int m), .dat (.bool cl), .dat (.int f.w), .own xs, x6, x7, .un] [8]) ds acc S2 T := by
        intro ds
        induction ds with
        | nil => exact fun acc _ ha hl => hT acc (by simpa using hl) ha
        | cons d ds ih =>
          intro acc hd ha hl
          obtain ⟨i, rfl, i0, i1⟩ := hd d (by simp)
          obtain ⟨d1, d2, d3, d4⟩ := dv i i0 i1
          simp only [lcGo, rwipe]
          walk_at "dw"
          refine ⟨⟨by omega, ?_⟩, by omega, f, i / f.w, i % f.w, 1, rfl, hf, by omega, by omega, by omega, ?_⟩
          · have : f.w.natAbs < 2 ^ 3 := by omega
            have := log_lt this
            omega
          · refine ih _ (fun x hx => hd x (by simp [hx])) (fun x hx => ?_) (by simp at hl ⊢; omega)
            rcases List.mem_append.mp hx with hx | hx
            · exact ha x hx
            · rw [List.mem_singleton.mp hx]
              exact nice_pd (gpt_ok hf (by omega) (by omega) (by omega)).2
      exact go2 xs [] hx (by simp) (by simp)
    dsimp only
    refine w_ret (w_un (w_lc (w_fiL (w_varO rfl ?_))))
    refine ⟨own_un rfl, small_leD _ (by omega), key _ fun ps hps hn => ?_⟩
    exact h ps S2 (by omega) hn w2
end K12

namespace K12
open PySem L2 DL
local macro_rules | `(tactic| walk_at "dw") => `(tactic| try simp -implicitDefEqProofs only [sSeq, sIf, sRet, sRetN, sRetV, sSet, sNext, sPar, sPar3, sAsg, sDrop, sOwn, sApp, sIns, sPut, sNever, sFrz, sParO, fOr, fAnd, fNot, fIf, fOp, fUn, fVar, fVarB, fC, fCons, fNil, fTup, fLst, fSl, fP, fNoP, fCall, fCallK, gDat, gaNil, gWel, fChain, fWix, sWput, sWdiv, gNm, gTp, gsNil, gsCons, fiL, fiT, fiE, fiR1, fiR2, sFor, rowD, ent, asB_bool, asI_int, if_tt, if_ff,
  List.getElem?_cons_zero, List.getElem?_cons_succ, List.set_cons_zero, List.set_cons_succ, List.cons_append, List.nil_append, List.length_cons, List.length_nil, List.replicate, Nat.zero_add, Nat.reduceAdd, Nat.reduceSub,
  isi_tup, oReprG_bool, oGtD_int, oLeD_int, oGeD_int, oMixD_int, oMixD_tup, oMixD_bi, oMixD_ib, oMixD_bb, oStrD_int, oListD_tup, oListD_lst, oTupleD_lst, oTupleD_tup, oBackD_tup, oBackD_lst, oNegD_int, isi_strD, isi_intD, isi_boolD, isi_listD, isTup.eq_1, isTup.eq_2, isStr.eq_1, isStr.eq_2, isNum.eq_1, isNum.eq_2, Bool.not_true, Bool.not_false, oIx_tup, oIx_lst, oEq_int, oEq_str, oEq_bool, oEq_nil, oNe_int, oNe_str, oNe_bool, oLen_tup, oLen_lst, oI_int, oIC_int, oAdd_int, oAdd_tup, oAdd_lst, oLt_int, oInt_int, oInt_bool, oIn_tup, oIn_lst, oSl_tup, oSl_lst,
  atI_zero, atI_one, atI_two, atI_three, atI_four, cut_from1, true_and, Bool.false_eq_true, if_false, if_true])
def C_box : Ct := fun as S R => ∃ f, as = [.cel 0, .dat (fmd f)] ∧ FmOk f ∧ WOk S ∧ ∀ ps S', ps.length = 4 → (∀ d ∈ ps, Nice 3 d) → WOk S' → R (.tuple ps) S'
theorem c_box : ∀ as S R, as.length = 2 → C_box as S R → G_law_box C_draw C_grid (ent N_law_box as) S { nx := fun _ S' => R .none S', rt := R } := by
  rintro as S R _ ⟨f, rfl, hf, w, h⟩
  have hw := hf.2.2.2.2
  have gn : ∀ i j : Int, 0 ≤ i → i ≤ 20 → 0 ≤ j → j ≤ 20 → Nice 3 (pd (gpt f i j 1)) := fun i j a b c d => nice_pd (gpt_ok hf (by omega) (by omega) (by omega)).2
  have e4 : ∀ (R : PyData → Prop), oIx (fmd f) (.int 4) R = R (.int f.w) := fun R => rfl
  unfold G_law_box
  simp only [fmd]
  walk_at "dw"
  refine ⟨f.w - 1, rfl, by omega, by omega, w, fun i S1 i0 i1 w1 => ?_⟩
  walk_at "dw"
  refine ⟨f.w - 1, rfl, by omega, by omega, w1, fun j S2 j0 j1 w2 => ?_⟩
  walk_at "dw"
  refine ⟨f.w - 1 - i, rfl, by omega, by omega, w2, fun k S3 k0 k1 w3 => ?_⟩
  walk_at "dw"
  refine ⟨f.w - 1 - j, rfl, by omega, by omega, w3, fun l S4 l0 l1 w4 => ?_⟩
  walk_at "dw"
  refine ⟨f, i, j, 1, rfl, hf, by omega, by omega, by omega, ?_⟩
  refine ⟨f, i + 1 + k, j, 1, rfl, hf, by omega, by omega, by omega, ?_⟩
  refine ⟨f, i + 1 + k, j + 1 + l, 1, rfl, hf, by omega, by omega, by omega, ?_⟩
  refine ⟨f, i, j + 1 + l, 1, rfl, hf, by omega, by omega, by omega, ?_⟩
  refine ⟨3, rfl, by omega, by omega, w4, fun c S5 c0 c1 w5 => ?_⟩
  walk_at "dw"
  have all4 : ∀ d ∈ [pd (gpt f i j 1), pd (gpt f (i + 1 + k) j 1), pd (gpt f (i + 1 + k) (j + 1 + l) 1), pd (gpt f i (j + 1 + l) 1)], Nice 3 d := by
    intro d hd
    simp only [List.mem_cons, List.not_mem_nil, or_false] at hd
    rcases hd with rfl | rfl | rfl | rfl
    · exact gn _ _ (by omega) (by omega) (by omega) (by omega)
    · exact gn _ _ (by omega) (by omega) (by omega) (by omega)
    · exact gn _ _ (by omega) (by omega) (by omega) (by omega)
    · exact gn _ _ (by omega) (by omega) (by omega) (by omega)
  split
  · exact h _ S5 rfl all4 w5
  · exact h _ S5 rfl (fun d hd => all4 d (List.mem_reverse.mp hd)) w5
/-! two cells -/
theorem wok1 {S : SW} (w : WOk S) : ∃ s, S = [s] := by
  obtain ⟨a, b, c, rfl, _⟩ := w
  exact ⟨_, rfl⟩
section
variable {ρ : Rho} {s r : Cell} {Q : PyData → SW → Prop}
theorem cs_f {C : Ct} {f : FE} {d : PyData} (h0 : ρ[0]? = some (.cel 0)) (hf : ∀ Q : PyData → SW → Prop, Q d [s, r] → f ρ [s, r] Q) (h : C [.cel 0, .dat d] [s] fun e S2 => Q e (putS [0] [s, r] S2)) : fCallS [0] C (gWel 0 (gDat f gaNil)) ρ [s, r] Q := by
  unfold fCallS gWel
  rw [h0]
  refine hf _ ?_
  exact ⟨⟨by simp, by simp, by simp⟩, h⟩
theorem cs_draw {n : Int} {f : FE} (h0 : ρ[0]? = some (.cel 0)) (hf : ∀ Q : PyData → SW → Prop, Q (.int n) [s, r] → f ρ [s, r] Q) (n0 : 0 < n) (n1 : n < 100000000) (w : WOk [s]) (h : ∀ v s', 0 ≤ v → v < n → WOk [s'] → Q (.int v) [s', r]) : fCallS [0] C_draw (gWel 0 (gDat f gaNil)) ρ [s, r] Q :=
  cs_f h0 hf ⟨n, rfl, n0, n1, w, fun v S' v0 v1 w' => by
    obtain ⟨s', rfl⟩ := wok1 w'
    exact h v s' v0 v1 w'⟩
theorem cs_one {ds : List PyData} {f : FE} (h0 : ρ[0]? = some (.cel 0)) (hf : ∀ Q : PyData → SW → Prop, Q (.tuple ds) [s, r] → f ρ [s, r] Q) (n0 : 0 < ds.length) (n1 : ds.length < 1000) (w : WOk [s]) (h : ∀ d s', d ∈ ds → WOk [s'] → Q d [s', r]) : fCallS [0] C_one (gWel 0 (gDat f gaNil)) ρ [s, r] Q :=
  cs_f h0 hf ⟨ds, .inl rfl, n0, by omega, w, fun v S' v0 w' => by
    obtain ⟨s', rfl⟩ := wok1 w'
    exact h v s' v0 w'⟩
end
end K12

namespace K12
open PySem L2 DL
theorem putS_one {s r s' : Cell} : putS [0] [s, r] [s'] = [s', r] := rfl
theorem ixN_10 : ixN 1 (0 : Int) = some 0 := by decide
theorem putS_two {s s' r' : Cell} : putS [0] [s] [s', r'] = [s'] := rfl
local macro_rules | `(tactic| walk_at "dw") => `(tactic| try simp -implicitDefEqProofs only [fCallS, fCallL, gWelN, gDatN, gLast, putS_one, putS_two, ixN_10, sSeq, sIf, sRet, sRetN, sRetV, sSet, sNext, sPar, sPar3, sAsg, sDrop, sOwn, sApp, sIns, sPut, sNever, sFrz, sParO, fOr, fAnd, fNot, fIf, fOp, fUn, fVar, fVarB, fC, fCons, fNil, fTup, fLst, fSl, fP, fNoP, fCall, fCallK, gDat, gaNil, gWel, fChain, fWix, sWput, sWdiv, gNm, gTp, gsNil, gsCons, fiL, fiT, fiE, fiR1, fiR2, sFor, rowD, ent, asB_bool, asI_int, if_tt, if_ff,
  List.getElem?_cons_zero, List.getElem?_cons_succ, List.set_cons_zero, List.set_cons_succ, List.cons_append, List.nil_append, List.length_cons, List.length_nil, List.replicate, Nat.zero_add, Nat.reduceAdd, Nat.reduceSub,
  isi_tup, oReprG_bool, oGtD_int, oLeD_int, oGeD_int, oMixD_int, oMixD_tup, oMixD_bi, oMixD_ib, oMixD_bb, oStrD_int, oListD_tup, oListD_lst, oTupleD_lst, oTupleD_tup, oBackD_tup, oBackD_lst, oNegD_int, isi_strD, isi_intD, isi_boolD, isi_listD, isTup.eq_1, isTup.eq_2, isStr.eq_1, isStr.eq_2, isNum.eq_1, isNum.eq_2, Bool.not_true, Bool.not_false, oIx_tup, oIx_lst, oEq_int, oEq_str, oEq_bool, oEq_nil, oNe_int, oNe_str, oNe_bool, oLen_tup, oLen_lst, oI_int, oIC_int, oAdd_int, oAdd_tup, oAdd_lst, oLt_int, oInt_int, oInt_bool, oIn_tup, oIn_lst, oSl_tup, oSl_lst,
  atI_zero, atI_one, atI_two, atI_three, atI_four, cut_from1, true_and, Bool.false_eq_true, if_false, if_true])
def isWd (d : PyData) : Prop := ∃ x, d = .str x ∧ PyData.canLay0 (.str x) = true
theorem isWd.nice {n : Nat} {d : PyData} (h : isWd d) : Nice (n + 1) d := by
  obtain ⟨x, rfl, e⟩ := h
  exact .str e
theorem sel2 {s r : Cell} {d : PyData} : selOk [0] [s, r] [.cel 0, .dat d] := ⟨by simp, by simp, by simp⟩
theorem nice2 {n : Nat} {a b : PyData} (ha : Nice n a) (hb : Nice n b) : Nice (n + 1) (.tuple [a, b]) := .tup (by simp) fun d hd => by
  simp only [List.mem_cons, List.not_mem_nil, or_false] at hd
  rcases hd with rfl | rfl
  · exact ha
  · exact hb
theorem nice3 {n : Nat} {a b c : PyData} (ha : Nice n a) (hb : Nice n b) (hc : Nice n c) : Nice (n + 1) (.tuple [a, b, c]) := .tup (by simp) fun d hd => by
  simp only [List.mem_cons, List.not_mem_nil, or_false] at hd
  rcases hd with rfl | rfl | rfl
  · exact ha
  · exact hb
  · exact hc
theorem niceR {ps : List PyData} (hl : ps.length ≤ 20) (h : ∀ d ∈ ps, Nice 3 d) : Nice 4 (.tuple ps) := .tup hl h
def C_leaf : Ct := fun as S R => ∃ (f : Fm) (m : Nat) (s : Cell), as = [.cel 0, .dat (fmd f), .cel 1] ∧ S = [s, .lst [.int m]] ∧ FmOk f ∧ WOk [s] ∧ ∀ d s' (m' : Nat), Nice 5 d → WOk [s'] → R d [s', .lst [.int m']]
theorem c_leaf : ∀ as S R, as.length = 3 → C_leaf as S R → G_law_leaf C_one C_draw C_box C_row C_dot (ent N_law_leaf as) S { nx := fun _ S' => R .none S', rt := R } := by
  rintro as S R _ ⟨f, m, s, rfl, rfl, hf, w, h⟩
  unfold G_law_leaf
  walk_at "dw"
  refine ⟨sel2, _, .inl rfl, by decide, by decide, w, fun d S1 hd w1 => ?_⟩
  obtain ⟨s1, rfl⟩ := wok1 w1
  have wd : isWd d := by
    simp only [List.mem_cons, List.not_mem_nil, or_false] at hd
    rcases hd with rfl | rfl | rfl | rfl | rfl <;> exact ⟨_, rfl, by decide +kernel⟩
  clear hd
  obtain ⟨x, rfl, hx⟩ := id wd
  walk_at "dw"
  have two : ∀ (a b : Bool) (P Q : Prop), ¬ (a = true ∧ b = true) → Q → (if a = true then (if b = true then P else Q) else Q) := by
    intro a b P Q n q
    cases a
    · exact q
    · cases b
      · exact q
      · exact absurd ⟨rfl, rfl⟩ n
  by_cases hA : decide (x = PySem.Str.ofString "area") = true ∧ decide ((2 : Int) < (m : Int)) = true
  · rw [if_pos hA.1, if_pos hA.2]
    have m2 := of_decide_eq_true hA.2
    refine ⟨sel2, _, rfl, by split <;> omega, by split <;> omega, w1, fun v S2 v0 v1 w2 => ?_⟩
    obtain ⟨s2, rfl⟩ := wok1 w2
    have v3 : v < 3 ∧ v < m - 2 := by split at v1 <;> omega
    obtain ⟨m', hm'⟩ : ∃ m' : Nat, (m : Int) - (3 + v) = m' := ⟨((m : Int) - (3 + v)).toNat, by omega⟩
    obtain ⟨n, hn⟩ : ∃ n : Nat, (3 : Int) + v = n := ⟨((3 : Int) + v).toNat, by omega⟩
    walk_at "dw"
    rw [hm', hn]
    refine ⟨rfl, ?_⟩
    have row : ∀ s3, WOk [s3] → selOk [0] [s3, .lst [.int m']] [.cel 0, .dat (fmd f), .dat (.int n), .dat (.bool true)] ∧ C_row [.cel 0, .dat (fmd f), .dat (.int n), .dat (.bool true)] [s3] fun d S3 => R (.tuple [.str x, d]) (putS [0] [s3, .lst [.int m']] S3) := by
      intro s3 w3
      refine ⟨⟨by simp, by simp, by simp⟩, f, n, true, rfl, hf, by omega, w3, fun ps S4 hl hp w4 => ?_⟩
      obtain ⟨s4, rfl⟩ := wok1 w4
      exact h _ s4 m' (nice2 wd.nice (niceR (by omega) hp)) w4
    split
    · refine ⟨sel2, 3, rfl, by omega, by omega, w2, fun c S3 c0 c1 w3 => ?_⟩
      obtain ⟨s3, rfl⟩ := wok1 w3
      walk_at "dw"
      split
      · refine ⟨sel2, f, rfl, hf, w3, fun ps S4 hl hp w4 => ?_⟩
        obtain ⟨s4, rfl⟩ := wok1 w4
        exact h _ s4 m' (nice2 wd.nice (niceR (by omega) hp)) w4
      · exact row s3 w3
    · exact row s2 w2
  · refine two _ _ _ _ hA ?_
    clear two hA
    have dot : selOk [0] [s1, .lst [.int m]] [.cel 0, .dat (fmd f)] ∧ C_dot [.cel 0, .dat (fmd f)] [s1] fun d S3 => R (.tuple [.str (PySem.Str.ofString "spot"), d]) (putS [0] [s1, .lst [.int m]] S3) := by
      refine ⟨sel2, f, rfl, hf, w1, fun z S2 _ bz w2 => ?_⟩
      obtain ⟨s2, rfl⟩ := wok1 w2
      exact h _ s2 m (nice2 (.str (by decide +kernel)) ((nice_pd bz).up (by decide))) w2
    split
    · split
      · rename_i c1 c2
        have m0 := of_decide_eq_true c2
        refine ⟨sel2, _, rfl, by split <;> omega, by split <;> omega, w1, fun v S2 v0 v1 w2 => ?_⟩
        obtain ⟨s2, rfl⟩ := wok1 w2
        have v3 : v < 3 ∧ v < m := by split at v1 <;> omega
        obtain ⟨m', hm'⟩ : ∃ m' : Nat, (m : Int) - (2 + v) + 1 = m' := ⟨((m : Int) - (2 + v) + 1).toNat, by omega⟩
        obtain ⟨n, hn⟩ : ∃ n : Nat, (2 : Int) + v = n := ⟨((2 : Int) + v).toNat, by omega⟩
        walk_at "dw"
        rw [hm', hn]
        refine ⟨rfl, ⟨by simp, by simp, by simp⟩, f, n, false, rfl, hf, by omega, w2, fun ps S4 hl hp w4 => ?_⟩
        obtain ⟨s4, rfl⟩ := wok1 w4
        exact h _ s4 m' (nice2 (.str (by decide +kernel)) (niceR (by omega) hp)) w4
      · exact dot
    · exact dot
end K12

namespace K12
open PySem L2 DL
local macro_rules | `(tactic| walk_at "dw") => `(tactic| try simp -implicitDefEqProofs only [fCallS, fCallL, gWelN, gDatN, gLast, putS_one, putS_two, ixN_10, sSeq, sIf, sRet, sRetN, sRetV, sSet, sNext, sPar, sPar3, sAsg, sDrop, sOwn, sApp, sIns, sPut, sNever, sFrz, sParO, fOr, fAnd, fNot, fIf, fOp, fUn, fVar, fVarB, fC, fCons, fNil, fTup, fLst, fSl, fP, fNoP, fCall, fCallK, gDat, gaNil, gWel, fChain, fWix, sWput, sWdiv, gNm, gTp, gsNil, gsCons, fiL, fiT, fiE, fiR1, fiR2, sFor, rowD, ent, asB_bool, asI_int, if_tt, if_ff,
  List.getElem?_cons_zero, List.getElem?_cons_succ, List.set_cons_zero, List.set_cons_succ, List.cons_append, List.nil_append, List.length_cons, List.length_nil, List.replicate, Nat.zero_add, Nat.reduceAdd, Nat.reduceSub,
  isi_tup, oReprG_bool, oGtD_int, oLeD_int, oGeD_int, oMixD_int, oMixD_tup, oMixD_bi, oMixD_ib, oMixD_bb, oStrD_int, oListD_tup, oListD_lst, oTupleD_lst, oTupleD_tup, oBackD_tup, oBackD_lst, oNegD_int, isi_strD, isi_intD, isi_boolD, isi_listD, isTup.eq_1, isTup.eq_2, isStr.eq_1, isStr.eq_2, isNum.eq_1, isNum.eq_2, Bool.not_true, Bool.not_false, oIx_tup, oIx_lst, oEq_int, oEq_str, oEq_bool, oEq_nil, oNe_int, oNe_str, oNe_bool, oLen_tup, oLen_lst, oI_int, oIC_int, oAdd_int, oAdd_tup, oAdd_lst, oLt_int, oInt_int, oInt_bool, oIn_tup, oIn_lst, oSl_tup, oSl_lst,
  atI_zero, atI_one, atI_two, atI_three, atI_four, cut_from1, true_and, Bool.false_eq_true, if_false, if_true])
theorem w_r1 {f : FE} {ρ : Rho} {S : SW} {T : List PyData → SW → Prop} (h : f ρ S fun d S1 => asI d fun j => -(2 ^ 62) ≤ j ∧ j < 2 ^ 62 ∧ T ((List.range j.toNat).map fun k => .int (k : Nat)) S1) : fiR1 f ρ S T := h
theorem w_ifT {f : FE} {X Y : FS} {ρ : Rho} {S : SW} {B : Out} (hc : ∀ Q : PyData → SW → Prop, (∀ b, Q (.bool b) S) → f ρ S Q) (h1 : True → X ρ S B) (h2 : True → Y ρ S B) : sIf f X Y ρ S B := by
  refine hc _ fun b => ?_
  rw [asB_bool]
  cases b
  · exact h2 trivial
  · exact h1 trivial
theorem w_tup3 {a b c : FE} {ρ : Rho} {S : SW} {Q : PyData → SW → Prop} (h : a ρ S fun x S1 => b ρ S1 fun y S2 => c ρ S2 fun z S3 => Q (.tuple [x, y, z]) S3) : fTup (fCons a (fCons b (fCons c fNil))) ρ S Q := h
def C_figk (k : Nat) : Ct := fun as S R => ∃ (f : Fm) (m : Nat) (s : Cell), as = [.cel 0, .dat (fmd f), .dat (.int k), .cel 1] ∧ S = [s, .lst [.int m]] ∧ FmOk f ∧ 0 < k ∧ WOk [s] ∧ ∀ d s' (m' : Nat), Nice (4 + k) d → WOk [s'] → R d [s', .lst [.int m']]
theorem c_fig (k : Nat) : ∀ as S R, as.length = 4 → C_figk (k + 1) as S R → G_law_figure C_one C_leaf (C_figk k) (ent N_law_figure as) S { nx := fun _ S' => R .none S', rt := R } := by
  rintro as S R _ ⟨f, m, s, rfl, rfl, hf, _, w, h⟩
  unfold G_law_figure
  walk_at "dw"
  have leaf : ∀ s, WOk [s] → C_leaf [.cel 0, .dat (fmd f), .cel 1] [s, .lst [.int m]] R := fun s w => ⟨f, m, s, rfl, rfl, hf, w, fun d s' m' hd w' => h d s' m' (hd.up (by omega)) w'⟩
  by_cases hk : k = 0
  · subst hk
    have e : decide ((1 : Int) < ((0 + 1 : Nat) : Int)) = false := by decide
    rw [e, if_neg Bool.false_ne_true]
    exact leaf s w
  · have e : decide ((1 : Int) < ((k + 1 : Nat) : Int)) = true := decide_eq_true (by omega)
    have e2 : ((k + 1 : Nat) : Int) - 1 = (k : Int) := by omega
    rw [e, if_pos rfl]
    refine ⟨sel2, _, .inl rfl, by decide, by decide, w, fun d S1 hd w1 => ?_⟩
    obtain ⟨s1, rfl⟩ := wok1 w1
    have wd : isWd d := by
      simp only [List.mem_cons, List.not_mem_nil, or_false] at hd
      rcases hd with rfl | rfl | rfl | rfl | rfl | rfl | rfl | rfl <;> exact ⟨_, rfl, by decide +kernel⟩
    clear hd
    obtain ⟨x, rfl, hx⟩ := id wd
    walk_at "dw"
    split
    · exact leaf s1 w1
    · rw [e2]
      refine ⟨f, m, s1, rfl, rfl, hf, by omega, w1, fun d2 s2 m2 n2 w2 => ?_⟩
      walk_at "dw"
      refine ⟨rfl, rfl, ?_⟩
      split
      · exact h _ s2 m2 (show Nice (4 + k + 1) _ from nice2 (n := 4 + k) (by rw [show 4 + k = (3 + k) + 1 by omega]; exact wd.nice) n2) w2
      · refine ⟨f, m2, s2, rfl, rfl, hf, by omega, w2, fun d3 s3 m3 n3 w3 => ?_⟩
        exact h _ s3 m3 (show Nice (4 + k + 1) _ from nice3 (n := 4 + k) (by rw [show 4 + k = (3 + k) + 1 by omega]; exact wd.nice) n2 n3) w3
theorem sel1 {s : Cell} {d : PyData} : selOk [0] [s] [.cel 0, .dat d] := ⟨by simp, by simp, by simp⟩
def C_any12 : Ct := fun as S R => ∃ f, as = [.cel 0, .dat (fmd f)] ∧ FmOk f ∧ WOk S ∧ ∀ d S', Nice 12 d → WOk S' → R d S'
/-- a new room -/
theorem room_leaf {f : Fm} {m : Nat} {i : Nat} {ρ : Rho} {s : Cell} {Q : PyData → SW → Prop} (h0 : ρ[0]? = some (.cel 0)) (h1 : ρ[1]? = some (.dat (fmd f))) (hf : FmOk f) (w : WOk [s]) (h : ∀ d s', Nice 5 d → WOk [s'] → Q d [s']) :
    fCallL [0] C_leaf (gWelN 0 (gDatN (fVar 1) (gLast (fLst (fCons (fC (.int m)) fNil))))) ρ [s] Q := by
  unfold fCallL gWelN
  rw [h0]
  refine w_var h1 ⟨sel1, rfl, f, m, s, rfl, rfl, hf, w, fun d s' m' hd w' => ?_⟩
  exact h d s' hd w'
theorem c_wrapped : ∀ as S R, as.length = 2 → C_any12 as S R → G_law_wrapped C_leaf C_draw C_one (ent N_law_wrapped as) S { nx := fun _ S' => R .none S', rt := R } := by
  rintro as S R _ ⟨f, rfl, hf, w, h⟩
  obtain ⟨s, rfl⟩ := wok1 w
  unfold G_law_wrapped
  refine w_set (room_leaf (m := 6) (i := 0) rfl rfl hf w fun d s1 hd w1 => ?_)
  refine w_for (w_r1 (w_op (w_c' (w_welF rfl (w_c' ⟨4, rfl, by omega, by omega, w1, fun v S2 v0 v1 w2 => ?_⟩)))))
  dsimp only
  rw [oAdd_int, asI_int]
  refine ⟨by omega, by omega, ?_⟩
  have go : ∀ (ts : List PyData) (d : PyData) (x3 x4 x5 : Sl) (S : SW) (B : Out) (k : Nat), Nice (5 + k) d → k + ts.length ≤ 7 → WOk S →
      (∀ d x3 x4 x5 S', Nice 12 d → WOk S' → B.nx [.cel 0, .dat (fmd f), .dat d, x3, x4, x5] S') →
      forGo (gNm 3) (sSeq (sSet 4 (fCall C_one (gWel 0 (gDat (fTup (fCons (fC (.str (PySem.Str.ofString "closure"))) (fCons (fC (.str (PySem.Str.ofString "inner"))) (fCons (fC (.str (PySem.Str.ofString "rim"))) (fCons (fC (.str (PySem.Str.ofString "both"))) (fCons (fC (.str (PySem.Str.ofString "either"))) (fCons (fC (.str (PySem.Str.ofString "less"))) fNil))))))) gaNil))))
    (sIf (fOp (oIn false) (fVarB 4) (fTup (fCons (fC (.str (PySem.Str.ofString "closure"))) (fCons (fC (.str (PySem.Str.ofString "inner"))) (fCons (fC (.str (PySem.Str.ofString "rim"))) fNil)))))
    (sSet 2 (fTup (fCons (fVar 4) (fCons (fVar 2) fNil))))
    (sSeq (sSet 5 (fCallL [0] C_leaf (gWelN 0 (gDatN (fVar 1) (gLast (fLst (fCons (fC (.int 1)) fNil)))))))
    (sSet 2 (fIf (fOp oEq (fCall C_draw (gWel 0 (gDat (fC (.int 2)) gaNil))) (fC (.int 0))) (fTup (fCons (fVar 4) (fCons (fVar 2) (fCons (fVar 5) fNil)))) (fTup (fCons (fVar 4) (fCons (fVar 5) (fCons (fVar 2) fNil))))))))) ts [.cel 0, .dat (fmd f), .dat d, x3, x4, x5] S B := by
    intro ts
    induction ts with
    | nil =>
      intro d x3 x4 x5 S B k hd hk w hB
      exact hB d x3 x4 x5 S (hd.up (by simp at hk; omega)) w
    | cons t ts ih =>
      intro d x3 x4 x5 S B k hd hk w hB
      rw [List.length_cons] at hk
      obtain ⟨s, rfl⟩ := wok1 w
      refine w_go1 (w_set (w_welF rfl (one_of rfl (by decide) w fun x S1 hx w1 => ?_)))
      obtain ⟨s1, rfl⟩ := wok1 w1
      have wd : isWd x := by
        simp only [List.mem_cons, List.not_mem_nil, or_false] at hx
        rcases hx with rfl | rfl | rfl | rfl | rfl | rfl <;> exact ⟨_, rfl, by decide +kernel⟩
      clear hx
      obtain ⟨y, rfl, hy⟩ := id wd
      have wn : Nice (5 + k) (.str y) := by rw [show 5 + k = (4 + k) + 1 by omega]; exact wd.nice
      refine w_ifT (fun Q q => by
        refine w_op (w_varB rfl (w_tup3 (w_c' (w_c' (w_c' ?_)))))
        rw [oIn_tup]
        exact ⟨rfl, rfl, q _⟩) (fun _ => ?_) fun _ => ?_
      · refine w_setE (w_tup2 (w_var rfl (w_var rfl ?_)))
        exact ih _ _ _ _ _ B (k + 1) (nice2 (n := 5 + k) wn hd) (by omega) w1 hB
      · refine w_set (room_leaf (m := 1) (i := 0) rfl rfl hf w1 fun e s2 he w2 => ?_)
        refine w_setE (draw_pick rfl (by decide) (by decide) w2 (fun S3 w3 => ?_) fun S3 w3 => ?_)
        · refine w_tup3 (w_var rfl (w_var rfl (w_var rfl ?_)))
          exact ih _ _ _ _ _ B (k + 1) (nice3 (n := 5 + k) wn hd (he.up (by omega))) (by omega) w3 hB
        · refine w_tup3 (w_var rfl (w_var rfl (w_var rfl ?_)))
          exact ih _ _ _ _ _ B (k + 1) (nice3 (n := 5 + k) wn (he.up (by omega)) hd) (by omega) w3 hB
  refine go _ d _ _ _ S2 _ 0 hd (by simp; omega) w2 fun d x3 x4 x5 S' hd w' => ?_
  exact h d S' hd w'
end K12

namespace K12
open PySem L2 DL
local macro_rules | `(tactic| walk_at "dw") => `(tactic| try simp -implicitDefEqProofs only [fCallS, fCallL, gWelN, gDatN, gLast, putS_one, putS_two, ixN_10, sSeq, sIf, sRet, sRetN, sRetV, sSet, sNext, sPar, sPar3, sAsg, sDrop, sOwn, sApp, sIns, sPut, sNever, sFrz, sParO, fOr, fAnd, fNot, fIf, fOp, fUn, fVar, fVarB, fC, fCons, fNil, fTup, fLst, fSl, fP, fNoP, fCall, fCallK, gDat, gaNil, gWel, fChain, fWix, sWput, sWdiv, gNm, gTp, gsNil, gsCons, fiL, fiT, fiE, fiR1, fiR2, sFor, rowD, ent, asB_bool, asI_int, if_tt, if_ff,
  List.getElem?_cons_zero, List.getElem?_cons_succ, List.set_cons_zero, List.set_cons_succ, List.cons_append, List.nil_append, List.length_cons, List.length_nil, List.replicate, Nat.zero_add, Nat.reduceAdd, Nat.reduceSub,
  isi_tup, oReprG_bool, oGtD_int, oLeD_int, oGeD_int, oMixD_int, oMixD_tup, oMixD_bi, oMixD_ib, oMixD_bb, oStrD_int, oListD_tup, oListD_lst, oTupleD_lst, oTupleD_tup, oBackD_tup, oBackD_lst, oNegD_int, isi_strD, isi_intD, isi_boolD, isi_listD, isTup.eq_1, isTup.eq_2, isStr.eq_1, isStr.eq_2, isNum.eq_1, isNum.eq_2, Bool.not_true, Bool.not_false, oIx_tup, oIx_lst, oEq_int, oEq_str, oEq_bool, oEq_nil, oNe_int, oNe_str, oNe_bool, oLen_tup, oLen_lst, oI_int, oIC_int, oAdd_int, oAdd_tup, oAdd_lst, oLt_int, oInt_int, oInt_bool, oIn_tup, oIn_lst, oSl_tup, oSl_lst,
  atI_zero, atI_one, atI_two, atI_three, atI_four, cut_from1, true_and, Bool.false_eq_true, if_false, if_true])
theorem w_and {a b : FE} {ρ : Rho} {S : SW} {Q : PyData → SW → Prop} (h : a ρ S fun x S1 => asB x fun k => if k = true then b ρ S1 Q else Q (.bool false) S1) : fAnd a b ρ S Q := h
theorem w_nil {ρ : Rho} {S : SW} {R : List PyData → SW → Prop} (h : R [] S) : fNil ρ S R := h
theorem w_ownE {i : Nat} {f : FE} {ρ : Rho} {S : SW} {B : Out} (h : f ρ S fun d S1 => match d with
  | .list ds => B.nx (ρ.set i (.own ds)) S1
  | _ => False) : sOwn i f ρ S B := h
theorem wok_no {ds : List PyData} (w : WOk [.lst ds]) : noLsts ds = true := by
  obtain ⟨a, b, c, e, _⟩ := w
  cases e
  rfl
theorem w_sameB {b : Bool} {x y : FE} {ρ : Rho} {S : SW} {Q : PyData → SW → Prop} (ha : ∀ Q : PyData → SW → Prop, Q (.bool b) S → x ρ S Q) (hb : ∀ Q : PyData → SW → Prop, Q (.bool b) S → y ρ S Q) (h : Q (.bool true) S) : fOp oEq (fUn oReprG x) (fUn oReprG y) ρ S Q := by
  unfold fOp fUn
  refine ha _ ?_
  rw [oReprG_bool]
  refine hb _ ?_
  rw [oReprG_bool]
  dsimp only
  rw [oEq_str, decide_eq_true rfl]
  exact h
theorem w_callK1 {C : Ct} {f : FE} {ρ : Rho} {S : SW} {Q : PyData → SW → Prop} (h : f ρ S fun d S1 => C [.dat d] S1 Q) : fCallK C pmId (gDat f gaNil) ρ S Q := h
theorem showOk_bool (b : Bool) : showOk (.bool b) := (Lg.bool (n := 1)).ok (by decide) (by decide)
theorem w_cf {C : Ct} {ρ : Rho} {S : SW} {d : PyData} {Q : PyData → SW → Prop} (h0 : ρ[0]? = some (.cel 0)) (h1 : ρ[1]? = some (.dat d)) (h : C [.cel 0, .dat d] S Q) : fCall C (gWel 0 (gDat (fVar 1) gaNil)) ρ S Q := w_welF h0 (w_var h1 h)
theorem c_wide : ∀ as S R, as.length = 2 → C_any12 as S R → G_law_wide C_row C_draw C_one (ent N_law_wide as) S { nx := fun _ S' => R .none S', rt := R } := by
  rintro as S R _ ⟨f, rfl, hf, w, h⟩
  unfold G_law_wide
  have ar : ∀ {n : Nat}, Nice (n + 1) (.str (PySem.Str.ofString "area")) := .str (by decide +kernel)
  have pa : ∀ {n : Nat}, Nice (n + 1) (.str (PySem.Str.ofString "path")) := .str (by decide +kernel)
  have ri : ∀ {n : Nat}, Nice (n + 1) (.str (PySem.Str.ofString "rim")) := .str (by decide +kernel)
  walk_at "dw"
  refine ⟨f, 12, true, rfl, hf, by omega, w, fun p1 S1 l1 n1 w1 => ?_⟩
  refine ⟨3, rfl, by omega, by omega, w1, fun v S2 v0 v1 w2 => ?_⟩
  obtain ⟨a, ha⟩ : ∃ n : Nat, (9 : Int) + v = n := ⟨((9 : Int) + v).toNat, by omega⟩
  walk_at "dw"
  rw [ha]
  refine ⟨f, a, true, rfl, hf, by omega, w2, fun p2 S3 l2 n2 w3 => ?_⟩
  refine ⟨4, rfl, by omega, by omega, w3, fun u S4 u0 u1 w4 => ?_⟩
  obtain ⟨b, hb⟩ : ∃ n : Nat, (2 : Int) + u = n := ⟨((2 : Int) + u).toNat, by omega⟩
  walk_at "dw"
  rw [hb]
  refine ⟨f, b, false, rfl, hf, by omega, w4, fun p3 S5 l3 n3 w5 => ?_⟩
  refine one_of rfl (by decide) w5 fun x S6 hx w6 => ?_
  have wd : isWd x := by
    simp only [List.mem_cons, List.not_mem_nil, or_false] at hx
    rcases hx with rfl | rfl | rfl <;> exact ⟨_, rfl, by decide +kernel⟩
  refine one_of rfl (by simp) w6 fun e S7 he w7 => ?_
  have g1 : Nice 5 (.tuple [.str (PySem.Str.ofString "area"), .tuple p1]) := nice2 ar (niceR (by omega) n1)
  have g2 : Nice 5 (.tuple [.str (PySem.Str.ofString "area"), .tuple p2]) := nice2 ar (niceR (by omega) n2)
  have g3 : Nice 5 (.tuple [.str (PySem.Str.ofString "path"), .tuple p3]) := nice2 pa (niceR (by omega) n3)
  simp only [List.mem_cons, List.not_mem_nil, or_false] at he
  rcases he with rfl | rfl
  · exact h _ S7 ((nice3 wd.nice (g1.up (by decide)) (nice3 wd.nice g2 g3)).up (by decide)) w7
  · exact h _ S7 ((nice3 wd.nice (nice2 ri (nice3 wd.nice g3 g1)) (g2.up (by decide))).up (by decide)) w7
theorem c_line : ∀ as S R, as.length = 2 → C_any12 as S R → G_law_line C_one C_row C_draw (ent N_law_line as) S { nx := fun _ S' => R .none S', rt := R } := by
  rintro as S R _ ⟨f, rfl, hf, w, h⟩
  unfold G_law_line
  walk_at "dw"
  refine one_of rfl (by decide) w fun m S1 hm w1 => ?_
  have : ∃ n : Nat, m = .int n ∧ 1 ≤ n ∧ n ≤ 13 := by
    simp only [List.mem_cons, List.not_mem_nil, or_false] at hm
    rcases hm with rfl | rfl | rfl | rfl | rfl | rfl | rfl
    · exact ⟨1, rfl, by decide, by decide⟩
    · exact ⟨2, rfl, by decide, by decide⟩
    · exact ⟨3, rfl, by decide, by decide⟩
    · exact ⟨7, rfl, by decide, by decide⟩
    · exact ⟨11, rfl, by decide, by decide⟩
    · exact ⟨12, rfl, by decide, by decide⟩
    · exact ⟨13, rfl, by decide, by decide⟩
  obtain ⟨n, rfl, n1, n2⟩ := this
  refine one_of rfl (by decide) w1 fun x S2 hx w2 => ?_
  have wd : isWd x := by
    simp only [List.mem_cons, List.not_mem_nil, or_false] at hx
    rcases hx with rfl | rfl <;> exact ⟨_, rfl, by decide +kernel⟩
  refine ⟨2, rfl, by omega, by omega, w2, fun c S3 c0 c1 w3 => ?_⟩
  walk_at "dw"
  refine ⟨f, n, _, rfl, hf, by omega, w3, fun ps S4 hl hp w4 => ?_⟩
  exact h _ S4 ((nice2 wd.nice (niceR (by omega) hp)).up (by decide)) w4
def C_right : Ct := fun as S R => as = [.cel 0] ∧ WOk S ∧ ∀ S', WOk S' → R (.bool true) S'
theorem bools_ok {ys : List PyData} (f : PyData → Bool) (hl : ys.length ≤ 100) : showOk (.list (ys.map fun d => .bool (f d))) := by
  refine (Lg.lst (n := 1) (LgAll.of (N := 5) (n := 1) fun d hd => ?_)).ok (by decide) (by rw [List.length_map]; omega)
  obtain ⟨x, _, rfl⟩ := List.mem_map.mp hd
  exact .bool
/-- the end: repr of both looks -/
theorem fin12 {f : PyData} {ys : List PyData} {S : SW} {R : PyData → SW → Prop} (hl : ys.length = 12) (hf : ∀ d ∈ ys, Fine 30 d) (h : R (.bool true) S) :
    (sSeq (sSet 3 (fLc (fiL (fVarB 2)) [4] (gNm 4) (fC (.bool true)) (fCall C_due (gDat (fVar 4) gaNil))))
    (sRet (fAnd (fOp oEq (fUn oReprG (fLc (fiL (fVarB 2)) [4] (gNm 4) (fC (.bool true)) (fCall (C_bool figB) (gDat (fVar 4) gaNil)))) (fUn oReprG (fVarB 3))) (fOp oEq (fUn oReprG (fCallK (C_bool figB) pmId (gDat (fOp oIx (fVarB 2) (fC (.int 4))) gaNil))) (fUn oReprG (fOp oIx (fVarB 3) (fC (.int 4))))))))
    [.cel 0, .dat f, .own ys, .un, .un] S { nx := fun _ S' => R .none S', rt := R } := by
  have l4 : 4 < ys.length := by omega
  have y4 : ys[4]? = some ys[4] := List.getElem?_eq_getElem l4
  refine w_set (fLc_map (ds := ys) (g := fun d => .bool (figB d)) (fun T t => w_fiL (w_varO rfl t)) (by omega) (own_un rfl) (fun d hd Q q => w_call1 rfl ⟨d, rfl, hf d hd, q⟩) ?_)
  refine w_ret (w_and (w_same (l := .list (ys.map fun d => .bool (figB d))) (bools_ok figB (by omega)) (fun R => rfl) (fun Q q => ?_) (fun Q q => w_varB rfl q) ?_))
  · exact fLc_map (ds := ys) (g := fun d => .bool (figB d)) (fun T t => w_fiL (w_varO rfl t)) (by omega) (own_un rfl) (fun d hd Q q => w_call1 rfl ⟨d, rfl, q⟩) q
  · rw [asB_bool, if_pos rfl]
    refine w_sameB (b := figB ys[4]) (fun Q q => ?_) (fun Q q => ?_) h
    · refine w_callK1 (w_op (w_varO rfl (w_c' ?_)))
      rw [oIx_lst, show atI ys (4 : Int) = some ys[4] from atI_nat y4]
      exact ⟨_, rfl, q⟩
    · refine w_op (w_varB rfl (w_c' ?_))
      rw [oIx_lst, show atI (ys.map fun d => PyData.bool (figB d)) (4 : Int) = some (.bool (figB ys[4])) from atI_nat (by rw [List.getElem?_map, y4]; rfl)]
      exact q
theorem c_right : ∀ as S R, as.length = 1 → C_right as S R → G_law_right C_frame C_any12 C_any12 C_any12 (C_figk 4) (C_bent 12) C_oddF C_one C_due (C_bool figB) (ent N_law_right as) S { nx := fun _ S' => R .none S', rt := R } := by
  rintro as S R _ ⟨rfl, w, h⟩
  unfold G_law_right
  refine w_set (w_wel rfl ⟨rfl, w, fun f S1 hf w1 => ?_⟩)
  obtain ⟨s1, rfl⟩ := wok1 w1
  refine w_own (g := fCons _ (fCons _ (fCons _ (fCons _ fNil)))) ?_
  have fig : ∀ {ρ : Rho} {Q : PyData → SW → Prop}, ρ[0]? = some (.cel 0) → ρ[1]? = some (.dat (fmd f)) → (∀ d s', Nice 8 d → WOk [s'] → Q d [s']) → fCallL [0] (C_figk 4) (gWelN 0 (gDatN (fVar 1) (gDatN (fC (.int 4)) (gLast (fLst (fCons (fC (.int 10)) fNil)))))) ρ [s1] Q := by
    intro ρ Q h0 h1 q
    unfold fCallL gWelN
    rw [h0]
    refine w_var h1 ⟨⟨by simp, by simp, by simp⟩, rfl, f, 10, s1, rfl, rfl, hf, by decide, w1, fun d s' m' hd w' => ?_⟩
    exact q d s' hd w'
  refine (show fCallL _ _ _ _ _ _ from fig rfl rfl fun a s2 na w2 => ?_)
  refine w_cf rfl rfl ⟨f, rfl, hf, w2, fun b S3 nb w3 => ?_⟩
  refine w_cf rfl rfl ⟨f, rfl, hf, w3, fun c S4 nc w4 => ?_⟩
  refine w_cf rfl rfl ⟨f, rfl, hf, w4, fun d S5 nd w5 => ?_⟩
  refine w_nil ?_
  have small : ∀ n : Nat, n ≤ 100 → n ≤ sizeLine := fun n h => small_leD _ (by omega)
  have n4 : ∀ x ∈ [a, b, c, d], Nice 12 x := by
    intro x hx
    simp only [List.mem_cons, List.not_mem_nil, or_false] at hx
    rcases hx with rfl | rfl | rfl | rfl
    · exact na.up (by decide)
    · exact nb
    · exact nc
    · exact nd
  refine w_seq (w_ownE (w_op (w_op (w_varO rfl (w_lc (w_fiL (w_varO (xs := [a, b, c, d]) rfl ?_)))))))
  refine ⟨own_un rfl, small _ (by simp), lcGo_draw (P := Fine 21) w5 (fun a h => by cases h) (fun x S hx w Q hQ => ?_) fun out S6 hl ho w6 => ?_⟩
  · exact w_welF rfl (w_var rfl ⟨x, rfl, n4 x hx, by decide, w, fun e S' he w' => hQ e S' he w'⟩)
  · have hl : out.length = 4 := by simpa using hl
    rw [oAdd_lst]
    refine ⟨small _ (by simp [hl]), ?_⟩
    refine w_lst3 (w_welF rfl (w_op (w_varO rfl (w_c' ?_))))
    rw [oIx_lst, atI_zero]
    refine ⟨a, rfl, n4 a (by simp), by decide, w6, fun e1 S7 h1 w7 => ?_⟩
    refine w_wel rfl ⟨rfl, w7, fun e2 S8 h2 w8 => ?_⟩
    refine w_wel rfl ⟨rfl, w8, fun e3 S9 h3 w9 => ?_⟩
    refine (show oCatL _ _ _ from ⟨small _ (by simp [hl]), ?_⟩)
    dsimp only
    refine w_appS (xs := [a, b, c, d] ++ out ++ [e1, e2, e3]) rfl (by simp [hl]) (w_tup2 (w_welF rfl ?_))
    refine one_of rfl (by decide) w9 fun x S10 hx w10 => ?_
    have wd : isWd x := by
      simp only [List.mem_cons, List.not_mem_nil, or_false] at hx
      rcases hx with rfl | rfl | rfl | rfl | rfl | rfl <;> exact ⟨_, rfl, by decide +kernel⟩
    refine w_wel rfl ⟨rfl, w10, fun e4 S11 h4 w11 => ?_⟩
    refine fin12 (by simp [hl]) (fun y hy => ?_) (h S11 w11)
    rcases List.mem_append.mp hy with hy | hy
    · rcases List.mem_append.mp hy with hy | hy
      · rcases List.mem_append.mp hy with hy | hy
        · exact (n4 y hy).fine.up (by decide)
        · exact (ho y hy).up (by decide)
      · simp only [List.mem_cons, List.not_mem_nil, or_false] at hy
        rcases hy with rfl | rfl | rfl
        · exact h1.up (by decide)
        · exact h2.up (by decide)
        · exact h3.up (by decide)
    · rw [List.mem_singleton.mp hy]
      refine .tup fun z hz => ?_
      simp only [List.mem_cons, List.not_mem_nil, or_false] at hz
      rcases hz with rfl | rfl
      · exact wd.nice.fine (n := 29)
      · exact h4.up (by decide)
theorem c_law : ∀ as S R, as.length = 1 → C_true as S R → G_law C_right C_spring (ent N_law as) S { nx := fun _ S' => R .none S', rt := R } := by
  rintro as S R _ ⟨ns, rfl, hl, h⟩
  have hm : ∀ Q : PyData → SW → Prop, Q (.int (let j := (if (4 : Int) < (ns.length : Int) then (4 : Int) else ns.length); if j > 2 then j else 2)) S →
      (fOp (oI fun i j => .int (if j > i then j else i)) (fC (.int 2)) (fOp (oI fun i j => .int (if j < i then j else i)) (fUn oLen (fVarB 0)) (fC (.int 4)))) [.dat (.list (ns.map .int)), .un] S Q := fun Q q => by
    unfold fOp fUn fC fVarB
    simp only [List.getElem?_cons_zero, oLen_lst, oI_int, List.length_map]
    exact q
  unfold G_law
  refine all_true (fun Q q => lc_rng hm ?_ ?_ ?_ ?_ q) ?_
  · dsimp only
    split <;> omega
  · dsimp only
    split <;> split <;> omega
  · exact own_un rfl
  · intro k Q q
    exact ⟨ns, k, rfl, fun ds w => ⟨wok_no w, rfl, w, fun _ _ => q⟩⟩
  · exact h
end K12

namespace K12
open PySem L2 DL

section
variable {P : Program} {W : World} {K : Fr_} {mg : Str → Option Value} {base : Heap}
theorem CalN_mono' {x : Str} {k k' n : Nat} {C : Ct} (c : CalN P W K mg base x k n C) (h : k ≤ k') : CalN P W K mg base x k' n C := by
  obtain ⟨f, fd, ps, F, a, b, d⟩ := c.ex
  exact ⟨f, fd, ps, F.mono h, a, b, d⟩

theorem CalK_mono' {x : Str} {k k' n : Nat} {C : Ct} {ks : List Str} {pm : {α : Type} → List α → List α} (c : CalK P W K mg base x k n C ks pm) (h : k ≤ k') : CalK P W K mg base x k' n C ks pm := by
  obtain ⟨⟨f, fd, ps, F, a, b, d⟩, e1, e2, e3⟩ := c
  exact ⟨⟨f, fd, ps, F.mono h, a, b, d⟩, e1, e2, e3⟩

theorem all_is_whole (T : Txt W K mg) (D : Defs K mg) : Cal P W K mg base "is_whole" 1 1 (C_bool whole) := by
  obtain ⟨f, fd, F, hm, hb, _⟩ := D.d_is_whole.ex
  exact bd_is_whole (k := 0) T F hm hb  c_whole

theorem all_are_wholes (T : Txt W K mg) (D : Defs K mg) : Cal P W K mg base "are_wholes" 2 2 (C_wholes) := by
  obtain ⟨f, fd, F, hm, hb, _⟩ := D.d_are_wholes.ex
  exact bd_are_wholes (k := 1) T F hm hb ((all_is_whole T D).mono (by omega)) c_wholes

theorem all_is_ratio (T : Txt W K mg) (D : Defs K mg) : Cal P W K mg base "is_ratio" 3 1 (C_bool ratD) := by
  obtain ⟨f, fd, F, hm, hb, _⟩ := D.d_is_ratio.ex
  exact bd_is_ratio (k := 2) T F hm hb ((all_are_wholes T D).mono (by omega)) c_ratio_is

theorem all_is_pointed (T : Txt W K mg) (D : Defs K mg) : Cal P W K mg base "is_pointed" 4 1 (C_bool ptD) := by
  obtain ⟨f, fd, F, hm, hb, _⟩ := D.d_is_pointed.ex
  exact bd_is_pointed (k := 3) T F hm hb ((all_is_ratio T D).mono (by omega)) c_pointed

theorem all_closed (T : Txt W K mg) (D : Defs K mg) : Cal P W K mg base "closed" 1 1 (C_closed) := by
  obtain ⟨f, fd, F, hm, hb, _⟩ := D.d_closed.ex
  exact bd_closed (k := 0) T F hm hb  c_closed

theorem all_are_pointed (T : Txt W K mg) (D : Defs K mg) : Cal P W K mg base "are_pointed" 5 3 (C_ap) := by
  obtain ⟨f, fd, F, hm, hb, _⟩ := D.d_are_pointed.ex
  exact bd_are_pointed (k := 4) T F hm hb ((all_is_pointed T D).mono (by omega)) ((all_closed T D).mono (by omega)) c_ap

theorem all_is_shaped (T : Txt W K mg) (D : Defs K mg) : ∀ n, Cal P W K mg base "is_shaped" (n + 5) 2 (C_sh n)
  | 0 => by
    obtain ⟨f, fd, F, hm, hb, _⟩ := D.d_is_shaped.ex
    exact (Cal.void F.kp hm hb fun as S R ⟨d, m, _, hm, _⟩ => absurd hm (Nat.not_lt_zero _)).mono (by omega)
  | n + 1 => by
    obtain ⟨f, fd, F, hm, hb, _⟩ := D.d_is_shaped.ex
    exact (bd_is_shaped (k := n + 5) T F hm hb (all_is_shaped T D n) ((all_is_pointed T D).mono (by omega)) ((all_are_pointed T D).mono (by omega)) (c_sh n)).mono (by omega)

theorem all_lines_of (T : Txt W K mg) (D : Defs K mg) : Cal P W K mg base "lines_of" 2 1 (C_lines) := by
  obtain ⟨f, fd, F, hm, hb, _⟩ := D.d_lines_of.ex
  exact bd_lines_of (k := 1) T F hm hb ((all_closed T D).mono (by omega)) c_lines

theorem all_segments_by (T : Txt W K mg) (D : Defs K mg) : ∀ n, Cal P W K mg base "segments_by" (n + 2) 1 (C_segs n)
  | 0 => by
    obtain ⟨f, fd, F, hm, hb, _⟩ := D.d_segments_by.ex
    exact (Cal.void F.kp hm hb fun as S R ⟨d, _, h, _⟩ => by simp [isSh] at h).mono (by omega)
  | n + 1 => by
    obtain ⟨f, fd, F, hm, hb, _⟩ := D.d_segments_by.ex
    exact (bd_segments_by (k := n + 2) T F hm hb (all_segments_by T D n) ((all_lines_of T D).mono (by omega)) (c_segs n)).mono (by omega)

theorem all_is_figured (T : Txt W K mg) (D : Defs K mg) : Cal P W K mg base "is_figured" 13 1 (C_bool figB) := by
  obtain ⟨f, fd, F, hm, hb, _⟩ := D.d_is_figured.ex
  exact bd_is_figured (k := 12) T F hm hb ((all_segments_by T D 6).mono (by omega)) ((all_is_shaped T D 7).mono (by omega)) c_figured

theorem all_is_figure (T : Txt W K mg) (D : Defs K mg) : Cal P W K mg base "is_figure" 14 1 (C_bool figB) := by
  obtain ⟨f, fd, F, hm, hb, _⟩ := D.d_is_figure.ex
  exact bd_is_figure (k := 13) T F hm hb ((all_is_figured T D).mono (by omega)) c_is_figure

theorem all_law_spring (T : Txt W K mg) (D : Defs K mg) : CalN P W K mg base "_law_spring" 1 2 (C_spring) := by
  obtain ⟨f, fd, F, hm, hb, _⟩ := D.d_law_spring.ex
  exact bd_law_spring (k := 0) T F hm hb  c_spring

theorem all_law_draw (T : Txt W K mg) (D : Defs K mg) : Cal P W K mg base "_law_draw" 1 2 (C_draw) := by
  obtain ⟨f, fd, F, hm, hb, _⟩ := D.d_law_draw.ex
  exact bd_law_draw (k := 0) T F hm hb  c_draw

theorem all_law_one_of (T : Txt W K mg) (D : Defs K mg) : Cal P W K mg base "_law_one_of" 2 2 (C_one) := by
  obtain ⟨f, fd, F, hm, hb, _⟩ := D.d_law_one_of.ex
  exact bd_law_one_of (k := 1) T F hm hb ((all_law_draw T D).mono (by omega)) c_one

theorem all_law_divisor (T : Txt W K mg) (D : Defs K mg) : Cal P W K mg base "_law_divisor" 1 2 (C_div) := by
  obtain ⟨f, fd, F, hm, hb, _⟩ := D.d_law_divisor.ex
  exact bd_law_divisor (k := 0) T F hm hb  c_div

theorem all_law_part (T : Txt W K mg) (D : Defs K mg) : Cal P W K mg base "_law_part" 2 2 (C_part) := by
  obtain ⟨f, fd, F, hm, hb, _⟩ := D.d_law_part.ex
  exact bd_law_part (k := 1) T F hm hb ((all_law_divisor T D).mono (by omega)) c_part

theorem all_law_frame (T : Txt W K mg) (D : Defs K mg) : Cal P W K mg base "_law_frame" 3 1 (C_frame) := by
  obtain ⟨f, fd, F, hm, hb, _⟩ := D.d_law_frame.ex
  exact bd_law_frame (k := 2) T F hm hb ((all_law_one_of T D).mono (by omega)) c_frame

theorem all_law_grid (T : Txt W K mg) (D : Defs K mg) : Cal P W K mg base "_law_grid" 3 4 (C_grid) := by
  obtain ⟨f, fd, F, hm, hb, _⟩ := D.d_law_grid.ex
  exact bd_law_grid (k := 2) T F hm hb ((all_law_part T D).mono (by omega)) c_grid

theorem all_law_dot (T : Txt W K mg) (D : Defs K mg) : Cal P W K mg base "_law_dot" 4 2 (C_dot) := by
  obtain ⟨f, fd, F, hm, hb, _⟩ := D.d_law_dot.ex
  exact bd_law_dot (k := 3) T F hm hb ((all_law_one_of T D).mono (by omega)) ((all_law_draw T D).mono (by omega)) ((all_law_grid T D).mono (by omega)) c_dot

theorem all_law_row (T : Txt W K mg) (D : Defs K mg) : Cal P W K mg base "_law_row" 4 4 (C_row) := by
  obtain ⟨f, fd, F, hm, hb, _⟩ := D.d_law_row.ex
  exact bd_law_row (k := 3) T F hm hb ((all_law_draw T D).mono (by omega)) ((all_law_one_of T D).mono (by omega)) ((all_law_grid T D).mono (by omega)) c_row

theorem all_law_box (T : Txt W K mg) (D : Defs K mg) : Cal P W K mg base "_law_box" 4 2 (C_box) := by
  obtain ⟨f, fd, F, hm, hb, _⟩ := D.d_law_box.ex
  exact bd_law_box (k := 3) T F hm hb ((all_law_draw T D).mono (by omega)) ((all_law_grid T D).mono (by omega)) c_box

theorem all_law_pairs (T : Txt W K mg) (D : Defs K mg) : Cal P W K mg base "_law_pairs" 1 2 (C_pairs) := by
  obtain ⟨f, fd, F, hm, hb, _⟩ := D.d_law_pairs.ex
  exact bd_law_pairs (k := 0) T F hm hb  c_pairs

theorem all_law_leaf (T : Txt W K mg) (D : Defs K mg) : Cal P W K mg base "_law_leaf" 5 3 (C_leaf) := by
  obtain ⟨f, fd, F, hm, hb, _⟩ := D.d_law_leaf.ex
  exact bd_law_leaf (k := 4) T F hm hb ((all_law_one_of T D).mono (by omega)) ((all_law_draw T D).mono (by omega)) ((all_law_box T D).mono (by omega)) ((all_law_row T D).mono (by omega)) ((all_law_dot T D).mono (by omega)) c_leaf

theorem all_law_figure (T : Txt W K mg) (D : Defs K mg) : ∀ n, Cal P W K mg base "_law_figure" (n + 5) 4 (C_figk n)
  | 0 => by
    obtain ⟨f, fd, F, hm, hb, _⟩ := D.d_law_figure.ex
    exact (Cal.void F.kp hm hb fun as S R ⟨_, _, _, _, _, _, h, _⟩ => absurd h (Nat.lt_irrefl _)).mono (by omega)
  | n + 1 => by
    obtain ⟨f, fd, F, hm, hb, _⟩ := D.d_law_figure.ex
    exact (bd_law_figure (k := n + 5) T F hm hb ((all_law_one_of T D).mono (by omega)) ((all_law_leaf T D).mono (by omega)) (all_law_figure T D n) (c_fig n)).mono (by omega)

theorem all_law_odd (T : Txt W K mg) (D : Defs K mg) : Cal P W K mg base "_law_odd" 3 1 (C_oddF) := by
  obtain ⟨f, fd, F, hm, hb, _⟩ := D.d_law_odd.ex
  exact bd_law_odd (k := 2) T F hm hb ((all_law_one_of T D).mono (by omega)) c_odd

theorem all_law_bent (T : Txt W K mg) (D : Defs K mg) : ∀ n, Cal P W K mg base "_law_bent" (n + 3) 2 (C_bent n)
  | 0 => by
    obtain ⟨f, fd, F, hm, hb, _⟩ := D.d_law_bent.ex
    exact (Cal.void F.kp hm hb fun as S R ⟨d, _, hn, _⟩ => nomatch hn).mono (by omega)
  | n + 1 => by
    obtain ⟨f, fd, F, hm, hb, _⟩ := D.d_law_bent.ex
    exact (bd_law_bent (k := n + 3) T F hm hb ((all_law_draw T D).mono (by omega)) (all_law_bent T D n) ((all_law_odd T D).mono (by omega)) (c_bent n)).mono (by omega)

theorem all_law_is_whole (T : Txt W K mg) (D : Defs K mg) : Cal P W K mg base "_law_is_whole" 1 1 (C_bool whole) := by
  obtain ⟨f, fd, F, hm, hb, _⟩ := D.d_law_is_whole.ex
  exact bd_law_is_whole (k := 0) T F hm hb  c_lwhole

theorem all_law_is_lot (T : Txt W K mg) (D : Defs K mg) : Cal P W K mg base "_law_is_lot" 1 3 (C_lotg) := by
  obtain ⟨f, fd, F, hm, hb, _⟩ := D.d_law_is_lot.ex
  exact bd_law_is_lot (k := 0) T F hm hb  c_lotg

theorem all_law_is_fraction (T : Txt W K mg) (D : Defs K mg) : Cal P W K mg base "_law_is_fraction" 2 1 (C_bool ratD) := by
  obtain ⟨f, fd, F, hm, hb, _⟩ := D.d_law_is_fraction.ex
  exact bd_law_is_fraction (k := 1) T F hm hb ((all_law_is_whole T D).mono (by omega)) ((Cal.imp (all_law_is_lot T D) lot_imp).mono (by omega)) ((all_law_divisor T D).mono (by omega)) c_fraction

theorem all_law_is_told (T : Txt W K mg) (D : Defs K mg) : Cal P W K mg base "_law_is_told" 3 1 (C_bool ptD) := by
  obtain ⟨f, fd, F, hm, hb, _⟩ := D.d_law_is_told.ex
  exact bd_law_is_told (k := 2) T F hm hb ((all_law_is_fraction T D).mono (by omega)) ((Cal.imp (all_law_is_lot T D) lot_imp).mono (by omega)) c_told_is

theorem all_law_shape (T : Txt W K mg) (D : Defs K mg) : ∀ n, Cal P W K mg base "_law_shape" (n + 3) 1 (C_shape n)
  | 0 => by
    obtain ⟨f, fd, F, hm, hb, _⟩ := D.d_law_shape.ex
    exact (Cal.void F.kp hm hb fun as S R ⟨d, _, hn, _⟩ => nomatch hn).mono (by omega)
  | n + 1 => by
    obtain ⟨f, fd, F, hm, hb, _⟩ := D.d_law_shape.ex
    exact (bd_law_shape (k := n + 3) T F hm hb ((all_law_is_lot T D).mono (by omega)) (all_law_shape T D n) ((all_law_is_told T D).mono (by omega)) ((all_law_pairs T D).mono (by omega)) (c_shape n)).mono (by omega)

theorem all_law_wrapped (T : Txt W K mg) (D : Defs K mg) : Cal P W K mg base "_law_wrapped" 6 2 (C_any12) := by
  obtain ⟨f, fd, F, hm, hb, _⟩ := D.d_law_wrapped.ex
  exact bd_law_wrapped (k := 5) T F hm hb ((all_law_leaf T D).mono (by omega)) ((all_law_draw T D).mono (by omega)) ((all_law_one_of T D).mono (by omega)) c_wrapped

theorem all_law_wide (T : Txt W K mg) (D : Defs K mg) : Cal P W K mg base "_law_wide" 5 2 (C_any12) := by
  obtain ⟨f, fd, F, hm, hb, _⟩ := D.d_law_wide.ex
  exact bd_law_wide (k := 4) T F hm hb ((all_law_row T D).mono (by omega)) ((all_law_draw T D).mono (by omega)) ((all_law_one_of T D).mono (by omega)) c_wide

theorem all_law_line (T : Txt W K mg) (D : Defs K mg) : Cal P W K mg base "_law_line" 5 2 (C_any12) := by
  obtain ⟨f, fd, F, hm, hb, _⟩ := D.d_law_line.ex
  exact bd_law_line (k := 4) T F hm hb ((all_law_one_of T D).mono (by omega)) ((all_law_row T D).mono (by omega)) ((all_law_draw T D).mono (by omega)) c_line

theorem all_law_is_due (T : Txt W K mg) (D : Defs K mg) : Cal P W K mg base "_law_is_due" 34 1 (C_due) := by
  obtain ⟨f, fd, F, hm, hb, _⟩ := D.d_law_is_due.ex
  exact bd_law_is_due (k := 33) T F hm hb ((all_law_shape T D 30).mono (by omega)) c_due

theorem kw_is_figure_value (T : Txt W K mg) (D : Defs K mg) : CalK P W K mg base "is_figure" 14 1 (C_bool figB) [PySem.Str.ofString "value"] pmId := by
  obtain ⟨f, fd, F, hm, hb, _, hk⟩ := D.d_is_figure.ex
  exact CalK.of (ok_is_figure (k := 13) T F hm hb ((all_is_figured T D).mono (by omega)) c_is_figure) F.kp hm rfl hk

theorem all_law_right (T : Txt W K mg) (D : Defs K mg) : Cal P W K mg base "_law_right" 35 1 (C_right) := by
  obtain ⟨f, fd, F, hm, hb, _⟩ := D.d_law_right.ex
  exact bd_law_right (k := 34) T F hm hb ((all_law_frame T D).mono (by omega)) ((all_law_line T D).mono (by omega)) ((all_law_wide T D).mono (by omega)) ((all_law_wrapped T D).mono (by omega)) ((all_law_figure T D 4).mono (by omega)) ((all_law_bent T D 12).mono (by omega)) ((all_law_odd T D).mono (by omega)) ((all_law_one_of T D).mono (by omega)) ((all_law_is_due T D).mono (by omega)) ((all_is_figure T D).mono (by omega)) (CalK_mono' (kw_is_figure_value T D) (by omega)) c_right

abbrev levels : Nat := 36
theorem law_end (T : Txt W K mg) (D : Defs K mg) : ∃ f fd, mg "law" = some (.ref f) ∧ (∀ (s : Shared) (ws : List Value), ws.length = ["_law_script"].length → BindsTo s fd ⟨ws, []⟩ ((["_law_script"] : List Str).zip ws)) ∧
    ∀ base : Heap, K.In base → base.Ns mainGlobals mg → Pro P W K mg base levels f fd ["_law_script"] (spC K 1 C_true) := by
  obtain ⟨f, fd, F, hm, hb, hp, _⟩ := D.d_law.ex
  refine ⟨f, fd, hm, hp, fun base _ _ => ?_⟩
  exact ok_law (k := 35) T F hm hb ((all_law_right T D).mono (by omega)) (CalN_mono' (all_law_spring T D) (by omega)) c_law
end

end K12

open PySem PySem.W PyProof.Rows
set_option maxRecDepth 100000 in
set_option maxHeartbeats 0 in
theorem PySem.Challenge.cw_bentalike_k12_figures_of_anything_holds : PySem.Challenge.rw_bentalike_k12_figures_of_anything.Holds := by
  w_on; o_law; k_head; (case hw => w_witness2)
  k_fill
  refine DL.law_walk (l := PySem.Challenge.rw_bentalike_k12_figures_of_anything) (x := "_law_script") K12.levels rfl rfl ⟨rfl, by decide, by decide⟩ (fun w h Y => PySem.W.kIn_of Y) rfl ?F
  case F =>
    intro w mg fa h KX G hmg
    refine K12.law_end ?T ?D
    case T =>
      refine ⟨?qg0, ?qg1, ?qg2, ?qg3, ?qg4, ?qg5, ?qg6, ?qg7, ?qg8, ?qg9, ?qg10, ?qg11, ?qg12, ?qg13, ?qg14, ?qg15, ?qg16, ?qg17, ?qg18, ?qg19, ?qg20, ?qg21⟩
      case qg0 =>
        refine' DL.dic_mk KX G ?qa ?ql ?qo ?qe
        (case qa => k_is); (case ql => k_is); (case qo => decide); (case qe => exact (DL.ents_cons rfl DL.fix_int (DL.ents_cons rfl DL.fix_int DL.ents_nil)))
      case qg1 =>
        refine' DL.dic_mk KX G ?qa ?ql ?qo ?qe
        (case qa => k_is); (case ql => k_is); (case qo => decide); (case qe => exact (DL.ents_cons rfl DL.fix_int (DL.ents_cons rfl DL.fix_int (DL.ents_cons rfl DL.fix_int (DL.ents_cons rfl DL.fix_int (DL.ents_cons rfl DL.fix_int (DL.ents_cons rfl DL.fix_int DL.ents_nil)))))))
      case qg2 =>
        refine' DL.glob_fix KX G ?qa DL.fix_int
        (case qa => k_is)
      case qg3 =>
        refine' DL.glob_fix KX G ?qa DL.fix_int
        (case qa => k_is)
      case qg4 =>
        refine' DL.glob_fix KX G ?qa DL.fix_int
        (case qa => k_is)
      case qg5 => exact PySem.W.mg_none_of KX G (by k_is)
      case qg6 => exact PySem.W.mg_none_of KX G (by k_is)
      case qg7 => exact PySem.W.mg_none_of KX G (by k_is)
      case qg8 => exact PySem.W.mg_none_of KX G (by k_is)
      case qg9 => exact PySem.W.mg_of KX G (by k_is)
      case qg10 => exact PySem.W.mg_none_of KX G (by k_is)
      case qg11 => exact PySem.W.mg_none_of KX G (by k_is)
      case qg12 => exact PySem.W.mg_none_of KX G (by k_is)
      case qg13 => exact PySem.W.mg_none_of KX G (by k_is)
      case qg14 => exact PySem.W.mg_none_of KX G (by k_is)
      case qg15 => exact PySem.W.mg_none_of KX G (by k_is)
      case qg16 => exact PySem.W.mg_none_of KX G (by k_is)
      case qg17 => exact PySem.W.mg_none_of KX G (by k_is)
      case qg18 => exact PySem.W.mg_none_of KX G (by k_is)
      case qg19 => exact PySem.W.mg_none_of KX G (by k_is)
      case qg20 => exact PySem.W.mg_none_of KX G (by k_is)
      case qg21 => exact PySem.W.mg_none_of KX G (by k_is)
    case D =>
      refine ⟨?qd0, ?qd1, ?qd2, ?qd3, ?qd4, ?qd5, ?qd6, ?qd7, ?qd8, ?qd9, ?qd10, ?qd11, ?qd12, ?qd13, ?qd14, ?qd15, ?qd16, ?qd17, ?qd18, ?qd19, ?qd20, ?qd21, ?qd22, ?qd23, ?qd24, ?qd25, ?qd26, ?qd27, ?qd28, ?qd29, ?qd30, ?qd31, ?qd32, ?qd33, ?qd34, ?qd35, ?qd36⟩
      case qd0 =>
        refine' DL.Has.mk' KX G (fun _ _ _ _ _ _ us hl => match us, hl with | [_], _ => rfl) (fun _ _ _ _ _ _ us hl => match us, hl with | [_], _ => rfl) ?qa ?ql ?qc ?qk
        (case qa => k_is); (case ql => k_is); (case qc => k_is); (case qk => k_is)
      case qd1 =>
        refine' DL.Has.mk' KX G (fun _ _ _ _ _ _ us hl => match us, hl with | [_, _], _ => rfl) (fun _ _ _ _ _ _ us hl => match us, hl with | [_, _], _ => rfl) ?qa ?ql ?qc ?qk
        (case qa => k_is); (case ql => k_is); (case qc => k_is); (case qk => k_is)
      case qd2 =>
        refine' DL.Has.mk' KX G (fun _ _ _ _ _ _ us hl => match us, hl with | [_], _ => rfl) (fun _ _ _ _ _ _ us hl => match us, hl with | [_], _ => rfl) ?qa ?ql ?qc ?qk
        (case qa => k_is); (case ql => k_is); (case qc => k_is); (case qk => k_is)
      case qd3 =>
        refine' DL.Has.mk' KX G (fun _ _ _ _ _ _ us hl => match us, hl with | [_], _ => rfl) (fun _ _ _ _ _ _ us hl => match us, hl with | [_], _ => rfl) ?qa ?ql ?qc ?qk
        (case qa => k_is); (case ql => k_is); (case qc => k_is); (case qk => k_is)
      case qd4 =>
        refine' DL.Has.mk' KX G (fun _ _ _ _ _ _ us hl => match us, hl with | [_], _ => rfl) (fun _ _ _ _ _ _ us hl => match us, hl with | [_], _ => rfl) ?qa ?ql ?qc ?qk
        (case qa => k_is); (case ql => k_is); (case qc => k_is); (case qk => k_is)
      case qd5 =>
        refine' DL.Has.mk' KX G (fun _ _ _ _ _ _ us hl => match us, hl with | [_, _, _], _ => rfl) (fun _ _ _ _ _ _ us hl => match us, hl with | [_, _, _], _ => rfl) ?qa ?ql ?qc ?qk
        (case qa => k_is); (case ql => k_is); (case qc => k_is); (case qk => k_is)
      case qd6 =>
        refine' DL.Has.mk' KX G (fun _ _ _ _ _ _ us hl => match us, hl with | [_, _], _ => rfl) (fun _ _ _ _ _ _ us hl => match us, hl with | [_, _], _ => rfl) ?qa ?ql ?qc ?qk
        (case qa => k_is); (case ql => k_is); (case qc => k_is); (case qk => k_is)
      case qd7 =>
        refine' DL.Has.mk' KX G (fun _ _ _ _ _ _ us hl => match us, hl with | [_], _ => rfl) (fun _ _ _ _ _ _ us hl => match us, hl with | [_], _ => rfl) ?qa ?ql ?qc ?qk
        (case qa => k_is); (case ql => k_is); (case qc => k_is); (case qk => k_is)
      case qd8 =>
        refine' DL.Has.mk' KX G (fun _ _ _ _ _ _ us hl => match us, hl with | [_], _ => rfl) (fun _ _ _ _ _ _ us hl => match us, hl with | [_], _ => rfl) ?qa ?ql ?qc ?qk
        (case qa => k_is); (case ql => k_is); (case qc => k_is); (case qk => k_is)
      case qd9 =>
        refine' DL.Has.mk' KX G (fun _ _ _ _ _ _ us hl => match us, hl with | [_], _ => rfl) (fun _ _ _ _ _ _ us hl => match us, hl with | [_], _ => rfl) ?qa ?ql ?qc ?qk
        (case qa => k_is); (case ql => k_is); (case qc => k_is); (case qk => k_is)
      case qd10 =>
        refine' DL.Has.mk' KX G (fun _ _ _ _ _ _ us hl => match us, hl with | [_], _ => rfl) (fun _ _ _ _ _ _ us hl => match us, hl with | [_], _ => rfl) ?qa ?ql ?qc ?qk
        (case qa => k_is); (case ql => k_is); (case qc => k_is); (case qk => k_is)
      case qd11 =>
        refine' DL.Has.mk' KX G (fun _ _ _ _ _ _ us hl => match us, hl with | [_, _], _ => rfl) (fun _ _ _ _ _ _ us hl => match us, hl with | [_, _], _ => rfl) ?qa ?ql ?qc ?qk
        (case qa => k_is); (case ql => k_is); (case qc => k_is); (case qk => k_is)
      case qd12 =>
        refine' DL.Has.mk' KX G (fun _ _ _ _ _ _ us hl => match us, hl with | [_, _], _ => rfl) (fun _ _ _ _ _ _ us hl => match us, hl with | [_, _], _ => rfl) ?qa ?ql ?qc ?qk
        (case qa => k_is); (case ql => k_is); (case qc => k_is); (case qk => k_is)
      case qd13 =>
        refine' DL.Has.mk' KX G (fun _ _ _ _ _ _ us hl => match us, hl with | [_, _], _ => rfl) (fun _ _ _ _ _ _ us hl => match us, hl with | [_, _], _ => rfl) ?qa ?ql ?qc ?qk
        (case qa => k_is); (case ql => k_is); (case qc => k_is); (case qk => k_is)
      case qd14 =>
        refine' DL.Has.mk' KX G (fun _ _ _ _ _ _ us hl => match us, hl with | [_, _], _ => rfl) (fun _ _ _ _ _ _ us hl => match us, hl with | [_, _], _ => rfl) ?qa ?ql ?qc ?qk
        (case qa => k_is); (case ql => k_is); (case qc => k_is); (case qk => k_is)
      case qd15 =>
        refine' DL.Has.mk' KX G (fun _ _ _ _ _ _ us hl => match us, hl with | [_, _], _ => rfl) (fun _ _ _ _ _ _ us hl => match us, hl with | [_, _], _ => rfl) ?qa ?ql ?qc ?qk
        (case qa => k_is); (case ql => k_is); (case qc => k_is); (case qk => k_is)
      case qd16 =>
        refine' DL.Has.mk' KX G (fun _ _ _ _ _ _ us hl => match us, hl with | [_], _ => rfl) (fun _ _ _ _ _ _ us hl => match us, hl with | [_], _ => rfl) ?qa ?ql ?qc ?qk
        (case qa => k_is); (case ql => k_is); (case qc => k_is); (case qk => k_is)
      case qd17 =>
        refine' DL.Has.mk' KX G (fun _ _ _ _ _ _ us hl => match us, hl with | [_, _, _, _], _ => rfl) (fun _ _ _ _ _ _ us hl => match us, hl with | [_, _, _, _], _ => rfl) ?qa ?ql ?qc ?qk
        (case qa => k_is); (case ql => k_is); (case qc => k_is); (case qk => k_is)
      case qd18 =>
        refine' DL.Has.mk' KX G (fun _ _ _ _ _ _ us hl => match us, hl with | [_, _], _ => rfl) (fun _ _ _ _ _ _ us hl => match us, hl with | [_, _], _ => rfl) ?qa ?ql ?qc ?qk
        (case qa => k_is); (case ql => k_is); (case qc => k_is); (case qk => k_is)
      case qd19 =>
        refine' DL.Has.mk' KX G (fun _ _ _ _ _ _ us hl => match us, hl with | [_, _, _, _], _ => rfl) (fun _ _ _ _ _ _ us hl => match us, hl with | [_, _, _, _], _ => rfl) ?qa ?ql ?qc ?qk
        (case qa => k_is); (case ql => k_is); (case qc => k_is); (case qk => k_is)
      case qd20 =>
        refine' DL.Has.mk' KX G (fun _ _ _ _ _ _ us hl => match us, hl with | [_, _], _ => rfl) (fun _ _ _ _ _ _ us hl => match us, hl with | [_, _], _ => rfl) ?qa ?ql ?qc ?qk
        (case qa => k_is); (case ql => k_is); (case qc => k_is); (case qk => k_is)
      case qd21 =>
        refine' DL.Has.mk' KX G (fun _ _ _ _ _ _ us hl => match us, hl with | [_, _], _ => rfl) (fun _ _ _ _ _ _ us hl => match us, hl with | [_, _], _ => rfl) ?qa ?ql ?qc ?qk
        (case qa => k_is); (case ql => k_is); (case qc => k_is); (case qk => k_is)
      case qd22 =>
        refine' DL.Has.mk' KX G (fun _ _ _ _ _ _ us hl => match us, hl with | [_, _, _], _ => rfl) (fun _ _ _ _ _ _ us hl => match us, hl with | [_, _, _], _ => rfl) ?qa ?ql ?qc ?qk
        (case qa => k_is); (case ql => k_is); (case qc => k_is); (case qk => k_is)
      case qd23 =>
        refine' DL.Has.mk' KX G (fun _ _ _ _ _ _ us hl => match us, hl with | [_, _, _, _], _ => rfl) (fun _ _ _ _ _ _ us hl => match us, hl with | [_, _, _, _], _ => rfl) ?qa ?ql ?qc ?qk
        (case qa => k_is); (case ql => k_is); (case qc => k_is); (case qk => k_is)
      case qd24 =>
        refine' DL.Has.mk' KX G (fun _ _ _ _ _ _ us hl => match us, hl with | [_], _ => rfl) (fun _ _ _ _ _ _ us hl => match us, hl with | [_], _ => rfl) ?qa ?ql ?qc ?qk
        (case qa => k_is); (case ql => k_is); (case qc => k_is); (case qk => k_is)
      case qd25 =>
        refine' DL.Has.mk' KX G (fun _ _ _ _ _ _ us hl => match us, hl with | [_, _], _ => rfl) (fun _ _ _ _ _ _ us hl => match us, hl with | [_, _], _ => rfl) ?qa ?ql ?qc ?qk
        (case qa => k_is); (case ql => k_is); (case qc => k_is); (case qk => k_is)
      case qd26 =>
        refine' DL.Has.mk' KX G (fun _ _ _ _ _ _ us hl => match us, hl with | [_], _ => rfl) (fun _ _ _ _ _ _ us hl => match us, hl with | [_], _ => rfl) ?qa ?ql ?qc ?qk
        (case qa => k_is); (case ql => k_is); (case qc => k_is); (case qk => k_is)
      case qd27 =>
        refine' DL.Has.mk' KX G (fun _ _ _ _ _ _ us hl => match us, hl with | [_, _, _], _ => rfl) (fun _ _ _ _ _ _ us hl => match us, hl with | [_, _, _], _ => rfl) ?qa ?ql ?qc ?qk
        (case qa => k_is); (case ql => k_is); (case qc => k_is); (case qk => k_is)
      case qd28 =>
        refine' DL.Has.mk' KX G (fun _ _ _ _ _ _ us hl => match us, hl with | [_], _ => rfl) (fun _ _ _ _ _ _ us hl => match us, hl with | [_], _ => rfl) ?qa ?ql ?qc ?qk
        (case qa => k_is); (case ql => k_is); (case qc => k_is); (case qk => k_is)
      case qd29 =>
        refine' DL.Has.mk' KX G (fun _ _ _ _ _ _ us hl => match us, hl with | [_], _ => rfl) (fun _ _ _ _ _ _ us hl => match us, hl with | [_], _ => rfl) ?qa ?ql ?qc ?qk
        (case qa => k_is); (case ql => k_is); (case qc => k_is); (case qk => k_is)
      case qd30 =>
        refine' DL.Has.mk' KX G (fun _ _ _ _ _ _ us hl => match us, hl with | [_], _ => rfl) (fun _ _ _ _ _ _ us hl => match us, hl with | [_], _ => rfl) ?qa ?ql ?qc ?qk
        (case qa => k_is); (case ql => k_is); (case qc => k_is); (case qk => k_is)
      case qd31 =>
        refine' DL.Has.mk' KX G (fun _ _ _ _ _ _ us hl => match us, hl with | [_, _], _ => rfl) (fun _ _ _ _ _ _ us hl => match us, hl with | [_, _], _ => rfl) ?qa ?ql ?qc ?qk
        (case qa => k_is); (case ql => k_is); (case qc => k_is); (case qk => k_is)
      case qd32 =>
        refine' DL.Has.mk' KX G (fun _ _ _ _ _ _ us hl => match us, hl with | [_, _], _ => rfl) (fun _ _ _ _ _ _ us hl => match us, hl with | [_, _], _ => rfl) ?qa ?ql ?qc ?qk
        (case qa => k_is); (case ql => k_is); (case qc => k_is); (case qk => k_is)
      case qd33 =>
        refine' DL.Has.mk' KX G (fun _ _ _ _ _ _ us hl => match us, hl with | [_, _], _ => rfl) (fun _ _ _ _ _ _ us hl => match us, hl with | [_, _], _ => rfl) ?qa ?ql ?qc ?qk
        (case qa => k_is); (case ql => k_is); (case qc => k_is); (case qk => k_is)
      case qd34 =>
        refine' DL.Has.mk' KX G (fun _ _ _ _ _ _ us hl => match us, hl with | [_], _ => rfl) (fun _ _ _ _ _ _ us hl => match us, hl with | [_], _ => rfl) ?qa ?ql ?qc ?qk
        (case qa => k_is); (case ql => k_is); (case qc => k_is); (case qk => k_is)
      case qd35 =>
        refine' DL.Has.mk' KX G (fun _ _ _ _ _ _ us hl => match us, hl with | [_], _ => rfl) (fun _ _ _ _ _ _ us hl => match us, hl with | [_], _ => rfl) ?qa ?ql ?qc ?qk
        (case qa => k_is); (case ql => k_is); (case qc => k_is); (case qk => k_is)
      case qd36 =>
        refine' DL.Has.mk' KX G (fun _ _ _ _ _ _ us hl => match us, hl with | [_], _ => rfl) (fun _ _ _ _ _ _ us hl => match us, hl with | [_], _ => rfl) ?qa ?ql ?qc ?qk
        (case qa => k_is); (case ql => k_is); (case qc => k_is); (case qk => k_is)

