import PyProof.Rows.All
import Wide.All
import OpenK.AllK
import Wide.FinOn
import KE.DatumIndex
import HandS.ForMost
import HandS.IsInst
import HandS.Deep
import HandS.Wide
import HandS.Style
import HandS.More
import HandS.TupLe
import HandS.TupAny
import HandS.Gcd
import HandS.RaiseMore
import HandS.Walk
import HandS.Zip
import KE.KRevSl
import KE.GoesEnum
import PyProof.ReprLen
import KE.SortData
import KE.GoesZip
import KE.GoesMore
import KE.KItemsList
import HandS.Conv
import HandS.Small
import PySem.Challenge.RW_bentalike_k05_whole_vertices_and_edges_b
set_option Elab.async false
set_option linter.all false
set_option maxRecDepth 100000
set_option maxHeartbeats 4000000
/-! A layer of data over the hand layer: values as trees of data, slots as data, expressions and statements as
predicate transformers over data. -/
namespace DL
open PySem L2 PyProof.Rows
abbrev Fr_ := PySem.W.Frag
abbrev AS := Addr → Prop
/-- what may change in place -/
def Mu : HO → Prop
  | .lst _ => True
  | .dK _ => True
  | .dT _ => True
  | _ => False
def keyD : Key → PyData
  | .inl i => .int i
  | .inr x => .str x
/-- a list of the module's own, at a heap that tracks nothing -/
def Wr (K : Fr_) (a : Addr) (vs : List V) : Prop := SqL K (fun _ => none) a vs
def QL (K : Fr_) (O : AS) (H : Hp) (a : Addr) (vs : List V) : Prop := (Rd H a (.lst vs) ∧ ¬ O a) ∨ Wr K a vs
theorem QL.sq {K : Fr_} {O : AS} {H : Hp} {a : Addr} {vs : List V} (h : QL K O H a vs) : SqL K H a vs := by
  rcases h with h | (h | ⟨o, h⟩) | h
  · exact .inl h.1
  · cases h
  · cases h
  · exact .inr h
mutual
/-- the value v shows the data d -/
def Rep (K : Fr_) (O : AS) (H : Hp) : PyData → V → Prop
  | .none, v => v = .non
  | .bool b, v => v = .bl b
  | .int i, v => v = .int i
  | .str x, v => v = .str x
  | .list ds, v => ∃ a vs, v = .ref a ∧ QL K O H a vs ∧ Reps K O H ds vs
  | .tuple ds, v => ∃ a vs, v = .ref a ∧ SqT K H a vs ∧ Reps K O H ds vs
  | .dict kvs, v => ∃ a ps, v = .ref a ∧ (Rd H a (.dK ps) ∧ ¬ O a) ∧ Repd K O H kvs ps
def Reps (K : Fr_) (O : AS) (H : Hp) : List PyData → List V → Prop
  | [], vs => vs = []
  | d :: ds, vs => ∃ v r, vs = v :: r ∧ Rep K O H d v ∧ Reps K O H ds r
def Repd (K : Fr_) (O : AS) (H : Hp) : List (PyData × PyData) → List (Key × V) → Prop
  | [], vs => vs = []
  | p :: ds, vs => ∃ k v r, vs = (k, v) :: r ∧ p.1 = keyD k ∧ Rep K O H p.2 v ∧ Repd K O H ds r
end
/-- all but what may be written stays -/
def Step (O : AS) (H H' : Hp) : Prop := ∀ a u, ¬ O a → H a = some u → H' a = some u
def OL (O : AS) (H : Hp) : Prop := ∀ a, O a → ∃ u, H a = some u ∧ Mu u
section
variable {K : Fr_} {O O' : AS} {H H' : Hp}
theorem Rd.step {a : Addr} {u : HO} (s : Step O H H') (n : ¬ O a) (h : Rd H a u) : Rd H' a u := by
  rcases h with h | ⟨o, h⟩
  · exact .inl (s _ _ n h)
  · exact .inr ⟨o, s _ _ n h⟩
theorem QL.step {a : Addr} {vs : List V} (s : Step O H H') (h : QL K O H a vs) : QL K O H' a vs := h.elim (fun h => .inl ⟨Rd.step s h.2 h.1, h.2⟩) .inr
theorem QL.less {a : Addr} {vs : List V} (s : ∀ a, O' a → O a) (h : QL K O H a vs) : QL K O' H a vs := h.elim (fun h => .inl ⟨h.1, fun z => h.2 (s a z)⟩) .inr
theorem SqT.step {a : Addr} {vs : List V} (s : Step O H H') (ol : OL O H) (h : SqT K H a vs) : SqT K H' a vs := by
  rcases h with h | h
  · refine .inl (Rd.step s (fun z => ?_) h)
    obtain ⟨u, hu, mu⟩ := ol a z
    rcases h with h | ⟨o, h⟩ <;> (rw [h] at hu; cases hu; exact mu)
  · exact .inr h
mutual
theorem Rep.step (s : Step O H H') (ol : OL O H) : ∀ (d : PyData) (v : V), Rep K O H d v → Rep K O H' d v
  | .none, v, h => by simp only [Rep] at *; exact h
  | .bool b, v, h => by simp only [Rep] at *; exact h
  | .int i, v, h => by simp only [Rep] at *; exact h
  | .str x, v, h => by simp only [Rep] at *; exact h
  | .list ds, v, h => by
    simp only [Rep] at *
    obtain ⟨a, vs, e, q, r⟩ := h
    exact ⟨a, vs, e, QL.step s q, Reps.step s ol ds vs r⟩
  | .tuple ds, v, h => by
    simp only [Rep] at *
    obtain ⟨a, vs, e, q, r⟩ := h
    exact ⟨a, vs, e, SqT.step s ol q, Reps.step s ol ds vs r⟩
  | .dict kvs, v, h => by
    simp only [Rep] at *
    obtain ⟨a, ps, e, ⟨q, n⟩, r⟩ := h
    exact ⟨a, ps, e, ⟨Rd.step s n q, n⟩, Repd.step s ol kvs ps r⟩
theorem Reps.step (s : Step O H H') (ol : OL O H) : ∀ (ds : List PyData) (vs : List V), Reps K O H ds vs → Reps K O H' ds vs
  | [], vs, h => by simp only [Reps] at *; exact h
  | d :: ds, vs, h => by
    simp only [Reps] at *
    obtain ⟨v, r, e, h1, h2⟩ := h
    exact ⟨v, r, e, Rep.step s ol d v h1, Reps.step s ol ds r h2⟩
theorem Repd.step (s : Step O H H') (ol : OL O H) : ∀ (ds : List (PyData × PyData)) (vs : List (Key × V)), Repd K O H ds vs → Repd K O H' ds vs
  | [], vs, h => by simp only [Repd] at *; exact h
  | p :: ds, vs, h => by
    simp only [Repd] at *
    obtain ⟨k, v, r, e, e2, h1, h2⟩ := h
    exact ⟨k, v, r, e, e2, Rep.step s ol p.2 v h1, Repd.step s ol ds r h2⟩
end
mutual
theorem Rep.less (s : ∀ a, O' a → O a) : ∀ (d : PyData) (v : V), Rep K O H d v → Rep K O' H d v
  | .none, v, h => by simp only [Rep] at *; exact h
  | .bool b, v, h => by simp only [Rep] at *; exact h
  | .int i, v, h => by simp only [Rep] at *; exact h
  | .str x, v, h => by simp only [Rep] at *; exact h
  | .list ds, v, h => by
    simp only [Rep] at *
    obtain ⟨a, vs, e, q, r⟩ := h
    exact ⟨a, vs, e, QL.less s q, Reps.less s ds vs r⟩
  | .tuple ds, v, h => by
    simp only [Rep] at *
    obtain ⟨a, vs, e, q, r⟩ := h
    exact ⟨a, vs, e, q, Reps.less s ds vs r⟩
  | .dict kvs, v, h => by
    simp only [Rep] at *
    obtain ⟨a, ps, e, ⟨q, n⟩, r⟩ := h
    exact ⟨a, ps, e, ⟨q, fun z => n (s a z)⟩, Repd.less s kvs ps r⟩
theorem Reps.less (s : ∀ a, O' a → O a) : ∀ (ds : List PyData) (vs : List V), Reps K O H ds vs → Reps K O' H ds vs
  | [], vs, h => by simp only [Reps] at *; exact h
  | d :: ds, vs, h => by
    simp only [Reps] at *
    obtain ⟨v, r, e, h1, h2⟩ := h
    exact ⟨v, r, e, Rep.less s d v h1, Reps.less s ds r h2⟩
theorem Repd.less (s : ∀ a, O' a → O a) : ∀ (ds : List (PyData × PyData)) (vs : List (Key × V)), Repd K O H ds vs → Repd K O' H ds vs
  | [], vs, h => by simp only [Repd] at *; exact h
  | p :: ds, vs, h => by
    simp only [Repd] at *
    obtain ⟨k, v, r, e, e2, h1, h2⟩ := h
    exact ⟨k, v, r, e, e2, Rep.less s p.2 v h1, Repd.less s ds r h2⟩
end

/-- a new address is in no data that stood before -/
def With (O : AS) (p : Addr) : AS := fun a => O a ∨ a = p
theorem Rd.there {a : Addr} {u : HO} (h : Rd H a u) {p : Addr} (n : H p = none) : a ≠ p := by
  rintro rfl
  rcases h with h | ⟨o, h⟩ <;> (rw [h] at n; cases n)
theorem QL.fw {a : Addr} {vs : List V} (hn : ∀ a, O' a → O a ∨ H a = none) (s : Step O H H') (h : QL K O H a vs) : QL K O' H' a vs := h.elim (fun h => .inl ⟨Rd.step s h.2 h.1, fun z => (hn a z).elim h.2 fun n => Rd.there h.1 n rfl⟩) .inr
mutual
theorem Rep.fw (hn : ∀ a, O' a → O a ∨ H a = none) (s : Step O H H') (ol : OL O H) : ∀ (d : PyData) (v : V), Rep K O H d v → Rep K O' H' d v
  | .none, v, h => by simp only [Rep] at *; exact h
  | .bool b, v, h => by simp only [Rep] at *; exact h
  | .int i, v, h => by simp only [Rep] at *; exact h
  | .str x, v, h => by simp only [Rep] at *; exact h
  | .list ds, v, h => by
    simp only [Rep] at *
    obtain ⟨a, vs, e, q, r⟩ := h
    exact ⟨a, vs, e, QL.fw hn s q, Reps.fw hn s ol ds vs r⟩
  | .tuple ds, v, h => by
    simp only [Rep] at *
    obtain ⟨a, vs, e, q, r⟩ := h
    exact ⟨a, vs, e, SqT.step s ol q, Reps.fw hn s ol ds vs r⟩
  | .dict kvs, v, h => by
    simp only [Rep] at *
    obtain ⟨a, ps, e, ⟨q, m⟩, r⟩ := h
    exact ⟨a, ps, e, ⟨Rd.step s m q, fun z => (hn a z).elim m fun n => Rd.there q n rfl⟩, Repd.fw hn s ol kvs ps r⟩
theorem Reps.fw (hn : ∀ a, O' a → O a ∨ H a = none) (s : Step O H H') (ol : OL O H) : ∀ (ds : List PyData) (vs : List V), Reps K O H ds vs → Reps K O' H' ds vs
  | [], vs, h => by simp only [Reps] at *; exact h
  | d :: ds, vs, h => by
    simp only [Reps] at *
    obtain ⟨v, r, e, h1, h2⟩ := h
    exact ⟨v, r, e, Rep.fw hn s ol d v h1, Reps.fw hn s ol ds r h2⟩
theorem Repd.fw (hn : ∀ a, O' a → O a ∨ H a = none) (s : Step O H H') (ol : OL O H) : ∀ (ds : List (PyData × PyData)) (vs : List (Key × V)), Repd K O H ds vs → Repd K O' H' ds vs
  | [], vs, h => by simp only [Repd] at *; exact h
  | q :: ds, vs, h => by
    simp only [Repd] at *
    obtain ⟨k, v, r, e, e2, h1, h2⟩ := h
    exact ⟨k, v, r, e, e2, Rep.fw hn s ol q.2 v h1, Repd.fw hn s ol ds r h2⟩
end
/-! ### rows of values -/
theorem Reps.len : ∀ {ds : List PyData} {vs : List V}, Reps K O H ds vs → vs.length = ds.length
  | [], _, h => by simp only [Reps] at h; subst h; rfl
  | d :: ds, _, h => by
    simp only [Reps] at h
    obtain ⟨v, r, rfl, _, h2⟩ := h
    simp [Reps.len h2]
theorem Reps.at : ∀ {ds : List PyData} {vs : List V} {i : Nat} {d : PyData}, Reps K O H ds vs → ds[i]? = some d → ∃ v, vs[i]? = some v ∧ Rep K O H d v
  | [], _, i, d, h, e => by simp at e
  | d' :: ds, _, 0, d, h, e => by
    simp only [Reps] at h
    obtain ⟨v, r, rfl, h1, h2⟩ := h
    simp at e; subst e
    exact ⟨v, rfl, h1⟩
  | d' :: ds, _, i + 1, d, h, e => by
    simp only [Reps] at h
    obtain ⟨v, r, rfl, h1, h2⟩ := h
    simp at e
    obtain ⟨v', e', h'⟩ := Reps.at h2 e
    exact ⟨v', by simpa using e', h'⟩
theorem Reps.app : ∀ {ds es : List PyData} {vs ws : List V}, Reps K O H ds vs → Reps K O H es ws → Reps K O H (ds ++ es) (vs ++ ws)
  | [], es, vs, ws, h, g => by simp only [Reps] at h; subst h; exact g
  | d :: ds, es, vs, ws, h, g => by
    simp only [Reps] at h
    obtain ⟨v, r, rfl, h1, h2⟩ := h
    simp only [List.cons_append, Reps]
    exact ⟨v, r ++ ws, rfl, h1, Reps.app h2 g⟩
theorem Reps.drop : ∀ {ds : List PyData} {vs : List V} (n : Nat), Reps K O H ds vs → Reps K O H (ds.drop n) (vs.drop n)
  | ds, vs, 0, h => by simpa using h
  | [], vs, n + 1, h => by simp only [Reps] at h; subst h; simp [Reps]
  | d :: ds, vs, n + 1, h => by
    simp only [Reps] at h
    obtain ⟨v, r, rfl, h1, h2⟩ := h
    simpa using Reps.drop n h2
theorem Reps.take : ∀ {ds : List PyData} {vs : List V} (n : Nat), Reps K O H ds vs → Reps K O H (ds.take n) (vs.take n)
  | ds, vs, 0, h => by simp [Reps]
  | [], vs, n + 1, h => by simp only [Reps] at h; subst h; simp [Reps]
  | d :: ds, vs, n + 1, h => by
    simp only [Reps] at h
    obtain ⟨v, r, rfl, h1, h2⟩ := h
    simp only [List.take_succ_cons, Reps]
    exact ⟨v, r.take n, rfl, h1, Reps.take n h2⟩
theorem Reps.set : ∀ {ds : List PyData} {vs : List V} (n : Nat) {d : PyData} {v : V}, Reps K O H ds vs → Rep K O H d v → Reps K O H (ds.set n d) (vs.set n v)
  | [], vs, n, d, v, h, g => by simp only [Reps] at h; subst h; simp [Reps]
  | d' :: ds, vs, 0, d, v, h, g => by
    simp only [Reps] at h
    obtain ⟨v', r, rfl, h1, h2⟩ := h
    simp only [List.set_cons_zero, Reps]
    exact ⟨v, r, rfl, g, h2⟩
  | d' :: ds, vs, n + 1, d, v, h, g => by
    simp only [Reps] at h
    obtain ⟨v', r, rfl, h1, h2⟩ := h
    simp only [List.set_cons_succ, Reps]
    exact ⟨v', r.set n v, rfl, h1, Reps.set n h2 g⟩
theorem Reps.ints : ∀ {ns : List Int} {vs : List V}, Reps K O H (ns.map PyData.int) vs → vs = ns.map V.int
  | [], vs, h => by simpa [Reps] using h
  | n :: ns, vs, h => by
    simp only [List.map_cons, Reps, Rep] at h
    obtain ⟨v, r, rfl, rfl, h2⟩ := h
    rw [Reps.ints h2]; rfl
theorem Reps.bools : ∀ {ns : List Bool} {vs : List V}, Reps K O H (ns.map PyData.bool) vs → vs = ns.map V.bl
  | [], vs, h => by simpa [Reps] using h
  | n :: ns, vs, h => by
    simp only [List.map_cons, Reps, Rep] at h
    obtain ⟨v, r, rfl, rfl, h2⟩ := h
    rw [Reps.bools h2]; rfl
theorem Reps.of_ints : ∀ (ns : List Int), Reps K O H (ns.map PyData.int) (ns.map V.int)
  | [] => by simp [Reps]
  | n :: ns => by simp only [List.map_cons, Reps, Rep]; exact ⟨_, _, rfl, rfl, Reps.of_ints ns⟩
end
end DL

namespace DL
open PySem L2 PyProof.Rows
/-- what a slot holds: nothing that is known, data, a list of this def's own that may be changed, the well -/
inductive Sl where
  | un | dat (d : PyData) | own (xs : List PyData) | wel | dct (kvs : List (List Key × PyData))
abbrev Rho := List Sl
abbrev SW := List Int
/-- an expression's transformer -/
abbrev FE := Rho → SW → (PyData → SW → Prop) → Prop
/-- rows of arguments -/
abbrev FA := Rho → SW → (List Sl → SW → Prop) → Prop
/-- the addresses that may still be written: the callers', this def's own -/
def OO (Oc : AS) (σ : L2.St) (ρ : Rho) : AS := fun a => Oc a ∨ ∃ (i : Nat) (xs : List PyData), ρ[i]? = some (Sl.own xs) ∧ σ[i]? = some (some (.ref a))
/-- all stands but the well -/
def Gr (w : Option Addr) (H H' : Hp) : Prop := ∀ a u, w ≠ some a → H a = some u → H' a = some u
/-- a dict's entries: keys of ints and texts in a row, data -/
def DRep (K : Fr_) (O : AS) (H : Hp) (kvs : List (List Key × PyData)) (ws : List (List Key × V)) : Prop := ws.map (·.1) = kvs.map (·.1) ∧ Reps K O H (kvs.map (·.2)) (ws.map (·.2))
/-- the dicts of one's own -/
def Dcts (K : Fr_) (Oc O : AS) (σ : L2.St) (H : Hp) (ρ : Rho) : Prop :=
  (∀ (i : Nat) (kvs : List (List Key × PyData)), ρ[i]? = some (Sl.dct kvs) → ∃ a ws, σ[i]? = some (some (.ref a)) ∧ H a = some (.dT ws) ∧ Oc a ∧ DRep K O H kvs ws) ∧
  ∀ (i j : Nat) (ks ls : List (List Key × PyData)) (a : Addr), ρ[i]? = some (Sl.dct ks) → ρ[j]? = some (Sl.dct ls) → σ[i]? = some (some (.ref a)) → σ[j]? = some (some (.ref a)) → i = j
theorem Dcts.to {K : Fr_} {Oc Oc' O O' : AS} {σ σ' : L2.St} {H H' : Hp} {ρ ρ' : Rho} (h : Dcts K Oc O σ H ρ) (bk : ∀ (j : Nat) (kvs : List (List Key × PyData)), ρ'[j]? = some (Sl.dct kvs) → ρ[j]? = some (Sl.dct kvs) ∧ σ'[j]? = σ[j]?)
    (hp : ∀ a ws, H a = some (.dT ws) → Oc a → H' a = some (.dT ws) ∧ Oc' a) (hr : ∀ ds vs, Reps K O H ds vs → Reps K O' H' ds vs) : Dcts K Oc' O' σ' H' ρ' := by
  refine ⟨fun i kvs hi => ?_, fun i j ks ls a h1 h2 h3 h4 => ?_⟩
  · obtain ⟨q1, q2⟩ := bk i kvs hi
    obtain ⟨a, ws, e1, e2, e3, e4⟩ := h.1 i kvs q1
    exact ⟨a, ws, by rw [q2]; exact e1, (hp a ws e2 e3).1, (hp a ws e2 e3).2, e4.1, hr _ _ e4.2⟩
  · obtain ⟨q1, q2⟩ := bk i ks h1
    obtain ⟨q3, q4⟩ := bk j ls h2
    exact h.2 i j ks ls a q1 q3 (by rw [← q2]; exact h3) (by rw [← q4]; exact h4)
structure EV (K : Fr_) (Oc : AS) (w : Option Addr) (σ : L2.St) (H : Hp) (ρ : Rho) (S : SW) : Prop where
  len : ρ.length = σ.length
  dat : ∀ (i : Nat) (d : PyData), ρ[i]? = some (Sl.dat d) → ∃ v, σ[i]? = some (some v) ∧ Rep K (OO Oc σ ρ) H d v
  own : ∀ (i : Nat) (xs : List PyData), ρ[i]? = some (Sl.own xs) → ∃ a vs, σ[i]? = some (some (.ref a)) ∧ H a = some (.lst vs) ∧ ¬ Oc a ∧ Reps K (OO Oc σ ρ) H xs vs
  inj : ∀ (i j : Nat) (xs ys : List PyData) (a : Addr), ρ[i]? = some (Sl.own xs) → ρ[j]? = some (Sl.own ys) → σ[i]? = some (some (.ref a)) → σ[j]? = some (some (.ref a)) → i = j
  wel : ∀ (i : Nat), ρ[i]? = some Sl.wel → ∃ a, w = some a ∧ σ[i]? = some (some (.ref a))
  ws : ∀ a, w = some a → Oc a ∧ H a = some (.lst (S.map V.int))
  ol : OL Oc H
  dct : Dcts K Oc (OO Oc σ ρ) σ H ρ
section
variable {K : Fr_} {Oc : AS} {w : Option Addr} {H H' H'' : Hp} {σ : L2.St} {ρ : Rho} {S S' : SW}
theorem Gr.refl : Gr w H H := fun _ _ _ h => h
theorem Gr.trans (a : Gr w H H') (b : Gr w H' H'') : Gr w H H'' := fun c u n h => b c u n (a c u n h)
theorem Gr.of (a : Same H H') : Gr w H H' := fun c u _ h => a c u h
theorem EV.Ool (e : EV K Oc w σ H ρ S) : OL (OO Oc σ ρ) H := by
  rintro a (h | ⟨i, xs, h1, h2⟩)
  · exact e.ol a h
  · obtain ⟨b, vs, hb, hl, _⟩ := e.own i xs h1
    rw [h2] at hb
    cases hb
    exact ⟨_, hl, trivial⟩
theorem EV.nw (e : EV K Oc w σ H ρ S) {a : Addr} (h : ¬ Oc a) : w ≠ some a := fun z => h (e.ws a z).1
theorem EV.stepO (e : EV K Oc w σ H ρ S) (g : Gr w H H') : Step (OO Oc σ ρ) H H' := fun a u n h => g a u (fun z => n (.inl (e.ws a z).1)) h
/-- behind an expression -/
theorem EV.go (e : EV K Oc w σ H ρ S) (g : Gr w H H') (hs : ∀ a, w = some a → H' a = some (.lst (S'.map V.int))) : EV K Oc w σ H' ρ S' where
  len := e.len
  dat := fun i d h => by
    obtain ⟨v, hv, r⟩ := e.dat i d h
    exact ⟨v, hv, Rep.step (e.stepO g) e.Ool d v r⟩
  own := fun i xs h => by
    obtain ⟨a, vs, h1, h2, h3, h4⟩ := e.own i xs h
    exact ⟨a, vs, h1, g a _ (e.nw h3) h2, h3, Reps.step (e.stepO g) e.Ool xs vs h4⟩
  inj := e.inj
  wel := e.wel
  ws := fun a h => ⟨(e.ws a h).1, hs a h⟩
  ol := fun a h => by
    by_cases hw : w = some a
    · exact ⟨_, hs a hw, trivial⟩
    · obtain ⟨u, hu, mu⟩ := e.ol a h
      exact ⟨u, g a u hw hu, mu⟩
  dct := e.dct.to (fun j kvs h => ⟨h, rfl⟩) (fun a ws h o => ⟨g a _ (fun z => by rw [(e.ws a z).2] at h; cases h) h, o⟩) fun ds vs => Reps.step (e.stepO g) e.Ool ds vs
theorem EV.same (e : EV K Oc w σ H ρ S) (g : Same H H') : EV K Oc w σ H' ρ S := e.go (Gr.of g) fun a h => g a _ (e.ws a h).2
/-- borrowed: data, or the list of one's own in a slot -/
def RepB (K : Fr_) (O : AS) (w : Option Addr) (H : Hp) (d : PyData) (v : V) : Prop :=
  Rep K O H d v ∨ ∃ a vs ds, d = .list ds ∧ v = .ref a ∧ w ≠ some a ∧ H a = some (.lst vs) ∧ Reps K O H ds vs
theorem RepB.go {O : AS} {d : PyData} {v : V} (s : Step O H H') (ol : OL O H) (g : Gr w H H') (h : RepB K O w H d v) : RepB K O w H' d v := by
  rcases h with h | ⟨a, vs, ds, e1, e2, n, h1, h2⟩
  · exact .inl (Rep.step s ol d v h)
  · exact .inr ⟨a, vs, ds, e1, e2, n, g _ _ n h1, Reps.step s ol ds vs h2⟩
theorem RepB.lst {O : AS} {ds : List PyData} {v : V} (h : RepB K O w H (.list ds) v) : ∃ a vs, v = .ref a ∧ SqL K H a vs ∧ Reps K O H ds vs := by
  rcases h with h | ⟨a, vs, ds', e1, e2, n, h1, h2⟩
  · simp only [Rep] at h
    obtain ⟨a, vs, e, q, r⟩ := h
    exact ⟨a, vs, e, q.sq, r⟩
  · cases e1
    exact ⟨a, vs, e2, SqL.of h1, h2⟩
theorem RepB.tup {O : AS} {ds : List PyData} {v : V} (h : RepB K O w H (.tuple ds) v) : ∃ a vs, v = .ref a ∧ SqT K H a vs ∧ Reps K O H ds vs := by
  rcases h with h | ⟨a, vs, ds', e1, e2, n, h1, h2⟩
  · simpa only [Rep] using h
  · cases e1
theorem RepB.int {O : AS} {i : Int} {v : V} (h : RepB K O w H (.int i) v) : v = .int i := by
  rcases h with h | ⟨a, vs, ds', e1, _⟩
  · simpa only [Rep] using h
  · cases e1
theorem RepB.bool {O : AS} {i : Bool} {v : V} (h : RepB K O w H (.bool i) v) : v = .bl i := by
  rcases h with h | ⟨a, vs, ds', e1, _⟩
  · simpa only [Rep] using h
  · cases e1
theorem RepB.str {O : AS} {i : Str} {v : V} (h : RepB K O w H (.str i) v) : v = .str i := by
  rcases h with h | ⟨a, vs, ds', e1, _⟩
  · simpa only [Rep] using h
  · cases e1
theorem RepB.non {O : AS} {v : V} (h : RepB K O w H .none v) : v = .non := by
  rcases h with h | ⟨a, vs, ds', e1, _⟩
  · simpa only [Rep] using h
  · cases e1
end
def asB : PyData → (Bool → Prop) → Prop
  | .bool b, k => k b
  | _, _ => False
def asI : PyData → (Int → Prop) → Prop
  | .int i, k => k i
  | _, _ => False
theorem asB_inv {d : PyData} {k : Bool → Prop} (h : asB d k) : ∃ b, d = .bool b ∧ k b := by
  cases d <;> simp only [asB] at h <;> first | exact h.elim | exact ⟨_, rfl, h⟩
theorem asI_inv {d : PyData} {k : Int → Prop} (h : asI d k) : ∃ b, d = .int b ∧ k b := by
  cases d <;> simp only [asI] at h <;> first | exact h.elim | exact ⟨_, rfl, h⟩
/-! ### readings -/
def rd (K : Fr_) (f : FE) : TE := fun σ H Q => ∃ Oc w ρ S R, EV K Oc w σ H ρ S ∧ f ρ S R ∧
  ∀ d S' v H', EV K Oc w σ H' ρ S' → Gr w H H' → Rep K (OO Oc σ ρ) H' d v → R d S' → Q v H'
/-- .. of an expression whose value is looked at, not kept -/
def rb (K : Fr_) (f : FE) : TE := fun σ H Q => ∃ Oc w ρ S R, EV K Oc w σ H ρ S ∧ f ρ S R ∧
  ∀ d S' v H', EV K Oc w σ H' ρ S' → Gr w H H' → RepB K (OO Oc σ ρ) w H' d v → R d S' → Q v H'
/-- .. of a new list -/
def rn (K : Fr_) (f : FE) : TE := fun σ H Q => ∃ Oc w ρ S R, EV K Oc w σ H ρ S ∧ f ρ S R ∧
  ∀ ds S' p vs H', EV K Oc w σ H' ρ S' → Gr w H H' → H p = none → H' p = some (.lst vs) → Reps K (With (OO Oc σ ρ) p) H' ds vs → R (.list ds) S' → Q (.ref p) H'
/-- .. of a test -/
def rt (K : Fr_) (f : FE) : TT := fun σ H Q => ∃ Oc w ρ S, ∃ R : Bool → SW → Prop, EV K Oc w σ H ρ S ∧ f ρ S (fun d S' => asB d fun b => R b S') ∧
  ∀ b S' H', EV K Oc w σ H' ρ S' → Gr w H H' → R b S' → Q b H'
section
variable {X : Cx} {e a b c : Expr} {pos : Pos} {f fa fb fc : FE}
theorem PE.imp {t t' : TE} (h : PE X e t) (i : ∀ σ H Q, t' σ H Q → t σ H Q) : PE X e t' := ⟨fun pins s σ H Q I q => h.run pins s σ H Q I (i σ H Q q)⟩
theorem PT.imp {t t' : TT} (h : PT X e t) (i : ∀ σ H Q, t' σ H Q → t σ H Q) : PT X e t' := ⟨fun pins s σ H Q I q => h.run pins s σ H Q I (i σ H Q q)⟩
theorem PW.imp {t t' : TT} (h : PW X e t) (i : ∀ σ H Q, t' σ H Q → t σ H Q) : PW X e t' := ⟨fun wh pins s σ H Q I q => h.run wh pins s σ H Q I (i σ H Q q)⟩
theorem PA.imp {es : List Expr} {t t' : TA} (h : PA X es t) (i : ∀ σ H Q, t' σ H Q → t σ H Q) : PA X es t' := ⟨fun ps pins s σ H Q I q => h.run ps pins s σ H Q I (i σ H Q q)⟩
theorem PS.imp {st : Stmt} {t t' : TS} (h : PS X st t) (i : ∀ D σ H, t' D σ H → t D σ H) : PS X st t' := ⟨fun pins s σ H D I q => h.run pins s σ H D I (i D σ H q)⟩
theorem PSs.imp {st : List Stmt} {t t' : TS} (h : PSs X st t) (i : ∀ D σ H, t' D σ H → t D σ H) : PSs X st t' := ⟨fun pins s σ H D I q => h.run pins s σ H D I (i D σ H q)⟩
/-- kept is looked at -/
theorem b_of (h : PE X e (rd X.K f)) : PE X e (rb X.K f) := PE.imp h fun σ H Q ⟨Oc, w, ρ, S, R, ev, hf, k⟩ =>
  ⟨Oc, w, ρ, S, R, ev, hf, fun d S' v H' ev' g r q => k d S' v H' ev' g (.inl r) q⟩
theorem Reps.less' {K : Fr_} {O : AS} {p : Addr} {H : Hp} {ds : List PyData} {vs : List V} (h : Reps K (With O p) H ds vs) : Reps K O H ds vs := Reps.less (fun a z => .inl z) ds vs h
/-- a new list as a value -/
theorem d_of_n (h : PE X e (rn X.K f)) : PE X e (rd X.K f) := PE.imp h fun σ H Q ⟨Oc, w, ρ, S, R, ev, hf, k⟩ =>
  ⟨Oc, w, ρ, S, R, ev, hf, fun ds S' p vs H' ev' g n hp r q => k (.list ds) S' (.ref p) H' ev' g (by
    simp only [Rep]
    refine ⟨p, vs, rfl, .inl ⟨.inl hp, fun z => ?_⟩, Reps.less' r⟩
    obtain ⟨u, hu, _⟩ := ev.Ool p z
    rw [hu] at n
    cases n) q⟩
/-- a value that is a truth, as a test -/
theorem t_val (h : PE X e (rb X.K f)) (he : ∀ whole, isTrue e X.env whole = (do let v ← whole; standAt e.pos; holding [v] (truthy v)) := by intro _; rfl) : PT X e (rt X.K f) :=
  PT.imp (pt_val h he) fun σ H Q ⟨Oc, w, ρ, S, R, ev, hf, k⟩ =>
    ⟨Oc, w, ρ, S, _, ev, hf, fun d S' v H' ev' g r q => by
      obtain ⟨b, rfl, q⟩ := asB_inv q
      exact ⟨b, r.bool, k b S' H' ev' g q⟩⟩
/-! ### names, constants -/
def fVar (i : Nat) : FE := fun ρ S R => match ρ[i]? with
  | some (.dat d) => R d S
  | _ => False
def fVarB (i : Nat) : FE := fun ρ S R => match ρ[i]? with
  | some (.dat d) => R d S
  | some (.own xs) => R (.list xs) S
  | _ => False
def fC (d : PyData) : FE := fun _ S R => R d S
theorem d_var (i : Nat) {x : Str} (hN : X.N[i]? = some x := by rfl) (hv : Vis X.env.scope x := by first | exact Or.inl rfl | exact Or.inr (Or.inl rfl) | exact Or.inr (Or.inr rfl)) (hd : (x == ("__debug__" : Str)) = false := by decide)
    (hcd : (x == ("__classdict__" : Str)) = false := by decide) : PE X (.Name x pos) (rd X.K (fVar i)) := PE.imp (pe_var (i := i) hN hv hd hcd) fun σ H Q ⟨Oc, w, ρ, S, R, ev, hf, k⟩ => by
  unfold fVar at hf
  split at hf
  · rename_i d hd
    obtain ⟨v, hv, r⟩ := ev.dat i d hd
    exact ⟨v, hv, k d S v H ev Gr.refl r hf⟩
  · exact hf.elim
theorem b_var (i : Nat) {x : Str} (hN : X.N[i]? = some x := by rfl) (hv : Vis X.env.scope x := by first | exact Or.inl rfl | exact Or.inr (Or.inl rfl) | exact Or.inr (Or.inr rfl)) (hd : (x == ("__debug__" : Str)) = false := by decide)
    (hcd : (x == ("__classdict__" : Str)) = false := by decide) : PE X (.Name x pos) (rb X.K (fVarB i)) := PE.imp (pe_var (i := i) hN hv hd hcd) fun σ H Q ⟨Oc, w, ρ, S, R, ev, hf, k⟩ => by
  unfold fVarB at hf
  split at hf
  · rename_i d hd
    obtain ⟨v, hv, r⟩ := ev.dat i d hd
    exact ⟨v, hv, k d S v H ev Gr.refl (.inl r) hf⟩
  · rename_i xs hx
    obtain ⟨a, vs, h1, h2, h3, h4⟩ := ev.own i xs hx
    exact ⟨_, h1, k (.list xs) S _ H ev Gr.refl (.inr ⟨a, vs, xs, rfl, rfl, ev.nw h3, h2, h4⟩) hf⟩
  · exact hf.elim
theorem rd_c {v : V} {d : PyData} (h : ∀ O H, Rep X.K O H d v) : ∀ σ H Q, rd X.K (fC d) σ H Q → tC v σ H Q := fun σ H Q ⟨Oc, w, ρ, S, R, ev, hf, k⟩ => k d S v H ev Gr.refl (h _ _) hf
theorem d_int {i : Int} {j : Nat} : PE X (.Constant (.int i) j pos) (rd X.K (fC (.int i))) := PE.imp pe_int (rd_c fun _ _ => by simp only [Rep])
theorem d_bool {i : Bool} {j : Nat} : PE X (.Constant (.bool i) j pos) (rd X.K (fC (.bool i))) := PE.imp pe_bl (rd_c fun _ _ => by simp only [Rep])
theorem d_none {j : Nat} : PE X (.Constant .none j pos) (rd X.K (fC .none)) := PE.imp pe_non (rd_c fun _ _ => by simp only [Rep])
theorem d_str {x : Str} {j : Nat} : PE X (.Constant (.str x) j pos) (rd X.K (fC (.str x))) := PE.imp pe_str (rd_c fun _ _ => by simp only [Rep])
/-- a constant of the module -/
def GlobD (K : Fr_) (mg : Str → Option Value) (x : Str) (d : PyData) : Prop := ∃ v u, mg x = some u ∧ RelV v u ∧ ∀ O H, Rep K O H d v
theorem d_glob {x : Str} {d : PyData} (h : GlobD X.K X.mg x d) (hg : Gl X x := by rfl) (hd : (x == ("__debug__" : Str)) = false := by decide) : PE X (.Name x pos) (rd X.K (fC d)) := by
  obtain ⟨v, u, h1, h2, h3⟩ := h
  exact PE.imp (pe_glob hg h1 h2 hd) (rd_c h3)
end
end DL

namespace DL
open PySem L2 PyProof.Rows
/-! ### operations on data -/
abbrev O1 := PyData → (PyData → Prop) → Prop
abbrev O2 := PyData → PyData → (PyData → Prop) → Prop
def fOp (o : O2) (fa fb : FE) : FE := fun ρ S R => fa ρ S fun x S1 => fb ρ S1 fun y S2 => o x y fun d => R d S2
def fUn (o : O1) (fa : FE) : FE := fun ρ S R => fa ρ S fun x S1 => o x fun d => R d S1
/-- what an operation's rule gives, in data -/
structure OpS (K : Fr_) (r : R2) (o : O2) : Prop where
  run : ∀ {O : AS} {w : Option Addr} {H : Hp} {x y : PyData} {vx vy : V} {R : PyData → Prop} {Q : VK}, OL O H → RepB K O w H x vx → RepB K O w H y vy → o x y R →
    (∀ d v H', Same H H' → Rep K O H' d v → R d → Q v H') → r vx vy H Q
structure UnS (K : Fr_) (r : V → Hp → VK → Prop) (o : O1) : Prop where
  run : ∀ {O : AS} {w : Option Addr} {H : Hp} {x : PyData} {vx : V} {R : PyData → Prop} {Q : VK}, OL O H → RepB K O w H x vx → o x R →
    (∀ d v H', Same H H' → Rep K O H' d v → R d → Q v H') → r vx H Q
/-- .. a new list -/
structure UnN (K : Fr_) (r : V → Hp → VK → Prop) (o : O1) : Prop where
  run : ∀ {O : AS} {w : Option Addr} {H : Hp} {x : PyData} {vx : V} {R : PyData → Prop} {Q : VK}, OL O H → RepB K O w H x vx → o x R →
    (∀ ds p vs H', Same H H' → H p = none → H' p = some (.lst vs) → Reps K (With O p) H' ds vs → R (.list ds) → Q (.ref p) H') → r vx H Q
structure OpN (K : Fr_) (r : R2) (o : O2) : Prop where
  run : ∀ {O : AS} {w : Option Addr} {H : Hp} {x y : PyData} {vx vy : V} {R : PyData → Prop} {Q : VK}, OL O H → RepB K O w H x vx → RepB K O w H y vy → o x y R →
    (∀ ds p vs H', Same H H' → H p = none → H' p = some (.lst vs) → Reps K (With O p) H' ds vs → R (.list ds) → Q (.ref p) H') → r vx vy H Q
section
variable {K : Fr_} {O : AS} {w : Option Addr} {H H' : Hp}
theorem free_of {Oc : AS} {σ : L2.St} {ρ : Rho} {S : SW} {p : Addr} (e : EV K Oc w σ H' ρ S) (g : Gr w H H') (n : H' p = none) : H p = none := by
  cases q : H p with
  | none => rfl
  | some u =>
    by_cases hw : w = some p
    · rw [(e.ws p hw).2] at n
      cases n
    · rw [g p u hw q] at n
      cases n
variable {fa fb fc : FE} {r r' : R2} {o o' : O2} {ru : V → Hp → VK → Prop} {ou : O1}
theorem rd_op (s : OpS K r o) {σ : L2.St} {Q : VK} (h : rd K (fOp o fa fb) σ H Q) : tOp r (rb K fa) (rb K fb) σ H Q := by
  obtain ⟨Oc, w, ρ, S, R, ev, hf, k⟩ := h
  exact ⟨Oc, w, ρ, S, _, ev, hf, fun x S1 vx H1 ev1 g1 rx h1 => ⟨Oc, w, ρ, S1, _, ev1, h1, fun y S2 vy H2 ev2 g2 ry h2 =>
    s.run ev2.Ool (RepB.go (ev1.stepO g2) ev1.Ool g2 rx) ry h2 fun d v H3 sm rv q => k d S2 v H3 (ev2.same sm) ((g1.trans g2).trans (Gr.of sm)) rv q⟩⟩
theorem rn_op (s : OpN K r o) {σ : L2.St} {Q : VK} (h : rn K (fOp o fa fb) σ H Q) : tOp r (rb K fa) (rb K fb) σ H Q := by
  obtain ⟨Oc, w, ρ, S, R, ev, hf, k⟩ := h
  exact ⟨Oc, w, ρ, S, _, ev, hf, fun x S1 vx H1 ev1 g1 rx h1 => ⟨Oc, w, ρ, S1, _, ev1, h1, fun y S2 vy H2 ev2 g2 ry h2 =>
    s.run ev2.Ool (RepB.go (ev1.stepO g2) ev1.Ool g2 rx) ry h2 fun ds p vs H3 sm n hp rv q => k ds S2 p vs H3 (ev2.same sm) ((g1.trans g2).trans (Gr.of sm)) (free_of ev2 (g1.trans g2) n) hp rv q⟩⟩
theorem rd_un (s : UnS K ru ou) {σ : L2.St} {Q : VK} (h : rd K (fUn ou fa) σ H Q) : rb K fa σ H fun x H1 => ru x H1 Q := by
  obtain ⟨Oc, w, ρ, S, R, ev, hf, k⟩ := h
  exact ⟨Oc, w, ρ, S, _, ev, hf, fun x S1 vx H1 ev1 g1 rx h1 =>
    s.run ev1.Ool rx h1 fun d v H3 sm rv q => k d S1 v H3 (ev1.same sm) (g1.trans (Gr.of sm)) rv q⟩
theorem rn_un (s : UnN K ru ou) {σ : L2.St} {Q : VK} (h : rn K (fUn ou fa) σ H Q) : rb K fa σ H fun x H1 => ru x H1 Q := by
  obtain ⟨Oc, w, ρ, S, R, ev, hf, k⟩ := h
  exact ⟨Oc, w, ρ, S, _, ev, hf, fun x S1 vx H1 ev1 g1 rx h1 =>
    s.run ev1.Ool rx h1 fun ds p vs H3 sm n hp rv q => k ds S1 p vs H3 (ev1.same sm) (g1.trans (Gr.of sm)) (free_of ev1 g1 n) hp rv q⟩
/-- a comparison as a test -/
theorem rt_op (s : OpS K r o) {σ : L2.St} {Q : Bool → Hp → Prop} (h : rt K (fOp o fa fb) σ H Q) : tTest (tOp r (rb K fa) (rb K fb)) σ H Q := by
  obtain ⟨Oc, w, ρ, S, R, ev, hf, k⟩ := h
  exact ⟨Oc, w, ρ, S, _, ev, hf, fun x S1 vx H1 ev1 g1 rx h1 => ⟨Oc, w, ρ, S1, _, ev1, h1, fun y S2 vy H2 ev2 g2 ry h2 =>
    s.run (R := fun d => asB d fun b => R b S2) ev2.Ool (RepB.go (ev1.stepO g2) ev1.Ool g2 rx) ry h2 fun d v H3 sm rv q => by
      obtain ⟨b, rfl, q⟩ := asB_inv q
      simp only [Rep] at rv
      exact ⟨b, rv, k b S2 H3 (ev2.same sm) ((g1.trans g2).trans (Gr.of sm)) q⟩⟩⟩
/-- a op b op' c -/
def fChain (o o' : O2) (fa fb fc : FE) : FE := fun ρ S R => fa ρ S fun x S1 => fb ρ S1 fun y S2 => o x y fun z => asB z fun k =>
  if k = true then fc ρ S2 fun u S3 => o' y u fun d => R d S3 else R (.bool false) S2
theorem rd_chain (s : OpS K r o) (s' : OpS K r' o') {σ : L2.St} {Q : VK} (h : rd K (fChain o o' fa fb fc) σ H Q) : tChain r r' (rb K fa) (rb K fb) (rb K fc) σ H Q := by
  obtain ⟨Oc, w, ρ, S, R, ev, hf, k⟩ := h
  refine ⟨Oc, w, ρ, S, _, ev, hf, fun x S1 vx H1 ev1 g1 rx h1 => ⟨Oc, w, ρ, S1, _, ev1, h1, fun y S2 vy H2 ev2 g2 ry h2 =>
    s.run ev2.Ool (RepB.go (ev1.stepO g2) ev1.Ool g2 rx) ry h2 fun d v H3 sm rv q0 => ?_⟩⟩
  obtain ⟨b, rfl, q⟩ := asB_inv q0
  simp only [Rep] at rv
  have ev3 := ev2.same sm
  refine ⟨b, rv, ?_⟩
  cases b with
  | true =>
    rw [if_pos rfl] at q ⊢
    exact ⟨Oc, w, ρ, S2, _, ev3, q, fun u S3 vu H4 ev4 g4 ru h4 =>
      s'.run ev4.Ool (RepB.go (ev2.stepO ((Gr.of sm).trans g4)) ev2.Ool ((Gr.of sm).trans g4) ry) ru h4 fun d v H5 sm5 rv q => k d S3 v H5 (ev4.same sm5) ((((g1.trans g2).trans (Gr.of sm)).trans g4).trans (Gr.of sm5)) rv q⟩
  | false =>
    rw [if_neg Bool.false_ne_true] at q ⊢
    exact k (.bool false) S2 _ H3 ev3 ((g1.trans g2).trans (Gr.of sm)) (by simp only [Rep]) q
end
section
variable {X : Cx} {e a b c : Expr} {pos : Pos} {fa fb fc : FE} {r r' : R2} {o o' : O2} {ru : V → Hp → VK → Prop} {ou : O1}
theorem d_bin {op : Operator} (ho : OpR X (binaryOp op) r) (s : OpS X.K r o) (ha : PE X a (rb X.K fa)) (hb : PE X b (rb X.K fb)) : PE X (.BinOp a op b pos) (rd X.K (fOp o fa fb)) := PE.imp (pe_op ho ha hb) fun _ _ _ h => rd_op s h
theorem n_bin {op : Operator} (ho : OpR X (binaryOp op) r) (s : OpN X.K r o) (ha : PE X a (rb X.K fa)) (hb : PE X b (rb X.K fb)) : PE X (.BinOp a op b pos) (rn X.K (fOp o fa fb)) := PE.imp (pe_op ho ha hb) fun _ _ _ h => rn_op s h
theorem d_un {op : UnaryOp} (ho : UnR X (unaryOp op) ru) (s : UnS X.K ru ou) (ha : PE X a (rb X.K fa)) : PE X (.UnaryOp op a pos) (rd X.K (fUn ou fa)) := PE.imp (pe_un ho ha) fun _ _ _ h => rd_un s h
theorem d_cmp {op : CmpOp} (ho : OpR X (compareOp op) r) (s : OpS X.K r o) (ha : PE X a (rb X.K fa)) (hb : PE X b (rb X.K fb)) (hm : behindInMarks op b = false := by rfl) : PE X (.Compare a [op] [b] pos) (rd X.K (fOp o fa fb)) := PE.imp (pe_cmpR ho ha hb hm) fun _ _ _ h => rd_op s h
theorem t_cmp {op : CmpOp} (ho : OpR X (compareOp op) r) (s : OpS X.K r o) (ha : PE X a (rb X.K fa)) (hb : PE X b (rb X.K fb)) (hm : behindInMarks op b = false := by rfl) : PT X (.Compare a [op] [b] pos) (rt X.K (fOp o fa fb)) := PT.imp (pt_cmpR ho ha hb hm) fun _ _ _ h => rt_op s h
theorem d_chain {op op' : CmpOp} (ho : OpR X (compareOp op) r) (ho' : OpR X (compareOp op') r') (s : OpS X.K r o) (s' : OpS X.K r' o') (ha : PE X a (rb X.K fa)) (hb : PE X b (rb X.K fb)) (hc : PE X c (rb X.K fc))
    (hm : lastMarks [op, op'] [b, c] = false := by with_unfolding_all rfl) : PE X (.Compare a [op, op'] [b, c] pos) (rd X.K (fChain o o' fa fb fc)) := PE.imp (pe_chain ho ho' ha hb hc hm) fun _ _ _ h => rd_chain s s' h
/-- what gives a truth, as a test: over any test's rule by a value's reading -/
theorem rt_of {K : Fr_} {f : FE} {t : TE} (h : ∀ σ H Q, rd K f σ H Q → t σ H Q) : ∀ σ H Q, rt K f σ H Q → tTest t σ H Q := fun σ H Q ⟨Oc, w, ρ, S, R, ev, hf, k⟩ =>
  h σ H _ ⟨Oc, w, ρ, S, _, ev, hf, fun d S' v H' ev' g r q => by
    obtain ⟨b, rfl, q⟩ := asB_inv q
    simp only [Rep] at r
    exact ⟨b, r, k b S' H' ev' g q⟩⟩
theorem t_chain {op op' : CmpOp} (ho : OpR X (compareOp op) r) (ho' : OpR X (compareOp op') r') (s : OpS X.K r o) (s' : OpS X.K r' o') (ha : PE X a (rb X.K fa)) (hb : PE X b (rb X.K fb)) (hc : PE X c (rb X.K fc))
    (hm : lastMarks [op, op'] [b, c] = false := by with_unfolding_all rfl) : PT X (.Compare a [op, op'] [b, c] pos) (rt X.K (fChain o o' fa fb fc)) := PT.imp (pt_chain ho ho' ha hb hc hm) (rt_of fun _ _ _ h => rd_chain s s' h)
/-! ### and, or, not, if -/
def fAnd (fa fb : FE) : FE := fun ρ S R => fa ρ S fun x S1 => asB x fun k => if k = true then fb ρ S1 R else R (.bool false) S1
def fOr (fa fb : FE) : FE := fun ρ S R => fa ρ S fun x S1 => asB x fun k => if k = true then R (.bool true) S1 else fb ρ S1 R
def fNot (fa : FE) : FE := fun ρ S R => fa ρ S fun x S1 => asB x fun k => R (.bool (!k)) S1
def fIf (fc fa fb : FE) : FE := fun ρ S R => fc ρ S fun x S1 => asB x fun k => if k = true then fa ρ S1 R else fb ρ S1 R
variable {rest : List Expr}
theorem d_one {op : BoolOp} {f : FE} (h : PE X a (rd X.K f)) : PE X (.BoolOp op [a] pos) (rd X.K f) := pe_one h
theorem d_and (ha : PE X a (rb X.K fa)) (hb : PE X (.BoolOp .And (b :: rest) pos) (rd X.K fb)) : PE X (.BoolOp .And (a :: b :: rest) pos) (rd X.K (fAnd fa fb)) := PE.imp (pe_and ha hb) fun σ H Q ⟨Oc, w, ρ, S, R, ev, hf, k⟩ =>
  ⟨Oc, w, ρ, S, _, ev, hf, fun x S1 vx H1 ev1 g1 rx h1 => by
    obtain ⟨b, rfl, q⟩ := asB_inv h1
    refine ⟨b, rx.bool, ?_⟩
    cases b with
    | true =>
      rw [if_pos rfl] at q ⊢
      exact ⟨Oc, w, ρ, S1, R, ev1, q, fun d S' v H' ev' g r q => k d S' v H' ev' (g1.trans g) r q⟩
    | false =>
      rw [if_neg Bool.false_ne_true] at q ⊢
      exact k _ S1 _ H1 ev1 g1 (by simp only [Rep]) q⟩
theorem d_or (ha : PE X a (rb X.K fa)) (hb : PE X (.BoolOp .Or (b :: rest) pos) (rd X.K fb)) : PE X (.BoolOp .Or (a :: b :: rest) pos) (rd X.K (fOr fa fb)) := PE.imp (pe_or ha hb) fun σ H Q ⟨Oc, w, ρ, S, R, ev, hf, k⟩ =>
  ⟨Oc, w, ρ, S, _, ev, hf, fun x S1 vx H1 ev1 g1 rx h1 => by
    obtain ⟨b, rfl, q⟩ := asB_inv h1
    refine ⟨b, rx.bool, ?_⟩
    cases b with
    | true =>
      rw [if_pos rfl] at q ⊢
      exact k _ S1 _ H1 ev1 g1 (by simp only [Rep]) q
    | false =>
      rw [if_neg Bool.false_ne_true] at q ⊢
      exact ⟨Oc, w, ρ, S1, R, ev1, q, fun d S' v H' ev' g r q => k d S' v H' ev' (g1.trans g) r q⟩⟩
theorem d_not (ha : PE X a (rb X.K fa)) : PE X (.UnaryOp .Not a pos) (rd X.K (fNot fa)) := PE.imp (pe_not ha) fun σ H Q ⟨Oc, w, ρ, S, R, ev, hf, k⟩ =>
  ⟨Oc, w, ρ, S, _, ev, hf, fun x S1 vx H1 ev1 g1 rx h1 => by
    obtain ⟨b, rfl, q⟩ := asB_inv h1
    exact ⟨b, rx.bool, k _ S1 _ H1 ev1 g1 (by simp only [Rep]) q⟩⟩
theorem w_and1 {f : FE} (h : PT X a (rt X.K f)) : PW X (.BoolOp .And [a] pos) (rt X.K f) := pw_and1 h
theorem w_or1 {f : FE} (h : PT X a (rt X.K f)) : PW X (.BoolOp .Or [a] pos) (rt X.K f) := pw_or1 h
theorem w_and (ha : PT X a (rt X.K fa)) (hb : PW X (.BoolOp .And (b :: rest) pos) (rt X.K fb)) : PW X (.BoolOp .And (a :: b :: rest) pos) (rt X.K (fAnd fa fb)) := PW.imp (pw_and ha hb) fun σ H Q ⟨Oc, w, ρ, S, R, ev, hf, k⟩ =>
  ⟨Oc, w, ρ, S, _, ev, hf, fun b S1 H1 ev1 g1 q => by
    cases b with
    | true =>
      rw [if_pos rfl] at q ⊢
      exact ⟨Oc, w, ρ, S1, R, ev1, q, fun d S' H' ev' g q => k d S' H' ev' (g1.trans g) q⟩
    | false =>
      rw [if_neg Bool.false_ne_true] at q ⊢
      exact k false S1 H1 ev1 g1 q⟩
theorem w_or (ha : PT X a (rt X.K fa)) (hb : PW X (.BoolOp .Or (b :: rest) pos) (rt X.K fb)) : PW X (.BoolOp .Or (a :: b :: rest) pos) (rt X.K (fOr fa fb)) := PW.imp (pw_or ha hb) fun σ H Q ⟨Oc, w, ρ, S, R, ev, hf, k⟩ =>
  ⟨Oc, w, ρ, S, _, ev, hf, fun b S1 H1 ev1 g1 q => by
    cases b with
    | true =>
      rw [if_pos rfl] at q ⊢
      exact k true S1 H1 ev1 g1 q
    | false =>
      rw [if_neg Bool.false_ne_true] at q ⊢
      exact ⟨Oc, w, ρ, S1, R, ev1, q, fun d S' H' ev' g q => k d S' H' ev' (g1.trans g) q⟩⟩
theorem t_not (ha : PT X a (rt X.K fa)) : PT X (.UnaryOp .Not a pos) (rt X.K (fNot fa)) := PT.imp (pt_not ha) fun σ H Q ⟨Oc, w, ρ, S, R, ev, hf, k⟩ =>
  ⟨Oc, w, ρ, S, _, ev, hf, fun b S1 H1 ev1 g1 q => k (!b) S1 H1 ev1 g1 q⟩
theorem d_if (hc : PT X c (rt X.K fc)) (ha : PE X a (rd X.K fa)) (hb : PE X b (rd X.K fb)) : PE X (.IfExp c a b pos) (rd X.K (fIf fc fa fb)) := PE.imp (pe_ifExp hc ha hb) fun σ H Q ⟨Oc, w, ρ, S, R, ev, hf, k⟩ =>
  ⟨Oc, w, ρ, S, _, ev, hf, fun b S1 H1 ev1 g1 q => by
    cases b with
    | true =>
      rw [if_pos rfl] at q ⊢
      exact ⟨Oc, w, ρ, S1, R, ev1, q, fun d S' v H' ev' g r q => k d S' v H' ev' (g1.trans g) r q⟩
    | false =>
      rw [if_neg Bool.false_ne_true] at q ⊢
      exact ⟨Oc, w, ρ, S1, R, ev1, q, fun d S' v H' ev' g r q => k d S' v H' ev' (g1.trans g) r q⟩⟩
theorem b_if (hc : PT X c (rt X.K fc)) (ha : PE X a (rb X.K fa)) (hb : PE X b (rb X.K fb)) : PE X (.IfExp c a b pos) (rb X.K (fIf fc fa fb)) := PE.imp (pe_ifExp hc ha hb) fun σ H Q ⟨Oc, w, ρ, S, R, ev, hf, k⟩ =>
  ⟨Oc, w, ρ, S, _, ev, hf, fun b S1 H1 ev1 g1 q => by
    cases b with
    | true =>
      rw [if_pos rfl] at q ⊢
      exact ⟨Oc, w, ρ, S1, R, ev1, q, fun d S' v H' ev' g r q => k d S' v H' ev' (g1.trans g) r q⟩
    | false =>
      rw [if_neg Bool.false_ne_true] at q ⊢
      exact ⟨Oc, w, ρ, S1, R, ev1, q, fun d S' v H' ev' g r q => k d S' v H' ev' (g1.trans g) r q⟩⟩
end
end DL

namespace DL
open PySem L2 PyProof.Rows
section
variable {K : Fr_} {O : AS} {w : Option Addr} {H H' : Hp}
theorem Same.new {p : Addr} {o : HO} (n : H p = none) : Same H (upd H p o) := fun b u q => by rw [upd_ne (ne_of_none q n)]; exact q
theorem Step.of (s : Same H H') : Step O H H' := fun a u _ h => s a u h
theorem Rep.same (ol : OL O H) (s : Same H H') {d : PyData} {v : V} (h : Rep K O H d v) : Rep K O H' d v := Rep.step (Step.of s) ol d v h
theorem Reps.same (ol : OL O H) (s : Same H H') {d : List PyData} {v : List V} (h : Reps K O H d v) : Reps K O H' d v := Reps.step (Step.of s) ol d v h
theorem OL.away (ol : OL O H) {p : Addr} (n : H p = none) : ¬ O p := fun z => by
  obtain ⟨u, hu, _⟩ := ol p z
  rw [hu] at n
  cases n
/-- a new tuple, a new list -/
theorem rep_tup (ol : OL O H) {p : Addr} {ds : List PyData} {vs : List V} (n : H p = none) (r : Reps K O H ds vs) : Rep K O (upd H p (.tup vs)) (.tuple ds) (.ref p) := by
  simp only [Rep]
  exact ⟨p, vs, rfl, SqT.of upd_same, Reps.same ol (Same.new n) r⟩
theorem rep_lst (ol : OL O H) {p : Addr} {ds : List PyData} {vs : List V} (n : H p = none) (r : Reps K O H ds vs) : Rep K O (upd H p (.lst vs)) (.list ds) (.ref p) := by
  simp only [Rep]
  exact ⟨p, vs, rfl, .inl ⟨.inl upd_same, ol.away n⟩, Reps.same ol (Same.new n) r⟩
theorem reps_new (ol : OL O H) {p : Addr} {ds : List PyData} {vs : List V} (n : H p = none) {o : HO} (r : Reps K O H ds vs) : Reps K (With O p) (upd H p o) ds vs := Reps.fw (fun a z => z.elim .inl fun e => .inr (by rw [e]; exact n)) (Step.of (Same.new n)) ol ds vs r
/-! ### arithmetic -/
def oAdd : O2 := fun x y R => match x, y with
  | .int i, .int j => R (.int (i + j))
  | .str a, .str b => a.length + b.length ≤ sizeLine ∧ R (.str (a ++ b))
  | .tuple a, .tuple b => a.length + b.length ≤ sizeLine ∧ R (.tuple (a ++ b))
  | .list a, .list b => a.length + b.length ≤ sizeLine ∧ R (.list (a ++ b))
  | _, _ => False
def oI (g : Int → Int → PyData) : O2 := fun x y R => match x, y with
  | .int i, .int j => R (g i j)
  | _, _ => False
def oIC (C : Int → Int → Prop) (g : Int → Int → PyData) : O2 := fun x y R => match x, y with
  | .int i, .int j => C i j ∧ R (g i j)
  | _, _ => False
theorem oI_inv {g : Int → Int → PyData} {x y : PyData} {R : PyData → Prop} (h : oI g x y R) : ∃ i j, x = .int i ∧ y = .int j ∧ R (g i j) := by
  unfold oI at h
  split at h <;> first | exact ⟨_, _, rfl, rfl, h⟩ | exact h.elim
theorem oIC_inv {C : Int → Int → Prop} {g : Int → Int → PyData} {x y : PyData} {R : PyData → Prop} (h : oIC C g x y R) : ∃ i j, x = .int i ∧ y = .int j ∧ C i j ∧ R (g i j) := by
  unfold oIC at h
  split at h <;> first | exact ⟨_, _, rfl, rfl, h⟩ | exact h.elim
theorem sI {g : Int → Int → PyData} {gv : Int → Int → V} (hg : ∀ O H i j, Rep K O H (g i j) (gv i j)) : OpS K (rI0 gv) (oI g) := ⟨fun {O w H x y vx vy R Q} ol rx ry h k => by
  obtain ⟨i, j, rfl, rfl, q⟩ := oI_inv h
  exact ⟨i, j, rx.int, ry.int, k _ _ H (Same.refl H) (hg _ _ _ _) q⟩⟩
theorem sIC {C : Int → Int → Prop} {g : Int → Int → PyData} {gv : Int → Int → V} (hg : ∀ O H i j, Rep K O H (g i j) (gv i j)) : OpS K (rI C gv) (oIC C g) := ⟨fun {O w H x y vx vy R Q} ol rx ry h k => by
  obtain ⟨i, j, rfl, rfl, c, q⟩ := oIC_inv h
  exact ⟨i, j, rx.int, ry.int, c, k _ _ H (Same.refl H) (hg _ _ _ _) q⟩⟩
theorem sInt {g : Int → Int → Int} : OpS K (rI0 fun i j => .int (g i j)) (oI fun i j => .int (g i j)) := sI fun _ _ _ _ => by simp only [Rep]
theorem sIntB {g : Int → Int → Bool} : OpS K (rI0 fun i j => .bl (g i j)) (oI fun i j => .bool (g i j)) := sI fun _ _ _ _ => by simp only [Rep]
theorem sIntC {C : Int → Int → Prop} {g : Int → Int → Int} : OpS K (rI C fun i j => .int (g i j)) (oIC C fun i j => .int (g i j)) := sIC fun _ _ _ _ => by simp only [Rep]
def rCatR (K : Fr_) : R2 := fun x y H Q => ∃ l b xs zs, x = .ref l ∧ y = .ref b ∧ SqL K H l xs ∧ SqL K H b zs ∧ xs.length + zs.length ≤ sizeLine ∧ ∀ p, H p = none → Q (.ref p) (upd H p (.lst (xs ++ zs)))
theorem add_any (l : Addr) (o1 : Obj) (items : Array Value) (n : Nat) (b : Addr) (o2 : Obj) (items2 : Array Value) (n2 : Nat) (d1 : o1.data = .seq items n) (d2 : o2.data = .seq items2 n2) (c1 : o1.cls = .type "list") (c2 : o2.cls = .type "list") (hc0 : items.size + items2.size ≤ sizeLine) :
    Meets (Builtin.«list.__add__» ⟨[.ref l, .ref b], []⟩) (fun _ R s => s.heap.get? l = some o1 ∧ s.heap.get? b = some o2 ∧ R (.ok (.ret (Value.ref s.heap.objs.size))) { s with heap := s.heap.push { cls := Value.type "list", data := Data.seq (items ++ items2) } }) := by
  obtain ⟨k1, m1, dd1, s1⟩ := o1
  obtain ⟨k2, m2, dd2, s2⟩ := o2
  cases d1
  cases d2
  cases c1
  cases c2
  refine .of_wp fun prog w A R s h => ?_
  obtain ⟨hp, g, d, tk, os⟩ := s
  obtain ⟨hl, hb, h⟩ := h
  have sub := AutoSeq1.sub_list_list
  wp_walk using wpAny_loadPart' hl, wpAny_loadPart' hb
  exact ⟨_, rfl, h⟩
theorem op_catR {X : Cx} : OpR X (binaryOp .Add) (rCatR X.K) := by
  rintro pins s σ H x y v u Q I rx ry ⟨l, b, xs, zs, rfl, rfl, hl, hb, hz, q⟩
  cases rx
  cases ry
  obtain ⟨i1, r1, ⟨o1, n1, e1, c1, _, d1⟩, _⟩ := I.list hl
  obtain ⟨i2, r2, ⟨o2, n2, e2, c2, _, d2⟩, _⟩ := I.list hb
  have l1 := r1.length
  have l2 := r2.length
  refine concat_meets ⟨_, e1, c1⟩ ⟨_, e2, c2⟩ noFill_list_add seq_list_add F.slot_list_add F.entry_list_add (F.args_list_add_2 _ _) (add_any l o1 _ n1 b o2 _ n2 d1 d2 c1 c2 (by simp only [List.size_toArray]; omega)) ⟨e1, e2, ?_⟩
  rw [show i1.toArray ++ i2.toArray = (i1 ++ i2).toArray by simp]
  exact ⟨.ref _, _, I.lnew (t' := s.toks) (r1.append r2) (by simp only [List.length_append]; exact hz), rfl, q _ I.fresh⟩
def rAddAll (K : Fr_) : R2 := fun x y H Q => rI0 (fun i j => .int (i + j)) x y H Q ∨ ((∃ i j, x = .str i ∧ y = .str j ∧ i.length + j.length ≤ sizeLine ∧ Q (.str (i ++ j)) H) ∨ (rCatA K x y H Q ∨ rCatR K x y H Q))
theorem op_addAll {X : Cx} : OpR X (binaryOp .Add) (rAddAll X.K) := op_add.or (op_add_str.or (op_catA.or op_catR))
theorem sAdd : OpS K (rAddAll K) oAdd := ⟨fun {O w H x y vx vy R Q} ol rx ry h k => by
  unfold oAdd at h
  split at h
  · exact .inl ⟨_, _, rx.int, ry.int, k _ _ H (Same.refl H) (by simp only [Rep]) h⟩
  · exact .inr (.inl ⟨_, _, rx.str, ry.str, h.1, k _ _ H (Same.refl H) (by simp only [Rep]) h.2⟩)
  · rename_i a b
    obtain ⟨p, vs, rfl, q1, r1⟩ := rx.tup
    obtain ⟨q, ws, rfl, q2, r2⟩ := ry.tup
    refine .inr (.inr (.inl ⟨p, q, vs, ws, rfl, rfl, q1, q2, by rw [r1.len, r2.len]; exact h.1, fun e => ?_, fun _ e => ?_, fun _ _ t ht => ?_⟩))
    · subst e
      have e' : a = [] := List.length_eq_zero_iff.mp r1.len.symm
      subst e'
      exact k (.tuple b) _ H (Same.refl H) (by simp only [Rep]; exact ⟨q, ws, rfl, q2, r2⟩) h.2
    · subst e
      have e' : b = [] := List.length_eq_zero_iff.mp r2.len.symm
      subst e'
      refine k (.tuple (a ++ [])) _ H (Same.refl H) ?_ h.2
      rw [List.append_nil]
      simp only [Rep]
      exact ⟨p, vs, rfl, q1, r1⟩
    · exact k _ _ _ (Same.new ht) (rep_tup ol ht (r1.app r2)) h.2
  · rename_i a b
    obtain ⟨p, vs, rfl, q1, r1⟩ := rx.lst
    obtain ⟨q, ws, rfl, q2, r2⟩ := ry.lst
    exact .inr (.inr (.inr ⟨p, q, vs, ws, rfl, rfl, q1, q2, by rw [r1.len, r2.len]; exact h.1, fun t ht => k _ _ _ (Same.new ht) (rep_lst ol ht (r1.app r2)) h.2⟩))
  · exact h.elim⟩
/-- list + list, to be kept as one's own -/
def oCatL : O2 := fun x y R => match x, y with
  | .list a, .list b => a.length + b.length ≤ sizeLine ∧ R (.list (a ++ b))
  | _, _ => False
theorem nCatL : OpN K (rCatR K) oCatL := ⟨fun {O w H x y vx vy R Q} ol rx ry h k => by
  unfold oCatL at h
  split at h
  · rename_i a b
    obtain ⟨p, vs, rfl, q1, r1⟩ := rx.lst
    obtain ⟨q, ws, rfl, q2, r2⟩ := ry.lst
    exact ⟨p, q, vs, ws, rfl, rfl, q1, q2, by rw [r1.len, r2.len]; exact h.1, fun t ht => k _ _ _ _ (Same.new ht) ht upd_same (reps_new ol ht (r1.app r2)) h.2⟩
  · exact h.elim⟩
def oNeg : O1 := fun x R => asI x fun i => R (.int (-i))
theorem sNeg : UnS K (rU fun i => .int (-i)) oNeg := ⟨fun {O w H x vx R Q} ol rx h k => by
  obtain ⟨i, rfl, q⟩ := asI_inv h
  exact ⟨i, rx.int, k _ _ H (Same.refl H) (by simp only [Rep]) q⟩⟩
/-! ### ==, in -/
mutual
theorem Rep.dp : ∀ (d : PyData) (v : V), d.canLay0 = true → Rep K O H d v → Dp K H v d
  | .none, v, _, h => by simp only [Rep] at h; subst h; exact .non
  | .bool b, v, _, h => by simp only [Rep] at h; subst h; exact .bl b
  | .int i, v, _, h => by simp only [Rep] at h; subst h; exact .int i
  | .str x, v, _, h => by simp only [Rep] at h; subst h; exact .str x
  | .list ds, v, c, h => by
    simp only [Rep] at h
    obtain ⟨a, vs, rfl, q, r⟩ := h
    exact .lst q.sq (Reps.dp ds vs (by simpa only [PyData.canLay0] using c) r)
  | .tuple ds, v, c, h => by
    simp only [Rep] at h
    obtain ⟨a, vs, rfl, q, r⟩ := h
    exact .tup q (Reps.dp ds vs (by simpa only [PyData.canLay0] using c) r)
  | .dict kvs, v, c, h => by simp [PyData.canLay0] at c
theorem Reps.dp : ∀ (ds : List PyData) (vs : List V), PyData.canLayAll0 ds = true → Reps K O H ds vs → DpAll K H vs ds
  | [], vs, _, h => by simp only [Reps] at h; subst h; exact .nil
  | d :: ds, vs, c, h => by
    simp only [Reps] at h
    obtain ⟨v, r, rfl, h1, h2⟩ := h
    simp only [PyData.canLayAll0, Bool.and_eq_true] at c
    exact .cons (Rep.dp d v c.1 h1) (Reps.dp ds r c.2 h2)
end
theorem RepB.dp {d : PyData} {v : V} (c : d.canLay0 = true) (h : RepB K O w H d v) : Dp K H v d := by
  rcases h with h | ⟨a, vs, ds, rfl, rfl, n, h1, h2⟩
  · exact Rep.dp d v c h
  · exact .lst (SqL.of h1) (Reps.dp ds vs (by simpa only [PyData.canLay0] using c) h2)
/-- a tuple and the empty one -/
def rEqE (K : Fr_) : R2 := fun x y H Q => ∃ a b vs, x = .ref a ∧ y = .ref b ∧ SqT K H a vs ∧ SqT K H b [] ∧ Q (.bl vs.isEmpty) H
theorem op_eqE {X : Cx} (hu : X.A.units < cLine) : OpR X (compareOp .Eq) (rEqE X.K) := by
  intro pins s σ H x y v u Q I rx ry h
  obtain ⟨a, b, vs, rfl, rfl, ha, hb, q⟩ := h
  cases rx
  cases ry
  obtain ⟨its, r1, p1, _⟩ := I.tuple ha
  obtain ⟨its2, r2, p2, _⟩ := I.tuple hb
  cases r2
  refine SeqAt.eq_tupleAt (e := fun _ => true) p1 p2 hu (fun j h1 h2 => absurd h2 (by simp)) ⟨.bl vs.isEmpty, H, I, ?_, q⟩
  cases r1 <;> simp [L2.RelV]
def rEqAll (K : Fr_) : R2 := fun x y H Q => rEqE K x y H Q ∨ (L2.rEq x y H Q ∨ rEqD K x y H Q)
theorem op_eqAll {X : Cx} {k : Nat} (hr : Room k X.A) : OpR X (compareOp .Eq) (rEqAll X.K) := (op_eqE hr.units0).or (op_eq.or (op_eqD hr.units))
def rNeAll (K : Fr_) : R2 := fun x y H Q => L2.rNe x y H Q ∨ rNeD K x y H Q
theorem op_neAll {X : Cx} {k : Nat} (hr : Room k X.A) : OpR X (compareOp .NotEq) (rNeAll X.K) := op_ne.or (op_neD hr.units)
def oEq : O2 := fun x y R => match x, y with
  | .tuple ds, .tuple [] => R (.bool ds.isEmpty)
  | .int a, .int b => R (.bool (decide (a = b)))
  | .str a, .str b => R (.bool (decide (a = b)))
  | .bool a, .bool b => R (.bool (decide (a = b)))
  | x, y => SeqAt.shaped x = true ∧ SeqAt.shaped y = true ∧ R (.bool (PyData.eqv x y))
def oNe : O2 := fun x y R => match x, y with
  | .int a, .int b => R (.bool (!decide (a = b)))
  | .str a, .str b => R (.bool (!decide (a = b)))
  | .bool a, .bool b => R (.bool (!decide (a = b)))
  | x, y => SeqAt.shaped x = true ∧ SeqAt.shaped y = true ∧ R (.bool (!PyData.eqv x y))
theorem V.int_eq {a b : Int} : decide (V.int a = V.int b) = decide (a = b) := by
  by_cases h : a = b
  · subst h; simp
  · rw [decide_eq_false h, decide_eq_false (fun z => h (V.int.inj z))]
theorem V.str_eq {a b : Str} : decide (V.str a = V.str b) = decide (a = b) := by
  by_cases h : a = b
  · subst h; simp
  · rw [decide_eq_false h, decide_eq_false (fun z => h (V.str.inj z))]
theorem V.bl_eq {a b : Bool} : decide (V.bl a = V.bl b) = decide (a = b) := by
  by_cases h : a = b
  · subst h; simp
  · rw [decide_eq_false h, decide_eq_false (fun z => h (V.bl.inj z))]
theorem sEq : OpS K (rEqAll K) oEq := ⟨fun {O w H x y vx vy R Q} ol rx ry h k => by
  unfold oEq at h
  split at h
  · rename_i ds
    obtain ⟨p, vs, rfl, q1, r1⟩ := rx.tup
    obtain ⟨q, ws, rfl, q2, r2⟩ := ry.tup
    simp only [Reps] at r2
    subst r2
    refine .inl ⟨p, q, vs, rfl, rfl, q1, q2, k _ _ H (Same.refl H) ?_ h⟩
    simp only [Rep]
    have e := r1.len
    cases vs <;> cases ds <;> simp at e ⊢
  · rw [rx.int, ry.int]
    exact .inr (.inl ⟨rfl, by rw [V.int_eq]; exact k _ _ H (Same.refl H) (by simp only [Rep]) h⟩)
  · rw [rx.str, ry.str]
    exact .inr (.inl ⟨rfl, by rw [V.str_eq]; exact k _ _ H (Same.refl H) (by simp only [Rep]) h⟩)
  · rw [rx.bool, ry.bool]
    exact .inr (.inl ⟨rfl, by rw [V.bl_eq]; exact k _ _ H (Same.refl H) (by simp only [Rep]) h⟩)
  · obtain ⟨h1, h2, h3⟩ := h
    exact .inr (.inr ⟨_, _, rx.dp (SeqAt.canLay_of_shaped h1), ry.dp (SeqAt.canLay_of_shaped h2), h1, h2, k _ _ H (Same.refl H) (by simp only [Rep]) h3⟩)⟩
theorem sNe : OpS K (rNeAll K) oNe := ⟨fun {O w H x y vx vy R Q} ol rx ry h k => by
  unfold oNe at h
  split at h
  · rw [rx.int, ry.int]
    exact .inl ⟨rfl, by rw [V.int_eq]; exact k _ _ H (Same.refl H) (by simp only [Rep]) h⟩
  · rw [rx.str, ry.str]
    exact .inl ⟨rfl, by rw [V.str_eq]; exact k _ _ H (Same.refl H) (by simp only [Rep]) h⟩
  · rw [rx.bool, ry.bool]
    exact .inl ⟨rfl, by rw [V.bl_eq]; exact k _ _ H (Same.refl H) (by simp only [Rep]) h⟩
  · obtain ⟨h1, h2, h3⟩ := h
    exact .inr ⟨_, _, rx.dp (SeqAt.canLay_of_shaped h1), ry.dp (SeqAt.canLay_of_shaped h2), h1, h2, k _ _ H (Same.refl H) (by simp only [Rep]) h3⟩⟩
/-- flat data -/
def flatD : PyData → Bool
  | .none => true
  | .bool _ => true
  | .int _ => true
  | .str _ => true
  | _ => false
theorem Rep.flat {d : PyData} {v : V} (h : Rep K O H d v) (f : flatD d = true) : flatV v = true ∧ ∀ {e : PyData} {u : V}, Rep K O H e u → flatD e = true → eqV u v = PyData.eqv e d := by
  cases d <;> simp only [flatD] at f <;> first | cases f | skip
  all_goals simp only [Rep] at h; subst h; refine ⟨rfl, fun {e u} g fe => ?_⟩
  all_goals (cases e <;> simp only [flatD] at fe <;> first | cases fe | skip)
  all_goals simp only [Rep] at g; subst g; simp [eqV, PyData.eqv]
theorem Reps.inV {x : PyData} {v : V} (h : Rep K O H x v) (f : flatD x = true) : ∀ {ds : List PyData} {vs : List V}, Reps K O H ds vs → ds.all flatD = true → vs.all flatV = true ∧ inV v vs = ds.any fun y => PyData.eqv y x
  | [], vs, r, _ => by simp only [Reps] at r; subst r; exact ⟨rfl, rfl⟩
  | d :: ds, vs, r, c => by
    simp only [Reps] at r
    obtain ⟨u, r', rfl, r1, r2⟩ := r
    simp only [List.all_cons, Bool.and_eq_true] at c
    obtain ⟨i1, i2⟩ := Reps.inV h f r2 c.2
    refine ⟨by simp only [List.all_cons, Bool.and_eq_true]; exact ⟨(Rep.flat r1 c.1).1, i1⟩, ?_⟩
    have e := (Rep.flat h f).2 r1 c.1
    unfold L2.inV at i2 ⊢
    simp only [List.any_cons, e, i2]
def rowD : PyData → Option (List PyData)
  | .tuple ds => some ds
  | .list ds => some ds
  | _ => none
def oIn (neg : Bool) : O2 := fun x y R => match rowD y with
  | some ds => flatD x = true ∧ ds.all flatD = true ∧ R (.bool (if neg then !(ds.any fun z => PyData.eqv z x) else ds.any fun z => PyData.eqv z x))
  | none => False
theorem RepB.flat {d : PyData} {v : V} (h : RepB K O w H d v) (f : flatD d = true) : Rep K O H d v := by
  rcases h with h | ⟨a, vs, ds, rfl, _⟩
  · exact h
  · cases f
theorem sIn {neg : Bool} : OpS K (rIn K neg) (oIn neg) := ⟨fun {O w H x y vx vy R Q} ol rx ry h k => by
  unfold oIn at h
  have main : ∀ (p : Addr) (ds : List PyData) (vs : List V), vy = .ref p → (SqL K H p vs ∨ SqT K H p vs) → Reps K O H ds vs → flatD x = true ∧ ds.all flatD = true ∧ R (.bool (if neg then !(ds.any fun z => PyData.eqv z x) else ds.any fun z => PyData.eqv z x)) → rIn K neg vx vy H Q := by
    rintro p ds vs e q r ⟨f1, f2, f3⟩
    have rx' := rx.flat f1
    obtain ⟨i1, i2⟩ := Reps.inV rx' f1 r f2
    exact ⟨p, vs, e, q, (Rep.flat rx' f1).1, i1, k _ _ H (Same.refl H) (by simp only [Rep, i2]) f3⟩
  cases y with
  | tuple ds =>
    obtain ⟨q, ws, e, q2, r2⟩ := ry.tup
    exact main q ds ws e (.inr q2) r2 h
  | list ds =>
    obtain ⟨q, ws, e, q2, r2⟩ := ry.lst
    exact main q ds ws e (.inl q2) r2 h
  | _ => exact h.elim⟩
/-! ### a[i], a[i:j] -/
def oIx : O2 := fun x y R => match x, y with
  | .tuple ds, .int i => match atI ds i with
    | some d => R d
    | none => False
  | .list ds, .int i => match atI ds i with
    | some d => R d
    | none => False
  | .str z, .int i => z.length ≤ sizeLine ∧ match atI z.cps.toList i with
    | some c => R (.str ⟨#[c]⟩)
    | none => False
  | _, _ => False
theorem Reps.atI {ds : List PyData} {vs : List V} (r : Reps K O H ds vs) {i : Int} {d : PyData} (h : L2.atI ds i = some d) : ∃ v, L2.atI vs i = some v ∧ Rep K O H d v := by
  unfold L2.atI at h ⊢
  rw [r.len]
  cases e : ixN ds.length i with
  | none => rw [e] at h; cases h
  | some j =>
    rw [e] at h
    exact Reps.at r h
theorem sIx : OpS K (rIx K) oIx := ⟨fun {O w H x y vx vy R Q} ol rx ry h k => by
  unfold oIx at h
  split at h
  · split at h
    · rename_i d e
      obtain ⟨p, vs, rfl, q1, r1⟩ := rx.tup
      obtain ⟨v, hv, rv⟩ := r1.atI e
      exact .inr (.inl ⟨p, vs, _, v, rfl, ry.int, q1, hv, k _ _ H (Same.refl H) rv h⟩)
    · exact h.elim
  · split at h
    · rename_i d e
      obtain ⟨p, vs, rfl, q1, r1⟩ := rx.lst
      obtain ⟨v, hv, rv⟩ := r1.atI e
      exact .inl ⟨p, vs, _, v, rfl, ry.int, q1, hv, k _ _ H (Same.refl H) rv h⟩
    · exact h.elim
  · obtain ⟨hz, h⟩ := h
    split at h
    · rename_i c e
      exact .inr (.inr ⟨_, _, c, rx.str, ry.int, hz, e, k _ _ H (Same.refl H) (by simp only [Rep]) h⟩)
    · exact h.elim
  · exact h.elim⟩
end
section
variable {X : Cx} {e a b c : Expr} {pos : Pos} {fa fb fc : FE}
theorem d_add (ha : PE X a (rb X.K fa)) (hb : PE X b (rb X.K fb)) : PE X (.BinOp a .Add b pos) (rd X.K (fOp oAdd fa fb)) := d_bin op_addAll sAdd ha hb
theorem n_add (ha : PE X a (rb X.K fa)) (hb : PE X b (rb X.K fb)) : PE X (.BinOp a .Add b pos) (rn X.K (fOp oCatL fa fb)) := n_bin op_catR nCatL ha hb
theorem d_sub (ha : PE X a (rb X.K fa)) (hb : PE X b (rb X.K fb)) : PE X (.BinOp a .Sub b pos) (rd X.K (fOp (oI fun i j => .int (i - j)) fa fb)) := d_bin op_sub sInt ha hb
def CMulA (i j : Int) : Prop := CMul i j ∨ CMulW i j
theorem op_mulA : OpR X (binaryOp .Mult) (rI CMulA fun i j => .int (i * j)) := by
  rintro pins s σ H x y v u Q I rx ry ⟨i, j, rfl, rfl, c | c, q⟩
  · exact op_mul pins s σ H _ _ v u Q I rx ry ⟨i, j, rfl, rfl, c, q⟩
  · exact op_mulW pins s σ H _ _ v u Q I rx ry ⟨i, j, rfl, rfl, c, q⟩
theorem d_mul (ha : PE X a (rb X.K fa)) (hb : PE X b (rb X.K fb)) : PE X (.BinOp a .Mult b pos) (rd X.K (fOp (oIC CMulA fun i j => .int (i * j)) fa fb)) := d_bin op_mulA sIntC ha hb
theorem d_fdiv (ha : PE X a (rb X.K fa)) (hb : PE X b (rb X.K fb)) : PE X (.BinOp a .FloorDiv b pos) (rd X.K (fOp (oIC CDivW fun i j => .int (i / j)) fa fb)) := d_bin op_fdivW sIntC ha hb
theorem d_mod (ha : PE X a (rb X.K fa)) (hb : PE X b (rb X.K fb)) : PE X (.BinOp a .Mod b pos) (rd X.K (fOp (oIC (fun _ j => 0 < j) fun i j => .int (i % j)) fa fb)) := d_bin op_mod sIntC ha hb
theorem d_pow (ha : PE X a (rb X.K fa)) (hb : PE X b (rb X.K fb)) : PE X (.BinOp a .Pow b pos) (rd X.K (fOp (oIC CPow fun i j => .int (i ^ j.toNat)) fa fb)) := d_bin op_pow sIntC ha hb
theorem d_neg (ha : PE X a (rb X.K fa)) : PE X (.UnaryOp .USub a pos) (rd X.K (fUn oNeg fa)) := d_un un_neg sNeg ha
theorem d_ix (ha : PE X a (rb X.K fa)) (hb : PE X b (rb X.K fb)) (hs : PlainIx b := by intro _ _; rfl) : PE X (.Subscript a b pos) (rd X.K (fOp oIx fa fb)) := PE.imp (pe_ix ix_seq ha hb hs) fun _ _ _ h => rd_op sIx h




end
end DL

namespace DL
open PySem L2 PyProof.Rows
/-! ### rows of expressions -/
abbrev FL := Rho → SW → (List PyData → SW → Prop) → Prop
def fNil : FL := fun _ S R => R [] S
def fCons (f : FE) (g : FL) : FL := fun ρ S R => f ρ S fun d S1 => g ρ S1 fun ds S2 => R (d :: ds) S2
def rda (K : Fr_) (n : Nat) (g : FL) : TA := fun σ H Q => ∃ Oc w ρ S R, EV K Oc w σ H ρ S ∧ g ρ S R ∧
  ∀ ds S' vs H', EV K Oc w σ H' ρ S' → Gr w H H' → Reps K (OO Oc σ ρ) H' ds vs → ds.length = n → R ds S' → Q vs H'
section
variable {X : Cx} {e a b c : Expr} {es : List Expr} {pos : Pos} {f fa fb fc : FE} {g : FL} {n : Nat}
theorem a_nil : PA X [] (rda X.K 0 fNil) := PA.imp pa_nil fun σ H Q ⟨Oc, w, ρ, S, R, ev, hf, k⟩ => k [] S [] H ev Gr.refl (by simp only [Reps]) rfl hf
theorem a_cons (he : PE X e (rd X.K f)) (hr : PA X es (rda X.K n g)) (hs : starEach (e :: es) X.env = (false, eval e X.env) :: starEach es X.env := by rfl) : PA X (e :: es) (rda X.K (n + 1) (fCons f g)) := PA.imp (pa_cons he hr hs) fun σ H Q ⟨Oc, w, ρ, S, R, ev, hf, k⟩ =>
  ⟨Oc, w, ρ, S, _, ev, hf, fun d S1 v H1 ev1 g1 r1 h1 => ⟨Oc, w, ρ, S1, _, ev1, h1, fun ds S2 vs H2 ev2 g2 r2 hl h2 =>
    k (d :: ds) S2 (v :: vs) H2 ev2 (g1.trans g2) (by simp only [Reps]; exact ⟨v, vs, rfl, Rep.step (ev1.stepO g2) ev1.Ool d v r1, r2⟩) (by rw [List.length_cons, hl]) h2⟩⟩
def fTup (g : FL) : FE := fun ρ S R => g ρ S fun ds S1 => R (.tuple ds) S1
def fLst (g : FL) : FE := fun ρ S R => g ρ S fun ds S1 => R (.list ds) S1
theorem d_tup {k : Nat} (h : PA X es (rda X.K n g)) (hn : decide (n ≤ 16777216) = true := by rfl) : PE X (.Tuple es k pos) (rd X.K (fTup g)) := PE.imp (pe_tup h) fun σ H Q ⟨Oc, w, ρ, S, R, ev, hf, k⟩ =>
  ⟨Oc, w, ρ, S, _, ev, hf, fun ds S1 vs H1 ev1 g1 r1 hl h1 => ⟨by rw [sizeLine_eq, r1.len, hl]; exact of_decide_eq_true hn, fun p hp =>
    k _ S1 _ _ (ev1.same (Same.new hp)) (g1.trans (Gr.of (Same.new hp))) (rep_tup ev1.Ool hp r1) h1⟩⟩
theorem n_lst (h : PA X es (rda X.K n g)) (hn : decide (n ≤ 16777216) = true := by rfl) : PE X (.List es pos) (rn X.K (fLst g)) := PE.imp (pe_lst h) fun σ H Q ⟨Oc, w, ρ, S, R, ev, hf, k⟩ =>
  ⟨Oc, w, ρ, S, _, ev, hf, fun ds S1 vs H1 ev1 g1 r1 hl h1 => ⟨by rw [sizeLine_eq, r1.len, hl]; exact of_decide_eq_true hn, fun p hp =>
    k ds S1 p vs _ (ev1.same (Same.new hp)) (g1.trans (Gr.of (Same.new hp))) (free_of ev1 g1 hp) upd_same (reps_new ev1.Ool hp r1) h1⟩⟩
theorem d_lst (h : PA X es (rda X.K n g)) (hn : decide (n ≤ 16777216) = true := by rfl) : PE X (.List es pos) (rd X.K (fLst g)) := d_of_n (n_lst h hn)
theorem d_dict0 : PE X (.Dict [] [] pos) (rd X.K (fC (.dict []))) := PE.imp pe_dnewK fun σ H Q ⟨Oc, w, ρ, S, R, ev, hf, k⟩ => fun p hp =>
  k _ S _ _ (ev.same (Same.new hp)) (Gr.of (Same.new hp)) (by simp only [Rep, Repd]; exact ⟨p, [], rfl, ⟨.inl upd_same, ev.Ool.away hp⟩, rfl⟩) hf
/-! ### built-ins by their values -/
/-- one argument, two -/
def t1 (r : List V → Hp → VK → Prop) : V → Hp → VK → Prop := fun x H Q => r [x] H Q
def t2 (r : List V → Hp → VK → Prop) : R2 := fun x y H Q => r [x, y] H Q
variable {r : List V → Hp → VK → Prop} {o1 : O1} {o2 : O2} {x : Str} {id T : String} {p : Pos}
theorem d_callB (hc : CallR X (.builtin id) r) (s : UnS X.K (t1 r) o1) (ha : PE X a (rb X.K fa)) (hm : X.mg x = none) (hv : bootBuiltins x = some (.builtin id)) (hg : Gl X x := by rfl) (hn : x ≠ "__name__" := by decide) (hdb : (x == ("__debug__" : Str)) = false := by decide)
    (he : starEach (a :: []) X.env = (false, eval a X.env) :: starEach [] X.env := by rfl) (hpl : (backTo pos (starEach [] X.env)).any (·.1) = false := by rfl) : PE X (.Call (.Name x p) [a] [] pos) (rd X.K (fUn o1 fa)) :=
  PE.imp (pe_callB hc hg hm hv (pa_cons ha pa_nil he) hn hdb he hpl) fun _ _ _ h => rd_un s h
theorem d_callT (hc : CallR X (.type T) r) (s : UnS X.K (t1 r) o1) (ha : PE X a (rb X.K fa)) (hm : X.mg x = none) (hv : bootBuiltins x = some (.type T)) (hg : Gl X x := by rfl) (hn : x ≠ "__name__" := by decide) (hdb : (x == ("__debug__" : Str)) = false := by decide)
    (he : starEach (a :: []) X.env = (false, eval a X.env) :: starEach [] X.env := by rfl) (hpl : (backTo pos (starEach [] X.env)).any (·.1) = false := by rfl) : PE X (.Call (.Name x p) [a] [] pos) (rd X.K (fUn o1 fa)) :=
  PE.imp (pe_callTy hc hg hm hv (pa_cons ha pa_nil he) hn hdb he hpl) fun _ _ _ h => rd_un s h
theorem n_callT (hc : CallR X (.type T) r) (s : UnN X.K (t1 r) o1) (ha : PE X a (rb X.K fa)) (hm : X.mg x = none) (hv : bootBuiltins x = some (.type T)) (hg : Gl X x := by rfl) (hn : x ≠ "__name__" := by decide) (hdb : (x == ("__debug__" : Str)) = false := by decide)
    (he : starEach (a :: []) X.env = (false, eval a X.env) :: starEach [] X.env := by rfl) (hpl : (backTo pos (starEach [] X.env)).any (·.1) = false := by rfl) : PE X (.Call (.Name x p) [a] [] pos) (rn X.K (fUn o1 fa)) :=
  PE.imp (pe_callTy hc hg hm hv (pa_cons ha pa_nil he) hn hdb he hpl) fun _ _ _ h => rn_un s h
theorem d_callB2 (hc : CallR X (.builtin id) r) (s : OpS X.K (t2 r) o2) (ha : PE X a (rb X.K fa)) (hb : PE X b (rb X.K fb)) (hm : X.mg x = none) (hv : bootBuiltins x = some (.builtin id)) (hg : Gl X x := by rfl) (hn : x ≠ "__name__" := by decide) (hdb : (x == ("__debug__" : Str)) = false := by decide)
    (he : starEach (a :: [b]) X.env = (false, eval a X.env) :: starEach [b] X.env := by rfl) (he2 : starEach (b :: []) X.env = (false, eval b X.env) :: starEach [] X.env := by rfl) (hpl : (backTo pos (starEach [b] X.env)).any (·.1) = false := by rfl) :
    PE X (.Call (.Name x p) [a, b] [] pos) (rd X.K (fOp o2 fa fb)) :=
  PE.imp (pe_callB hc hg hm hv (pa_cons ha (pa_cons hb pa_nil he2) he) hn hdb he hpl) fun _ _ _ h => rd_op s h
/-- a function of a module of the library, by from .. import -/
theorem d_callF2 (hc : CallR X (.builtin id) r) (s : OpS X.K (t2 r) o2) (ha : PE X a (rb X.K fa)) (hb : PE X b (rb X.K fb)) (hm : X.mg x = some (.builtin id)) (hg : Gl X x := by rfl) (hdb : (x == ("__debug__" : Str)) = false := by decide)
    (he : starEach (a :: [b]) X.env = (false, eval a X.env) :: starEach [b] X.env := by rfl) (he2 : starEach (b :: []) X.env = (false, eval b X.env) :: starEach [] X.env := by rfl) (hpl : (backTo pos (starEach [b] X.env)).any (·.1) = false := by rfl) :
    PE X (.Call (.Name x p) [a, b] [] pos) (rd X.K (fOp o2 fa fb)) :=
  PE.imp (pe_callBfun hc hg hm (pa_cons ha (pa_cons hb pa_nil he2) he) hdb he hpl) fun _ _ _ h => rd_op s h
end
section
variable {K : Fr_}
def oLen : O1 := fun x R => match x with
  | .tuple ds => R (.int ds.length)
  | .list ds => R (.int ds.length)
  | .str z => z.length ≤ sizeLine ∧ R (.int z.length)
  | _ => False
theorem sLen : UnS K (t1 (fun xs H Q => ∃ x n, xs = [x] ∧ LenV K x H n ∧ Q (.int n) H)) oLen := ⟨fun {O w H x vx R Q} ol rx h k => by
  unfold oLen at h
  split at h
  · obtain ⟨p, vs, rfl, q1, r1⟩ := rx.tup
    exact ⟨_, _, rfl, .inr ⟨vs, q1, rfl⟩, k _ _ H (Same.refl H) (by simp only [Rep, r1.len]) h⟩
  · obtain ⟨p, vs, rfl, q1, r1⟩ := rx.lst
    exact ⟨_, _, rfl, .inl ⟨vs, q1, rfl⟩, k _ _ H (Same.refl H) (by simp only [Rep, r1.len]) h⟩
  · obtain ⟨hz, h⟩ := h
    have e := rx.str
    subst e
    exact ⟨_, _, rfl, ⟨hz, rfl⟩, k _ _ H (Same.refl H) (by simp only [Rep]) h⟩
  · exact h.elim⟩
def oInt : O1 := fun x R => match x with
  | .int i => R (.int i)
  | .bool b => R (.int (if b then 1 else 0))
  | _ => False
theorem sIntOf : UnS K (t1 (fun xs H Q => (∃ i, xs = [.int i] ∧ Q (.int i) H) ∨ ∃ k, xs = [.bl k] ∧ Q (.int (if k then 1 else 0)) H)) oInt := ⟨fun {O w H x vx R Q} ol rx h k => by
  unfold oInt at h
  split at h
  · have e := rx.int
    subst e
    exact .inl ⟨_, rfl, k _ _ H (Same.refl H) (by simp only [Rep]) h⟩
  · have e := rx.bool
    subst e
    exact .inr ⟨_, rfl, k _ _ H (Same.refl H) (by simp only [Rep]) h⟩
  · exact h.elim⟩
def oAbs : O1 := fun x R => asI x fun i => R (.int (if i < 0 then -i else i))
theorem sAbs : UnS K (t1 (fun xs H Q => ∃ i, xs = [.int i] ∧ Q (.int (if i < 0 then -i else i)) H)) oAbs := ⟨fun {O w H x vx R Q} ol rx h k => by
  obtain ⟨i, rfl, q⟩ := asI_inv h
  have e := rx.int
  subst e
  exact ⟨i, rfl, k _ _ H (Same.refl H) (by simp only [Rep]) q⟩⟩
theorem sMax2 : OpS K (t2 (fun xs H Q => ∃ i j, xs = [.int i, .int j] ∧ Q (.int (if j > i then j else i)) H)) (oI fun i j => .int (if j > i then j else i)) := ⟨fun {O w H x y vx vy R Q} ol rx ry h k => by
  obtain ⟨i, j, rfl, rfl, q⟩ := oI_inv h
  have e := rx.int
  have e' := ry.int
  subst e e'
  exact ⟨i, j, rfl, k _ _ H (Same.refl H) (by simp only [Rep]) q⟩⟩
theorem sMin2 : OpS K (t2 (fun xs H Q => ∃ i j, xs = [.int i, .int j] ∧ Q (.int (if j < i then j else i)) H)) (oI fun i j => .int (if j < i then j else i)) := ⟨fun {O w H x y vx vy R Q} ol rx ry h k => by
  obtain ⟨i, j, rfl, rfl, q⟩ := oI_inv h
  have e := rx.int
  have e' := ry.int
  subst e e'
  exact ⟨i, j, rfl, k _ _ H (Same.refl H) (by simp only [Rep]) q⟩⟩
theorem sGcd : OpS K (t2 rGcd) (oI fun i j => .int ((Nat.gcd i.natAbs j.natAbs : Nat) : Int)) := ⟨fun {O w H x y vx vy R Q} ol rx ry h k => by
  obtain ⟨i, j, rfl, rfl, q⟩ := oI_inv h
  have e := rx.int
  have e' := ry.int
  subst e e'
  exact ⟨i, j, rfl, k _ _ H (Same.refl H) (by simp only [Rep]) q⟩⟩
def oDivmod : O2 := oIC CDiv fun i j => .tuple [.int (i / j), .int (i % j)]
theorem sDivmod : OpS K (t2 (fun xs H Q => ∃ i j, xs = [.int i, .int j] ∧ CDiv i j ∧ ∀ p, H p = none → Q (.ref p) (upd H p (.tup [.int (i / j), .int (i % j)])))) oDivmod := ⟨fun {O w H x y vx vy R Q} ol rx ry h k => by
  obtain ⟨i, j, rfl, rfl, c, q⟩ := oIC_inv h
  have e := rx.int
  have e' := ry.int
  subst e e'
  exact ⟨i, j, rfl, c, fun p hp => k _ _ _ (Same.new hp) (rep_tup ol hp (by simp only [Reps, Rep]; exact ⟨_, _, rfl, rfl, _, _, rfl, rfl, rfl⟩)) q⟩⟩
/-- a list of truths, of ints -/
def oAll : O1 := fun x R => ∃ bs : List Bool, x = .list (bs.map .bool) ∧ R (.bool (bs.all id))
def oAny : O1 := fun x R => ∃ bs : List Bool, x = .list (bs.map .bool) ∧ R (.bool (bs.any id))
theorem sAll : UnS K (t1 (rAll K)) oAll := ⟨fun {O w H x vx R Q} ol rx h k => by
  obtain ⟨bs, rfl, q⟩ := h
  obtain ⟨p, vs, rfl, q1, r1⟩ := rx.lst
  have e := r1.bools
  subst e
  exact ⟨p, bs, rfl, q1, k _ _ H (Same.refl H) (by simp only [Rep]) q⟩⟩
theorem sAny : UnS K (t1 (rAny K)) oAny := ⟨fun {O w H x vx R Q} ol rx h k => by
  obtain ⟨bs, rfl, q⟩ := h
  obtain ⟨p, vs, rfl, q1, r1⟩ := rx.lst
  have e := r1.bools
  subst e
  exact ⟨p, bs, rfl, q1, k _ _ H (Same.refl H) (by simp only [Rep]) q⟩⟩
def oSum : O1 := fun x R => ∃ ns : List Int, x = .list (ns.map .int) ∧ R (.int ns.sum)
theorem sSum : UnS K (t1 (rSum K)) oSum := ⟨fun {O w H x vx R Q} ol rx h k => by
  obtain ⟨bs, rfl, q⟩ := h
  obtain ⟨p, vs, rfl, q1, r1⟩ := rx.lst
  have e := r1.ints
  subst e
  exact ⟨p, bs, rfl, q1, k _ _ H (Same.refl H) (by simp only [Rep]) q⟩⟩
def oMax : O1 := fun x R => ∃ ns : List Int, x = .list (ns.map .int) ∧ 0 < ns.length ∧ ∀ m, m ∈ ns → (∀ y, y ∈ ns → y ≤ m) → R (.int m)
def oMin : O1 := fun x R => ∃ ns : List Int, x = .list (ns.map .int) ∧ 0 < ns.length ∧ ∀ m, m ∈ ns → (∀ y, y ∈ ns → m ≤ y) → R (.int m)
theorem sMax : UnS K (t1 (rMax K)) oMax := ⟨fun {O w H x vx R Q} ol rx h k => by
  obtain ⟨bs, rfl, hl, q⟩ := h
  obtain ⟨p, vs, rfl, q1, r1⟩ := rx.lst
  have e := r1.ints
  subst e
  exact ⟨p, bs, rfl, q1, hl, fun m h1 h2 => k _ _ H (Same.refl H) (by simp only [Rep]) (q m h1 h2)⟩⟩
theorem sMin : UnS K (t1 (rMin K)) oMin := ⟨fun {O w H x vx R Q} ol rx h k => by
  obtain ⟨bs, rfl, hl, q⟩ := h
  obtain ⟨p, vs, rfl, q1, r1⟩ := rx.lst
  have e := r1.ints
  subst e
  exact ⟨p, bs, rfl, q1, hl, fun m h1 h2 => k _ _ H (Same.refl H) (by simp only [Rep]) (q m h1 h2)⟩⟩
def oList : O1 := fun x R => match rowD x with
  | some ds => R (.list ds)
  | none => False
def oTuple : O1 := fun x R => match rowD x with
  | some ds => R (.tuple ds)
  | none => False
theorem nList : UnN K (t1 (fun xs H Q => ∃ p ys, xs = [.ref p] ∧ (SqL K H p ys ∨ SqT K H p ys) ∧ ∀ l, H l = none → Q (.ref l) (upd H l (.lst ys)))) oList := ⟨fun {O w H x vx R Q} ol rx h k => by
  unfold oList at h
  cases x with
  | tuple ds =>
    obtain ⟨p, vs, rfl, q1, r1⟩ := rx.tup
    exact ⟨p, vs, rfl, .inr q1, fun l hl => k ds l vs _ (Same.new hl) hl upd_same (reps_new ol hl r1) h⟩
  | list ds =>
    obtain ⟨p, vs, rfl, q1, r1⟩ := rx.lst
    exact ⟨p, vs, rfl, .inl q1, fun l hl => k ds l vs _ (Same.new hl) hl upd_same (reps_new ol hl r1) h⟩
  | _ => exact h.elim⟩
theorem sTuple : UnS K (t1 (fun xs H Q => ∃ p ys, xs = [.ref p] ∧ ((SqL K H p ys ∧ ∀ l, H l = none → Q (.ref l) (upd H l (.tup ys))) ∨ (SqT K H p ys ∧ Q (.ref p) H)))) oTuple := ⟨fun {O w H x vx R Q} ol rx h k => by
  unfold oTuple at h
  cases x with
  | tuple ds =>
    obtain ⟨p, vs, rfl, q1, r1⟩ := rx.tup
    exact ⟨p, vs, rfl, .inr ⟨q1, k (.tuple ds) _ H (Same.refl H) (by simp only [Rep]; exact ⟨p, vs, rfl, q1, r1⟩) h⟩⟩
  | list ds =>
    obtain ⟨p, vs, rfl, q1, r1⟩ := rx.lst
    exact ⟨p, vs, rfl, .inl ⟨q1, fun l hl => k (.tuple ds) _ _ (Same.new hl) (rep_tup ol hl r1) h⟩⟩
  | _ => exact h.elim⟩
/-! ### isinstance -/
def tyD : PyData → String
  | .none => "NoneType"
  | .bool _ => "bool"
  | .int _ => "int"
  | .str _ => "str"
  | .list _ => "list"
  | .tuple _ => "tuple"
  | .dict _ => "dict"
def isiAll (T : String) : Bool := ["NoneType", "bool", "int", "str", "list", "tuple", "dict"].all fun t => (kitB t T).isSome
def isiD (T : String) (x : PyData) : Bool := (kitB (tyD x) T).getD false
theorem isi_kit {T : String} (h : isiAll T = true) (x : PyData) : PySem.W.kitOne K (.type (tyD x)) (.type T) = some (isiD T x) := by
  refine kit_ty ?_
  unfold isiAll at h
  unfold isiD
  simp only [List.all_cons, List.all_nil, Bool.and_true, Bool.and_eq_true] at h
  obtain ⟨h1, h2, h3, h4, h5, h6, h7⟩ := h
  have g : ∀ {o : Option Bool}, o.isSome = true → o = some (o.getD false) := fun {o} h => by cases o <;> simp at h ⊢
  cases x <;> simp only [tyD] <;> exact g (by assumption)
theorem RepB.tyX {O : AS} {w : Option Addr} {H : Hp} {d : PyData} {v : V} (h : RepB K O w H d v) : TyX K H v (.type (tyD d)) := by
  cases d with
  | none => rw [h.non]; exact .base .non
  | bool b => rw [h.bool]; exact .base (.bl b)
  | int b => rw [h.int]; exact .base (.int b)
  | str b => rw [h.str]; exact .base (.str b)
  | list ds =>
    obtain ⟨a, vs, rfl, q, _⟩ := h.lst
    rcases q with (q | ⟨o, q⟩) | ⟨o, its, n, q1, q2, _⟩
    · exact .base (.lst q)
    · exact .base (.frz q)
    · exact .kList q1 q2
  | tuple ds =>
    obtain ⟨a, vs, rfl, q, _⟩ := h.tup
    rcases q with (q | ⟨o, q⟩) | ⟨o, its, n, q1, q2, _⟩
    · exact .base (.tup q)
    · exact .fTuple q
    · exact .kTuple q1 q2
  | dict kvs =>
    rcases h with h | ⟨a, vs, ds, e, _⟩
    · simp only [Rep] at h
      obtain ⟨a, ps, rfl, ⟨q, n⟩, r⟩ := h
      rcases q with q | ⟨o, q⟩
      · exact .base (.dK q)
      · exact .fDict q
    · cases e
end
section
variable {X : Cx} {e a b c : Expr} {es : List Expr} {pos p p2 : Pos} {f fa fb fc : FE} {T : Str}
theorem d_isi {n : String} (hT : isiAll n = true) (ha : PE X a (rb X.K fa)) (hm : X.mg "isinstance" = none) (hmT : X.mg T = none) (hvT : bootBuiltins T = some (.type n)) (hg : Gl X "isinstance" := by rfl) (hgT : Gl X T := by rfl) (hn : T ≠ "__name__" := by decide) (hdb : (T == ("__debug__" : Str)) = false := by decide)
    (he : starEach (a :: [.Name T p2]) X.env = (false, eval a X.env) :: starEach [.Name T p2] X.env := by rfl) (he2 : starEach (.Name T p2 :: []) X.env = (false, eval (.Name T p2) X.env) :: starEach [] X.env := by rfl) (hpl : (backTo pos (starEach [.Name T p2] X.env)).any (·.1) = false := by rfl) :
    PE X (.Call (.Name "isinstance" p) [a, .Name T p2] [] pos) (rd X.K (fUn (fun x R => R (.bool (isiD n x))) fa)) :=
  PE.imp (pe_callB call_isi hg hm boot_isinstance (pa_cons ha (pa_cons (pe_bltn (v := .ty n) hgT hmT hvT rfl hn hdb) pa_nil he2) he) (by decide) (by decide) he hpl) fun σ H Q ⟨Oc, w, ρ, S, R, ev, hf, k⟩ =>
    ⟨Oc, w, ρ, S, _, ev, hf, fun x S1 vx H1 ev1 g1 rx h1 => ⟨vx, .ty n, _, _, _, rfl, .ty n, rx.tyX, isi_kit hT x, k _ S1 _ H1 ev1 g1 (by simp only [Rep]) h1⟩⟩
end
end DL

namespace DL
open PySem PySem.Spec PyProof.Rows L2
/-! ### what a def promises to callers that stand under no repr -/
structure Pro (P : Program) (W : World) (K : Fr_) (mg : Str → Option Value) (base : Heap) (k : Nat) (f : Addr) (fd : FuncData) (ps : List Str) (sp : Sp) : Prop where
  arity : ∀ vs H Q E, sp vs H Q E → vs.length = ps.length
  act : ∀ {A : Around} {outer : List Env} {s : Shared} {H : Hp} {args : Args} {us : List Value} {vs : List V} {Q : VK} {E : XK}, A.guards = some [] → Room k A → Env0 P W K mg base A outer s H → BindsTo s fd args (ps.zip us) → Vals vs us → sp vs H Q E →
    codeAny (model P W) A (.call (.ref f) args) (CR CX0 outer P W H s Q E) s
section
variable {P : Program} {W : World} {K : Fr_} {mg : Str → Option Value} {base : Heap} {j k : Nat} {f : Addr} {fd : FuncData} {ps : List Str} {sp sp' : Sp}
/-- one's own context at a def's entry -/
theorem quiet_in {qual : Str} {scope : Scope} {cd : Value} {A : Around} {outer : List Env} {s : Shared} {H : Hp} {E : XK} {N : List Str} {CX : CXT} (h : A.guards = some []) : (cxOf CX P W K mg base N qual scope f cd A outer s H E).nox.A.guards = some [] := h
theorem Pro.mono (F : Pro P W K mg base j f fd ps sp) (h : j ≤ k) : Pro P W K mg base k f fd ps sp := ⟨F.arity, fun g r => F.act g (r.mono h)⟩
theorem Pro.imp (F : Pro P W K mg base k f fd ps sp) (h : ∀ vs H Q E, sp' vs H Q E → sp vs H Q E) : Pro P W K mg base k f fd ps sp' :=
  ⟨fun vs H Q E q => F.arity vs H Q E (h _ _ _ _ q), fun g r e b v q => F.act g r e b v (h _ _ _ _ q)⟩
theorem Pro.no (h : ∀ vs H Q E, ¬ sp vs H Q E) : Pro P W K mg base k f fd ps sp := ⟨fun vs H Q E q => absurd q (h vs H Q E), fun _ _ _ _ _ q => absurd q (h _ _ _ _)⟩
/-- by its body -/
theorem Pro.of {x qual : Str} {st : Stmt} {N : List Str} (F : Fun K x qual st f fd) (S : FnScope N ps (defScope st)) (ar : ∀ vs H Q E, sp vs H Q E → vs.length = ps.length)
    (bd : ∀ (cdv : Value) (A : Around) (outer : List Env) (s : Shared) (H : Hp) (vs : List V) (Q : VK) (E : XK), A.guards = some [] → Room k (A.deeper (envOfC qual (defScope st) s.heap.objs.size f cdv)) → sp vs H Q E →
      ∃ t, PSs (cxOf CX0 P W K mg base N qual (defScope st) f cdv A outer s H E).nox (defBody st) t ∧ t { nx := fun _ H' => Q .non H', rt := Q } (L2.start N vs) H) : Pro P W K mg base (k + 1) f fd ps sp := by
  obtain ⟨oc, od, kV, doc, pm, an, cdv, ct, osl, efd, at_f, code⟩ := F.ex
  subst efd
  refine ⟨ar, @fun A outer s H args us vs Q E quiet room env bind vals asked => ?_⟩
  have count := ar _ _ _ _ asked
  have old : ∀ b o, base.get? b = some o → s.heap.get? b = some o := fun b o e => (env.bs b o e).1
  have inK := env.mod.kin.keeps old
  have kinds : ∀ y ∈ ps.zip us, (defScope st).names.lookup y.1 = some .local ∨ ((defScope st).names.lookup y.1 = some .cell ∧ ((cellsFrom (s.heap.objs.size + 1) (defScope st).names []).lookup y.1).isSome = true) := by
    intro y hy
    obtain ⟨n, v⟩ := y
    exact (S.par n (List.of_mem_zip hy).1).imp id fun z => ⟨z, PySem.W.cellsFrom_some _ _ _ (.inl z)⟩
  apply codeAny_call_function room.depth (inK _ _ at_f) rfl S.co S.gen rfl (PySem.W.codeRec_of inK code)
  apply bind
  apply wpAny_newFunctionEnv_cells S.kind kinds
  rintro env' rfl s1 made
  refine ⟨env.mod.nolimit.keeps fun b o e => made.toInCall.keep b o (old b o e), codeAny_func ?_⟩
  obtain ⟨t, ht, hq⟩ := bd cdv A outer s H vs Q E quiet (room.deeper _) asked
  have start : Inv (cxOf CX0 P W K mg base N qual (defScope st) f cdv A outer s H E) [] (L2.start N vs) H s1 := inv_start S room.hd env count vals made
  refine wpAny_mono (ht.nox.run [] s1 (L2.start N vs) H _ start hq) (fun fl s' out => ?_) fun _ _ z => z
  match fl, out with
  | .ret u, ⟨v, σ', H', J, rv, q⟩ => exact ⟨v, H', J.os, J.bare, J.base, J.hok, rv, q⟩
  | .next, ⟨σ', H', J, q⟩ => exact ⟨.non, H', J.os, J.bare, J.base, J.hok, rfl, q⟩
  | .brk, ⟨_, _, _, q⟩ => exact q.elim
  | .cont, ⟨_, _, _, q⟩ => exact q.elim
end
/-- room for k calls, and no repr under way -/
structure RoomG (k : Nat) (A : Around) : Prop where
  room : Room k A
  quiet : A.guards = some []
theorem RoomG.mono {j k : Nat} {A : Around} (r : RoomG k A) (h : j ≤ k) : RoomG j A := ⟨r.room.mono h, r.quiet⟩
section
variable {X : Cx} {k : Nat} {f : Addr} {fd : FuncData} {ps : List Str} {sp : Sp} {x : Str} {p pos : Pos} {e : Expr} {es : List Expr} {t : TA}
theorem Pro.go {pins : List (Addr × Obj)} {σ : L2.St} {H : Hp} {s : Shared} {Q : VK} {args : List Value} {kw : List (Str × Value)} {us : List Value} {vs : List V} (F : Pro X.prog X.w X.K X.mg X.base k f fd ps sp) (r : RoomG k X.A) (I : Inv X pins σ H s)
    (b : BindsTo s fd ⟨args, kw⟩ (ps.zip us)) (v : Vals vs us) (h : sp vs H Q fun _ _ _ => False) : wpAny (model X.prog X.w) X.A (call (.ref f) args kw) (EP X pins σ Q) X.xe s := by
  refine wpAny_call (codeAny_mono (F.act r.quiet r.room I.env0 b v h) fun r s' q => ?_)
  match r, q with
  | .ok (.ret u), q => exact I.after q
  | .ok .next, q => exact q.elim
  | .ok .brk, q => exact q.elim
  | .ok .cont, q => exact q.elim
  | .error e, q => exact q.elim
/-- f(e, ..) -/
theorem pe_pro (F : Pro X.prog X.w X.K X.mg X.base k f fd ps sp) (r : RoomG k X.A) (hg : Gl X x) (hm : X.mg x = some (.ref f)) (hk : PySem.W.keepIn X.K (.ref f) = true) (hb : Binds X.K fd ps []) (ha : PA X (e :: es) t) (hdb : (x == ("__debug__" : Str)) = false)
    (he : starEach (e :: es) X.env = (false, eval e X.env) :: starEach es X.env) (hpl : (backTo pos (starEach es X.env)).any (·.1) = false) : PE X (.Call (.Name x p) (e :: es) [] pos) (tCall sp [] (fun _ _ _ => False) t) := by
  refine ⟨fun pins s σ H Q I h => wpAny_Call_Name_kw (ld_glob I hg hm ?_ hdb)⟩
  apply PySem.W.callWith_K (h₀ := X.base) I.ok.mod.kin hk _ he hpl
  refine thn (ha.run pos pins s σ H _ I h) ?_
  rintro us s1 ⟨vs, H1, I1, rv, q⟩
  have q' : sp vs H1 Q fun _ _ _ => False := by simpa using q
  refine ⟨I1.kIn, F.go r I1 ?_ rv q'⟩
  have := hb s1 us I1.kIn (by rw [List.append_nil, ← rv.length]; exact F.arity _ _ _ _ q')
  simpa using this
end
end DL

namespace DL
open PySem L2 PyProof.Rows
/-! ### slices -/
abbrev FO := Rho → SW → (Option Int → SW → Prop) → Prop
def fNoP : FO := fun _ S R => R none S
def fP (f : FE) : FO := fun ρ S R => f ρ S fun d S1 => asI d fun i => R (some i) S1
def ro (K : Fr_) (g : FO) : TO := fun σ H Q => ∃ Oc w ρ S R, EV K Oc w σ H ρ S ∧ g ρ S R ∧ ∀ o S' H', EV K Oc w σ H' ρ S' → Gr w H H' → R o S' → Q o H'
theorem PO.imp {X : Cx} {e : Option Expr} {t t' : TO} (h : PO X e t) (i : ∀ σ H Q, t' σ H Q → t σ H Q) : PO X e t' := ⟨fun pins s σ H Q I q => h.run pins s σ H Q I (i σ H Q q)⟩
/-- the part of a row from lo to hi -/
def cutD (ds : List PyData) (lo hi : Option Int) : List PyData := (ds.drop (HT.sIx ds.length 0 lo)).take (HT.sIx ds.length ds.length hi - HT.sIx ds.length 0 lo)
def cutZ (z : Str) (lo hi : Option Int) : Str := cutS z lo hi
def oSl : PyData → Option Int → Option Int → (PyData → Prop) → Prop := fun x lo hi R => match x with
  | .tuple ds => R (.tuple (cutD ds lo hi))
  | .list ds => R (.list (cutD ds lo hi))
  | .str z => z.length ≤ sizeLine ∧ R (.str (cutS z lo hi))
  | _ => False
def fSl (f : FE) (gl gh : FO) : FE := fun ρ S R => f ρ S fun x S1 => gl ρ S1 fun lo S2 => gh ρ S2 fun hi S3 => oSl x lo hi fun d => R d S3
def oSlL : PyData → Option Int → Option Int → (PyData → Prop) → Prop := fun x lo hi R => match x with
  | .list ds => R (.list (cutD ds lo hi))
  | _ => False
def fSlL (f : FE) (gl gh : FO) : FE := fun ρ S R => f ρ S fun x S1 => gl ρ S1 fun lo S2 => gh ρ S2 fun hi S3 => oSlL x lo hi fun d => R d S3
section
variable {K : Fr_} {O : AS} {w : Option Addr} {H : Hp}
theorem Reps.cut {ds : List PyData} {vs : List V} (r : Reps K O H ds vs) (lo hi : Option Int) : Reps K O H (cutD ds lo hi) (cutV vs lo hi) := by
  unfold cutD cutV
  rw [r.len]
  exact Reps.take _ (Reps.drop _ r)
theorem sl_all {X : Cx} : SlR X (fun x lo hi H Q => rSlA X.K x lo hi H Q ∨ (rSlL X.K x lo hi H Q ∨ rSlS x lo hi H Q)) := sl_tupA.or (sl_list.or sl_str)
theorem sSl {lo hi : Option Int} {x : PyData} {vx : V} {R : PyData → Prop} {Q : VK} (ol : OL O H) (rx : RepB K O w H x vx) (h : oSl x lo hi R) (k : ∀ d v H', Same H H' → Rep K O H' d v → R d → Q v H') :
    rSlA K vx lo hi H Q ∨ (rSlL K vx lo hi H Q ∨ rSlS vx lo hi H Q) := by
  unfold oSl at h
  split at h
  · rename_i ds
    obtain ⟨p, vs, rfl, q1, r1⟩ := rx.tup
    refine .inl ⟨p, vs, rfl, q1, fun e => ?_, fun _ t ht => k _ _ _ (Same.new ht) (rep_tup ol ht (r1.cut lo hi)) h⟩
    have ec : cutD ds lo hi = ds := by
      unfold cutD
      rw [← r1.len, e.1, e.2]
      simp [r1.len]
    rw [ec] at h
    exact k (.tuple ds) _ H (Same.refl H) (by simp only [Rep]; exact ⟨p, vs, rfl, q1, r1⟩) h
  · rename_i ds
    obtain ⟨p, vs, rfl, q1, r1⟩ := rx.lst
    exact .inr (.inl ⟨p, vs, rfl, q1, fun t ht => k _ _ _ (Same.new ht) (rep_lst ol ht (r1.cut lo hi)) h⟩)
  · obtain ⟨hz, h⟩ := h
    exact .inr (.inr ⟨_, rx.str, hz, k _ _ H (Same.refl H) (by simp only [Rep]) h⟩)
  · exact h.elim
theorem nSl {lo hi : Option Int} {x : PyData} {vx : V} {R : PyData → Prop} {Q : VK} (ol : OL O H) (rx : RepB K O w H x vx) (h : oSlL x lo hi R)
    (k : ∀ ds p vs H', Same H H' → H p = none → H' p = some (.lst vs) → Reps K (With O p) H' ds vs → R (.list ds) → Q (.ref p) H') : rSlL K vx lo hi H Q := by
  unfold oSlL at h
  split at h
  · rename_i ds
    obtain ⟨p, vs, rfl, q1, r1⟩ := rx.lst
    exact ⟨p, vs, rfl, q1, fun t ht => k _ _ _ _ (Same.new ht) ht upd_same (reps_new ol ht (r1.cut lo hi)) h⟩
  · exact h.elim
end
section
variable {X : Cx} {e a b c : Expr} {es : List Expr} {pos p p2 : Pos} {f fa fb fc : FE} {gl gh : FO} {lo hi : Option Expr} {n : Nat} {x : Str}
theorem o_none : PO X none (ro X.K fNoP) := PO.imp po_none fun σ H Q ⟨Oc, w, ρ, S, R, ev, hf, k⟩ => k none S H ev Gr.refl hf
theorem o_some (h : PE X e (rb X.K f)) : PO X (some e) (ro X.K (fP f)) := PO.imp (po_some h) fun σ H Q ⟨Oc, w, ρ, S, R, ev, hf, k⟩ =>
  ⟨Oc, w, ρ, S, _, ev, hf, fun d S1 v H1 ev1 g1 r h1 => by
    obtain ⟨i, rfl, q⟩ := asI_inv h1
    exact ⟨i, r.int, k _ S1 H1 ev1 g1 q⟩⟩
theorem d_slice (he : PE X e (rb X.K f)) (hl : PO X lo (ro X.K gl)) (hu : PO X hi (ro X.K gh)) : PE X (.Subscript e (.Slice lo hi none p2) pos) (rd X.K (fSl f gl gh)) := PE.imp (pe_slice sl_all he hl hu) fun σ H Q ⟨Oc, w, ρ, S, R, ev, hf, k⟩ =>
  ⟨Oc, w, ρ, S, _, ev, hf, fun d S1 v H1 ev1 g1 r1 h1 => ⟨Oc, w, ρ, S1, _, ev1, h1, fun l S2 H2 ev2 g2 h2 => ⟨Oc, w, ρ, S2, _, ev2, h2, fun u S3 H3 ev3 g3 h3 =>
    sSl ev3.Ool (RepB.go (ev1.stepO (g2.trans g3)) ev1.Ool (g2.trans g3) r1) h3 fun d v H4 sm rv q => k d S3 v H4 (ev3.same sm) (((g1.trans g2).trans g3).trans (Gr.of sm)) rv q⟩⟩⟩
theorem n_slice (he : PE X e (rb X.K f)) (hl : PO X lo (ro X.K gl)) (hu : PO X hi (ro X.K gh)) : PE X (.Subscript e (.Slice lo hi none p2) pos) (rn X.K (fSlL f gl gh)) := PE.imp (pe_slice sl_list he hl hu) fun σ H Q ⟨Oc, w, ρ, S, R, ev, hf, k⟩ =>
  ⟨Oc, w, ρ, S, _, ev, hf, fun d S1 v H1 ev1 g1 r1 h1 => ⟨Oc, w, ρ, S1, _, ev1, h1, fun l S2 H2 ev2 g2 h2 => ⟨Oc, w, ρ, S2, _, ev2, h2, fun u S3 H3 ev3 g3 h3 =>
    nSl ev3.Ool (RepB.go (ev1.stepO (g2.trans g3)) ev1.Ool (g2.trans g3) r1) h3 fun ds p vs H4 sm n hp rv q => k ds S3 p vs H4 (ev3.same sm) (((g1.trans g2).trans g3).trans (Gr.of sm)) (free_of ev3 ((g1.trans g2).trans g3) n) hp rv q⟩⟩⟩
end
/-! ### promises in data, calls -/
def ArgRep (K : Fr_) (O : AS) (w : Option Addr) (H : Hp) : Sl → V → Prop
  | .dat d, v => Rep K O H d v
  | .wel, v => ∃ a, w = some a ∧ v = .ref a
  | _, _ => False
def Args (K : Fr_) (O : AS) (w : Option Addr) (H : Hp) : List Sl → List V → Prop
  | [], vs => vs = []
  | d :: ds, vs => ∃ v r, vs = v :: r ∧ ArgRep K O w H d v ∧ Args K O w H ds r
abbrev Ct := List Sl → SW → (PyData → SW → Prop) → Prop
def Wel (w : Option Addr) (H : Hp) (S : SW) : Prop := ∀ a, w = some a → H a = some (.lst (S.map V.int))
def spC (K : Fr_) (n : Nat) (C : Ct) : Sp := fun vs H Q _ => ∃ Oc w S as R, as.length = n ∧ Args K Oc w H as vs ∧ OL Oc H ∧ (∀ a, w = some a → Oc a) ∧ Wel w H S ∧ C as S R ∧
  ∀ d S' v H', Gr w H H' → Wel w H' S' → Rep K Oc H' d v → R d S' → Q v H'
structure Cal (P : Program) (W : World) (K : Fr_) (mg : Str → Option Value) (base : Heap) (x : Str) (k n : Nat) (C : Ct) : Prop where
  ex : ∃ f fd ps, Pro P W K mg base k f fd ps (spC K n C) ∧ PySem.W.keepIn K (.ref f) = true ∧ Binds K fd ps [] ∧ mg x = some (.ref f)
/-- .. called by the names of all parameters: pm puts the written ones in the parameters' order -/
structure CalK (P : Program) (W : World) (K : Fr_) (mg : Str → Option Value) (base : Heap) (x : Str) (k n : Nat) (C : Ct) (ks : List Str) (pm : {α : Type} → List α → List α) : Prop where
  ex : ∃ f fd ps, Pro P W K mg base k f fd ps (spC K n C) ∧ PySem.W.keepIn K (.ref f) = true ∧ (∀ (s : Shared) (ws : List Value), ws.length = ks.length → BindsTo s fd ⟨[], ks.zip ws⟩ (ps.zip (pm ws))) ∧ mg x = some (.ref f)
  vals : ∀ {vs : List V} {us : List Value}, vs.length = ks.length → Vals vs us → Vals (pm vs) (pm us)
  args : ∀ {O w H} {as : List Sl} {vs : List V}, as.length = ks.length → Args K O w H as vs → Args K O w H (pm as) (pm vs)
  len : ∀ {as : List Sl}, as.length = ks.length → (pm as).length = n
abbrev FR := Rho → SW → (List Sl → SW → Prop) → Prop
def gaNil : FR := fun _ S R => R [] S
def gDat (f : FE) (g : FR) : FR := fun ρ S R => f ρ S fun d S1 => g ρ S1 fun as S2 => R (.dat d :: as) S2
def gWel (i : Nat) (g : FR) : FR := fun ρ S R => match ρ[i]? with
  | some .wel => g ρ S fun as S2 => R (.wel :: as) S2
  | some (.dat d) => g ρ S fun as S2 => R (.dat d :: as) S2
  | _ => False
def rca (K : Fr_) (n : Nat) (g : FR) : TA := fun σ H Q => ∃ Oc w ρ S R, EV K Oc w σ H ρ S ∧ g ρ S R ∧
  ∀ as S' vs H', EV K Oc w σ H' ρ S' → Gr w H H' → Args K (OO Oc σ ρ) w H' as vs → as.length = n → R as S' → Q vs H'
theorem ArgRep.step {K : Fr_} {O : AS} {w : Option Addr} {H H' : Hp} (s : Step O H H') (ol : OL O H) : ∀ {d : Sl} {v : V}, ArgRep K O w H d v → ArgRep K O w H' d v
  | .dat d, v, h => Rep.step s ol d v h
  | .wel, v, h => h
  | .un, _, h => h.elim
  | .own _, _, h => h.elim
  | .dct _, _, h => h.elim
theorem Args.len {K : Fr_} {O : AS} {w : Option Addr} {H : Hp} : ∀ {as : List Sl} {vs : List V}, Args K O w H as vs → vs.length = as.length
  | [], _, h => by simp only [Args] at h; subst h; rfl
  | a :: as, _, h => by
    simp only [Args] at h
    obtain ⟨v, r, rfl, _, h⟩ := h
    rw [List.length_cons, List.length_cons, Args.len h]
section
variable {X : Cx} {e a b c : Expr} {es : List Expr} {pos p p2 : Pos} {f fa fb fc : FE} {g : FR} {n : Nat} {x : Str}
theorem c_nil : PA X [] (rca X.K 0 gaNil) := PA.imp pa_nil fun σ H Q ⟨Oc, w, ρ, S, R, ev, hf, k⟩ => k [] S [] H ev Gr.refl (by simp only [Args]) rfl hf
theorem c_dat (he : PE X e (rd X.K f)) (hr : PA X es (rca X.K n g)) (hs : starEach (e :: es) X.env = (false, eval e X.env) :: starEach es X.env := by rfl) : PA X (e :: es) (rca X.K (n + 1) (gDat f g)) := PA.imp (pa_cons he hr hs) fun σ H Q ⟨Oc, w, ρ, S, R, ev, hf, k⟩ =>
  ⟨Oc, w, ρ, S, _, ev, hf, fun d S1 v H1 ev1 g1 r1 h1 => ⟨Oc, w, ρ, S1, _, ev1, h1, fun as S2 vs H2 ev2 g2 r2 hl h2 =>
    k (.dat d :: as) S2 (v :: vs) H2 ev2 (g1.trans g2) (by simp only [Args, ArgRep]; exact ⟨v, vs, rfl, Rep.step (ev1.stepO g2) ev1.Ool d v r1, r2⟩) (by rw [List.length_cons, hl]) h2⟩⟩
theorem c_wel (i : Nat) (hr : PA X es (rca X.K n g)) (hN : X.N[i]? = some x := by rfl) (hv : Vis X.env.scope x := by first | exact Or.inl rfl | exact Or.inr (Or.inl rfl) | exact Or.inr (Or.inr rfl)) (hd : (x == ("__debug__" : Str)) = false := by decide)
    (hcd : (x == ("__classdict__" : Str)) = false := by decide) (hs : starEach (.Name x p :: es) X.env = (false, eval (.Name x p) X.env) :: starEach es X.env := by rfl) : PA X (.Name x p :: es) (rca X.K (n + 1) (gWel i g)) := PA.imp (pa_cons (pe_var (i := i) hN hv hd hcd) hr hs) fun σ H Q ⟨Oc, w, ρ, S, R, ev, hf, k⟩ => by
  unfold gWel at hf
  split at hf
  · rename_i hi
    obtain ⟨a, hw, hs⟩ := ev.wel i hi
    exact ⟨_, hs, Oc, w, ρ, S, _, ev, hf, fun as S2 vs H2 ev2 g2 r2 hl h2 => k (.wel :: as) S2 (_ :: vs) H2 ev2 g2 (by simp only [Args, ArgRep]; exact ⟨_, vs, rfl, ⟨a, hw, rfl⟩, r2⟩) (by rw [List.length_cons, hl]) h2⟩
  · rename_i d hi
    obtain ⟨v, hs, r⟩ := ev.dat i d hi
    exact ⟨_, hs, Oc, w, ρ, S, _, ev, hf, fun as S2 vs H2 ev2 g2 r2 hl h2 => k (.dat d :: as) S2 (_ :: vs) H2 ev2 g2 (by simp only [Args, ArgRep]; exact ⟨_, vs, rfl, Rep.step (ev.stepO g2) ev.Ool d v r, r2⟩) (by rw [List.length_cons, hl]) h2⟩
  · exact hf.elim
def fCall (C : Ct) (g : FR) : FE := fun ρ S R => g ρ S fun as S1 => C as S1 R
theorem d_call {k : Nat} {C : Ct} (c : Cal X.prog X.w X.K X.mg X.base x k n C) (hr : RoomG k X.A) (ha : PA X (e :: es) (rca X.K n g)) (hg : Gl X x := by rfl) (hdb : (x == ("__debug__" : Str)) = false := by decide)
    (he : starEach (e :: es) X.env = (false, eval e X.env) :: starEach es X.env := by rfl) (hpl : (backTo pos (starEach es X.env)).any (·.1) = false := by rfl) : PE X (.Call (.Name x p) (e :: es) [] pos) (rd X.K (fCall C g)) := by
  obtain ⟨f, fd, ps, F, hk, hb, hm⟩ := c.ex
  exact PE.imp (pe_pro F hr hg hm hk hb ha hdb he hpl) fun σ H Q ⟨Oc, w, ρ, S, R, ev, hf, k⟩ =>
    ⟨Oc, w, ρ, S, _, ev, hf, fun as S1 vs H1 ev1 g1 r1 hl h1 => ⟨OO Oc σ ρ, w, S1, as, _, hl, by rw [List.append_nil]; exact r1, ev1.Ool, fun a z => .inl (ev1.ws a z).1, fun a z => (ev1.ws a z).2, h1,
      fun d S' v H' g w' r q => k d S' v H' (ev1.go g w') (g1.trans g) r q⟩⟩
/-- rows of keywords -/
theorem PK.imp {kws : List Keyword} {t t' : TA} (h : PK X kws t) (i : ∀ σ H Q, t' σ H Q → t σ H Q) : PK X kws t' := ⟨fun ps pins s σ H Q I q => h.run ps pins s σ H Q I (i σ H Q q)⟩
end
end DL

namespace DL
open PySem L2 PyProof.Rows
/-! ### calls by keywords alone -/
section
variable {X : Cx} {e a b c : Expr} {es : List Expr} {kws : List Keyword} {pos p p2 kpos : Pos} {f fa fb fc : FE} {g : FR} {n : Nat} {x : Str} {nm : Option Str}
theorem k_nil : PK X [] (rca X.K 0 gaNil) := PK.imp pk_nil fun σ H Q ⟨Oc, w, ρ, S, R, ev, hf, k⟩ => k [] S [] H ev Gr.refl (by simp only [Args]) rfl hf
theorem k_dat (he : PE X e (rd X.K f)) (hr : PK X kws (rca X.K n g)) : PK X (⟨nm, e, kpos⟩ :: kws) (rca X.K (n + 1) (gDat f g)) := PK.imp (pk_cons he hr) fun σ H Q ⟨Oc, w, ρ, S, R, ev, hf, k⟩ =>
  ⟨Oc, w, ρ, S, _, ev, hf, fun d S1 v H1 ev1 g1 r1 h1 => ⟨Oc, w, ρ, S1, _, ev1, h1, fun as S2 vs H2 ev2 g2 r2 hl h2 =>
    k (.dat d :: as) S2 (v :: vs) H2 ev2 (g1.trans g2) (by simp only [Args, ArgRep]; exact ⟨v, vs, rfl, Rep.step (ev1.stepO g2) ev1.Ool d v r1, r2⟩) (by rw [List.length_cons, hl]) h2⟩⟩
def fCallK (C : Ct) (pm : {α : Type} → List α → List α) (g : FR) : FE := fun ρ S R => g ρ S fun as S1 => C (pm as) S1 R
theorem d_callK {k m : Nat} {C : Ct} {ks : List Str} {pm : {α : Type} → List α → List α} (c : CalK X.prog X.w X.K X.mg X.base x k m C ks pm) (hr : RoomG k X.A) (ha : PK X kws (rca X.K n g)) (hg : Gl X x := by rfl) (hdb : (x == ("__debug__" : Str)) = false := by decide)
    (hall : (backToKw pos (keywordEach kws X.env)).all (·.1.isSome) = true := by rfl) (hks : (backToKw pos (keywordEach kws X.env)).filterMap (·.1) = ks := by rfl) (hn : ks.length = n := by rfl)
    (hpl : ((backTo pos (starEach [] X.env)).any (·.1) || (backToKw pos (keywordEach kws X.env)).any (·.1.isNone)) = false := by rfl) : PE X (.Call (.Name x p) [] kws pos) (rd X.K (fCallK C pm g)) := by
  obtain ⟨f, fd, ps, F, hk, hb, hm⟩ := c.ex
  refine ⟨fun pins s σ H Q I ⟨Oc, w, ρ, S, R, ev, hf, kk⟩ => ?_⟩
  refine wpAny_Call_Name_kw (ld_glob I hg hm ?_ hdb)
  refine PySem.W.callWith_KW0 (h₀ := X.base) I.ok.mod.kin hk hall ?_ hpl
  refine thn (ha.run pos pins s σ H (fun vs H1 => vs.length = n ∧ spC X.K m C (pm vs) H1 Q fun _ _ _ => False) I ⟨Oc, w, ρ, S, _, ev, hf, fun as S1 vs H1 ev1 g1 r1 hl h1 => ⟨by rw [r1.len, hl], OO Oc σ ρ, w, S1, pm as, _, c.len (by rw [hl, hn]), c.args (by rw [hl, hn]) r1, ev1.Ool, fun a z => .inl (ev1.ws a z).1, fun a z => (ev1.ws a z).2, h1,
    fun d S' v H' g w' r q => kk d S' v H' (ev1.go g w') (g1.trans g) r q⟩⟩) fun us s1 hq => ?_
  obtain ⟨vs, H1, I1, rv, hl, hsp⟩ := hq
  refine ⟨I1.kIn, ?_⟩
  rw [hks, List.nil_append]
  have rv2 := c.vals (by rw [hl, hn]) rv
  have hlen : us.length = ks.length := by rw [← rv.length, hl, hn]
  exact F.go hr I1 (hb s1 us hlen) rv2 hsp
end
/-! ### targets -/
abbrev FG := Rho → PyData → (Rho → Prop) → Prop
abbrev FGs := Rho → List PyData → (Rho → Prop) → Prop
/-- what a target's store leaves: only the slots of is changed, none of them becomes one's own list -/
structure Tgt (is : List Nat) (σ σ' : L2.St) (ρ ρ' : Rho) : Prop where
  len : σ'.length = σ.length
  at' : ∀ j : Nat, j ∉ is → σ'[j]? = σ[j]? ∧ ρ'[j]? = ρ[j]?
  own : ∀ (j : Nat) (xs : List PyData), ρ'[j]? = some (Sl.own xs) → ρ[j]? = some (Sl.own xs) ∧ σ'[j]? = σ[j]?
  dct : ∀ (j : Nat) (kvs : List (List Key × PyData)), ρ'[j]? = some (Sl.dct kvs) → ρ[j]? = some (Sl.dct kvs) ∧ σ'[j]? = σ[j]?
theorem Tgt.trans {is js : List Nat} {σ σ1 σ2 : L2.St} {ρ ρ1 ρ2 : Rho} (a : Tgt is σ σ1 ρ ρ1) (b : Tgt js σ1 σ2 ρ1 ρ2) : Tgt (is ++ js) σ σ2 ρ ρ2 where
  len := b.len.trans a.len
  at' := fun j h => by
    rw [List.mem_append, not_or] at h
    obtain ⟨b1, b2⟩ := b.at' j h.2
    obtain ⟨a1, a2⟩ := a.at' j h.1
    exact ⟨b1.trans a1, b2.trans a2⟩
  own := fun j xs h => by
    obtain ⟨b1, b2⟩ := b.own j xs h
    obtain ⟨a1, a2⟩ := a.own j xs b1
    exact ⟨a1, b2.trans a2⟩
  dct := fun j xs h => by
    obtain ⟨b1, b2⟩ := b.dct j xs h
    obtain ⟨a1, a2⟩ := a.dct j xs b1
    exact ⟨a1, b2.trans a2⟩
theorem Tgt.refl {σ : L2.St} {ρ : Rho} : Tgt [] σ σ ρ ρ := ⟨rfl, fun _ _ => ⟨rfl, rfl⟩, fun _ _ h => ⟨h, rfl⟩, fun _ _ h => ⟨h, rfl⟩⟩
theorem Tgt.oo {is : List Nat} {Oc : AS} {σ σ' : L2.St} {ρ ρ' : Rho} (t : Tgt is σ σ' ρ ρ') : ∀ a, OO Oc σ' ρ' a → OO Oc σ ρ a := by
  rintro a (h | ⟨i, xs, h1, h2⟩)
  · exact .inl h
  · obtain ⟨q1, q2⟩ := t.own i xs h1
    exact .inr ⟨i, xs, q1, by rw [← q2]; exact h2⟩
def rg (K : Fr_) (is : List Nat) (fg : FG) : TG := fun v σ H Q => ∃ Oc w ρ S d R, EV K Oc w σ H ρ S ∧ Rep K (OO Oc σ ρ) H d v ∧ fg ρ d R ∧ ∀ σ' ρ', EV K Oc w σ' H ρ' S → Tgt is σ σ' ρ ρ' → R ρ' → Q σ' H
def rgs (K : Fr_) (is : List Nat) (fg : FGs) : TGs := fun vs σ H Q => ∃ Oc w ρ S ds R, EV K Oc w σ H ρ S ∧ Reps K (OO Oc σ ρ) H ds vs ∧ fg ρ ds R ∧ ∀ σ' ρ', EV K Oc w σ' H ρ' S → Tgt is σ σ' ρ ρ' → R ρ' → Q σ' H
theorem EV.less {K : Fr_} {Oc : AS} {w : Option Addr} {σ σ' : L2.St} {H : Hp} {ρ ρ' : Rho} {S : SW} (e : EV K Oc w σ H ρ S) (hl : σ'.length = σ.length) (hl' : ρ'.length = ρ.length)
    (hd : ∀ (i : Nat) (d : PyData), ρ'[i]? = some (Sl.dat d) → ∃ v, σ'[i]? = some (some v) ∧ Rep K (OO Oc σ ρ) H d v)
    (ho : ∀ (j : Nat) (xs : List PyData), ρ'[j]? = some (Sl.own xs) → ρ[j]? = some (Sl.own xs) ∧ σ'[j]? = σ[j]?)
    (hw : ∀ (j : Nat), ρ'[j]? = some Sl.wel → ρ[j]? = some Sl.wel ∧ σ'[j]? = σ[j]?) (hk : ∀ (j : Nat) (kvs : List (List Key × PyData)), ρ'[j]? = some (Sl.dct kvs) → ρ[j]? = some (Sl.dct kvs) ∧ σ'[j]? = σ[j]?) : EV K Oc w σ' H ρ' S := by
  have oo : ∀ a, OO Oc σ' ρ' a → OO Oc σ ρ a := by
    rintro a (h | ⟨i, xs, h1, h2⟩)
    · exact .inl h
    · obtain ⟨q1, q2⟩ := ho i xs h1
      exact .inr ⟨i, xs, q1, by rw [← q2]; exact h2⟩
  refine ⟨by rw [hl, hl', e.len], fun i d h => ?_, fun i xs h => ?_, fun i j xs ys a h1 h2 h3 h4 => ?_, fun i h => ?_, e.ws, e.ol, e.dct.to hk (fun a ws h o => ⟨h, o⟩) fun ds vs => Reps.less oo ds vs⟩
  · obtain ⟨v, h1, r⟩ := hd i d h
    exact ⟨v, h1, Rep.less oo d v r⟩
  · obtain ⟨q1, q2⟩ := ho i xs h
    obtain ⟨a, vs, h1, h2, h3, h4⟩ := e.own i xs q1
    exact ⟨a, vs, by rw [q2]; exact h1, h2, h3, Reps.less oo xs vs h4⟩
  · obtain ⟨q1, q2⟩ := ho i xs h1
    obtain ⟨q3, q4⟩ := ho j ys h2
    exact e.inj i j xs ys a q1 q3 (by rw [← q2]; exact h3) (by rw [← q4]; exact h4)
  · obtain ⟨q1, q2⟩ := hw i h
    obtain ⟨a, h1, h2⟩ := e.wel i q1
    exact ⟨a, h1, by rw [q2]; exact h2⟩
theorem EV.put {K : Fr_} {Oc : AS} {w : Option Addr} {σ : L2.St} {H : Hp} {ρ : Rho} {S : SW} (e : EV K Oc w σ H ρ S) (i : Nat) {d : PyData} {v : V} (r : Rep K (OO Oc σ ρ) H d v) :
    EV K Oc w (σ.set i (some v)) H (ρ.set i (.dat d)) S ∧ Tgt [i] σ (σ.set i (some v)) ρ (ρ.set i (.dat d)) := by
  have hlt : ∀ {j : Nat}, i = j → j < ρ.length → j < σ.length := fun _ h => by rw [← e.len]; exact h
  have own : ∀ (j : Nat) (xs : List PyData), (ρ.set i (.dat d))[j]? = some (Sl.own xs) → ρ[j]? = some (Sl.own xs) ∧ (σ.set i (some v))[j]? = σ[j]? := fun j xs h => by
    by_cases hj : i = j
    · subst hj
      by_cases hk : i < ρ.length
      · rw [List.getElem?_set_self hk] at h; cases h
      · rw [List.getElem?_eq_none (by simpa using hk)] at h; cases h
    · rw [List.getElem?_set_ne hj] at h
      exact ⟨h, by rw [List.getElem?_set_ne hj]⟩
  have dct : ∀ (j : Nat) (kvs : List (List Key × PyData)), (ρ.set i (.dat d))[j]? = some (Sl.dct kvs) → ρ[j]? = some (Sl.dct kvs) ∧ (σ.set i (some v))[j]? = σ[j]? := fun j xs h => by
    by_cases hj : i = j
    · subst hj
      by_cases hk : i < ρ.length
      · rw [List.getElem?_set_self hk] at h; cases h
      · rw [List.getElem?_eq_none (by simpa using hk)] at h; cases h
    · rw [List.getElem?_set_ne hj] at h
      exact ⟨h, by rw [List.getElem?_set_ne hj]⟩
  refine ⟨e.less (by simp) (by simp) (fun j d' h => ?_) own (fun j h => ?_) dct, ⟨by simp, fun j hj => ?_, own, dct⟩⟩
  · by_cases hj : i = j
    · subst hj
      by_cases hk : i < ρ.length
      · rw [List.getElem?_set_self hk] at h
        cases h
        exact ⟨v, by rw [List.getElem?_set_self (by rw [← e.len]; exact hk)], r⟩
      · rw [List.getElem?_eq_none (by simpa using hk)] at h; cases h
    · rw [List.getElem?_set_ne hj] at h
      obtain ⟨u, hu, ru⟩ := e.dat j d' h
      exact ⟨u, by rw [List.getElem?_set_ne hj]; exact hu, ru⟩
  · by_cases hj : i = j
    · subst hj
      by_cases hk : i < ρ.length
      · rw [List.getElem?_set_self hk] at h; cases h
      · rw [List.getElem?_eq_none (by simpa using hk)] at h; cases h
    · rw [List.getElem?_set_ne hj] at h
      exact ⟨h, by rw [List.getElem?_set_ne hj]⟩
  · have hj' : i ≠ j := fun z => hj (by simp [z])
    exact ⟨List.getElem?_set_ne hj', List.getElem?_set_ne hj'⟩
def gNm (i : Nat) : FG := fun ρ d R => R (ρ.set i (.dat d))
def gTp (n : Nat) (gs : FGs) : FG := fun ρ d R => match d with
  | .tuple ds => ds.length = n ∧ gs ρ ds R
  | _ => False
def gsNil : FGs := fun ρ ds R => ds = [] ∧ R ρ
def gsCons (fg : FG) (gs : FGs) : FGs := fun ρ ds R => match ds with
  | d :: r => fg ρ d fun ρ' => gs ρ' r R
  | [] => False
section
variable {X : Cx} {e : Expr} {es : List Expr} {pos : Pos} {fg : FG} {gs : FGs} {is js : List Nat} {n : Nat}
theorem PG.imp {t t' : TG} (h : PG X e t) (i : ∀ v σ H Q, t' v σ H Q → t v σ H Q) : PG X e t' := ⟨fun pins s σ H v u Q I r q => h.run pins s σ H v u Q I r (i v σ H Q q)⟩
theorem PGs.imp {t t' : TGs} (h : PGs X es t) (i : ∀ v σ H Q, t' v σ H Q → t v σ H Q) : PGs X es t' := ⟨fun pins s σ H v u Q I r q => h.run pins s σ H v u Q I r (i v σ H Q q)⟩
theorem g_name (i : Nat) {x : Str} (hN : X.N.Nodup) (hi : X.N[i]? = some x := by rfl) (hx : Loc X.env.scope x := by first | exact Or.inl rfl | exact Or.inr rfl) (hf : X.fn x = true ∨ X.env.scope.names.lookup x = some .local := by first | exact .inl rfl | exact .inr rfl) :
    PG X (.Name x pos) (rg X.K [i] (gNm i)) := PG.imp (pg_name (i := i) hN hi hx hf) fun v σ H Q ⟨Oc, w, ρ, S, d, R, ev, r, h, k⟩ => by
  obtain ⟨h1, h2⟩ := ev.put i r
  exact k _ _ h1 h2 h
theorem gs_nil : PGs X [] (rgs X.K [] gsNil) := PGs.imp pgs_nil fun v σ H Q ⟨Oc, w, ρ, S, ds, R, ev, r, h, k⟩ => by
  obtain ⟨rfl, h⟩ := h
  simp only [Reps] at r
  exact ⟨r, k σ ρ ev Tgt.refl h⟩
theorem gs_cons (h1 : PG X e (rg X.K is fg)) (h2 : PGs X es (rgs X.K js gs)) (hs : (assignEach (e :: es) X.env).map (·.2) = assign e X.env :: (assignEach es X.env).map (·.2) := by rfl) :
    PGs X (e :: es) (rgs X.K (is ++ js) (gsCons fg gs)) := PGs.imp (pgs_cons h1 h2 hs) fun v σ H Q ⟨Oc, w, ρ, S, ds, R, ev, r, h, k⟩ => by
  unfold gsCons at h
  split at h
  · rename_i d ds
    simp only [Reps] at r
    obtain ⟨u, us, rfl, r1, r2⟩ := r
    exact ⟨u, us, rfl, Oc, w, ρ, S, d, _, ev, r1, h, fun σ1 ρ1 ev1 t1 q1 => ⟨Oc, w, ρ1, S, ds, R, ev1, Reps.less t1.oo ds us r2, q1, fun σ2 ρ2 ev2 t2 q2 => k σ2 ρ2 ev2 (t1.trans t2) q2⟩⟩
  · exact h.elim
theorem g_tup {kk : Nat} (hc : X.calm = true) (h : PGs X es (rgs X.K is gs)) (hn : (assignEach es X.env).length = n := by rfl) (hst : (assignEach es X.env).findIdx? (·.1) = none := by rfl) :
    PG X (.Tuple es kk pos) (rg X.K is (gTp n gs)) := PG.imp (pg_tup hc h hn hst) fun v σ H Q ⟨Oc, w, ρ, S, d, R, ev, r, h, k⟩ => by
  unfold gTp at h
  split at h
  · rename_i ds
    simp only [Rep] at r
    obtain ⟨a, vs, rfl, q, r⟩ := r
    exact ⟨a, vs, rfl, q, r.len.trans h.1, Oc, w, ρ, S, ds, R, ev, r, h.2, k⟩
  · exact h.elim
end
end DL

namespace DL
open PySem L2 PyProof.Rows
/-! ### what is walked -/
/-- J gives the data ds one by one, as long as the heap goes on by Rl -/
structure Itg (K : Fr_) (Rl : Hp → Prop) (O : AS) (H : Hp) (J : It) (ds : List PyData) : Prop where
  ex : ∃ G Y, Walk J ds.length G Y ∧ ∀ O' H', OL O' H' → (∀ a, O' a → O a ∨ H a = none) → Rl H' → G H' ∧ ∀ i x H3, Y i H' x H3 → i < ds.length → ∃ d, ds[i]? = some d ∧ Same H' H3 ∧ Rep K O' H3 d x
abbrev FI := Rho → SW → (List PyData → SW → Prop) → Prop
/-- for a for; for a comprehension -/
def rif (K : Fr_) (fi : FI) : TI := fun σ H R => ∃ Oc w ρ S T, EV K Oc w σ H ρ S ∧ fi ρ S T ∧ ∀ ds S' J H', EV K Oc w σ H' ρ S' → Gr w H H' → Itg K (Step (OO Oc σ ρ) H') (OO Oc σ ρ) H' J ds → T ds S' → R J H'
def ric (K : Fr_) (fi : FI) : TI := fun σ H R => ∃ Oc w ρ S T, EV K Oc w σ H ρ S ∧ fi ρ S T ∧ ∀ ds S' J H', EV K Oc w σ H' ρ S' → Gr w H H' → Itg K (Gr w H') (OO Oc σ ρ) H' J ds → T ds S' → R J H'
theorem PI.imp {X : Cx} {tg e : Expr} {t t' : TI} (h : PI X tg e t) (i : ∀ σ H R, t' σ H R → t σ H R) : PI X tg e t' := ⟨fun pins s σ H R I q => h.run pins s σ H R I (i σ H R q)⟩
def fiL (f : FE) : FI := fun ρ S T => f ρ S fun d S1 => match d with
  | .list ds => T ds S1
  | _ => False
def fiT (f : FE) : FI := fun ρ S T => f ρ S fun d S1 => match d with
  | .tuple ds => T ds S1
  | _ => False
def fiR1 (f : FE) : FI := fun ρ S T => f ρ S fun d S1 => asI d fun j => -(2 ^ 62) ≤ j ∧ j < 2 ^ 62 ∧ T ((List.range j.toNat).map fun k => .int (k : Nat)) S1
def fiR2 (f g : FE) : FI := fun ρ S T => f ρ S fun d S1 => g ρ S1 fun e S2 => asI d fun i => asI e fun j => (-(2 ^ 62) ≤ i ∧ i < 2 ^ 62 ∧ -(2 ^ 62) ≤ j ∧ j < 2 ^ 62) ∧ T ((List.range (j - i).toNat).map fun k => .int (i + (k : Nat))) S2
section
variable {K : Fr_} {O : AS} {w : Option Addr} {H : Hp} {ds : List PyData} {vs : List V} {a : Addr}
theorem itg_list {Rl : Hp → Prop} (hR : ∀ H', Rl H' → Step O H H') (hk : ∀ H', Rl H' → SqL K H' a vs) (ol : OL O H) (r : Reps K O H ds vs) : Itg K Rl O H (Itl K a) ds := by
  refine ⟨⟨_, _, by rw [← r.len]; exact walk_list (K := K) (a := a) (xs := vs), fun O' H' ol' ho h' => ⟨hk H' h', fun i x H3 y hi => ?_⟩⟩⟩
  obtain ⟨rfl, hx⟩ := y
  have hi' : ds[i]? = some ds[i] := List.getElem?_eq_getElem hi
  obtain ⟨v, hv, rv⟩ := (Reps.fw ho (hR _ h') ol ds vs r).at hi'
  rw [hv] at hx
  cases hx
  exact ⟨_, hi', Same.refl _, rv⟩
theorem itg_tup {Rl : Hp → Prop} (hR : ∀ H', Rl H' → Step O H H') (hq : SqT K H a vs) (ol : OL O H) (r : Reps K O H ds vs) : Itg K Rl O H (Itt K a) ds := by
  refine ⟨⟨_, _, by rw [← r.len]; exact walk_tup (K := K) (a := a) (xs := vs), fun O' H' ol' ho h' => ⟨SqT.step (hR H' h') ol hq, fun i x H3 y hi => ?_⟩⟩⟩
  obtain ⟨rfl, hx⟩ := y
  have hi' : ds[i]? = some ds[i] := List.getElem?_eq_getElem hi
  obtain ⟨v, hv, rv⟩ := (Reps.fw ho (hR _ h') ol ds vs r).at hi'
  rw [hv] at hx
  cases hx
  exact ⟨_, hi', Same.refl _, rv⟩
theorem itg_range {Rl : Hp → Prop} {lo : Int} {n : Nat} : Itg K Rl O H (Itr lo n) ((List.range n).map fun k => .int (lo + (k : Nat))) := by
  refine ⟨⟨_, _, by rw [List.length_map, List.length_range]; exact walk_range, fun O' H' ol' ho h' => ⟨True.intro, fun i x H3 y hi => ?_⟩⟩⟩
  obtain ⟨rfl, rfl⟩ := y
  rw [List.length_map, List.length_range] at hi
  refine ⟨.int (lo + (i : Nat)), by rw [List.getElem?_map, List.getElem?_range hi]; rfl, Same.refl _, by simp only [Rep]⟩
end
section
variable {X : Cx} {tg e a b : Expr} {pos p : Pos} {f fa fb : FE} {fi : FI}
theorem ic_of (h : PI X tg e (rif X.K fi)) : PI X tg e (ric X.K fi) := PI.imp h fun σ H R ⟨Oc, w, ρ, S, T, ev, hf, k⟩ =>
  ⟨Oc, w, ρ, S, T, ev, hf, fun ds S' J H' ev' g it q => k ds S' J H' ev' g ⟨by
    obtain ⟨G, Y, w1, h1⟩ := it.ex
    exact ⟨G, Y, w1, fun O' H2 ol ho gr => h1 O' H2 ol ho (ev'.stepO gr)⟩⟩ q⟩
theorem i_list (h : PE X e (rd X.K f)) : PI X tg e (rif X.K (fiL f)) := PI.imp (pi_list h) fun σ H R ⟨Oc, w, ρ, S, T, ev, hf, k⟩ =>
  ⟨Oc, w, ρ, S, _, ev, hf, fun d S1 v H1 ev1 g1 r h1 => by
    cases d with
    | list ds =>
      simp only [Rep] at r
      obtain ⟨a, vs, rfl, q, r⟩ := r
      exact ⟨a, rfl, ⟨vs, q.sq⟩, k ds S1 _ H1 ev1 g1 (itg_list (fun _ z => z) (fun H' s => (QL.step s q).sq) ev1.Ool r) h1⟩
    | _ => exact h1.elim⟩
theorem i_tup (h : PE X e (rb X.K f)) : PI X tg e (rif X.K (fiT f)) := PI.imp (pi_tup h) fun σ H R ⟨Oc, w, ρ, S, T, ev, hf, k⟩ =>
  ⟨Oc, w, ρ, S, _, ev, hf, fun d S1 v H1 ev1 g1 r h1 => by
    cases d with
    | tuple ds =>
      obtain ⟨a, vs, rfl, q, r⟩ := r.tup
      exact ⟨a, rfl, ⟨vs, q⟩, k ds S1 _ H1 ev1 g1 (itg_tup (fun _ z => z) q ev1.Ool r) h1⟩
    | _ => exact h1.elim⟩
/-- a comprehension over a list, also one of one's own -/
theorem ib_list (h : PE X e (rb X.K f)) : PI X tg e (ric X.K (fiL f)) := PI.imp (pi_list h) fun σ H R ⟨Oc, w, ρ, S, T, ev, hf, k⟩ =>
  ⟨Oc, w, ρ, S, _, ev, hf, fun d S1 v H1 ev1 g1 r h1 => by
    cases d with
    | list ds =>
      rcases r with r | ⟨a, vs, ds', e1, rfl, n, q, r⟩
      · simp only [Rep] at r
        obtain ⟨a, vs, rfl, q, r⟩ := r
        exact ⟨a, rfl, ⟨vs, q.sq⟩, k ds S1 _ H1 ev1 g1 (itg_list (fun _ z => ev1.stepO z) (fun H' s => (QL.step (ev1.stepO s) q).sq) ev1.Ool r) h1⟩
      · cases e1
        exact ⟨a, rfl, ⟨vs, SqL.of q⟩, k ds S1 _ H1 ev1 g1 (itg_list (fun _ z => ev1.stepO z) (fun H' s => SqL.of (s _ _ n q)) ev1.Ool r) h1⟩
    | _ => exact h1.elim⟩
theorem i_range1 (ha : PE X a (rb X.K f)) (hm : X.mg "range" = none) (hg : Gl X "range" := by rfl) (hs : starEach [a] X.env = [(false, eval a X.env)] := by rfl) (hs' : starEach (a :: []) X.env = (false, eval a X.env) :: starEach [] X.env := by rfl) : PI X tg (.Call (.Name "range" p) [a] [] pos) (rif X.K (fiR1 f)) :=
  PI.imp (pi_range1 hg hm (pa_cons ha pa_nil hs') hs) fun σ H R ⟨Oc, w, ρ, S, T, ev, hf, k⟩ => ⟨Oc, w, ρ, S, _, ev, hf, fun d S1 v H1 ev1 g1 r h1 => by
    obtain ⟨j, rfl, q1, q2, q3⟩ := asI_inv h1
    refine ⟨j, by rw [r.int], q1, q2, k _ S1 _ H1 ev1 g1 itg_range (by
      simp only [Int.zero_add]
      exact q3)⟩⟩
theorem i_range2 (ha : PE X a (rb X.K fa)) (hb : PE X b (rb X.K fb)) (hm : X.mg "range" = none) (hg : Gl X "range" := by rfl) (hs : starEach [a, b] X.env = [(false, eval a X.env), (false, eval b X.env)] := by rfl) (hs2 : starEach [b] X.env = [(false, eval b X.env)] := by rfl)
    (hs' : starEach (a :: [b]) X.env = (false, eval a X.env) :: starEach [b] X.env := by rfl) (hs2' : starEach (b :: []) X.env = (false, eval b X.env) :: starEach [] X.env := by rfl) : PI X tg (.Call (.Name "range" p) [a, b] [] pos) (rif X.K (fiR2 fa fb)) :=
  PI.imp (pi_range2 hg hm (pa_cons ha (pa_cons hb pa_nil hs2') hs') hs hs2) fun σ H R ⟨Oc, w, ρ, S, T, ev, hf, k⟩ => ⟨Oc, w, ρ, S, _, ev, hf, fun d S1 v H1 ev1 g1 r h1 => ⟨Oc, w, ρ, S1, _, ev1, h1, fun e S2 u H2 ev2 g2 r2 h2 => by
    obtain ⟨i, rfl, h3⟩ := asI_inv h2
    obtain ⟨j, rfl, q1, q3⟩ := asI_inv h3
    exact ⟨i, j, by rw [r.int, r2.int], q1, k _ S2 _ H2 ev2 (g1.trans g2) itg_range q3⟩⟩⟩
end
/-! ### list comprehensions -/
def rwipe (ρ : Rho) : List Nat → Rho
  | [] => ρ
  | v :: vs => (rwipe ρ vs).set v .un
def notOwn (ρ : Rho) (vs : List Nat) : Prop := ∀ v ∈ vs, ∀ xs, ρ[v]? ≠ some (Sl.own xs)
def lcGo (fg : FG) (ft fe : FE) (ρ : Rho) : List PyData → List PyData → SW → (List PyData → SW → Prop) → Prop
  | [], acc, S, T => T acc S
  | d :: ds, acc, S, T => fg ρ d fun ρ' => ft ρ' S fun x S1 => asB x fun k => if k = true then fe ρ' S1 fun y S2 => lcGo fg ft fe ρ ds (acc ++ [y]) S2 T else lcGo fg ft fe ρ ds acc S1 T
def fLc (fi : FI) (vs : List Nat) (fg : FG) (ft fe : FE) : FE := fun ρ S R => fi ρ S fun ds S1 => notOwn ρ vs ∧ ds.length ≤ sizeLine ∧ lcGo fg ft fe (rwipe ρ vs) ds [] S1 fun out S2 => R (.list out) S2
theorem rwipe_len (ρ : Rho) : ∀ vs : List Nat, (rwipe ρ vs).length = ρ.length
  | [] => rfl
  | v :: vs => by unfold rwipe; rw [List.length_set, rwipe_len ρ vs]
theorem rwipe_out {ρ : Rho} {i : Nat} : ∀ {vs : List Nat}, i ∉ vs → (rwipe ρ vs)[i]? = ρ[i]?
  | [], _ => rfl
  | v :: vs, h => by
    simp only [List.mem_cons, not_or] at h
    unfold rwipe
    rw [List.getElem?_set_ne (fun z => h.1 z.symm), rwipe_out h.2]
theorem rwipe_in {ρ : Rho} {i : Nat} : ∀ {vs : List Nat}, i ∈ vs → (rwipe ρ vs)[i]? = some Sl.un ∨ (rwipe ρ vs)[i]? = none
  | v :: vs, h => by
    unfold rwipe
    by_cases e : v = i
    · subst e
      by_cases hl : v < (rwipe ρ vs).length
      · exact .inl (List.getElem?_set_self hl)
      · exact .inr (List.getElem?_eq_none (by simpa using hl))
    · rw [List.getElem?_set_ne e]
      rcases List.mem_cons.mp h with z | z
      · exact absurd z.symm e
      · exact rwipe_in z
theorem wipe_in {σ : L2.St} {i : Nat} : ∀ {vs : List Nat}, i ∈ vs → (wipe σ vs)[i]? = some none ∨ (wipe σ vs)[i]? = none
  | v :: vs, h => by
    unfold wipe
    by_cases e : v = i
    · subst e
      by_cases hl : v < (wipe σ vs).length
      · exact .inl (List.getElem?_set_self hl)
      · exact .inr (List.getElem?_eq_none (by simpa using hl))
    · rw [List.getElem?_set_ne e]
      rcases List.mem_cons.mp h with z | z
      · exact absurd z.symm e
      · exact wipe_in z
theorem wipe_eq {σ σ' : L2.St} {vs : List Nat} (hl : σ'.length = σ.length) (h : ∀ j, j ∉ vs → σ'[j]? = σ[j]?) : wipe σ' vs = wipe σ vs := by
  refine List.ext_getElem? fun j => ?_
  by_cases hj : j ∈ vs
  · by_cases hk : j < σ.length
    · rcases wipe_in (σ := σ) hj with z | z
      · rcases wipe_in (σ := σ') hj with z' | z'
        · rw [z, z']
        · rw [List.getElem?_eq_none_iff, wipe_length] at z'
          omega
      · rw [List.getElem?_eq_none_iff, wipe_length] at z
        omega
    · rw [List.getElem?_eq_none (by rw [wipe_length]; omega), List.getElem?_eq_none (by rw [wipe_length]; omega)]
  · rw [wipe_out hj, wipe_out hj, h j hj]
/-- an object that only the callers may change has changed -/
theorem EV.mut {K : Fr_} {Oc : AS} {w : Option Addr} {σ : L2.St} {H : Hp} {ρ : Rho} {S : SW} {p : Addr} {o : HO} (e : EV K Oc w σ H ρ S) (hp : Oc p) (hw : w ≠ some p) (m : Mu o) (nt : ∀ ws, H p ≠ some (.dT ws)) : EV K Oc w σ (upd H p o) ρ S := by
  have st : Step (OO Oc σ ρ) H (upd H p o) := fun a u n h => by rw [upd_ne (fun z => n (.inl (by rw [z]; exact hp)))]; exact h
  refine ⟨e.len, fun i d h => ?_, fun i xs h => ?_, e.inj, e.wel, fun a h => ?_, fun a h => ?_, e.dct.to (fun j kvs h => ⟨h, rfl⟩) (fun a ws h o => ⟨by rw [upd_ne (fun z => nt ws (by rw [← z]; exact h))]; exact h, o⟩) fun ds vs => Reps.step st e.Ool ds vs⟩
  · obtain ⟨v, h1, r⟩ := e.dat i d h
    exact ⟨v, h1, Rep.step st e.Ool d v r⟩
  · obtain ⟨a, vs, h1, h2, h3, h4⟩ := e.own i xs h
    exact ⟨a, vs, h1, by rw [upd_ne (fun z => h3 (by rw [z]; exact hp))]; exact h2, h3, Reps.step st e.Ool xs vs h4⟩
  · obtain ⟨h1, h2⟩ := e.ws a h
    exact ⟨h1, by rw [upd_ne (fun z => hw (by rw [h, z]))]; exact h2⟩
  · by_cases hap : a = p
    · subst hap
      exact ⟨o, upd_same, m⟩
    · obtain ⟨u, hu, mu⟩ := e.ol a h
      exact ⟨u, by rw [upd_ne hap]; exact hu, mu⟩
theorem notOwn.oo {Oc : AS} {σ σ' : L2.St} {ρ ρ' : Rho} {vs : List Nat} {D : Addr} (no : notOwn ρ vs) (h : ∀ j, j ∉ vs → σ'[j]? = σ[j]? ∧ ρ'[j]? = ρ[j]?) : ∀ a, With (OO Oc σ ρ) D a → OO (With Oc D) σ' ρ' a := by
  rintro a ((h1 | ⟨i, xs, h1, h2⟩) | h1)
  · exact .inl (.inl h1)
  · have hi : i ∉ vs := fun z => no i z xs h1
    obtain ⟨q1, q2⟩ := h i hi
    exact .inr ⟨i, xs, q2.trans h1, q1.trans h2⟩
  · exact .inl (.inr h1)
/-- into a comprehension's block -/
theorem EV.block {K : Fr_} {Oc : AS} {w : Option Addr} {σ : L2.St} {H : Hp} {ρ : Rho} {S : SW} {vs : List Nat} {D : Addr} (e : EV K Oc w σ H ρ S) (hD : H D = none) :
    EV K (With Oc D) w (wipe σ vs) (upd H D (.lst [])) (rwipe ρ vs) S := by
  have inn : ∀ {i : Nat} {x : Sl}, x ≠ .un → (rwipe ρ vs)[i]? = some x → i ∉ vs ∧ ρ[i]? = some x := fun {i x} hx h => by
    by_cases hi : i ∈ vs
    · rcases rwipe_in (ρ := ρ) hi with z | z
      · rw [z] at h; cases h; exact absurd rfl hx
      · rw [z] at h; cases h
    · exact ⟨hi, by rw [← rwipe_out hi]; exact h⟩
  have oo : ∀ a, OO (With Oc D) (wipe σ vs) (rwipe ρ vs) a → OO Oc σ ρ a ∨ H a = none := by
    rintro a ((h1 | h1) | ⟨i, xs, h1, h2⟩)
    · exact .inl (.inl h1)
    · exact .inr (by rw [h1]; exact hD)
    · obtain ⟨q1, q2⟩ := inn (by intro z; cases z) h1
      exact .inl (.inr ⟨i, xs, q2, by rw [← wipe_out (σ := σ) q1]; exact h2⟩)
  have st : Step (OO Oc σ ρ) H (upd H D (.lst [])) := Step.of (Same.new hD)
  refine ⟨by rw [rwipe_len, wipe_length, e.len], fun i d h => ?_, fun i xs h => ?_, fun i j xs ys a h1 h2 h3 h4 => ?_, fun i h => ?_, fun a h => ?_, fun a h => ?_, e.dct.to (fun j kvs h => by
    obtain ⟨q1, q2⟩ := inn (by intro z; cases z) h
    exact ⟨q2, wipe_out q1⟩) (fun a ws h o => ⟨by rw [upd_ne (fun z => by rw [z, hD] at h; cases h)]; exact h, .inl o⟩) fun ds vs => Reps.fw oo st e.Ool ds vs⟩
  · obtain ⟨q1, q2⟩ := inn (by intro z; cases z) h
    obtain ⟨v, hv, r⟩ := e.dat i d q2
    exact ⟨v, by rw [wipe_out q1]; exact hv, Rep.fw oo st e.Ool d v r⟩
  · obtain ⟨q1, q2⟩ := inn (by intro z; cases z) h
    obtain ⟨a, us, h1, h2, h3, h4⟩ := e.own i xs q2
    have hne : a ≠ D := fun z => by rw [z, hD] at h2; cases h2
    exact ⟨a, us, by rw [wipe_out q1]; exact h1, by rw [upd_ne hne]; exact h2, fun z => z.elim h3 hne, Reps.fw oo st e.Ool xs us h4⟩
  · obtain ⟨q1, q2⟩ := inn (by intro z; cases z) h1
    obtain ⟨q3, q4⟩ := inn (by intro z; cases z) h2
    rw [wipe_out q1] at h3
    rw [wipe_out q3] at h4
    exact e.inj i j xs ys a q2 q4 h3 h4
  · obtain ⟨q1, q2⟩ := inn (by intro z; cases z) h
    obtain ⟨a, h1, h2⟩ := e.wel i q2
    exact ⟨a, h1, by rw [wipe_out q1]; exact h2⟩
  · obtain ⟨h1, h2⟩ := e.ws a h
    exact ⟨.inl h1, by rw [upd_ne (fun z => by rw [z, hD] at h2; cases h2)]; exact h2⟩
  · by_cases hap : a = D
    · subst hap
      exact ⟨_, upd_same, trivial⟩
    · rcases h with h | h
      · obtain ⟨u, hu, mu⟩ := e.ol a h
        exact ⟨u, by rw [upd_ne hap]; exact hu, mu⟩
      · exact absurd h hap
theorem rd_lc {K : Fr_} {fi : FI} {vs is : List Nat} {fg : FG} {ft fe : FE} (his : ∀ j ∈ is, j ∈ vs) : ∀ σ H Q, rn K (fLc fi vs fg ft fe) σ H Q → tLc (ric K fi) (rg K is fg) (rt K ft) (rd K fe) vs σ H Q := by
  rintro σ H Q ⟨Oc, w, ρ, S, R, ev, hf, k⟩
  refine ⟨Oc, w, ρ, S, _, ev, hf, fun ds S1 J H1 ev1 g1 it ⟨no, hz, h1⟩ D hD => ?_⟩
  obtain ⟨G, Y, wk, hG⟩ := it.ex
  have hwD : w ≠ some D := fun z => by
    have := (ev1.ws D z).2
    rw [hD] at this
    cases this
  have same0 : ∀ j, j ∉ vs → (wipe σ vs)[j]? = σ[j]? ∧ (rwipe ρ vs)[j]? = ρ[j]? := fun j hj => ⟨wipe_out hj, rwipe_out hj⟩
  have oo2 : ∀ a, OO (With Oc D) (wipe σ vs) (rwipe ρ vs) a → OO Oc σ ρ a ∨ H1 a = none := by
    rintro a ((h1 | h1) | ⟨i, xs, h1, h2⟩)
    · exact .inl (.inl h1)
    · exact .inr (by rw [h1]; exact hD)
    · by_cases hi : i ∈ vs
      · rcases rwipe_in (ρ := ρ) hi with z | z <;> (rw [z] at h1; cases h1)
      · rw [rwipe_out hi] at h1
        rw [wipe_out hi] at h2
        exact .inl (.inr ⟨i, xs, h1, h2⟩)
  refine lc_it wk (fun i H' => ∃ acc va S2, EV K (With Oc D) w (wipe σ vs) H' (rwipe ρ vs) S2 ∧ Gr w H1 H' ∧ H' D = some (.lst va) ∧ Reps K (With (OO Oc σ ρ) D) H' acc va ∧ acc.length ≤ i ∧ lcGo fg ft fe (rwipe ρ vs) (ds.drop i) acc S2 fun out S3 => R (.list out) S3)
    ⟨[], [], S1, ev1.block hD, Gr.of (Same.new hD), upd_same, by simp only [Reps], Nat.le_refl _, h1⟩ (fun i H' _ ⟨acc, va, S2, ev2, g2, _⟩ => (hG _ H' ev2.Ool oo2 g2).1) (fun i x H' H3 hi ⟨acc, va, S2, ev2, g2, hDv, ra, hl, hgo⟩ hy => ?_) (fun H' ⟨acc, va, S2, ev2, g2, hDv, ra, hl, hgo⟩ => ?_)
  · obtain ⟨d, hd, sm, rx⟩ := (hG _ H' ev2.Ool oo2 g2).2 i x H3 hy hi
    rw [List.drop_eq_getElem_cons hi] at hgo
    rw [List.getElem?_eq_getElem hi] at hd
    cases hd
    have ev3 := ev2.same sm
    refine ⟨_, w, _, S2, _, _, ev3, rx, hgo, fun σ' ρ' ev4 tg q4 => ?_⟩
    have agree : ∀ j, j ∉ vs → σ'[j]? = σ[j]? ∧ ρ'[j]? = ρ[j]? := fun j hj => by
      obtain ⟨t1, t2⟩ := tg.at' j fun z => hj (his j z)
      obtain ⟨s1, s2⟩ := same0 j hj
      exact ⟨t1.trans s1, t2.trans s2⟩
    refine ⟨wipe_eq (by rw [tg.len, wipe_length]) fun j hj => (agree j hj).1, _, w, ρ', S2, _, ev4, q4, fun b S3 H4 ev5 g4 q5 => ?_⟩
    -- behind the turn, the slots as they were
    have back : ∀ {H5 : Hp} {S5 : SW}, EV K (With Oc D) w σ' H5 ρ' S5 → EV K (With Oc D) w (wipe σ vs) H5 (rwipe ρ vs) S5 := fun {H5 S5} e5 => by
      have inn : ∀ {j : Nat} {x : Sl}, x ≠ .un → (rwipe ρ vs)[j]? = some x → ρ'[j]? = some x ∧ (wipe σ vs)[j]? = σ'[j]? := fun {j x} hx h => by
        by_cases hj : j ∈ vs
        · rcases rwipe_in (ρ := ρ) hj with z | z
          · rw [z] at h; cases h; exact absurd rfl hx
          · rw [z] at h; cases h
        · obtain ⟨t1, t2⟩ := agree j hj
          exact ⟨by rw [t2, ← rwipe_out hj]; exact h, by rw [t1, wipe_out hj]⟩
      refine e5.less (by rw [tg.len]) (by rw [rwipe_len, e5.len, tg.len, wipe_length, ev.len]) (fun j d h => ?_) (fun j xs h => inn (by intro z; cases z) h) (fun j h => inn (by intro z; cases z) h) (fun j xs h => inn (by intro z; cases z) h)
      obtain ⟨t1, t2⟩ := inn (by intro z; cases z) h
      obtain ⟨v, hv, r⟩ := e5.dat j d t1
      exact ⟨v, t2.trans hv, r⟩
    have gA := (g2.trans (Gr.of sm)).trans g4
    cases b with
    | false =>
      rw [if_neg Bool.false_ne_true] at q5
      refine iteF ?_
      have stp : Step (With (OO Oc σ ρ) D) H' H4 := fun a u n h => ((Gr.of sm).trans g4) a u (fun z => n (.inl (.inl (ev1.ws a z).1))) h
      have ol' : OL (With (OO Oc σ ρ) D) H' := fun a z => ev2.Ool a (notOwn.oo no same0 a z)
      exact ⟨acc, va, S3, back ev5, gA, g4 _ _ hwD (sm _ _ hDv), Reps.step stp ol' acc va ra, Nat.le_succ_of_le hl, q5⟩
    | true =>
      rw [if_pos rfl] at q5
      refine iteT ?_
      refine ⟨_, w, ρ', S3, _, ev5, q5, fun y S5 vy H5 ev6 g5 ry q6 => ?_⟩
      have hD5 : H5 D = some (.lst va) := g5 _ _ hwD (g4 _ _ hwD (sm _ _ hDv))
      have stp : Step (With (OO Oc σ ρ) D) H' H5 := fun a u n h => (((Gr.of sm).trans g4).trans g5) a u (fun z => n (.inl (.inl (ev1.ws a z).1))) h
      have ol' : OL (With (OO Oc σ ρ) D) H' := fun a z => ev2.Ool a (notOwn.oo no same0 a z)
      have ra5 := Reps.step stp ol' acc va ra
      have ry5 : Rep K (With (OO Oc σ ρ) D) H5 y vy := Rep.less (notOwn.oo no agree) y vy ry
      have ol5 : OL (With (OO Oc σ ρ) D) H5 := fun a z => ev6.Ool a (notOwn.oo no agree a z)
      have st5 : Step (With (OO Oc σ ρ) D) H5 (upd H5 D (.lst (va ++ [vy]))) := fun a u n h => by rw [upd_ne (fun z => n (.inr z))]; exact h
      refine ⟨va, hD5, by rw [ra5.len]; omega, acc ++ [y], va ++ [vy], S5, (back ev6).mut (.inr rfl) hwD trivial (fun ws z => by rw [hD5] at z; cases z), fun a u n h => ?_, upd_same, ?_, by rw [List.length_append]; simp; omega, q6⟩
      · have hne : a ≠ D := fun z => by rw [z, hD] at h; cases h
        rw [upd_ne hne]
        exact (gA.trans g5) a u n h
      · exact Reps.step st5 ol5 _ _ (ra5.app (by simp only [Reps]; exact ⟨vy, [], rfl, ry5, rfl⟩))
  · rw [List.drop_eq_nil_of_le (Nat.le_refl _)] at hgo
    exact k acc S2 D va H' (ev1.go g2 fun a h => (ev2.ws a h).2) (g1.trans g2) (free_of ev1 g1 hD) hDv ra hgo
section
variable {X : Cx} {elt tg iter : Expr} {ifs : List Expr} {scope : Scope} {own : List (Str × Nat)} {pos : Pos} {fi : FI} {fg : FG} {ft fe : FE} {is : List Nat} {c : Expr}
theorem p_nil : PTs X [] (rt X.K (fC (.bool true))) := ⟨fun pins s σ H Q I ⟨Oc, w, ρ, S, R, ev, hf, k⟩ => pts_nil.run pins s σ H Q I (k true S H ev Gr.refl hf)⟩
theorem p_one {f : FE} (h : PT X c (rt X.K f)) : PTs X [c] (rt X.K f) := pts_one h
theorem n_lc (hc : X.calm = true) (hN : X.N.Nodup) (hi : PI X tg iter (ric X.K fi)) (ok : BlkOk X.N X.env.scope scope own) (his : ∀ j ∈ is, j ∈ own.map (·.2))
    (hg : ∀ (s : Shared) (H : Hp) (C : Addr) (cl : List (Str × Addr)) (fp : List Addr), PG (X.blk s H scope (compEnvC scope cl C X.env) fp) tg (rg X.K is fg)) (ht : ∀ (s : Shared) (H : Hp) (C : Addr) (cl : List (Str × Addr)) (fp : List Addr), PTs (X.blk s H scope (compEnvC scope cl C X.env) fp) ifs (rt X.K ft))
    (he : ∀ (s : Shared) (H : Hp) (C : Addr) (cl : List (Str × Addr)) (fp : List Addr), PE (X.blk s H scope (compEnvC scope cl C X.env) fp) elt (rd X.K fe)) (hs : ∀ x, foldedSetIterable iter X.env x = pure x := by intro _; rfl) :
    PE X (.ListComp elt [⟨tg, iter, ifs, 0⟩] scope pos) (rn X.K (fLc fi (own.map (·.2)) fg ft fe)) := PE.imp (pe_lc hc hN hi ok hg ht he hs) (rd_lc his)
end
end DL

namespace DL
open PySem L2 PyProof.Rows
/-! ### statements -/
structure Out where
  nx : Rho → SW → Prop
  rt : PyData → SW → Prop
  bk : Rho → SW → Prop := fun _ _ => False
  ct : Rho → SW → Prop := fun _ _ => False
  rn : List PyData → SW → Prop := fun _ _ => False
abbrev FS := Rho → SW → Out → Prop
/-- H0: the heap at the def's entry -/
structure Fz (w : Option Addr) (H0 : Hp) (σ : L2.St) (H : Hp) (ρ : Rho) : Prop where
  gr : Gr w H0 H
  own : ∀ (i : Nat) (xs : List PyData) (a : Addr), ρ[i]? = some (Sl.own xs) → σ[i]? = some (some (.ref a)) → H0 a = none
  dct : ∀ (i : Nat) (kvs : List (List Key × PyData)) (a : Addr), ρ[i]? = some (Sl.dct kvs) → σ[i]? = some (some (.ref a)) → H0 a = none
/-- from one statement to the next -/
structure Fw (Oc : AS) (σ : L2.St) (ρ : Rho) (H : Hp) (σ' : L2.St) (ρ' : Rho) (H' : Hp) : Prop where
  keep : Step (OO Oc σ ρ) H H'
  own : ∀ a, OO Oc σ' ρ' a → OO Oc σ ρ a ∨ H a = none
theorem Fw.refl {Oc : AS} {σ : L2.St} {ρ : Rho} {H : Hp} : Fw Oc σ ρ H σ ρ H := ⟨fun _ _ _ h => h, fun _ h => .inl h⟩
theorem Fw.trans {Oc : AS} {σ σ1 σ2 : L2.St} {ρ ρ1 ρ2 : Rho} {H H1 H2 : Hp} (a : Fw Oc σ ρ H σ1 ρ1 H1) (b : Fw Oc σ1 ρ1 H1 σ2 ρ2 H2) : Fw Oc σ ρ H σ2 ρ2 H2 where
  keep := fun c u n h => b.keep c u (fun z => (a.own c z).elim n fun e => by rw [h] at e; cases e) (a.keep c u n h)
  own := fun c z => by
    rcases b.own c z with z | z
    · exact a.own c z
    · by_cases n : OO Oc σ ρ c
      · exact .inl n
      · cases e : H c with
        | none => exact .inr rfl
        | some u =>
          rw [a.keep c u n e] at z
          cases z
def Nx (K : Fr_) (Oc : AS) (w : Option Addr) (H0 : Hp) (σ : L2.St) (ρ : Rho) (H : Hp) (P : Rho → SW → Prop) (Dn : L2.St → Hp → Prop) : Prop :=
  ∀ σ' H' ρ' S', EV K Oc w σ' H' ρ' S' → Fz w H0 σ' H' ρ' → Fw Oc σ ρ H σ' ρ' H' → P ρ' S' → Dn σ' H'
/-- what a def hands back: data; or a new list (rn) -/
def Rx (K : Fr_) (Oc : AS) (w : Option Addr) (H0 : Hp) (P : PyData → SW → Prop) (Pn : List PyData → SW → Prop) (Dr : VK) : Prop := (∀ H' d v S', Gr w H0 H' → Wel w H' S' → Rep K Oc H' d v → P d S' → Dr v H') ∧
  ∀ H' ds p vs S', Gr w H0 H' → Wel w H' S' → H0 p = none → H' p = some (.lst vs) → Reps K (With Oc p) H' ds vs → Pn ds S' → Dr (.ref p) H'
def rs (K : Fr_) (g : FS) : TS := fun D σ H => ∃ Oc w H0 ρ S, ∃ B : Out, EV K Oc w σ H ρ S ∧ Fz w H0 σ H ρ ∧ g ρ S B ∧ Nx K Oc w H0 σ ρ H B.nx D.nx ∧ Rx K Oc w H0 B.rt B.rn D.rt ∧ Nx K Oc w H0 σ ρ H B.bk D.bk ∧ Nx K Oc w H0 σ ρ H B.ct D.ct
section
variable {K : Fr_} {Oc : AS} {w : Option Addr} {H0 H H' : Hp} {σ σ' : L2.St} {ρ ρ' : Rho} {S S' : SW} {P : Rho → SW → Prop} {Dn : L2.St → Hp → Prop}
theorem Nx.go (n : Nx K Oc w H0 σ ρ H P Dn) (f : Fw Oc σ ρ H σ' ρ' H') : Nx K Oc w H0 σ' ρ' H' P Dn := fun σ2 H2 ρ2 S2 ev fz fw q => n σ2 H2 ρ2 S2 ev fz (f.trans fw) q
/-- behind an expression -/
theorem Fz.go (f : Fz w H0 σ H ρ) (g : Gr w H H') : Fz w H0 σ H' ρ := ⟨f.gr.trans g, f.own, f.dct⟩
theorem EV.fw (e : EV K Oc w σ H ρ S) (g : Gr w H H') : Fw Oc σ ρ H σ ρ H' := ⟨e.stepO g, fun _ h => .inl h⟩
theorem Tgt.fz {is : List Nat} (t : Tgt is σ σ' ρ ρ') (f : Fz w H0 σ H ρ) : Fz w H0 σ' H ρ' := ⟨f.gr, fun i xs a h1 h2 => by
  obtain ⟨q1, q2⟩ := t.own i xs h1
  exact f.own i xs a q1 (by rw [← q2]; exact h2), fun i xs a h1 h2 => by
  obtain ⟨q1, q2⟩ := t.dct i xs h1
  exact f.dct i xs a q1 (by rw [← q2]; exact h2)⟩
theorem Tgt.fw {is : List Nat} (t : Tgt is σ σ' ρ ρ') : Fw Oc σ ρ H σ' ρ' H := ⟨fun _ _ _ h => h, fun a h => .inl (t.oo a h)⟩
end
/-! the transformers -/
def sNext : FS := fun ρ S B => B.nx ρ S
def sSeq (g h : FS) : FS := fun ρ S B => g ρ S { B with nx := fun ρ' S' => h ρ' S' B }
def sRet (f : FE) : FS := fun ρ S B => f ρ S B.rt
def sRetN : FS := fun _ S B => B.rt .none S
def sRetV (i : Nat) : FS := fun ρ S B => match ρ[i]? with
  | some (.dat d) => B.rt d S
  | some (.own xs) => B.rt (.list xs) S
  | _ => False
def sDrop (f : FE) : FS := fun ρ S B => f ρ S fun _ S1 => B.nx ρ S1
def sSet (i : Nat) (f : FE) : FS := fun ρ S B => f ρ S fun d S1 => B.nx (ρ.set i (.dat d)) S1
def sOwn (i : Nat) (f : FE) : FS := fun ρ S B => f ρ S fun d S1 => match d with
  | .list ds => B.nx (ρ.set i (.own ds)) S1
  | _ => False
def sAsg (f : FE) (fg : FG) : FS := fun ρ S B => f ρ S fun d S1 => fg ρ d fun ρ' => B.nx ρ' S1
def sPar (i j : Nat) (g : FL) : FS := fun ρ S B => g ρ S fun ds S1 => match ds with
  | [a, b] => B.nx ((ρ.set i (.dat a)).set j (.dat b)) S1
  | _ => False
def sPar3 (i j l : Nat) (g : FL) : FS := fun ρ S B => g ρ S fun ds S1 => match ds with
  | [a, b, c] => B.nx (((ρ.set i (.dat a)).set j (.dat b)).set l (.dat c)) S1
  | _ => False
def sIf (fc : FE) (g h : FS) : FS := fun ρ S B => fc ρ S fun x S1 => asB x fun k => if k = true then g ρ S1 B else h ρ S1 B
def sBrk : FS := fun ρ S B => B.bk ρ S
def sCnt : FS := fun ρ S B => B.ct ρ S
def sNever : FS := fun _ _ _ => False
def forGo (fg : FG) (gb : FS) : List PyData → Rho → SW → Out → Prop
  | [], ρ, S, B => B.nx ρ S
  | d :: ds, ρ, S, B => fg ρ d fun ρ' => gb ρ' S { nx := fun ρ2 S2 => forGo fg gb ds ρ2 S2 B, rt := B.rt, rn := B.rn, bk := B.nx, ct := fun ρ2 S2 => forGo fg gb ds ρ2 S2 B }
def sFor (fi : FI) (fg : FG) (gb : FS) : FS := fun ρ S B => fi ρ S fun ds S1 => forGo fg gb ds ρ S1 B
def sWhile (fc : FE) (gb : FS) : FS := fun ρ S B => ∃ (I : Rho → SW → Prop) (μ : Rho → SW → Nat), I ρ S ∧ ∀ ρ S, I ρ S →
  fc ρ S fun x S1 => asB x fun k => if k = true then gb ρ S1 { nx := fun ρ2 S2 => I ρ2 S2 ∧ μ ρ2 S2 < μ ρ S, ct := fun ρ2 S2 => I ρ2 S2 ∧ μ ρ2 S2 < μ ρ S, bk := B.nx, rt := B.rt, rn := B.rn } else B.nx ρ S1
def sApp (i : Nat) (f : FE) : FS := fun ρ S B => match ρ[i]? with
  | some (.own xs) => xs.length < sizeLine ∧ f ρ S fun d S1 => B.nx (ρ.set i (.own (xs ++ [d]))) S1
  | _ => False
def sIns (i : Nat) (fa f : FE) : FS := fun ρ S B => match ρ[i]? with
  | some (.own xs) => xs.length < sizeLine ∧ fa ρ S fun x S1 => f ρ S1 fun d S2 => asI x fun k => (0 ≤ k ∧ k < 2 ^ 63) ∧ B.nx (ρ.set i (.own (xs.take k.toNat ++ [d] ++ xs.drop k.toNat))) S2
  | _ => False
def sPut (i : Nat) (fk f : FE) : FS := fun ρ S B => match ρ[i]? with
  | some (.own xs) => f ρ S fun d S1 => fk ρ S1 fun x S2 => asI x fun k => match ixN xs.length k with
    | some j => B.nx (ρ.set i (.own (xs.set j d))) S2
    | none => False
  | _ => False
section
variable {X : Cx} {st : Stmt} {rest : List Stmt} {e c : Expr} {pos : Pos} {f fc : FE} {g h : FS} {fg : FG} {is : List Nat} {x : Str}
theorem s_nil : PSs X [] (rs X.K sNext) := PSs.imp pss_nil fun D σ H ⟨Oc, w, H0, ρ, S, B, ev, fz, hf, k1, _⟩ => k1 σ H ρ S ev fz Fw.refl hf
theorem s_one (a : PS X st (rs X.K g)) : PSs X [st] (rs X.K g) := pss_one a
theorem s_cons (a : PS X st (rs X.K g)) (b : PSs X rest (rs X.K h)) : PSs X (st :: rest) (rs X.K (sSeq g h)) := PSs.imp (pss_cons a b) fun D σ H ⟨Oc, w, H0, ρ, S, B, ev, fz, hf, k1, k2, k3, k4⟩ =>
  ⟨Oc, w, H0, ρ, S, _, ev, fz, hf, fun σ' H' ρ' S' ev' fz' fw q => ⟨Oc, w, H0, ρ', S', B, ev', fz', q, k1.go fw, k2, k3.go fw, k4.go fw⟩, k2, k3, k4⟩
theorem s_pass : PS X (.Pass pos) (rs X.K sNext) := PS.imp ps_pass fun D σ H ⟨Oc, w, H0, ρ, S, B, ev, fz, hf, k1, _⟩ => k1 σ H ρ S ev fz Fw.refl hf
theorem s_brk : PS X (.Break pos) (rs X.K sBrk) := PS.imp ps_break fun D σ H ⟨Oc, w, H0, ρ, S, B, ev, fz, hf, k1, k2, k3, k4⟩ => k3 σ H ρ S ev fz Fw.refl hf
theorem s_cnt : PS X (.Continue pos) (rs X.K sCnt) := PS.imp ps_continue fun D σ H ⟨Oc, w, H0, ρ, S, B, ev, fz, hf, k1, k2, k3, k4⟩ => k4 σ H ρ S ev fz Fw.refl hf
theorem s_never : PS X st (rs X.K sNever) := PS.imp ps_never fun D σ H ⟨Oc, w, H0, ρ, S, B, ev, fz, hf, _⟩ => hf
theorem s_ret (he : PE X e (rd X.K f)) : PS X (.Return (some e) pos) (rs X.K (sRet f)) := PS.imp (ps_ret he) fun D σ H ⟨Oc, w, H0, ρ, S, B, ev, fz, hf, k1, k2, k3, k4⟩ =>
  ⟨Oc, w, ρ, S, _, ev, hf, fun d S' v H' ev' g r q => k2.1 H' d v S' (fz.gr.trans g) (fun a z => (ev'.ws a z).2) (Rep.less (fun a z => .inl z) d v r) q⟩
def sRetNew (f : FE) : FS := fun ρ S B => f ρ S fun d S1 => match d with
  | .list ds => B.rn ds S1
  | _ => False
theorem s_retNew (he : PE X e (rn X.K f)) : PS X (.Return (some e) pos) (rs X.K (sRetNew f)) := PS.imp (ps_ret he) fun D σ H ⟨Oc, w, H0, ρ, S, B, ev, fz, hf, k1, k2, k3, k4⟩ =>
  ⟨Oc, w, ρ, S, _, ev, hf, fun ds S' p vs H' ev' g n hp r q => k2.2 H' ds p vs S' (fz.gr.trans g) (fun a z => (ev'.ws a z).2) (free_of ev fz.gr n) hp (Reps.less (fun a z => z.elim (fun z => .inl (.inl z)) .inr) ds vs r) q⟩
theorem s_retN : PS X (.Return none pos) (rs X.K sRetN) := PS.imp ps_retN fun D σ H ⟨Oc, w, H0, ρ, S, B, ev, fz, hf, k1, k2, k3, k4⟩ => k2.1 H _ _ S fz.gr (fun a z => (ev.ws a z).2) (by simp only [Rep]) hf
theorem s_retV (i : Nat) {p : Pos} (hN : X.N[i]? = some x := by rfl) (hv : Vis X.env.scope x := by first | exact Or.inl rfl | exact Or.inr (Or.inl rfl) | exact Or.inr (Or.inr rfl)) (hd : (x == ("__debug__" : Str)) = false := by decide)
    (hcd : (x == ("__classdict__" : Str)) = false := by decide) : PS X (.Return (some (.Name x p)) pos) (rs X.K (sRetV i)) := PS.imp (ps_ret (pe_var (i := i) hN hv hd hcd)) fun D σ H ⟨Oc, w, H0, ρ, S, B, ev, fz, hf, k1, k2, k3, k4⟩ => by
  unfold sRetV at hf
  split at hf
  · rename_i d hd
    obtain ⟨v, hv, r⟩ := ev.dat i d hd
    exact ⟨v, hv, k2.1 H d v S fz.gr (fun a z => (ev.ws a z).2) (Rep.less (fun a z => .inl z) d v r) hf⟩
  · rename_i xs hx
    obtain ⟨a, vs, h1, h2, h3, h4⟩ := ev.own i xs hx
    refine ⟨_, h1, k2.1 H (.list xs) _ S fz.gr (fun a z => (ev.ws a z).2) ?_ hf⟩
    simp only [Rep]
    exact ⟨a, vs, rfl, .inl ⟨.inl h2, h3⟩, Reps.less (fun a z => .inl z) xs vs h4⟩
  · exact hf.elim
theorem s_drop (he : PE X e (rb X.K f)) (hs : swapsWith e none pos.line X.env = pure false := by rfl) : PS X (.Expr e pos) (rs X.K (sDrop f)) := PS.imp (ps_expr he hs) fun D σ H ⟨Oc, w, H0, ρ, S, B, ev, fz, hf, k1, k2, k3, k4⟩ =>
  ⟨Oc, w, ρ, S, _, ev, hf, fun d S' v H' ev' g r q => k1 σ H' ρ S' ev' (fz.go g) (ev.fw g) q⟩
theorem s_if {a b : List Stmt} (hc : PT X c (rt X.K fc)) (ha : PSs X a (rs X.K g)) (hb : PSs X b (rs X.K h)) : PS X (.If c a b pos) (rs X.K (sIf fc g h)) := PS.imp (ps_if hc ha hb) fun D σ H ⟨Oc, w, H0, ρ, S, B, ev, fz, hf, k1, k2, k3, k4⟩ =>
  ⟨Oc, w, ρ, S, _, ev, hf, fun b S1 H1 ev1 g1 q => by
    have fw := ev.fw g1
    cases b with
    | true =>
      rw [if_pos rfl] at q
      exact iteT ⟨Oc, w, H0, ρ, S1, B, ev1, fz.go g1, q, k1.go fw, k2, k3.go fw, k4.go fw⟩
    | false =>
      rw [if_neg Bool.false_ne_true] at q
      exact iteF ⟨Oc, w, H0, ρ, S1, B, ev1, fz.go g1, q, k1.go fw, k2, k3.go fw, k4.go fw⟩⟩
/-! stores -/
theorem tAsg_set {i : Nat} : ∀ D σ H, rs X.K (sSet i f) D σ H → tAsg (rd X.K f) (gName i) D σ H := fun D σ H ⟨Oc, w, H0, ρ, S, B, ev, fz, hf, k1, k2, k3, k4⟩ =>
  ⟨Oc, w, ρ, S, _, ev, hf, fun d S1 v H1 ev1 g1 r q => by
    obtain ⟨ev2, t⟩ := ev1.put i r
    exact k1 _ H1 _ S1 ev2 (t.fz (fz.go g1)) ((ev.fw g1).trans t.fw) q⟩
theorem s_set (i : Nat) {p : Pos} (hN : X.N.Nodup) (he : PE X e (rd X.K f)) (hi : X.N[i]? = some x := by rfl) (hx : Loc X.env.scope x := by first | exact Or.inl rfl | exact Or.inr rfl) (hs : swapsWith e (some (.Name x p)) pos.line X.env = pure false := by rfl)
    (hf : X.fn x = true ∨ X.env.scope.names.lookup x = some .local := by first | exact .inl rfl | exact .inr rfl) : PS X (.Assign [.Name x p] e pos) (rs X.K (sSet i f)) := PS.imp (ps_set (i := i) hN hi hx he hs hf) tAsg_set
/-- a new list comes to a slot: it is one's own -/
theorem EV.putOwn {K : Fr_} {Oc : AS} {w : Option Addr} {σ : L2.St} {H H1 : Hp} {ρ : Rho} {S S1 : SW} {p : Addr} {vs : List V} {ds : List PyData} (e : EV K Oc w σ H ρ S) (e1 : EV K Oc w σ H1 ρ S1) (g : Gr w H H1) (i : Nat) (n : H p = none) (hp : H1 p = some (.lst vs))
    (r : Reps K (With (OO Oc σ ρ) p) H1 ds vs) : EV K Oc w (σ.set i (some (.ref p))) H1 (ρ.set i (.own ds)) S1 ∧ ∀ a, OO Oc (σ.set i (some (.ref p))) (ρ.set i (.own ds)) a → With (OO Oc σ ρ) p a := by
  have old : ∀ {j : Nat} {y : Sl}, i ≠ j → (ρ.set i (.own ds))[j]? = some y → ρ[j]? = some y ∧ (σ.set i (some (.ref p)))[j]? = σ[j]? := fun {j y} hj h => by
    rw [List.getElem?_set_ne hj] at h
    exact ⟨h, by rw [List.getElem?_set_ne hj]⟩
  have new : ∀ {y : Sl}, (ρ.set i (.own ds))[i]? = some y → y = .own ds ∧ (σ.set i (some (.ref p)))[i]? = some (some (.ref p)) := fun {y} h => by
    by_cases hk : i < ρ.length
    · rw [List.getElem?_set_self hk] at h
      cases h
      exact ⟨rfl, by rw [List.getElem?_set_self (by rw [← e.len]; exact hk)]⟩
    · rw [List.getElem?_eq_none (by simpa using hk)] at h; cases h
  have oo : ∀ a, OO Oc (σ.set i (some (.ref p))) (ρ.set i (.own ds)) a → With (OO Oc σ ρ) p a := by
    rintro a (h | ⟨j, xs, h1, h2⟩)
    · exact .inl (.inl h)
    · by_cases hj : i = j
      · subst hj
        obtain ⟨_, q2⟩ := new h1
        rw [q2] at h2
        cases h2
        exact .inr rfl
      · obtain ⟨q1, q2⟩ := old hj h1
        exact .inl (.inr ⟨j, xs, q1, by rw [← q2]; exact h2⟩)
  have oo' : ∀ a, OO Oc (σ.set i (some (.ref p))) (ρ.set i (.own ds)) a → OO Oc σ ρ a ∨ H a = none := fun a z => (oo a z).elim .inl fun z => .inr (by rw [z]; exact n)
  have np : ¬ Oc p := fun z => by
    obtain ⟨u, hu, _⟩ := e.ol p z
    rw [hu] at n
    cases n
  refine ⟨⟨by simp [e.len], fun j d h => ?_, fun j xs h => ?_, fun j l xs ys a h1 h2 h3 h4 => ?_, fun j h => ?_, e1.ws, e1.ol, e.dct.to (fun j kvs h => by
    by_cases hj : i = j
    · subst hj
      obtain ⟨q, _⟩ := new h
      cases q
    · exact old hj h) (fun a ws h o => ⟨g a _ (fun z => by rw [(e.ws a z).2] at h; cases h) h, o⟩) fun ds vs => Reps.fw oo' (e.stepO g) e.Ool ds vs⟩, oo⟩
  · by_cases hj : i = j
    · subst hj
      obtain ⟨q, _⟩ := new h
      cases q
    · obtain ⟨q1, q2⟩ := old hj h
      obtain ⟨v, hv, rv⟩ := e.dat j d q1
      exact ⟨v, by rw [q2]; exact hv, Rep.fw oo' (e.stepO g) e.Ool d v rv⟩
  · by_cases hj : i = j
    · subst hj
      obtain ⟨q1, q2⟩ := new h
      cases q1
      exact ⟨p, vs, q2, hp, np, Reps.less oo ds vs r⟩
    · obtain ⟨q1, q2⟩ := old hj h
      obtain ⟨a, us, h1, h2, h3, h4⟩ := e.own j xs q1
      exact ⟨a, us, by rw [q2]; exact h1, g a _ (e.nw h3) h2, h3, Reps.fw oo' (e.stepO g) e.Ool xs us h4⟩
  · have ne : ∀ {j : Nat} {xs : List PyData}, i ≠ j → (ρ.set i (.own ds))[j]? = some (.own xs) → (σ.set i (some (.ref p)))[j]? ≠ some (some (.ref p)) := fun {j xs} hj h z => by
      obtain ⟨q1, q2⟩ := old hj h
      obtain ⟨b, us, h1, h2, _⟩ := e.own j xs q1
      rw [q2, h1] at z
      cases z
      rw [h2] at n
      cases n
    by_cases hj : i = j
    · subst hj
      by_cases hl : i = l
      · exact hl
      · obtain ⟨_, q2⟩ := new h1
        rw [q2] at h3
        cases h3
        exact absurd h4 (ne hl h2)
    · by_cases hl : i = l
      · subst hl
        obtain ⟨_, q2⟩ := new h2
        rw [q2] at h4
        cases h4
        exact absurd h3 (ne hj h1)
      · obtain ⟨q1, q2⟩ := old hj h1
        obtain ⟨q3, q4⟩ := old hl h2
        exact e.inj j l xs ys a q1 q3 (by rw [← q2]; exact h3) (by rw [← q4]; exact h4)
  · by_cases hj : i = j
    · subst hj
      obtain ⟨q, _⟩ := new h
      cases q
    · obtain ⟨q1, q2⟩ := old hj h
      obtain ⟨a, h1, h2⟩ := e.wel j q1
      exact ⟨a, h1, by rw [q2]; exact h2⟩
theorem tAsg_own {i : Nat} : ∀ D σ H, rs X.K (sOwn i f) D σ H → tAsg (rn X.K f) (gName i) D σ H := fun D σ H ⟨Oc, w, H0, ρ, S, B, ev, fz, hf, k1, k2, k3, k4⟩ =>
  ⟨Oc, w, ρ, S, _, ev, hf, fun ds S1 p vs H1 ev1 g1 n hp r q => by
    obtain ⟨ev2, oo⟩ := EV.putOwn ev ev1 g1 i n hp r
    refine k1 _ H1 _ S1 ev2 ⟨fz.gr.trans g1, fun j xs a h1 h2 => ?_, fun j xs a h1 h2 => ?_⟩ ⟨ev.stepO g1, fun a z => (oo a z).elim .inl fun z => .inr (by rw [z]; exact n)⟩ q
    · by_cases hj : i = j
      · subst hj
        by_cases hk : i < σ.length
        · rw [List.getElem?_set_self hk] at h2
          cases h2
          cases e : H0 p with
          | none => rfl
          | some u =>
            by_cases hw : w = some p
            · have z := (ev.ws p hw).2
              rw [z] at n
              cases n
            · rw [fz.gr p u hw e] at n
              cases n
        · rw [List.getElem?_eq_none (by simpa using hk)] at h2; cases h2
      · rw [List.getElem?_set_ne hj] at h1 h2
        exact fz.own j xs a h1 h2
    · by_cases hj : i = j
      · subst hj
        by_cases hk : i < ρ.length
        · rw [List.getElem?_set_self hk] at h1
          cases h1
        · rw [List.getElem?_eq_none (by simpa using hk)] at h1; cases h1
      · rw [List.getElem?_set_ne hj] at h1 h2
        exact fz.dct j xs a h1 h2⟩
theorem s_own (i : Nat) {p : Pos} (hN : X.N.Nodup) (he : PE X e (rn X.K f)) (hi : X.N[i]? = some x := by rfl) (hx : Loc X.env.scope x := by first | exact Or.inl rfl | exact Or.inr rfl) (hs : swapsWith e (some (.Name x p)) pos.line X.env = pure false := by rfl)
    (hf : X.fn x = true ∨ X.env.scope.names.lookup x = some .local := by first | exact .inl rfl | exact .inr rfl) : PS X (.Assign [.Name x p] e pos) (rs X.K (sOwn i f)) := PS.imp (ps_set (i := i) hN hi hx he hs hf) tAsg_own
theorem s_asg {tg : Expr} (he : PE X e (rd X.K f)) (hg : PG X tg (rg X.K is fg)) (hs : swapsWithSole [tg] e pos.line X.env = pure false := by rfl) (hw : swappedStores [tg] e X.env = pure none := by rfl)
    (h1 : (assignEach [tg] X.env).map (·.2) = [assign tg X.env] := by rfl) : PS X (.Assign [tg] e pos) (rs X.K (sAsg f fg)) := PS.imp (ps_asg he hg hs hw h1) fun D σ H ⟨Oc, w, H0, ρ, S, B, ev, fz, hf, k1, k2, k3, k4⟩ =>
  ⟨Oc, w, ρ, S, _, ev, hf, fun d S1 v H1 ev1 g1 r q => ⟨Oc, w, ρ, S1, d, _, ev1, r, q, fun σ' ρ' ev2 t q2 => k1 σ' H1 ρ' S1 ev2 (t.fz (fz.go g1)) ((ev.fw g1).trans t.fw) q2⟩⟩
end
end DL

namespace DL
open PySem L2 PyProof.Rows
section
variable {X : Cx} {st : Stmt} {rest : List Stmt} {e c a b : Expr} {pos : Pos} {f fc fa : FE} {g h : FS} {fg : FG} {is : List Nat} {x y z : Str} {fi : FI} {gl : FL}
theorem set2 {K : Fr_} {Oc : AS} {w : Option Addr} {H0 H : Hp} {σ : L2.St} {ρ : Rho} {S : SW} {d e : PyData} {v u : V} (ev : EV K Oc w σ H ρ S) (i j : Nat) (r1 : Rep K (OO Oc σ ρ) H d v) (r2 : Rep K (OO Oc σ ρ) H e u) :
    EV K Oc w ((σ.set i (some v)).set j (some u)) H ((ρ.set i (.dat d)).set j (.dat e)) S ∧ Tgt [i, j] σ ((σ.set i (some v)).set j (some u)) ρ ((ρ.set i (.dat d)).set j (.dat e)) := by
  obtain ⟨ev2, t2⟩ := ev.put i r1
  obtain ⟨ev3, t3⟩ := ev2.put j (Rep.less t2.oo e u r2)
  exact ⟨ev3, t2.trans t3⟩
theorem s_par (i j : Nat) {px py pt : Pos} {kt k2 pt2} (hc : X.calm = true) (hN : X.N.Nodup) (ha : PA X [a, b] (rda X.K 2 gl)) (hi : X.N[i]? = some x := by rfl) (hj : X.N[j]? = some y := by rfl) (hij : i ≠ j := by decide)
    (hx : X.env.scope.names.lookup x = some .local := by rfl) (hy : X.env.scope.names.lookup y = some .local := by rfl)
    (hw : swappedStores [.Tuple [.Name x px, .Name y py] kt pt] (.Tuple [a, b] k2 pt2) X.env = pure (some [x, y]) := by rfl)
    (hs : swapsWithSole [.Tuple [.Name x px, .Name y py] kt pt] (.Tuple [a, b] k2 pt2) pos.line X.env = pure false := by rfl) :
    PS X (.Assign [.Tuple [.Name x px, .Name y py] kt pt] (.Tuple [a, b] k2 pt2) pos) (rs X.K (sPar i j gl)) := PS.imp (ps_par hc hN hi hj hij hx hy ha hw hs) fun D σ H ⟨Oc, w, H0, ρ, S, B, ev, fz, hf, k1, k2, k3, k4⟩ =>
  ⟨Oc, w, ρ, S, _, ev, hf, fun ds S1 vs H1 ev1 g1 r hl q => by
    split at q
    · rename_i d e
      simp only [Reps] at r
      obtain ⟨v, _, rfl, r1, u, _, rfl, r2, rfl⟩ := r
      obtain ⟨ev3, t⟩ := set2 (H0 := H0) ev1 i j r1 r2
      exact ⟨v, u, rfl, k1 _ H1 _ S1 ev3 (t.fz (fz.go g1)) ((ev.fw g1).trans t.fw) q⟩
    · exact q.elim⟩
theorem s_par3 (i j l : Nat) {px py pz pt : Pos} {kt k2 pt2} (hc : X.calm = true) (hN : X.N.Nodup) (ha : PA X [a, b, c] (rda X.K 3 gl)) (hi : X.N[i]? = some x := by rfl) (hj : X.N[j]? = some y := by rfl) (hl : X.N[l]? = some z := by rfl) (hij : i ≠ j := by decide) (hil : i ≠ l := by decide) (hjl : j ≠ l := by decide)
    (hx : X.env.scope.names.lookup x = some .local := by rfl) (hy : X.env.scope.names.lookup y = some .local := by rfl) (hz : X.env.scope.names.lookup z = some .local := by rfl)
    (hw : swappedStores [.Tuple [.Name x px, .Name y py, .Name z pz] kt pt] (.Tuple [a, b, c] k2 pt2) X.env = pure (some [x, y, z]) := by rfl)
    (hs : swapsWithSole [.Tuple [.Name x px, .Name y py, .Name z pz] kt pt] (.Tuple [a, b, c] k2 pt2) pos.line X.env = pure false := by rfl) :
    PS X (.Assign [.Tuple [.Name x px, .Name y py, .Name z pz] kt pt] (.Tuple [a, b, c] k2 pt2) pos) (rs X.K (sPar3 i j l gl)) := PS.imp (ps_par3 hc hN hi hj hl hij hil hjl hx hy hz ha hw hs) fun D σ H ⟨Oc, w, H0, ρ, S, B, ev, fz, hf, k1, k2, k3, k4⟩ =>
  ⟨Oc, w, ρ, S, _, ev, hf, fun ds S1 vs H1 ev1 g1 r hl q => by
    split at q
    · rename_i d e f
      simp only [Reps] at r
      obtain ⟨v, _, rfl, r1, u, _, rfl, r2, t, _, rfl, r3, rfl⟩ := r
      obtain ⟨ev3, t3⟩ := set2 (H0 := H0) ev1 i j r1 r2
      obtain ⟨ev4, t4⟩ := ev3.put l (Rep.less t3.oo f t r3)
      have tt := t3.trans t4
      exact ⟨v, u, t, rfl, k1 _ H1 _ S1 ev4 (tt.fz (fz.go g1)) ((ev.fw g1).trans tt.fw) q⟩
    · exact q.elim⟩
/-- name = [..] on one line, the name a local -/
theorem s_setLc (i : Nat) {py : Pos} {elt tg iter : Expr} {ifs : List Expr} {scope : Scope} {own : List (Str × Nat)} {spos : Pos} {ft fe : FE} (hc : X.calm = true) (hN : X.N.Nodup) (hi : PI X tg iter (ric X.K fi)) (ok : BlkOk X.N X.env.scope scope own) (his : ∀ j ∈ is, j ∈ own.map (·.2))
    (hg : ∀ (s : Shared) (H : Hp) (C : Addr) (cl : List (Str × Addr)) (fp : List Addr), PG (X.blk s H scope (compEnvC scope cl C X.env) fp) tg (rg X.K is fg)) (ht : ∀ (s : Shared) (H : Hp) (C : Addr) (cl : List (Str × Addr)) (fp : List Addr), PTs (X.blk s H scope (compEnvC scope cl C X.env) fp) ifs (rt X.K ft))
    (he : ∀ (s : Shared) (H : Hp) (C : Addr) (cl : List (Str × Addr)) (fp : List Addr), PE (X.blk s H scope (compEnvC scope cl C X.env) fp) elt (rd X.K fe)) (hsw : swapsWith (.ListComp elt [⟨tg, iter, ifs, 0⟩] scope pos) (some (.Name y py)) spos.line X.env = pure true)
    (hy : X.N[i]? = some y := by rfl) (hyl : X.env.scope.names.lookup y = some .local := by rfl) (hs : ∀ x, foldedSetIterable iter X.env x = pure x := by intro _; rfl) :
    PS X (.Assign [.Name y py] (.ListComp elt [⟨tg, iter, ifs, 0⟩] scope pos) spos) (rs X.K (sOwn i (fLc fi (own.map (·.2)) fg ft fe))) := PS.imp (ps_setLc hc hN hy hyl hsw hi ok hg ht he hs) fun D σ H q => by
  obtain ⟨Oc, w, ρ, S, R, ev, hf, k⟩ := tAsg_own (X := X) D σ H q
  exact rd_lc (K := X.K) his σ H _ ⟨Oc, w, ρ, S, R, ev, hf, k⟩
theorem s_setLcD (i : Nat) {py : Pos} {elt tg iter : Expr} {ifs : List Expr} {scope : Scope} {own : List (Str × Nat)} {spos : Pos} {ft fe : FE} (hc : X.calm = true) (hN : X.N.Nodup) (hi : PI X tg iter (ric X.K fi)) (ok : BlkOk X.N X.env.scope scope own) (his : ∀ j ∈ is, j ∈ own.map (·.2))
    (hg : ∀ (s : Shared) (H : Hp) (C : Addr) (cl : List (Str × Addr)) (fp : List Addr), PG (X.blk s H scope (compEnvC scope cl C X.env) fp) tg (rg X.K is fg)) (ht : ∀ (s : Shared) (H : Hp) (C : Addr) (cl : List (Str × Addr)) (fp : List Addr), PTs (X.blk s H scope (compEnvC scope cl C X.env) fp) ifs (rt X.K ft))
    (he : ∀ (s : Shared) (H : Hp) (C : Addr) (cl : List (Str × Addr)) (fp : List Addr), PE (X.blk s H scope (compEnvC scope cl C X.env) fp) elt (rd X.K fe)) (hsw : swapsWith (.ListComp elt [⟨tg, iter, ifs, 0⟩] scope pos) (some (.Name y py)) spos.line X.env = pure true)
    (hy : X.N[i]? = some y := by rfl) (hyl : X.env.scope.names.lookup y = some .local := by rfl) (hs : ∀ x, foldedSetIterable iter X.env x = pure x := by intro _; rfl) :
    PS X (.Assign [.Name y py] (.ListComp elt [⟨tg, iter, ifs, 0⟩] scope pos) spos) (rs X.K (sSet i (fLc fi (own.map (·.2)) fg ft fe))) := PS.imp (ps_setLc hc hN hy hyl hsw hi ok hg ht he hs) fun D σ H q => by
  obtain ⟨Oc, w, ρ, S, R, ev, hf, k⟩ := tAsg_set (X := X) D σ H q
  refine rd_lc (K := X.K) his σ H _ ⟨Oc, w, ρ, S, R, ev, hf, fun ds S' p vs H' ev' g n hp r q => k (.list ds) S' (.ref p) H' ev' g ?_ q⟩
  simp only [Rep]
  refine ⟨p, vs, rfl, .inl ⟨.inl hp, fun z => ?_⟩, Reps.less' r⟩
  obtain ⟨u, hu, _⟩ := ev.Ool p z
  rw [hu] at n
  cases n
/-! ### loops -/
theorem s_for {tg iter : Expr} {body : List Stmt} (hp : PassesOwn (model X.prog X.w) X.A X.env X.xe) (hc : X.calm = true) (hi : PI X tg iter (rif X.K fi)) (hg : PG X tg (rg X.K is fg)) (hb : PSs X body (rs X.K g))
    (hs : ∀ x, foldedSetIterable iter X.env x = pure x := by intro _; rfl) : PS X (.For tg iter body [] pos) (rs X.K (sFor fi fg g)) := PS.imp (ps_for hp hc hi hg hb hs) fun D σ H ⟨Oc, w, H0, ρ, S, B, ev, fz, hf, k1, k2, k3, k4⟩ => by
  refine ⟨Oc, w, ρ, S, _, ev, hf, fun ds S1 J H1 ev1 g1 it hgo => ?_⟩
  obtain ⟨G, Y, wk, hG⟩ := it.ex
  refine for_it wk (fun i σ' H' => ∃ ρ' S', EV X.K Oc w σ' H' ρ' S' ∧ Fz w H0 σ' H' ρ' ∧ Fw Oc σ ρ H1 σ' ρ' H' ∧ forGo fg g (ds.drop i) ρ' S' B) ⟨ρ, S1, ev1, fz.go g1, Fw.refl, hgo⟩
    (fun i σ' H' _ ⟨ρ', S', ev', _, fw, _⟩ => (hG _ H' ev'.Ool fw.own fw.keep).1) (fun i x σ' H' H3 hlt ⟨ρ', S', ev', fz', fw, hgo'⟩ hy => ?_) (fun σ' H' ⟨ρ', S', ev', fz', fw, hgo'⟩ => ?_)
  · obtain ⟨d, hd, sm, rx⟩ := (hG _ H' ev'.Ool fw.own fw.keep).2 i x H3 hy hlt
    rw [List.drop_eq_getElem_cons hlt] at hgo'
    rw [List.getElem?_eq_getElem hlt] at hd
    cases hd
    have ev3 := ev'.same sm
    have fw3 : Fw Oc σ ρ H1 σ' ρ' H3 := fw.trans (ev'.fw (Gr.of sm))
    refine ⟨Oc, w, ρ', S', _, _, ev3, rx, hgo', fun σ2 ρ2 ev4 t q => ?_⟩
    have fz4 := t.fz (fz'.go (Gr.of sm))
    have fw4 : Fw Oc σ ρ H1 σ2 ρ2 H3 := fw3.trans t.fw
    exact ⟨Oc, w, H0, ρ2, S', _, ev4, fz4, q, fun σ5 H5 ρ5 S5 ev5 fz5 fw5 q5 => ⟨ρ5, S5, ev5, fz5, fw4.trans fw5, q5⟩, k2, fun σ5 H5 ρ5 S5 ev5 fz5 fw5 q5 => k1 σ5 H5 ρ5 S5 ev5 fz5 (((ev.fw g1).trans fw4).trans fw5) q5,
      fun σ5 H5 ρ5 S5 ev5 fz5 fw5 q5 => ⟨ρ5, S5, ev5, fz5, fw4.trans fw5, q5⟩⟩
  · rw [List.drop_eq_nil_of_le (Nat.le_refl _)] at hgo'
    exact k1 σ' H' ρ' S' ev' fz' ((ev.fw g1).trans fw) hgo'
theorem s_while {body : List Stmt} (hp : PassesOwn (model X.prog X.w) X.A X.env X.xe) (ht : PT X c (rt X.K fc)) (hb : PSs X body (rs X.K g)) : PS X (.While c body [] pos) (rs X.K (sWhile fc g)) := PS.imp (ps_while hp ht hb) fun D σ H ⟨Oc, w, H0, ρ, S, B, ev, fz, ⟨I, μ, i0, hI⟩, k1, k2, k3, k4⟩ => by
  refine ⟨fun m σ' H' => ∃ ρ' S', EV X.K Oc w σ' H' ρ' S' ∧ Fz w H0 σ' H' ρ' ∧ Fw Oc σ ρ H σ' ρ' H' ∧ I ρ' S' ∧ m = μ ρ' S', ⟨_, ρ, S, ev, fz, Fw.refl, i0, rfl⟩, ?_⟩
  rintro m σ' H' ⟨ρ', S', ev', fz', fw', i', rfl⟩
  refine ⟨Oc, w, ρ', S', _, ev', hI ρ' S' i', fun b S1 H1 ev1 g1 q => ?_⟩
  have fw1 := fw'.trans (ev'.fw g1)
  cases b with
  | true =>
    rw [if_pos rfl] at q
    refine iteT ⟨fun σ2 H2 => ∃ ρ2 S2, EV X.K Oc w σ2 H2 ρ2 S2 ∧ Fz w H0 σ2 H2 ρ2 ∧ Fw Oc σ ρ H σ2 ρ2 H2 ∧ I ρ2 S2 ∧ μ ρ2 S2 < μ ρ' S', fun σ2 H2 ⟨ρ2, S2, e2, z2, f2, i2, l2⟩ => ⟨_, l2, ρ2, S2, e2, z2, f2, i2, rfl⟩, ?_⟩
    exact ⟨Oc, w, H0, ρ', S1, _, ev1, fz'.go g1, q, fun σ5 H5 ρ5 S5 ev5 fz5 fw5 ⟨q5, l5⟩ => ⟨ρ5, S5, ev5, fz5, fw1.trans fw5, q5, l5⟩, k2, fun σ5 H5 ρ5 S5 ev5 fz5 fw5 q5 => k1 σ5 H5 ρ5 S5 ev5 fz5 (fw1.trans fw5) q5,
      fun σ5 H5 ρ5 S5 ev5 fz5 fw5 ⟨q5, l5⟩ => ⟨ρ5, S5, ev5, fz5, fw1.trans fw5, q5, l5⟩⟩
  | false =>
    rw [if_neg Bool.false_ne_true] at q
    exact iteF (k1 σ' H1 ρ' S1 ev1 (fz'.go g1) fw1 q)
/-! ### lists of one's own, changed -/
theorem EV.ownSet {K : Fr_} {Oc : AS} {w : Option Addr} {H0 : Hp} {σ : L2.St} {H : Hp} {ρ : Rho} {S : SW} {i : Nat} {xs ds : List PyData} {p : Addr} {vs : List V} (e : EV K Oc w σ H ρ S) (fz : Fz w H0 σ H ρ) (hx : ρ[i]? = some (.own xs)) (hp : σ[i]? = some (some (.ref p))) (r : Reps K (OO Oc σ ρ) H ds vs) :
    EV K Oc w σ (upd H p (.lst vs)) (ρ.set i (.own ds)) S ∧ Fz w H0 σ (upd H p (.lst vs)) (ρ.set i (.own ds)) ∧ Fw Oc σ ρ H σ (ρ.set i (.own ds)) (upd H p (.lst vs)) := by
  have hi : i < ρ.length := (List.getElem?_eq_some_iff.mp hx).1
  have op : OO Oc σ ρ p := .inr ⟨i, xs, hx, hp⟩
  obtain ⟨p', us, hp', hl, np, _⟩ := e.own i xs hx
  rw [hp] at hp'
  cases hp'
  have old : ∀ {j : Nat} {y : Sl}, i ≠ j → (ρ.set i (.own ds))[j]? = some y → ρ[j]? = some y := fun {j y} hj h => by
    rw [List.getElem?_set_ne hj] at h
    exact h
  have oo : ∀ a, OO Oc σ (ρ.set i (.own ds)) a → OO Oc σ ρ a := by
    rintro a (h | ⟨j, ys, h1, h2⟩)
    · exact .inl h
    · by_cases hj : i = j
      · subst hj
        exact .inr ⟨i, xs, hx, h2⟩
      · exact .inr ⟨j, ys, old hj h1, h2⟩
  have st : Step (OO Oc σ ρ) H (upd H p (.lst vs)) := fun a u n h => by rw [upd_ne (fun z => n (by rw [z]; exact op))]; exact h
  have hw : w ≠ some p := e.nw np
  have dold : ∀ (j : Nat) (kvs : List (List Key × PyData)), (ρ.set i (.own ds))[j]? = some (Sl.dct kvs) → ρ[j]? = some (Sl.dct kvs) ∧ σ[j]? = σ[j]? := fun j kvs h => by
    by_cases hj : i = j
    · subst hj
      rw [List.getElem?_set_self hi] at h
      cases h
    · exact ⟨old hj h, rfl⟩
  refine ⟨⟨by simp [e.len], fun j d h => ?_, fun j ys h => ?_, fun j l ys zs a h1 h2 h3 h4 => ?_, fun j h => ?_, fun a h => ?_, fun a h => ?_, e.dct.to dold (fun a ws h o => ⟨by rw [upd_ne (fun z => np (by rw [← z]; exact o))]; exact h, o⟩) fun ds vs r => Reps.less oo ds vs (Reps.step st e.Ool ds vs r)⟩, ⟨fun a u n h => ?_, fun j ys a h1 h2 => ?_, fun j ys a h1 h2 => fz.dct j ys a (dold j ys h1).1 h2⟩, ⟨st, fun a z => .inl (oo a z)⟩⟩
  · by_cases hj : i = j
    · subst hj
      rw [List.getElem?_set_self hi] at h
      cases h
    · obtain ⟨v, hv, rv⟩ := e.dat j d (old hj h)
      exact ⟨v, hv, Rep.less oo d v (Rep.step st e.Ool d v rv)⟩
  · by_cases hj : i = j
    · subst hj
      rw [List.getElem?_set_self hi] at h
      cases h
      exact ⟨p, vs, hp, upd_same, np, Reps.less oo _ vs (Reps.step st e.Ool _ vs r)⟩
    · obtain ⟨a, us, h1, h2, h3, h4⟩ := e.own j ys (old hj h)
      have hne : a ≠ p := fun z => hj (e.inj i j xs ys p hx (old hj h) hp (by rw [← z]; exact h1))
      exact ⟨a, us, h1, by rw [upd_ne hne]; exact h2, h3, Reps.less oo ys us (Reps.step st e.Ool ys us h4)⟩
  · have up : ∀ {j : Nat} {ys : List PyData}, (ρ.set i (.own ds))[j]? = some (Sl.own ys) → ∃ zs, ρ[j]? = some (Sl.own zs) := fun {j ys} h => by
      by_cases hj : i = j
      · subst hj
        exact ⟨xs, hx⟩
      · exact ⟨ys, old hj h⟩
    obtain ⟨y', e1⟩ := up h1
    obtain ⟨z', e2⟩ := up h2
    exact e.inj j l y' z' a e1 e2 h3 h4
  · by_cases hj : i = j
    · subst hj
      rw [List.getElem?_set_self hi] at h
      cases h
    · exact e.wel j (old hj h)
  · obtain ⟨h1, h2⟩ := e.ws a h
    exact ⟨h1, by rw [upd_ne (fun z => hw (by rw [h, z]))]; exact h2⟩
  · obtain ⟨u, hu, mu⟩ := e.ol a h
    exact ⟨u, by rw [upd_ne (fun z => np (by rw [← z]; exact h))]; exact hu, mu⟩
  · have hne : a ≠ p := fun z => by
      have q := fz.own i xs p hx hp
      rw [z, q] at h
      cases h
    rw [upd_ne hne]
    exact fz.gr a u n h
  · by_cases hj : i = j
    · subst hj
      exact fz.own i xs a hx h2
    · exact fz.own j ys a (old hj h1) h2
theorem s_app (i : Nat) {p apos cpos : Pos} (he : PE X e (rd X.K f)) (hN : X.N[i]? = some x := by rfl) (hv : Vis X.env.scope x := by first | exact Or.inl rfl | exact Or.inr (Or.inl rfl) | exact Or.inr (Or.inr rfl)) (hd : (x == ("__debug__" : Str)) = false := by decide)
    (hcd : (x == ("__classdict__" : Str)) = false := by decide) (hbase : attributeBase (.Name x p) "append" X.env (eval (.Name x p) X.env) = eval (.Name x p) X.env := by rfl)
    (hfew : ((backTo cpos (starEach (e :: []) X.env)).all (fun x => !x.1) && (backToKw cpos (keywordEach [] X.env)).all (fun x => x.1.isSome)
      && decide ((e :: []).length + ([] : List Keyword).length + (if ([] : List Keyword).isEmpty then 0 else 1) < 30)) = true := by rfl)
    (hline : (apos.endLine == cpos.line) = true := by rfl) (hst : starEach (e :: []) X.env = (false, eval e X.env) :: starEach [] X.env := by rfl) (hpl : (backTo cpos (starEach [] X.env)).any (·.1) = false := by rfl)
    (hs : swapsWith (.Call (.Attribute (.Name x p) "append" apos) [e] [] cpos) none pos.line X.env = pure false := by rfl) :
    PS X (.Expr (.Call (.Attribute (.Name x p) "append" apos) [e] [] cpos) pos) (rs X.K (sApp i f)) :=
  PS.imp (ps_expr (pe_bm PySem.F.plainAttrs_list PySem.F.slot_list_append PySem.F.type_list_append mt_append (pe_var (i := i) hN hv hd hcd) (pa_cons he pa_nil hst) hbase hfew hline hst hpl) hs) fun D σ H ⟨Oc, w, H0, ρ, S, B, ev, fz, hf, k1, k2, k3, k4⟩ => by
    unfold sApp at hf
    split at hf
    · rename_i xs hx
      obtain ⟨hz, hf⟩ := hf
      obtain ⟨a, vs, h1, h2, h3, h4⟩ := ev.own i xs hx
      refine ⟨_, h1, .inl ⟨rfl, vs, SqL.of h2⟩, Oc, w, ρ, S, _, ev, hf, fun d S1 v H1 ev1 g1 r q => ?_⟩
      have h2' := g1 a _ (ev.nw h3) h2
      have r4 := Reps.step (ev.stepO g1) ev.Ool xs vs h4
      obtain ⟨e2, z2, f2⟩ := EV.ownSet (ds := xs ++ [d]) (vs := vs ++ [v]) ev1 (fz.go g1) hx h1 (r4.app (by simp only [Reps]; exact ⟨v, [], rfl, r, rfl⟩))
      exact ⟨a, vs, v, rfl, rfl, h2', by rw [h4.len]; exact hz, k1 _ _ _ S1 e2 z2 ((ev.fw g1).trans f2) q⟩
    · exact hf.elim
theorem s_put (i : Nat) {p spos : Pos} {ki : Expr} {fk : FE} (he : PE X e (rd X.K f)) (hk : PE X ki (rb X.K fk)) (hN : X.N[i]? = some x := by rfl) (hv : Vis X.env.scope x := by first | exact Or.inl rfl | exact Or.inr (Or.inl rfl) | exact Or.inr (Or.inr rfl)) (hd : (x == ("__debug__" : Str)) = false := by decide)
    (hcd : (x == ("__classdict__" : Str)) = false := by decide) (hsub : ∀ v, assign (.Subscript (.Name x p) ki spos) X.env v = (do
      let ov ← holding [v] (eval (.Name x p) X.env)
      let iv ← holding [v, ov] (eval ki X.env)
      standAt spos
      holding [v, ov, iv] (setItem ov iv v)
      release [v, ov, iv] []) := by intro _; rfl) (hs : swapsWithSole [.Subscript (.Name x p) ki spos] e pos.line X.env = pure false := by rfl) (hw : swappedStores [.Subscript (.Name x p) ki spos] e X.env = pure none := by rfl)
    (h1 : (assignEach [.Subscript (.Name x p) ki spos] X.env).map (·.2) = [assign (.Subscript (.Name x p) ki spos) X.env] := by rfl) : PS X (.Assign [.Subscript (.Name x p) ki spos] e pos) (rs X.K (sPut i fk f)) :=
  PS.imp (ps_asg he (pg_sub (pe_var (i := i) hN hv hd hcd) hk set_list hsub) hs hw h1) fun D σ H ⟨Oc, w, H0, ρ, S, B, ev, fz, hf, k1, k2, k3, k4⟩ => by
    unfold sPut at hf
    split at hf
    · rename_i xs hx
      refine ⟨Oc, w, ρ, S, _, ev, hf, fun d S1 v H1 ev1 g1 r q => ?_⟩
      obtain ⟨a, vs, h1, h2, h3, h4⟩ := ev1.own i xs hx
      refine ⟨_, h1, Oc, w, ρ, S1, _, ev1, q, fun kd S2 kv H2 ev2 g2 rk q2 => ?_⟩
      obtain ⟨k, rfl, q3⟩ := asI_inv q2
      split at q3
      · rename_i j hj
        have h2' := g2 a _ (ev1.nw h3) h2
        have r4 := Reps.step (ev1.stepO g2) ev1.Ool xs vs h4
        have rr := Rep.step (ev1.stepO g2) ev1.Ool d v r
        obtain ⟨e2, z2, f2⟩ := EV.ownSet (ds := xs.set j d) (vs := vs.set j v) ev2 (fz.go (g1.trans g2)) hx h1 (r4.set j rr)
        exact ⟨a, vs, k, j, rfl, rk.int, h2', by rw [h4.len]; exact hj, k1 _ _ _ S2 e2 z2 ((ev.fw (g1.trans g2)).trans f2) q3⟩
      · exact q3.elim
    · exact hf.elim
theorem s_ins (i : Nat) {p apos cpos : Pos} (ha : PE X a (rb X.K fa)) (he : PE X e (rd X.K f)) (hN : X.N[i]? = some x := by rfl) (hv : Vis X.env.scope x := by first | exact Or.inl rfl | exact Or.inr (Or.inl rfl) | exact Or.inr (Or.inr rfl)) (hd : (x == ("__debug__" : Str)) = false := by decide)
    (hcd : (x == ("__classdict__" : Str)) = false := by decide) (hbase : attributeBase (.Name x p) "insert" X.env (eval (.Name x p) X.env) = eval (.Name x p) X.env := by rfl)
    (hfew : ((backTo cpos (starEach (a :: [e]) X.env)).all (fun x => !x.1) && (backToKw cpos (keywordEach [] X.env)).all (fun x => x.1.isSome)
      && decide ((a :: [e]).length + ([] : List Keyword).length + (if ([] : List Keyword).isEmpty then 0 else 1) < 30)) = true := by rfl)
    (hline : (apos.endLine == cpos.line) = true := by rfl) (hst : starEach (a :: [e]) X.env = (false, eval a X.env) :: starEach [e] X.env := by rfl) (hst2 : starEach (e :: []) X.env = (false, eval e X.env) :: starEach [] X.env := by rfl) (hpl : (backTo cpos (starEach [e] X.env)).any (·.1) = false := by rfl)
    (hs : swapsWith (.Call (.Attribute (.Name x p) "insert" apos) [a, e] [] cpos) none pos.line X.env = pure false := by rfl) :
    PS X (.Expr (.Call (.Attribute (.Name x p) "insert" apos) [a, e] [] cpos) pos) (rs X.K (sIns i fa f)) :=
  PS.imp (ps_expr (pe_bm PySem.F.plainAttrs_list PySem.F.slot_list_insert PySem.F.type_list_insert mt_insert (pe_var (i := i) hN hv hd hcd) (pa_cons ha (pa_cons he pa_nil hst2) hst) hbase hfew hline hst hpl) hs) fun D σ H ⟨Oc, w, H0, ρ, S, B, ev, fz, hf, k1, k2, k3, k4⟩ => by
    unfold sIns at hf
    split at hf
    · rename_i xs hx
      obtain ⟨hz, hf⟩ := hf
      obtain ⟨p, vs, h1, h2, h3, h4⟩ := ev.own i xs hx
      refine ⟨_, h1, .inl ⟨rfl, vs, SqL.of h2⟩, Oc, w, ρ, S, _, ev, hf, fun kd S1 kv H1 ev1 g1 rk q => ⟨Oc, w, ρ, S1, _, ev1, q, fun d S2 v H2 ev2 g2 r q2 => ?_⟩⟩
      obtain ⟨k, rfl, ⟨k0, k63⟩, q3⟩ := asI_inv q2
      have h2' := (g1.trans g2) p _ (ev.nw h3) h2
      have r4 := Reps.step (ev.stepO (g1.trans g2)) ev.Ool xs vs h4
      obtain ⟨e2, z2, f2⟩ := EV.ownSet (ds := xs.take k.toNat ++ [d] ++ xs.drop k.toNat) (vs := vs.take k.toNat ++ [v] ++ vs.drop k.toNat) ev2 (fz.go (g1.trans g2)) hx h1 (((r4.take _).app (by simp only [Reps]; exact ⟨v, [], rfl, r, rfl⟩)).app (r4.drop _))
      exact ⟨p, vs, k, v, rfl, by rw [rk.int], h2', by rw [h4.len]; exact hz, k0, k63, k1 _ _ _ S2 e2 z2 ((ev.fw (g1.trans g2)).trans f2) q3⟩
    · exact hf.elim
end
end DL

namespace DL
open PySem L2 PyProof.Rows
/-! ### a def -/
theorem Args.at {K : Fr_} {O : AS} {w : Option Addr} {H : Hp} : ∀ {as : List Sl} {vs : List V} {i : Nat} {d : Sl}, Args K O w H as vs → as[i]? = some d → ∃ v, vs[i]? = some v ∧ ArgRep K O w H d v
  | [], _, i, d, h, e => by simp at e
  | d' :: ds, _, 0, d, h, e => by
    simp only [Args] at h
    obtain ⟨v, r, rfl, h1, h2⟩ := h
    simp at e; subst e
    exact ⟨v, rfl, h1⟩
  | d' :: ds, _, i + 1, d, h, e => by
    simp only [Args] at h
    obtain ⟨v, r, rfl, h1, h2⟩ := h
    simp at e
    obtain ⟨v', e', h'⟩ := Args.at h2 e
    exact ⟨v', by simpa using e', h'⟩
theorem start_at {N : List Str} {vs : List V} {i : Nat} {v : V} (h : vs[i]? = some v) : (L2.start N vs)[i]? = some (some v) := by
  unfold L2.start
  have hi : i < vs.length := (List.getElem?_eq_some_iff.mp h).1
  rw [List.getElem?_append_left (by rw [List.length_map]; exact hi), List.getElem?_map, h]
  rfl
/-- the slots at a def's entry -/
def ent (N : List Str) (as : List Sl) : Rho := as ++ List.replicate (N.length - as.length) Sl.un
theorem ent_at {N : List Str} {as : List Sl} {i : Nat} {d : Sl} (h : (ent N as)[i]? = some d) : d = .un ∨ as[i]? = some d := by
  unfold ent at h
  by_cases hi : i < as.length
  · rw [List.getElem?_append_left hi] at h
    exact .inr h
  · rw [List.getElem?_append_right (by omega)] at h
    left
    rw [List.getElem?_replicate] at h
    split at h
    · exact (Option.some.inj h).symm
    · cases h
theorem ent_ev {K : Fr_} {Oc : AS} {w : Option Addr} {H : Hp} {S : SW} {N : List Str} {as : List Sl} {vs : List V} (hl : as.length ≤ N.length) (r : Args K Oc w H as vs) (ol : OL Oc H) (ow : ∀ a, w = some a → Oc a) (hw : Wel w H S) :
    EV K Oc w (L2.start N vs) H (ent N as) S ∧ Fz w H (L2.start N vs) H (ent N as) := by
  have no : ∀ (i : Nat) (xs : List PyData), (ent N as)[i]? ≠ some (Sl.own xs) := fun i xs h => by
    rcases ent_at h with z | z
    · cases z
    · obtain ⟨v, _, q⟩ := Args.at r z
      exact q
  have nd : ∀ (i : Nat) (kvs : List (List Key × PyData)), (ent N as)[i]? ≠ some (Sl.dct kvs) := fun i xs h => by
    rcases ent_at h with z | z
    · cases z
    · obtain ⟨v, _, q⟩ := Args.at r z
      exact q
  have oo : ∀ a, OO Oc (L2.start N vs) (ent N as) a → Oc a := by
    rintro a (h | ⟨i, xs, h1, h2⟩)
    · exact h
    · exact absurd h1 (no i xs)
  have lv := r.len
  refine ⟨⟨?_, fun i d h => ?_, fun i xs h => absurd h (no i xs), fun i j xs ys a h => absurd h (no i xs), fun i h => ?_, fun a h => ⟨ow a h, hw a h⟩, ol, ⟨fun i xs h => absurd h (nd i xs), fun i j ks ls a h => absurd h (nd i ks)⟩⟩, ⟨Gr.refl, fun i xs a h => absurd h (no i xs), fun i xs a h => absurd h (nd i xs)⟩⟩
  · unfold ent L2.start
    simp only [List.length_append, List.length_replicate, List.length_map]
    omega
  · rcases ent_at h with z | z
    · cases z
    · obtain ⟨v, hv, q⟩ := Args.at r z
      exact ⟨v, start_at hv, Rep.less oo d v q⟩
  · rcases ent_at h with z | z
    · cases z
    · obtain ⟨v, hv, a, q1, q2⟩ := Args.at r z
      subst q2
      exact ⟨a, q1, start_at hv⟩
section
variable {P : Program} {W : World} {K : Fr_} {mg : Str → Option Value} {base : Heap}
/-- THE RULE for a def: its body as a term, then data alone -/
theorem dfn_ok {x qual : Str} {st : Stmt} {f : Addr} {fd : FuncData} {N ps : List Str} {k n : Nat} {C : Ct} {g : FS} (F : Fun K x qual st f fd) (S : FnScope N ps (defScope st)) (hn : ps.length = n) (hN : n ≤ N.length)
    (hbody : ∀ (cdv : Value) (A : Around) (outer : List Env) (s : Shared) (H : Hp) (E : XK), RoomG k (cxOf CX0 P W K mg base N qual (defScope st) f cdv A outer s H E).nox.A →
      PSs (cxOf CX0 P W K mg base N qual (defScope st) f cdv A outer s H E).nox (defBody st) (rs K g))
    (hC : ∀ as S R, as.length = n → C as S R → g (ent N as) S { nx := fun _ S' => R .none S', rt := R }) : Pro P W K mg base (k + 1) f fd ps (spC K n C) := by
  refine .of F S (fun vs H Q E h => ?_) (fun cdv A outer s H vs Q E hg hr h => ⟨rs K g, hbody cdv A outer s H E ⟨hr, quiet_in hg⟩, ?_⟩)
  · obtain ⟨Oc, w, SS, as, R, hl, r, _⟩ := h
    rw [r.len, hl, hn]
  · obtain ⟨Oc, w, SS, as, R, hl, r, ol, ow, hw, hc, k⟩ := h
    obtain ⟨ev, fz⟩ := ent_ev (N := N) (by rw [hl]; exact hN) r ol ow hw
    exact ⟨Oc, w, H, _, SS, _, ev, fz, hC as SS R hl hc, fun σ' H' ρ' S' ev' fz' fw q => k .none S' .non H' fz'.gr (fun a z => (ev'.ws a z).2) (by simp only [Rep]) q, ⟨fun H' d v S' g w' rr q => k d S' v H' g w' rr q, fun _ _ _ _ _ _ _ _ _ _ q => q.elim⟩,
      fun _ _ _ _ _ _ _ q => q.elim, fun _ _ _ _ _ _ _ q => q.elim⟩
theorem dfn {x qual : Str} {st : Stmt} {f : Addr} {fd : FuncData} {N ps : List Str} {k n : Nat} {C : Ct} {g : FS} (F : Fun K x qual st f fd) (S : FnScope N ps (defScope st)) (hm : mg x = some (.ref f)) (hb : Binds K fd ps []) (hn : ps.length = n) (hN : n ≤ N.length)
    (hbody : ∀ (cdv : Value) (A : Around) (outer : List Env) (s : Shared) (H : Hp) (E : XK), RoomG k (cxOf CX0 P W K mg base N qual (defScope st) f cdv A outer s H E).nox.A →
      PSs (cxOf CX0 P W K mg base N qual (defScope st) f cdv A outer s H E).nox (defBody st) (rs K g))
    (hC : ∀ as S R, as.length = n → C as S R → g (ent N as) S { nx := fun _ S' => R .none S', rt := R }) : Cal P W K mg base x (k + 1) n C :=
  ⟨f, fd, ps, dfn_ok F S hn hN hbody hC, F.kp, hb, hm⟩
/-- a weaker promise -/
theorem spC_imp {n : Nat} {C C' : Ct} (h : ∀ as S R, C' as S R → C as S R) {vs : List V} {H : Hp} {Q : VK} {E : XK} (q : spC K n C' vs H Q E) : spC K n C vs H Q E := by
  obtain ⟨Oc, w, SS, as, R, hl, r, ol, ow, hw, hc, k⟩ := q
  exact ⟨Oc, w, SS, as, R, hl, r, ol, ow, hw, h as SS R hc, k⟩
theorem Cal.imp {x : Str} {k n : Nat} {C C' : Ct} (c : Cal P W K mg base x k n C) (h : ∀ as S R, C' as S R → C as S R) : Cal P W K mg base x k n C' := by
  obtain ⟨f, fd, ps, F, a, b, d⟩ := c.ex
  exact ⟨f, fd, ps, F.imp fun vs H Q E q => spC_imp h q, a, b, d⟩
theorem Cal.mono {x : Str} {k k' n : Nat} {C : Ct} (c : Cal P W K mg base x k n C) (h : k ≤ k') : Cal P W K mg base x k' n C := by
  obtain ⟨f, fd, ps, F, a, b, d⟩ := c.ex
  exact ⟨f, fd, ps, F.mono h, a, b, d⟩
/-- a promise that asks for what can't be is kept -/
theorem Cal.void {x : Str} {n : Nat} {C : Ct} {f : Addr} {fd : FuncData} {ps : List Str} (hk : PySem.W.keepIn K (.ref f) = true) (hm : mg x = some (.ref f)) (hb : Binds K fd ps []) (no : ∀ as S R, ¬ C as S R) : Cal P W K mg base x 0 n C := by
  have no' : ∀ vs H Q E, ¬ spC K n C vs H Q E := fun vs H Q E ⟨_, _, SS, as, R, _, _, _, _, _, hc, _⟩ => no as SS R hc
  exact ⟨f, fd, ps, .no no', hk, hb, hm⟩
end
/-! ### the well: a list of ints that the callers hold, too -/
def fWix (i : Nat) (fk : FE) : FE := fun ρ S R => match ρ[i]? with
  | some .wel => fk ρ S fun x S1 => asI x fun k => match atI S1 k with
    | some z => R (.int z) S1
    | none => False
  | _ => False
def sWput (i : Nat) (fk f : FE) : FS := fun ρ S B => match ρ[i]? with
  | some .wel => f ρ S fun d S1 => asI d fun z => fk ρ S1 fun x S2 => asI x fun k => match ixN S2.length k with
    | some j => B.nx ρ (S2.set j z)
    | none => False
  | _ => False
/-- well[k], name = a pair of ints -/
def sWdiv (i j : Nat) (fk f : FE) : FS := fun ρ S B => match ρ[i]? with
  | some .wel => i ≠ j ∧ f ρ S fun d S1 => match d with
    | .tuple [.int q, .int r] => fk ρ S1 fun x S2 => asI x fun k => match ixN S2.length k with
      | some l => B.nx (ρ.set j (.dat (.int r))) (S2.set l q)
      | none => False
    | _ => False
  | _ => False
section
variable {K : Fr_} {Oc : AS} {w : Option Addr} {H : Hp} {σ : L2.St} {ρ : Rho} {S : SW}
/-- the well has changed -/
theorem EV.wellSet {a : Addr} {S' : SW} (e : EV K Oc w σ H ρ S) (hw : w = some a) : EV K Oc w σ (upd H a (.lst (S'.map V.int))) ρ S' ∧ Gr w H (upd H a (.lst (S'.map V.int))) := by
  have g : Gr w H (upd H a (.lst (S'.map V.int))) := fun b u n h => by rw [upd_ne (fun z => n (by rw [hw, z]))]; exact h
  refine ⟨e.go g fun b h => ?_, g⟩
  rw [hw] at h
  cases h
  exact upd_same
end
section
variable {X : Cx} {e : Expr} {pos : Pos} {f fk : FE} {x y : Str} {ki : Expr}
theorem atI_map {α β : Type} (g : α → β) {xs : List α} {i : Int} {v : α} (h : atI xs i = some v) : atI (xs.map g) i = some (g v) := by
  unfold atI at h ⊢
  rw [List.length_map]
  cases e : ixN xs.length i with
  | none => rw [e] at h; cases h
  | some j =>
    rw [e] at h
    show (xs.map g)[j]? = some (g v)
    rw [List.getElem?_map, show xs[j]? = some v from h]
    rfl
theorem d_wix (i : Nat) {p : Pos} (hk : PE X ki (rb X.K fk)) (hN : X.N[i]? = some x := by rfl) (hv : Vis X.env.scope x := by first | exact Or.inl rfl | exact Or.inr (Or.inl rfl) | exact Or.inr (Or.inr rfl)) (hd : (x == ("__debug__" : Str)) = false := by decide)
    (hcd : (x == ("__classdict__" : Str)) = false := by decide) (hs : PlainIx ki := by intro _ _; rfl) : PE X (.Subscript (.Name x p) ki pos) (rd X.K (fWix i fk)) := PE.imp (pe_ix ix_list (pe_var (i := i) hN hv hd hcd) hk hs) fun σ H Q ⟨Oc, w, ρ, S, R, ev, hf, k⟩ => by
  unfold fWix at hf
  split at hf
  · rename_i hx
    obtain ⟨a, hw, hσ⟩ := ev.wel i hx
    refine ⟨_, hσ, Oc, w, ρ, S, _, ev, hf, fun kd S1 kv H1 ev1 g1 rk q => ?_⟩
    obtain ⟨j, rfl, q1⟩ := asI_inv q
    split at q1
    · rename_i z hz
      exact ⟨a, _, j, _, rfl, rk.int, SqL.of (ev1.ws a hw).2, atI_map V.int hz, k _ S1 _ H1 ev1 g1 (by simp only [Rep]) q1⟩
    · exact q1.elim
  · exact hf.elim
theorem s_wput (i : Nat) {p spos : Pos} (he : PE X e (rb X.K f)) (hk : PE X ki (rb X.K fk)) (hN : X.N[i]? = some x := by rfl) (hv : Vis X.env.scope x := by first | exact Or.inl rfl | exact Or.inr (Or.inl rfl) | exact Or.inr (Or.inr rfl)) (hd : (x == ("__debug__" : Str)) = false := by decide)
    (hcd : (x == ("__classdict__" : Str)) = false := by decide) (hsub : ∀ v, assign (.Subscript (.Name x p) ki spos) X.env v = (do
      let ov ← holding [v] (eval (.Name x p) X.env)
      let iv ← holding [v, ov] (eval ki X.env)
      standAt spos
      holding [v, ov, iv] (setItem ov iv v)
      release [v, ov, iv] []) := by intro _; rfl) (hs : swapsWithSole [.Subscript (.Name x p) ki spos] e pos.line X.env = pure false := by rfl) (hw : swappedStores [.Subscript (.Name x p) ki spos] e X.env = pure none := by rfl)
    (h1 : (assignEach [.Subscript (.Name x p) ki spos] X.env).map (·.2) = [assign (.Subscript (.Name x p) ki spos) X.env] := by rfl) : PS X (.Assign [.Subscript (.Name x p) ki spos] e pos) (rs X.K (sWput i fk f)) :=
  PS.imp (ps_asg he (pg_sub (pe_var (i := i) hN hv hd hcd) hk set_list hsub) hs hw h1) fun D σ H ⟨Oc, w, H0, ρ, S, B, ev, fz, hf, k1, k2, k3, k4⟩ => by
    unfold sWput at hf
    split at hf
    · rename_i hx
      refine ⟨Oc, w, ρ, S, _, ev, hf, fun d S1 v H1 ev1 g1 r q => ?_⟩
      obtain ⟨z, rfl, q1⟩ := asI_inv q
      have rz := r.int
      subst rz
      obtain ⟨a, hw, hσ⟩ := ev1.wel i hx
      refine ⟨_, hσ, Oc, w, ρ, S1, _, ev1, q1, fun kd S2 kv H2 ev2 g2 rk q2 => ?_⟩
      obtain ⟨k, rfl, q3⟩ := asI_inv q2
      split at q3
      · rename_i j hj
        obtain ⟨ev3, g3⟩ := ev2.wellSet (S' := S2.set j z) hw
        rw [List.map_set] at ev3 g3
        have gg := (g1.trans g2).trans g3
        exact ⟨a, _, k, j, rfl, rk.int, (ev2.ws a hw).2, by rw [List.length_map]; exact hj, k1 _ _ _ _ ev3 (fz.go gg) (ev.fw gg) q3⟩
      · exact q3.elim
    · exact hf.elim
theorem s_wdiv (i j : Nat) {p py spos pt : Pos} {kt : Nat} (hN : X.N.Nodup) (hc : X.calm = true) (he : PE X e (rb X.K f)) (hk : PE X ki (rb X.K fk)) (hi : X.N[i]? = some x := by rfl) (hj : X.N[j]? = some y := by rfl) (hv : Vis X.env.scope x := by first | exact Or.inl rfl | exact Or.inr (Or.inl rfl) | exact Or.inr (Or.inr rfl)) (hy : Loc X.env.scope y := by first | exact Or.inl rfl | exact Or.inr rfl)
    (hyf : X.fn y = true ∨ X.env.scope.names.lookup y = some .local := by first | exact .inl rfl | exact .inr rfl) (hd : (x == ("__debug__" : Str)) = false := by decide)
    (hcd : (x == ("__classdict__" : Str)) = false := by decide) (hsub : ∀ v, assign (.Subscript (.Name x p) ki spos) X.env v = (do
      let ov ← holding [v] (eval (.Name x p) X.env)
      let iv ← holding [v, ov] (eval ki X.env)
      standAt spos
      holding [v, ov, iv] (setItem ov iv v)
      release [v, ov, iv] []) := by intro _; rfl)
    (hs1 : (assignEach (.Subscript (.Name x p) ki spos :: [.Name y py]) X.env).map (·.2) = assign (.Subscript (.Name x p) ki spos) X.env :: (assignEach [.Name y py] X.env).map (·.2) := by rfl) (hs2 : (assignEach (.Name y py :: []) X.env).map (·.2) = assign (.Name y py) X.env :: (assignEach [] X.env).map (·.2) := by rfl)
    (hn : (assignEach [.Subscript (.Name x p) ki spos, .Name y py] X.env).length = 2 := by rfl) (hst : (assignEach [.Subscript (.Name x p) ki spos, .Name y py] X.env).findIdx? (·.1) = none := by rfl)
    (hs : swapsWithSole [.Tuple [.Subscript (.Name x p) ki spos, .Name y py] kt pt] e pos.line X.env = pure false := by rfl) (hw : swappedStores [.Tuple [.Subscript (.Name x p) ki spos, .Name y py] kt pt] e X.env = pure none := by rfl)
    (h1 : (assignEach [.Tuple [.Subscript (.Name x p) ki spos, .Name y py] kt pt] X.env).map (·.2) = [assign (.Tuple [.Subscript (.Name x p) ki spos, .Name y py] kt pt) X.env] := by rfl) : PS X (.Assign [.Tuple [.Subscript (.Name x p) ki spos, .Name y py] kt pt] e pos) (rs X.K (sWdiv i j fk f)) :=
  PS.imp (ps_asg he (pg_tup hc (pgs_cons (pg_sub (pe_var (i := i) hi hv hd hcd) hk set_list hsub) (pgs_cons (pg_name (i := j) hN hj hy hyf) pgs_nil hs2) hs1) hn hst) hs hw h1) fun D σ H ⟨Oc, w, H0, ρ, S, B, ev, fz, hf, k1, k2, k3, k4⟩ => by
    unfold sWdiv at hf
    split at hf
    · rename_i hx
      obtain ⟨hij, hf⟩ := hf
      refine ⟨Oc, w, ρ, S, _, ev, hf, fun d S1 v H1 ev1 g1 r q => ?_⟩
      split at q
      · rename_i qq rr
        obtain ⟨t, vs, rfl, ht, r2⟩ := r.tup
        simp only [Reps, Rep] at r2
        obtain ⟨_, _, rfl, rfl, _, _, rfl, rfl, rfl⟩ := r2
        obtain ⟨a, hw, hσ⟩ := ev1.wel i hx
        refine ⟨t, _, rfl, ht, rfl, _, _, rfl, _, hσ, Oc, w, ρ, S1, _, ev1, q, fun kd S2 kv H2 ev2 g2 rk q2 => ?_⟩
        obtain ⟨k, rfl, q3⟩ := asI_inv q2
        split at q3
        · rename_i l hl
          obtain ⟨ev3, g3⟩ := ev2.wellSet (S' := S2.set l qq) hw
          rw [List.map_set] at ev3 g3
          have gg := (g1.trans g2).trans g3
          obtain ⟨ev4, t4⟩ := ev3.put j (d := .int rr) (v := .int rr) (by simp only [Rep])
          exact ⟨a, _, k, l, rfl, rk.int, (ev2.ws a hw).2, by rw [List.length_map]; exact hl, _, _, rfl, rfl, k1 _ _ _ _ ev4 (t4.fz (fz.go gg)) ((ev.fw gg).trans t4.fw) q3⟩
        · exact q3.elim
      · exact q.elim
    · exact hf.elim
end
end DL

namespace DL
open PySem L2 PyProof.Rows
/-! ### a def that hands back a new list -/
def spN (K : Fr_) (n : Nat) (C : Ct) : Sp := fun vs H Q _ => ∃ Oc w S as R, as.length = n ∧ Args K Oc w H as vs ∧ OL Oc H ∧ (∀ a, w = some a → Oc a) ∧ Wel w H S ∧ C as S R ∧
  ∀ ds S' p us H', Gr w H H' → Wel w H' S' → H p = none → H' p = some (.lst us) → Reps K (With Oc p) H' ds us → R (.list ds) S' → Q (.ref p) H'
structure CalN (P : Program) (W : World) (K : Fr_) (mg : Str → Option Value) (base : Heap) (x : Str) (k n : Nat) (C : Ct) : Prop where
  ex : ∃ f fd ps, Pro P W K mg base k f fd ps (spN K n C) ∧ PySem.W.keepIn K (.ref f) = true ∧ Binds K fd ps [] ∧ mg x = some (.ref f)
theorem dfnN {P : Program} {W : World} {K : Fr_} {mg : Str → Option Value} {base : Heap} {x qual : Str} {st : Stmt} {f : Addr} {fd : FuncData} {N ps : List Str} {k n : Nat} {C : Ct} {g : FS} (F : Fun K x qual st f fd) (S : FnScope N ps (defScope st)) (hm : mg x = some (.ref f)) (hb : Binds K fd ps []) (hn : ps.length = n) (hN : n ≤ N.length)
    (hbody : ∀ (cdv : Value) (A : Around) (outer : List Env) (s : Shared) (H : Hp) (E : XK), RoomG k (cxOf CX0 P W K mg base N qual (defScope st) f cdv A outer s H E).nox.A →
      PSs (cxOf CX0 P W K mg base N qual (defScope st) f cdv A outer s H E).nox (defBody st) (rs K g))
    (hC : ∀ as S R, as.length = n → C as S R → g (ent N as) S { nx := fun _ _ => False, rt := fun _ _ => False, rn := fun ds S' => R (.list ds) S' }) : CalN P W K mg base x (k + 1) n C := by
  refine ⟨f, fd, ps, .of F S (fun vs H Q E h => ?_) (fun cdv A outer s H vs Q E hg hr h => ⟨rs K g, hbody cdv A outer s H E ⟨hr, quiet_in hg⟩, ?_⟩), F.kp, hb, hm⟩
  · obtain ⟨Oc, w, SS, as, R, hl, r, _⟩ := h
    rw [r.len, hl, hn]
  · obtain ⟨Oc, w, SS, as, R, hl, r, ol, ow, hw, hc, k⟩ := h
    obtain ⟨ev, fz⟩ := ent_ev (N := N) (by rw [hl]; exact hN) r ol ow hw
    exact ⟨Oc, w, H, _, SS, _, ev, fz, hC as SS R hl hc, fun _ _ _ _ _ _ _ q => q.elim, ⟨fun _ _ _ _ _ _ _ q => q.elim, fun H' ds p us S' g w' n hp rr q => k ds S' p us H' g w' n hp rr q⟩, fun _ _ _ _ _ _ _ q => q.elim, fun _ _ _ _ _ _ _ q => q.elim⟩
section
variable {X : Cx} {e e2 : Expr} {es : List Expr} {rest : List Stmt} {pos p spos : Pos} {f f2 : FE} {g : FR} {h : FS} {n k : Nat} {x y : Str} {C : Ct}
theorem n_call (c : CalN X.prog X.w X.K X.mg X.base x k n C) (hr : RoomG k X.A) (ha : PA X (e :: es) (rca X.K n g)) (hg : Gl X x := by rfl) (hdb : (x == ("__debug__" : Str)) = false := by decide)
    (he : starEach (e :: es) X.env = (false, eval e X.env) :: starEach es X.env := by rfl) (hpl : (backTo pos (starEach es X.env)).any (·.1) = false := by rfl) : PE X (.Call (.Name x p) (e :: es) [] pos) (rn X.K (fCall C g)) := by
  obtain ⟨f, fd, ps, F, hk, hb, hm⟩ := c.ex
  exact PE.imp (pe_pro F hr hg hm hk hb ha hdb he hpl) fun σ H Q ⟨Oc, w, ρ, S, R, ev, hf, k⟩ =>
    ⟨Oc, w, ρ, S, _, ev, hf, fun as S1 vs H1 ev1 g1 r1 hl h1 => ⟨OO Oc σ ρ, w, S1, as, _, hl, by rw [List.append_nil]; exact r1, ev1.Ool, fun a z => .inl (ev1.ws a z).1, fun a z => (ev1.ws a z).2, h1,
      fun ds S' p us H' g w' n hp r q => k ds S' p us H' (ev1.go g w') (g1.trans g) (free_of ev1 g1 n) hp r q⟩⟩
/-- f(e), e a new list of ints: f's well -/
def fCallW (C : Ct) (f : FE) : FE := fun ρ S R => f ρ S fun d S1 => ∃ ns : List Int, d = .list (ns.map .int) ∧ C [.wel] ns fun d' _ => R d' S1
theorem d_callW (c : Cal X.prog X.w X.K X.mg X.base x k 1 C) (hr : RoomG k X.A) (ha : PE X e (rn X.K f)) (hg : Gl X x := by rfl) (hdb : (x == ("__debug__" : Str)) = false := by decide)
    (he : starEach (e :: []) X.env = (false, eval e X.env) :: starEach [] X.env := by rfl) (hpl : (backTo pos (starEach [] X.env)).any (·.1) = false := by rfl) : PE X (.Call (.Name x p) [e] [] pos) (rd X.K (fCallW C f)) := by
  obtain ⟨f, fd, ps, F, hk, hb, hm⟩ := c.ex
  refine PE.imp (pe_pro F hr hg hm hk hb (pa_cons ha pa_nil he) hdb he hpl) fun σ H Q ⟨Oc, w, ρ, S, R, ev, hf, k⟩ =>
    ⟨Oc, w, ρ, S, _, ev, hf, fun ds S1 p vs H1 ev1 g1 n hp r ⟨ns, e, hc⟩ => ?_⟩
  cases e
  have ev' := r.ints
  subst ev'
  have ol : OL (With (OO Oc σ ρ) p) H1 := fun a z => z.elim (ev1.Ool a) fun z => by rw [z]; exact ⟨_, hp, trivial⟩
  refine ⟨With (OO Oc σ ρ) p, some p, ns, [.wel], _, rfl, by simp only [Args, ArgRep]; exact ⟨_, [], rfl, ⟨p, rfl, rfl⟩, rfl⟩, ol, fun a z => by cases z; exact .inr rfl, fun a z => by cases z; exact hp, hc, fun d S' v H' g w' r q => ?_⟩
  have np : ∀ a u, H a = some u → some p ≠ some a := fun a u h z => by cases z; rw [n] at h; cases h
  have gg : Gr w H H' := fun a u na h => g a u (np a u h) (g1 a u na h)
  exact k d S1 v H' (ev.go gg fun a z => g a _ (np a _ (ev.ws a z).2) (ev1.ws a z).2) gg (Rep.less (fun a z => .inl z) d v r) q
/-- f(e, e2) likewise -/
def fCallW2 (C : Ct) (f f2 : FE) : FE := fun ρ S R => f ρ S fun d S1 => f2 ρ S1 fun d2 S2 => ∃ ns : List Int, d = .list (ns.map .int) ∧ C [.wel, .dat d2] ns fun d' _ => R d' S2
end
section
variable {X : Cx} {e : Expr} {rest : List Stmt} {pos p : Pos} {f : FE} {h : FS} {x : Str}
/-- x = e, e a new list of ints: from here on the well; the rest hands back -/
def sWell (i : Nat) (f : FE) (h : FS) : FS := fun ρ S B => (∀ (j : Nat) (d : Sl), ρ[j]? = some d → d = .un ∨ ∃ e, d = .dat e) ∧ f ρ S fun d S1 => ∃ ns : List Int, d = .list (ns.map .int) ∧
  h (ρ.set i .wel) ns { nx := fun _ _ => False, rt := fun d _ => B.rt d S1 }
theorem s_well (i : Nat) (hN : X.N.Nodup) (he : PE X e (rn X.K f)) (hrest : PSs X rest (rs X.K h)) (hi : X.N[i]? = some x := by rfl) (hx : Loc X.env.scope x := by first | exact Or.inl rfl | exact Or.inr rfl) (hs : swapsWith e (some (.Name x p)) pos.line X.env = pure false := by rfl)
    (hf : X.fn x = true ∨ X.env.scope.names.lookup x = some .local := by first | exact .inl rfl | exact .inr rfl) : PSs X (.Assign [.Name x p] e pos :: rest) (rs X.K (sWell i f h)) := PSs.imp (pss_cons (ps_set (i := i) hN hi hx he hs hf) hrest) fun D σ H ⟨Oc, w, H0, ρ, S, B, ev, fz, ⟨no, hf⟩, k1, k2, k3, k4⟩ => by
  refine ⟨Oc, w, ρ, S, _, ev, hf, fun ds S1 p vs H1 ev1 g1 n hp r ⟨ns, e, hc⟩ => ?_⟩
  cases e
  have evs := r.ints
  subst evs
  have old : ∀ {j : Nat} {d : Sl}, (ρ.set i .wel)[j]? = some d → (d = .wel ∧ (σ.set i (some (.ref p)))[j]? = some (some (.ref p))) ∨ d = .un ∨ ∃ e, d = .dat e ∧ ρ[j]? = some (.dat e) ∧ (σ.set i (some (.ref p)))[j]? = σ[j]? := fun {j d} h => by
    by_cases hj : i = j
    · subst hj
      by_cases hk : i < ρ.length
      · rw [List.getElem?_set_self hk] at h
        cases h
        exact .inl ⟨rfl, by rw [List.getElem?_set_self (by rw [← ev.len]; exact hk)]⟩
      · rw [List.getElem?_eq_none (by simpa using hk)] at h; cases h
    · rw [List.getElem?_set_ne hj] at h ⊢
      rcases no j d h with z | ⟨e, z⟩
      · exact .inr (.inl z)
      · subst z
        exact .inr (.inr ⟨e, rfl, h, rfl⟩)
  have noOwn : ∀ (j : Nat) (xs : List PyData), (ρ.set i .wel)[j]? ≠ some (Sl.own xs) := fun j xs h => by
    rcases old h with ⟨z, _⟩ | z | ⟨e, z, _⟩ <;> cases z
  have noDct : ∀ (j : Nat) (xs : List (List Key × PyData)), (ρ.set i .wel)[j]? ≠ some (Sl.dct xs) := fun j xs h => by
    rcases old h with ⟨z, _⟩ | z | ⟨e, z, _⟩ <;> cases z
  have oo : ∀ a, OO (With Oc p) (σ.set i (some (.ref p))) (ρ.set i .wel) a → OO Oc σ ρ a ∨ H a = none := by
    rintro a ((z | z) | ⟨j, xs, h1, _⟩)
    · exact .inl (.inl z)
    · exact .inr (by rw [z]; exact n)
    · exact absurd h1 (noOwn j xs)
  have evN : EV X.K (With Oc p) (some p) (σ.set i (some (.ref p))) H1 (ρ.set i .wel) ns := by
    refine ⟨by simp [ev.len], fun j d h => ?_, fun j xs h => absurd h (noOwn j xs), fun j l xs ys a h => absurd h (noOwn j xs), fun j h => ?_, fun a z => ?_, fun a z => ?_, ⟨fun i xs h => absurd h (noDct i xs), fun i j ks ls a h => absurd h (noDct i ks)⟩⟩
    · rcases old h with ⟨z, _⟩ | z | ⟨e, z, q1, q2⟩
      · cases z
      · cases z
      · cases z
        obtain ⟨v, hv, rv⟩ := ev.dat j d q1
        exact ⟨v, by rw [q2]; exact hv, Rep.fw oo (ev.stepO g1) ev.Ool d v rv⟩
    · rcases old h with ⟨_, q⟩ | z | ⟨e, z, _⟩
      · exact ⟨p, rfl, q⟩
      · cases z
      · cases z
    · cases z
      exact ⟨.inr rfl, hp⟩
    · rcases z with z | z
      · exact ev1.ol a z
      · rw [z]; exact ⟨_, hp, trivial⟩
  have p0 : H0 p = none := by
    cases e : H0 p with
    | none => rfl
    | some u =>
      by_cases hw : w = some p
      · have z := (ev.ws p hw).2
        rw [z] at n
        cases n
      · rw [fz.gr p u hw e] at n
        cases n
  refine ⟨With Oc p, some p, H1, _, ns, _, evN, ⟨Gr.refl, fun j xs a h => absurd h (noOwn j xs), fun j xs a h => absurd h (noDct j xs)⟩, hc, fun _ _ _ _ _ _ _ q => q.elim, ⟨fun H' d v S' g w' r q => ?_, fun _ _ _ _ _ _ _ _ _ _ q => q.elim⟩, fun _ _ _ _ _ _ _ q => q.elim, fun _ _ _ _ _ _ _ q => q.elim⟩
  have np : ∀ a u, H0 a = some u → some p ≠ some a := fun a u h z => by cases z; rw [p0] at h; cases h
  have npH : ∀ a u, H a = some u → some p ≠ some a := fun a u h z => by cases z; rw [n] at h; cases h
  exact k2.1 H' d v S1 (fun a u na h => g a u (np a u h) ((fz.gr.trans g1) a u na h)) (fun a z => g a _ (npH a _ (ev.ws a z).2) (ev1.ws a z).2) (Rep.less (fun a z => .inl z) d v r) q
end
end DL

namespace DL
open PySem L2 PyProof.Rows
/-! ### the operators as the printed terms name them -/
section
variable {X : Cx} {e a b c : Expr} {pos p : Pos} {f fa fb fc : FE} {k : Nat}
theorem isi_tuple : isiAll "tuple" = true := by decide +kernel
theorem isi_str : isiAll "str" = true := by decide +kernel
theorem isi_int : isiAll "int" = true := by decide +kernel
theorem isi_bool : isiAll "bool" = true := by decide +kernel
theorem isi_list : isiAll "list" = true := by decide +kernel
/-- order: ints, texts -/
def rLtA : R2 := fun x y H Q => rI0 (fun i j => .bl (decide (i < j))) x y H Q ∨ ∃ i j, x = .str i ∧ y = .str j ∧ Q (.bl (decide (i.cps.toList < j.cps.toList))) H
theorem op_ltA : OpR X (compareOp .Lt) rLtA := op_lt.or op_lt_str
def oLt : O2 := fun x y R => match x, y with
  | .int i, .int j => R (.bool (decide (i < j)))
  | .str i, .str j => R (.bool (decide (i.cps.toList < j.cps.toList)))
  | _, _ => False
theorem sLt {K : Fr_} : OpS K rLtA oLt := ⟨fun {O w H x y vx vy R Q} ol rx ry h k => by
  unfold oLt at h
  split at h
  · exact .inl ⟨_, _, rx.int, ry.int, k _ _ H (Same.refl H) (by simp only [Rep]) h⟩
  · exact .inr ⟨_, _, rx.str, ry.str, k _ _ H (Same.refl H) (by simp only [Rep]) h⟩
  · exact h.elim⟩
abbrev oLe : O2 := oI fun i j => .bool (decide (i ≤ j))
abbrev oGt : O2 := oI fun i j => .bool (decide (j < i))
abbrev oGe : O2 := oI fun i j => .bool (decide (j ≤ i))
theorem op_eqH (hr : RoomG k X.A) : OpR X (compareOp .Eq) (rEqAll X.K) := op_eqAll hr.room
theorem op_neH (hr : RoomG k X.A) : OpR X (compareOp .NotEq) (rNeAll X.K) := op_neAll hr.room
def isNonD : PyData → Bool
  | .none => true
  | _ => false
/-- is None -/
def oIsN : O2 := fun x y R => match y with
  | .none => R (.bool (isNonD x))
  | _ => False
def oNotN : O2 := fun x y R => match y with
  | .none => R (.bool (!isNonD x))
  | _ => False
theorem RepB.isN {K : Fr_} {O : AS} {w : Option Addr} {H : Hp} {d : PyData} {v : V} (h : RepB K O w H d v) : decide (v = .non) = isNonD d := by
  cases d with
  | none => rw [h.non]; rfl
  | bool b => rw [h.bool]; rfl
  | int b => rw [h.int]; rfl
  | str b => rw [h.str]; rfl
  | list ds =>
    obtain ⟨a, vs, rfl, _⟩ := h.lst
    rfl
  | tuple ds =>
    obtain ⟨a, vs, rfl, _⟩ := h.tup
    rfl
  | dict kvs =>
    rcases h with h | ⟨a, vs, ds, e, _⟩
    · simp only [Rep] at h
      obtain ⟨a, ps, rfl, _⟩ := h
      rfl
    · cases e
theorem sIsN {K : Fr_} : OpS K (fun x y H Q => y = .non ∧ Q (.bl (decide (x = .non))) H) oIsN := ⟨fun {O w H x y vx vy R Q} ol rx ry h k => by
  unfold oIsN at h
  split at h
  · exact ⟨ry.non, k _ _ H (Same.refl H) (by rw [rx.isN]; simp only [Rep]) h⟩
  · exact h.elim⟩
theorem sNotN {K : Fr_} : OpS K (fun x y H Q => y = .non ∧ Q (.bl (!decide (x = .non))) H) oNotN := ⟨fun {O w H x y vx vy R Q} ol rx ry h k => by
  unfold oNotN at h
  split at h
  · refine ⟨ry.non, k _ _ H (Same.refl H) ?_ h⟩
    rw [rx.isN]
    simp only [Rep]
  · exact h.elim⟩
/-- repr of a truth, of None, of an int -/
def rReprS : List V → Hp → VK → Prop := fun xs H Q => (∃ b, xs = [.bl b] ∧ Q (.str (PyData.bool b).shown) H) ∨ (xs = [.non] ∧ Q (.str PyData.none.shown) H) ∨ ∃ i, xs = [.int i] ∧ i.natAbs.log2 < 1920 ∧ Q (.str (toString i)) H
theorem call_reprD : CallR X (.builtin "repr") rReprS := by
  rintro pins s σ H xs us Q I r (⟨b, rfl, q⟩ | ⟨rfl, q⟩ | ⟨i, rfl, hz, q⟩)
  · obtain ⟨u, rfl, ru⟩ := vals1 r
    cases ru
    refine PySem.P.repr_of_bool ⟨.str _, H, I.tok _, ⟨_, rfl⟩, ?_⟩
    simpa only [PyData.shown] using q
  · obtain ⟨u, rfl, ru⟩ := vals1 r
    cases ru
    refine PySem.P.repr_of_none ⟨.str _, H, I.tok _, ⟨_, rfl⟩, ?_⟩
    simpa only [PyData.shown] using q
  · obtain ⟨u, rfl, t, rfl⟩ := vals1 r
    exact PySem.P.repr_of_int hz ⟨.str _, H, I.tok _, ⟨_, rfl⟩, q⟩
def oRepr : O1 := fun x R => match x with
  | .bool b => R (.str (PyData.bool b).shown)
  | .none => R (.str PyData.none.shown)
  | .int i => i.natAbs.log2 < 1920 ∧ R (.str (toString i))
  | _ => False
theorem sRepr {K : Fr_} : UnS K (t1 rReprS) oRepr := ⟨fun {O w H x vx R Q} ol rx h k => by
  unfold oRepr at h
  split at h
  · have e := rx.bool
    subst e
    exact .inl ⟨_, rfl, k _ _ H (Same.refl H) (by simp only [Rep]) h⟩
  · have e := rx.non
    subst e
    exact .inr (.inl ⟨rfl, k _ _ H (Same.refl H) (by simp only [Rep]) h⟩)
  · have e := rx.int
    subst e
    exact .inr (.inr ⟨_, rfl, h.1, k _ _ H (Same.refl H) (by simp only [Rep]) h.2⟩)
  · exact h.elim⟩
def pmId {α : Type} (l : List α) : List α := l
end
end DL

namespace DL
open PySem L2 PyProof.Rows
/-! ### how transformers are reduced -/
theorem asB_bool (b : Bool) (k : Bool → Prop) : asB (.bool b) k = k b := rfl
theorem asI_int (i : Int) (k : Int → Prop) : asI (.int i) k = k i := rfl
theorem if_tt {A B : Prop} : (if true = true then A else B) = A := if_pos rfl
theorem if_ff {A B : Prop} : (if false = true then A else B) = B := if_neg Bool.false_ne_true
def isTup : PyData → Bool
  | .tuple _ => true
  | _ => false
def isStr : PyData → Bool
  | .str _ => true
  | _ => false
def isBoo : PyData → Bool
  | .bool _ => true
  | _ => false
def isNum : PyData → Bool
  | .int _ => true
  | .bool _ => true
  | _ => false
def isLst : PyData → Bool
  | .list _ => true
  | _ => false
theorem isi_tup (d : PyData) : isiD "tuple" d = isTup d := by cases d <;> simp only [isiD, tyD, isTup] <;> decide +kernel
theorem isi_strD (d : PyData) : isiD "str" d = isStr d := by cases d <;> simp only [isiD, tyD, isStr] <;> decide +kernel
theorem isi_intD (d : PyData) : isiD "int" d = isNum d := by cases d <;> simp only [isiD, tyD, isNum] <;> decide +kernel
theorem isi_boolD (d : PyData) : isiD "bool" d = isBoo d := by cases d <;> simp only [isiD, tyD, isBoo] <;> decide +kernel
theorem isi_listD (d : PyData) : isiD "list" d = isLst d := by cases d <;> simp only [isiD, tyD, isLst] <;> decide +kernel
theorem atI_zero {α : Type} (x : α) (xs : List α) : atI (x :: xs) (0 : Int) = some x := atI_nat (j := 0) rfl
theorem atI_one {α : Type} (x y : α) (xs : List α) : atI (x :: y :: xs) (1 : Int) = some y := atI_nat (j := 1) rfl
theorem atI_two {α : Type} (x y z : α) (xs : List α) : atI (x :: y :: z :: xs) (2 : Int) = some z := atI_nat (j := 2) rfl
theorem atI_three {α : Type} (x y z u : α) (xs : List α) : atI (x :: y :: z :: u :: xs) (3 : Int) = some u := atI_nat (j := 3) rfl
theorem atI_four {α : Type} (x y z u v : α) (xs : List α) : atI (x :: y :: z :: u :: v :: xs) (4 : Int) = some v := atI_nat (j := 4) rfl
theorem oIx_tup (ds : List PyData) (i : Int) (R : PyData → Prop) : oIx (.tuple ds) (.int i) R = match atI ds i with | some d => R d | none => False := rfl
theorem oIx_lst (ds : List PyData) (i : Int) (R : PyData → Prop) : oIx (.list ds) (.int i) R = match atI ds i with | some d => R d | none => False := rfl
theorem oEq_int (a b : Int) (R : PyData → Prop) : oEq (.int a) (.int b) R = R (.bool (decide (a = b))) := rfl
theorem oEq_str (a b : Str) (R : PyData → Prop) : oEq (.str a) (.str b) R = R (.bool (decide (a = b))) := rfl
theorem oEq_bool (a b : Bool) (R : PyData → Prop) : oEq (.bool a) (.bool b) R = R (.bool (decide (a = b))) := rfl
theorem oEq_nil (ds : List PyData) (R : PyData → Prop) : oEq (.tuple ds) (.tuple []) R = R (.bool ds.isEmpty) := rfl
theorem oNe_int (a b : Int) (R : PyData → Prop) : oNe (.int a) (.int b) R = R (.bool (!decide (a = b))) := rfl
theorem oNe_str (a b : Str) (R : PyData → Prop) : oNe (.str a) (.str b) R = R (.bool (!decide (a = b))) := rfl
theorem oNe_bool (a b : Bool) (R : PyData → Prop) : oNe (.bool a) (.bool b) R = R (.bool (!decide (a = b))) := rfl
theorem oLen_tup (ds : List PyData) (R : PyData → Prop) : oLen (.tuple ds) R = R (.int ds.length) := rfl
theorem oLen_lst (ds : List PyData) (R : PyData → Prop) : oLen (.list ds) R = R (.int ds.length) := rfl
theorem oI_int (g : Int → Int → PyData) (i j : Int) (R : PyData → Prop) : oI g (.int i) (.int j) R = R (g i j) := rfl
theorem oIC_int (C : Int → Int → Prop) (g : Int → Int → PyData) (i j : Int) (R : PyData → Prop) : oIC C g (.int i) (.int j) R = (C i j ∧ R (g i j)) := rfl
theorem oAdd_int (i j : Int) (R : PyData → Prop) : oAdd (.int i) (.int j) R = R (.int (i + j)) := rfl
theorem oAdd_tup (a b : List PyData) (R : PyData → Prop) : oAdd (.tuple a) (.tuple b) R = (a.length + b.length ≤ sizeLine ∧ R (.tuple (a ++ b))) := rfl
theorem oAdd_lst (a b : List PyData) (R : PyData → Prop) : oAdd (.list a) (.list b) R = (a.length + b.length ≤ sizeLine ∧ R (.list (a ++ b))) := rfl
theorem oAdd_str (a b : Str) (R : PyData → Prop) : oAdd (.str a) (.str b) R = (a.length + b.length ≤ sizeLine ∧ R (.str (a ++ b))) := rfl
theorem oLt_int (i j : Int) (R : PyData → Prop) : oLt (.int i) (.int j) R = R (.bool (decide (i < j))) := rfl
theorem oInt_int (i : Int) (R : PyData → Prop) : oInt (.int i) R = R (.int i) := rfl
theorem oInt_bool (b : Bool) (R : PyData → Prop) : oInt (.bool b) R = R (.int (if b then 1 else 0)) := rfl
theorem oIn_tup (neg : Bool) (x : PyData) (ds : List PyData) (R : PyData → Prop) : oIn neg x (.tuple ds) R = (flatD x = true ∧ ds.all flatD = true ∧ R (.bool (if neg then !(ds.any fun z => PyData.eqv z x) else ds.any fun z => PyData.eqv z x))) := rfl
theorem oIn_lst (neg : Bool) (x : PyData) (ds : List PyData) (R : PyData → Prop) : oIn neg x (.list ds) R = (flatD x = true ∧ ds.all flatD = true ∧ R (.bool (if neg then !(ds.any fun z => PyData.eqv z x) else ds.any fun z => PyData.eqv z x))) := rfl
theorem oSl_tup (ds : List PyData) (lo hi : Option Int) (R : PyData → Prop) : oSl (.tuple ds) lo hi R = R (.tuple (cutD ds lo hi)) := rfl
theorem oSl_lst (ds : List PyData) (lo hi : Option Int) (R : PyData → Prop) : oSl (.list ds) lo hi R = R (.list (cutD ds lo hi)) := rfl
theorem cut_from1 (d : PyData) (ds : List PyData) : cutD (d :: ds) (some 1) none = ds := by
  unfold cutD
  have e : HT.sIx (d :: ds).length 0 (some 1) = 1 := by
    have := HT.sIx_nat (d :: ds).length 0 1
    simp only [List.length_cons] at this ⊢
    rw [show (1 : Int) = ((1 : Nat) : Int) from rfl, this]
    omega
  rw [e, HT.sIx_none]
  simp
theorem cut_to (ds : List PyData) (k : Nat) : cutD ds none (some (k : Int)) = ds.take k := by
  unfold cutD
  rw [HT.sIx_none, HT.sIx_nat, List.drop_zero, Nat.sub_zero]
  by_cases h : k ≤ ds.length
  · rw [Nat.min_eq_left h]
  · rw [Nat.min_eq_right (by omega), List.take_of_length_le (Nat.le_refl _), List.take_of_length_le (by omega)]
theorem cut_from (ds : List PyData) (k : Nat) : cutD ds (some (k : Int)) none = ds.drop k := by
  unfold cutD
  rw [HT.sIx_none, HT.sIx_nat]
  by_cases h : k ≤ ds.length
  · rw [Nat.min_eq_left h, List.take_of_length_le (by rw [List.length_drop]; omega)]
  · rw [Nat.min_eq_right (by omega), List.drop_eq_nil_of_le (Nat.le_refl _), List.drop_eq_nil_of_le (by omega)]
    simp
/-- a comprehension without draws: its elements one by one -/
theorem lcGo_map {i : Nat} {fe : FE} {ρ : Rho} {S : SW} {g : PyData → PyData} {T : List PyData → SW → Prop} : ∀ {ds acc : List PyData}, (∀ d ∈ ds, ∀ R : PyData → SW → Prop, R (g d) S → fe (ρ.set i (.dat d)) S R) → T (acc ++ ds.map g) S →
    lcGo (gNm i) (fC (.bool true)) fe ρ ds acc S T
  | [], acc, _, h => by simpa [lcGo] using h
  | d :: ds, acc, he, h => by
    simp only [lcGo, gNm, fC, asB_bool, if_tt]
    refine he d (by simp) _ ?_
    refine lcGo_map (fun d' hd' => he d' (by simp [hd'])) ?_
    simpa using h
theorem map_bool (f : PyData → Bool) (ds : List PyData) : (ds.map fun d => PyData.bool (f d)) = (ds.map f).map PyData.bool := by rw [List.map_map]; rfl
theorem map_int (f : PyData → Int) (ds : List PyData) : (ds.map fun d => PyData.int (f d)) = (ds.map f).map PyData.int := by rw [List.map_map]; rfl
end DL

namespace DL
open PySem PySem.Spec PyProof.Rows L2
/-! ### the end: the defs as the top leaves them, the constants, the script -/
structure Has (K : Fr_) (mg : Str → Option Value) (x : Str) (st : Stmt) (ps : List Str) : Prop where
  ex : ∃ f fd, Fun K x x st f fd ∧ mg x = some (.ref f) ∧ Binds K fd ps [] ∧ (∀ (s : Shared) (ws : List Value), ws.length = ps.length → BindsTo s fd ⟨ws, []⟩ (ps.zip ws)) ∧
    ∀ (s : Shared) (ws : List Value), ws.length = ps.length → BindsTo s fd ⟨[], ps.zip ws⟩ (ps.zip ws)
section
variable {K : Fr_} {h : Heap} {mg : Str → Option Value} {x : Str} {st : Stmt} {ps : List Str}
theorem Has.mk' {f : Addr} {oc : Value} {od an : Option Addr} {osl : Array (Option Value)} {kV doc pm cdv ct : Value} (X : K.In h) (G : h.Ns mainGlobals mg)
    (hb : ∀ (kV doc pm : Value) (an : Option Addr) (cdv ct : Value) (us : List Value), us.length = ps.length → bindArgs (PySem.W.fnOf x x (defArgs st) (defBody st) (defScope st) .none kV doc pm an cdv ct) ⟨us, []⟩ = pure (ps.zip us))
    (hk : ∀ (kV doc pm : Value) (an : Option Addr) (cdv ct : Value) (us : List Value), us.length = ps.length → bindArgs (PySem.W.fnOf x x (defArgs st) (defBody st) (defScope st) .none kV doc pm an cdv ct) ⟨[], ps.zip us⟩ = pure (ps.zip us))
    (a : PySem.W.nsIn K mainGlobals x = some (some (.ref f))) (l : K.lookup f = some ⟨oc, od, .func (PySem.W.fnOf x x (defArgs st) (defBody st) (defScope st) .none kV doc pm an cdv ct), osl⟩) (c : PySem.W.codeIn K cdv x = true) (k : PySem.W.keepIn K (.ref f) = true) : Has K mg x st ps :=
  ⟨f, _, fun_mk l c k, PySem.W.mg_of X G a, (fun_mk l c k).binds hb, fun _ ws e => .of_eq (hb _ _ _ _ _ _ ws e), fun _ ws e => .of_eq (hk _ _ _ _ _ _ ws e)⟩
theorem glob_int {i : Int} {t : Nat} (X : K.In h) (G : h.Ns mainGlobals mg) (a : PySem.W.nsIn K mainGlobals x = some (some (.int i t))) : GlobD K mg x (.int i) :=
  ⟨.int i, _, PySem.W.mg_of X G a, ⟨t, rfl⟩, fun _ _ => by simp only [Rep]⟩
/-- a value of the module that shows data whatever the heap -/
def Fix (K : Fr_) (d : PyData) (u : Value) : Prop := ∃ v, RelV v u ∧ ∀ O H, Rep K O H d v
def Fixs (K : Fr_) (ds : List PyData) (us : List Value) : Prop := ∃ vs, Vals vs us ∧ ∀ O H, Reps K O H ds vs
theorem fix_str {s : Str} {t : Nat} : Fix K (.str s) (.str s t) := ⟨.str s, ⟨t, rfl⟩, fun _ _ => by simp only [Rep]⟩
theorem fix_int {s : Int} {t : Nat} : Fix K (.int s) (.int s t) := ⟨.int s, ⟨t, rfl⟩, fun _ _ => by simp only [Rep]⟩
theorem fixs_nil : Fixs K [] [] := ⟨[], .nil, fun _ _ => by simp only [Reps]⟩
theorem fixs_cons {d : PyData} {ds : List PyData} {u : Value} {us : List Value} (a : Fix K d u) (b : Fixs K ds us) : Fixs K (d :: ds) (u :: us) := by
  obtain ⟨v, h1, h2⟩ := a
  obtain ⟨vs, h3, h4⟩ := b
  exact ⟨v :: vs, .cons h1 h3, fun O H => by simp only [Reps]; exact ⟨v, vs, rfl, h2 O H, h4 O H⟩⟩
theorem fix_tup {p : Addr} {ds : List PyData} {od : Option Addr} {us : List Value} {n : Nat} {sl : Array (Option Value)} (l : K.lookup p = some ⟨.type "tuple", od, .seq us.toArray n, sl⟩) (hs : ds.length ≤ 1000) (hv : Fixs K ds us) : Fix K (.tuple ds) (.ref p) := by
  obtain ⟨vs, h1, h2⟩ := hv
  have e : us.length = ds.length := by rw [← h1.length, (h2 (fun _ => False) fun _ => none).len]
  have z : us.length ≤ sizeLine := by rw [e, sizeLine_eq]; omega
  exact ⟨.ref p, rfl, fun O H => by simp only [Rep]; exact ⟨p, vs, rfl, .inr ⟨_, us.toArray, n, l, rfl, rfl, by simpa using z, by simpa using h1⟩, h2 O H⟩⟩
theorem glob_fix {d : PyData} {u : Value} (X : K.In h) (G : h.Ns mainGlobals mg) (a : PySem.W.nsIn K mainGlobals x = some (some u)) (f : Fix K d u) : GlobD K mg x d := by
  obtain ⟨v, h1, h2⟩ := f
  exact ⟨v, u, PySem.W.mg_of X G a, h1, h2⟩
theorem script_of {O : AS} {H : Hp} {a : Addr} {ns : List Int} (no : ∀ a, ¬ O a) (h : SqL K H a (ns.map V.int)) : Rep K O H (.list (ns.map .int)) (.ref a) := by
  simp only [Rep]
  refine ⟨a, _, rfl, ?_, Reps.of_ints ns⟩
  rcases h with h | h
  · exact .inl ⟨h, no a⟩
  · exact .inr (.inr h)
theorem CalK.of {P : Program} {W : World} {base : Heap} {k n : Nat} {C : Ct} {f : Addr} {fd : FuncData} (F : Pro P W K mg base k f fd ps (spC K n C)) (hk : PySem.W.keepIn K (.ref f) = true) (hm : mg x = some (.ref f)) (hn : ps.length = n)
    (b : ∀ (s : Shared) (ws : List Value), ws.length = ps.length → BindsTo s fd ⟨[], ps.zip ws⟩ (ps.zip ws)) : CalK P W K mg base x k n C ps pmId :=
  ⟨⟨f, fd, ps, F, hk, b, hm⟩, fun _ h => h, fun _ h => h, fun h => by rw [← hn]; exact h⟩
/-- the promise of a law's def: given its script, True -/
def C_true : Ct := fun as S R => ∃ ns : List Int, as = [.dat (.list (ns.map .int))] ∧ ns.length ≤ 63 ∧ R (.bool true) S
theorem law_sp {H : Hp} {a : Addr} {ns : List Int} {E : XK} (hl : ns.length ≤ 63) (h : SqL K H a (ns.map V.int)) : spC K 1 C_true [.ref a] H (fun v _ => v = .bl true) E := by
  refine ⟨fun _ => False, none, [], [.dat (.list (ns.map .int))], fun d _ => d = .bool true, rfl, ?_, fun a z => z.elim, (fun a z => by cases z), (fun a z => by cases z), ⟨ns, rfl, hl, rfl⟩, fun d S' v H' _ _ r e => ?_⟩
  · simp only [Args, ArgRep]
    exact ⟨_, [], rfl, script_of (fun _ z => z) h, rfl⟩
  · subst e
    simpa only [Rep] using r
/-- the heap behind the top with what H tracks put away -/
theorem at_top {P : Program} {w : World} {K : Fr_} {mg mb : Str → Option Value} {s : Shared} {H : Hp} (KX : K.In s.heap) (G : s.heap.Ns mainGlobals mg) (B : s.heap.Ns builtinsNs mb) (BB : ∀ x : Str, x ≠ "__name__" → mb x = bootBuiltins x) (L : s.heap.NoLimit) (gs : s.gens = #[])
    (ok : HOk P w H s.heap) (hK : ∀ b, H b ≠ none → K.lookup b = none) (hD : ∀ b o es ep, s.heap.get? b = some o → o.data = .dict es ep → H b = none) :
    ∃ base : Heap, K.In base ∧ base.Ns mainGlobals mg ∧ Env0 P w K mg base callerA [] s H := by
  have keep : ∀ {b : Addr} {m : Str → Option Value}, s.heap.Ns b m → (hidT s.heap H).Ns b m := by
    rintro b m ⟨o, es, ep, e, d, r⟩
    exact ⟨o, es, ep, hidT_get e (hD b o es ep e d), d, r⟩
  have kin : K.In (hidT s.heap H) := fun b o e => hidT_get (KX b o e) (by
    by_cases z : H b = none
    · exact z
    · rw [hK b z] at e; cases e)
  obtain ⟨mc, l1, l2⟩ := L
  refine ⟨hidT s.heap H, kin, keep G, rfl, ⟨kin, keep G, ⟨mb, keep B, BB⟩, mc, keep l1, l2⟩, fun b o => of_hidT, Nat.le_of_eq (hidT_size _ _), trivial, fun b z => ?_, ok, .of_eq gs⟩
  cases z
theorem law_act {P : Program} {w : World} {K : Fr_} {mg mb : Str → Option Value} {k : Nat} {fa a : Addr} {fd : FuncData} {x : Str} {s : Shared} {vs : List Value} {ns : List Int} (KX : K.In s.heap) (G : s.heap.Ns mainGlobals mg) (B : s.heap.Ns builtinsNs mb) (BB : ∀ x : Str, x ≠ "__name__" → mb x = bootBuiltins x)
    (L : s.heap.NoLimit) (gs : s.gens = #[]) (ha : s.heap.get? a = some { cls := .type "list", data := .seq vs.toArray }) (hi : IntsAre vs ns) (hl : ns.length ≤ 63) (room : Room k callerA) (F : ∀ base : Heap, K.In base → base.Ns mainGlobals mg → Pro P w K mg base k fa fd [x] (spC K 1 C_true))
    (bind : ∀ (s : Shared) (u : Value), BindsTo s fd ⟨[u], []⟩ [(x, u)]) : codeAny (model P w) callerA (.call (.ref fa) ⟨[.ref a], []⟩) (fun r s' => r = .ok (.ret (.bool true)) ∧ OldK s.heap s'.heap ∧ s'.os = s.os ∧ AllBare s'.gens) s := by
  have rv := vals_ints hi
  have small : ns.length ≤ sizeLine := by rw [sizeLine_eq]; omega
  have main : ∀ H : Hp, SqL K H a (ns.map V.int) → HOk P w H s.heap → (∀ b, H b ≠ none → K.lookup b = none) → (∀ b, H b = none ∨ (b = a ∧ H a = some (.frz { cls := .type "list", data := .seq vs.toArray } (.lst (ns.map V.int))))) →
      codeAny (model P w) callerA (.call (.ref fa) ⟨[.ref a], []⟩) (fun r s' => r = .ok (.ret (.bool true)) ∧ OldK s.heap s'.heap ∧ s'.os = s.os ∧ AllBare s'.gens) s := by
    intro H hS ok hK only
    obtain ⟨base, b1, b2, e0⟩ := at_top KX G B BB L gs ok hK fun b o es ep e d => by
      rcases only b with z | ⟨rfl, _⟩
      · exact z
      · rw [ha] at e
        cases e
        exact absurd d (by simp)
    refine codeAny_mono ((F base b1 b2).act (us := [.ref a]) (E := fun _ _ _ => False) rfl room e0 (bind s (.ref a)) (.cons (show RelV (.ref a) (.ref a) from rfl) .nil) (law_sp hl hS)) fun r s' q => ?_
    match r, q with
    | .error e, q => exact q.elim
    | .ok .next, q => exact False.elim q
    | .ok .brk, q => exact False.elim q
    | .ok .cont, q => exact False.elim q
    | .ok (.ret u), ⟨v, H', os, bare, un, ok', rel, q⟩ =>
      replace q : v = .bl true := q
      rw [q] at rel
      cases rel
      refine ⟨rfl, OldK.of_keep fun b o e => ?_, os, bare⟩
      rcases only b with z | ⟨rfl, z⟩
      · exact un.keep b o e z (fun z => by cases z) (by simp)
      · obtain ⟨e1, _⟩ := ok _ _ z
        obtain ⟨e2, _⟩ := ok' _ _ (un.frzs _ _ _ z)
        rw [e] at e1
        cases e1
        exact e2
  by_cases hk : K.lookup a = none
  · refine main (fun b => if b = a then some (.frz { cls := .type "list", data := .seq vs.toArray } (.lst (ns.map V.int))) else none) (.inl (.inr ⟨_, if_pos rfl⟩)) (fun b u z => ?_) (fun b z => ?_) fun b => ?_
    · by_cases e : b = a
      · subst e
        cases (if_pos rfl).symm.trans z
        exact ⟨ha, by rw [List.length_map]; exact small, vs, _, rv, ha⟩
      · cases (if_neg e).symm.trans z
    · by_cases e : b = a
      · rw [e]; exact hk
      · exact absurd (if_neg e) z
    · by_cases e : b = a
      · exact .inr ⟨e, if_pos rfl⟩
      · exact .inl (if_neg e)
  · obtain ⟨o, ho⟩ := Option.ne_none_iff_exists'.mp hk
    have e := KX a o ho
    rw [ha] at e
    cases e
    exact main (fun _ => none) (.inr ⟨_, vs.toArray, _, ho, rfl, rfl, rfl, by rw [List.size_toArray, hi.length]; exact small, by simpa using rv⟩) (fun b u z => by cases z) (fun b z => absurd rfl z) fun b => .inl rfl
/-- the goal that the head leaves -/
theorem law_walk {l : PySem.W.OpenLaw} {q : Program} {loose : List Str} {XP : (Str → Option Value) → Heap → Prop} {YP : World → Heap → Prop} {d : DefRec} {K : Params → PySem.W.Frag} {x : Str} (k : Nat) (hn : l.most = some 63) (hdf : d.params.defaults = []) (hr : Room k callerA)
    (hY : ∀ (w : World) (h : Heap), YP w h → (K w.params).In h) (hst : d.name = "law")
    (F : ∀ (w : World) (mg : Str → Option Value) (fa : Addr) (h : Heap), (K w.params).In h → h.Ns mainGlobals mg → mg "law" = some (.ref fa) →
      ∃ f fd, mg "law" = some (.ref f) ∧ (∀ (s : Shared) (ws : List Value), ws.length = [x].length → BindsTo s fd ⟨ws, []⟩ ([x].zip ws)) ∧ ∀ base : Heap, (K w.params).In base → base.Ns mainGlobals mg → Pro l.prog w (K w.params) mg base k f fd [x] (spC (K w.params) 1 C_true)) :
    PySem.W.WalkO q loose XP YP l.row.toRowW d [] (fun f vs => PySem.call f vs) :=
  Att.attach_call hn hdf fun w s₀ s₁ mg mb fa o pm cd doc a vs ns G Y ho hd hcd hmg hobj hints hlen hg => by
    have KX := hY w _ Y
    rw [hst] at hmg
    obtain ⟨f, fd, e, b, ok⟩ := F w mg fa _ KX G.T.g hmg
    cases hmg.symm.trans e
    exact law_act KX G.T.g G.T.b G.T.builtins G.T.nolimit hg hobj hints hlen hr ok fun s u => b s [u] rfl
end
end DL

namespace DL
open PySem PySem.Spec PyProof.Rows L2
/-! ### truths among ints -/
def bI (b : Bool) : Int := if b = true then 1 else 0
def rMix (g : Int → Int → Int) : R2 := fun x y H Q => (∃ a b, x = .bl a ∧ y = .bl b ∧ Q (.int (g (bI a) (bI b))) H) ∨ (∃ a j, x = .bl a ∧ y = .int j ∧ Q (.int (g (bI a) j)) H) ∨ (∃ i b, x = .int i ∧ y = .bl b ∧ Q (.int (g i (bI b))) H)
section
variable {X : Cx}
theorem op_mix {op : Operator} {g : Int → Int → Int}
    (bb : ∀ (s : Shared) (Q E : Value → Shared → Prop) (a b : Bool), Q (.int (g (bI a) (bI b)) s.toks) { s with toks := s.toks + 1 } → wpAny (model X.prog X.w) X.A (binaryOp op (.bool a) (.bool b)) Q E s)
    (bi : ∀ (s : Shared) (Q E : Value → Shared → Prop) (a : Bool) (j : Int) (u : Tok), Q (.int (g (bI a) j) s.toks) { s with toks := s.toks + 1 } → wpAny (model X.prog X.w) X.A (binaryOp op (.bool a) (.int j u)) Q E s)
    (ib : ∀ (s : Shared) (Q E : Value → Shared → Prop) (i : Int) (t : Tok) (b : Bool), Q (.int (g i (bI b)) s.toks) { s with toks := s.toks + 1 } → wpAny (model X.prog X.w) X.A (binaryOp op (.int i t) (.bool b)) Q E s) : OpR X (binaryOp op) (rMix g) := by
  rintro pins s σ H x y v u Q I rx ry (⟨a, b, rfl, rfl, q⟩ | ⟨a, j, rfl, rfl, q⟩ | ⟨i, b, rfl, rfl, q⟩)
  · cases rx; cases ry
    exact bb s _ _ a b ⟨.int _, H, I.tok _, ⟨_, rfl⟩, q⟩
  · cases rx
    obtain ⟨t, rfl⟩ := ry
    exact bi s _ _ a j t ⟨.int _, H, I.tok _, ⟨_, rfl⟩, q⟩
  · cases ry
    obtain ⟨t, rfl⟩ := rx
    exact ib s _ _ i t b ⟨.int _, H, I.tok _, ⟨_, rfl⟩, q⟩
theorem op_addX : OpR X (binaryOp .Add) (rMix (· + ·)) := op_mix (fun _ _ _ _ _ q => add_bool q) (fun _ _ _ _ _ _ q => IntBool.add_bool_int q) (fun _ _ _ _ _ _ q => add_int_bool q)
theorem op_subX : OpR X (binaryOp .Sub) (rMix (· - ·)) := op_mix (fun _ _ _ _ _ q => sub_bool q) (fun _ _ _ _ _ _ q => IntBool.sub_bool_int q) (fun _ _ _ _ _ _ q => IntBool.sub_int_bool q)
theorem op_mulX : OpR X (binaryOp .Mult) (rMix (· * ·)) := op_mix (fun _ _ _ _ _ q => mul_bool q) (fun _ _ _ _ _ _ q => IntBool.mul_bool_int q) (fun _ _ _ _ _ _ q => IntBool.mul_int_bool q)
end
/-- a truth and an int, in any order -/
def oMix (g : Int → Int → Int) (o : O2) : O2 := fun x y R => match x, y with
  | .bool a, .bool b => R (.int (g (bI a) (bI b)))
  | .bool a, .int j => R (.int (g (bI a) j))
  | .int i, .bool b => R (.int (g i (bI b)))
  | x, y => o x y R
section
variable {K : Fr_}
theorem sMix {g : Int → Int → Int} {r : R2} {o : O2} (s : OpS K r o) : OpS K (fun x y H Q => rMix g x y H Q ∨ r x y H Q) (oMix g o) := ⟨fun {O w H x y vx vy R Q} ol rx ry h k => by
  unfold oMix at h
  split at h
  · exact .inl (.inl ⟨_, _, rx.bool, ry.bool, k _ _ H (Same.refl H) (by simp only [Rep]) h⟩)
  · exact .inl (.inr (.inl ⟨_, _, rx.bool, ry.int, k _ _ H (Same.refl H) (by simp only [Rep]) h⟩))
  · exact .inl (.inr (.inr ⟨_, _, rx.int, ry.bool, k _ _ H (Same.refl H) (by simp only [Rep]) h⟩))
  · exact .inr (s.run ol rx ry h k)⟩
abbrev oAddM : O2 := oMix (· + ·) oAdd
abbrev oSubM : O2 := oMix (· - ·) (oI fun i j => .int (i - j))
abbrev oMulM : O2 := oMix (· * ·) (oIC CMulA fun i j => .int (i * j))
end
section
variable {X : Cx} {a b : Expr} {fa fb : FE} {pos : Pos}
theorem d_addM (ha : PE X a (rb X.K fa)) (hb : PE X b (rb X.K fb)) : PE X (.BinOp a .Add b pos) (rd X.K (fOp oAddM fa fb)) := d_bin (op_addX.or op_addAll) (sMix sAdd) ha hb
theorem d_subM (ha : PE X a (rb X.K fa)) (hb : PE X b (rb X.K fb)) : PE X (.BinOp a .Sub b pos) (rd X.K (fOp oSubM fa fb)) := d_bin (op_subX.or op_sub) (sMix sInt) ha hb
theorem d_mulM (ha : PE X a (rb X.K fa)) (hb : PE X b (rb X.K fb)) : PE X (.BinOp a .Mult b pos) (rd X.K (fOp oMulM fa fb)) := d_bin (op_mulX.or op_mulA) (sMix sIntC) ha hb
end
/-! ### repr and str -/
def rReprG (K : Fr_) : List V → Hp → VK → Prop := fun xs H Q => rReprS xs H Q ∨ ∃ a d, xs = [.ref a] ∧ Dp K H (.ref a) d ∧ d.canLay0 = true ∧ d.showable = true ∧ d.depth ≤ 60 ∧ d.shown.length ≤ sizeLine ∧ Q (.str d.shown) H
theorem call_reprG {X : Cx} {k : Nat} (hr : RoomG k X.A) : CallR X (.builtin "repr") (rReprG X.K) := by
  rintro pins s σ H xs us Q I r (h | ⟨a, d, rfl, hd, hc, hs, hdp, hz, q⟩)
  · exact call_reprD pins s σ H xs us Q I r h
  · obtain ⟨u, rfl, ru⟩ := vals1 r
    obtain ⟨as, rr⟩ := Dp.reads I d _ u hd ru
    cases ru
    refine repr_of_reads' rr hs (PyData.noDict_hsm (PyData.hasDict_of_canLay d hc)) hr.quiet (by have := hr.room.un; omega) (fun _ _ e => e) (fun h' u tk keep => ?_) hz
    exact ⟨.str _, H, I.kept keep, ⟨_, rfl⟩, q⟩
def showOk (d : PyData) : Prop := d.canLay0 = true ∧ d.showable = true ∧ d.depth ≤ 60 ∧ d.shown.length ≤ sizeLine
def oReprG : O1 := fun x R => match x with
  | .list ds => showOk (.list ds) ∧ R (.str (PyData.list ds).shown)
  | .tuple ds => showOk (.tuple ds) ∧ R (.str (PyData.tuple ds).shown)
  | x => oRepr x R
theorem sReprG {K : Fr_} : UnS K (t1 (rReprG K)) oReprG := ⟨fun {O w H x vx R Q} ol rx h k => by
  unfold oReprG at h
  split at h
  · obtain ⟨⟨c, s, dp, z⟩, q⟩ := h
    have hd := rx.dp c
    obtain ⟨p, vs, rfl, _⟩ := rx.lst
    exact .inr ⟨p, _, rfl, hd, c, s, dp, z, k _ _ H (Same.refl H) (by simp only [Rep]) q⟩
  · obtain ⟨⟨c, s, dp, z⟩, q⟩ := h
    have hd := rx.dp c
    obtain ⟨p, vs, rfl, _⟩ := rx.tup
    exact .inr ⟨p, _, rfl, hd, c, s, dp, z, k _ _ H (Same.refl H) (by simp only [Rep]) q⟩
  · exact .inl (sRepr.run ol rx h k)⟩
def rStrS : List V → Hp → VK → Prop := fun xs H Q => (∃ b, xs = [.bl b] ∧ Q (.str (if b then "True" else "False")) H) ∨ (∃ i, xs = [.int i] ∧ i.natAbs.log2 < 1920 ∧ Q (.str (toString i)) H) ∨ ∃ a, xs = [.str a] ∧ Q (.str a) H
theorem call_strD {X : Cx} : CallR X (.type "str") rStrS := by
  rintro pins s σ H xs us Q I r (⟨b, rfl, q⟩ | ⟨i, rfl, hz, q⟩ | ⟨a, rfl, q⟩)
  · obtain ⟨u, rfl, ru⟩ := vals1 r
    cases ru
    exact PySem.P.str_of_bool ⟨.str _, H, I.tok _, ⟨_, rfl⟩, q⟩
  · exact call_str_int pins s σ H _ us Q I r ⟨i, rfl, hz, q⟩
  · exact SkE.call_str_str pins s σ H _ us Q I r ⟨a, rfl, q⟩
def oStr : O1 := fun x R => match x with
  | .bool b => R (.str (if b then "True" else "False"))
  | .int i => i.natAbs.log2 < 1920 ∧ R (.str (toString i))
  | .str a => R (.str a)
  | _ => False
theorem sStr {K : Fr_} : UnS K (t1 rStrS) oStr := ⟨fun {O w H x vx R Q} ol rx h k => by
  unfold oStr at h
  split at h
  · have e := rx.bool
    subst e
    exact .inl ⟨_, rfl, k _ _ H (Same.refl H) (by simp only [Rep]) h⟩
  · have e := rx.int
    subst e
    exact .inr (.inl ⟨_, rfl, h.1, k _ _ H (Same.refl H) (by simp only [Rep]) h.2⟩)
  · have e := rx.str
    subst e
    exact .inr (.inr ⟨_, rfl, k _ _ H (Same.refl H) (by simp only [Rep]) h⟩)
  · exact h.elim⟩
end DL

namespace DL
open PySem PySem.Spec PyProof.Rows L2 HT
/-! ### xs[::-1] -/
section
variable {prog : Program} {w : World} {A : Around} {E : Value → Shared → Prop} {s : Shared}
theorem back_places (n : Nat) : Builtin.Slice.slicePlaces ((n : Int) - 1) (-1) (-1) = n := by
  unfold Builtin.Slice.slicePlaces
  rw [if_neg (by decide)]
  split
  · rw [show (- -1 : Int) = 1 by decide, Int.ediv_one]
    omega
  · omega
theorem back_pick (xs : Array Value) : ((List.range xs.size).filterMap fun (m : Nat) => xs[(((xs.size : Int) - 1) + (m : Int) * -1).toNat]?).toArray = xs.toList.reverse.toArray := by
  have e : (List.range xs.size).filterMap (fun (m : Nat) => xs[(((xs.size : Int) - 1) + (m : Int) * -1).toNat]?) = ((List.range xs.size).map fun k => xs.size - 1 - k).filterMap (xs[·]?) := by
    rw [List.filterMap_map]
    refine congrArg (fun f => List.filterMap f (List.range xs.size)) (funext fun m => ?_)
    have : (((xs.size : Int) - 1) + (m : Int) * -1).toNat = xs.size - 1 - m := by omega
    rw [this]
    rfl
  rw [e, PySem.W.krv_range, List.filterMap_reverse, PySem.W.krv_all]
theorem applied_back {sl : Addr} {u : Tok} {n : Nat} {Q : Int × Int × Nat → Shared → Prop} (hs : s.heap.IsSliceOf sl .none .none (.int (-1) u)) (h : Q ((n : Int) - 1, -1, n) s) :
    wpAny (model prog w) A (Builtin.Slice.sliceApplied (.ref sl) (pure (n : Int))) Q E s := by
  obtain ⟨os, hos, hcs, hds⟩ := id hs
  unfold Builtin.Slice.sliceApplied Builtin.Slice.sliceFields
  refine wpAny_bind (wpAny_bind (wpAny_field hos hds (x := .none) rfl (wpAny_bind (wpAny_field hos hds (x := .none) rfl (wpAny_bind (wpAny_field hos hds (x := .int (-1) u) rfl (wpAny_pure ?_)))))))
  refine wpAny_bind (slicePart_int ?_)
  show wpAny _ _ (if ((-1 : Int) == 0) = true then _ else _) _ _ s
  rw [if_neg (by decide)]
  refine wpAny_bind (slicePart_none (wpAny_bind (slicePart_none (wpAny_bind (wpAny_pure ?_)))))
  show wpAny _ _ (pure ((n : Int) - 1, (-1 : Int), Builtin.Slice.slicePlaces ((n : Int) - 1) (-1) (-1))) _ _ s
  rw [back_places]
  exact wpAny_pure h
theorem tuple_back {t sl : Addr} {items : Array Value} {u : Tok} {Q : Value → Shared → Prop} (ht : IsTup s.heap t items) (hs : s.heap.IsSliceOf sl .none .none (.int (-1) u))
    (h : Q (.ref s.heap.objs.size) { s with heap := s.heap.push { cls := .type "tuple", data := .seq items.toList.reverse.toArray } }) (hsz : items.size ≤ sizeLine) : wpAny (model prog w) A (getItem (.ref t) (.ref sl)) Q E s := by
  have fit : sizeOk (.seq items.toList.reverse.toArray) := by
    show items.toList.reverse.toArray.size ≤ sizeLine
    rw [List.size_toArray, List.length_reverse, Array.length_toList]
    exact hsz
  obtain ⟨os, hos, hcs, hds⟩ := id hs
  have hTs : s.TypeIs (.ref sl) "slice" := ⟨os, hos, hcs⟩
  unfold getItem
  try with_reducible refine wpAny_holding ?_
  first | refine wpAny_bind (wpAny_pure ?_) | skip
  refine wpAny_bind (wpAny_sequenceKey ht.typeIs (by decide) (wpAny_bind (wpAny_callSpecial?_slot (name := Str.ofString "__getitem__") ht.typeIs PyProof.Rows.slot_tuple_getitem
    (wpAny_call_entry PyProof.Rows.slot_tuple_getitem ht.typeIs entry_tuple_getitem ?_ (args_tuple_getitem _ _)))))
  show wpAny _ _ (Builtin.Tuple.tupleItemsOf (.ref t) >>= _) _ _ s
  refine wpAny_bind (tupleItemsOf_ ht (wpAny_bind (wpAny_typeOf hTs ?_)))
  rw [if_pos (by decide)]
  refine wpAny_bind (applied_back hs ?_)
  show wpAny _ _ (if (((items.size : Int) - 1) == 0 && (-1 : Int) == 1 && items.size == items.size) = true then _ else _) _ _ s
  rw [if_neg (by simp), back_pick]
  first
    | exact wpAny_bind (m := Builtin.Tuple.tupleExact _) (wpAny_newObj_type (wpAny_pure ⟨_, rfl, wpAny_pure h⟩) fit)
    | exact wpAny_bind (m := Builtin.Tuple.tupleExact _) (wpAny_newObj_type (wpAny_bind (wpAny_pure (wpAny_pure ⟨_, rfl, wpAny_pure h⟩))) fit)
    | exact wpAny_bind (wpAny_bind (m := Builtin.Tuple.tupleExact _) (wpAny_newObj_type (wpAny_pure (wpAny_pure ⟨_, rfl, wpAny_pure h⟩)) fit))
    | exact wpAny_bind (wpAny_bind (m := Builtin.Tuple.tupleExact _) (wpAny_newObj_type (wpAny_pure ⟨_, rfl, wpAny_pure h⟩) fit))
end
section
variable {X : Cx} {e : Expr} {pos p2 p3 p4 : Pos} {j : Nat} {te : TE} {f : FE}
def tBack (K : Fr_) (te : TE) : TE := fun σ H Q => te σ H fun x H1 => ∃ a xs, x = .ref a ∧ ((SqT K H1 a xs ∧ ∀ p, H1 p = none → Q (.ref p) (upd H1 p (.tup xs.reverse))) ∨ (SqL K H1 a xs ∧ ∀ p, H1 p = none → Q (.ref p) (upd H1 p (.lst xs.reverse))))
theorem pe_back (he : PE X e te) : PE X (.Subscript e (.Slice none none (some (.UnaryOp .USub (.Constant (.int 1) j p3) p4)) p2) pos) (tBack X.K te) := by
  refine ⟨fun pins s σ H Q I h => Subscript_ (thn (he.run pins s σ H _ I h) fun v s1 ⟨x, H1, I1, r1, q1⟩ => ?_)⟩
  have step : PE X (.UnaryOp .USub (.Constant (.int 1) j p3) p4) _ := pe_un un_neg pe_int
  refine wpAny_Slice ?_
  rw [evalPart_none]
  refine wpAny_pure (wpAny_pure ?_)
  rw [evalPart_some]
  refine thn (step.run pins s1 σ H1 (fun x H' => x = .int (-1) ∧ H' = H1) I1 ⟨1, rfl, rfl, rfl⟩) ?_
  rintro u s2 ⟨y, H2, I2, ry, rfl, rfl⟩
  obtain ⟨t, rfl⟩ := ry
  have I3 : Inv X pins σ H2 { s2 with heap := s2.heap.push { cls := .type "slice", data := .fields #[.none, .none, .int (-1) t] } } := I2.kept (t' := s2.toks) fun b ob q => Heap.get?_push_of_some _ q
  obtain ⟨a, xs, rfl, q | q⟩ := q1
  · obtain ⟨hx, q⟩ := q
    cases r1
    obtain ⟨its, r, ht, hz⟩ := I3.tuple hx
    have hl := r.length
    refine tail_any (T := "tuple") (ops := [.ref a, .ref s2.heap.objs.size]) ht.typeIs PyProof.Rows.slot_tuple_getitem.lookup ?_ (by with_unfolding_all rfl)
    refine tuple_back ht (Heap.IsSliceOf.new ..) ?_ (by rw [List.size_toArray, ← hl]; exact hz)
    refine ⟨.ref _, _, I3.laid (t' := s2.toks) (o := .tup xs.reverse) (fun b ob q => Heap.get?_push_of_some _ q) (Nat.le_refl _) ?_, rfl, q _ (I3.hok.fresh (Nat.le_refl _))⟩
    exact ⟨by rw [List.length_reverse]; exact hz, _, r.reverse, IsTup.new _ _⟩
  · obtain ⟨hx, q⟩ := q
    cases r1
    obtain ⟨its, r, ht, hz⟩ := I3.list hx
    have hl := r.length
    refine tail_any (T := "list") (ops := [.ref a, .ref s2.heap.objs.size]) ht.isList.typeIs slot_list_getitem.lookup ?_ (by with_unfolding_all rfl)
    refine wpAny_getItem_list_slice ht.isList (Heap.IsSliceOf.new ..) .none .none (.int (-1) t) (by simp) ?_ (by rw [List.size_toArray, ← hl]; exact hz)
    rw [PySem.W.krv_pick]
    refine ⟨.ref _, _, I3.laid (t' := s2.toks) (o := .lst xs.reverse) (fun b ob q => Heap.get?_push_of_some _ q) (Nat.le_refl _) ?_, rfl, q _ (I3.hok.fresh (Nat.le_refl _))⟩
    exact ⟨by rw [List.length_reverse]; exact hz, _, 0, r.reverse, Heap.get?_push_size _ rfl⟩
theorem Reps.back {K : Fr_} {O : AS} {H : Hp} : ∀ {ds : List PyData} {vs : List V}, Reps K O H ds vs → Reps K O H ds.reverse vs.reverse
  | [], _, h => by simp only [Reps] at h; subst h; simp [Reps]
  | d :: ds, _, h => by
    simp only [Reps] at h
    obtain ⟨v, r, rfl, h1, h2⟩ := h
    rw [List.reverse_cons, List.reverse_cons]
    exact (Reps.back h2).app (by simp only [Reps]; exact ⟨v, [], rfl, h1, rfl⟩)
def oBack : O1 := fun x R => match x with
  | .tuple ds => R (.tuple ds.reverse)
  | .list ds => R (.list ds.reverse)
  | _ => False
theorem d_back (he : PE X e (rb X.K f)) : PE X (.Subscript e (.Slice none none (some (.UnaryOp .USub (.Constant (.int 1) j p3) p4)) p2) pos) (rd X.K (fUn oBack f)) := PE.imp (pe_back he) fun σ H Q ⟨Oc, w, ρ, S, R, ev, hf, k⟩ =>
  ⟨Oc, w, ρ, S, _, ev, hf, fun d S1 v H1 ev1 g1 r h1 => by
    unfold oBack at h1
    split at h1
    · obtain ⟨p, vs, rfl, q1, r1⟩ := r.tup
      exact ⟨p, vs, rfl, .inl ⟨q1, fun t ht => k _ S1 _ _ (ev1.same (Same.new ht)) (g1.trans (Gr.of (Same.new ht))) (rep_tup ev1.Ool ht r1.back) h1⟩⟩
    · obtain ⟨p, vs, rfl, q1, r1⟩ := r.lst
      exact ⟨p, vs, rfl, .inr ⟨q1, fun t ht => k _ S1 _ _ (ev1.same (Same.new ht)) (g1.trans (Gr.of (Same.new ht))) (rep_lst ev1.Ool ht r1.back) h1⟩⟩
    · exact h1.elim⟩
end
end DL
namespace DL
open PySem PySem.Spec PyProof.Rows L2
/-! ### {'A': 1}; calls by keywords in another order -/
section
variable {X : Cx} {pos p1 p2 : Pos} {k : Str} {i : Int} {j j2 : Nat}
theorem d_dict1 : PE X (.Dict [some (.Constant (.str k) j p1)] [.Constant (.int i) j2 p2] pos) (rd X.K (fC (.dict [(.str k, .int i)]))) :=
  PE.imp (pe_disp (pps_cons pe_str pe_int pps_nil) rfl rfl (by simp) (by simp)) fun σ H Q ⟨Oc, w, ρ, S, R, ev, hf, kk⟩ => by
    intro p hp
    refine ⟨upd_same, [(.inr k, .int i)], rfl, by simp, ?_⟩
    have e : upd (upd H p (.dK [])) p (.dK (mergeK [] [(.inr k, .int i)])) = upd H p (.dK [(.inr k, .int i)]) := by
      funext a
      by_cases z : a = p
      · subst z
        rw [upd_same, upd_same]
        rfl
      · rw [upd_ne z, upd_ne z, upd_ne z]
    show Q (.ref p) (upd (upd H p (.dK [])) p (.dK (mergeK [] [(.inr k, .int i)])))
    rw [e]
    refine kk (.dict [(.str k, .int i)]) S (.ref p) _ (ev.same (Same.new hp)) (Gr.of (Same.new hp)) ?_ hf
    simp only [Rep, Repd]
    exact ⟨p, _, rfl, ⟨.inl upd_same, ev.Ool.away hp⟩, .inr k, .int i, [], rfl, rfl, rfl, rfl⟩
end
def pm10 {α : Type} (l : List α) : List α := match l with | [a, b] => [b, a] | l => l
def pm120 {α : Type} (l : List α) : List α := match l with | [a, b, c] => [b, c, a] | l => l
section
variable {P : Program} {W : World} {K : Fr_} {mg : Str → Option Value} {base : Heap} {x : Str} {st : Stmt} {f : Addr} {fd : FuncData} {ps ks : List Str} {k n : Nat} {C : Ct}
theorem Fun.kw {pm : {α : Type} → List α → List α} (F : Fun K x x st f fd)
    (h : ∀ (kV doc pmv : Value) (an : Option Addr) (cdv ct : Value) (us : List Value), us.length = ks.length → bindArgs (PySem.W.fnOf x x (defArgs st) (defBody st) (defScope st) .none kV doc pmv an cdv ct) ⟨[], ks.zip us⟩ = pure (ps.zip (pm us))) :
    ∀ (s : Shared) (ws : List Value), ws.length = ks.length → BindsTo s fd ⟨[], ks.zip ws⟩ (ps.zip (pm ws)) := by
  obtain ⟨oc, od, kV, doc, pmv, an, cdv, ct, osl, rfl, lk, hcd⟩ := F.ex
  exact fun s ws e => .of_eq (h _ _ _ _ _ _ ws e)
theorem CalK.of10 (F : Pro P W K mg base k f fd ps (spC K 2 C)) (hk : PySem.W.keepIn K (.ref f) = true) (hm : mg x = some (.ref f)) (h2 : ks.length = 2)
    (b : ∀ (s : Shared) (ws : List Value), ws.length = ks.length → BindsTo s fd ⟨[], ks.zip ws⟩ (ps.zip (pm10 ws))) : CalK P W K mg base x k 2 C ks pm10 := by
  refine ⟨⟨f, fd, ps, F, hk, b, hm⟩, fun {vs us} hl r => ?_, fun {O w H as vs} hl r => ?_, fun {as} hl => ?_⟩
  · rw [h2] at hl
    match vs, us, r, hl with
    | [_, _], _, .cons r1 (.cons r2 .nil), _ => exact .cons r2 (.cons r1 .nil)
  · rw [h2] at hl
    match as, hl with
    | [a, b], _ =>
      simp only [Args] at r
      obtain ⟨v, _, rfl, r1, v2, _, rfl, r2, rfl⟩ := r
      simp only [pm10, Args]
      exact ⟨v2, [v], rfl, r2, v, [], rfl, r1, rfl⟩
  · rw [h2] at hl
    match as, hl with
    | [_, _], _ => rfl
theorem CalK.of120 (F : Pro P W K mg base k f fd ps (spC K 3 C)) (hk : PySem.W.keepIn K (.ref f) = true) (hm : mg x = some (.ref f)) (h2 : ks.length = 3)
    (b : ∀ (s : Shared) (ws : List Value), ws.length = ks.length → BindsTo s fd ⟨[], ks.zip ws⟩ (ps.zip (pm120 ws))) : CalK P W K mg base x k 3 C ks pm120 := by
  refine ⟨⟨f, fd, ps, F, hk, b, hm⟩, fun {vs us} hl r => ?_, fun {O w H as vs} hl r => ?_, fun {as} hl => ?_⟩
  · rw [h2] at hl
    match vs, us, r, hl with
    | [_, _, _], _, .cons r1 (.cons r2 (.cons r3 .nil)), _ => exact .cons r2 (.cons r3 (.cons r1 .nil))
  · rw [h2] at hl
    match as, hl with
    | [a, b, c], _ =>
      simp only [Args] at r
      obtain ⟨v, _, rfl, r1, v2, _, rfl, r2, v3, _, rfl, r3, rfl⟩ := r
      simp only [pm120, Args]
      exact ⟨v2, [v3, v], rfl, r2, v3, [v], rfl, r3, v, [], rfl, r1, rfl⟩
  · rw [h2] at hl
    match as, hl with
    | [_, _, _], _ => rfl
end
end DL

namespace DL
open PySem PySem.Spec PyProof.Rows L2
/-! ### enumerate of a tuple -/
theorem meets_enum1 {v : Value} {o : Obj} {H : Heap → Prop} (B : Begins v o H) :
    Meets (Builtin.«enumerate.__new__» ⟨[.type "enumerate", v], []⟩) (fun _ R s => H s.heap ∧
      R (.ok (.ret (.ref (s.heap.push o).objs.size))) { s with heap := (s.heap.push o).push { cls := .type "enumerate", data := .fields #[.none, .bool false, .ref s.heap.objs.size, rawInt 0, .none, .none] } }) :=
  .of_wp fun prog w A R s h => by
    obtain ⟨hp, g, d, tk, os⟩ := s; obtain ⟨h1, h⟩ := h
    have hsub := sub_enumerate
    have q1 : ∀ {A' : Around} {E : Value → Shared → Prop} {Q : Value → Shared → Prop}, Q (.ref hp.objs.size) ⟨hp.push o, g, d, tk, os⟩ → wpAny (model prog w) A' (pyIter v) Q E ⟨hp, g, d, tk, os⟩ :=
      fun q => B.iter prog w _ _ ⟨hp, g, d, tk, os⟩ _ h1 q
    wp_walk using q1
    refine wpAny_stack_any fun st => wpAny_pure ?_
    split
    · rename_i c _ _ _ _ _
      cases (c == Value.type "enumerate")
      · wp_walk using q1
        exact ⟨_, rfl, h⟩
      · wp_walk using q1
        exact ⟨_, rfl, h⟩
    · wp_walk using q1
      exact ⟨_, rfl, h⟩
theorem enum_begins1 {prog : Program} {w : World} {A : Around} {E : Value → Shared → Prop} {s : Shared} {v : Value} {o : Obj} {H : Heap → Prop} {Q : Value → Shared → Prop} (B : Begins v o H) (h1 : H s.heap)
    (h : ∀ h', IsEnum h' (s.heap.objs.size + 1) s.heap.objs.size 0 .none → h'.get? s.heap.objs.size = some o → h'.objs.size = s.heap.objs.size + 2 →
      (∀ b o, s.heap.get? b = some o → h'.get? b = some o) → Q (.ref (s.heap.objs.size + 1)) { s with heap := h' }) :
    wpAny (model prog w) A (call (.type "enumerate") [v]) Q E s := by
  refine callType_new F.called_enumerate (by decide) (F.typeCall_enumerate_1 _) (F.newCall_enumerate_1 _) (fun obj => F.args_object_init_2 obj _) F.entry_enumerate_new
    (meets_enum1 B) ⟨h1, ?_⟩
  have hz : (s.heap.push o).objs.size = s.heap.objs.size + 1 := Heap.size_push ..
  show _ ∧ _
  rw [hz]
  have he : IsEnum ((s.heap.push o).push { cls := .type "enumerate", data := .fields #[.none, .bool false, .ref s.heap.objs.size, rawInt 0, .none, .none] }) (s.heap.objs.size + 1) s.heap.objs.size 0 .none := by
    have := Heap.get?_push_size (s.heap.push o) (o := { cls := .type "enumerate", data := .fields #[.none, .bool false, .ref s.heap.objs.size, rawInt 0, .none, .none] }) rfl
    rw [hz] at this; exact this
  refine ⟨⟨_, he, rfl⟩, h _ he (Heap.get?_push_of_some _ (Heap.get?_push_size _ B.free)) (by rw [Heap.size_push, hz]) fun b o x => Heap.get?_push_of_some _ (Heap.get?_push_of_some _ x)⟩
theorem pyNext_enumT_end {prog : Program} {w : World} {A : Around} {E : Value → Shared → Prop} {s : Shared} {e it l : Addr} {i : Nat} {items : Array Value} {old : Value} {Q : Option Value → Shared → Prop} (hh : A.handled = none)
    (he : IsEnum s.heap e it i old) (hit : s.heap.IsTupleIter it l i) (hl : s.heap.IsTuple l items) (hx : items[i]? = none)
    (hQ : ∀ h', Heap.ExtBut it s.heap h' → Q none { s with heap := h' }) : wpAny (model prog w) A (pyNext (.ref e)) Q E s := by
  have hT : s.TypeIs (.ref e) "enumerate" := ⟨_, he, rfl⟩
  unfold pyNext
  refine wpAny_bind (wpAny_attempt (wpAny_callSpecial?_slot (name := Str.ofString "__next__") hT F.slot_enumerate_next
    (wpAny_call_entry F.slot_enumerate_next hT F.entry_enumerate_next ?_ (F.args_enumerate_next_1 _))))
  show wpAny _ _ (field (.ref e) 2 >>= _) _ _ _
  refine wpAny_bind (wpAny_field he rfl (x := .ref it) rfl ?_)
  refine wpAny_bind (wpAny_nextOf_tuple_end hh hit hl hx fun h' x he' hx' => ?_)
  obtain ⟨o, ho, hc⟩ := hx'
  refine wpAny_bind (wpAny_isInstance (T := "StopIteration") (b := true) ⟨o, ho, hc⟩ isSubtype_stop ?_)
  exact wpAny_pure (hQ _ he')
def IteT (K : PySem.W.Frag) (a : Addr) : It :=
  ⟨fun i H => ∃ (xs : List V) (x : V), SqT K H a xs ∧ xs[i]? = some x, fun i H v H' => ∃ T x, v = .ref T ∧ H T = none ∧ H' = upd H T (.tup [.int (i : Nat), x]) ∧ ∀ xs, SqT K H a xs → xs[i]? = some x, fun i H => ∃ xs : List V, SqT K H a xs ∧ xs.length ≤ i⟩
theorem turn_enumT {P : Program} {w : World} {K : PySem.W.Frag} {elts : List Expr} {kk : Nat} {tpos : Pos} {a e it : Addr} (hne : e ≠ it) (h1 : a ≠ it) (h2 : a ≠ e) :
    Turn P w K (.Tuple elts kk tpos) (IteT K a) [e, it] e (fun i h => (∃ old, IsEnum h e it ((i : Nat) : Int) old) ∧ h.IsTupleIter it a i) where
  mem := by simp
  obj := fun i h st b hb => by
    obtain ⟨⟨old, he⟩, ⟨o, ho, hc, hd⟩⟩ := st
    have e' : b = e ∨ b = it := by simpa using hb
    rcases e' with z | z
    · rw [z]; exact ⟨_, he, fun v q => nomatch q⟩
    · rw [z]; exact ⟨o, ho, fun v q => by rw [hd] at q; cases q⟩
  keep := fun i h h' st k => let ⟨⟨old, he⟩, hi⟩ := st; ⟨⟨old, k e (by simp) _ he⟩, hi.at fun o q => k it (by simp) o q⟩
  item := by
    intro X hP hw hK hc i pins s σ H E I hf st hg
    subst hP hw hK
    obtain ⟨⟨old, he⟩, hit⟩ := st
    obtain ⟨xs, x, hq, hx⟩ := hg
    obtain ⟨its, rv, p, hz⟩ := I.tuple hq
    obtain ⟨u, hu, ru⟩ := rv.get hx
    have hel : e < s.heap.objs.size := Heap.lt_size he
    have hil : it < s.heap.objs.size := by obtain ⟨_, q, _⟩ := hit; exact Heap.lt_size q
    have hlt : i < its.length := (List.getElem?_eq_some_iff.mp hu).1
    have hh : X.A.in1.handled = none := I.ok.hd hc
    refine wpAny_pyNext_enum_itemD (Draws.tuple hh it a h1 its.toArray) he ⟨hit, p⟩ (by simpa using hlt) hne (by simp [hne, Ne.symm h2]) fun u' h' tk hu' ho hst' hT hsz hk => ?_
    have eu : u' = u := by
      have : its.toArray[i]? = some u' := hu'
      rw [List.getElem?_toArray, hu] at this
      exact (Option.some.inj this).symm
    subst eu
    refine ⟨_, rfl, wpAny_letOwnedTupleGo_enum (s := { s with heap := h', toks := tk + 1 }) ho fun h'' he' sb => ?_⟩
    have hT2 : h''.get? s.heap.objs.size = some { cls := .type "tuple", data := .seq #[.int i tk, u'] } := (sb.2 _ (Nat.ne_of_gt hel)).trans hT
    have new : ObjOk X.prog X.w (upd H s.heap.objs.size (.tup [.int (i : Nat), x])) h'' s.heap.objs.size (.tup [.int (i : Nat), x]) :=
      ⟨by show 2 ≤ sizeLine; decide, [.int i tk, u'], .cons ⟨_, rfl⟩ (.cons ru .nil), ⟨_, hT2, rfl, _, rfl⟩⟩
    have I1 : Inv X pins σ (upd H s.heap.objs.size (.tup [.int (i : Nat), x])) { s with heap := h'', toks := tk + 1 } :=
      I.turnedNew (ch := [e, it]) (fun b ob hb q => (sb.2 b (fun z => hb (by simp [z]))).trans (hk b ob (fun z => hb (by simp [z])) (fun z => hb (by simp [z])) q)) hf (Nat.le_refl _) new
    refine ⟨.ref s.heap.objs.size, _, I1, rfl, ⟨_, x, rfl, I.hok.fresh (Nat.le_refl _), rfl, fun ys hy => by rw [I.tuple_inj hy hq]; exact hx⟩, ⟨⟨u', ?_⟩, hst'.1.at fun o q => (sb.2 it (Ne.symm hne)).trans q⟩, fun b hb => ?_⟩
    · have e1 : ((i + 1 : Nat) : Int) = (i : Int) + 1 := by omega
      rw [e1]; exact he'
    · have hb' : b < s.heap.objs.size := by
        have e' : b = e ∨ b = it := by simpa using hb
        rcases e' with z | z
        · rw [z]; exact hel
        · rw [z]; exact hil
      rw [upd_ne (Nat.ne_of_lt hb')]
      exact (hf b hb).1
  done := by
    intro X hP hw hK hc i pins s σ H E I hf st hg
    subst hP hw hK
    obtain ⟨⟨old, he⟩, hit⟩ := st
    obtain ⟨xs, hq, hx⟩ := hg
    obtain ⟨its, rv, p, hz⟩ := I.tuple hq
    obtain ⟨f0, f1, f2, f3, f4, f5⟩ := hf it (by simp)
    have hl := rv.length
    exact pyNext_enumT_end (I.ok.hd hc) he hit p (by simp; omega) fun h' eb => ⟨rfl, I.turned (t' := s.toks) (fun b o hb q => eb b o hb q) f0 f1 f3 f4 f5⟩
  self := fun A i s Q E st h => let ⟨⟨_, he⟩, _⟩ := st; wpAny_pyIter_enum he h
theorem walk_enumT {K : PySem.W.Frag} {a : Addr} {xs : List V} : Walk (IteT K a) xs.length (fun H => SqT K H a xs) (YPair (fun i => some (.int (i : Nat))) (fun i => xs[i]?)) := by
  refine ⟨fun i _ hi q => ⟨xs, xs[i], q, by simp [hi]⟩, fun _ q => ⟨xs, q, Nat.le_refl _⟩, fun i H v H' _ q y => ?_⟩
  obtain ⟨T, x, h1, h2, h3, h4⟩ := y
  exact ⟨T, .int (i : Nat), x, h1, h2, h3, rfl, h4 xs q⟩
def iEnumA (K : PySem.W.Frag) (ta : TA) : TI := fun σ H R => ta σ H fun vs H1 => ∃ a xs, vs = [.ref a] ∧ ((SqL K H1 a xs ∧ R (Ite K a) H1) ∨ (SqT K H1 a xs ∧ R (IteT K a) H1))
theorem pi_enumA {X : Cx} {e : Expr} {ta : TA} {p pos tpos : Pos} {elts : List Expr} {kk : Nat} (hg : Gl X "enumerate") (hm : X.mg "enumerate" = none) (ha : PA X [e] ta) (hs : starEach [e] X.env = [(false, eval e X.env)] := by rfl) :
    PI X (.Tuple elts kk tpos) (.Call (.Name "enumerate" p) [e] [] pos) (iEnumA X.K ta) := by
  refine ⟨fun pins s σ H R I h => ?_⟩
  refine Call_ (ld_blt I hg hm boot_enumerate (PyProof.Rows.callWith_type1 (thn (ha.run pos pins s σ H _ I h) fun us s1 ⟨vs, H1, I1, r1, q1⟩ => ?_) hs rfl))
  obtain ⟨a, xs, ex, q1⟩ := q1
  subst ex
  cases r1 with
  | cons r rr =>
    cases rr
    cases r
    have fresh2 : ∀ b, b ∈ [s1.heap.objs.size + 1, s1.heap.objs.size] → FpOk X pins H1 b := fun b hb => by
      have e' : b = s1.heap.objs.size + 1 ∨ b = s1.heap.objs.size := by simpa using hb
      have hle : s1.heap.objs.size ≤ b := by
        rcases e' with z | z
        · rw [z]; exact Nat.le_add_right _ _
        · rw [z]; exact Nat.le_refl _
      exact I1.fpOk hle (I1.hok.fresh hle)
    rcases q1 with ⟨hq, q⟩ | ⟨hq, q⟩
    · obtain ⟨its, rv, p', hz⟩ := I1.list hq
      refine call_enumerate_list p'.isList fun h' he hit hsz hk => wpAny_pyIter_enum he ?_
      have I2 : Inv X pins σ H1 { s1 with heap := h' } := I1.kept (t' := s1.toks) hk
      exact ⟨s1.heap.objs.size + 1, [s1.heap.objs.size + 1, s1.heap.objs.size], _, _, H1, rfl, I2, turn_enum a (s1.heap.objs.size + 1) s1.heap.objs.size, ⟨⟨.none, he⟩, hit, Nat.succ_ne_self _⟩, fresh2, q⟩
    · obtain ⟨its, rv, p', hz⟩ := I1.tuple hq
      have p2 : s1.heap.IsTuple a its.toArray := p'
      obtain ⟨o1, ho1, _⟩ := id p2
      have la : a < s1.heap.objs.size := Heap.lt_size ho1
      refine enum_begins1 (begins_tuple a its.toArray) p2 fun h' he hit hsz hk => wpAny_pyIter_enum he ?_
      have I2 : Inv X pins σ H1 { s1 with heap := h' } := I1.kept (t' := s1.toks) hk
      exact ⟨s1.heap.objs.size + 1, [s1.heap.objs.size + 1, s1.heap.objs.size], _, _, H1, rfl, I2, turn_enumT (Nat.succ_ne_self _) (Nat.ne_of_lt la) (Nat.ne_of_lt (Nat.lt_succ_of_lt la)), ⟨⟨.none, he⟩, ⟨_, hit, rfl, rfl⟩⟩, fresh2, q⟩
/-! ### for data -/
def enumD : Nat → List PyData → List PyData
  | _, [] => []
  | k, d :: ds => .tuple [.int (k : Nat), d] :: enumD (k + 1) ds
theorem enumD_len : ∀ (k : Nat) (ds : List PyData), (enumD k ds).length = ds.length
  | _, [] => rfl
  | k, d :: ds => by simp only [enumD, List.length_cons, enumD_len]
theorem enumD_at : ∀ {k : Nat} {ds : List PyData} {i : Nat} {d : PyData}, ds[i]? = some d → (enumD k ds)[i]? = some (.tuple [.int ((k + i : Nat) : Int), d])
  | k, d :: ds, 0, e, h => by cases h; rfl
  | k, d :: ds, i + 1, e, h => by
    simp only [enumD, List.getElem?_cons_succ] at h ⊢
    rw [enumD_at h, show k + 1 + i = k + (i + 1) from by omega]
def fiE (f : FE) : FI := fun ρ S T => f ρ S fun d S1 => match rowD d with
  | some ds => T (enumD 0 ds) S1
  | none => False
section
variable {K : Fr_} {O : AS} {w : Option Addr} {H : Hp} {ds : List PyData} {vs : List V} {a : Addr}
theorem pair_rep {K : Fr_} {O : AS} {H : Hp} {p : Addr} {i : Int} {d : PyData} {v : V} (ol : OL O H) (n : H p = none) (r : Rep K O H d v) : Rep K O (upd H p (.tup [.int i, v])) (.tuple [.int i, d]) (.ref p) :=
  rep_tup ol n (by simp only [Reps, Rep]; exact ⟨_, _, rfl, rfl, _, _, rfl, r, rfl⟩)
theorem itg_enum {Rl : Hp → Prop} (hR : ∀ H', Rl H' → Step O H H') (hk : ∀ H', Rl H' → SqL K H' a vs) (ol : OL O H) (r : Reps K O H ds vs) : Itg K Rl O H (Ite K a) (enumD 0 ds) := by
  refine ⟨⟨_, _, by rw [enumD_len, ← r.len]; exact walk_enum (K := K) (a := a) (xs := vs), fun O' H' ol' ho h' => ⟨hk H' h', fun i x H3 y hi => ?_⟩⟩⟩
  obtain ⟨T, z, u, rfl, hT, rfl, hz, hu⟩ := y
  cases hz
  rw [enumD_len] at hi
  have hi' : ds[i]? = some ds[i] := List.getElem?_eq_getElem hi
  obtain ⟨v, hv, rv⟩ := (Reps.fw ho (hR _ h') ol ds vs r).at hi'
  replace hu : vs[i]? = some u := hu
  rw [hv] at hu
  cases hu
  have e := enumD_at (k := 0) hi'
  rw [Nat.zero_add] at e
  exact ⟨_, e, Same.new hT, pair_rep ol' hT rv⟩
theorem itg_enumT {Rl : Hp → Prop} (hR : ∀ H', Rl H' → Step O H H') (hq : SqT K H a vs) (ol : OL O H) (r : Reps K O H ds vs) : Itg K Rl O H (IteT K a) (enumD 0 ds) := by
  refine ⟨⟨_, _, by rw [enumD_len, ← r.len]; exact walk_enumT (K := K) (a := a) (xs := vs), fun O' H' ol' ho h' => ⟨SqT.step (hR H' h') ol hq, fun i x H3 y hi => ?_⟩⟩⟩
  obtain ⟨T, z, u, rfl, hT, rfl, hz, hu⟩ := y
  cases hz
  rw [enumD_len] at hi
  have hi' : ds[i]? = some ds[i] := List.getElem?_eq_getElem hi
  obtain ⟨v, hv, rv⟩ := (Reps.fw ho (hR _ h') ol ds vs r).at hi'
  replace hu : vs[i]? = some u := hu
  rw [hv] at hu
  cases hu
  have e := enumD_at (k := 0) hi'
  rw [Nat.zero_add] at e
  exact ⟨_, e, Same.new hT, pair_rep ol' hT rv⟩
end
section
variable {X : Cx} {e : Expr} {pos p tpos : Pos} {f : FE} {elts : List Expr} {kk : Nat}
theorem i_enum (h : PE X e (rd X.K f)) (hm : X.mg "enumerate" = none) (hg : Gl X "enumerate" := by rfl) (hs : starEach [e] X.env = [(false, eval e X.env)] := by rfl) (hs' : starEach (e :: []) X.env = (false, eval e X.env) :: starEach [] X.env := by rfl) :
    PI X (.Tuple elts kk tpos) (.Call (.Name "enumerate" p) [e] [] pos) (rif X.K (fiE f)) := PI.imp (pi_enumA hg hm (pa_cons h pa_nil hs') hs) fun σ H R ⟨Oc, w, ρ, S, T, ev, hf, k⟩ =>
  ⟨Oc, w, ρ, S, _, ev, hf, fun d S1 v H1 ev1 g1 r h1 => by
    cases d with
    | list ds =>
      simp only [Rep] at r
      obtain ⟨a, vs, rfl, q, r⟩ := r
      exact ⟨a, vs, rfl, .inl ⟨q.sq, k _ S1 _ H1 ev1 g1 (itg_enum (fun _ z => z) (fun H' s => (QL.step s q).sq) ev1.Ool r) h1⟩⟩
    | tuple ds =>
      simp only [Rep] at r
      obtain ⟨a, vs, rfl, q, r⟩ := r
      exact ⟨a, vs, rfl, .inr ⟨q, k _ S1 _ H1 ev1 g1 (itg_enumT (fun _ z => z) q ev1.Ool r) h1⟩⟩
    | _ => exact h1.elim⟩
end
end DL

namespace DL
open PySem PySem.Spec PyProof.Rows L2 SeqAt
/-! ### in, of any depth -/
section
variable {X : Cx}
def rInA (K : Fr_) (neg : Bool) : R2 := fun x y H Q => ∃ d e ds, Dp K H x d ∧ Dp K H y e ∧ (e = .list ds ∨ e = .tuple ds) ∧ SeqAt.shaped d = true ∧ SeqAt.shaped e = true ∧ Q (.bl (if neg then !(ds.any fun z => PyData.eqv z d) else ds.any fun z => PyData.eqv z d)) H
theorem op_inA (hu : X.A.units + 65 < cLine) : OpR X (compareOp .In) (rInA X.K false) := by
  intro pins s σ H x y v u Q I rx ry h
  obtain ⟨d, e, ds, hd, he, hk, sd, se, q⟩ := h
  obtain ⟨as, r1⟩ := Dp.reads I d x v hd rx
  obtain ⟨bs, r2⟩ := Dp.reads I e y u he ry
  rcases hk with rfl | rfl
  · exact SeqAt.in_list_reads r2 r1 (SeqAt.canLay_of_shaped se) (SeqAt.canLay_of_shaped sd) (room_in_shaped sd hu) ⟨.bl _, H, I, rfl, q⟩
  · exact SeqAt.in_tuple_reads r2 r1 (SeqAt.canLay_of_shaped se) (SeqAt.canLay_of_shaped sd) (room_in_shaped sd hu) ⟨.bl _, H, I, rfl, q⟩
theorem op_notInA (hu : X.A.units + 65 < cLine) : OpR X (compareOp .NotIn) (rInA X.K true) := by
  intro pins s σ H x y v u Q I rx ry h
  obtain ⟨d, e, ds, hd, he, hk, sd, se, q⟩ := h
  obtain ⟨as, r1⟩ := Dp.reads I d x v hd rx
  obtain ⟨bs, r2⟩ := Dp.reads I e y u he ry
  rcases hk with rfl | rfl
  · exact SeqAt.notIn_list_reads r2 r1 (SeqAt.canLay_of_shaped se) (SeqAt.canLay_of_shaped sd) (room_in_shaped sd hu) ⟨.bl _, H, I, rfl, q⟩
  · exact SeqAt.notIn_tuple_reads r2 r1 (SeqAt.canLay_of_shaped se) (SeqAt.canLay_of_shaped sd) (room_in_shaped sd hu) ⟨.bl _, H, I, rfl, q⟩
theorem op_inDeep {k : Nat} (hr : RoomG k X.A) : OpR X (compareOp .In) (rInA X.K false) := op_inA (by have := hr.room.un; omega)
theorem op_inDeepN {k : Nat} (hr : RoomG k X.A) : OpR X (compareOp .NotIn) (rInA X.K true) := op_notInA (by have := hr.room.un; omega)
end
def oInD (neg : Bool) : O2 := fun x y R => match rowD y with
  | some ds => SeqAt.shaped x = true ∧ SeqAt.shaped y = true ∧ R (.bool (if neg then !(ds.any fun z => PyData.eqv z x) else ds.any fun z => PyData.eqv z x))
  | none => False
theorem sInD {K : Fr_} {neg : Bool} : OpS K (rInA K neg) (oInD neg) := ⟨fun {O w H x y vx vy R Q} ol rx ry h k => by
  unfold oInD at h
  split at h
  · rename_i ds hy
    obtain ⟨h1, h2, h3⟩ := h
    have e : y = .list ds ∨ y = .tuple ds := by
      cases y <;> simp only [rowD] at hy <;> cases hy
      · exact .inl rfl
      · exact .inr rfl
    exact ⟨x, y, ds, rx.dp (SeqAt.canLay_of_shaped h1), ry.dp (SeqAt.canLay_of_shaped h2), e, h1, h2, k _ _ H (Same.refl H) (by simp only [Rep]) h3⟩
  · exact h.elim⟩
end DL

namespace DL
open PySem L2 PyProof.Rows
/-! ### a list of one's own that is written no more; name, name2 = [], e -/
def sFrz (i : Nat) (h : FS) : FS := fun ρ S B => match ρ[i]? with
  | some (.own xs) => h (ρ.set i (.dat (.list xs))) S B
  | _ => False
theorem EV.frz {K : Fr_} {Oc : AS} {w : Option Addr} {σ : L2.St} {H : Hp} {ρ : Rho} {S : SW} {i : Nat} {xs : List PyData} (e : EV K Oc w σ H ρ S) (hx : ρ[i]? = some (Sl.own xs)) :
    EV K Oc w σ H (ρ.set i (.dat (.list xs))) S ∧ (∀ (j : Nat) (ys : List PyData), (ρ.set i (.dat (.list xs)))[j]? = some (Sl.own ys) → ρ[j]? = some (Sl.own ys)) ∧
    ∀ (j : Nat) (ys : List (List Key × PyData)), (ρ.set i (.dat (.list xs)))[j]? = some (Sl.dct ys) → ρ[j]? = some (Sl.dct ys) := by
  have hk : i < ρ.length := (List.getElem?_eq_some_iff.mp hx).1
  have own : ∀ j ys, (ρ.set i (.dat (.list xs)))[j]? = some (Sl.own ys) → i ≠ j ∧ ρ[j]? = some (.own ys) := fun j ys h => by
    by_cases hj : i = j
    · subst hj
      rw [List.getElem?_set_self hk] at h
      cases h
    · rw [List.getElem?_set_ne hj] at h
      exact ⟨hj, h⟩
  have dct : ∀ (j : Nat) (ys : List (List Key × PyData)), (ρ.set i (.dat (.list xs)))[j]? = some (Sl.dct ys) → ρ[j]? = some (Sl.dct ys) := fun j ys h => by
    by_cases hj : i = j
    · subst hj
      rw [List.getElem?_set_self hk] at h
      cases h
    · rw [List.getElem?_set_ne hj] at h
      exact h
  have oo : ∀ a, OO Oc σ (ρ.set i (.dat (.list xs))) a → OO Oc σ ρ a := by
    rintro a (h | ⟨j, ys, h1, h2⟩)
    · exact .inl h
    · exact .inr ⟨j, ys, (own j ys h1).2, h2⟩
  obtain ⟨p, vs, q1, q2, q3, q4⟩ := e.own i xs hx
  have np : ¬ OO Oc σ (ρ.set i (.dat (.list xs))) p := by
    rintro (h | ⟨j, ys, h1, h2⟩)
    · exact q3 h
    · obtain ⟨hj, h3⟩ := own j ys h1
      exact hj (e.inj i j xs ys p hx h3 q1 h2)
  refine ⟨⟨by simp [e.len], fun j d h => ?_, fun j ys h => ?_, fun j l ys zs a h1 h2 h3 h4 => e.inj j l ys zs a (own j ys h1).2 (own l zs h2).2 h3 h4, fun j h => ?_, e.ws, e.ol, e.dct.to (fun j ys h => ⟨dct j ys h, rfl⟩) (fun a ws h o => ⟨h, o⟩) fun ds vs => Reps.less oo ds vs⟩, fun j ys h => (own j ys h).2, dct⟩
  · by_cases hj : i = j
    · subst hj
      rw [List.getElem?_set_self hk] at h
      cases h
      refine ⟨_, q1, ?_⟩
      simp only [Rep]
      exact ⟨p, vs, rfl, .inl ⟨.inl q2, np⟩, Reps.less oo xs vs q4⟩
    · rw [List.getElem?_set_ne hj] at h
      obtain ⟨v, hv, r⟩ := e.dat j d h
      exact ⟨v, hv, Rep.less oo d v r⟩
  · obtain ⟨_, h⟩ := own j ys h
    obtain ⟨a, us, h1, h2, h3, h4⟩ := e.own j ys h
    exact ⟨a, us, h1, h2, h3, Reps.less oo ys us h4⟩
  · by_cases hj : i = j
    · subst hj
      rw [List.getElem?_set_self hk] at h
      cases h
    · rw [List.getElem?_set_ne hj] at h
      exact e.wel j h
section
variable {X : Cx} {sts : List Stmt} {a b : Expr} {pos : Pos} {h : FS} {x y : Str} {f : FE}
theorem s_frz (i : Nat) (hb : PSs X sts (rs X.K h)) : PSs X sts (rs X.K (sFrz i h)) := PSs.imp hb fun D σ H ⟨Oc, w, H0, ρ, S, B, ev, fz, hf, k1, k2, k3, k4⟩ => by
  unfold sFrz at hf
  split at hf
  · rename_i xs hx
    obtain ⟨ev2, own, dct⟩ := ev.frz hx
    have fw : Fw Oc σ ρ H σ (ρ.set i (.dat (.list xs))) H := ⟨fun _ _ _ h => h, fun a z => .inl (by
      rcases z with z | ⟨j, ys, h1, h2⟩
      · exact .inl z
      · exact .inr ⟨j, ys, own j ys h1, h2⟩)⟩
    exact ⟨Oc, w, H0, _, S, B, ev2, ⟨fz.gr, fun j ys a h1 h2 => fz.own j ys a (own j ys h1) h2, fun j ys a h1 h2 => fz.dct j ys a (dct j ys h1) h2⟩, hf, k1.go fw, k2, k3.go fw, k4.go fw⟩
  · exact hf.elim
def sParO (i j : Nat) (f : FE) : FS := fun ρ S B => f ρ S fun d S1 => B.nx ((ρ.set i (.own [])).set j (.dat d)) S1
theorem EV.lessOc {K : Fr_} {Oc : AS} {w : Option Addr} {σ : L2.St} {H : Hp} {ρ : Rho} {S : SW} {p : Addr} (e : EV K (With Oc p) w σ H ρ S) (hw : ∀ a, w = some a → Oc a) (nt : ∀ ws, H p ≠ some (.dT ws)) : EV K Oc w σ H ρ S := by
  have oo : ∀ a, OO Oc σ ρ a → OO (With Oc p) σ ρ a := fun a h => h.elim (fun h => .inl (.inl h)) .inr
  refine ⟨e.len, fun j d h => ?_, fun j ys h => ?_, e.inj, e.wel, fun a h => ⟨hw a h, (e.ws a h).2⟩, fun a h => e.ol a (.inl h), e.dct.to (fun j ys h => ⟨h, rfl⟩) (fun a ws h o => ⟨h, o.elim id fun z => absurd h (by rw [z]; exact nt ws)⟩) fun ds vs => Reps.less oo ds vs⟩
  · obtain ⟨v, hv, r⟩ := e.dat j d h
    exact ⟨v, hv, Rep.less oo d v r⟩
  · obtain ⟨a, us, h1, h2, h3, h4⟩ := e.own j ys h
    exact ⟨a, us, h1, h2, fun z => h3 (.inl z), Reps.less oo ys us h4⟩
theorem wipe_nil (σ : L2.St) : wipe σ [] = σ := rfl
theorem rwipe_nil (ρ : Rho) : rwipe ρ [] = ρ := rfl
theorem s_parO (i j : Nat) {px py pt lp : Pos} {kt k2 pt2} (hc : X.calm = true) (hN : X.N.Nodup) (hb : PE X b (rd X.K f)) (hi : X.N[i]? = some x := by rfl) (hj : X.N[j]? = some y := by rfl) (hij : i ≠ j := by decide)
    (hx : X.env.scope.names.lookup x = some .local := by rfl) (hy : X.env.scope.names.lookup y = some .local := by rfl)
    (hw : swappedStores [.Tuple [.Name x px, .Name y py] kt pt] (.Tuple [.List [] lp, b] k2 pt2) X.env = pure (some [x, y]) := by rfl)
    (hs : swapsWithSole [.Tuple [.Name x px, .Name y py] kt pt] (.Tuple [.List [] lp, b] k2 pt2) pos.line X.env = pure false := by rfl)
    (h1 : starEach (.List [] lp :: [b]) X.env = (false, eval (.List [] lp) X.env) :: starEach [b] X.env := by rfl) (h2 : starEach (b :: []) X.env = (false, eval b X.env) :: starEach [] X.env := by rfl) :
    PS X (.Assign [.Tuple [.Name x px, .Name y py] kt pt] (.Tuple [.List [] lp, b] k2 pt2) pos) (rs X.K (sParO i j f)) :=
  PS.imp (ps_par hc hN hi hj hij hx hy (pa_cons (pe_lst pa_nil) (pa_cons hb pa_nil h2) h1) hw hs) fun D σ H ⟨Oc, w, H0, ρ, S, B, ev, fz, hf, k1, k2, k3, k4⟩ => by
    refine ⟨by simp, fun p hp => ?_⟩
    have ev1 := ev.block (vs := []) hp
    rw [wipe_nil, rwipe_nil] at ev1
    refine ⟨With Oc p, w, ρ, S, _, ev1, hf, fun d S2 v H2 ev2 g2 r q => ?_⟩
    have nwp : w ≠ some p := fun z => by
      have := (ev.ws p z).2
      rw [hp] at this
      cases this
    have g : Gr w H H2 := (Gr.of (Same.new hp)).trans g2
    have hp2 : H2 p = some (.lst []) := g2 p _ nwp upd_same
    have ev3 := ev2.lessOc (fun a z => (ev.ws a z).1) (fun ws z => by rw [hp2] at z; cases z)
    obtain ⟨ev4, oo⟩ := EV.putOwn ev ev3 g i hp hp2 (ds := []) (by simp only [Reps])
    have r4 : Rep X.K (OO Oc (σ.set i (some (.ref p))) (ρ.set i (.own []))) H2 d v := Rep.less (fun a z => by
      rcases oo a z with (z | z) | z
      · exact .inl (.inl z)
      · exact .inr z
      · exact .inl (.inr z)) d v r
    obtain ⟨ev5, t5⟩ := ev4.put j r4
    have fw : Fw Oc σ ρ H (σ.set i (some (.ref p))) (ρ.set i (.own [])) H2 := ⟨ev.stepO g, fun a z => (oo a z).elim .inl fun z => .inr (by rw [z]; exact hp)⟩
    have fz4 : Fz w H0 (σ.set i (some (.ref p))) H2 (ρ.set i (.own [])) := ⟨fz.gr.trans g, fun l ys a h1 h2 => by
      by_cases hl : i = l
      · subst hl
        by_cases hk : i < σ.length
        · rw [List.getElem?_set_self hk] at h2
          cases h2
          cases e : H0 p with
          | none => rfl
          | some u => rw [fz.gr p u nwp e] at hp; cases hp
        · rw [List.getElem?_eq_none (by simpa using hk)] at h2; cases h2
      · rw [List.getElem?_set_ne hl] at h1 h2
        exact fz.own l ys a h1 h2, fun l ys a h1 h2 => by
      by_cases hl : i = l
      · subst hl
        by_cases hk : i < ρ.length
        · rw [List.getElem?_set_self hk] at h1
          cases h1
        · rw [List.getElem?_eq_none (by simpa using hk)] at h1; cases h1
      · rw [List.getElem?_set_ne hl] at h1 h2
        exact fz.dct l ys a h1 h2⟩
    exact ⟨_, _, rfl, k1 _ H2 _ S2 ev5 (t5.fz fz4) (fw.trans t5.fw) q⟩
/-- the same where the names are no plain locals: a pair is built -/
theorem s_asgO (i j : Nat) {px py pt lp : Pos} {kt k2 pt2} (hc : X.calm = true) (hN : X.N.Nodup) (hb : PE X b (rd X.K f)) (hi : X.N[i]? = some x := by rfl) (hj : X.N[j]? = some y := by rfl)
    (hx : Loc X.env.scope x := by first | exact Or.inl rfl | exact Or.inr rfl) (hy : Loc X.env.scope y := by first | exact Or.inl rfl | exact Or.inr rfl)
    (hxf : X.fn x = true ∨ X.env.scope.names.lookup x = some .local := by first | exact .inl rfl | exact .inr rfl) (hyf : X.fn y = true ∨ X.env.scope.names.lookup y = some .local := by first | exact .inl rfl | exact .inr rfl)
    (hs1 : (assignEach (.Name x px :: [.Name y py]) X.env).map (·.2) = assign (.Name x px) X.env :: (assignEach [.Name y py] X.env).map (·.2) := by rfl) (hs2 : (assignEach (.Name y py :: []) X.env).map (·.2) = assign (.Name y py) X.env :: (assignEach [] X.env).map (·.2) := by rfl)
    (hn : (assignEach [.Name x px, .Name y py] X.env).length = 2 := by rfl) (hst : (assignEach [.Name x px, .Name y py] X.env).findIdx? (·.1) = none := by rfl)
    (hs : swapsWithSole [.Tuple [.Name x px, .Name y py] kt pt] (.Tuple [.List [] lp, b] k2 pt2) pos.line X.env = pure false := by rfl) (hw : swappedStores [.Tuple [.Name x px, .Name y py] kt pt] (.Tuple [.List [] lp, b] k2 pt2) X.env = pure none := by rfl)
    (h0 : (assignEach [.Tuple [.Name x px, .Name y py] kt pt] X.env).map (·.2) = [assign (.Tuple [.Name x px, .Name y py] kt pt) X.env] := by rfl)
    (h1 : starEach (.List [] lp :: [b]) X.env = (false, eval (.List [] lp) X.env) :: starEach [b] X.env := by rfl) (h2 : starEach (b :: []) X.env = (false, eval b X.env) :: starEach [] X.env := by rfl) :
    PS X (.Assign [.Tuple [.Name x px, .Name y py] kt pt] (.Tuple [.List [] lp, b] k2 pt2) pos) (rs X.K (sParO i j f)) :=
  PS.imp (ps_asg (pe_tup (pa_cons (pe_lst pa_nil) (pa_cons hb pa_nil h2) h1)) (pg_tup hc (pgs_cons (pg_name hN hi hx hxf) (pgs_cons (pg_name hN hj hy hyf) pgs_nil hs2) hs1) hn hst) hs hw h0) fun D σ H ⟨Oc, w, H0, ρ, S, B, ev, fz, hf, k1, k2, k3, k4⟩ => by
    refine ⟨by simp, fun p hp => ?_⟩
    have ev1 := ev.block (vs := []) hp
    rw [wipe_nil, rwipe_nil] at ev1
    refine ⟨With Oc p, w, ρ, S, _, ev1, hf, fun d S2 v H2 ev2' g2' r' q => ⟨by rw [sizeLine_eq]; simp, fun t ht => ⟨t, _, rfl, .inl (.inl upd_same), rfl, _, _, rfl, ?_⟩⟩⟩
    have ev2 := ev2'.same (Same.new (o := .tup [.ref p, v]) ht)
    have g2 := g2'.trans (Gr.of (Same.new (o := .tup [.ref p, v]) ht))
    have r := Rep.same ev2'.Ool (Same.new (o := .tup [.ref p, v]) ht) r'
    generalize upd H2 t (.tup [.ref p, v]) = H3 at *
    have nwp : w ≠ some p := fun z => by
      have := (ev.ws p z).2
      rw [hp] at this
      cases this
    have g : Gr w H H3 := (Gr.of (Same.new hp)).trans g2
    have hp2 : H3 p = some (.lst []) := g2 p _ nwp upd_same
    have ev3 := ev2.lessOc (fun a z => (ev.ws a z).1) (fun ws z => by rw [hp2] at z; cases z)
    obtain ⟨ev4, oo⟩ := EV.putOwn ev ev3 g i hp hp2 (ds := []) (by simp only [Reps])
    have r4 : Rep X.K (OO Oc (σ.set i (some (.ref p))) (ρ.set i (.own []))) H3 d v := Rep.less (fun a z => by
      rcases oo a z with (z | z) | z
      · exact .inl (.inl z)
      · exact .inr z
      · exact .inl (.inr z)) d v r
    obtain ⟨ev5, t5⟩ := ev4.put j r4
    have fw : Fw Oc σ ρ H (σ.set i (some (.ref p))) (ρ.set i (.own [])) H3 := ⟨ev.stepO g, fun a z => (oo a z).elim .inl fun z => .inr (by rw [z]; exact hp)⟩
    have fz4 : Fz w H0 (σ.set i (some (.ref p))) H3 (ρ.set i (.own [])) := ⟨fz.gr.trans g, fun l ys a h1 h2 => by
      by_cases hl : i = l
      · subst hl
        by_cases hk : i < σ.length
        · rw [List.getElem?_set_self hk] at h2
          cases h2
          cases e : H0 p with
          | none => rfl
          | some u => rw [fz.gr p u nwp e] at hp; cases hp
        · rw [List.getElem?_eq_none (by simpa using hk)] at h2; cases h2
      · rw [List.getElem?_set_ne hl] at h1 h2
        exact fz.own l ys a h1 h2, fun l ys a h1 h2 => by
      by_cases hl : i = l
      · subst hl
        by_cases hk : i < ρ.length
        · rw [List.getElem?_set_self hk] at h1
          cases h1
        · rw [List.getElem?_eq_none (by simpa using hk)] at h1; cases h1
      · rw [List.getElem?_set_ne hl] at h1 h2
        exact fz.dct l ys a h1 h2⟩
    exact ⟨_, _, rfl, rfl, k1 _ H3 _ S2 ev5 (t5.fz fz4) (fw.trans t5.fw) q⟩
end
end DL

namespace DL
open PySem L2 PyProof.Rows
/-! ### what repr can show: bounds -/
/-- ints below 2 ^ k, depth up to n, weight up to W -/
structure Tin (k n W : Nat) (d : PyData) : Prop where
  lay : d.canLay0 = true
  sh : d.showable = true
  dp : d.depth ≤ n
  lv : d.leavesShort (k + 10) = true
  wt : d.weight ≤ W
structure TinAll (k n W : Nat) (ds : List PyData) : Prop where
  lay : PyData.canLayAll0 ds = true
  sh : PyData.showableAll ds = true
  dp : PyData.depthAll ds ≤ n
  lv : PyData.leavesShortAll (k + 10) ds = true
  wt : PyData.weightAll ds ≤ W
theorem Tin.up {k n m W W' : Nat} {d : PyData} (h : Tin k n W d) (h1 : n ≤ m) (h2 : W ≤ W') : Tin k m W' d := ⟨h.lay, h.sh, Nat.le_trans h.dp h1, h.lv, Nat.le_trans h.wt h2⟩
theorem Tin.ok {k n W : Nat} {d : PyData} (h : Tin k n W d) (hn : n ≤ 60) (hW : (k + 12) * W + k + 10 ≤ 16777216) : showOk d := by
  refine ⟨h.lay, h.sh, Nat.le_trans h.dp hn, ?_⟩
  have a := PyData.shown_le (k + 10) (by omega) d h.lv
  rw [show k + 10 + 2 = k + 12 from by omega] at a
  have b : (k + 12) * d.weight ≤ (k + 12) * W := Nat.mul_le_mul_left _ h.wt
  rw [sizeLine_eq]
  omega
theorem Tin.bool {k n : Nat} {b : Bool} : Tin k n 0 (.bool b) := ⟨rfl, rfl, by simp [PyData.depth], rfl, by simp [PyData.weight]⟩
theorem Tin.int {k n : Nat} {i : Int} (hk : k < 1920) (h : i.natAbs < 2 ^ k) : Tin k n (k + 1) (.int i) := by
  have l : i.natAbs.log2 < k + 1 := by
    by_cases z : i.natAbs = 0
    · rw [z]; simp
    · have := (Nat.log2_lt z).mpr h
      omega
  refine ⟨rfl, ?_, by simp [PyData.depth], ?_, ?_⟩
  · simp only [PyData.showable, decide_eq_true_eq]
    omega
  · simp only [PyData.leavesShort, decide_eq_true_eq, PyData.shown]
    have := int_text_length_le (a := i) (by omega) l
    have e : (Str.ofString (toString i)).length = (toString i).length := by rw [PySem.ofString_length]
    refine decide_eq_true ?_
    omega
  · simp only [PyData.weight]
    split <;> omega
theorem TinAll.nil {k n W : Nat} : TinAll k n W [] := ⟨rfl, rfl, by simp [PyData.depthAll], rfl, by simp [PyData.weightAll]⟩
theorem TinAll.cons {k n W W' : Nat} {d : PyData} {ds : List PyData} (h : Tin k n W d) (t : TinAll k n W' ds) : TinAll k n (W + 1 + W') (d :: ds) := by
  refine ⟨?_, ?_, ?_, ?_, ?_⟩
  · simp only [PyData.canLayAll0, h.lay, t.lay, Bool.and_self]
  · simp only [PyData.showableAll, h.sh, t.sh, Bool.and_self]
  · simp only [PyData.depthAll]
    have := h.dp
    have := t.dp
    omega
  · simp only [PyData.leavesShortAll, h.lv, t.lv, Bool.and_self]
  · simp only [PyData.weightAll]
    have := h.wt
    have := t.wt
    omega
theorem TinAll.of {k n W : Nat} : ∀ {ds : List PyData}, (∀ d ∈ ds, Tin k n W d) → TinAll k n ((W + 1) * ds.length) ds
  | [], _ => .nil
  | d :: ds, h => by
    have e : (W + 1) * (d :: ds).length = W + 1 + (W + 1) * ds.length := by rw [List.length_cons, Nat.mul_add, Nat.mul_one, Nat.add_comm]
    rw [e]
    exact .cons (h d (by simp)) (TinAll.of fun x hx => h x (List.mem_cons_of_mem d hx))
theorem Tin.tup {k n W : Nat} {ds : List PyData} (h : TinAll k n W ds) : Tin k (n + 1) W (.tuple ds) := by
  refine ⟨?_, ?_, ?_, ?_, ?_⟩
  · simpa only [PyData.canLay0] using h.lay
  · simpa only [PyData.showable] using h.sh
  · simp only [PyData.depth]
    have := h.dp
    omega
  · simpa only [PyData.leavesShort] using h.lv
  · simpa only [PyData.weight] using h.wt
theorem Tin.lst {k n W : Nat} {ds : List PyData} (h : TinAll k n W ds) : Tin k (n + 1) W (.list ds) := by
  refine ⟨?_, ?_, ?_, ?_, ?_⟩
  · simpa only [PyData.canLay0] using h.lay
  · simpa only [PyData.showable] using h.sh
  · simp only [PyData.depth]
    have := h.dp
    omega
  · simpa only [PyData.leavesShort] using h.lv
  · simpa only [PyData.weight] using h.wt
theorem TinAll.up {k n W W' : Nat} {ds : List PyData} (h : TinAll k n W ds) (hw : W ≤ W') : TinAll k n W' ds := ⟨h.lay, h.sh, h.dp, h.lv, Nat.le_trans h.wt hw⟩
theorem Tin.shaped {k n W : Nat} {d : PyData} (h : Tin k n W d) (hn : n ≤ 60) : SeqAt.shaped d = true := by
  simp only [SeqAt.shaped, Bool.and_eq_true, decide_eq_true_eq]
  exact ⟨h.lay, by have := h.dp; omega⟩
end DL

namespace DL
open PySem L2
theorem oReprG_bool (b : Bool) (R : PyData → Prop) : oReprG (.bool b) R = R (.str (PyData.bool b).shown) := rfl
theorem oReprG_lst (ds : List PyData) (R : PyData → Prop) : oReprG (.list ds) R = (showOk (.list ds) ∧ R (.str (PyData.list ds).shown)) := rfl
theorem oReprG_tup (ds : List PyData) (R : PyData → Prop) : oReprG (.tuple ds) R = (showOk (.tuple ds) ∧ R (.str (PyData.tuple ds).shown)) := rfl
theorem oGtD_int (i j : Int) (R : PyData → Prop) : oGt (.int i) (.int j) R = R (.bool (decide (j < i))) := rfl
theorem oLeD_int (i j : Int) (R : PyData → Prop) : oLe (.int i) (.int j) R = R (.bool (decide (i ≤ j))) := rfl
theorem oGeD_int (i j : Int) (R : PyData → Prop) : oGe (.int i) (.int j) R = R (.bool (decide (j ≤ i))) := rfl
theorem oMixD_int (g : Int → Int → Int) (o : O2) (i j : Int) (R : PyData → Prop) : oMix g o (.int i) (.int j) R = o (.int i) (.int j) R := rfl
theorem oMixD_tup (g : Int → Int → Int) (o : O2) (a b : List PyData) (R : PyData → Prop) : oMix g o (.tuple a) (.tuple b) R = o (.tuple a) (.tuple b) R := rfl
theorem oMixD_bi (g : Int → Int → Int) (o : O2) (a : Bool) (j : Int) (R : PyData → Prop) : oMix g o (.bool a) (.int j) R = R (.int (g (bI a) j)) := rfl
theorem oMixD_ib (g : Int → Int → Int) (o : O2) (i : Int) (b : Bool) (R : PyData → Prop) : oMix g o (.int i) (.bool b) R = R (.int (g i (bI b))) := rfl
theorem oMixD_bb (g : Int → Int → Int) (o : O2) (a b : Bool) (R : PyData → Prop) : oMix g o (.bool a) (.bool b) R = R (.int (g (bI a) (bI b))) := rfl
theorem oStrD_int (i : Int) (R : PyData → Prop) : oStr (.int i) R = (i.natAbs.log2 < 1920 ∧ R (.str (toString i))) := rfl
theorem oListD_tup (ds : List PyData) (R : PyData → Prop) : oList (.tuple ds) R = R (.list ds) := rfl
theorem oListD_lst (ds : List PyData) (R : PyData → Prop) : oList (.list ds) R = R (.list ds) := rfl
theorem oTupleD_lst (ds : List PyData) (R : PyData → Prop) : oTuple (.list ds) R = R (.tuple ds) := rfl
theorem oTupleD_tup (ds : List PyData) (R : PyData → Prop) : oTuple (.tuple ds) R = R (.tuple ds) := rfl
theorem oBackD_tup (ds : List PyData) (R : PyData → Prop) : oBack (.tuple ds) R = R (.tuple ds.reverse) := rfl
theorem oBackD_lst (ds : List PyData) (R : PyData → Prop) : oBack (.list ds) R = R (.list ds.reverse) := rfl
theorem oNegD_int (i : Int) (R : PyData → Prop) : oNeg (.int i) R = R (.int (-i)) := rfl
theorem small_leD (n : Nat) (h : n ≤ 1000) : n ≤ sizeLine := by rw [sizeLine_eq]; omega
/-- a comprehension with a test, without draws -/
theorem lcGo_keep {i : Nat} {ft fe : FE} {ρ : Rho} {S : SW} {f : PyData → Bool} {g : PyData → PyData} {T : List PyData → SW → Prop} : ∀ {ds acc : List PyData}, (∀ d ∈ ds, ∀ Q : PyData → SW → Prop, Q (.bool (f d)) S → ft (ρ.set i (.dat d)) S Q) →
    (∀ d ∈ ds, f d = true → ∀ Q : PyData → SW → Prop, Q (g d) S → fe (ρ.set i (.dat d)) S Q) → T (acc ++ (ds.filter f).map g) S → lcGo (gNm i) ft fe ρ ds acc S T
  | [], acc, _, _, h => by simpa [lcGo] using h
  | d :: ds, acc, ht, he, h => by
    simp only [lcGo, gNm]
    refine ht d (by simp) _ ?_
    simp only [asB_bool]
    cases e : f d
    · rw [if_neg Bool.false_ne_true]
      rw [List.filter_cons_of_neg (by simp [e])] at h
      exact lcGo_keep (fun d' hd' => ht d' (by simp [hd'])) (fun d' hd' => he d' (by simp [hd'])) h
    · rw [if_pos rfl]
      rw [List.filter_cons_of_pos (by simp [e])] at h
      refine he d (by simp) e _ ?_
      refine lcGo_keep (fun d' hd' => ht d' (by simp [hd'])) (fun d' hd' => he d' (by simp [hd'])) ?_
      simpa using h
theorem atI_at {α : Type} {xs : List α} {k : Nat} {x : α} (h : xs[k]? = some x) : atI xs (k : Int) = some x := atI_nat h
/-- an int's slot, a row's element, .. -/
theorem fLc_map {fi : FI} {i : Nat} {fe : FE} {ρ : Rho} {S : SW} {ds : List PyData} {g : PyData → PyData} {Q : PyData → SW → Prop} (hi : ∀ T : List PyData → SW → Prop, T ds S → fi ρ S T) (hl : ds.length ≤ 1000) (own : notOwn ρ [i])
    (he : ∀ d ∈ ds, ∀ R : PyData → SW → Prop, R (g d) S → fe ((rwipe ρ [i]).set i (.dat d)) S R) (h : Q (.list (ds.map g)) S) : fLc fi [i] (gNm i) (fC (.bool true)) fe ρ S Q :=
  hi _ ⟨own, small_leD _ hl, lcGo_map he (by rw [List.nil_append]; exact h)⟩
theorem fLc_keep {fi : FI} {i : Nat} {ft fe : FE} {ρ : Rho} {S : SW} {ds : List PyData} {f : PyData → Bool} {g : PyData → PyData} {Q : PyData → SW → Prop} (hi : ∀ T : List PyData → SW → Prop, T ds S → fi ρ S T) (hl : ds.length ≤ 1000) (own : notOwn ρ [i])
    (ht : ∀ d ∈ ds, ∀ R : PyData → SW → Prop, R (.bool (f d)) S → ft ((rwipe ρ [i]).set i (.dat d)) S R)
    (he : ∀ d ∈ ds, f d = true → ∀ R : PyData → SW → Prop, R (g d) S → fe ((rwipe ρ [i]).set i (.dat d)) S R) (h : Q (.list ((ds.filter f).map g)) S) : fLc fi [i] (gNm i) ft fe ρ S Q :=
  hi _ ⟨own, small_leD _ hl, lcGo_keep ht he (by rw [List.nil_append]; exact h)⟩
end DL

namespace DL
open PySem L2
/-! ### one statement, one expression at a time -/
section
variable {ρ : Rho} {S : SW} {B : Out} {rest : FS} {i j : Nat} {f a b c : FE} {Q : PyData → SW → Prop} {d : PyData}
theorem w_seq {g : FS} (h : g ρ S { B with nx := fun ρ' S' => rest ρ' S' B }) : sSeq g rest ρ S B := h
theorem w_asg {g : FG} (h : f ρ S fun d S1 => g ρ d fun ρ' => rest ρ' S1 B) : sSeq (sAsg f g) rest ρ S B := h
theorem w_set (h : f ρ S fun d S1 => rest (ρ.set i (.dat d)) S1 B) : sSeq (sSet i f) rest ρ S B := h
theorem w_setE (h : f ρ S fun d S1 => B.nx (ρ.set i (.dat d)) S1) : sSet i f ρ S B := h
theorem w_own0 (h : rest (ρ.set i (.own [])) S B) : sSeq (sOwn i (fLst fNil)) rest ρ S B := h
theorem w_own {g : FL} (h : g ρ S fun ds S1 => rest (ρ.set i (.own ds)) S1 B) : sSeq (sOwn i (fLst g)) rest ρ S B := h
theorem w_par (h : a ρ S fun x S1 => b ρ S1 fun y S2 => rest ((ρ.set i (.dat x)).set j (.dat y)) S2 B) : sSeq (sPar i j (fCons a (fCons b fNil))) rest ρ S B := h
theorem w_parO (h : f ρ S fun d S1 => rest ((ρ.set i (.own [])).set j (.dat d)) S1 B) : sSeq (sParO i j f) rest ρ S B := h
theorem w_ret (h : f ρ S B.rt) : sRet f ρ S B := h
theorem w_drop (h : f ρ S fun _ S1 => rest ρ S1 B) : sSeq (sDrop f) rest ρ S B := h
theorem w_for {fi : FI} {fg : FG} {gb : FS} (h : fi ρ S fun ds S1 => forGo fg gb ds ρ S1 { B with nx := fun ρ' S' => rest ρ' S' B }) : sSeq (sFor fi fg gb) rest ρ S B := h
theorem w_while {fc : FE} {gb : FS} (h : sWhile fc gb ρ S { B with nx := fun ρ' S' => rest ρ' S' B }) : sSeq (sWhile fc gb) rest ρ S B := h
theorem w_frz {xs : List PyData} {g : FS} (hρ : ρ[i]? = some (.own xs)) (h : g (ρ.set i (.dat (.list xs))) S B) : sFrz i g ρ S B := by
  unfold sFrz
  rw [hρ]
  exact h
theorem w_app {xs : List PyData} (hρ : ρ[i]? = some (.own xs)) (hl : xs.length ≤ 1000) (h : f ρ S fun d S1 => B.nx (ρ.set i (.own (xs ++ [d]))) S1) : sApp i f ρ S B := by
  unfold sApp
  rw [hρ]
  exact ⟨by rw [sizeLine_eq]; omega, h⟩
theorem w_appS {xs : List PyData} (hρ : ρ[i]? = some (.own xs)) (hl : xs.length ≤ 1000) (h : f ρ S fun d S1 => rest (ρ.set i (.own (xs ++ [d]))) S1 B) : sSeq (sApp i f) rest ρ S B := w_seq (w_app hρ hl h)
theorem w_ins {xs : List PyData} {k : Nat} (hρ : ρ[i]? = some (.own xs)) (hl : xs.length ≤ 1000) (hk : k ≤ 1000) (ha : ∀ Q : PyData → SW → Prop, Q (.int k) S → a ρ S Q) (h : f ρ S fun d S1 => B.nx (ρ.set i (.own (xs.take k ++ [d] ++ xs.drop k))) S1) : sIns i a f ρ S B := by
  unfold sIns
  rw [hρ]
  refine ⟨by rw [sizeLine_eq]; omega, ha _ ?_⟩
  simp only [asI_int, Int.toNat_natCast]
  exact (show f ρ S (fun d S2 => (0 ≤ (k : Int) ∧ (k : Int) < 2 ^ 63) ∧ B.nx (ρ.set i (.own (xs.take k ++ [d] ++ xs.drop k))) S2) from by
    have e : (0 ≤ (k : Int) ∧ (k : Int) < 2 ^ 63) = True := eq_true ⟨by omega, by omega⟩
    simp only [e, true_and]
    exact h)
theorem w_if {X Y : FS} {b : Bool} (hc : ∀ Q : PyData → SW → Prop, Q (.bool b) S → f ρ S Q) (h1 : b = true → X ρ S B) (h2 : b = false → Y ρ S B) : sIf f X Y ρ S B := by
  refine hc _ ?_
  simp only [asB_bool]
  cases b
  · rw [if_neg Bool.false_ne_true]; exact h2 rfl
  · rw [if_pos rfl]; exact h1 rfl
theorem w_ifS {X Y : FS} {b : Bool} (hc : ∀ Q : PyData → SW → Prop, Q (.bool b) S → f ρ S Q) (h1 : b = true → X ρ S { B with nx := fun ρ' S' => rest ρ' S' B }) (h2 : b = false → Y ρ S { B with nx := fun ρ' S' => rest ρ' S' B }) : sSeq (sIf f X Y) rest ρ S B :=
  w_seq (w_if hc h1 h2)
theorem w_un {o : O1} (h : f ρ S fun x S1 => o x fun d => Q d S1) : fUn o f ρ S Q := h
theorem w_op {o : O2} (h : a ρ S fun x S1 => b ρ S1 fun y S2 => o x y fun d => Q d S2) : fOp o a b ρ S Q := h
theorem w_var (hρ : ρ[i]? = some (.dat d)) (h : Q d S) : fVar i ρ S Q := by
  unfold fVar
  rw [hρ]
  exact h
theorem w_varB (hρ : ρ[i]? = some (.dat d)) (h : Q d S) : fVarB i ρ S Q := by
  unfold fVarB
  rw [hρ]
  exact h
theorem w_varO {xs : List PyData} (hρ : ρ[i]? = some (.own xs)) (h : Q (.list xs) S) : fVarB i ρ S Q := by
  unfold fVarB
  rw [hρ]
  exact h
theorem w_tup1 (h : a ρ S fun x S1 => Q (.tuple [x]) S1) : fTup (fCons a fNil) ρ S Q := h
theorem w_tup2 (h : a ρ S fun x S1 => b ρ S1 fun y S2 => Q (.tuple [x, y]) S2) : fTup (fCons a (fCons b fNil)) ρ S Q := h
theorem w_lst1 (h : a ρ S fun x S1 => Q (.list [x]) S1) : fLst (fCons a fNil) ρ S Q := h
theorem w_lst2 (h : a ρ S fun x S1 => b ρ S1 fun y S2 => Q (.list [x, y]) S2) : fLst (fCons a (fCons b fNil)) ρ S Q := h
theorem w_lst3 (h : a ρ S fun x S1 => b ρ S1 fun y S2 => c ρ S2 fun z S3 => Q (.list [x, y, z]) S3) : fLst (fCons a (fCons b (fCons c fNil))) ρ S Q := h
theorem w_call1 {C : Ct} (h1 : ρ[i]? = some (.dat d)) (h : C [.dat d] S Q) : fCall C (gDat (fVar i) gaNil) ρ S Q := by
  unfold fCall gDat fVar gaNil
  rw [h1]
  exact h
theorem w_call2 {C : Ct} {d e : PyData} (h1 : ρ[i]? = some (.dat d)) (h2 : ρ[j]? = some (.dat e)) (h : C [.dat d, .dat e] S Q) : fCall C (gDat (fVar i) (gDat (fVar j) gaNil)) ρ S Q := by
  unfold fCall gDat fVar gaNil
  rw [h1, h2]
  exact h
theorem w_call3 {C : Ct} {k : Nat} {d e g : PyData} (h1 : ρ[i]? = some (.dat d)) (h2 : ρ[j]? = some (.dat e)) (h3 : ρ[k]? = some (.dat g)) (h : C [.dat d, .dat e, .dat g] S Q) : fCall C (gDat (fVar i) (gDat (fVar j) (gDat (fVar k) gaNil))) ρ S Q := by
  unfold fCall gDat fVar gaNil
  rw [h1, h2, h3]
  exact h
/-- a call that is an argument -/
theorem w_callF {C : Ct} (h : f ρ S fun d S1 => C [.dat d] S1 Q) : fCall C (gDat f gaNil) ρ S Q := h
theorem w_callF2 {C : Ct} (h : a ρ S fun d S1 => b ρ S1 fun e S2 => C [.dat d, .dat e] S2 Q) : fCall C (gDat a (gDat b gaNil)) ρ S Q := h
theorem w_wel {C : Ct} (h0 : ρ[i]? = some .wel) (h : C [.wel] S Q) : fCall C (gWel i gaNil) ρ S Q := by
  unfold fCall gWel gaNil
  rw [h0]
  exact h
theorem w_welF {C : Ct} (h0 : ρ[i]? = some .wel) (h : f ρ S fun d S1 => C [.wel, .dat d] S1 Q) : fCall C (gWel i (gDat f gaNil)) ρ S Q := by
  unfold fCall gWel gDat gaNil
  rw [h0]
  exact h
theorem w_welF2 {C : Ct} (h0 : ρ[i]? = some .wel) (h : a ρ S fun d S1 => b ρ S1 fun e S2 => C [.wel, .dat d, .dat e] S2 Q) : fCall C (gWel i (gDat a (gDat b gaNil))) ρ S Q := by
  unfold fCall gWel gDat gaNil
  rw [h0]
  exact h
theorem w_ix0 {x : PyData} {r : List PyData} (hρ : ρ[i]? = some (.dat (.tuple (x :: r)))) (h : Q x S) : fOp oIx (fVarB i) (fC (.int 0)) ρ S Q := by
  unfold fOp fVarB fC
  rw [hρ]
  show oIx (.tuple (x :: r)) (.int 0) _
  rw [oIx_tup, atI_zero]
  exact h
theorem w_ix1 {x y : PyData} {r : List PyData} (hρ : ρ[i]? = some (.dat (.tuple (x :: y :: r)))) (h : Q y S) : fOp oIx (fVarB i) (fC (.int 1)) ρ S Q := by
  unfold fOp fVarB fC
  rw [hρ]
  show oIx (.tuple (x :: y :: r)) (.int 1) _
  rw [oIx_tup, atI_one]
  exact h
theorem w_ix2 {x y z : PyData} {r : List PyData} (hρ : ρ[i]? = some (.dat (.tuple (x :: y :: z :: r)))) (h : Q z S) : fOp oIx (fVarB i) (fC (.int 2)) ρ S Q := by
  unfold fOp fVarB fC
  rw [hρ]
  show oIx (.tuple (x :: y :: z :: r)) (.int 2) _
  rw [oIx_tup, atI_two]
  exact h
/-- repr(a) == repr(b) at the end -/
theorem w_same {l : PyData} (ok : showOk l) (hl : ∀ R, oReprG l R = (showOk l ∧ R (.str l.shown))) (ha : ∀ Q : PyData → SW → Prop, Q l S → a ρ S Q) (hb : ∀ Q : PyData → SW → Prop, Q l S → b ρ S Q) (h : Q (.bool true) S) : fOp oEq (fUn oReprG a) (fUn oReprG b) ρ S Q := by
  unfold fOp fUn
  refine ha _ ?_
  rw [hl]
  refine ⟨ok, hb _ ?_⟩
  rw [hl]
  refine ⟨ok, ?_⟩
  show oEq (.str _) (.str _) _
  rw [oEq_str, decide_eq_true rfl]
  exact h
theorem w_differ {l : PyData} (ok : showOk l) (hl : ∀ R, oReprG l R = (showOk l ∧ R (.str l.shown))) (ha : ∀ Q : PyData → SW → Prop, Q l S → a ρ S Q) (hb : ∀ Q : PyData → SW → Prop, Q l S → b ρ S Q) (h : Q (.bool false) S) : fOp oNe (fUn oReprG a) (fUn oReprG b) ρ S Q := by
  unfold fOp fUn
  refine ha _ ?_
  rw [hl]
  refine ⟨ok, hb _ ?_⟩
  rw [hl]
  refine ⟨ok, ?_⟩
  show oNe (.str _) (.str _) _
  rw [oNe_str, decide_eq_true rfl]
  exact h
end
end DL

namespace DL
open PySem PySem.Spec PyProof.Rows L2 PySem.W
/-! ### sorted of alike data -/
def sortD (ds : List PyData) : List PyData := ds.mergeSort (dataLe false fun d => d)
/-- values that stand for data: xs and us, one by one -/
def Both (R : V → PyData → Prop) (u : Value) (d : PyData) : Prop := ∃ x, RelV x u ∧ R x d
def rSortD (K : Fr_) : List V → Hp → VK → Prop := fun vs H Q => ∃ (a : Addr) (xs : List V) (ds : List PyData) (R : V → PyData → Prop), vs = [V.ref a] ∧ SqL K H a xs ∧ DpAll K H xs ds ∧ (∀ us, Vals xs us → EachIs (Both R) us ds) ∧ AllAlike ds ∧ Sortable ds ∧ (∀ d ∈ ds, d.depth ≤ 60) ∧
  ∀ ys p, (∀ us, EachIs (Both R) us (sortD ds) → Vals ys us → True) → EachIs (fun x d => R x d) ys (sortD ds) → H p = none → Q (.ref p) (upd H p (.lst ys))
theorem both_split {R : V → PyData → Prop} : ∀ {us : List Value} {ds : List PyData}, EachIs (Both R) us ds → ∃ ys, Vals ys us ∧ EachIs (fun x d => R x d) ys ds
  | _, _, .nil => ⟨[], .nil, .nil⟩
  | _, _, .cons h t => by
    obtain ⟨x, r, q⟩ := h
    obtain ⟨ys, r2, q2⟩ := both_split t
    exact ⟨x :: ys, .cons r r2, .cons q q2⟩
theorem each_len {α β : Type} {R : α → β → Prop} : ∀ {as : List α} {bs : List β}, EachIs R as bs → as.length = bs.length
  | _, _, .nil => rfl
  | _, _, .cons _ t => by rw [List.length_cons, List.length_cons, each_len t]
theorem cr_sortedD {X : Cx} (hu : X.A.units + 65 < cLine) : CallR X (.builtin "sorted") (rSortD X.K) := by
  intro pins s σ H vs us Q I r h
  obtain ⟨a, xs, ds, R, rfl, hs, hd, hb, hal, hk, hdp, q⟩ := h
  obtain ⟨its, rv, hl, hz⟩ := I.list hs
  rw [Vals.ref1 r]
  obtain ⟨as, ra⟩ := Dp.readsAll I ds xs its hd rv
  have hlen : its.length ≤ sizeLine := by rw [← rv.length]; exact hz
  have e0 : EachIs (fun v d => ∃ as, Reads s.heap v d as) its ds := readsAll_each (enc := fun d => d) (bs := ds) (by rw [List.map_id']; exact ra)
  have e1 : EachIs (fun v d => ∃ as, Reads (sortingHeap (copyHeap s.heap its) (s.heap.objs.size + 1) its) v d as) its ds := e0.mono fun v d ⟨as, r⟩ => ⟨as, Reads.keeps (fun b o e => sorting_copy_old e) r⟩
  refine sorted_vals hl.isList (SortsAt.data e1 hal hk fun d m => by have := hdp d m; show X.A.units + 1 + 1 + d.depth < cLine; omega) hlen ?_
  have e2 := sortVals_data (h' := sortingHeap (copyHeap s.heap its) (s.heap.objs.size + 1) its) (enc := fun d => d) (bs := ds) false (hb its rv) (by exact e1) (by rw [List.map_id']; exact hal)
  rw [List.map_id'] at e2
  generalize sortVals (dataKind (sortingHeap (copyHeap s.heap its) (s.heap.objs.size + 1) its) ds) false its its = out at *
  obtain ⟨ys, r1, r2⟩ := both_split e2
  obtain ⟨ep, he'⟩ := PyProof.Rows.sortedAll_at s.heap its out.toArray
  have ly : ys.length ≤ sizeLine := by
    rw [each_len r2]
    show (ds.mergeSort _).length ≤ _
    rw [(List.mergeSort_perm _ _).length_eq, ← each_len e0]
    exact hlen
  exact ⟨.ref _, upd H (s.heap.objs.size + 1) (.lst ys), I.laid (t' := s.toks) (fun _ _ => PyProof.Rows.sortedAll_old) (Nat.le_succ _) ⟨ly, out, ep, r1, he'⟩, rfl, q _ _ (fun _ _ _ => trivial) r2 (I.hok.fresh (Nat.le_succ _))⟩
theorem cr_sortedH {X : Cx} {k : Nat} (hr : RoomG k X.A) : CallR X (.builtin "sorted") (rSortD X.K) := cr_sortedD (by have := hr.room.un; omega)
def oSorted : O1 := fun x R => match x with
  | .list ds => PyData.canLayAll0 ds = true ∧ AllAlike ds ∧ Sortable ds ∧ (∀ d ∈ ds, d.depth ≤ 60) ∧ R (.list (sortD ds))
  | _ => False
theorem reps_each {K : Fr_} {O : AS} {H : Hp} : ∀ {ds : List PyData} {vs : List V}, Reps K O H ds vs → ∀ us, Vals vs us → EachIs (Both fun x d => Rep K O H d x) us ds
  | [], vs, r, us, q => by
    simp only [Reps] at r
    subst r
    cases q
    exact .nil
  | d :: ds, vs, r, us, q => by
    simp only [Reps] at r
    obtain ⟨v, r', rfl, h1, h2⟩ := r
    cases q with
    | cons q1 q2 => exact .cons ⟨v, q1, h1⟩ (reps_each h2 _ q2)
theorem each_reps {K : Fr_} {O : AS} {H : Hp} : ∀ {vs : List V} {ds : List PyData}, EachIs (fun x d => Rep K O H d x) vs ds → Reps K O H ds vs
  | _, _, .nil => by simp only [Reps]
  | _, _, .cons h t => by
    simp only [Reps]
    exact ⟨_, _, rfl, h, each_reps t⟩
theorem nSorted {K : Fr_} : UnN K (t1 (rSortD K)) oSorted := ⟨fun {O w H x vx R Q} ol rx h k => by
  unfold oSorted at h
  split at h
  · rename_i ds
    obtain ⟨h1, h2, h3, h4, h5⟩ := h
    obtain ⟨p, vs, rfl, q1, r1⟩ := rx.lst
    refine ⟨p, vs, ds, fun x d => Rep K O H d x, rfl, q1, Reps.dp ds vs h1 r1, reps_each r1, h2, h3, h4, fun ys l _ he hl => ?_⟩
    exact k (sortD ds) l ys _ (Same.new hl) hl upd_same (reps_new ol hl (each_reps he)) h5
  · exact h.elim⟩
section
variable {X : Cx} {e a : Expr} {pos p : Pos} {f fa fb : FE} {b : Expr} {tg : Expr}
theorem n_sorted {k : Nat} (hr : RoomG k X.A) (ha : PE X a (rb X.K fa)) (hm : X.mg "sorted" = none) (hg : Gl X "sorted" := by rfl) (hs : starEach (a :: []) X.env = (false, eval a X.env) :: starEach [] X.env := by rfl) (hpl : (backTo pos (starEach [] X.env)).any (·.1) = false := by rfl) :
    PE X (.Call (.Name "sorted" p) [a] [] pos) (rn X.K (fUn oSorted fa)) := PE.imp (pe_callB (cr_sortedH hr) hg hm PyProof.Rows.boot_sorted (pa_cons ha pa_nil hs) (by decide) (by decide) hs hpl) fun σ H Q h => rn_un nSorted h
end
end DL

namespace DL
open PySem PySem.Spec PyProof.Rows L2
/-! ### a list or a tuple walked -/
def iAny (K : PySem.W.Frag) (te : TE) : TI := fun σ H R => te σ H fun x H1 => ∃ a, x = .ref a ∧ (((∃ xs, SqL K H1 a xs) ∧ R (Itl K a) H1) ∨ ((∃ xs, SqT K H1 a xs) ∧ R (Itt K a) H1))
theorem pi_any {X : Cx} {tg l : Expr} {te : TE} (hl : PE X l te) : PI X tg l (iAny X.K te) := by
  refine ⟨fun pins s σ H R I h => ?_⟩
  refine thn (hl.run pins s σ H _ I h) fun v s1 ⟨x, H1, I1, r1, q1⟩ => ?_
  obtain ⟨a, e, q1⟩ := q1
  subst e
  cases r1
  rcases q1 with ⟨⟨xs, hq⟩, q⟩ | ⟨⟨xs, hq⟩, q⟩
  · obtain ⟨its, rv, p, hz⟩ := I1.list hq
    refine wpAny_pyIter_list p.isList ?_
    refine ⟨s1.heap.objs.size, [s1.heap.objs.size], _, _, H1, rfl, I1.kept (t' := s1.toks) fun b o e => Heap.get?_push_of_some _ e, turn_list a _, ⟨_, Heap.get?_push_size _ rfl, rfl, rfl⟩, fun b hb => ?_, q⟩
    have e : b = s1.heap.objs.size := by simpa using hb
    subst e
    exact I1.fpOk (Nat.le_refl _) (I1.hok.fresh (Nat.le_refl _))
  · obtain ⟨its, rv, p, hz⟩ := I1.tuple hq
    refine wpAny_pyIter_tuple (show s1.heap.IsTuple a its.toArray from p) ?_
    refine ⟨s1.heap.objs.size, [s1.heap.objs.size], _, _, H1, rfl, I1.kept (t' := s1.toks) fun b o e => Heap.get?_push_of_some _ e, turn_tuple a _, ⟨_, Heap.get?_push_size _ rfl, rfl, rfl⟩, fun b hb => ?_, q⟩
    have e : b = s1.heap.objs.size := by simpa using hb
    subst e
    exact I1.fpOk (Nat.le_refl _) (I1.hok.fresh (Nat.le_refl _))
def fiA (f : FE) : FI := fun ρ S T => f ρ S fun d S1 => match rowD d with
  | some ds => T ds S1
  | none => False
section
variable {X : Cx} {tg e : Expr} {pos p1 p2 : Pos} {f : FE}
theorem i_any (h : PE X e (rd X.K f)) : PI X tg e (rif X.K (fiA f)) := PI.imp (pi_any h) fun σ H R ⟨Oc, w, ρ, S, T, ev, hf, k⟩ =>
  ⟨Oc, w, ρ, S, _, ev, hf, fun d S1 v H1 ev1 g1 r h1 => by
    cases d with
    | list ds =>
      simp only [Rep] at r
      obtain ⟨a, vs, rfl, q, r⟩ := r
      exact ⟨a, rfl, .inl ⟨⟨vs, q.sq⟩, k ds S1 _ H1 ev1 g1 (itg_list (fun _ z => z) (fun H' s => (QL.step s q).sq) ev1.Ool r) h1⟩⟩
    | tuple ds =>
      simp only [Rep] at r
      obtain ⟨a, vs, rfl, q, r⟩ := r
      exact ⟨a, rfl, .inr ⟨⟨vs, q⟩, k ds S1 _ H1 ev1 g1 (itg_tup (fun _ z => z) q ev1.Ool r) h1⟩⟩
    | _ => exact h1.elim⟩
/-! ### [e] * k -/
def fRep (k : Nat) (f : FE) : FE := fun ρ S R => f ρ S fun d S1 => R (.list (List.replicate k d)) S1
theorem reps_rep {K : Fr_} {O : AS} {H : Hp} {d : PyData} {v : V} (h : Rep K O H d v) : ∀ k, Reps K O H (List.replicate k d) (List.replicate k v)
  | 0 => by simp only [List.replicate, Reps]
  | k + 1 => by
    simp only [List.replicate, Reps]
    exact ⟨v, _, rfl, h, reps_rep h k⟩
theorem flat_rep {α : Type} (v : α) : ∀ k, (List.replicate k [v]).flatten = List.replicate k v
  | 0 => rfl
  | k + 1 => by
    rw [List.replicate_succ, List.flatten_cons, flat_rep v k, List.replicate_succ]
    rfl
theorem d_rep (k : Nat) {j : Nat} (hk : k ≤ 1000) (he : PE X e (rd X.K f)) (hs : starEach (e :: []) X.env = (false, eval e X.env) :: starEach [] X.env := by rfl) : PE X (.BinOp (.List [e] p1) .Mult (.Constant (.int (k : Nat)) j p2) pos) (rd X.K (fRep k f)) :=
  PE.imp (pe_op op_rep (n_lst (a_cons he a_nil hs)) pe_int) fun σ H Q ⟨Oc, w, ρ, S, R, ev, hf, kk⟩ =>
    ⟨Oc, w, ρ, S, fun x S1 => match x with | .list [d] => R (.list (List.replicate k d)) S1 | _ => False, ev, hf, fun ds S1 p vs H1 ev1 g1 n hp r q => by
      dsimp only at q
      split at q
      · rename_i d e
        cases e
        simp only [Reps] at r
        obtain ⟨v, _, rfl, r1, rfl⟩ := r
        have rv : Rep X.K (OO Oc σ ρ) H1 d v := Rep.less (fun a z => .inl z) d v r1
        refine ⟨p, (k : Nat), [v], rfl, rfl, hp, by omega, by omega, ?_, fun t ht => ?_⟩
        · rw [sizeLine_eq, Int.toNat_natCast]
          simp only [List.length_singleton]
          omega
        · rw [Int.toNat_natCast, flat_rep]
          exact kk _ S1 _ _ (ev1.same (Same.new ht)) (g1.trans (Gr.of (Same.new ht))) (rep_lst ev1.Ool ht (reps_rep rv k)) q
      · exact q.elim⟩
end
end DL

namespace DL
open PySem PySem.Spec PyProof.Rows L2
/-! ### // by what may be below 0 -/
def CDivZ (_ j : Int) : Prop := j ≠ 0 ∧ j.natAbs.log2 < 9000
theorem op_fdivZ {X : Cx} : OpR X (binaryOp .FloorDiv) (rI CDivZ fun i j => .int (i.fdiv j)) := opI fun i j _ _ _ _ _ hc q => by
  exact floordiv_int hc.1 q (.inl (PyProof.noPylong_of_log2 hc.2))
section
variable {X : Cx} {a b : Expr} {pos : Pos} {fa fb : FE}
theorem d_fdivZ (ha : PE X a (rb X.K fa)) (hb : PE X b (rb X.K fb)) : PE X (.BinOp a .FloorDiv b pos) (rd X.K (fOp (oIC CDivZ fun i j => .int (i.fdiv j)) fa fb)) := d_bin op_fdivZ sIntC ha hb
end
end DL

/-! ### zip whose pairs are kept -/
namespace DL
open PySem PySem.Spec PyProof.Rows L2 PySem.W
def Ow (v : Value) : Prop := v = .none ∨ ∃ T : Nat, v = rawInt T
abbrev ZipAt (h : Heap) (z TI TO : Addr) (v : Value) (f : Bool) : Prop := h.get? z = some { cls := .type "zip", dict := none, data := .fields #[v, .bool f, .bool false, .ref TI, .ref TO], slots := #[] }
section
variable {prog : Program} {w : World} {A : Around} {E : Value → Shared → Prop} {s : Shared} {z TI TO i1 i2 : Addr} {fp1 fp2 : List Addr} {n1 n2 i : Nat} {P1 P2 : Nat → Value → Prop} {St1 St2 : Nat → Heap → Prop} {a1 a2 v : Value} {f : Bool}
theorem zn_alive {a : Addr} {Q : Option Obj → Shared → Prop} (h : Q (s.heap.get? a) s) : wpAny (model prog w) A (loadIfAlive a) Q E s := fun _ _ _ => h
/-- whether the tuple that was handed out is free -/
theorem zn_free {Q : Bool → Shared → Prop} (hz : ZipAt s.heap z TI TO v f) (ow : Ow v) (h1 : Q true s) (h2 : ∀ h', ZipAt h' z TI TO v true → Heap.SameBut z s.heap h' → Q false { s with heap := h' }) :
    wpAny (model prog w) A (Builtin.SmallTypes.ownedTupleIsFree (.ref z)) Q E s := by
  unfold Builtin.SmallTypes.ownedTupleIsFree
  rcases ow with rfl | ⟨T, rfl⟩
  · exact wpAny_bind (wpAny_field hz rfl (x := .none) rfl (wpAny_pure h1))
  · refine wpAny_bind (wpAny_field hz rfl (x := rawInt T) rfl ?_)
    show wpAny _ _ (loadIfAlive ((T : Int).toNat) >>= _) _ _ _
    rw [Int.toNat_natCast]
    refine wpAny_bind (zn_alive ?_)
    cases e : s.heap.get? T with
    | none => exact wpAny_pure h1
    | some o =>
      simp only [Option.isNone_some, Bool.false_eq_true, if_false]
      refine wpAny_bind (wpAny_field hz rfl (x := .bool f) rfl ?_)
      cases f with
      | true =>
        rw [if_neg (show ¬ ((Value.bool true != Value.bool true) = true) from Bool.false_ne_true)]
        exact wpAny_pure (h2 s.heap hz (Heap.SameBut.refl _ _))
      | false =>
        rw [if_pos (show (Value.bool false != Value.bool true) = true from rfl)]
        exact wpAny_bind (wpAny_setField_rec hz (by simp) fun h' g1 g2 => wpAny_pure (h2 h' g1 g2))
theorem zn_item {Q : Value → Shared → Prop} (S : ZipSep2 z TI TO i1 i2 fp1 fp2) (D1 : Draws prog w A i1 fp1 n1 P1 St1) (D2 : Draws prog w A i2 fp2 n2 P2 St2)
    (hz : ZipAt s.heap z TI TO v f) (ow : Ow v) (hTI : IsTupOf2 s.heap TI (.ref i1) (.ref i2)) (hTO : IsTupOf2 s.heap TO a1 a2) (st1 : St1 i s.heap) (st2 : St2 i s.heap) (hlt1 : i < n1) (hlt2 : i < n2)
    (hQ : ∀ x1 x2 v' f' b1 b2 h' tk, P1 i x1 → P2 i x2 → ZipAt h' z TI TO v' f' → Ow v' → IsTupOf2 h' TO b1 b2 → St1 (i + 1) h' → St2 (i + 1) h' → IsTupOf2 h' s.heap.objs.size x1 x2 → h'.objs.size = s.heap.objs.size + 1 →
      (∀ c o, c ≠ z → c ≠ TO → c ≠ i1 → c ≠ i2 → s.heap.get? c = some o → h'.get? c = some o) → Q (.ref s.heap.objs.size) { s with heap := h', toks := tk }) :
    wpAny (model prog w) A (Builtin.«zip.__next__» ⟨[.ref z], []⟩) (fun fin s' => ∃ v, fin = .done (.ret v) ∧ Q v s') E s := by
  obtain ⟨hp, g, d, tk0, os⟩ := s
  show wpAny _ _ (field (.ref z) 2 >>= _) _ _ _
  refine wpAny_bind (wpAny_field hz rfl (x := .bool false) rfl ?_)
  show wpAny _ _ (field (.ref z) 3 >>= _) _ _ _
  refine wpAny_bind (wpAny_field hz rfl (x := .ref TI) rfl ?_)
  refine wpAny_bind (wpAny_seqItems hTI rfl ?_)
  show wpAny _ _ (Builtin.SmallTypes.ownedTupleIsFree (.ref z) >>= _) _ _ _
  refine wpAny_bind (zn_free hz ow ?_ fun g0 hz0 hs0 => ?_)
  · simp only [if_true]
    refine wpAny_bind (wpAny_rule ?_)
    refine wpAny_bind (wpAny_field hz rfl (x := .ref TO) rfl ?_)
    refine wpAny_bind (wpAny_setField_rec hz (by simp) fun g0 hz0 hs0 => ?_)
    replace hz0 : ZipAt g0 z TI TO .ellipsis f := hz0
    replace hs0 : Heap.SameBut z hp g0 := hs0
    refine wpAny_bind ?_
    simp only [List.zipIdx_cons, List.zipIdx_nil, List.forIn_cons, List.forIn_nil]
    refine wpAny_bind (wpAny_bind (wpAny_onRaise ?_))
    show wpAny _ _ (Builtin.SmallTypes.nextOf (.ref i1) >>= _) _ _ ⟨g0, g, d, tk0, os⟩
    refine wpAny_bind (D1.item i _ _ _ hlt1 (D1.over st1 hs0 S.zf1) fun x1 p1 tk1 hx1 sn1 hp1 => wpAny_pure ?_)
    replace hp1 : Heap.SameBut i1 g0 p1 := hp1
    have hU1 : IsTupOf2 p1 TO a1 a2 := hp1.extBut _ _ S.Ti1 (hs0.extBut _ _ S.TOz hTO)
    refine wpAny_bind (wpAny_seqItems (s := ⟨p1, g, d, tk1, os⟩) hU1 rfl ?_)
    refine wpAny_bind (updateSeq_IsTupOf2 (s := ⟨p1, g, d, tk1, os⟩) hU1 fun g1 hT1 hs1 => ?_)
    replace hT1 : IsTupOf2 g1 TO x1 a2 := hT1
    replace hs1 : Heap.SameBut TO p1 g1 := hs1
    refine wpAny_bind (wpAny_letGo (wpAny_pure ?_))
    refine wpAny_bind (wpAny_bind (wpAny_onRaise ?_))
    show wpAny _ _ (Builtin.SmallTypes.nextOf (.ref i2) >>= _) _ _ ⟨g1, g, d, tk1, os⟩
    refine wpAny_bind (D2.item i _ _ _ hlt2 (D2.over (D2.over (D2.over st2 hs0 S.zf2) hp1 S.sep1_2) hs1 S.Tf2) fun x2 p2 tk2 hx2 sn2 hp2 => wpAny_pure ?_)
    replace hp2 : Heap.SameBut i2 g1 p2 := hp2
    have hU2 : IsTupOf2 p2 TO x1 a2 := hp2.extBut _ _ S.Ti2 hT1
    refine wpAny_bind (wpAny_seqItems (s := ⟨p2, g, d, tk2, os⟩) hU2 rfl ?_)
    refine wpAny_bind (updateSeq_IsTupOf2 (s := ⟨p2, g, d, tk2, os⟩) hU2 fun g2 hT2 hs2 => ?_)
    replace hT2 : IsTupOf2 g2 TO x1 x2 := hT2
    replace hs2 : Heap.SameBut TO p2 g2 := hs2
    refine wpAny_bind (wpAny_letGo (wpAny_pure (wpAny_pure ?_)))
    refine wpAny_bind (wpAny_seqItems (s := ⟨g2, g, d, tk2, os⟩) hT2 rfl ?_)
    refine wpAny_bind (wpAny_newTuple ?_)
    have hsz : g2.objs.size = hp.objs.size := by rw [hs2.1, hp2.1, hs1.1, hp1.1, hs0.1]
    have hzz : ZipAt g2 z TI TO .ellipsis f := hs2.extBut _ _ S.TOz.symm (hp2.extBut _ _ S.zi2 (hs1.extBut _ _ S.TOz.symm (hp1.extBut _ _ S.zi1 hz0)))
    have hj1 : St1 (i + 1) g2 := D1.over (D1.over (D1.over sn1 hs1 S.Tf1) hp2 S.sep2_1) hs2 S.Tf1
    have hj2 : St2 (i + 1) g2 := D2.over sn2 hs2 S.Tf2
    have hzlt : z < g2.objs.size := Heap.lt_size hzz
    show wpAny _ _ (Builtin.SmallTypes.ownedTupleHandOut (.ref z) (.ref g2.objs.size) >>= _) _ _ ⟨g2.push { cls := .type "tuple", data := .seq #[x1, x2] }, g, d, tk2, os⟩
    refine wpAny_bind ?_
    unfold Builtin.SmallTypes.ownedTupleHandOut
    have hz6 : ZipAt (g2.push { cls := .type "tuple", data := .seq #[x1, x2] }) z TI TO .ellipsis f := Heap.get?_push_of_some _ hzz
    refine wpAny_bind (wpAny_setField_rec hz6 (by simp) fun h7 hz7 hs7 => ?_)
    replace hz7 : ZipAt h7 z TI TO (rawInt g2.objs.size) f := hz7
    refine wpAny_setField_rec hz7 (by simp) fun h8 hz8 hs8 => ?_
    replace hz8 : ZipAt h8 z TI TO (rawInt g2.objs.size) false := hz8
    replace hs7 : Heap.SameBut z (g2.push { cls := .type "tuple", data := .seq #[x1, x2] }) h7 := hs7
    replace hs8 : Heap.SameBut z h7 h8 := hs8
    have up : ∀ c o, c ≠ z → g2.get? c = some o → h8.get? c = some o := fun c o c1 e => hs8.extBut _ _ c1 (hs7.extBut _ _ c1 (Heap.get?_push_of_some _ e))
    have hT8 : IsTupOf2 h8 g2.objs.size x1 x2 := hs8.extBut _ _ (Nat.ne_of_gt hzlt) (hs7.extBut _ _ (Nat.ne_of_gt hzlt) (Heap.get?_push_size _ rfl))
    have hz9 : h8.objs.size = g2.objs.size + 1 := by rw [hs8.1, hs7.1, Heap.size_push]
    rw [hsz] at hT8 hz9
    refine wpAny_pure ⟨_, rfl, ?_⟩
    show Q (.ref g2.objs.size) ⟨h8, g, d, tk2, os⟩
    rw [hsz]
    exact hQ x1 x2 _ _ x1 x2 h8 tk2 hx1 hx2 hz8 (.inr ⟨_, rfl⟩) (up _ _ S.TOz hT2) (D1.frame _ _ _ hj1 fun b hb o e => up b o (fun q => S.zf1 (q ▸ hb)) e) (D2.frame _ _ _ hj2 fun b hb o e => up b o (fun q => S.zf2 (q ▸ hb)) e) hT8 hz9
      fun c o cz cT c1 c2 e => up c o cz (hs2.extBut _ _ cT (hp2.extBut _ _ c2 (hs1.extBut _ _ cT (hp1.extBut _ _ c1 (hs0.extBut _ _ cz e)))))
  · simp only [Bool.false_eq_true, if_false]
    refine wpAny_bind ?_
    rw [← Array.forIn_toList]
    simp only [List.forIn_cons, List.forIn_nil]
    refine wpAny_bind (wpAny_bind (wpAny_holding ?_))
    show wpAny _ _ (Builtin.SmallTypes.nextOf (.ref i1) >>= _) _ _ ⟨g0, g, d, tk0, os⟩
    replace hs0 : Heap.SameBut z hp g0 := hs0
    refine wpAny_bind (D1.item i _ _ _ hlt1 (D1.over st1 hs0 S.zf1) fun x1 p1 tk1 hx1 sn1 hp1 => wpAny_pure (wpAny_pure ?_))
    replace hp1 : Heap.SameBut i1 g0 p1 := hp1
    refine wpAny_bind (wpAny_bind (wpAny_holding ?_))
    show wpAny _ _ (Builtin.SmallTypes.nextOf (.ref i2) >>= _) _ _ ⟨p1, g, d, tk1, os⟩
    refine wpAny_bind (D2.item i _ _ _ hlt2 (D2.over (D2.over st2 hs0 S.zf2) hp1 S.sep1_2) fun x2 p2 tk2 hx2 sn2 hp2 => wpAny_pure (wpAny_pure (wpAny_pure ?_)))
    replace hp2 : Heap.SameBut i2 p1 p2 := hp2
    show wpAny _ _ (newTuple [x1, x2] >>= _) _ _ ⟨p2, g, d, tk2, os⟩
    refine wpAny_bind (wpAny_newTuple ?_)
    have hsz : p2.objs.size = hp.objs.size := by rw [hp2.1, hp1.1, hs0.1]
    have hz3 : ZipAt p2 z TI TO v true := hp2.extBut _ _ S.zi2 (hp1.extBut _ _ S.zi1 hz0)
    have hk : ∀ c o, c ≠ z → c ≠ i1 → c ≠ i2 → hp.get? c = some o → p2.get? c = some o := fun c o c1 c2 c3 e => hp2.extBut _ _ c3 (hp1.extBut _ _ c2 (hs0.extBut _ _ c1 e))
    have hj1 : St1 (i + 1) p2 := D1.over sn1 hp2 S.sep2_1
    have up : ∀ c o, p2.get? c = some o → (p2.push { cls := .type "tuple", data := .seq #[x1, x2] }).get? c = some o := fun c o e => Heap.get?_push_of_some _ e
    have hT8 : IsTupOf2 (p2.push { cls := .type "tuple", data := .seq #[x1, x2] }) p2.objs.size x1 x2 := Heap.get?_push_size _ rfl
    have hz9 : (p2.push { cls := .type "tuple", data := .seq #[x1, x2] }).objs.size = p2.objs.size + 1 := Heap.size_push ..
    rw [hsz] at hT8 hz9
    refine wpAny_pure ⟨_, rfl, ?_⟩
    show Q (.ref p2.objs.size) _
    rw [hsz]
    exact hQ x1 x2 v true a1 a2 _ tk2 hx1 hx2 (up _ _ hz3) ow (up _ _ (hk _ _ S.TOz S.Ti1 S.Ti2 hTO)) (D1.frame _ _ _ hj1 fun b _ o e => up b o e) (D2.frame _ _ _ sn2 fun b _ o e => up b o e) hT8 hz9
      fun c o cz _ c1 c2 e => up c o (hk c o cz c1 c2 e)
end
end DL

namespace DL
open PySem PySem.Spec PyProof.Rows L2 PySem.W
section
variable {prog : Program} {w : World} {A : Around} {E : Value → Shared → Prop} {s : Shared} {z TI TO i1 i2 : Addr} {fp1 fp2 : List Addr} {n1 n2 i : Nat} {P1 P2 : Nat → Value → Prop} {St1 St2 : Nat → Heap → Prop} {a1 a2 v : Value} {f : Bool}
theorem zn_end {Q : Fin → Shared → Prop} (S : ZipSep2 z TI TO i1 i2 fp1 fp2) (D1 : Draws prog w A i1 fp1 n1 P1 St1) (D2 : Draws prog w A i2 fp2 n2 P2 St2)
    (hz : ZipAt s.heap z TI TO v f) (ow : Ow v) (hTI : IsTupOf2 s.heap TI (.ref i1) (.ref i2)) (hTO : IsTupOf2 s.heap TO a1 a2) (st1 : St1 i s.heap) (st2 : St2 i s.heap) (hle1 : i ≤ n1) (hle2 : i ≤ n2) (hend : i = n1 ∨ i = n2)
    (hE : ∀ h' tk e, (∀ c o, c ≠ z → c ≠ TO → c ≠ i1 → c ≠ i2 → s.heap.get? c = some o → h'.get? c = some o) → (∃ o, h'.get? e = some o ∧ o.cls = .type "StopIteration") → E (.ref e) { s with heap := h', toks := tk }) :
    wpAny (model prog w) A (Builtin.«zip.__next__» ⟨[.ref z], []⟩) Q E s := by
  obtain ⟨hp, g, d, tk0, os⟩ := s
  show wpAny _ _ (field (.ref z) 2 >>= _) _ _ _
  refine wpAny_bind (wpAny_field hz rfl (x := .bool false) rfl ?_)
  show wpAny _ _ (field (.ref z) 3 >>= _) _ _ _
  refine wpAny_bind (wpAny_field hz rfl (x := .ref TI) rfl ?_)
  refine wpAny_bind (wpAny_seqItems hTI rfl ?_)
  show wpAny _ _ (Builtin.SmallTypes.ownedTupleIsFree (.ref z) >>= _) _ _ _
  refine wpAny_bind (zn_free hz ow ?_ fun g0 hz0 hs0 => ?_)
  · simp only [if_true]
    refine wpAny_bind (wpAny_rule ?_)
    refine wpAny_bind (wpAny_field hz rfl (x := .ref TO) rfl ?_)
    refine wpAny_bind (wpAny_setField_rec hz (by simp) fun g0 hz0 hs0 => ?_)
    replace hz0 : ZipAt g0 z TI TO .ellipsis f := hz0
    replace hs0 : Heap.SameBut z hp g0 := hs0
    refine wpAny_bind ?_
    simp only [List.zipIdx_cons, List.zipIdx_nil, List.forIn_cons, List.forIn_nil]
    refine wpAny_bind (wpAny_bind (wpAny_onRaise ?_))
    show wpAny _ _ (Builtin.SmallTypes.nextOf (.ref i1) >>= _) _ _ ⟨g0, g, d, tk0, os⟩
    by_cases hlt1 : i < n1
    · refine wpAny_bind (D1.item i _ _ _ hlt1 (D1.over st1 hs0 S.zf1) fun x1 p1 tk1 hx1 sn1 hp1 => wpAny_pure ?_)
      replace hp1 : Heap.SameBut i1 g0 p1 := hp1
      have hU1 : IsTupOf2 p1 TO a1 a2 := hp1.extBut _ _ S.Ti1 (hs0.extBut _ _ S.TOz hTO)
      refine wpAny_bind (wpAny_seqItems (s := ⟨p1, g, d, tk1, os⟩) hU1 rfl ?_)
      refine wpAny_bind (updateSeq_IsTupOf2 (s := ⟨p1, g, d, tk1, os⟩) hU1 fun g1 hT1 hs1 => ?_)
      replace hs1 : Heap.SameBut TO p1 g1 := hs1
      refine wpAny_bind (wpAny_letGo (wpAny_pure ?_))
      have hi2 : i = n2 := by omega
      refine wpAny_bind (wpAny_bind (wpAny_onRaise ?_))
      show wpAny _ _ (Builtin.SmallTypes.nextOf (.ref i2) >>= _) _ _ ⟨g1, g, d, tk1, os⟩
      refine wpAny_bind (D2.done ⟨g1, g, d, tk1, os⟩ _ _ (by rw [← hi2]; exact D2.over (D2.over (D2.over st2 hs0 S.zf2) hp1 S.sep1_2) hs1 S.Tf2) fun q e hq he => ?_)
      replace hq : Heap.ExtBut i2 g1 q := hq
      obtain ⟨oe, hoe, hce⟩ := he
      replace hoe : q.get? e = some oe := hoe
      have hzq : ZipAt q z TI TO .ellipsis f := hq _ _ S.zi2 (hs1.extBut _ _ S.TOz.symm (hp1.extBut _ _ S.zi1 hz0))
      have hez : e ≠ z := fun x => by subst x; rw [hzq] at hoe; cases hoe; simp at hce
      refine wpAny_setField_rec (s := ⟨q, g, d, tk1, os⟩) hzq (by simp) fun q' _ hq' => ?_
      replace hq' : Heap.SameBut z q q' := hq'
      exact hE q' tk1 e (fun c o cz cT c1 c2 x => hq'.extBut _ _ cz (hq _ _ c2 (hs1.extBut _ _ cT (hp1.extBut _ _ c1 (hs0.extBut _ _ cz x))))) ⟨oe, hq'.extBut _ _ hez hoe, hce⟩
    · have hi1 : i = n1 := by omega
      refine wpAny_bind (D1.done ⟨g0, g, d, tk0, os⟩ _ _ (by rw [← hi1]; exact D1.over st1 hs0 S.zf1) fun q e hq he => ?_)
      replace hq : Heap.ExtBut i1 g0 q := hq
      obtain ⟨oe, hoe, hce⟩ := he
      replace hoe : q.get? e = some oe := hoe
      have hzq : ZipAt q z TI TO .ellipsis f := hq _ _ S.zi1 hz0
      have hez : e ≠ z := fun x => by subst x; rw [hzq] at hoe; cases hoe; simp at hce
      refine wpAny_setField_rec (s := ⟨q, g, d, tk0, os⟩) hzq (by simp) fun q' _ hq' => ?_
      replace hq' : Heap.SameBut z q q' := hq'
      exact hE q' tk0 e (fun c o cz cT c1 c2 x => hq'.extBut _ _ cz (hq _ _ c1 (hs0.extBut _ _ cz x))) ⟨oe, hq'.extBut _ _ hez hoe, hce⟩
  · simp only [Bool.false_eq_true, if_false]
    replace hs0 : Heap.SameBut z hp g0 := hs0
    refine wpAny_bind ?_
    rw [← Array.forIn_toList]
    simp only [List.forIn_cons, List.forIn_nil]
    refine wpAny_bind (wpAny_bind (wpAny_holding ?_))
    show wpAny _ _ (Builtin.SmallTypes.nextOf (.ref i1) >>= _) _ _ ⟨g0, g, d, tk0, os⟩
    by_cases hlt1 : i < n1
    · refine wpAny_bind (D1.item i _ _ _ hlt1 (D1.over st1 hs0 S.zf1) fun x1 p1 tk1 hx1 sn1 hp1 => wpAny_pure (wpAny_pure ?_))
      replace hp1 : Heap.SameBut i1 g0 p1 := hp1
      have hi2 : i = n2 := by omega
      refine wpAny_bind (wpAny_bind (wpAny_holding ?_))
      show wpAny _ _ (Builtin.SmallTypes.nextOf (.ref i2) >>= _) _ _ ⟨p1, g, d, tk1, os⟩
      refine wpAny_bind (D2.done ⟨p1, g, d, tk1, os⟩ _ _ (by rw [← hi2]; exact D2.over (D2.over st2 hs0 S.zf2) hp1 S.sep1_2) fun q e hq he => ?_)
      exact hE q tk1 e (fun c o cz _ c1 c2 x => hq _ _ c2 (hp1.extBut _ _ c1 (hs0.extBut _ _ cz x))) he
    · have hi1 : i = n1 := by omega
      refine wpAny_bind (D1.done ⟨g0, g, d, tk0, os⟩ _ _ (by rw [← hi1]; exact D1.over st1 hs0 S.zf1) fun q e hq he => ?_)
      exact hE q tk0 e (fun c o cz _ c1 c2 x => hq _ _ c1 (hs0.extBut _ _ cz x)) he
theorem zn_next {Q : Option Value → Shared → Prop} (S : ZipSep2 z TI TO i1 i2 fp1 fp2) (D1 : Draws prog w A.in1 i1 fp1 n1 P1 St1) (D2 : Draws prog w A.in1 i2 fp2 n2 P2 St2)
    (hz : ZipAt s.heap z TI TO v f) (ow : Ow v) (hTI : IsTupOf2 s.heap TI (.ref i1) (.ref i2)) (hTO : IsTupOf2 s.heap TO a1 a2) (st1 : St1 i s.heap) (st2 : St2 i s.heap) (hlt1 : i < n1) (hlt2 : i < n2)
    (hQ : ∀ x1 x2 v' f' b1 b2 h' tk, P1 i x1 → P2 i x2 → ZipAt h' z TI TO v' f' → Ow v' → IsTupOf2 h' TO b1 b2 → St1 (i + 1) h' → St2 (i + 1) h' → IsTupOf2 h' s.heap.objs.size x1 x2 → h'.objs.size = s.heap.objs.size + 1 →
      (∀ c o, c ≠ z → c ≠ TO → c ≠ i1 → c ≠ i2 → s.heap.get? c = some o → h'.get? c = some o) → Q (some (.ref s.heap.objs.size)) { s with heap := h', toks := tk }) :
    wpAny (model prog w) A (pyNext (.ref z)) Q E s := by
  have hT : s.TypeIs (.ref z) "zip" := ⟨_, hz, rfl⟩
  unfold pyNext
  exact wpAny_bind (wpAny_attempt (wpAny_callSpecial?_slot (name := Str.ofString "__next__") hT F.slot_zip_next
    (wpAny_call_entry F.slot_zip_next hT F.entry_zip_next
      (zn_item S D1 D2 hz ow hTI hTO st1 st2 hlt1 hlt2 fun x1 x2 v' f' c1 c2 h' tk y1 y2 b1 b2 b3 d1 d2 b5 b6 b7 => wpAny_pure (hQ x1 x2 v' f' c1 c2 h' tk y1 y2 b1 b2 b3 d1 d2 b5 b6 b7)) (F.args_zip_next_1 _))))
theorem zn_stop {Q : Option Value → Shared → Prop} (S : ZipSep2 z TI TO i1 i2 fp1 fp2) (D1 : Draws prog w A.in1 i1 fp1 n1 P1 St1) (D2 : Draws prog w A.in1 i2 fp2 n2 P2 St2)
    (hz : ZipAt s.heap z TI TO v f) (ow : Ow v) (hTI : IsTupOf2 s.heap TI (.ref i1) (.ref i2)) (hTO : IsTupOf2 s.heap TO a1 a2) (st1 : St1 i s.heap) (st2 : St2 i s.heap) (hle1 : i ≤ n1) (hle2 : i ≤ n2) (hend : i = n1 ∨ i = n2)
    (hQ : ∀ h' tk, (∀ c o, c ≠ z → c ≠ TO → c ≠ i1 → c ≠ i2 → s.heap.get? c = some o → h'.get? c = some o) → Q none { s with heap := h', toks := tk }) : wpAny (model prog w) A (pyNext (.ref z)) Q E s := by
  have hT : s.TypeIs (.ref z) "zip" := ⟨_, hz, rfl⟩
  unfold pyNext
  refine wpAny_bind (wpAny_attempt (wpAny_callSpecial?_slot (name := Str.ofString "__next__") hT F.slot_zip_next
    (wpAny_call_entry F.slot_zip_next hT F.entry_zip_next (zn_end S D1 D2 hz ow hTI hTO st1 st2 hle1 hle2 hend fun h' tk e hk he => ?_) (F.args_zip_next_1 _))))
  obtain ⟨o, ho, hc⟩ := he
  refine wpAny_bind (wpAny_isInstance (T := "StopIteration") (b := true) ⟨o, ho, hc⟩ isSubtype_stop ?_)
  exact wpAny_pure (hQ _ _ hk)
theorem zn_iter {Q : Value → Shared → Prop} (hz : ZipAt s.heap z TI TO v f) (h : Q (.ref z) s) : wpAny (model prog w) A (pyIter (.ref z)) Q E s := by
  have hT : s.TypeIs (.ref z) "zip" := ⟨_, hz, rfl⟩
  refine wpAny_pyIter_slot hT F.slot_zip_iter (wpAny_call_entry F.slot_zip_iter hT F.entry_zip_iter ?_ (F.args_zip_iter_1 _))
  show wpAny _ _ (ret (.ref z)) _ _ s
  exact wpAny_pure ⟨_, rfl, "zip", _, hT, F.slot_zip_next.lookup, h⟩
/-! a list or a tuple -/
def ItAt (b : Bool) (h : Heap) (it l : Addr) (i : Nat) : Prop := if b = true then h.IsListIter it l i else h.IsTupleIter it l i
def SrcAt (b : Bool) (h : Heap) (l : Addr) (items : Array Value) : Prop := if b = true then h.IsList l items else h.IsTuple l items
theorem draws_of (b : Bool) (hh : A.handled = none) (it l : Addr) (hne : l ≠ it) (items : Array Value) : Draws prog w A it [it, l] items.size (fun i v => items[i]? = some v) (fun i h => ItAt b h it l i ∧ SrcAt b h l items) := by
  cases b
  · show Draws prog w A it [it, l] items.size (fun i v => items[i]? = some v) (fun i h => h.IsTupleIter it l i ∧ h.IsTuple l items)
    exact {
      live := fun _ _ st => let ⟨o, ho, _⟩ := st.1; ⟨o, ho⟩
      frame := fun _ _ _ st hk => ⟨st.1.at fun o e => hk it (by simp) o e, by
        obtain ⟨o, ho, r⟩ := st.2
        exact ⟨o, hk l (by simp) o ho, r⟩⟩
      item := fun i s Q E hi st hQ => by
        refine RZ.nextOf_tuple_item st.1 st.2 (x := items[i]) (by simp [hi]) fun h' hit' hs' => ?_
        refine hQ _ h' s.toks (by simp [hi]) ⟨hit', ?_⟩ hs'
        obtain ⟨o, ho, r⟩ := st.2
        exact ⟨o, hs'.extBut _ _ hne ho, r⟩
      done := fun s Q E st hE => RZ.nextOf_tuple_end hh st.1 st.2 (by simp) hE }
  · exact Draws.list hh it l hne items
end
def SqS (b : Bool) (K : PySem.W.Frag) (H : Hp) (a : Addr) (xs : List V) : Prop := if b = true then SqL K H a xs else SqT K H a xs
def ZTn (b : Bool) (a c z TI TO i1 i2 : Addr) (i : Nat) (h : Heap) : Prop := ∃ v f, ZipAt h z TI TO v f ∧ Ow v ∧ IsTupOf2 h TI (.ref i1) (.ref i2) ∧ (∃ x y, IsTupOf2 h TO x y) ∧ ItAt b h i1 a i ∧ ItAt b h i2 c i
theorem zsep {z TI TO i1 i2 a c : Addr} (D : ZipApart z TI TO i1 i2 a c) : ZipSep2 z TI TO i1 i2 [i1, a] [i2, c] where
  TIz := D.TIz
  TOz := D.TOz
  TITO := D.TITO
  TIi1 := D.TIi1
  mem1 := by simp
  zf1 := by simp [D.i1z.symm, D.l1z.symm]
  Tf1 := by simp [D.TOi1, D.l1TO.symm]
  TIi2 := D.TIi2
  mem2 := by simp
  zf2 := by simp [D.i2z.symm, D.l2z.symm]
  Tf2 := by simp [D.TOi2, D.l2TO.symm]
  sep1_2 := by simp [D.i12, D.l2i1.symm]
  sep2_1 := by simp [D.i12.symm, D.l1i2.symm]
section
variable {X : Cx} {pins : List (Addr × Obj)} {s : Shared} {σ : L2.St} {H : Hp} {A : Around} {E : Value → Shared → Prop} {b : Bool} {a c z TI TO i1 i2 : Addr} {i : Nat} {xs ys : List V} {x y : V}
theorem src_of (I : Inv X pins σ H s) (h : SqS b X.K H a xs) : ∃ its : List Value, Vals xs its ∧ SrcAt b s.heap a its.toArray := by
  cases b
  · obtain ⟨its, rv, p, _⟩ := I.tuple h
    exact ⟨its, rv, p⟩
  · obtain ⟨its, rv, p, _⟩ := I.list h
    exact ⟨its, rv, p.isList⟩
abbrev zfp (z TI TO i1 i2 : Addr) : List Addr := [z, TI, TO, i1, i2]
theorem zn_go {Q : Option Value → Shared → Prop} (hh : A.handled = none) (D : ZipApart z TI TO i1 i2 a c) (I : Inv X pins σ H s) (hf : ∀ b ∈ zfp z TI TO i1 i2, FpOk X pins H b) (st : ZTn b a c z TI TO i1 i2 i s.heap) (hx : SqS b X.K H a xs) (hy : SqS b X.K H c ys) (ex : xs[i]? = some x) (ey : ys[i]? = some y)
    (hQ : ∀ h' tk, Inv X pins σ (upd H s.heap.objs.size (.tup [x, y])) { s with heap := h', toks := tk } → ZTn b a c z TI TO i1 i2 (i + 1) h' → H s.heap.objs.size = none → (∀ b ∈ zfp z TI TO i1 i2, FpOk X pins (upd H s.heap.objs.size (.tup [x, y])) b) → Q (some (.ref s.heap.objs.size)) { s with heap := h', toks := tk }) :
    wpAny (model X.prog X.w) A (pyNext (.ref z)) Q E s := by
  obtain ⟨v, f, hz, ow, hTI, ⟨b1, b2, hTO⟩, h1, h2⟩ := st
  obtain ⟨its, rv, p⟩ := src_of I hx
  obtain ⟨its2, rv2, p2⟩ := src_of I hy
  obtain ⟨u, hu, ru⟩ := rv.get ex
  obtain ⟨u2, hu2, ru2⟩ := rv2.get ey
  have l1 : i < its.toArray.size := by rw [List.size_toArray]; exact (List.getElem?_eq_some_iff.mp hu).1
  have l2 : i < its2.toArray.size := by rw [List.size_toArray]; exact (List.getElem?_eq_some_iff.mp hu2).1
  have hh1 : A.in1.handled = none := hh
  refine zn_next (zsep D) (draws_of b hh1 i1 a D.l1i1 its.toArray) (draws_of b hh1 i2 c D.l2i2 its2.toArray) hz ow hTI hTO ⟨h1, p⟩ ⟨h2, p2⟩ l1 l2 fun x1 x2 v' f' c1 c2 h' tk y1 y2 z' ow' TO' s1 s2 hT hsz hk => ?_
  have e1 : x1 = u := by
    have : its[i]? = some x1 := by simpa using y1
    rw [hu] at this
    exact (Option.some.inj this).symm
  have e2 : x2 = u2 := by
    have : its2[i]? = some x2 := by simpa using y2
    rw [hu2] at this
    exact (Option.some.inj this).symm
  subst e1
  subst e2
  have new : ObjOk X.prog X.w (upd H s.heap.objs.size (.tup [x, y])) h' s.heap.objs.size (.tup [x, y]) :=
    ⟨by show 2 ≤ sizeLine; decide, [x1, x2], .cons ru (.cons ru2 .nil), ⟨_, hT, rfl, _, rfl⟩⟩
  have I1 : Inv X pins σ (upd H s.heap.objs.size (.tup [x, y])) { s with heap := h', toks := tk } :=
    I.turnedNew (ch := zfp z TI TO i1 i2) (fun c o hb q => hk c o (fun q' => hb (by simp [q'])) (fun q' => hb (by simp [q'])) (fun q' => hb (by simp [q'])) (fun q' => hb (by simp [q'])) q) hf (Nat.le_refl _) new
  refine hQ h' tk I1 ⟨v', f', z', ow', hk _ _ D.TIz D.TITO D.TIi1 D.TIi2 hTI, ⟨_, _, TO'⟩, s1.1, s2.1⟩ (I.hok.fresh (Nat.le_refl _)) fun d hd => ?_
  refine ⟨?_, (hf d hd).2⟩
  have hlt : d < s.heap.objs.size := by
    have it_lt : ∀ {it l : Addr}, ItAt b s.heap it l i → it < s.heap.objs.size := fun {it l} q => by
      cases b
      · obtain ⟨_, e1, _⟩ := (show s.heap.IsTupleIter it l i from q); exact Heap.lt_size e1
      · obtain ⟨_, e1, _⟩ := (show s.heap.IsListIter it l i from q); exact Heap.lt_size e1
    have e' : d = z ∨ d = TI ∨ d = TO ∨ d = i1 ∨ d = i2 := by simpa using hd
    rcases e' with q | q | q | q | q
    · rw [q]; exact Heap.lt_size hz
    · rw [q]; exact Heap.lt_size hTI
    · rw [q]; exact Heap.lt_size hTO
    · rw [q]; exact it_lt h1
    · rw [q]; exact it_lt h2
  rw [upd_ne (Nat.ne_of_lt hlt)]
  exact (hf d hd).1
theorem zn_fin {Q : Option Value → Shared → Prop} (hh : A.handled = none) (D : ZipApart z TI TO i1 i2 a c) (I : Inv X pins σ H s) (hf : ∀ b ∈ zfp z TI TO i1 i2, FpOk X pins H b) (st : ZTn b a c z TI TO i1 i2 i s.heap) (hx : SqS b X.K H a xs) (hy : SqS b X.K H c ys) (l1 : i ≤ xs.length) (l2 : i ≤ ys.length) (hend : i = xs.length ∨ i = ys.length)
    (hQ : ∀ h' tk, Inv X pins σ H { s with heap := h', toks := tk } → Q none { s with heap := h', toks := tk }) : wpAny (model X.prog X.w) A (pyNext (.ref z)) Q E s := by
  obtain ⟨v, f, hz, ow, hTI, ⟨b1, b2, hTO⟩, h1, h2⟩ := st
  obtain ⟨its, rv, p⟩ := src_of I hx
  obtain ⟨its2, rv2, p2⟩ := src_of I hy
  have e1 := rv.length
  have e2 := rv2.length
  have hh1 : A.in1.handled = none := hh
  refine zn_stop (zsep D) (draws_of b hh1 i1 a D.l1i1 its.toArray) (draws_of b hh1 i2 c D.l2i2 its2.toArray) hz ow hTI hTO ⟨h1, p⟩ ⟨h2, p2⟩ (by rw [List.size_toArray]; omega) (by rw [List.size_toArray]; omega) (by rw [List.size_toArray, List.size_toArray]; omega) fun h' tk hk => ?_
  exact hQ h' tk (I.turnedL (t' := tk) (ch := zfp z TI TO i1 i2) (fun c o hb q => hk c o (fun q' => hb (by simp [q'])) (fun q' => hb (by simp [q'])) (fun q' => hb (by simp [q'])) (fun q' => hb (by simp [q'])) q) hf)
end
end DL

namespace DL
open PySem PySem.Spec PyProof.Rows L2 PySem.W
/-! ### zip: its pairs kept by a name -/
def ItzN (b : Bool) (K : PySem.W.Frag) (a c : Addr) : It :=
  ⟨fun i H => ∃ (xs ys : List V) (x y : V), SqS b K H a xs ∧ SqS b K H c ys ∧ xs[i]? = some x ∧ ys[i]? = some y,
    fun i H v H' => ∃ T x y, v = .ref T ∧ H T = none ∧ H' = upd H T (.tup [x, y]) ∧ (∀ xs, SqS b K H a xs → xs[i]? = some x) ∧ ∀ ys, SqS b K H c ys → ys[i]? = some y,
    fun i H => ∃ xs ys : List V, SqS b K H a xs ∧ SqS b K H c ys ∧ i ≤ xs.length ∧ i ≤ ys.length ∧ (i = xs.length ∨ i = ys.length)⟩
theorem sq_inj {X : Cx} {pins : List (Addr × Obj)} {s : Shared} {σ : L2.St} {H : Hp} {b : Bool} {a : Addr} {xs ys : List V} (I : Inv X pins σ H s) (h : SqS b X.K H a xs) (h' : SqS b X.K H a ys) : xs = ys := by
  cases b
  · exact I.tuple_inj h h'
  · exact I.list_inj h h'
theorem it_keep {b : Bool} {h h' : Heap} {it l : Addr} {i : Nat} (st : ItAt b h it l i) (k : ∀ o, h.get? it = some o → h'.get? it = some o) : ItAt b h' it l i := by
  cases b
  · exact (show h.IsTupleIter it l i from st).at k
  · exact (show h.IsListIter it l i from st).at k
theorem it_obj {b : Bool} {h : Heap} {it l : Addr} {i : Nat} (st : ItAt b h it l i) : ∃ o, h.get? it = some o ∧ ∀ v, o.data ≠ .cell v := by
  cases b
  · obtain ⟨o, e, _, d⟩ := (show h.IsTupleIter it l i from st); exact ⟨o, e, fun v q => by rw [d] at q; cases q⟩
  · obtain ⟨o, e, _, d⟩ := (show h.IsListIter it l i from st); exact ⟨o, e, fun v q => by rw [d] at q; cases q⟩
theorem turn_zipN {P : Program} {w : World} {K : PySem.W.Frag} {x : Str} {tpos : Pos} {b : Bool} {a c z TI TO i1 i2 : Addr} (D : ZipApart z TI TO i1 i2 a c) :
    Turn P w K (.Name x tpos) (ItzN b K a c) (zfp z TI TO i1 i2) z (fun i h => ZTn b a c z TI TO i1 i2 i h) where
  mem := by simp
  obj := fun i h st c hc => by
    obtain ⟨v, f, hz, ow, hTI, ⟨x, y, hTO⟩, h1, h2⟩ := st
    have e' : c = z ∨ c = TI ∨ c = TO ∨ c = i1 ∨ c = i2 := by simpa using hc
    rcases e' with q | q | q | q | q
    · rw [q]; exact ⟨_, hz, fun v q => nomatch q⟩
    · rw [q]; exact ⟨_, hTI, fun v q => nomatch q⟩
    · rw [q]; exact ⟨_, hTO, fun v q => nomatch q⟩
    · rw [q]; exact it_obj h1
    · rw [q]; exact it_obj h2
  keep := fun i h h' st k => by
    obtain ⟨v, f, hz, ow, hTI, ⟨x, y, hTO⟩, h1, h2⟩ := st
    exact ⟨v, f, k z (by simp) _ hz, ow, k TI (by simp) _ hTI, ⟨x, y, k TO (by simp) _ hTO⟩, it_keep h1 fun o q => k i1 (by simp) o q, it_keep h2 fun o q => k i2 (by simp) o q⟩
  item := by
    intro X hP hw hK hc i pins s σ H E I hf st hg
    subst hP hw hK
    obtain ⟨xs, ys, x, y, hqx, hqy, hx, hy⟩ := hg
    refine zn_go (I.ok.hd hc) D I hf st hqx hqy hx hy fun h' tk I1 st' hn hf' => ⟨_, rfl, wpAny_pure ⟨.ref s.heap.objs.size, _, I1, rfl, ⟨_, x, y, rfl, hn, rfl, fun l hl => by rw [sq_inj I hl hqx]; exact hx, fun l hl => by rw [sq_inj I hl hqy]; exact hy⟩, st', fun c hc => (hf' c hc).1⟩⟩
  done := by
    intro X hP hw hK hc i pins s σ H E I hf st hg
    subst hP hw hK
    obtain ⟨xs, ys, hqx, hqy, l1, l2, hend⟩ := hg
    exact zn_fin (I.ok.hd hc) D I hf st hqx hqy l1 l2 hend fun h' tk I1 => ⟨rfl, I1⟩
  self := fun A i s Q E st h => by
    obtain ⟨v, f, hz, _⟩ := st
    exact zn_iter hz h
/-- zip(e, e2) is called: two lists or two tuples -/
theorem call_zn {X : Cx} {pins : List (Addr × Obj)} {s1 : Shared} {σ : L2.St} {H1 : Hp} {A : Around} {E : Value → Shared → Prop} {Q : Value → Shared → Prop} {b : Bool} {a c : Addr} {xs ys : List V} (I1 : Inv X pins σ H1 s1) (hqx : SqS b X.K H1 a xs) (hqy : SqS b X.K H1 c ys)
    (h : ∀ h', Inv X pins σ H1 { s1 with heap := h' } → ZipApart (s1.heap.objs.size + 4) (s1.heap.objs.size + 2) (s1.heap.objs.size + 3) s1.heap.objs.size (s1.heap.objs.size + 1) a c →
      ZTn b a c (s1.heap.objs.size + 4) (s1.heap.objs.size + 2) (s1.heap.objs.size + 3) s1.heap.objs.size (s1.heap.objs.size + 1) 0 h' →
      (∀ d ∈ zfp (s1.heap.objs.size + 4) (s1.heap.objs.size + 2) (s1.heap.objs.size + 3) s1.heap.objs.size (s1.heap.objs.size + 1), FpOk X pins H1 d) → Q (.ref (s1.heap.objs.size + 4)) { s1 with heap := h' }) :
    wpAny (model X.prog X.w) A (call (.type "zip") [.ref a, .ref c]) Q E s1 := by
  have fresh5 : ∀ d ∈ zfp (s1.heap.objs.size + 4) (s1.heap.objs.size + 2) (s1.heap.objs.size + 3) s1.heap.objs.size (s1.heap.objs.size + 1), FpOk X pins H1 d := fun d hd => by
    have e' : d = s1.heap.objs.size + 4 ∨ d = s1.heap.objs.size + 2 ∨ d = s1.heap.objs.size + 3 ∨ d = s1.heap.objs.size ∨ d = s1.heap.objs.size + 1 := by simpa using hd
    have hle : s1.heap.objs.size ≤ d := by
      rcases e' with z | z | z | z | z
      · rw [z]; exact Nat.le_add_right _ _
      · rw [z]; exact Nat.le_add_right _ _
      · rw [z]; exact Nat.le_add_right _ _
      · rw [z]; exact Nat.le_refl _
      · rw [z]; exact Nat.le_add_right _ _
    exact I1.fpOk hle (I1.hok.fresh hle)
  cases b
  · obtain ⟨its, rv, p1, _⟩ := I1.tuple hqx
    obtain ⟨its2, rv2, p2, _⟩ := I1.tuple hqy
    obtain ⟨o1, ho1, _⟩ := id p1
    obtain ⟨o2, ho2, _⟩ := id p2
    refine RZ.call_zipT (show s1.heap.IsTuple a its.toArray from p1) (show s1.heap.IsTuple c its2.toArray from p2) fun h' hz hTI hTO h1 h2 hsz hk => ?_
    exact h h' (I1.kept (t' := s1.toks) hk) (PySem.W.ktu_apart s1.heap.objs.size a c (Heap.lt_size ho1) (Heap.lt_size ho2)) ⟨.none, false, hz, .inl rfl, hTI, ⟨_, _, hTO⟩, h1, h2⟩ fresh5
  · obtain ⟨its, rv, p1, _⟩ := I1.list hqx
    obtain ⟨its2, rv2, p2, _⟩ := I1.list hqy
    refine call_zip_2 p1.isList p2.isList fun h' hz hTI hTO h1 h2 hsz hk => ?_
    exact h h' (I1.kept (t' := s1.toks) hk) (PySem.W.ktu_apart s1.heap.objs.size a c p1.lt p2.lt) ⟨.none, false, hz, .inl rfl, hTI, ⟨_, _, hTO⟩, h1, h2⟩ fresh5
def iZipN (K : PySem.W.Frag) (ta : TA) : TI := fun σ H R => ta σ H fun vs H1 => ∃ b a c xs ys, vs = [.ref a, .ref c] ∧ SqS b K H1 a xs ∧ SqS b K H1 c ys ∧ R (ItzN b K a c) H1
theorem pi_zipN {X : Cx} {e e2 : Expr} {ta : TA} {p pos tpos : Pos} {x : Str} (hg : Gl X "zip") (hm : X.mg "zip" = none) (ha : PA X [e, e2] ta)
    (hs : starEach [e, e2] X.env = (false, eval e X.env) :: starEach [e2] X.env := by rfl) (hpl : (backTo pos (starEach [e2] X.env)).any (·.1) = false := by rfl) :
    PI X (.Name x tpos) (.Call (.Name "zip" p) [e, e2] [] pos) (iZipN X.K ta) := by
  refine ⟨fun pins s σ H R I h => ?_⟩
  refine Call_ (ld_blt I hg hm PyProof.Rows.boot_zip (PyProof.Rows.callWith_type1 (thn (ha.run pos pins s σ H _ I h) fun us s1 ⟨vs, H1, I1, r1, q1⟩ => ?_) hs hpl))
  obtain ⟨b, a, c, xs, ys, ex, hqx, hqy, q⟩ := q1
  subst ex
  cases r1 with
  | cons r rr =>
    cases rr with
    | cons r' rr =>
      cases rr
      cases r
      cases r'
      refine call_zn I1 hqx hqy fun h' I2 D st fp => ?_
      obtain ⟨v, f, hz, _⟩ := id st
      exact zn_iter hz ⟨_, _, _, _, H1, rfl, I2, turn_zipN D, st, fp, q⟩
theorem walk_zipN {b : Bool} {K : PySem.W.Frag} {a c : Addr} {xs ys : List V} {n : Nat} (hn : n = min xs.length ys.length) : Walk (ItzN b K a c) n (fun H => SqS b K H a xs ∧ SqS b K H c ys) (YPair (fun i => xs[i]?) (fun i => ys[i]?)) := by
  subst hn
  refine ⟨fun i _ hi q => ?_, fun _ q => ⟨xs, ys, q.1, q.2, by omega, by omega, by omega⟩, fun i H v H' _ q y => ?_⟩
  · have h1 : i < xs.length := by omega
    have h2 : i < ys.length := by omega
    exact ⟨xs, ys, xs[i], ys[i], q.1, q.2, by simp [h1], by simp [h2]⟩
  · obtain ⟨T, x, z, h1, h2, h3, h4, h5⟩ := y
    exact ⟨T, x, z, h1, h2, h3, h4 xs q.1, h5 ys q.2⟩
/-! ### list(zip(..)) -/
theorem slot_zip_nolen : typeLookup (.type "zip") "__len__" = pure none := by rw [typeLookup_type, builtinLookup_eq_fast]; kernel_rfl
theorem slot_zip_nohint : typeLookup (.type "zip") "__length_hint__" = pure none := by rw [typeLookup_type, builtinLookup_eq_fast]; kernel_rfl
end DL

namespace DL
open PySem PySem.Spec PyProof.Rows L2 PySem.W
theorem sq_same {b : Bool} {K : PySem.W.Frag} {H H' : Hp} {a : Addr} {xs : List V} (g : Same H H') (h : SqS b K H a xs) : SqS b K H' a xs := by
  have st : Step (fun _ => False) H H' := fun c u _ e => g c u e
  cases b
  · rcases (show SqT K H a xs from h) with h | h
    · exact .inl (Rd.step st (fun z => z) h)
    · exact .inr h
  · rcases (show SqL K H a xs from h) with h | h
    · exact .inl (Rd.step st (fun z => z) h)
    · exact .inr h
theorem fp_upd {X : Cx} {pins : List (Addr × Obj)} {H : Hp} {b p : Addr} {o : HO} (h : FpOk X pins H b) (n : b ≠ p) : FpOk X pins (upd H p o) b := ⟨by rw [upd_ne n]; exact h.1, h.2⟩
/-- the pairs that stand in the new list -/
def Prs (H : Hp) (xs ys acc : List V) : Prop := ∀ (j : Nat) (v : V), acc[j]? = some v → ∃ (T : Addr) (x y : V), v = V.ref T ∧ H T = some (.tup [x, y]) ∧ xs[j]? = some x ∧ ys[j]? = some y
theorem ztn_keep {b : Bool} {a c z TI TO i1 i2 : Addr} {i : Nat} {h h' : Heap} (st : ZTn b a c z TI TO i1 i2 i h) (k : ∀ d ∈ zfp z TI TO i1 i2, ∀ o, h.get? d = some o → h'.get? d = some o) : ZTn b a c z TI TO i1 i2 i h' := by
  obtain ⟨v, f, hz, ow, hTI, ⟨x, y, hTO⟩, h1, h2⟩ := st
  exact ⟨v, f, k z (by simp) _ hz, ow, k TI (by simp) _ hTI, ⟨x, y, k TO (by simp) _ hTO⟩, it_keep h1 fun o q => k i1 (by simp) o q, it_keep h2 fun o q => k i2 (by simp) o q⟩
section
variable {X : Cx} {pins : List (Addr × Obj)} {σ : L2.St} {A1 : Around} {b : Bool} {a c z TI TO i1 i2 q : Addr} {xs ys : List V} {H0 : Hp} {Rs : Result → Shared → Prop}
theorem zl_loop (hh : A1.in1.handled = none) (D : ZipApart z TI TO i1 i2 a c) (hx : SqS b X.K H0 a xs) (hy : SqS b X.K H0 c ys) (q0 : H0 q = none) (lx : xs.length ≤ sizeLine)
    (hdone : ∀ H s acc, Inv X pins σ H s → Same H0 H → H q = some (.lst acc) → acc.length = min xs.length ys.length → Prs H xs ys acc → Rs (.ok (.ret .none)) s) :
    ∀ (k i : Nat) (acc : List V) (H : Hp) (s : Shared), min xs.length ys.length - i = k → i ≤ min xs.length ys.length → Inv X pins σ H s → ZTn b a c z TI TO i1 i2 i s.heap → (∀ d ∈ zfp z TI TO i1 i2, FpOk X pins H d) → Same H0 H → H q = some (.lst acc) → acc.length = i → Prs H xs ys acc →
      codeAny (model X.prog X.w) A1 (.builtin "list.extend.loop" ⟨[.ref q, .ref z, .none], []⟩) Rs s := by
  intro k
  induction k with
  | zero =>
    intro i acc H s hk hi I st hf g hq ha hp
    refine codeAny_builtin PySem.F.entry_extend_loop ?_
    rw [Around.under_plainId PySem.F.plain_extend_loop _]
    show wpAny _ A1.in1 (pyNext (.ref z) >>= _) _ _ s
    refine wpAny_bind (zn_fin hh D I hf st (sq_same g hx) (sq_same g hy) (by omega) (by omega) (by omega) fun h' tk I1 => ?_)
    exact wpAny_pure (hdone H _ acc I1 g hq (by omega) hp)
  | succ k ih =>
    intro i acc H s hk hi I st hf g hq ha hp
    refine codeAny_builtin PySem.F.entry_extend_loop ?_
    rw [Around.under_plainId PySem.F.plain_extend_loop _]
    show wpAny _ A1.in1 (pyNext (.ref z) >>= _) _ _ s
    have h1 : i < xs.length := by omega
    have h2 : i < ys.length := by omega
    refine wpAny_bind (zn_go (x := xs[i]) (y := ys[i]) hh D I hf st (sq_same g hx) (sq_same g hy) (List.getElem?_eq_getElem h1) (List.getElem?_eq_getElem h2) fun h' tk I1 st' hn hf' => ?_)
    have hqT : q ≠ s.heap.objs.size := fun z => by rw [← z, hq] at hn; cases hn
    have hq1 : upd H s.heap.objs.size (.tup [xs[i], ys[i]]) q = some (.lst acc) := by rw [upd_ne hqT]; exact hq
    show wpAny _ A1.in1 (updateSeq q (·.push (.ref s.heap.objs.size)) >>= _) _ _ _
    obtain ⟨zz, its, m, r2, hl, e⟩ := I1.lstM hq1
    refine wpAny_bind (wpAny_updateSeq e rfl (wpAny_pure ⟨plainId_quiet PySem.F.plain_extend_loop _, ?_⟩) (by rw [List.size_toArray]; omega) (by show (its.toArray.push _).size ≤ sizeLine + 1; rw [Array.size_push, List.size_toArray]; omega))
    have I2 := I1.lset (f := (·.push (Value.ref s.heap.objs.size))) (its' := its ++ [Value.ref s.heap.objs.size]) (ys := acc ++ [V.ref s.heap.objs.size]) (t' := tk) hq1 e (by simp) (r2.append (.cons rfl .nil)) (by rw [List.length_append, List.length_singleton]; omega)
    have ne : ∀ d ∈ zfp z TI TO i1 i2, d ≠ q := fun d hd z => by
      have := (hf' d hd).1
      rw [z, hq1] at this
      cases this
    have g2 : Same H0 (upd (upd H s.heap.objs.size (.tup [xs[i], ys[i]])) q (.lst (acc ++ [.ref s.heap.objs.size]))) := fun d u e => by
      rw [upd_ne (fun z => by rw [z, q0] at e; cases e), upd_ne (fun z => by
        have := g d u e
        rw [z, hn] at this
        cases this)]
      exact g d u e
    refine ih (i + 1) _ _ _ (by omega) (by omega) I2 (ztn_keep st' fun d hd o e => (Heap.get?_update_other _ _ (ne d hd).symm).trans e) (fun d hd => fp_upd (hf' d hd) (ne d hd)) g2 upd_same (by rw [List.length_append, List.length_singleton, ha]) fun j v hj => ?_
    have keep : ∀ T u, H T = some u → T ≠ q → upd (upd H s.heap.objs.size (.tup [xs[i], ys[i]])) q (.lst (acc ++ [.ref s.heap.objs.size])) T = some u := fun T u e n => by
      rw [upd_ne n, upd_ne (fun z => by rw [z, hn] at e; cases e)]
      exact e
    by_cases hjl : j < acc.length
    · rw [List.getElem?_append_left hjl] at hj
      obtain ⟨T, x, y, e1, e2, e3, e4⟩ := hp j v hj
      exact ⟨T, x, y, e1, keep T _ e2 (fun z => by rw [z, hq] at e2; cases e2), e3, e4⟩
    · rw [List.getElem?_append_right (by omega)] at hj
      have hj0 : j = i := by
        have := (List.getElem?_eq_some_iff.mp hj).1
        simp at this
        omega
      subst hj0
      rw [ha, Nat.sub_self] at hj
      cases hj
      exact ⟨_, _, _, rfl, by rw [upd_ne hqT.symm]; exact upd_same, List.getElem?_eq_getElem h1, List.getElem?_eq_getElem h2⟩
theorem zl_call {s : Shared} {H : Hp} {A : Around} {E : Value → Shared → Prop} {Q : Value → Shared → Prop} (hh : A.handled = none) (I : Inv X pins σ H s) (D : ZipApart z TI TO i1 i2 a c) (st : ZTn b a c z TI TO i1 i2 0 s.heap) (hf : ∀ d ∈ zfp z TI TO i1 i2, FpOk X pins H d) (hx : SqS b X.K H a xs) (hy : SqS b X.K H c ys) (lx : xs.length ≤ sizeLine)
    (hQ : ∀ H' s' q acc, Inv X pins σ H' s' → Same H H' → H q = none → H' q = some (.lst acc) → acc.length = min xs.length ys.length → Prs H' xs ys acc → Q (.ref q) s') :
    wpAny (model X.prog X.w) A (call (.type "list") [.ref z]) Q E s := by
  refine callType_codes (Q₁ := fun obj s₁ => obj = .ref s.heap.objs.size ∧ s₁ = { s with heap := s.heap.push { cls := .type "list", data := .seq #[] } }) PySem.F.called_list (PySem.F.typeCall_list_1 _) PySem.F.entry_list_init
    (code_list_new _ ⟨rfl, rfl⟩) fun obj s₁ h₁ => ?_
  obtain ⟨rfl, rfl⟩ := h₁
  have hS : (s.heap.push { cls := .type "list", data := .seq #[] }).get? s.heap.objs.size = some { cls := .type "list", data := .seq #[] } := Heap.get?_push_size _ rfl
  refine ⟨⟨_, hS, rfl⟩, PySem.F.args_list_init_2 _ _, ?_⟩
  have fr : H s.heap.objs.size = none := I.hok.fresh (Nat.le_refl _)
  have I1 : Inv X pins σ (upd H s.heap.objs.size (.lst [])) { s with heap := s.heap.push { cls := .type "list", data := .seq #[] } } := I.lnew (its := []) (t' := s.toks) .nil (Nat.zero_le _)
  have st1 : ZTn b a c z TI TO i1 i2 0 (s.heap.push { cls := .type "list", data := .seq #[] }) := ztn_keep st fun d _ o e => Heap.get?_push_of_some _ e
  have fl : ∀ d ∈ zfp z TI TO i1 i2, d ≠ s.heap.objs.size := fun d hd e => by
    obtain ⟨v, f, hz, ow, hTI, ⟨x, y, hTO⟩, h1, h2⟩ := st
    have e' : d = z ∨ d = TI ∨ d = TO ∨ d = i1 ∨ d = i2 := by simpa using hd
    have lt : d < s.heap.objs.size := by
      rcases e' with q | q | q | q | q
      · rw [q]; exact Heap.lt_size hz
      · rw [q]; exact Heap.lt_size hTI
      · rw [q]; exact Heap.lt_size hTO
      · rw [q]; obtain ⟨o, ho, _⟩ := it_obj h1; exact Heap.lt_size ho
      · rw [q]; obtain ⟨o, ho, _⟩ := it_obj h2; exact Heap.lt_size ho
    exact Nat.lt_irrefl _ (by rw [e] at lt; exact lt)
  show wpAny _ _ (do let old ← Builtin.List.listItems (.ref s.heap.objs.size); Builtin.List.listUpdate (.ref s.heap.objs.size) (fun _ => #[]); letGo old.toList.reverse; Builtin.List.listExtendWith (.ref s.heap.objs.size) (.ref z) .none) _ _ _
  refine wpAny_bind ?_
  unfold Builtin.List.listItems
  refine wpAny_bind (wpAny_seqItems hS rfl (wpAny_pure ?_))
  show wpAny _ _ (updateSeq s.heap.objs.size (fun _ => #[]) >>= fun _ => letGo (#[] : Array Value).toList.reverse >>= fun _ => Builtin.List.listExtendWith (.ref s.heap.objs.size) (.ref z) .none) _ _ _
  refine wpAny_bind (wpAny_updateSeq hS rfl ?_)
  have I2 := I1.lset (f := fun _ => #[]) (its := []) (its' := []) (ys := []) (t' := s.toks) upd_same hS rfl .nil (Nat.zero_le _)
  rw [upd_upd] at I2
  have st2 := ztn_keep st1 fun d hd o e => (Heap.get?_update_other _ (Obj.mapSeq fun _ => (#[] : Array Value)) (fl d hd).symm).trans e
  refine wpAny_bind (wpAny_letGo ?_)
  generalize (s.heap.push { cls := .type "list", data := .seq #[] }).update s.heap.objs.size (Obj.mapSeq fun _ => (#[] : Array Value)) = hp2 at *
  obtain ⟨v, f, hz, _⟩ := id st2
  have hT : ({ s with heap := hp2 } : Shared).TypeIs (.ref z) "zip" := ⟨_, hz, rfl⟩
  unfold Builtin.List.listExtendWith
  refine wpAny_bind (wpAny_typeOf (T := "zip") hT ?_)
  have h1 : Builtin.List.listSameRef (.ref s.heap.objs.size) (.ref z) = false := by simp [Builtin.List.listSameRef, (fl z (by simp)).symm]
  have h2 : (Value.type "zip" == Value.type "list") = false := by decide
  have h3 : (Value.type "zip" == Value.type "tuple") = false := by decide
  simp only [h1, h2, h3, Bool.or_false, Bool.false_eq_true, if_false]
  refine wpAny_bind (zn_iter hz ?_)
  refine wpAny_bind (wpAny_holding ?_)
  unfold Builtin.List.listLengthHint
  refine wpAny_bind (wpAny_specialOf hT slot_zip_nolen ?_)
  show wpAny _ _ (specialOf (Value.ref z) (Str.ofString "__length_hint__") >>= _) _ _ _
  refine wpAny_bind (wpAny_specialOf hT slot_zip_nohint ?_)
  refine wpAny_pure ?_
  have key : ∀ hp, Inv X pins σ (upd H s.heap.objs.size (.lst [])) { s with heap := hp } → ZTn b a c z TI TO i1 i2 0 hp →
      codeAny (model X.prog X.w) A.in1 (.builtin "list.extend.loop" ⟨[.ref s.heap.objs.size, .ref z, .none], []⟩) (wants (fun r s₂ => r = .none ∧ Q (.ref s.heap.objs.size) s₂) E) { s with heap := hp } := fun hp I3 st3 =>
    zl_loop (q := s.heap.objs.size) (show A.in1.in1.handled = none from hh) D hx hy fr lx (fun H' s' acc I' g hq hl hp => ⟨rfl, hQ H' s' _ acc I' g fr hq hl hp⟩) _ 0 [] _ _ rfl (Nat.zero_le _) I3 st3 (fun d hd => fp_upd (hf d hd) (fl d hd))
      (Same.new fr) upd_same rfl (fun j v e => by simp at e)
  obtain ⟨z3, its3, k3, r3, hl3, e3⟩ := I2.lstM upd_same
  cases r3
  show wpAny _ _ (rule "list.extend.makes-room" >>= fun _ => Builtin.List.listTouch (.ref s.heap.objs.size) >>= fun _ => again (.builtin "list.extend.loop" ⟨[.ref s.heap.objs.size, .ref z, .none], []⟩)) _ _ _
  refine wpAny_bind (wpAny_rule ?_)
  refine wpAny_bind ?_
  show wpAny _ _ (updateSeq s.heap.objs.size (·.push .none) >>= fun _ => updateSeq s.heap.objs.size (·.pop)) _ _ _
  refine wpAny_bind (wpAny_updateSeq e3 rfl ?_)
  have I4 := I2.lset (f := (·.push Value.none)) (its' := [Value.none]) (ys := [.non]) (t' := s.toks) upd_same e3 (by simp) (.cons rfl .nil) (by rw [List.length_singleton, sizeLine_eq]; decide)
  rw [upd_upd] at I4
  obtain ⟨z4, its4, k4, r4, hl4, e4⟩ := I4.lstM upd_same
  obtain ⟨u4, rfl, ru4⟩ := r4.one
  refine wpAny_updateSeq e4 rfl ?_ (by show 1 ≤ sizeLine; rw [sizeLine_eq]; decide) (by show 0 ≤ sizeLine + 1; exact Nat.zero_le _)
  have I5 := I4.lset (f := (·.pop)) (its := [u4]) (its' := []) (ys := []) (t' := s.toks) upd_same e4 (by rfl) .nil (Nat.zero_le _)
  rw [upd_upd] at I5
  refine wpAny_pure ⟨plainId_quiet PySem.F.plain_extend_loop _, key _ I5 (ztn_keep st2 fun d hd o e => ?_)⟩
  exact (Heap.get?_update_other _ _ (fl d hd).symm).trans ((Heap.get?_update_other _ _ (fl d hd).symm).trans e)
end
end DL

namespace DL
open PySem PySem.Spec PyProof.Rows L2 PySem.W
/-! ### zip of data -/
def zipD : List PyData → List PyData → List PyData
  | a :: as, b :: bs => .tuple [a, b] :: zipD as bs
  | _, _ => []
theorem zipD_len : ∀ as bs, (zipD as bs).length = min as.length bs.length
  | [], _ => by simp [zipD]
  | _ :: _, [] => by simp [zipD]
  | a :: as, b :: bs => by simp only [zipD, List.length_cons, zipD_len as bs]; omega
theorem zipD_at : ∀ {as bs : List PyData} {i : Nat} {a b : PyData}, as[i]? = some a → bs[i]? = some b → (zipD as bs)[i]? = some (.tuple [a, b])
  | _ :: _, _ :: _, 0, _, _, h, g => by cases h; cases g; rfl
  | _ :: as, _ :: bs, i + 1, a, b, h, g => zipD_at (as := as) (bs := bs) (i := i) h g
  | [], _, _, _, _, h, _ => by simp at h
  | _ :: _, [], _, _, _, _, g => by simp at g
def fiZ (fa fb : FE) : FI := fun ρ S T => fa ρ S fun x S1 => fb ρ S1 fun y S2 => match x, y with
  | .list a, .list b => T (zipD a b) S2
  | .tuple a, .tuple b => T (zipD a b) S2
  | _, _ => False
def fZipL (fa fb : FE) : FE := fun ρ S R => fa ρ S fun x S1 => fb ρ S1 fun y S2 => match x, y with
  | .list a, .list b => R (.list (zipD a b)) S2
  | .tuple a, .tuple b => R (.list (zipD a b)) S2
  | _, _ => False
section
variable {K : Fr_} {O : AS} {w : Option Addr} {H : Hp} {ds es : List PyData} {vs us : List V} {a c : Addr} {b : Bool}
theorem pairD_rep {p : Addr} {d e : PyData} {v u : V} (ol : OL O H) (n : H p = none) (r : Rep K O H d v) (r2 : Rep K O H e u) : Rep K O (upd H p (.tup [v, u])) (.tuple [d, e]) (.ref p) :=
  rep_tup ol n (by simp only [Reps]; exact ⟨_, _, rfl, r, _, _, rfl, r2, rfl⟩)
theorem itg_pair {Rl : Hp → Prop} {J : It} (wk : Walk J (zipD ds es).length (fun H => SqS b K H a vs ∧ SqS b K H c us) (YPair (fun i => vs[i]?) (fun i => us[i]?))) (hR : ∀ H', Rl H' → Step O H H') (hk : ∀ H', Rl H' → SqS b K H' a vs ∧ SqS b K H' c us) (ol : OL O H) (r : Reps K O H ds vs) (r2 : Reps K O H es us) : Itg K Rl O H J (zipD ds es) := by
  refine ⟨⟨_, _, wk, fun O' H' ol' ho h' => ⟨hk H' h', fun i x H3 y hi => ?_⟩⟩⟩
  obtain ⟨T, z, u, rfl, hT, rfl, hz, hu⟩ := y
  rw [zipD_len] at hi
  have h1 : ds[i]? = some ds[i] := List.getElem?_eq_getElem (by omega)
  have h2 : es[i]? = some es[i] := List.getElem?_eq_getElem (by omega)
  obtain ⟨v, hv, rv⟩ := (Reps.fw ho (hR _ h') ol ds vs r).at h1
  obtain ⟨v2, hv2, rv2⟩ := (Reps.fw ho (hR _ h') ol es us r2).at h2
  replace hz : vs[i]? = some z := hz
  replace hu : us[i]? = some u := hu
  rw [hv] at hz
  rw [hv2] at hu
  cases hz
  cases hu
  exact ⟨_, zipD_at h1 h2, Same.new hT, pairD_rep ol' hT rv rv2⟩
theorem walk_zipT {K : PySem.W.Frag} {a c : Addr} {xs ys : List V} {n : Nat} (hn : n = min xs.length ys.length) : Walk (RZ.ItzT K a c) n (fun H => SqS false K H a xs ∧ SqS false K H c ys) (YPair (fun i => xs[i]?) (fun i => ys[i]?)) := by
  subst hn
  refine ⟨fun i _ hi q => ?_, fun _ q => ⟨xs, ys, q.1, q.2, by omega⟩, fun i H v H' _ q y => ?_⟩
  · have h1 : i < xs.length := by omega
    have h2 : i < ys.length := by omega
    exact ⟨xs, ys, xs[i], ys[i], q.1, q.2, by simp [h1], by simp [h2]⟩
  · obtain ⟨T, x, z, h1, h2, h3, h4, h5⟩ := y
    exact ⟨T, x, z, h1, h2, h3, h4 xs q.1, h5 ys q.2⟩
theorem reps_zip : ∀ {ds es : List PyData} {vs us acc : List V}, Reps K O H ds vs → Reps K O H es us → Prs H vs us acc → acc.length = min vs.length us.length → Reps K O H (zipD ds es) acc
  | [], es, vs, us, acc, r, r2, p, l => by
    simp only [Reps] at r
    subst r
    simp at l
    subst l
    simp only [zipD, Reps]
  | _ :: _, [], vs, us, acc, r, r2, p, l => by
    simp only [Reps] at r2
    subst r2
    simp at l
    subst l
    simp only [zipD, Reps]
  | d :: ds, e :: es, vs, us, acc, r, r2, p, l => by
    simp only [Reps] at r r2
    obtain ⟨v, r', rfl, h1, h2⟩ := r
    obtain ⟨u, s', rfl, g1, g2⟩ := r2
    match acc, l, p with
    | [], l, p => simp at l
    | t :: acc, l, p =>
      obtain ⟨T, x, y, rfl, e1, e2, e3⟩ := p 0 t rfl
      cases e2
      cases e3
      simp only [zipD, Reps]
      refine ⟨_, acc, rfl, ?_, reps_zip h2 g2 (fun j w hj => p (j + 1) w hj) (by simp at l; omega)⟩
      simp only [Rep]
      exact ⟨T, _, rfl, .inl (.inl e1), by simp only [Reps]; exact ⟨_, _, rfl, h1, _, _, rfl, g1, rfl⟩⟩
end
section
variable {X : Cx} {e e2 : Expr} {pos p p2 pos2 tpos : Pos} {fa fb : FE} {elts : List Expr} {kk : Nat} {x : Str}
/-- what the two rows are -/
theorem zip_read {K : Fr_} {σ : L2.St} {H : Hp} {R : It → Hp → Prop} {Jl Jt : Addr → Addr → It} (hl : ∀ a c (xs ys : List V) n, n = min xs.length ys.length → Walk (Jl a c) n (fun H => SqS true K H a xs ∧ SqS true K H c ys) (YPair (fun i => xs[i]?) (fun i => ys[i]?)))
    (ht : ∀ a c (xs ys : List V) n, n = min xs.length ys.length → Walk (Jt a c) n (fun H => SqS false K H a xs ∧ SqS false K H c ys) (YPair (fun i => xs[i]?) (fun i => ys[i]?))) (h : rif K (fiZ fa fb) σ H R) :
    tCons (rd K fa) (tCons (rd K fb) tNil) σ H fun vs H1 => ∃ a c xs ys, vs = [.ref a, .ref c] ∧ ((SqS true K H1 a xs ∧ SqS true K H1 c ys ∧ R (Jl a c) H1) ∨ (SqS false K H1 a xs ∧ SqS false K H1 c ys ∧ R (Jt a c) H1)) := by
  obtain ⟨Oc, w, ρ, S, T, ev, hf, k⟩ := h
  refine ⟨Oc, w, ρ, S, _, ev, hf, fun d S1 v H1 ev1 g1 r h1 => ⟨Oc, w, ρ, S1, _, ev1, h1, fun e S2 u H2 ev2 g2 r2 h2 => ?_⟩⟩
  have r' := Rep.step (ev1.stepO g2) ev1.Ool d v r
  split at h2
  · simp only [Rep] at r' r2
    obtain ⟨a, vs, rfl, q, rr⟩ := r'
    obtain ⟨c, us, rfl, q2, rr2⟩ := r2
    exact ⟨a, c, vs, us, rfl, .inl ⟨q.sq, q2.sq, k _ S2 _ H2 ev2 (g1.trans g2) (itg_pair (b := true) (hl a c vs us _ (by rw [zipD_len, rr.len, rr2.len])) (fun _ z => z) (fun H' s => ⟨(QL.step s q).sq, (QL.step s q2).sq⟩) ev2.Ool rr rr2) h2⟩⟩
  · simp only [Rep] at r' r2
    obtain ⟨a, vs, rfl, q, rr⟩ := r'
    obtain ⟨c, us, rfl, q2, rr2⟩ := r2
    exact ⟨a, c, vs, us, rfl, .inr ⟨q, q2, k _ S2 _ H2 ev2 (g1.trans g2) (itg_pair (b := false) (ht a c vs us _ (by rw [zipD_len, rr.len, rr2.len])) (fun _ z => z) (fun H' s => ⟨SqT.step s ev2.Ool q, SqT.step s ev2.Ool q2⟩) ev2.Ool rr rr2) h2⟩⟩
  · exact h2.elim
theorem i_zip (ha : PE X e (rd X.K fa)) (hb : PE X e2 (rd X.K fb)) (hm : X.mg "zip" = none) (hg : Gl X "zip" := by rfl) (hs1 : starEach (e :: [e2]) X.env = (false, eval e X.env) :: starEach [e2] X.env := by rfl) (hs2 : starEach (e2 :: []) X.env = (false, eval e2 X.env) :: starEach [] X.env := by rfl)
    (hs : starEach [e, e2] X.env = (false, eval e X.env) :: starEach [e2] X.env := by rfl) (hpl : (backTo pos (starEach [e2] X.env)).any (·.1) = false := by rfl) :
    PI X (.Tuple elts kk tpos) (.Call (.Name "zip" p) [e, e2] [] pos) (rif X.K (fiZ fa fb)) := PI.imp (RZ.pi_zipA hg hm (pa_cons ha (pa_cons hb pa_nil hs2) hs1) hs hpl) fun σ H R h =>
  zip_read (Jl := fun a c => Itz X.K a c) (Jt := fun a c => RZ.ItzT X.K a c) (fun a c xs ys n hn => walk_zip hn) (fun a c xs ys n hn => walk_zipT hn) h
theorem i_zipN (ha : PE X e (rd X.K fa)) (hb : PE X e2 (rd X.K fb)) (hm : X.mg "zip" = none) (hg : Gl X "zip" := by rfl) (hs1 : starEach (e :: [e2]) X.env = (false, eval e X.env) :: starEach [e2] X.env := by rfl) (hs2 : starEach (e2 :: []) X.env = (false, eval e2 X.env) :: starEach [] X.env := by rfl)
    (hs : starEach [e, e2] X.env = (false, eval e X.env) :: starEach [e2] X.env := by rfl) (hpl : (backTo pos (starEach [e2] X.env)).any (·.1) = false := by rfl) :
    PI X (.Name x tpos) (.Call (.Name "zip" p) [e, e2] [] pos) (rif X.K (fiZ fa fb)) := PI.imp (pi_zipN hg hm (pa_cons ha (pa_cons hb pa_nil hs2) hs1) hs hpl) fun σ H R h => by
  obtain ⟨Oc, w, ρ, S, Q, ev, hf, k⟩ := zip_read (K := X.K) (Jl := fun a c => ItzN true X.K a c) (Jt := fun a c => ItzN false X.K a c) (fun a c xs ys n hn => walk_zipN hn) (fun a c xs ys n hn => walk_zipN hn) h
  refine ⟨Oc, w, ρ, S, Q, ev, hf, fun d S1 v H1 ev1 g1 r h1 => ?_⟩
  obtain ⟨Oc, w, ρ, S, Q, ev, hf, k⟩ := k d S1 v H1 ev1 g1 r h1
  refine ⟨Oc, w, ρ, S, Q, ev, hf, fun e S2 u H2 ev2 g2 r2 h2 => ?_⟩
  obtain ⟨a, c, xs, ys, e, h⟩ := k e S2 u H2 ev2 g2 r2 h2
  rcases h with ⟨q1, q2, q3⟩ | ⟨q1, q2, q3⟩
  · exact ⟨true, a, c, xs, ys, e, q1, q2, q3⟩
  · exact ⟨false, a, c, xs, ys, e, q1, q2, q3⟩
/-- list(zip(a, b)) -/
theorem n_zipL (hc : X.calm = true) (ha : PE X e (rd X.K fa)) (hb : PE X e2 (rd X.K fb)) (hml : X.mg "list" = none) (hm : X.mg "zip" = none) (hgl : Gl X "list" := by rfl) (hg : Gl X "zip" := by rfl)
    (hs1 : starEach (e :: [e2]) X.env = (false, eval e X.env) :: starEach [e2] X.env := by rfl) (hs2 : starEach (e2 :: []) X.env = (false, eval e2 X.env) :: starEach [] X.env := by rfl) (hs : starEach [e, e2] X.env = (false, eval e X.env) :: starEach [e2] X.env := by rfl) (hpl : (backTo pos2 (starEach [e2] X.env)).any (·.1) = false := by rfl)
    (ho : starEach [.Call (.Name "zip" p2) [e, e2] [] pos2] X.env = (false, eval (.Call (.Name "zip" p2) [e, e2] [] pos2) X.env) :: starEach [] X.env := by rfl) (hol : (backTo pos (starEach [] X.env)).any (·.1) = false := by rfl) :
    PE X (.Call (.Name "list" p) [.Call (.Name "zip" p2) [e, e2] [] pos2] [] pos) (rn X.K (fZipL fa fb)) := by
  refine ⟨fun pins s σ H Q I ⟨Oc, w, ρ, S, R, ev, hf, k⟩ => ?_⟩
  refine Call_ (ld_blt I hgl hml PyProof.Rows.boot_list (PyProof.Rows.callWith_type1 ?_ ho hol))
  rw [ho]
  refine Calls.spliced_cons (Call_ (ld_blt I hg hm PyProof.Rows.boot_zip (PyProof.Rows.callWith_type1 (thn ((pa_cons ha (pa_cons hb pa_nil hs2) hs1).run pos2 pins s σ H
    (fun vs H2 => ∃ b a c xs ys S2 ds es, vs = [V.ref a, V.ref c] ∧ EV X.K Oc w σ H2 ρ S2 ∧ Gr w H H2 ∧ SqS b X.K H2 a xs ∧ SqS b X.K H2 c ys ∧ Reps X.K (OO Oc σ ρ) H2 ds xs ∧ Reps X.K (OO Oc σ ρ) H2 es ys ∧ R (.list (zipD ds es)) S2) I
    ⟨Oc, w, ρ, S, _, ev, hf, fun d S1 v H1 ev1 g1 r h1 => ⟨Oc, w, ρ, S1, _, ev1, h1, fun e S2 u H2 ev2 g2 r2 h2 => ?_⟩⟩) fun us s1 ⟨vs, H1, I1, r1, q1⟩ => ?_) hs hpl)))
  · have r' := Rep.step (ev1.stepO g2) ev1.Ool d v r
    split at h2
    · simp only [Rep] at r' r2
      obtain ⟨a, vs, rfl, q, rr⟩ := r'
      obtain ⟨c, us, rfl, q2, rr2⟩ := r2
      exact ⟨true, a, c, vs, us, S2, _, _, rfl, ev2, g1.trans g2, q.sq, q2.sq, rr, rr2, h2⟩
    · simp only [Rep] at r' r2
      obtain ⟨a, vs, rfl, q, rr⟩ := r'
      obtain ⟨c, us, rfl, q2, rr2⟩ := r2
      exact ⟨false, a, c, vs, us, S2, _, _, rfl, ev2, g1.trans g2, q, q2, rr, rr2, h2⟩
    · exact h2.elim
  · obtain ⟨b, a, c, xs, ys, S2, ds, es, ex, ev2, g2, hqx, hqy, rr, rr2, hR⟩ := q1
    subst ex
    cases r1 with
    | cons r rest =>
      cases rest with
      | cons r' rest =>
        cases rest
        cases r
        cases r'
        have lx : xs.length ≤ sizeLine := by
          cases b
          · obtain ⟨_, _, _, z⟩ := I1.tuple hqx; exact z
          · obtain ⟨_, _, _, z⟩ := I1.list hqx; exact z
        refine call_zn I1 hqx hqy fun h' I2 D st fp => Calls.spliced_nil ?_
        refine zl_call (I1.ok.hd hc) I2 D st fp hqx hqy lx fun H3 s3 q acc I3 g3 q0 hq hl hp => ?_
        have st3 : Step (OO Oc σ ρ) H1 H3 := Step.of g3
        have fw : ∀ a, With (OO Oc σ ρ) q a → OO Oc σ ρ a ∨ H1 a = none := fun a z => z.elim .inl fun z => .inr (by rw [z]; exact q0)
        exact ⟨.ref q, H3, I3, rfl, k _ S2 q acc H3 (ev2.same g3) (g2.trans (Gr.of g3)) (free_of ev2 g2 q0) hq (reps_zip (Reps.fw fw st3 ev2.Ool ds xs rr) (Reps.fw fw st3 ev2.Ool es ys rr2) hp hl) hR⟩
end
end DL

namespace DL
open PySem PySem.Spec PyProof.Rows L2 PySem.W
/-! ### sorted(d), d a dict with tuple keys -/
def keyT (k : List Key) : PyData := .tuple (k.map keyD)
def KeyAt (H : Hp) (x : V) (d : PyData) : Prop := ∃ k b, d = keyT k ∧ x = V.ref b ∧ H b = some (.tup (k.map kV))
def rSortT (K : Fr_) : List V → Hp → VK → Prop := fun xs H Q => ∃ (d : Addr) (kvs : List (List Key × V)), xs = [V.ref d] ∧ Rd H d (.dT kvs) ∧ (∀ kv ∈ kvs, PyData.canLayAll0 (kv.1.map keyD) = true) ∧ AllAlike (kvs.map fun kv => keyT kv.1) ∧ Sortable (kvs.map fun kv => keyT kv.1) ∧
  (∀ d ∈ kvs.map (fun kv => keyT kv.1), d.depth ≤ 60) ∧ ∀ ys p, EachIs (KeyAt H) ys (sortD (kvs.map fun kv => keyT kv.1)) → H p = none → Q (.ref p) (upd H p (.lst ys))
theorem keyD_rep {K : Fr_} {O : AS} {H : Hp} : ∀ (k : List Key), Reps K O H (k.map keyD) (k.map kV)
  | [] => by simp only [List.map_nil, Reps]
  | .inl i :: k => by simp only [List.map_cons, Reps, keyD, Rep]; exact ⟨_, _, rfl, rfl, keyD_rep k⟩
  | .inr x :: k => by simp only [List.map_cons, Reps, keyD, Rep]; exact ⟨_, _, rfl, rfl, keyD_rep k⟩
theorem keyT_dp {K : Fr_} {H : Hp} {k : List Key} {b : Addr} (c : PyData.canLayAll0 (k.map keyD) = true) (h : H b = some (.tup (k.map kV))) : Dp K H (.ref b) (keyT k) :=
  .tup (.inl (.inl h)) (Reps.dp (O := fun _ => False) _ _ c (keyD_rep k))
theorem cr_sortedT {X : Cx} (hc : X.calm = true) (hu : X.A.units + 65 < cLine) : CallR X (.builtin "sorted") (rSortT X.K) := by
  intro pins s σ H xs us Q I r h
  obtain ⟨d, kvs, rfl, hd, hcl, hal, hk, hdp, q⟩ := h
  obtain ⟨u, rfl, rx⟩ := r.one
  cases rx
  obtain ⟨z, hs, ks, pr, o, es, ep, ho, hx, hdt, he, hn⟩ := (show ObjOk X.prog X.w H s.heap d (.dT kvs) from hd.ok I.hok)
  have l1 : es.size = ks.length := size_of_entries he
  have l2 : kvs.length = ks.length := Paired.length pr
  refine Calls.call_function_entry PyProof.Rows.kind_sorted PyProof.Rows.plain_sorted PyProof.Rows.entry_sorted (PyProof.Rows.args_sorted1 _) ?_
  unfold Builtin.«sorted»
  refine wpAny_bind (m := checkCount "sorted" 1 1 _) (wpAny_pure ?_)
  refine wpAny_bind (PySem.W.kdu_collect (A := X.A.in1) (kdl_raw hs hx hdt) (I.ok.hd hc) ho (by omega) fun h' tk acc hkp it => ?_)
  have ea : acc.toList = ks.map fun x => Value.ref x.2.1 := by
    have hl : acc.toList.length = ks.length := by rw [Array.length_toList, it.1]; exact l1
    apply List.ext_getElem?
    intro j
    rw [List.getElem?_map]
    cases hj : acc.toList[j]? with
    | none =>
      have h1 := List.getElem?_eq_none_iff.mp hj
      rw [List.getElem?_eq_none (by omega)]
      all_goals rfl
    | some v =>
      obtain ⟨en, hen, hv⟩ := it.2 j v (by rw [← Array.getElem?_toList]; exact hj)
      have qe := entry_at he j
      rw [hen] at qe
      cases hb : ks[j]? with
      | none =>
        rw [hb] at qe
        exact nomatch (show some en = none from qe)
      | some b =>
        rw [hb] at qe
        have e2 : en = entryOfKey (tupleKind (mixKind X.prog X.w)) b := Option.some.inj qe
        rw [hv, e2]
        all_goals rfl
  have I1 : Inv X pins σ H { s with heap := h', toks := tk } := I.kept hkp
  have each : EachIs (Both (KeyAt H)) acc.toList (kvs.map fun kv => keyT kv.1) ∧ DpAll X.K H (ks.map fun x => V.ref x.2.1) (kvs.map fun kv => keyT kv.1) ∧ Vals (ks.map fun x => V.ref x.2.1) acc.toList := by
    rw [ea]
    clear it ea he hn hdt l1 l2 hal hk hdp q z hkp I1 hd
    induction pr with
    | nil => exact ⟨.nil, .nil, .nil⟩
    | @cons p q ps qs h t ih =>
      obtain ⟨e1, e2, e3⟩ := h
      obtain ⟨i1, i2, i3⟩ := ih fun kv m => hcl kv (List.mem_cons_of_mem _ m)
      exact ⟨.cons ⟨V.ref q.2.1, rfl, p.1, q.2.1, rfl, rfl, e2⟩ i1, .cons (keyT_dp (hcl p (by simp)) e2) i2, .cons rfl i3⟩
  obtain ⟨e0, dp, rv⟩ := each
  obtain ⟨as, ra⟩ := Dp.readsAll I1 _ _ acc.toList dp rv
  have lacc : acc.toList.length ≤ sizeLine := by rw [ea, List.length_map]; omega
  refine wpAny_bind (wpAny_newList ?_ (by rw [sizeLine_eq] at lacc ⊢; omega))
  have hoL : (h'.push (seqObj "list" acc.toList.toArray 0)).get? h'.objs.size = some (seqObj "list" acc.toList.toArray 0) := Heap.get?_push_size _ rfl
  show wpAny _ _ _ _ _ { s with heap := h'.push (seqObj "list" acc.toList.toArray 0), toks := tk }
  have r0 : EachIs (fun v d => ∃ as, Reads h' v d as) acc.toList (kvs.map fun kv => keyT kv.1) := readsAll_each (enc := fun d => d) (bs := kvs.map fun kv => keyT kv.1) (by rw [List.map_id']; exact ra)
  have r1 : EachIs (fun v d => ∃ as, Reads (sortingHeap (h'.push (seqObj "list" acc.toList.toArray 0)) h'.objs.size acc.toList) v d as) acc.toList (kvs.map fun kv => keyT kv.1) :=
    r0.mono fun v d ⟨as, r⟩ => ⟨as, Reads.keeps (fun b o e => sortingHeap_old (Nat.ne_of_lt (Heap.lt_size e)) (Heap.get?_push_of_some _ e)) r⟩
  refine wpAny_bind (wpAny_holding (wpAny_call_entry PyProof.Rows.slot_list_sort ⟨_, hoL, rfl⟩ PyProof.Rows.entry_list_sort
    (list_sort_vals (s := { s with heap := h'.push (seqObj "list" acc.toList.toArray 0), toks := tk }) hoL (SortsAt.data r1 hal hk fun d m => by have := hdp d m; show X.A.units + 1 + 1 + d.depth < cLine; omega) lacc ⟨_, rfl, ?_⟩) (PyProof.Rows.args_list_sort _)))
  have e2 := sortVals_data (h' := sortingHeap (h'.push (seqObj "list" acc.toList.toArray 0)) h'.objs.size acc.toList) (enc := fun d => d) (bs := kvs.map fun kv => keyT kv.1) false e0 r1 (by rw [List.map_id']; exact hal)
  rw [List.map_id'] at e2
  generalize sortVals (dataKind (sortingHeap (h'.push (seqObj "list" acc.toList.toArray 0)) h'.objs.size acc.toList) (kvs.map fun kv => keyT kv.1)) false acc.toList acc.toList = out at *
  obtain ⟨ys, q1, q2⟩ := both_split e2
  obtain ⟨e', he'⟩ := PyProof.Rows.sortedHeap_at (vs := acc.toList) (out := out.toArray) hoL
  have ly : ys.length ≤ sizeLine := by
    rw [each_len q2]
    show ((kvs.map fun kv => keyT kv.1).mergeSort _).length ≤ _
    rw [(List.mergeSort_perm _ _).length_eq, List.length_map]
    exact z
  refine wpAny_pure ⟨_, rfl, .ref h'.objs.size, upd H h'.objs.size (.lst ys), I1.laid (t' := tk) (fun b u e => ?_) (Nat.le_refl _) ⟨ly, out, e', q1, he'⟩, rfl, q ys _ q2 (I1.hok.fresh (Nat.le_refl _))⟩
  have hb : b < h'.objs.size := Heap.lt_size e
  rw [PyProof.Rows.sortedHeap_old (Nat.ne_of_lt hb) (by rw [size_push']; exact Nat.lt_succ_of_lt hb)]
  exact Heap.get?_push_of_some _ e
theorem keyAt_rep {K : Fr_} {O : AS} {H : Hp} {x : V} {d : PyData} (h : KeyAt H x d) : Rep K O H d x := by
  obtain ⟨k, b, rfl, rfl, e⟩ := h
  simp only [keyT, Rep]
  exact ⟨b, _, rfl, .inl (.inl e), keyD_rep k⟩
def fSortK (i : Nat) : FE := fun ρ S R => match ρ[i]? with
  | some (.dct kvs) => (∀ kv ∈ kvs, PyData.canLayAll0 (kv.1.map keyD) = true) ∧ AllAlike (kvs.map fun kv => keyT kv.1) ∧ Sortable (kvs.map fun kv => keyT kv.1) ∧ (∀ d ∈ kvs.map (fun kv => keyT kv.1), d.depth ≤ 60) ∧ R (.list (sortD (kvs.map fun kv => keyT kv.1))) S
  | _ => False
section
variable {X : Cx} {pos p p2 : Pos} {x : Str}
theorem n_sortedK {k : Nat} (hc : X.calm = true) (hr : RoomG k X.A) (i : Nat) (hm : X.mg "sorted" = none) (hg : Gl X "sorted" := by rfl) (hN : X.N[i]? = some x := by rfl) (hv : Vis X.env.scope x := by first | exact Or.inl rfl | exact Or.inr (Or.inl rfl) | exact Or.inr (Or.inr rfl)) (hd : (x == ("__debug__" : Str)) = false := by decide)
    (hcd : (x == ("__classdict__" : Str)) = false := by decide) (hs : starEach (.Name x p2 :: []) X.env = (false, eval (.Name x p2) X.env) :: starEach [] X.env := by rfl) (hpl : (backTo pos (starEach [] X.env)).any (·.1) = false := by rfl) :
    PE X (.Call (.Name "sorted" p) [.Name x p2] [] pos) (rn X.K (fSortK i)) := PE.imp (pe_callB (cr_sortedT hc (by have := hr.room.un; omega)) hg hm PyProof.Rows.boot_sorted (pa_cons (pe_var (i := i) hN hv hd hcd) pa_nil hs) (by decide) (by decide) hs hpl) fun σ H Q ⟨Oc, w, ρ, S, R, ev, hf, k⟩ => by
  unfold fSortK at hf
  split at hf
  · rename_i kvs hx
    obtain ⟨h0, h1, h2, h3, h4⟩ := hf
    obtain ⟨a, ws, e1, e2, e3, e4, e5⟩ := ev.dct.1 i kvs hx
    have em : ws.map (fun kv => keyT kv.1) = kvs.map fun kv => keyT kv.1 := by
      have := congrArg (List.map keyT) e4
      rw [List.map_map, List.map_map] at this
      exact this
    have hcl : ∀ kv ∈ ws, PyData.canLayAll0 (kv.1.map keyD) = true := fun kv m => by
      have : kv.1 ∈ kvs.map (·.1) := by rw [← e4]; exact List.mem_map_of_mem m
      obtain ⟨kv', m', e⟩ := List.mem_map.mp this
      rw [← e]
      exact h0 kv' m'
    refine ⟨_, e1, a, ws, rfl, .inl e2, hcl, by rw [em]; exact h1, by rw [em]; exact h2, by rw [em]; exact h3, fun ys p he hn => ?_⟩
    rw [em] at he
    exact k _ S p ys _ (ev.same (Same.new hn)) (Gr.of (Same.new hn)) hn upd_same (reps_new ev.Ool hn (each_reps (he.mono fun x d h => keyAt_rep h))) h4
  · exact hf.elim
end
end DL

namespace DL
open PySem PySem.Spec PyProof.Rows L2
/-! ### a dict of one's own: made, stored into -/
def putD (kvs : List (List Key × PyData)) (k : List Key) (d : PyData) : List (List Key × PyData) :=
  if (kvs.any fun kv => decide (kv.1 = k)) = true then kvs.map (fun kv => if kv.1 = k then (kv.1, d) else kv) else kvs ++ [(k, d)]
section
variable {K : Fr_} {O : AS} {H : Hp}
theorem any_key {κ α β : Type} [DecidableEq κ] : ∀ {ws : List (κ × α)} {kvs : List (κ × β)} {k : κ}, ws.map (·.1) = kvs.map (·.1) → (ws.any fun kv => decide (kv.1 = k)) = kvs.any fun kv => decide (kv.1 = k)
  | [], [], _, _ => rfl
  | w :: ws, q :: kvs, k, h => by
    simp only [List.map_cons, List.cons.injEq] at h
    simp only [List.any_cons, h.1, any_key h.2]
  | [], _ :: _, _, h => by simp at h
  | _ :: _, [], _, h => by simp at h
theorem drep_map {k : List Key} {d : PyData} {v : V} (r : Rep K O H d v) : ∀ {kvs : List (List Key × PyData)} {ws : List (List Key × V)}, DRep K O H kvs ws → DRep K O H (kvs.map fun kv => if kv.1 = k then (kv.1, d) else kv) (ws.map fun kv => if kv.1 = k then (kv.1, v) else kv)
  | [], [], h => h
  | q :: kvs, w :: ws, h => by
    obtain ⟨h1, h2⟩ := h
    simp only [List.map_cons, List.cons.injEq] at h1
    simp only [List.map_cons, Reps] at h2
    obtain ⟨v', r', e, g1, g2⟩ := h2
    obtain ⟨e1, e2⟩ := List.cons.inj e
    subst e1
    subst e2
    obtain ⟨i1, i2⟩ := drep_map r (kvs := kvs) (ws := ws) ⟨h1.2, g2⟩
    refine ⟨?_, ?_⟩
    · simp only [List.map_cons]
      rw [i1]
      congr 1
      rw [h1.1]
      split
      · rfl
      · exact h1.1
    · simp only [List.map_cons, Reps]
      rw [h1.1]
      split
      · exact ⟨_, _, rfl, r, i2⟩
      · exact ⟨_, _, rfl, g1, i2⟩
  | [], _ :: _, h => by obtain ⟨h1, _⟩ := h; simp at h1
  | _ :: _, [], h => by obtain ⟨h1, _⟩ := h; simp at h1
theorem drep_put {k : List Key} {d : PyData} {v : V} (r : Rep K O H d v) {kvs : List (List Key × PyData)} {ws : List (List Key × V)} (h : DRep K O H kvs ws) : DRep K O H (putD kvs k d) (putK ws k v) := by
  unfold putD putK
  rw [any_key h.1]
  split
  · exact drep_map r h
  · obtain ⟨h1, h2⟩ := h
    refine ⟨?_, ?_⟩
    · rw [List.map_append, List.map_append, h1]
      rfl
    · rw [List.map_append, List.map_append]
      exact h2.app (by simp only [List.map_cons, List.map_nil, Reps]; exact ⟨_, _, rfl, r, rfl⟩)
theorem drep_len {kvs : List (List Key × PyData)} {ws : List (List Key × V)} (h : DRep K O H kvs ws) : ws.length = kvs.length := by
  have := congrArg List.length h.1
  rw [List.length_map, List.length_map] at this
  exact this
end
/-- a new dict comes to a slot; what the callers may write has grown by it -/
theorem EV.putDct {K : Fr_} {Oc : AS} {w : Option Addr} {H0 : Hp} {σ : L2.St} {H : Hp} {ρ : Rho} {S : SW} {p : Addr} (e : EV K Oc w σ H ρ S) (fz : Fz w H0 σ H ρ) (i : Nat) (n : H p = none) :
    EV K (With Oc p) w (σ.set i (some (.ref p))) (upd H p (.dT [])) (ρ.set i (.dct [])) S ∧ Fz w H0 (σ.set i (some (.ref p))) (upd H p (.dT [])) (ρ.set i (.dct [])) := by
  have old : ∀ {j : Nat} {y : Sl}, i ≠ j → (ρ.set i (.dct []))[j]? = some y → ρ[j]? = some y ∧ (σ.set i (some (.ref p)))[j]? = σ[j]? := fun {j y} hj h => by
    rw [List.getElem?_set_ne hj] at h
    exact ⟨h, by rw [List.getElem?_set_ne hj]⟩
  have new : ∀ {y : Sl}, (ρ.set i (.dct []))[i]? = some y → y = .dct [] ∧ (σ.set i (some (.ref p)))[i]? = some (some (.ref p)) := fun {y} h => by
    by_cases hk : i < ρ.length
    · rw [List.getElem?_set_self hk] at h
      cases h
      exact ⟨rfl, by rw [List.getElem?_set_self (by rw [← e.len]; exact hk)]⟩
    · rw [List.getElem?_eq_none (by simpa using hk)] at h; cases h
  have oo : ∀ a, OO (With Oc p) (σ.set i (some (.ref p))) (ρ.set i (.dct [])) a → OO Oc σ ρ a ∨ H a = none := by
    rintro a ((h | h) | ⟨j, xs, h1, h2⟩)
    · exact .inl (.inl h)
    · exact .inr (by rw [h]; exact n)
    · by_cases hj : i = j
      · subst hj
        obtain ⟨q, _⟩ := new h1
        cases q
      · obtain ⟨q1, q2⟩ := old hj h1
        exact .inl (.inr ⟨j, xs, q1, by rw [← q2]; exact h2⟩)
  have sm : Same H (upd H p (.dT [])) := Same.new n
  have st : Step (OO Oc σ ρ) H (upd H p (.dT [])) := Step.of sm
  have ne : ∀ {a : Addr} {u : HO}, H a = some u → a ≠ p := fun h z => by rw [z, n] at h; cases h
  refine ⟨⟨by simp [e.len], fun j d h => ?_, fun j xs h => ?_, fun j l xs ys a h1 h2 h3 h4 => ?_, fun j h => ?_, fun a h => ?_, fun a h => ?_, ⟨fun j kvs h => ?_, fun j l ks ls a h1 h2 h3 h4 => ?_⟩⟩, ⟨fz.gr.trans (Gr.of sm), fun j xs a h1 h2 => ?_, fun j xs a h1 h2 => ?_⟩⟩
  · by_cases hj : i = j
    · subst hj
      obtain ⟨q, _⟩ := new h
      cases q
    · obtain ⟨q1, q2⟩ := old hj h
      obtain ⟨v, hv, rv⟩ := e.dat j d q1
      exact ⟨v, by rw [q2]; exact hv, Rep.fw oo st e.Ool d v rv⟩
  · by_cases hj : i = j
    · subst hj
      obtain ⟨q, _⟩ := new h
      cases q
    · obtain ⟨q1, q2⟩ := old hj h
      obtain ⟨a, us, h1, h2, h3, h4⟩ := e.own j xs q1
      exact ⟨a, us, by rw [q2]; exact h1, sm _ _ h2, fun z => z.elim h3 (ne h2), Reps.fw oo st e.Ool xs us h4⟩
  · by_cases hj : i = j
    · subst hj
      obtain ⟨q, _⟩ := new h1
      cases q
    · by_cases hl : i = l
      · subst hl
        obtain ⟨q, _⟩ := new h2
        cases q
      · obtain ⟨q1, q2⟩ := old hj h1
        obtain ⟨q3, q4⟩ := old hl h2
        exact e.inj j l xs ys a q1 q3 (by rw [← q2]; exact h3) (by rw [← q4]; exact h4)
  · by_cases hj : i = j
    · subst hj
      obtain ⟨q, _⟩ := new h
      cases q
    · obtain ⟨q1, q2⟩ := old hj h
      obtain ⟨a, h1, h2⟩ := e.wel j q1
      exact ⟨a, h1, by rw [q2]; exact h2⟩
  · obtain ⟨h1, h2⟩ := e.ws a h
    exact ⟨.inl h1, sm _ _ h2⟩
  · rcases h with h | h
    · obtain ⟨u, hu, mu⟩ := e.ol a h
      exact ⟨u, sm _ _ hu, mu⟩
    · rw [h]; exact ⟨_, upd_same, trivial⟩
  · by_cases hj : i = j
    · subst hj
      obtain ⟨q1, q2⟩ := new h
      cases q1
      exact ⟨p, [], q2, upd_same, .inr rfl, rfl, by simp only [List.map_nil, Reps]⟩
    · obtain ⟨q1, q2⟩ := old hj h
      obtain ⟨a, ws, h1, h2, h3, h4, h5⟩ := e.dct.1 j kvs q1
      exact ⟨a, ws, by rw [q2]; exact h1, sm _ _ h2, .inl h3, h4, Reps.fw oo st e.Ool _ _ h5⟩
  · have far : ∀ {j : Nat} {ks : List (List Key × PyData)}, i ≠ j → (ρ.set i (.dct []))[j]? = some (.dct ks) → (σ.set i (some (.ref p)))[j]? ≠ some (some (.ref p)) := fun {j ks} hj h z => by
      obtain ⟨q1, q2⟩ := old hj h
      obtain ⟨b, us, h1, h2, _⟩ := e.dct.1 j ks q1
      rw [q2, h1] at z
      cases z
      exact ne h2 rfl
    by_cases hj : i = j
    · subst hj
      by_cases hl : i = l
      · exact hl
      · obtain ⟨_, q2⟩ := new h1
        rw [q2] at h3
        cases h3
        exact absurd h4 (far hl h2)
    · by_cases hl : i = l
      · subst hl
        obtain ⟨_, q2⟩ := new h2
        rw [q2] at h4
        cases h4
        exact absurd h3 (far hj h1)
      · obtain ⟨q1, q2⟩ := old hj h1
        obtain ⟨q3, q4⟩ := old hl h2
        exact e.dct.2 j l ks ls a q1 q3 (by rw [← q2]; exact h3) (by rw [← q4]; exact h4)
  · by_cases hj : i = j
    · subst hj
      obtain ⟨q, _⟩ := new h1
      cases q
    · obtain ⟨q1, q2⟩ := old hj h1
      exact fz.own j xs a q1 (by rw [← q2]; exact h2)
  · by_cases hj : i = j
    · subst hj
      obtain ⟨_, q2⟩ := new h1
      rw [q2] at h2
      cases h2
      cases q : H0 p with
      | none => rfl
      | some u =>
        by_cases hw : w = some p
        · have z := (e.ws p hw).2
          rw [z] at n
          cases n
        · rw [fz.gr p u hw q] at n
          cases n
    · obtain ⟨q1, q2⟩ := old hj h1
      exact fz.dct j xs a q1 (by rw [← q2]; exact h2)
/-- a store into it -/
theorem EV.dctSet {K : Fr_} {Oc : AS} {w : Option Addr} {H0 : Hp} {σ : L2.St} {H : Hp} {ρ : Rho} {S : SW} {p : Addr} {kvs ls : List (List Key × PyData)} {ws : List (List Key × V)} (e : EV K Oc w σ H ρ S) (fz : Fz w H0 σ H ρ) {i : Nat} (hx : ρ[i]? = some (.dct kvs)) (hp : σ[i]? = some (some (.ref p)))
    (r : DRep K (OO Oc σ ρ) H ls ws) : EV K Oc w σ (upd H p (.dT ws)) (ρ.set i (.dct ls)) S ∧ Fz w H0 σ (upd H p (.dT ws)) (ρ.set i (.dct ls)) ∧ Fw Oc σ ρ H σ (ρ.set i (.dct ls)) (upd H p (.dT ws)) := by
  have hi : i < ρ.length := (List.getElem?_eq_some_iff.mp hx).1
  obtain ⟨p', us, hp', hl, op, _⟩ := e.dct.1 i kvs hx
  rw [hp] at hp'
  cases hp'
  have old : ∀ {j : Nat} {y : Sl}, i ≠ j → (ρ.set i (.dct ls))[j]? = some y → ρ[j]? = some y := fun {j y} hj h => by
    rw [List.getElem?_set_ne hj] at h
    exact h
  have oo : ∀ a, OO Oc σ (ρ.set i (.dct ls)) a → OO Oc σ ρ a := by
    rintro a (h | ⟨j, ys, h1, h2⟩)
    · exact .inl h
    · by_cases hj : i = j
      · subst hj
        rw [List.getElem?_set_self hi] at h1
        cases h1
      · exact .inr ⟨j, ys, old hj h1, h2⟩
  have st : Step (OO Oc σ ρ) H (upd H p (.dT ws)) := fun a u n h => by rw [upd_ne (fun z => n (.inl (by rw [z]; exact op)))]; exact h
  have nl : ∀ {a : Addr} {vs : List V}, H a = some (.lst vs) → a ≠ p := fun h z => by rw [z, hl] at h; cases h
  have dold : ∀ {j : Nat} {ks : List (List Key × PyData)}, (ρ.set i (.dct ls))[j]? = some (Sl.dct ks) → ∃ ks', ρ[j]? = some (Sl.dct ks') := fun {j ks} h => by
    by_cases hj : i = j
    · subst hj
      exact ⟨_, hx⟩
    · exact ⟨_, old hj h⟩
  refine ⟨⟨by simp [e.len], fun j d h => ?_, fun j ys h => ?_, fun j l ys zs a h1 h2 h3 h4 => ?_, fun j h => ?_, fun a h => ?_, fun a h => ?_, ⟨fun j ks h => ?_, fun j l ks ks' a h1 h2 h3 h4 => ?_⟩⟩, ⟨fun a u n h => ?_, fun j ys a h1 h2 => ?_, fun j ys a h1 h2 => ?_⟩, ⟨st, fun a z => .inl (oo a z)⟩⟩
  · by_cases hj : i = j
    · subst hj
      rw [List.getElem?_set_self hi] at h
      cases h
    · obtain ⟨v, hv, rv⟩ := e.dat j d (old hj h)
      exact ⟨v, hv, Rep.less oo d v (Rep.step st e.Ool d v rv)⟩
  · by_cases hj : i = j
    · subst hj
      rw [List.getElem?_set_self hi] at h
      cases h
    · obtain ⟨a, us, h1, h2, h3, h4⟩ := e.own j ys (old hj h)
      exact ⟨a, us, h1, by rw [upd_ne (nl h2)]; exact h2, h3, Reps.less oo ys us (Reps.step st e.Ool ys us h4)⟩
  · have up : ∀ {j : Nat} {ys : List PyData}, (ρ.set i (.dct ls))[j]? = some (Sl.own ys) → ρ[j]? = some (Sl.own ys) := fun {j ys} h => by
      by_cases hj : i = j
      · subst hj
        rw [List.getElem?_set_self hi] at h
        cases h
      · exact old hj h
    exact e.inj j l ys zs a (up h1) (up h2) h3 h4
  · by_cases hj : i = j
    · subst hj
      rw [List.getElem?_set_self hi] at h
      cases h
    · exact e.wel j (old hj h)
  · obtain ⟨h1, h2⟩ := e.ws a h
    exact ⟨h1, by rw [upd_ne (nl h2)]; exact h2⟩
  · by_cases hap : a = p
    · rw [hap]; exact ⟨_, upd_same, trivial⟩
    · obtain ⟨u, hu, mu⟩ := e.ol a h
      exact ⟨u, by rw [upd_ne hap]; exact hu, mu⟩
  · by_cases hj : i = j
    · subst hj
      rw [List.getElem?_set_self hi] at h
      cases h
      exact ⟨p, ws, hp, upd_same, op, r.1, Reps.less oo _ _ (Reps.step st e.Ool _ _ r.2)⟩
    · obtain ⟨a, us, h1, h2, h3, h4, h5⟩ := e.dct.1 j ks (old hj h)
      have hne : a ≠ p := fun z => hj (e.dct.2 i j kvs ks p hx (old hj h) hp (by rw [← z]; exact h1))
      exact ⟨a, us, h1, by rw [upd_ne hne]; exact h2, h3, h4, Reps.less oo _ _ (Reps.step st e.Ool _ _ h5)⟩
  · obtain ⟨k1, e1⟩ := dold h1
    obtain ⟨k2, e2⟩ := dold h2
    exact e.dct.2 j l k1 k2 a e1 e2 h3 h4
  · have hne : a ≠ p := fun z => by
      have q := fz.dct i kvs p hx hp
      rw [z, q] at h
      cases h
    rw [upd_ne hne]
    exact fz.gr a u n h
  · by_cases hj : i = j
    · subst hj
      rw [List.getElem?_set_self hi] at h1
      cases h1
    · exact fz.own j ys a (old hj h1) h2
  · obtain ⟨k1, e1⟩ := dold h1
    exact fz.dct j k1 a e1 h2
def sDct (i : Nat) (h : FS) : FS := fun ρ S B => h (ρ.set i (.dct [])) S { nx := fun _ _ => False, rt := B.rt, rn := B.rn }
def sParD (i j : Nat) (f : FE) (h : FS) : FS := fun ρ S B => f ρ S fun d S1 => h ((ρ.set i (.dat d)).set j (.dct [])) S1 { nx := fun _ _ => False, rt := B.rt, rn := B.rn }
/-- what the rest hands back -/
theorem Rx.dct {K : Fr_} {Oc : AS} {w : Option Addr} {H0 : Hp} {P : PyData → SW → Prop} {Pn : List PyData → SW → Prop} {Dr : VK} {p : Addr} (k : Rx K Oc w H0 P Pn Dr) : Rx K (With Oc p) w H0 P Pn Dr :=
  ⟨fun H' d v S' g w' r q => k.1 H' d v S' g w' (Rep.less (fun a z => .inl z) d v r) q, fun H' ds q vs S' g w' n hp r z => k.2 H' ds q vs S' g w' n hp (Reps.less (fun a z => z.elim (fun z => .inl (.inl z)) .inr) ds vs r) z⟩
def sDput (i n : Nat) (gl : FL) (f : FE) : FS := fun ρ S B => match ρ[i]? with
  | some (.dct kvs) => f ρ S fun d S1 => gl ρ S1 fun ks S2 => ∃ k : List Key, ks = k.map keyD ∧ kvs.length < sizeLine ∧ B.nx (ρ.set i (.dct (putD kvs k d))) S2
  | _ => False
theorem reps_keys {K : Fr_} {O : AS} {H : Hp} : ∀ {k : List Key} {vs : List V}, Reps K O H (k.map keyD) vs → vs = k.map kV
  | [], vs, h => by simpa [Reps] using h
  | .inl i :: k, vs, h => by
    simp only [List.map_cons, Reps, keyD, Rep] at h
    obtain ⟨v, r, rfl, rfl, h2⟩ := h
    rw [reps_keys h2]
    rfl
  | .inr x :: k, vs, h => by
    simp only [List.map_cons, Reps, keyD, Rep] at h
    obtain ⟨v, r, rfl, rfl, h2⟩ := h
    rw [reps_keys h2]
    rfl
section
variable {X : Cx} {e : Expr} {rest : List Stmt} {pos p pd : Pos} {f : FE} {gl : FL} {h : FS} {x y : Str} {es : List Expr} {n : Nat}
theorem s_dct (i : Nat) (hN : X.N.Nodup) (hrest : PSs X rest (rs X.K h)) (hi : X.N[i]? = some x := by rfl) (hx : Loc X.env.scope x := by first | exact Or.inl rfl | exact Or.inr rfl) (hs : swapsWith (.Dict [] [] pd) (some (.Name x p)) pos.line X.env = pure false := by rfl)
    (hf : X.fn x = true ∨ X.env.scope.names.lookup x = some .local := by first | exact .inl rfl | exact .inr rfl) : PSs X (.Assign [.Name x p] (.Dict [] [] pd) pos :: rest) (rs X.K (sDct i h)) := PSs.imp (pss_cons (ps_set (i := i) hN hi hx pe_dnewT hs hf) hrest) fun D σ H ⟨Oc, w, H0, ρ, S, B, ev, fz, hf, k1, k2, k3, k4⟩ => fun p hp => by
  obtain ⟨ev2, fz2⟩ := ev.putDct fz i hp
  exact ⟨With Oc p, w, H0, _, S, _, ev2, fz2, hf, fun _ _ _ _ _ _ _ q => q.elim, k2.dct, fun _ _ _ _ _ _ _ q => q.elim, fun _ _ _ _ _ _ _ q => q.elim⟩
theorem s_parD (i j : Nat) {px py pt : Pos} {kt k2 pt2} (hc : X.calm = true) (hN : X.N.Nodup) (ha : PE X e (rd X.K f)) (hrest : PSs X rest (rs X.K h)) (hi : X.N[i]? = some x := by rfl) (hj : X.N[j]? = some y := by rfl) (hij : i ≠ j := by decide)
    (hx : X.env.scope.names.lookup x = some .local := by rfl) (hy : X.env.scope.names.lookup y = some .local := by rfl)
    (hw : swappedStores [.Tuple [.Name x px, .Name y py] kt pt] (.Tuple [e, .Dict [] [] pd] k2 pt2) X.env = pure (some [x, y]) := by rfl)
    (hs : swapsWithSole [.Tuple [.Name x px, .Name y py] kt pt] (.Tuple [e, .Dict [] [] pd] k2 pt2) pos.line X.env = pure false := by rfl)
    (h1 : starEach (e :: [.Dict [] [] pd]) X.env = (false, eval e X.env) :: starEach [.Dict [] [] pd] X.env := by rfl) (h2 : starEach (.Dict [] [] pd :: []) X.env = (false, eval (.Dict [] [] pd) X.env) :: starEach [] X.env := by rfl) :
    PSs X (.Assign [.Tuple [.Name x px, .Name y py] kt pt] (.Tuple [e, .Dict [] [] pd] k2 pt2) pos :: rest) (rs X.K (sParD i j f h)) :=
  PSs.imp (pss_cons (ps_par hc hN hi hj hij hx hy (pa_cons ha (pa_cons pe_dnewT pa_nil h2) h1) hw hs) hrest) fun D σ H ⟨Oc, w, H0, ρ, S, B, ev, fz, hf, k1, k2, k3, k4⟩ => by
    refine ⟨Oc, w, ρ, S, _, ev, hf, fun d S1 v H1 ev1 g1 r q => fun p hp => ?_⟩
    obtain ⟨ev2, t2⟩ := ev1.put i r
    obtain ⟨ev3, fz3⟩ := ev2.putDct (t2.fz (fz.go g1)) j hp
    exact ⟨v, .ref p, rfl, With Oc p, w, H0, _, S1, _, ev3, fz3, q, fun _ _ _ _ _ _ _ q => q.elim, k2.dct, fun _ _ _ _ _ _ _ q => q.elim, fun _ _ _ _ _ _ _ q => q.elim⟩
/-- the same where the names are no plain locals -/
theorem s_asgD (i j : Nat) {px py pt : Pos} {kt k2 pt2} (hc : X.calm = true) (hN : X.N.Nodup) (ha : PE X e (rd X.K f)) (hrest : PSs X rest (rs X.K h)) (hi : X.N[i]? = some x := by rfl) (hj : X.N[j]? = some y := by rfl)
    (hx : Loc X.env.scope x := by first | exact Or.inl rfl | exact Or.inr rfl) (hy : Loc X.env.scope y := by first | exact Or.inl rfl | exact Or.inr rfl)
    (hxf : X.fn x = true ∨ X.env.scope.names.lookup x = some .local := by first | exact .inl rfl | exact .inr rfl) (hyf : X.fn y = true ∨ X.env.scope.names.lookup y = some .local := by first | exact .inl rfl | exact .inr rfl)
    (hs1 : (assignEach (.Name x px :: [.Name y py]) X.env).map (·.2) = assign (.Name x px) X.env :: (assignEach [.Name y py] X.env).map (·.2) := by rfl) (hs2 : (assignEach (.Name y py :: []) X.env).map (·.2) = assign (.Name y py) X.env :: (assignEach [] X.env).map (·.2) := by rfl)
    (hn : (assignEach [.Name x px, .Name y py] X.env).length = 2 := by rfl) (hst : (assignEach [.Name x px, .Name y py] X.env).findIdx? (·.1) = none := by rfl)
    (hs : swapsWithSole [.Tuple [.Name x px, .Name y py] kt pt] (.Tuple [e, .Dict [] [] pd] k2 pt2) pos.line X.env = pure false := by rfl) (hw : swappedStores [.Tuple [.Name x px, .Name y py] kt pt] (.Tuple [e, .Dict [] [] pd] k2 pt2) X.env = pure none := by rfl)
    (h0 : (assignEach [.Tuple [.Name x px, .Name y py] kt pt] X.env).map (·.2) = [assign (.Tuple [.Name x px, .Name y py] kt pt) X.env] := by rfl)
    (h1 : starEach (e :: [.Dict [] [] pd]) X.env = (false, eval e X.env) :: starEach [.Dict [] [] pd] X.env := by rfl) (h2 : starEach (.Dict [] [] pd :: []) X.env = (false, eval (.Dict [] [] pd) X.env) :: starEach [] X.env := by rfl) :
    PSs X (.Assign [.Tuple [.Name x px, .Name y py] kt pt] (.Tuple [e, .Dict [] [] pd] k2 pt2) pos :: rest) (rs X.K (sParD i j f h)) :=
  PSs.imp (pss_cons (ps_asg (pe_tup (pa_cons ha (pa_cons pe_dnewT pa_nil h2) h1)) (pg_tup hc (pgs_cons (pg_name hN hi hx hxf) (pgs_cons (pg_name hN hj hy hyf) pgs_nil hs2) hs1) hn hst) hs hw h0) hrest) fun D σ H ⟨Oc, w, H0, ρ, S, B, ev, fz, hf, k1, k2, k3, k4⟩ => by
    refine ⟨Oc, w, ρ, S, _, ev, hf, fun d S1 v H1 ev1 g1 r q => fun p hp => ⟨by rw [sizeLine_eq]; simp, fun t ht => ⟨t, _, rfl, .inl (.inl upd_same), rfl, _, _, rfl, ?_⟩⟩⟩
    obtain ⟨ev2, t2⟩ := ev1.put i r
    obtain ⟨ev3, fz3⟩ := ev2.putDct (t2.fz (fz.go g1)) j hp
    have sm : Same (upd H1 p (.dT [])) (upd (upd H1 p (.dT [])) t (.tup [v, .ref p])) := Same.new ht
    exact ⟨_, _, rfl, rfl, With Oc p, w, H0, _, S1, _, ev3.same sm, fz3.go (Gr.of sm), q, fun _ _ _ _ _ _ _ q => q.elim, k2.dct, fun _ _ _ _ _ _ _ q => q.elim, fun _ _ _ _ _ _ _ q => q.elim⟩
theorem s_dput {k : Nat} (hr : RoomG k X.A) (i : Nat) {kt : Nat} {tp spos : Pos} (he : PE X e (rd X.K f)) (ha : PA X es (rda X.K n gl)) (hN : X.N[i]? = some x := by rfl) (hv : Vis X.env.scope x := by first | exact Or.inl rfl | exact Or.inr (Or.inl rfl) | exact Or.inr (Or.inr rfl)) (hd : (x == ("__debug__" : Str)) = false := by decide)
    (hcd : (x == ("__classdict__" : Str)) = false := by decide) (hs : swapsWith e (some (.Subscript (.Name x p) (.Tuple es kt tp) spos)) pos.line X.env = pure false := by rfl) (hn : n ≤ sizeLine := by decide) :
    PS X (.Assign [.Subscript (.Name x p) (.Tuple es kt tp) spos] e pos) (rs X.K (sDput i n gl f)) :=
  PS.imp (ps_dput (by have := hr.room.un; omega) (pe_var (i := i) hN hv hd hcd) (pe_tup ha) he hs) fun D σ H ⟨Oc, w, H0, ρ, S, B, ev, fz, hf, k1, k2, k3, k4⟩ => by
    unfold sDput at hf
    split at hf
    · rename_i kvs hx
      refine ⟨Oc, w, ρ, S, _, ev, hf, fun d S1 v H1 ev1 g1 r q => ?_⟩
      obtain ⟨a, ws, e1, e2, e3, e4⟩ := ev1.dct.1 i kvs hx
      refine ⟨_, e1, Oc, w, ρ, S1, _, ev1, q, fun ks S2 vs H2 ev2 g2 rk hl ⟨kk, ek, hz, q2⟩ => ⟨by rw [rk.len, hl]; exact hn, fun t ht => ?_⟩⟩
      subst ek
      have evs := reps_keys rk
      subst evs
      obtain ⟨a', ws', f1, f2, f3, f4⟩ := ev2.dct.1 i kvs hx
      rw [e1] at f1
      cases f1
      have sm : Same H2 (upd H2 t (.tup (kk.map kV))) := Same.new ht
      have ev3 := ev2.same sm
      have r3 := Rep.step (Step.of sm) ev2.Ool d v (Rep.step (ev1.stepO g2) ev1.Ool d v r)
      have gg := (g1.trans g2).trans (Gr.of sm)
      have f5 : DRep X.K (OO Oc σ ρ) (upd H2 t (.tup (kk.map kV))) kvs ws' := ⟨f4.1, Reps.step (Step.of sm) ev2.Ool _ _ f4.2⟩
      obtain ⟨ev4, fz4, fw4⟩ := EV.dctSet ev3 (fz.go gg) hx e1 (drep_put (k := kk) r3 f5)
      exact ⟨a, _, rfl, DPut.t (sm _ _ f2) upd_same (by rw [drep_len f4]; exact hz), k1 _ _ _ S2 ev4 fz4 ((ev.fw gg).trans fw4) q2⟩
    · exact hf.elim
end
end DL

namespace DL
open PySem PySem.Spec PyProof.Rows L2
/-! ### for y in zip(a, b): x[y] = True -/
def putZ (kvs : List (List Key × PyData)) : List Key → List Key → List (List Key × PyData)
  | a :: as, b :: bs => putZ (putD kvs [a, b] (.bool true)) as bs
  | _, _ => kvs
theorem putD_len (kvs : List (List Key × PyData)) (k : List Key) (d : PyData) : (putD kvs k d).length ≤ kvs.length + 1 := by
  unfold putD
  split
  · rw [List.length_map]; omega
  · rw [List.length_append, List.length_singleton]
    exact Nat.le_refl _
def sZipPut (i j : Nat) (fa fb : FE) : FS := fun ρ S B => match ρ[i]? with
  | some (.dct kvs) => ρ[j]? = some .un ∧ i ≠ j ∧ fa ρ S fun x S1 => fb ρ S1 fun y S2 => ∃ as bs : List Key, ((x = .list (as.map keyD) ∧ y = .list (bs.map keyD)) ∨ (x = .tuple (as.map keyD) ∧ y = .tuple (bs.map keyD))) ∧ kvs.length + as.length < sizeLine ∧ B.nx (ρ.set i (.dct (putZ kvs as bs))) S2
  | _ => False
theorem EV.unSet {K : Fr_} {Oc : AS} {w : Option Addr} {σ : L2.St} {H : Hp} {ρ : Rho} {S : SW} (e : EV K Oc w σ H ρ S) {j : Nat} (hj : ρ[j]? = some .un) (v : Option V) : EV K Oc w (σ.set j v) H ρ S ∧ Tgt [j] σ (σ.set j v) ρ ρ := by
  have ne : ∀ {l : Nat} {y : Sl}, y ≠ .un → ρ[l]? = some y → j ≠ l := fun hy h z => by
    rw [← z, hj] at h
    cases h
    exact hy rfl
  have at' : ∀ {l : Nat} {y : Sl}, y ≠ .un → ρ[l]? = some y → (σ.set j v)[l]? = σ[l]? := fun hy h => List.getElem?_set_ne (ne hy h)
  refine ⟨e.less (by simp) rfl (fun l d h => ?_) (fun l xs h => ⟨h, at' (by intro z; cases z) h⟩) (fun l h => ⟨h, at' (by intro z; cases z) h⟩) (fun l xs h => ⟨h, at' (by intro z; cases z) h⟩), ⟨by simp, fun l hl => ⟨List.getElem?_set_ne (fun z => hl (by simp [z])), rfl⟩, fun l xs h => ⟨h, at' (by intro z; cases z) h⟩, fun l xs h => ⟨h, at' (by intro z; cases z) h⟩⟩⟩
  obtain ⟨u, hu, r⟩ := e.dat l d h
  exact ⟨u, by rw [at' (by intro z; cases z) h]; exact hu, r⟩
/-- all but dicts stays -/
def Kp (H H' : Hp) : Prop := ∀ a u, (∀ ws, u ≠ .dT ws) → H a = some u → H' a = some u
theorem sq_kp {b : Bool} {K : Fr_} {H H' : Hp} {a : Addr} {xs : List V} (g : Kp H H') (h : SqS b K H a xs) : SqS b K H' a xs := by
  have rd : ∀ {u : HO}, (∀ ws, u ≠ .dT ws) → Rd H a u → Rd H' a u := fun n r => by
    rcases r with r | ⟨o, r⟩
    · exact .inl (g _ _ n r)
    · exact .inr ⟨o, g _ _ (fun ws z => nomatch z) r⟩
  cases b
  · rcases (show SqT K H a xs from h) with h | h
    · exact .inl (rd (fun ws z => nomatch z) h)
    · exact .inr h
  · rcases (show SqL K H a xs from h) with h | h
    · exact .inl (rd (fun ws z => nomatch z) h)
    · exact .inr h
theorem putZ_at : ∀ {as bs : List Key} {k : Nat} {kvs : List (List Key × PyData)} {a b : Key}, as[k]? = some a → bs[k]? = some b → putD (putZ kvs (as.take k) (bs.take k)) [a, b] (.bool true) = putZ kvs (as.take (k + 1)) (bs.take (k + 1))
  | _ :: _, _ :: _, 0, kvs, _, _, h, g => by cases h; cases g; simp [putZ]
  | _ :: as, _ :: bs, k + 1, kvs, a, b, h, g => by
    simp only [List.take_succ_cons, putZ]
    exact putZ_at h g
  | [], _, _, _, _, _, h, _ => by simp at h
  | _ :: _, [], _, _, _, _, _, g => by simp at g
theorem putZ_len : ∀ (as bs : List Key) (kvs : List (List Key × PyData)), (putZ kvs as bs).length ≤ kvs.length + as.length
  | a :: as, b :: bs, kvs => by
    have h1 := putZ_len as bs (putD kvs [a, b] (.bool true))
    have h2 := putD_len kvs [a, b] (.bool true)
    simp only [putZ, List.length_cons]
    omega
  | [], _, kvs => by simp [putZ]
  | _ :: _, [], kvs => by simp [putZ]
theorem putZ_min : ∀ (as bs : List Key) (kvs : List (List Key × PyData)), putZ kvs (as.take (min as.length bs.length)) (bs.take (min as.length bs.length)) = putZ kvs as bs
  | a :: as, b :: bs, kvs => by
    simp only [List.length_cons, Nat.succ_min_succ, List.take_succ_cons, putZ]
    exact putZ_min as bs _
  | [], bs, kvs => by simp [putZ]
  | a :: as, [], kvs => by simp [putZ]
section
variable {X : Cx} {e e2 : Expr} {pos p px py p1 p2 p3 pz ps pa : Pos} {fa fb : FE} {x y : Str} {jj : Nat}
theorem s_zipPut {k : Nat} (hr : RoomG k X.A) (i j : Nat) (hp : PassesOwn (model X.prog X.w) X.A X.env X.xe) (hc : X.calm = true) (hN : X.N.Nodup) (ha : PE X e (rd X.K fa)) (hb : PE X e2 (rd X.K fb)) (hm : X.mg "zip" = none) (hg : Gl X "zip" := by rfl)
    (hi : X.N[i]? = some x := by rfl) (hj : X.N[j]? = some y := by rfl) (hv : Vis X.env.scope x := by first | exact Or.inl rfl | exact Or.inr (Or.inl rfl) | exact Or.inr (Or.inr rfl)) (hd : (x == ("__debug__" : Str)) = false := by decide) (hcd : (x == ("__classdict__" : Str)) = false := by decide)
    (hv2 : Vis X.env.scope y := by first | exact Or.inl rfl | exact Or.inr (Or.inl rfl) | exact Or.inr (Or.inr rfl)) (hd2 : (y == ("__debug__" : Str)) = false := by decide) (hcd2 : (y == ("__classdict__" : Str)) = false := by decide)
    (hy : Loc X.env.scope y := by first | exact Or.inl rfl | exact Or.inr rfl) (hyf : X.fn y = true ∨ X.env.scope.names.lookup y = some .local := by first | exact .inl rfl | exact .inr rfl)
    (hs1 : starEach (e :: [e2]) X.env = (false, eval e X.env) :: starEach [e2] X.env := by rfl) (hs2 : starEach (e2 :: []) X.env = (false, eval e2 X.env) :: starEach [] X.env := by rfl)
    (hs : starEach [e, e2] X.env = (false, eval e X.env) :: starEach [e2] X.env := by rfl) (hpl : (backTo pz (starEach [e2] X.env)).any (·.1) = false := by rfl)
    (hsw : swapsWith (.Constant (.bool true) jj p3) (some (.Subscript (.Name x p1) (.Name y p2) ps)) pa.line X.env = pure false := by rfl) (hf : ∀ z, foldedSetIterable (.Call (.Name "zip" p) [e, e2] [] pz) X.env z = pure z := by intro _; rfl) :
    PS X (.For (.Name y py) (.Call (.Name "zip" p) [e, e2] [] pz) [.Assign [.Subscript (.Name x p1) (.Name y p2) ps] (.Constant (.bool true) jj p3) pa] [] pos) (rs X.K (sZipPut i j fa fb)) :=
  PS.imp (ps_for hp hc (pi_zipN hg hm (pa_cons ha (pa_cons hb pa_nil hs2) hs1) hs hpl) (pg_name (i := j) hN hj hy hyf) (pss_one (ps_dput (by have := hr.room.un; omega) (pe_var (i := i) hi hv hd hcd) (pe_var (i := j) hj hv2 hd2 hcd2) pe_bl hsw)) hf) fun D σ H ⟨Oc, w, H0, ρ, S, B, ev, fz, hf, k1, k2, k3, k4⟩ => by
    unfold sZipPut at hf
    split at hf
    · rename_i kvs hx
      obtain ⟨hun, hij, hf⟩ := hf
      refine ⟨Oc, w, ρ, S, _, ev, hf, fun d S1 v H1 ev1 g1 r h1 => ⟨Oc, w, ρ, S1, _, ev1, h1, fun d2 S2 u H2 ev2 g2 r2 ⟨as, bs, hrow, hz, q⟩ => ?_⟩⟩
      have r' := Rep.step (ev1.stepO g2) ev1.Ool d v r
      have rows : ∃ b a c, v = .ref a ∧ u = .ref c ∧ SqS b X.K H2 a (as.map kV) ∧ SqS b X.K H2 c (bs.map kV) := by
        rcases hrow with ⟨rfl, rfl⟩ | ⟨rfl, rfl⟩ <;> simp only [Rep] at r' r2
        · obtain ⟨a, vs, rfl, q1, rr⟩ := r'
          obtain ⟨c, us, rfl, q2, rr2⟩ := r2
          rw [reps_keys rr] at q1
          rw [reps_keys rr2] at q2
          exact ⟨true, a, c, rfl, rfl, q1.sq, q2.sq⟩
        · obtain ⟨a, vs, rfl, q1, rr⟩ := r'
          obtain ⟨c, us, rfl, q2, rr2⟩ := r2
          rw [reps_keys rr] at q1
          rw [reps_keys rr2] at q2
          exact ⟨false, a, c, rfl, rfl, q1, q2⟩
      obtain ⟨b, a, c, rfl, rfl, qa, qc⟩ := rows
      have gg := g1.trans g2
      refine ⟨b, a, c, _, _, rfl, qa, qc, ?_⟩
      have hil : i < ρ.length := (List.getElem?_eq_some_iff.mp hx).1
      have hjl : j < ρ.length := (List.getElem?_eq_some_iff.mp hun).1
      refine for_it (walk_zipN (n := min as.length bs.length) (by rw [List.length_map, List.length_map])) (fun m σ' H' => EV X.K Oc w σ' H' (ρ.set i (.dct (putZ kvs (as.take m) (bs.take m)))) S2 ∧ Fz w H0 σ' H' (ρ.set i (.dct (putZ kvs (as.take m) (bs.take m)))) ∧ Fw Oc σ ρ H σ' (ρ.set i (.dct (putZ kvs (as.take m) (bs.take m)))) H' ∧ Kp H2 H')
        ?_ (fun m σ' H' _ ⟨_, _, _, kp⟩ => ⟨sq_kp kp qa, sq_kp kp qc⟩) (fun m xx σ' H' H3 hlt ⟨ev', fz', fw', kp⟩ hy => ?_) (fun σ' H' ⟨ev', fz', fw', kp⟩ => ?_)
      · have e0 : ρ.set i (.dct (putZ kvs (as.take 0) (bs.take 0))) = ρ := by
          simp only [List.take_zero, putZ]
          exact List.ext_getElem? fun l => by
            by_cases hl : i = l
            · subst hl; rw [List.getElem?_set_self hil, hx]
            · rw [List.getElem?_set_ne hl]
        rw [e0]
        exact ⟨ev2, fz.go gg, ev.fw gg, fun _ _ _ h => h⟩
      · obtain ⟨T, x1, y1, rfl, hT, rfl, hx1, hy1⟩ := hy
        have ha1 : m < as.length := by omega
        have hb1 : m < bs.length := by omega
        have ea : as[m]? = some as[m] := List.getElem?_eq_getElem ha1
        have eb : bs[m]? = some bs[m] := List.getElem?_eq_getElem hb1
        replace hx1 : (as.map kV)[m]? = some x1 := hx1
        replace hy1 : (bs.map kV)[m]? = some y1 := hy1
        rw [List.getElem?_map, ea] at hx1
        rw [List.getElem?_map, eb] at hy1
        cases hx1
        cases hy1
        have hunk : (ρ.set i (.dct (putZ kvs (as.take m) (bs.take m))))[j]? = some .un := by rw [List.getElem?_set_ne hij]; exact hun
        have hik : (ρ.set i (.dct (putZ kvs (as.take m) (bs.take m))))[i]? = some (.dct (putZ kvs (as.take m) (bs.take m))) := List.getElem?_set_self hil
        have sm : Same H' (upd H' T (.tup ([as[m], bs[m]].map kV))) := Same.new hT
        have ev3 := ev'.same sm
        obtain ⟨ev4, t4⟩ := ev3.unSet hunk (some (.ref T))
        have fz4 := t4.fz (fz'.go (Gr.of sm))
        have fw4 := (fw'.trans (ev'.fw (Gr.of sm))).trans t4.fw
        obtain ⟨p', ws, e1, e2, e3, e4⟩ := ev4.dct.1 i _ hik
        have e1' := e1
        obtain ⟨ev5, fz5, fw5⟩ := EV.dctSet ev4 fz4 hik e1 (drep_put (k := [as[m], bs[m]]) (d := .bool true) (v := .bl true) (by simp only [Rep]) e4)
        have es : (ρ.set i (.dct (putZ kvs (as.take m) (bs.take m)))).set i (.dct (putD (putZ kvs (as.take m) (bs.take m)) [as[m], bs[m]] (.bool true))) = ρ.set i (.dct (putZ kvs (as.take (m + 1)) (bs.take (m + 1)))) := by
          rw [List.set_set, putZ_at ea eb]
        rw [es] at ev5 fz5 fw5
        have hjs : j < σ'.length := by
          have := ev'.len
          rw [List.length_set] at this
          omega
        have hlen : ws.length < sizeLine := by
          rw [drep_len e4]
          have := putZ_len (as.take m) (bs.take m) kvs
          rw [List.length_take] at this
          omega
        refine ⟨_, e1, .ref T, by rw [List.getElem?_set_self hjs], p', _, rfl, DPut.t e2 upd_same hlen, ev5, fz5, fw4.trans fw5, fun d u n h => ?_⟩
        have h' := kp d u n h
        have nT : d ≠ T := fun z => by rw [z, hT] at h'; cases h'
        have h2 : upd H' T (.tup ([as[m], bs[m]].map kV)) d = some u := by rw [upd_ne nT]; exact h'
        rw [upd_ne (fun z => n ws (by rw [z, e2] at h2; exact (Option.some.inj h2).symm))]
        exact h2
      · have en := putZ_min as bs kvs
        rw [en] at ev' fz' fw'
        exact k1 σ' H' _ S2 ev' fz' fw' q
    · exact hf.elim
end
/-! ### a list of one's own, lent -/
mutual
/-- no list, no dict in it -/
def noLst : PyData → Bool
  | .list _ => false
  | .dict _ => false
  | .tuple ds => noLsts ds
  | _ => true
def noLsts : List PyData → Bool
  | [] => true
  | d :: ds => noLst d && noLsts ds
end
mutual
theorem Rep.free {K : Fr_} {O O' : AS} {H : Hp} : ∀ (d : PyData) (v : V), noLst d = true → Rep K O H d v → Rep K O' H d v
  | .none, v, _, h => by simp only [Rep] at *; exact h
  | .bool b, v, _, h => by simp only [Rep] at *; exact h
  | .int i, v, _, h => by simp only [Rep] at *; exact h
  | .str x, v, _, h => by simp only [Rep] at *; exact h
  | .list ds, v, c, h => by simp [noLst] at c
  | .dict ds, v, c, h => by simp [noLst] at c
  | .tuple ds, v, c, h => by
    simp only [Rep] at *
    obtain ⟨a, vs, e, q, r⟩ := h
    exact ⟨a, vs, e, q, Reps.free ds vs (by simpa only [noLst] using c) r⟩
theorem Reps.free {K : Fr_} {O O' : AS} {H : Hp} : ∀ (ds : List PyData) (vs : List V), noLsts ds = true → Reps K O H ds vs → Reps K O' H ds vs
  | [], vs, _, h => by simp only [Reps] at *; exact h
  | d :: ds, vs, c, h => by
    simp only [noLsts, Bool.and_eq_true] at c
    simp only [Reps] at *
    obtain ⟨v, r, e, h1, h2⟩ := h
    exact ⟨v, r, e, Rep.free d v c.1 h1, Reps.free ds r c.2 h2⟩
end
def fLend (i : Nat) (f : FE) : FE := fun ρ S R => match ρ[i]? with
  | some (.own xs) => f (ρ.set i (.dat (.list xs))) S fun d S' => noLst d = true ∧ R d S'
  | _ => False
theorem d_lend {X : Cx} {e : Expr} {f : FE} (i : Nat) (he : PE X e (rd X.K f)) : PE X e (rd X.K (fLend i f)) := PE.imp he fun σ H Q ⟨Oc, w, ρ, S, R, ev, hf, k⟩ => by
  unfold fLend at hf
  split at hf
  · rename_i xs hx
    obtain ⟨ev2, own, _⟩ := ev.frz hx
    exact ⟨Oc, w, _, S, _, ev2, hf, fun d S' v H' ev' g r ⟨nl, q⟩ => k d S' v H' (ev.go g fun a h => (ev'.ws a h).2) g (Rep.free d v nl r) q⟩
  · exact hf.elim
end DL

namespace DL
open PySem PySem.Spec PyProof.Rows L2 HT
/-! ### t[::k], t a tuple, k 1 or -1 -/
section
variable {prog : Program} {w : World} {A : Around} {E : Value → Shared → Prop} {s : Shared}
theorem fwd_places (n : Nat) : Builtin.Slice.slicePlaces 0 n 1 = n := by
  unfold Builtin.Slice.slicePlaces
  rw [if_pos (by decide)]
  split
  · rw [Int.ediv_one]
    omega
  · omega
theorem applied_fwd {sl : Addr} {u : Tok} {n : Nat} {Q : Int × Int × Nat → Shared → Prop} (hs : s.heap.IsSliceOf sl .none .none (.int 1 u)) (h : Q (0, 1, n) s) :
    wpAny (model prog w) A (Builtin.Slice.sliceApplied (.ref sl) (pure (n : Int))) Q E s := by
  obtain ⟨os, hos, hcs, hds⟩ := id hs
  unfold Builtin.Slice.sliceApplied Builtin.Slice.sliceFields
  refine wpAny_bind (wpAny_bind (wpAny_field hos hds (x := .none) rfl (wpAny_bind (wpAny_field hos hds (x := .none) rfl (wpAny_bind (wpAny_field hos hds (x := .int 1 u) rfl (wpAny_pure ?_)))))))
  refine wpAny_bind (slicePart_int ?_)
  show wpAny _ _ (if ((1 : Int) == 0) = true then _ else _) _ _ s
  rw [if_neg (by decide)]
  refine wpAny_bind (slicePart_none (wpAny_bind (slicePart_none (wpAny_bind (wpAny_pure ?_)))))
  show wpAny _ _ (pure ((0 : Int), (1 : Int), Builtin.Slice.slicePlaces 0 n 1)) _ _ s
  rw [fwd_places]
  exact wpAny_pure h
theorem tuple_fwd {t sl : Addr} {items : Array Value} {u : Tok} {Q : Value → Shared → Prop} (ht : IsTup s.heap t items) (hs : s.heap.IsSliceOf sl .none .none (.int 1 u))
    (h : Q (.ref t) s) : wpAny (model prog w) A (getItem (.ref t) (.ref sl)) Q E s := by
  obtain ⟨os, hos, hcs, hds⟩ := id hs
  have hTs : s.TypeIs (.ref sl) "slice" := ⟨os, hos, hcs⟩
  unfold getItem
  try with_reducible refine wpAny_holding ?_
  first | refine wpAny_bind (wpAny_pure ?_) | skip
  refine wpAny_bind (wpAny_sequenceKey ht.typeIs (by decide) (wpAny_bind (wpAny_callSpecial?_slot (name := Str.ofString "__getitem__") ht.typeIs PyProof.Rows.slot_tuple_getitem
    (wpAny_call_entry PyProof.Rows.slot_tuple_getitem ht.typeIs entry_tuple_getitem ?_ (args_tuple_getitem _ _)))))
  show wpAny _ _ (Builtin.Tuple.tupleItemsOf (.ref t) >>= _) _ _ s
  refine wpAny_bind (tupleItemsOf_ ht (wpAny_bind (wpAny_typeOf hTs ?_)))
  rw [if_pos (by decide)]
  refine wpAny_bind (applied_fwd hs ?_)
  show wpAny _ _ (if ((0 : Int) == 0 && (1 : Int) == 1 && items.size == items.size) = true then _ else _) _ _ s
  rw [if_pos (by simp)]
  refine wpAny_bind (m := Builtin.Tuple.tupleIsExact _) ?_
  unfold Builtin.Tuple.tupleIsExact
  refine wpAny_bind (wpAny_typeOf ht.typeIs (wpAny_pure ?_))
  rw [if_pos (by decide)]
  refine wpAny_bind (wpAny_rule ?_)
  first
    | exact wpAny_bind (wpAny_pure ⟨_, rfl, wpAny_pure h⟩)
    | exact wpAny_bind (wpAny_pure (wpAny_pure ⟨_, rfl, wpAny_pure h⟩))
    | exact wpAny_pure ⟨_, rfl, wpAny_pure h⟩
end
section
variable {X : Cx} {e g : Expr} {pos p2 : Pos} {te tg : TE} {f fg : FE}
def tStep (K : Fr_) (te tg : TE) : TE := fun σ H Q => te σ H fun x H1 => tg σ H1 fun y H2 => ∃ a xs, x = .ref a ∧ SqT K H2 a xs ∧ ((y = .int 1 ∧ Q (.ref a) H2) ∨ (y = .int (-1) ∧ ∀ p, H2 p = none → Q (.ref p) (upd H2 p (.tup xs.reverse))))
theorem pe_step (he : PE X e te) (hg : PE X g tg) : PE X (.Subscript e (.Slice none none (some g) p2) pos) (tStep X.K te tg) := by
  refine ⟨fun pins s σ H Q I h => Subscript_ (thn (he.run pins s σ H _ I h) fun v s1 ⟨x, H1, I1, r1, q1⟩ => ?_)⟩
  refine wpAny_Slice ?_
  rw [evalPart_none]
  refine wpAny_pure (wpAny_pure ?_)
  rw [evalPart_some]
  refine thn (hg.run pins s1 σ H1 _ I1 q1) ?_
  rintro u s2 ⟨y, H2, I2, ry, a, xs, rfl, hx, q⟩
  cases r1
  rcases q with ⟨rfl, q⟩ | ⟨rfl, q⟩
  · obtain ⟨t, rfl⟩ := ry
    have I3 : Inv X pins σ H2 { s2 with heap := s2.heap.push { cls := .type "slice", data := .fields #[.none, .none, .int 1 t] } } := I2.kept (t' := s2.toks) fun b ob q => Heap.get?_push_of_some _ q
    obtain ⟨its, r, ht, hz⟩ := I3.tuple hx
    refine tail_any (T := "tuple") (ops := [.ref a, .ref s2.heap.objs.size]) ht.typeIs PyProof.Rows.slot_tuple_getitem.lookup ?_ (by with_unfolding_all rfl)
    exact tuple_fwd ht (Heap.IsSliceOf.new ..) ⟨.ref a, _, I3, rfl, q⟩
  · obtain ⟨t, rfl⟩ := ry
    have I3 : Inv X pins σ H2 { s2 with heap := s2.heap.push { cls := .type "slice", data := .fields #[.none, .none, .int (-1) t] } } := I2.kept (t' := s2.toks) fun b ob q => Heap.get?_push_of_some _ q
    obtain ⟨its, r, ht, hz⟩ := I3.tuple hx
    have hl := r.length
    refine tail_any (T := "tuple") (ops := [.ref a, .ref s2.heap.objs.size]) ht.typeIs PyProof.Rows.slot_tuple_getitem.lookup ?_ (by with_unfolding_all rfl)
    refine tuple_back ht (Heap.IsSliceOf.new ..) ?_ (by rw [List.size_toArray, ← hl]; exact hz)
    refine ⟨.ref _, _, I3.laid (t' := s2.toks) (o := .tup xs.reverse) (fun b ob q => Heap.get?_push_of_some _ q) (Nat.le_refl _) ?_, rfl, q _ (I3.hok.fresh (Nat.le_refl _))⟩
    exact ⟨by rw [List.length_reverse]; exact hz, _, r.reverse, IsTup.new _ _⟩
def oStep : O2 := fun x y R => match x, y with
  | .tuple ds, .int k => (k = 1 ∧ R (.tuple ds)) ∨ (k = -1 ∧ R (.tuple ds.reverse))
  | _, _ => False
theorem d_step (he : PE X e (rd X.K f)) (hg : PE X g (rd X.K fg)) : PE X (.Subscript e (.Slice none none (some g) p2) pos) (rd X.K (fOp oStep f fg)) := PE.imp (pe_step he hg) fun σ H Q ⟨Oc, w, ρ, S, R, ev, hf, k⟩ =>
  ⟨Oc, w, ρ, S, _, ev, hf, fun d S1 v H1 ev1 g1 r h1 => ⟨Oc, w, ρ, S1, _, ev1, h1, fun d2 S2 u H2 ev2 g2 r2 h2 => by
    have r' := Rep.step (ev1.stepO g2) ev1.Ool d v r
    unfold oStep at h2
    split at h2
    · rename_i ds kk
      have r0 := r'
      simp only [Rep] at r' r2
      obtain ⟨a, vs, rfl, q1, rr⟩ := r'
      refine ⟨a, vs, rfl, q1, ?_⟩
      rcases h2 with ⟨rfl, h2⟩ | ⟨rfl, h2⟩
      · exact .inl ⟨r2, k _ S2 _ H2 ev2 (g1.trans g2) r0 h2⟩
      · exact .inr ⟨r2, fun t ht => k _ S2 _ _ (ev2.same (Same.new ht)) ((g1.trans g2).trans (Gr.of (Same.new ht))) (rep_tup ev2.Ool ht rr.back) h2⟩
    · exact h2.elim⟩⟩
end
end DL

namespace DL
open PySem PySem.Spec PyProof.Rows L2
/-! ### [e for x in a for y in b] -/
/-- slots forgotten -/
theorem EV.wiped {K : Fr_} {Oc : AS} {w : Option Addr} {σ : L2.St} {H : Hp} {ρ : Rho} {S : SW} (e : EV K Oc w σ H ρ S) (vs : List Nat) : EV K Oc w (wipe σ vs) H (rwipe ρ vs) S ∧ ∀ a, OO Oc (wipe σ vs) (rwipe ρ vs) a → OO Oc σ ρ a := by
  have inn : ∀ {j : Nat} {x : Sl}, x ≠ .un → (rwipe ρ vs)[j]? = some x → ρ[j]? = some x ∧ (wipe σ vs)[j]? = σ[j]? := fun {j x} hx h => by
    by_cases hj : j ∈ vs
    · rcases rwipe_in (ρ := ρ) hj with z | z
      · rw [z] at h; cases h; exact absurd rfl hx
      · rw [z] at h; cases h
    · exact ⟨by rw [← rwipe_out hj]; exact h, wipe_out hj⟩
  refine ⟨e.less (by rw [wipe_length]) (by rw [rwipe_len]) (fun j d h => ?_) (fun j xs h => inn (by intro z; cases z) h) (fun j h => inn (by intro z; cases z) h) (fun j xs h => inn (by intro z; cases z) h), ?_⟩
  · obtain ⟨t1, t2⟩ := inn (by intro z; cases z) h
    obtain ⟨v, hv, r⟩ := e.dat j d t1
    exact ⟨v, t2.trans hv, r⟩
  · rintro a (h | ⟨j, xs, h1, h2⟩)
    · exact .inl h
    · obtain ⟨t1, t2⟩ := inn (by intro z; cases z) h1
      exact .inr ⟨j, xs, t1, by rw [← t2]; exact h2⟩
/-- slots as they were but those of vs, forgotten -/
theorem EV.backTo {K : Fr_} {Oc : AS} {w : Option Addr} {σ σ' : L2.St} {H : Hp} {ρ ρ' : Rho} {S : SW} {vs : List Nat} (e : EV K Oc w σ' H ρ' S) (l1 : σ'.length = σ.length) (l2 : ρ'.length = ρ.length) (h : ∀ j, j ∉ vs → σ'[j]? = σ[j]? ∧ ρ'[j]? = ρ[j]?) : EV K Oc w (wipe σ vs) H (rwipe ρ vs) S := by
  have e1 : wipe σ vs = wipe σ' vs := (wipe_eq l1 fun j hj => (h j hj).1).symm
  have e2 : rwipe ρ vs = rwipe ρ' vs := by
    refine List.ext_getElem? fun j => ?_
    by_cases hj : j ∈ vs
    · by_cases hk : j < ρ.length
      · rcases rwipe_in (ρ := ρ) hj with z | z
        · rcases rwipe_in (ρ := ρ') hj with z' | z'
          · rw [z, z']
          · rw [List.getElem?_eq_none_iff, rwipe_len] at z'
            omega
        · rw [List.getElem?_eq_none_iff, rwipe_len] at z
          omega
      · rw [List.getElem?_eq_none (by rw [rwipe_len]; omega), List.getElem?_eq_none (by rw [rwipe_len]; omega)]
    · rw [rwipe_out hj, rwipe_out hj, (h j hj).2]
  rw [e1, e2]
  exact (e.wiped vs).1
def lc2In (fg : FG) (fe : FE) (ρ : Rho) : List PyData → List PyData → SW → (List PyData → SW → Prop) → Prop
  | [], acc, S, T => T acc S
  | d :: ds, acc, S, T => fg ρ d fun ρ' => fe ρ' S fun y S1 => acc.length < sizeLine ∧ lc2In fg fe ρ ds (acc ++ [y]) S1 T
def lc2Go (fg : FG) (fi1 : FI) (vs1 : List Nat) (fg1 : FG) (fe : FE) (ρ : Rho) : List PyData → List PyData → SW → (List PyData → SW → Prop) → Prop
  | [], acc, S, T => T acc S
  | d :: ds, acc, S, T => fg ρ d fun ρ' => fi1 ρ' S fun es S1 => lc2In fg1 fe (rwipe ρ' vs1) es acc S1 fun acc' S2 => lc2Go fg fi1 vs1 fg1 fe ρ ds acc' S2 T
def fLc2 (fi : FI) (vs : List Nat) (fg : FG) (fi1 : FI) (vs1 : List Nat) (fg1 : FG) (fe : FE) : FE := fun ρ S R => fi ρ S fun ds S1 => notOwn ρ vs ∧ lc2Go fg fi1 vs1 fg1 fe (rwipe ρ vs) ds [] S1 fun out S2 => R (.list out) S2
theorem rd_lc2 {K : Fr_} {fi fi1 : FI} {vs vs1 is is1 : List Nat} {fg fg1 : FG} {fe : FE} (hv : ∀ j ∈ vs1, j ∈ vs) (his : ∀ j ∈ is, j ∈ vs) (his1 : ∀ j ∈ is1, j ∈ vs1) : ∀ σ H Q, rn K (fLc2 fi vs fg fi1 vs1 fg1 fe) σ H Q →
    tLc2 (ric K fi) (rg K is fg) (rt K (fC (.bool true))) (rif K fi1) (rg K is1 fg1) (rt K (fC (.bool true))) (rd K fe) vs vs1 σ H Q := by
  rintro σ H Q ⟨Oc, w, ρ, S, R, ev, hf, k⟩
  refine ⟨Oc, w, ρ, S, _, ev, hf, fun ds S1 J H1 ev1 g1 it ⟨no, h1⟩ D hD => ?_⟩
  obtain ⟨G, Y, wk, hG⟩ := it.ex
  have hwD : w ≠ some D := fun z => by
    have := (ev1.ws D z).2
    rw [hD] at this
    cases this
  have same0 : ∀ j, j ∉ vs → (wipe σ vs)[j]? = σ[j]? ∧ (rwipe ρ vs)[j]? = ρ[j]? := fun j hj => ⟨wipe_out hj, rwipe_out hj⟩
  have oo2 : ∀ a, OO (With Oc D) (wipe σ vs) (rwipe ρ vs) a → OO Oc σ ρ a ∨ H1 a = none := by
    rintro a ((h1 | h1) | ⟨i, xs, h1, h2⟩)
    · exact .inl (.inl h1)
    · exact .inr (by rw [h1]; exact hD)
    · by_cases hi : i ∈ vs
      · rcases rwipe_in (ρ := ρ) hi with z | z <;> (rw [z] at h1; cases h1)
      · rw [rwipe_out hi] at h1
        rw [wipe_out hi] at h2
        exact .inl (.inr ⟨i, xs, h1, h2⟩)
  let Pv : Nat → Hp → Prop := fun i H' => ∃ acc va S2, EV K (With Oc D) w (wipe σ vs) H' (rwipe ρ vs) S2 ∧ Gr w H1 H' ∧ H' D = some (.lst va) ∧ Reps K (With (OO Oc σ ρ) D) H' acc va ∧ lc2Go fg fi1 vs1 fg1 fe (rwipe ρ vs) (ds.drop i) acc S2 fun out S3 => R (.list out) S3
  refine ⟨fun i m H => m = ds.length - i ∧ i ≤ ds.length ∧ Pv i H, ⟨ds.length, by simp, Nat.zero_le _, [], [], S1, ev1.block hD, Gr.of (Same.new hD), upd_same, by simp only [Reps], h1⟩, ?_⟩
  rintro i m H' ⟨rfl, hi, acc, va, S2, ev2, g2, hDv, ra, hgo⟩
  have hGG := hG _ H' ev2.Ool oo2 g2
  rcases Nat.lt_or_ge i ds.length with hlt | hge
  · refine .inr ⟨wk.goes i H' hlt hGG.1, Pv (i + 1), fun H'' p => ⟨ds.length - (i + 1), by omega, rfl, by omega, p⟩, fun x H3 hy => ?_⟩
    obtain ⟨d, hd, sm, rx⟩ := hGG.2 i x H3 (wk.yields i H' x H3 hlt hGG.1 hy) hlt
    rw [List.drop_eq_getElem_cons hlt] at hgo
    rw [List.getElem?_eq_getElem hlt] at hd
    cases hd
    have ev3 := ev2.same sm
    refine ⟨_, w, _, S2, _, _, ev3, rx, hgo, fun σ2 ρ2 ev4 tg q4 => ?_⟩
    have agree : ∀ j, j ∉ vs → σ2[j]? = σ[j]? ∧ ρ2[j]? = ρ[j]? := fun j hj => by
      obtain ⟨t1, t2⟩ := tg.at' j fun z => hj (his j z)
      obtain ⟨s1, s2⟩ := same0 j hj
      exact ⟨t1.trans s1, t2.trans s2⟩
    have len2 : σ2.length = σ.length := by rw [tg.len, wipe_length]
    refine ⟨wipe_eq len2 fun j hj => (agree j hj).1, _, w, ρ2, S2, fun b S' => b = true ∧ fi1 ρ2 S' fun es S1 => lc2In fg1 fe (rwipe ρ2 vs1) es acc S1 fun acc' S2 => lc2Go fg fi1 vs1 fg1 fe (rwipe ρ vs) (ds.drop (i + 1)) acc' S2 fun out S3 => R (.list out) S3, ev4, ⟨rfl, q4⟩, fun b S3 H4 ev5 g5 ⟨eb, q5⟩ => ?_⟩
    subst eb
    refine iteT ?_
    refine ⟨_, w, ρ2, S3, _, ev5, q5, fun es S4 J1 H5 ev6 g6 it1 q6 => ?_⟩
    obtain ⟨G1, Y1, wk1, hG1⟩ := it1.ex
    obtain ⟨evI, ooI⟩ := ev6.wiped vs1
    have gA : Gr w H' H5 := ((Gr.of sm).trans g5).trans g6
    have hD5 : H5 D = some (.lst va) := gA _ _ hwD hDv
    have wOc : ∀ a, w = some a → With Oc D a := fun a z => (ev6.ws a z).1
    have stR : ∀ {Ha Hb : Hp}, Gr w Ha Hb → Step (With (OO Oc σ ρ) D) Ha Hb := fun g a u n h => g a u (fun z => n (.inl (.inl (ev1.ws a z).1))) h
    have olR : OL (With (OO Oc σ ρ) D) H' := fun a z => ev2.Ool a (notOwn.oo no same0 a z)
    have ra5 := Reps.step (stR gA) olR acc va ra
    have agI : ∀ j, j ∉ vs → (wipe σ2 vs1)[j]? = σ[j]? ∧ (rwipe ρ2 vs1)[j]? = ρ[j]? := fun j hj => by
      have hj1 : j ∉ vs1 := fun z => hj (hv j z)
      exact ⟨(wipe_out hj1).trans (agree j hj).1, (rwipe_out hj1).trans (agree j hj).2⟩
    let Pi : Nat → Hp → Prop := fun j H' => ∃ acc va S', EV K (With Oc D) w (wipe σ2 vs1) H' (rwipe ρ2 vs1) S' ∧ Gr w H1 H' ∧ H' D = some (.lst va) ∧ Reps K (With (OO Oc σ ρ) D) H' acc va ∧ Step (OO (With Oc D) σ2 ρ2) H5 H' ∧ lc2In fg1 fe (rwipe ρ2 vs1) (es.drop j) acc S' fun acc' S2 => lc2Go fg fi1 vs1 fg1 fe (rwipe ρ vs) (ds.drop (i + 1)) acc' S2 fun out S3 => R (.list out) S3
    refine ⟨fun j m H => m = es.length - j ∧ j ≤ es.length ∧ Pi j H, ⟨es.length, by simp, Nat.zero_le _, acc, va, S4, evI, g2.trans gA, hD5, ra5, fun _ _ _ h => h, q6⟩, ?_⟩
    rintro j m' H6 ⟨rfl, hj, acc1, va1, S5, evJ, gJ, hDJ, raJ, stJ, hgJ⟩
    have hGJ := hG1 _ H6 evJ.Ool (fun a z => .inl (ooI a z)) stJ
    rcases Nat.lt_or_ge j es.length with hlj | hgej
    · refine .inr ⟨wk1.goes j H6 hlj hGJ.1, Pi (j + 1), fun H'' p => ⟨es.length - (j + 1), by omega, rfl, by omega, p⟩, fun x1 H7 hy1 => ?_⟩
      obtain ⟨d1, hd1, sm1, rx1⟩ := hGJ.2 j x1 H7 (wk1.yields j H6 x1 H7 hlj hGJ.1 hy1) hlj
      rw [List.drop_eq_getElem_cons hlj] at hgJ
      rw [List.getElem?_eq_getElem hlj] at hd1
      cases hd1
      have ev7 := evJ.same sm1
      refine ⟨_, w, _, S5, _, _, ev7, rx1, hgJ, fun σ3 ρ3 ev8 tg1 q8 => ?_⟩
      have len3 : σ3.length = σ2.length := by rw [tg1.len, wipe_length]
      have ag1 : ∀ l, l ∉ vs1 → σ3[l]? = σ2[l]? ∧ ρ3[l]? = ρ2[l]? := fun l hl => by
        obtain ⟨t1, t2⟩ := tg1.at' l fun z => hl (his1 l z)
        exact ⟨t1.trans (wipe_out hl), t2.trans (rwipe_out hl)⟩
      have ag3 : ∀ l, l ∉ vs → σ3[l]? = σ[l]? ∧ ρ3[l]? = ρ[l]? := fun l hl => by
        obtain ⟨t1, t2⟩ := ag1 l fun z => hl (hv l z)
        exact ⟨t1.trans (agree l hl).1, t2.trans (agree l hl).2⟩
      refine ⟨wipe_eq len3 fun l hl => (ag1 l hl).1, _, w, ρ3, S5, fun b S' => b = true ∧ fe ρ3 S' fun y S1 => acc1.length < sizeLine ∧ lc2In fg1 fe (rwipe ρ2 vs1) (es.drop (j + 1)) (acc1 ++ [y]) S1 fun acc' S2 => lc2Go fg fi1 vs1 fg1 fe (rwipe ρ vs) (ds.drop (i + 1)) acc' S2 fun out S3 => R (.list out) S3, ev8, ⟨rfl, q8⟩, fun b S6 H8 ev9 g9 ⟨eb1, q9⟩ => ?_⟩
      subst eb1
      refine iteT ?_
      refine ⟨_, w, ρ3, S6, _, ev9, q9, fun y S7 vy H9 ev10 g10 ry ⟨hlen, q10⟩ => ?_⟩
      have gB : Gr w H6 H9 := ((Gr.of sm1).trans g9).trans g10
      have hD9 : H9 D = some (.lst va1) := gB _ _ hwD hDJ
      have olJ : OL (With (OO Oc σ ρ) D) H6 := fun a z => evJ.Ool a (notOwn.oo no agI a z)
      have ol9 : OL (With (OO Oc σ ρ) D) H9 := fun a z => ev10.Ool a (notOwn.oo no ag3 a z)
      have ra9 := Reps.step (stR gB) olJ acc1 va1 raJ
      have ry9 : Rep K (With (OO Oc σ ρ) D) H9 y vy := Rep.less (notOwn.oo no ag3) y vy ry
      have st9 : Step (With (OO Oc σ ρ) D) H9 (upd H9 D (.lst (va1 ++ [vy]))) := fun a u n h => by rw [upd_ne (fun z => n (.inr z))]; exact h
      have ev11 := (ev10.backTo (vs := vs1) len3 (by rw [ev10.len, ev6.len, len3]) ag1).mut (p := D) (o := .lst (va1 ++ [vy])) (.inr rfl) hwD trivial (fun ws z => by rw [hD9] at z; cases z)
      refine ⟨va1, hD9, by rw [ra9.len]; exact hlen, acc1 ++ [y], va1 ++ [vy], S7, ev11, fun a u n h => ?_, upd_same, Reps.step st9 ol9 _ _ (ra9.app (by simp only [Reps]; exact ⟨vy, [], rfl, ry9, rfl⟩)), fun a u n h => ?_, q10⟩
      · have hne : a ≠ D := fun z => by rw [z, hD] at h; cases h
        rw [upd_ne hne]
        exact (gJ.trans gB) a u n h
      · have hne : a ≠ D := fun z => n (.inl (.inr z))
        rw [upd_ne hne]
        exact gB a u (fun z => n (.inl (wOc a z))) (stJ a u n h)
    · have e : j = es.length := by omega
      subst e
      rw [List.drop_eq_nil_of_le (Nat.le_refl _)] at hgJ
      refine .inl ⟨wk1.stops H6 hGJ.1, acc1, va1, S5, ?_, gJ, hDJ, raJ, hgJ⟩
      exact evJ.backTo (vs := vs) (by rw [wipe_length, len2]) (by rw [rwipe_len, ev6.len, len2, ← ev.len]) agI
  · have e : i = ds.length := by omega
    subst e
    rw [List.drop_eq_nil_of_le (Nat.le_refl _)] at hgo
    exact .inl ⟨wk.stops H' hGG.1, k acc S2 D va H' (ev1.go g2 fun a h => (ev2.ws a h).2) (g1.trans g2) (free_of ev1 g1 hD) hDv ra hgo⟩
section
variable {X : Cx} {elt tg iter tg1 iter1 : Expr} {scope : Scope} {own : List (Str × Nat)} {pos : Pos} {fi fi1 : FI} {fg fg1 : FG} {fe : FE} {is is1 vs1 : List Nat}
theorem n_lc2 (hc : X.calm = true) (hN : X.N.Nodup) (hi : PI X tg iter (ric X.K fi)) (ok : BlkOk X.N X.env.scope scope own) (hv : ∀ i ∈ vs1, i ∈ own.map (·.2)) (his : ∀ j ∈ is, j ∈ own.map (·.2)) (his1 : ∀ j ∈ is1, j ∈ vs1)
    (hg : ∀ (s : Shared) (H : Hp) (C : Addr) (cl : List (Str × Addr)) (fp : List Addr), PG (X.blk s H scope (compEnvC scope cl C X.env) fp) tg (rg X.K is fg)) (hi1 : ∀ (s : Shared) (H : Hp) (C : Addr) (cl : List (Str × Addr)) (fp : List Addr), PI (X.blk s H scope (compEnvC scope cl C X.env) fp) tg1 iter1 (rif X.K fi1))
    (hg1 : ∀ (s : Shared) (H : Hp) (C : Addr) (cl : List (Str × Addr)) (fp : List Addr), PG (X.blk s H scope (compEnvC scope cl C X.env) fp) tg1 (rg X.K is1 fg1)) (he : ∀ (s : Shared) (H : Hp) (C : Addr) (cl : List (Str × Addr)) (fp : List Addr), PE (X.blk s H scope (compEnvC scope cl C X.env) fp) elt (rd X.K fe))
    (hs : ∀ x, foldedSetIterable iter X.env x = pure x := by intro _; rfl) (hs1 : ∀ env x, foldedSetIterable iter1 env x = pure x := by intro _ _; rfl) :
    PE X (.ListComp elt [⟨tg, iter, [], 0⟩, ⟨tg1, iter1, [], 0⟩] scope pos) (rn X.K (fLc2 fi (own.map (·.2)) fg fi1 vs1 fg1 fe)) :=
  PE.imp (pe_lc2 hc hN hi ok hv hg (fun _ _ _ _ _ => p_nil) hi1 hg1 (fun _ _ _ _ _ => p_nil) he hs hs1) (rd_lc2 hv his his1)
end
end DL

namespace DL
open PySem L2 PyProof.Rows
/-! ### how long it is what repr shows -/
structure Lg (n N : Nat) (d : PyData) : Prop where
  lay : d.canLay0 = true
  sh : d.showable = true
  dp : d.depth ≤ n
  ln : d.shown.length ≤ N
structure LgAll (n N : Nat) (ds : List PyData) : Prop where
  lay : PyData.canLayAll0 ds = true
  sh : PyData.showableAll ds = true
  dp : PyData.depthAll ds ≤ n
  ln : ((PyData.shownAll ds).map (·.length)).sum + 2 * ds.length ≤ N
theorem Lg.up {n m N M : Nat} {d : PyData} (h : Lg n N d) (h1 : n ≤ m) (h2 : N ≤ M) : Lg m M d := ⟨h.lay, h.sh, Nat.le_trans h.dp h1, Nat.le_trans h.ln h2⟩
theorem LgAll.up {n N M : Nat} {ds : List PyData} (h : LgAll n N ds) (h2 : N ≤ M) : LgAll n M ds := ⟨h.lay, h.sh, h.dp, Nat.le_trans h.ln h2⟩
theorem Lg.ok {n N : Nat} {d : PyData} (h : Lg n N d) (hn : n ≤ 60) (hN : N ≤ 16777216) : showOk d :=
  ⟨h.lay, h.sh, Nat.le_trans h.dp hn, by rw [sizeLine_eq]; exact Nat.le_trans h.ln hN⟩
theorem Lg.bool {n : Nat} {b : Bool} : Lg n 5 (.bool b) := ⟨rfl, rfl, by simp [PyData.depth], by cases b <;> decide⟩
theorem Lg.int {k n : Nat} {i : Int} (hk : k < 1920) (h : i.natAbs < 2 ^ k) : Lg n (k + 2) (.int i) := by
  have l : i.natAbs.log2 < k + 1 := by
    by_cases z : i.natAbs = 0
    · rw [z]; simp
    · have := (Nat.log2_lt z).mpr h
      omega
  refine ⟨rfl, ?_, by simp [PyData.depth], ?_⟩
  · simp only [PyData.showable, decide_eq_true_eq]
    omega
  · simp only [PyData.shown]
    have := int_text_length_le (a := i) (by omega) l
    have e : (Str.ofString (toString i)).length = (toString i).length := by rw [PySem.ofString_length]
    have e2 : (PySem.Str.ofString (toString i)).length ≤ k + 2 := by omega
    exact e2
theorem LgAll.nil {n : Nat} : LgAll n 0 [] := ⟨rfl, rfl, by simp [PyData.depthAll], by simp [PyData.shownAll]⟩
theorem LgAll.cons {n N M : Nat} {d : PyData} {ds : List PyData} (h : Lg n N d) (t : LgAll n M ds) : LgAll n (N + 2 + M) (d :: ds) := by
  refine ⟨?_, ?_, ?_, ?_⟩
  · simp only [PyData.canLayAll0, h.lay, t.lay, Bool.and_self]
  · simp only [PyData.showableAll, h.sh, t.sh, Bool.and_self]
  · simp only [PyData.depthAll]
    have := h.dp
    have := t.dp
    omega
  · simp only [PyData.shownAll, List.map_cons, List.sum_cons, List.length_cons]
    have := h.ln
    have := t.ln
    omega
theorem LgAll.of {n N : Nat} : ∀ {ds : List PyData}, (∀ d ∈ ds, Lg n N d) → LgAll n ((N + 2) * ds.length) ds
  | [], _ => .nil
  | d :: ds, h => by
    have e : (N + 2) * (d :: ds).length = N + 2 + (N + 2) * ds.length := by rw [List.length_cons, Nat.mul_add, Nat.mul_one, Nat.add_comm]
    rw [e]
    exact .cons (h d (by simp)) (LgAll.of fun x hx => h x (List.mem_cons_of_mem d hx))
theorem Lg.tup {n N : Nat} {ds : List PyData} (h : LgAll n N ds) : Lg (n + 1) (N + 3) (.tuple ds) := by
  refine ⟨?_, ?_, ?_, ?_⟩
  · simpa only [PyData.canLay0] using h.lay
  · simpa only [PyData.showable] using h.sh
  · simp only [PyData.depth]
    have := h.dp
    omega
  · simp only [PyData.shown]
    have a := tupleText_len_le (PyData.shownAll ds)
    have b := PyData.shownAll_length ds
    have := h.ln
    omega
theorem Lg.lst {n N : Nat} {ds : List PyData} (h : LgAll n N ds) : Lg (n + 1) (N + 3) (.list ds) := by
  refine ⟨?_, ?_, ?_, ?_⟩
  · simpa only [PyData.canLay0] using h.lay
  · simpa only [PyData.showable] using h.sh
  · simp only [PyData.depth]
    have := h.dp
    omega
  · simp only [PyData.shown]
    have a := listText_len_le (PyData.shownAll ds)
    have b := PyData.shownAll_length ds
    have := h.ln
    omega
theorem Lg.shaped {n N : Nat} {d : PyData} (h : Lg n N d) (hn : n ≤ 60) : SeqAt.shaped d = true := by
  simp only [SeqAt.shaped, Bool.and_eq_true, decide_eq_true_eq]
  exact ⟨h.lay, by have := h.dp; omega⟩
end DL

namespace DL
open PySem L2 PyProof.Rows
/-! ### more rules, one head at a time -/
theorem w_forE {fi : FI} {fg : FG} {gb : FS} {ρ : Rho} {S : SW} {B : Out} (h : fi ρ S fun ds S1 => forGo fg gb ds ρ S1 B) : sFor fi fg gb ρ S B := h
theorem w_fiT {f : FE} {ρ : Rho} {S : SW} {T : List PyData → SW → Prop} (h : f ρ S fun d S1 => match d with | .tuple ds => T ds S1 | _ => False) : fiT f ρ S T := h
theorem w_fiL {f : FE} {ρ : Rho} {S : SW} {T : List PyData → SW → Prop} (h : f ρ S fun d S1 => match d with | .list ds => T ds S1 | _ => False) : fiL f ρ S T := h
theorem w_fiE {f : FE} {ρ : Rho} {S : SW} {T : List PyData → SW → Prop} (h : f ρ S fun d S1 => match rowD d with | some ds => T (enumD 0 ds) S1 | none => False) : fiE f ρ S T := h
theorem w_lst0 {ρ : Rho} {S : SW} {Q : PyData → SW → Prop} (h : Q (.list []) S) : fLst fNil ρ S Q := h
theorem lc2_cons {i : Nat} {f fe : FE} {vs1 : List Nat} {fg1 : FG} {d : PyData} {ds acc : List PyData} {ρ : Rho} {S : SW} {T : List PyData → SW → Prop} (h : f (ρ.set i (.dat d)) S fun x S1 => (match x with | .tuple es => lc2In fg1 fe (rwipe (ρ.set i (.dat d)) vs1) es acc S1 fun acc' S2 => lc2Go (gNm i) (fiT f) vs1 fg1 fe ρ ds acc' S2 T | _ => False)) :
    lc2Go (gNm i) (fiT f) vs1 fg1 fe ρ (d :: ds) acc S T := h
theorem lc2In_cons {i : Nat} {fe : FE} {d : PyData} {ds acc : List PyData} {ρ : Rho} {S : SW} {T : List PyData → SW → Prop} (h : fe (ρ.set i (.dat d)) S fun y S1 => acc.length < sizeLine ∧ lc2In (gNm i) fe ρ ds (acc ++ [y]) S1 T) : lc2In (gNm i) fe ρ (d :: ds) acc S T := h
theorem lc2In_nil {fg : FG} {fe : FE} {acc : List PyData} {ρ : Rho} {S : SW} {T : List PyData → SW → Prop} (h : T acc S) : lc2In fg fe ρ [] acc S T := h
theorem w_goP {i j : Nat} {gb : FS} {a b : PyData} {ds : List PyData} {ρ : Rho} {S : SW} {B : Out} (h : gb ((ρ.set i (.dat a)).set j (.dat b)) S { nx := fun ρ2 S2 => forGo (gTp 2 (gsCons (gNm i) (gsCons (gNm j) gsNil))) gb ds ρ2 S2 B, rt := B.rt, rn := B.rn, bk := B.nx, ct := fun ρ2 S2 => forGo (gTp 2 (gsCons (gNm i) (gsCons (gNm j) gsNil))) gb ds ρ2 S2 B }) :
    forGo (gTp 2 (gsCons (gNm i) (gsCons (gNm j) gsNil))) gb (.tuple [a, b] :: ds) ρ S B := (show 2 = 2 ∧ [] = [] ∧ _ from ⟨rfl, rfl, h⟩)
theorem sl_to {i j k : Nat} {ds : List PyData} {ρ : Rho} {S : SW} {Q : PyData → SW → Prop} (h1 : ρ[i]? = some (.dat (.tuple ds))) (h2 : ρ[j]? = some (.dat (.int (k : Nat)))) (h : Q (.tuple (ds.take k)) S) : fSl (fVarB i) fNoP (fP (fVarB j)) ρ S Q := by
  unfold fSl fNoP fP fVarB
  simp only [h1, h2, asI_int, oSl_tup, cut_to]
  exact h
theorem w_lc2 {fi fi1 : FI} {vs vs1 : List Nat} {fg fg1 : FG} {fe : FE} {ρ : Rho} {S : SW} {R : PyData → SW → Prop} (h : fi ρ S fun ds S1 => notOwn ρ vs ∧ lc2Go fg fi1 vs1 fg1 fe (rwipe ρ vs) ds [] S1 fun out S2 => R (.list out) S2) : fLc2 fi vs fg fi1 vs1 fg1 fe ρ S R := h
theorem w_lc {fi : FI} {vs : List Nat} {fg : FG} {ft fe : FE} {ρ : Rho} {S : SW} {R : PyData → SW → Prop} (h : fi ρ S fun ds S1 => notOwn ρ vs ∧ ds.length ≤ sizeLine ∧ lcGo fg ft fe (rwipe ρ vs) ds [] S1 fun out S2 => R (.list out) S2) : fLc fi vs fg ft fe ρ S R := h
theorem w_fiA {f : FE} {ρ : Rho} {S : SW} {T : List PyData → SW → Prop} (h : f ρ S fun d S1 => match rowD d with | some ds => T ds S1 | none => False) : fiA f ρ S T := h
theorem w_fiZ {fa fb : FE} {ρ : Rho} {S : SW} {T : List PyData → SW → Prop} (h : fa ρ S fun x S1 => fb ρ S1 fun y S2 => match x, y with | .list a, .list b => T (zipD a b) S2 | .tuple a, .tuple b => T (zipD a b) S2 | _, _ => False) : fiZ fa fb ρ S T := by
  unfold fiZ
  exact h
theorem w_dput2 {i : Nat} {a b f : FE} {kvs : List (List Key × PyData)} {ρ : Rho} {S : SW} {B : Out} (hρ : ρ[i]? = some (.dct kvs)) (h : f ρ S fun d S1 => a ρ S1 fun x S2 => b ρ S2 fun y S3 => ∃ k : List Key, [x, y] = k.map keyD ∧ kvs.length < sizeLine ∧ B.nx (ρ.set i (.dct (putD kvs k d))) S3) : sDput i 2 (fCons a (fCons b fNil)) f ρ S B := by
  unfold sDput
  rw [hρ]
  exact h
theorem w_zipput {i j : Nat} {fa fb : FE} {kvs : List (List Key × PyData)} {ρ : Rho} {S : SW} {B : Out} (hρ : ρ[i]? = some (.dct kvs)) (hj : ρ[j]? = some .un) (ij : i ≠ j)
    (h : fa ρ S fun x S1 => fb ρ S1 fun y S2 => ∃ as bs : List Key, ((x = .list (as.map keyD) ∧ y = .list (bs.map keyD)) ∨ (x = .tuple (as.map keyD) ∧ y = .tuple (bs.map keyD))) ∧ kvs.length + as.length < sizeLine ∧ B.nx (ρ.set i (.dct (putZ kvs as bs))) S2) : sZipPut i j fa fb ρ S B := by
  unfold sZipPut
  rw [hρ]
  exact ⟨hj, ij, h⟩
theorem w_parD {i j : Nat} {f : FE} {g : FS} {ρ : Rho} {S : SW} {B : Out} (h : f ρ S fun d S1 => g ((ρ.set i (.dat d)).set j (.dct [])) S1 { nx := fun _ _ => False, rt := B.rt, rn := B.rn }) : sParD i j f g ρ S B := h
theorem w_dct {i : Nat} {g : FS} {ρ : Rho} {S : SW} {B : Out} (h : g (ρ.set i (.dct [])) S { nx := fun _ _ => False, rt := B.rt, rn := B.rn }) : sDct i g ρ S B := h
theorem w_c' {d : PyData} {ρ : Rho} {S : SW} {Q : PyData → SW → Prop} (h : Q d S) : fC d ρ S Q := h
theorem sl_toL {i j k : Nat} {ds : List PyData} {ρ : Rho} {S : SW} {Q : PyData → SW → Prop} (h1 : ρ[i]? = some (.dat (.list ds))) (h2 : ρ[j]? = some (.dat (.int (k : Nat)))) (h : Q (.list (ds.take k)) S) : fSl (fVarB i) fNoP (fP (fVarB j)) ρ S Q := by
  unfold fSl fNoP fP fVarB
  simp only [h1, h2, asI_int, oSl_lst, cut_to]
  exact h
theorem sl_l1 {i : Nat} {ds : List PyData} {ρ : Rho} {S : SW} {Q : PyData → SW → Prop} (h1 : ρ[i]? = some (.dat (.list ds))) (h : Q (.list (ds.drop 1)) S) : fSl (fVarB i) (fP (fC (.int 1))) fNoP ρ S Q := by
  unfold fSl
  refine w_varB h1 ?_
  refine (show oSl (.list ds) (some ((1 : Nat) : Int)) none (fun d => Q d S) from ?_)
  rw [oSl_lst, cut_from]
  exact h
theorem keys_map (l : List Int) : l.map PyData.int = (l.map (Sum.inl : Int → Key)).map keyD := by rw [List.map_map]; rfl
end DL

namespace K05
open PySem L2 DL

def top (i : Nat) : Stmt := PySem.Challenge.pw_bentalike_k05_whole_vertices_and_edges_b.main.body.getD i (.Pass ⟨0, 0, 0, 0⟩)
/-- what the top has written: built-ins as they were, constants -/
structure Txt (K : Fr_) (mg : Str → Option Value) : Prop where
  g_MOST_SEGMENTS : GlobD K mg "MOST_SEGMENTS" (.int 24)
  g_ZERO : GlobD K mg "ZERO" (.tuple [.int 0, .int 1])
  z_abs : mg "abs" = none
  z_all : mg "all" = none
  z_bool : mg "bool" = none
  z_divmod : mg "divmod" = none
  z_enumerate : mg "enumerate" = none
  z_gcd : mg "gcd" = some (.builtin "math.gcd")
  z_int : mg "int" = none
  z_isinstance : mg "isinstance" = none
  z_len : mg "len" = none
  z_list : mg "list" = none
  z_max : mg "max" = none
  z_min : mg "min" = none
  z_range : mg "range" = none
  z_repr : mg "repr" = none
  z_sorted : mg "sorted" = none
  z_tuple : mg "tuple" = none
  z_zip : mg "zip" = none
section
variable {P : Program} {W : World} {K : Fr_} {mg : Str → Option Value} {base : Heap}
/-! is_whole -/
abbrev s_is_whole : Stmt := top 6
abbrev N_is_whole : List Str := ["value"]
theorem sc_is_whole : FnScope N_is_whole ["value"] (defScope s_is_whole) := ⟨rfl, rfl, rfl, by decide +kernel, rfl, by decide +kernel, by decide +kernel⟩
def G_is_whole : FS :=
    (sRet (fAnd (fUn (fun x R => R (.bool (isiD "int" x))) (fVarB 0)) (fNot (fUn (fun x R => R (.bool (isiD "bool" x))) (fVarB 0)))))
theorem ok_is_whole {k : Nat} {C : Ct} (T : Txt K mg) {f : Addr} {fd : FuncData} (F : Fun K "is_whole" "is_whole" s_is_whole f fd) (hm : mg "is_whole" = some (.ref f)) (hb : Binds K fd ["value"] []) (hC : ∀ as S R, as.length = 1 → C as S R → G_is_whole (ent N_is_whole as) S { nx := fun _ S' => R .none S', rt := R }) : Pro P W K mg base (k + 1) f fd ["value"] (spC K 1 C) := by
  have nd := sc_is_whole.nd
  exact dfn_ok F sc_is_whole rfl (by decide) (fun cdv A outer s H E hr =>
    (s_one (s_ret (d_and (b_of (d_isi isi_int (b_var 0) T.z_isinstance T.z_int PyProof.Rows.boot_int)) (d_one (d_not (b_of (d_isi isi_bool (b_var 0) T.z_isinstance T.z_bool PyProof.Rows.boot_bool)))))))) hC
theorem bd_is_whole {k : Nat} {C : Ct} (T : Txt K mg) {f : Addr} {fd : FuncData} (F : Fun K "is_whole" "is_whole" s_is_whole f fd) (hm : mg "is_whole" = some (.ref f)) (hb : Binds K fd ["value"] []) (hC : ∀ as S R, as.length = 1 → C as S R → G_is_whole (ent N_is_whole as) S { nx := fun _ S' => R .none S', rt := R }) : Cal P W K mg base "is_whole" (k + 1) 1 C := ⟨f, fd, _, ok_is_whole T F hm hb hC, F.kp, hb, hm⟩
/-! are_wholes -/
abbrev s_are_wholes : Stmt := top 7
abbrev N_are_wholes : List Str := ["value", "many", "each"]
theorem sc_are_wholes : FnScope N_are_wholes ["value", "many"] (defScope s_are_wholes) := ⟨rfl, rfl, rfl, by decide +kernel, rfl, by decide +kernel, by decide +kernel⟩
def G_are_wholes (C_is_whole : Ct) : FS :=
    (sRet (fAnd (fUn (fun x R => R (.bool (isiD "tuple" x))) (fVarB 0)) (fAnd (fOp oEq (fUn oLen (fVarB 0)) (fVarB 1)) (fUn oAll (fLc (fiT (fVarB 0)) [2] (gNm 2) (fC (.bool true)) (fCall C_is_whole (gDat (fVar 2) gaNil)))))))
theorem ok_are_wholes {k : Nat} {C_is_whole : Ct} {C : Ct} (T : Txt K mg) {f : Addr} {fd : FuncData} (F : Fun K "are_wholes" "are_wholes" s_are_wholes f fd) (hm : mg "are_wholes" = some (.ref f)) (hb : Binds K fd ["value", "many"] []) (c_is_whole : Cal P W K mg base "is_whole" k 1 C_is_whole) (hC : ∀ as S R, as.length = 2 → C as S R → (G_are_wholes C_is_whole) (ent N_are_wholes as) S { nx := fun _ S' => R .none S', rt := R }) : Pro P W K mg base (k + 1) f fd ["value", "many"] (spC K 2 C) := by
  have nd := sc_are_wholes.nd
  exact dfn_ok F sc_are_wholes rfl (by decide) (fun cdv A outer s H E hr =>
    (s_one (s_ret (d_and (b_of (d_isi isi_tuple (b_var 0) T.z_isinstance T.z_tuple PyProof.Rows.boot_tuple)) (d_and (b_of (d_cmp (op_eqH hr) sEq (b_of (d_callB call_len sLen (b_var 0) T.z_len PySem.boot_len)) (b_var 1))) (d_one (d_callB (cr_all rfl) sAll (b_of (d_of_n (n_lc rfl nd (ic_of (i_tup (b_var 0))) (blkOk_by (own := [("each", 2)]) (N := N_are_wholes) (sc := defScope s_are_wholes) (by decide +kernel)) (by decide) (fun _ _ _ _ _ => (g_name 2 nd)) (fun _ _ _ _ _ => p_nil) (fun _ _ _ _ _ => (d_call c_is_whole (hr.mono (by omega)) (c_dat (d_var 2) c_nil)))))) T.z_all PyProof.Rows.boot_all))))))) hC
theorem bd_are_wholes {k : Nat} {C_is_whole : Ct} {C : Ct} (T : Txt K mg) {f : Addr} {fd : FuncData} (F : Fun K "are_wholes" "are_wholes" s_are_wholes f fd) (hm : mg "are_wholes" = some (.ref f)) (hb : Binds K fd ["value", "many"] []) (c_is_whole : Cal P W K mg base "is_whole" k 1 C_is_whole) (hC : ∀ as S R, as.length = 2 → C as S R → (G_are_wholes C_is_whole) (ent N_are_wholes as) S { nx := fun _ S' => R .none S', rt := R }) : Cal P W K mg base "are_wholes" (k + 1) 2 C := ⟨f, fd, _, ok_are_wholes T F hm hb c_is_whole hC, F.kp, hb, hm⟩
/-! is_ratio -/
abbrev s_is_ratio : Stmt := top 10
abbrev N_is_ratio : List Str := ["value"]
theorem sc_is_ratio : FnScope N_is_ratio ["value"] (defScope s_is_ratio) := ⟨rfl, rfl, rfl, by decide +kernel, rfl, by decide +kernel, by decide +kernel⟩
def G_is_ratio (C_are_wholes : Ct) : FS :=
    (sRet (fAnd (fCall C_are_wholes (gDat (fVar 0) (gDat (fC (.int 2)) gaNil))) (fAnd (fOp oGt (fOp oIx (fVarB 0) (fC (.int 1))) (fC (.int 0))) (fOp oEq (fOp (oI fun i j => .int ((Nat.gcd i.natAbs j.natAbs : Nat) : Int)) (fOp oIx (fVarB 0) (fC (.int 0))) (fOp oIx (fVarB 0) (fC (.int 1)))) (fC (.int 1))))))
theorem ok_is_ratio {k : Nat} {C_are_wholes : Ct} {C : Ct} (T : Txt K mg) {f : Addr} {fd : FuncData} (F : Fun K "is_ratio" "is_ratio" s_is_ratio f fd) (hm : mg "is_ratio" = some (.ref f)) (hb : Binds K fd ["value"] []) (c_are_wholes : Cal P W K mg base "are_wholes" k 2 C_are_wholes) (hC : ∀ as S R, as.length = 1 → C as S R → (G_is_ratio C_are_wholes) (ent N_is_ratio as) S { nx := fun _ S' => R .none S', rt := R }) : Pro P W K mg base (k + 1) f fd ["value"] (spC K 1 C) := by
  have nd := sc_is_ratio.nd
  exact dfn_ok F sc_is_ratio rfl (by decide) (fun cdv A outer s H E hr =>
    (s_one (s_ret (d_and (b_of (d_call c_are_wholes (hr.mono (by omega)) (c_dat (d_var 0) (c_dat d_int c_nil)))) (d_and (b_of (d_cmp op_gt sIntB (b_of (d_ix (b_var 0) (b_of d_int))) (b_of d_int))) (d_one (d_cmp (op_eqH hr) sEq (b_of (d_callF2 cr_gcd sGcd (b_of (d_ix (b_var 0) (b_of d_int))) (b_of (d_ix (b_var 0) (b_of d_int))) T.z_gcd)) (b_of d_int)))))))) hC
theorem bd_is_ratio {k : Nat} {C_are_wholes : Ct} {C : Ct} (T : Txt K mg) {f : Addr} {fd : FuncData} (F : Fun K "is_ratio" "is_ratio" s_is_ratio f fd) (hm : mg "is_ratio" = some (.ref f)) (hb : Binds K fd ["value"] []) (c_are_wholes : Cal P W K mg base "are_wholes" k 2 C_are_wholes) (hC : ∀ as S R, as.length = 1 → C as S R → (G_is_ratio C_are_wholes) (ent N_is_ratio as) S { nx := fun _ S' => R .none S', rt := R }) : Cal P W K mg base "is_ratio" (k + 1) 1 C := ⟨f, fd, _, ok_is_ratio T F hm hb c_are_wholes hC, F.kp, hb, hm⟩
/-! ratio -/
abbrev s_ratio : Stmt := top 11
abbrev N_ratio : List Str := ["top", "low", "part"]
theorem sc_ratio : FnScope N_ratio ["top", "low"] (defScope s_ratio) := ⟨rfl, rfl, rfl, by decide +kernel, rfl, by decide +kernel, by decide +kernel⟩
def G_ratio : FS :=
    (sSeq (sSet 2 (fIf (fOp oGt (fVarB 1) (fC (.int 0))) (fOp (oI fun i j => .int ((Nat.gcd i.natAbs j.natAbs : Nat) : Int)) (fVarB 0) (fVarB 1)) (fUn oNeg (fOp (oI fun i j => .int ((Nat.gcd i.natAbs j.natAbs : Nat) : Int)) (fVarB 0) (fVarB 1)))))
    (sRet (fTup (fCons (fOp (oIC CDivZ fun i j => .int (i.fdiv j)) (fVarB 0) (fVarB 2)) (fCons (fOp (oIC CDivZ fun i j => .int (i.fdiv j)) (fVarB 1) (fVarB 2)) fNil)))))
theorem ok_ratio {k : Nat} {C : Ct} (T : Txt K mg) {f : Addr} {fd : FuncData} (F : Fun K "ratio" "ratio" s_ratio f fd) (hm : mg "ratio" = some (.ref f)) (hb : Binds K fd ["top", "low"] []) (hC : ∀ as S R, as.length = 2 → C as S R → G_ratio (ent N_ratio as) S { nx := fun _ S' => R .none S', rt := R }) : Pro P W K mg base (k + 1) f fd ["top", "low"] (spC K 2 C) := by
  have nd := sc_ratio.nd
  exact dfn_ok F sc_ratio rfl (by decide) (fun cdv A outer s H E hr =>
    (s_cons (s_set 2 nd (d_if (t_cmp op_gt sIntB (b_var 1) (b_of d_int)) (d_callF2 cr_gcd sGcd (b_var 0) (b_var 1) T.z_gcd) (d_neg (b_of (d_callF2 cr_gcd sGcd (b_var 0) (b_var 1) T.z_gcd)))))
    (s_one (s_ret (d_tup (a_cons (d_fdivZ (b_var 0) (b_var 2)) (a_cons (d_fdivZ (b_var 1) (b_var 2)) a_nil))))))) hC
theorem bd_ratio {k : Nat} {C : Ct} (T : Txt K mg) {f : Addr} {fd : FuncData} (F : Fun K "ratio" "ratio" s_ratio f fd) (hm : mg "ratio" = some (.ref f)) (hb : Binds K fd ["top", "low"] []) (hC : ∀ as S R, as.length = 2 → C as S R → G_ratio (ent N_ratio as) S { nx := fun _ S' => R .none S', rt := R }) : Cal P W K mg base "ratio" (k + 1) 2 C := ⟨f, fd, _, ok_ratio T F hm hb hC, F.kp, hb, hm⟩
/-! plus -/
abbrev s_plus : Stmt := top 12
abbrev N_plus : List Str := ["one", "two"]
theorem sc_plus : FnScope N_plus ["one", "two"] (defScope s_plus) := ⟨rfl, rfl, rfl, by decide +kernel, rfl, by decide +kernel, by decide +kernel⟩
def G_plus (C_ratio : Ct) : FS :=
    (sRet (fCall C_ratio (gDat (fOp oAdd (fOp (oIC CMulA fun i j => .int (i * j)) (fOp oIx (fVarB 0) (fC (.int 0))) (fOp oIx (fVarB 1) (fC (.int 1)))) (fOp (oIC CMulA fun i j => .int (i * j)) (fOp oIx (fVarB 1) (fC (.int 0))) (fOp oIx (fVarB 0) (fC (.int 1))))) (gDat (fOp (oIC CMulA fun i j => .int (i * j)) (fOp oIx (fVarB 0) (fC (.int 1))) (fOp oIx (fVarB 1) (fC (.int 1)))) gaNil))))
theorem ok_plus {k : Nat} {C_ratio : Ct} {C : Ct} (T : Txt K mg) {f : Addr} {fd : FuncData} (F : Fun K "plus" "plus" s_plus f fd) (hm : mg "plus" = some (.ref f)) (hb : Binds K fd ["one", "two"] []) (c_ratio : Cal P W K mg base "ratio" k 2 C_ratio) (hC : ∀ as S R, as.length = 2 → C as S R → (G_plus C_ratio) (ent N_plus as) S { nx := fun _ S' => R .none S', rt := R }) : Pro P W K mg base (k + 1) f fd ["one", "two"] (spC K 2 C) := by
  have nd := sc_plus.nd
  exact dfn_ok F sc_plus rfl (by decide) (fun cdv A outer s H E hr =>
    (s_one (s_ret (d_call c_ratio (hr.mono (by omega)) (c_dat (d_add (b_of (d_mul (b_of (d_ix (b_var 0) (b_of d_int))) (b_of (d_ix (b_var 1) (b_of d_int))))) (b_of (d_mul (b_of (d_ix (b_var 1) (b_of d_int))) (b_of (d_ix (b_var 0) (b_of d_int)))))) (c_dat (d_mul (b_of (d_ix (b_var 0) (b_of d_int))) (b_of (d_ix (b_var 1) (b_of d_int)))) c_nil)))))) hC
theorem bd_plus {k : Nat} {C_ratio : Ct} {C : Ct} (T : Txt K mg) {f : Addr} {fd : FuncData} (F : Fun K "plus" "plus" s_plus f fd) (hm : mg "plus" = some (.ref f)) (hb : Binds K fd ["one", "two"] []) (c_ratio : Cal P W K mg base "ratio" k 2 C_ratio) (hC : ∀ as S R, as.length = 2 → C as S R → (G_plus C_ratio) (ent N_plus as) S { nx := fun _ S' => R .none S', rt := R }) : Cal P W K mg base "plus" (k + 1) 2 C := ⟨f, fd, _, ok_plus T F hm hb c_ratio hC, F.kp, hb, hm⟩
/-! minus -/
abbrev s_minus : Stmt := top 13
abbrev N_minus : List Str := ["one", "two"]
theorem sc_minus : FnScope N_minus ["one", "two"] (defScope s_minus) := ⟨rfl, rfl, rfl, by decide +kernel, rfl, by decide +kernel, by decide +kernel⟩
def G_minus (C_ratio : Ct) : FS :=
    (sRet (fCall C_ratio (gDat (fOp (oI fun i j => .int (i - j)) (fOp (oIC CMulA fun i j => .int (i * j)) (fOp oIx (fVarB 0) (fC (.int 0))) (fOp oIx (fVarB 1) (fC (.int 1)))) (fOp (oIC CMulA fun i j => .int (i * j)) (fOp oIx (fVarB 1) (fC (.int 0))) (fOp oIx (fVarB 0) (fC (.int 1))))) (gDat (fOp (oIC CMulA fun i j => .int (i * j)) (fOp oIx (fVarB 0) (fC (.int 1))) (fOp oIx (fVarB 1) (fC (.int 1)))) gaNil))))
theorem ok_minus {k : Nat} {C_ratio : Ct} {C : Ct} (T : Txt K mg) {f : Addr} {fd : FuncData} (F : Fun K "minus" "minus" s_minus f fd) (hm : mg "minus" = some (.ref f)) (hb : Binds K fd ["one", "two"] []) (c_ratio : Cal P W K mg base "ratio" k 2 C_ratio) (hC : ∀ as S R, as.length = 2 → C as S R → (G_minus C_ratio) (ent N_minus as) S { nx := fun _ S' => R .none S', rt := R }) : Pro P W K mg base (k + 1) f fd ["one", "two"] (spC K 2 C) := by
  have nd := sc_minus.nd
  exact dfn_ok F sc_minus rfl (by decide) (fun cdv A outer s H E hr =>
    (s_one (s_ret (d_call c_ratio (hr.mono (by omega)) (c_dat (d_sub (b_of (d_mul (b_of (d_ix (b_var 0) (b_of d_int))) (b_of (d_ix (b_var 1) (b_of d_int))))) (b_of (d_mul (b_of (d_ix (b_var 1) (b_of d_int))) (b_of (d_ix (b_var 0) (b_of d_int)))))) (c_dat (d_mul (b_of (d_ix (b_var 0) (b_of d_int))) (b_of (d_ix (b_var 1) (b_of d_int)))) c_nil)))))) hC
theorem bd_minus {k : Nat} {C_ratio : Ct} {C : Ct} (T : Txt K mg) {f : Addr} {fd : FuncData} (F : Fun K "minus" "minus" s_minus f fd) (hm : mg "minus" = some (.ref f)) (hb : Binds K fd ["one", "two"] []) (c_ratio : Cal P W K mg base "ratio" k 2 C_ratio) (hC : ∀ as S R, as.length = 2 → C as S R → (G_minus C_ratio) (ent N_minus as) S { nx := fun _ S' => R .none S', rt := R }) : Cal P W K mg base "minus" (k + 1) 2 C := ⟨f, fd, _, ok_minus T F hm hb c_ratio hC, F.kp, hb, hm⟩
/-! times -/
abbrev s_times : Stmt := top 14
abbrev N_times : List Str := ["one", "two"]
theorem sc_times : FnScope N_times ["one", "two"] (defScope s_times) := ⟨rfl, rfl, rfl, by decide +kernel, rfl, by decide +kernel, by decide +kernel⟩
def G_times (C_ratio : Ct) : FS :=
    (sRet (fCall C_ratio (gDat (fOp (oIC CMulA fun i j => .int (i * j)) (fOp oIx (fVarB 0) (fC (.int 0))) (fOp oIx (fVarB 1) (fC (.int 0)))) (gDat (fOp (oIC CMulA fun i j => .int (i * j)) (fOp oIx (fVarB 0) (fC (.int 1))) (fOp oIx (fVarB 1) (fC (.int 1)))) gaNil))))
theorem ok_times {k : Nat} {C_ratio : Ct} {C : Ct} (T : Txt K mg) {f : Addr} {fd : FuncData} (F : Fun K "times" "times" s_times f fd) (hm : mg "times" = some (.ref f)) (hb : Binds K fd ["one", "two"] []) (c_ratio : Cal P W K mg base "ratio" k 2 C_ratio) (hC : ∀ as S R, as.length = 2 → C as S R → (G_times C_ratio) (ent N_times as) S { nx := fun _ S' => R .none S', rt := R }) : Pro P W K mg base (k + 1) f fd ["one", "two"] (spC K 2 C) := by
  have nd := sc_times.nd
  exact dfn_ok F sc_times rfl (by decide) (fun cdv A outer s H E hr =>
    (s_one (s_ret (d_call c_ratio (hr.mono (by omega)) (c_dat (d_mul (b_of (d_ix (b_var 0) (b_of d_int))) (b_of (d_ix (b_var 1) (b_of d_int)))) (c_dat (d_mul (b_of (d_ix (b_var 0) (b_of d_int))) (b_of (d_ix (b_var 1) (b_of d_int)))) c_nil)))))) hC
theorem bd_times {k : Nat} {C_ratio : Ct} {C : Ct} (T : Txt K mg) {f : Addr} {fd : FuncData} (F : Fun K "times" "times" s_times f fd) (hm : mg "times" = some (.ref f)) (hb : Binds K fd ["one", "two"] []) (c_ratio : Cal P W K mg base "ratio" k 2 C_ratio) (hC : ∀ as S R, as.length = 2 → C as S R → (G_times C_ratio) (ent N_times as) S { nx := fun _ S' => R .none S', rt := R }) : Cal P W K mg base "times" (k + 1) 2 C := ⟨f, fd, _, ok_times T F hm hb c_ratio hC, F.kp, hb, hm⟩
/-! over -/
abbrev s_over : Stmt := top 15
abbrev N_over : List Str := ["one", "two"]
theorem sc_over : FnScope N_over ["one", "two"] (defScope s_over) := ⟨rfl, rfl, rfl, by decide +kernel, rfl, by decide +kernel, by decide +kernel⟩
def G_over (C_ratio : Ct) : FS :=
    (sRet (fCall C_ratio (gDat (fOp (oIC CMulA fun i j => .int (i * j)) (fOp oIx (fVarB 0) (fC (.int 0))) (fOp oIx (fVarB 1) (fC (.int 1)))) (gDat (fOp (oIC CMulA fun i j => .int (i * j)) (fOp oIx (fVarB 0) (fC (.int 1))) (fOp oIx (fVarB 1) (fC (.int 0)))) gaNil))))
theorem ok_over {k : Nat} {C_ratio : Ct} {C : Ct} (T : Txt K mg) {f : Addr} {fd : FuncData} (F : Fun K "over" "over" s_over f fd) (hm : mg "over" = some (.ref f)) (hb : Binds K fd ["one", "two"] []) (c_ratio : Cal P W K mg base "ratio" k 2 C_ratio) (hC : ∀ as S R, as.length = 2 → C as S R → (G_over C_ratio) (ent N_over as) S { nx := fun _ S' => R .none S', rt := R }) : Pro P W K mg base (k + 1) f fd ["one", "two"] (spC K 2 C) := by
  have nd := sc_over.nd
  exact dfn_ok F sc_over rfl (by decide) (fun cdv A outer s H E hr =>
    (s_one (s_ret (d_call c_ratio (hr.mono (by omega)) (c_dat (d_mul (b_of (d_ix (b_var 0) (b_of d_int))) (b_of (d_ix (b_var 1) (b_of d_int)))) (c_dat (d_mul (b_of (d_ix (b_var 0) (b_of d_int))) (b_of (d_ix (b_var 1) (b_of d_int)))) c_nil)))))) hC
theorem bd_over {k : Nat} {C_ratio : Ct} {C : Ct} (T : Txt K mg) {f : Addr} {fd : FuncData} (F : Fun K "over" "over" s_over f fd) (hm : mg "over" = some (.ref f)) (hb : Binds K fd ["one", "two"] []) (c_ratio : Cal P W K mg base "ratio" k 2 C_ratio) (hC : ∀ as S R, as.length = 2 → C as S R → (G_over C_ratio) (ent N_over as) S { nx := fun _ S' => R .none S', rt := R }) : Cal P W K mg base "over" (k + 1) 2 C := ⟨f, fd, _, ok_over T F hm hb c_ratio hC, F.kp, hb, hm⟩
/-! sign_of -/
abbrev s_sign_of : Stmt := top 16
abbrev N_sign_of : List Str := ["one"]
theorem sc_sign_of : FnScope N_sign_of ["one"] (defScope s_sign_of) := ⟨rfl, rfl, rfl, by decide +kernel, rfl, by decide +kernel, by decide +kernel⟩
def G_sign_of : FS :=
    (sRet (fOp oSubM (fOp oGt (fOp oIx (fVarB 0) (fC (.int 0))) (fC (.int 0))) (fOp oLt (fOp oIx (fVarB 0) (fC (.int 0))) (fC (.int 0)))))
theorem ok_sign_of {k : Nat} {C : Ct} (T : Txt K mg) {f : Addr} {fd : FuncData} (F : Fun K "sign_of" "sign_of" s_sign_of f fd) (hm : mg "sign_of" = some (.ref f)) (hb : Binds K fd ["one"] []) (hC : ∀ as S R, as.length = 1 → C as S R → G_sign_of (ent N_sign_of as) S { nx := fun _ S' => R .none S', rt := R }) : Pro P W K mg base (k + 1) f fd ["one"] (spC K 1 C) := by
  have nd := sc_sign_of.nd
  exact dfn_ok F sc_sign_of rfl (by decide) (fun cdv A outer s H E hr =>
    (s_one (s_ret (d_subM (b_of (d_cmp op_gt sIntB (b_of (d_ix (b_var 0) (b_of d_int))) (b_of d_int))) (b_of (d_cmp op_ltA sLt (b_of (d_ix (b_var 0) (b_of d_int))) (b_of d_int))))))) hC
theorem bd_sign_of {k : Nat} {C : Ct} (T : Txt K mg) {f : Addr} {fd : FuncData} (F : Fun K "sign_of" "sign_of" s_sign_of f fd) (hm : mg "sign_of" = some (.ref f)) (hb : Binds K fd ["one"] []) (hC : ∀ as S R, as.length = 1 → C as S R → G_sign_of (ent N_sign_of as) S { nx := fun _ S' => R .none S', rt := R }) : Cal P W K mg base "sign_of" (k + 1) 1 C := ⟨f, fd, _, ok_sign_of T F hm hb hC, F.kp, hb, hm⟩
/-! is_less -/
abbrev s_is_less : Stmt := top 17
abbrev N_is_less : List Str := ["one", "two"]
theorem sc_is_less : FnScope N_is_less ["one", "two"] (defScope s_is_less) := ⟨rfl, rfl, rfl, by decide +kernel, rfl, by decide +kernel, by decide +kernel⟩
def G_is_less : FS :=
    (sRet (fOp oLt (fOp (oIC CMulA fun i j => .int (i * j)) (fOp oIx (fVarB 0) (fC (.int 0))) (fOp oIx (fVarB 1) (fC (.int 1)))) (fOp (oIC CMulA fun i j => .int (i * j)) (fOp oIx (fVarB 1) (fC (.int 0))) (fOp oIx (fVarB 0) (fC (.int 1))))))
theorem ok_is_less {k : Nat} {C : Ct} (T : Txt K mg) {f : Addr} {fd : FuncData} (F : Fun K "is_less" "is_less" s_is_less f fd) (hm : mg "is_less" = some (.ref f)) (hb : Binds K fd ["one", "two"] []) (hC : ∀ as S R, as.length = 2 → C as S R → G_is_less (ent N_is_less as) S { nx := fun _ S' => R .none S', rt := R }) : Pro P W K mg base (k + 1) f fd ["one", "two"] (spC K 2 C) := by
  have nd := sc_is_less.nd
  exact dfn_ok F sc_is_less rfl (by decide) (fun cdv A outer s H E hr =>
    (s_one (s_ret (d_cmp op_ltA sLt (b_of (d_mul (b_of (d_ix (b_var 0) (b_of d_int))) (b_of (d_ix (b_var 1) (b_of d_int))))) (b_of (d_mul (b_of (d_ix (b_var 1) (b_of d_int))) (b_of (d_ix (b_var 0) (b_of d_int))))))))) hC
theorem bd_is_less {k : Nat} {C : Ct} (T : Txt K mg) {f : Addr} {fd : FuncData} (F : Fun K "is_less" "is_less" s_is_less f fd) (hm : mg "is_less" = some (.ref f)) (hb : Binds K fd ["one", "two"] []) (hC : ∀ as S R, as.length = 2 → C as S R → G_is_less (ent N_is_less as) S { nx := fun _ S' => R .none S', rt := R }) : Cal P W K mg base "is_less" (k + 1) 2 C := ⟨f, fd, _, ok_is_less T F hm hb hC, F.kp, hb, hm⟩
/-! is_pointed -/
abbrev s_is_pointed : Stmt := top 19
abbrev N_is_pointed : List Str := ["value", "each"]
theorem sc_is_pointed : FnScope N_is_pointed ["value"] (defScope s_is_pointed) := ⟨rfl, rfl, rfl, by decide +kernel, rfl, by decide +kernel, by decide +kernel⟩
def G_is_pointed (C_is_ratio : Ct) : FS :=
    (sRet (fAnd (fUn (fun x R => R (.bool (isiD "tuple" x))) (fVarB 0)) (fAnd (fOp oEq (fUn oLen (fVarB 0)) (fC (.int 2))) (fUn oAll (fLc (fiT (fVarB 0)) [1] (gNm 1) (fC (.bool true)) (fCall C_is_ratio (gDat (fVar 1) gaNil)))))))
theorem ok_is_pointed {k : Nat} {C_is_ratio : Ct} {C : Ct} (T : Txt K mg) {f : Addr} {fd : FuncData} (F : Fun K "is_pointed" "is_pointed" s_is_pointed f fd) (hm : mg "is_pointed" = some (.ref f)) (hb : Binds K fd ["value"] []) (c_is_ratio : Cal P W K mg base "is_ratio" k 1 C_is_ratio) (hC : ∀ as S R, as.length = 1 → C as S R → (G_is_pointed C_is_ratio) (ent N_is_pointed as) S { nx := fun _ S' => R .none S', rt := R }) : Pro P W K mg base (k + 1) f fd ["value"] (spC K 1 C) := by
  have nd := sc_is_pointed.nd
  exact dfn_ok F sc_is_pointed rfl (by decide) (fun cdv A outer s H E hr =>
    (s_one (s_ret (d_and (b_of (d_isi isi_tuple (b_var 0) T.z_isinstance T.z_tuple PyProof.Rows.boot_tuple)) (d_and (b_of (d_cmp (op_eqH hr) sEq (b_of (d_callB call_len sLen (b_var 0) T.z_len PySem.boot_len)) (b_of d_int))) (d_one (d_callB (cr_all rfl) sAll (b_of (d_of_n (n_lc rfl nd (ic_of (i_tup (b_var 0))) (blkOk_by (own := [("each", 1)]) (N := N_is_pointed) (sc := defScope s_is_pointed) (by decide +kernel)) (by decide) (fun _ _ _ _ _ => (g_name 1 nd)) (fun _ _ _ _ _ => p_nil) (fun _ _ _ _ _ => (d_call c_is_ratio (hr.mono (by omega)) (c_dat (d_var 1) c_nil)))))) T.z_all PyProof.Rows.boot_all))))))) hC
theorem bd_is_pointed {k : Nat} {C_is_ratio : Ct} {C : Ct} (T : Txt K mg) {f : Addr} {fd : FuncData} (F : Fun K "is_pointed" "is_pointed" s_is_pointed f fd) (hm : mg "is_pointed" = some (.ref f)) (hb : Binds K fd ["value"] []) (c_is_ratio : Cal P W K mg base "is_ratio" k 1 C_is_ratio) (hC : ∀ as S R, as.length = 1 → C as S R → (G_is_pointed C_is_ratio) (ent N_is_pointed as) S { nx := fun _ S' => R .none S', rt := R }) : Cal P W K mg base "is_pointed" (k + 1) 1 C := ⟨f, fd, _, ok_is_pointed T F hm hb c_is_ratio hC, F.kp, hb, hm⟩
/-! is_segmented -/
abbrev s_is_segmented : Stmt := top 20
abbrev N_is_segmented : List Str := ["value", "each"]
theorem sc_is_segmented : FnScope N_is_segmented ["value"] (defScope s_is_segmented) := ⟨rfl, rfl, rfl, by decide +kernel, rfl, by decide +kernel, by decide +kernel⟩
def G_is_segmented (C_is_pointed : Ct) : FS :=
    (sSeq (sIf (fOr (fNot (fUn (fun x R => R (.bool (isiD "tuple" x))) (fVarB 0))) (fOr (fOp oNe (fUn oLen (fVarB 0)) (fC (.int 2))) (fNot (fUn oAll (fLc (fiT (fVarB 0)) [1] (gNm 1) (fC (.bool true)) (fCall C_is_pointed (gDat (fVar 1) gaNil)))))))
    (sRet (fC (.bool false)))
    sNext)
    (sRet (fOp oNe (fOp oIx (fVarB 0) (fC (.int 0))) (fOp oIx (fVarB 0) (fC (.int 1))))))
theorem ok_is_segmented {k : Nat} {C_is_pointed : Ct} {C : Ct} (T : Txt K mg) {f : Addr} {fd : FuncData} (F : Fun K "is_segmented" "is_segmented" s_is_segmented f fd) (hm : mg "is_segmented" = some (.ref f)) (hb : Binds K fd ["value"] []) (c_is_pointed : Cal P W K mg base "is_pointed" k 1 C_is_pointed) (hC : ∀ as S R, as.length = 1 → C as S R → (G_is_segmented C_is_pointed) (ent N_is_segmented as) S { nx := fun _ S' => R .none S', rt := R }) : Pro P W K mg base (k + 1) f fd ["value"] (spC K 1 C) := by
  have nd := sc_is_segmented.nd
  exact dfn_ok F sc_is_segmented rfl (by decide) (fun cdv A outer s H E hr =>
    (s_cons (s_if (PW.pt (w_or (t_not (t_val (b_of (d_isi isi_tuple (b_var 0) T.z_isinstance T.z_tuple PyProof.Rows.boot_tuple)))) (w_or (t_cmp (op_neH hr) sNe (b_of (d_callB call_len sLen (b_var 0) T.z_len PySem.boot_len)) (b_of d_int)) (w_or1 (t_not (t_val (b_of (d_callB (cr_all rfl) sAll (b_of (d_of_n (n_lc rfl nd (ic_of (i_tup (b_var 0))) (blkOk_by (own := [("each", 1)]) (N := N_is_segmented) (sc := defScope s_is_segmented) (by decide +kernel)) (by decide) (fun _ _ _ _ _ => (g_name 1 nd)) (fun _ _ _ _ _ => p_nil) (fun _ _ _ _ _ => (d_call c_is_pointed (hr.mono (by omega)) (c_dat (d_var 1) c_nil)))))) T.z_all PyProof.Rows.boot_all))))))))
    (s_one (s_ret d_bool))
    s_nil)
    (s_one (s_ret (d_cmp (op_neH hr) sNe (b_of (d_ix (b_var 0) (b_of d_int))) (b_of (d_ix (b_var 0) (b_of d_int)))))))) hC
theorem bd_is_segmented {k : Nat} {C_is_pointed : Ct} {C : Ct} (T : Txt K mg) {f : Addr} {fd : FuncData} (F : Fun K "is_segmented" "is_segmented" s_is_segmented f fd) (hm : mg "is_segmented" = some (.ref f)) (hb : Binds K fd ["value"] []) (c_is_pointed : Cal P W K mg base "is_pointed" k 1 C_is_pointed) (hC : ∀ as S R, as.length = 1 → C as S R → (G_is_segmented C_is_pointed) (ent N_is_segmented as) S { nx := fun _ S' => R .none S', rt := R }) : Cal P W K mg base "is_segmented" (k + 1) 1 C := ⟨f, fd, _, ok_is_segmented T F hm hb c_is_pointed hC, F.kp, hb, hm⟩
/-! step_of -/
abbrev s_step_of : Stmt := top 21
abbrev N_step_of : List Str := ["start", "end"]
theorem sc_step_of : FnScope N_step_of ["start", "end"] (defScope s_step_of) := ⟨rfl, rfl, rfl, by decide +kernel, rfl, by decide +kernel, by decide +kernel⟩
def G_step_of (C_minus : Ct) : FS :=
    (sRet (fTup (fCons (fCall C_minus (gDat (fOp oIx (fVarB 1) (fC (.int 0))) (gDat (fOp oIx (fVarB 0) (fC (.int 0))) gaNil))) (fCons (fCall C_minus (gDat (fOp oIx (fVarB 1) (fC (.int 1))) (gDat (fOp oIx (fVarB 0) (fC (.int 1))) gaNil))) fNil))))
theorem ok_step_of {k : Nat} {C_minus : Ct} {C : Ct} (T : Txt K mg) {f : Addr} {fd : FuncData} (F : Fun K "step_of" "step_of" s_step_of f fd) (hm : mg "step_of" = some (.ref f)) (hb : Binds K fd ["start", "end"] []) (c_minus : Cal P W K mg base "minus" k 2 C_minus) (hC : ∀ as S R, as.length = 2 → C as S R → (G_step_of C_minus) (ent N_step_of as) S { nx := fun _ S' => R .none S', rt := R }) : Pro P W K mg base (k + 1) f fd ["start", "end"] (spC K 2 C) := by
  have nd := sc_step_of.nd
  exact dfn_ok F sc_step_of rfl (by decide) (fun cdv A outer s H E hr =>
    (s_one (s_ret (d_tup (a_cons (d_call c_minus (hr.mono (by omega)) (c_dat (d_ix (b_var 1) (b_of d_int)) (c_dat (d_ix (b_var 0) (b_of d_int)) c_nil))) (a_cons (d_call c_minus (hr.mono (by omega)) (c_dat (d_ix (b_var 1) (b_of d_int)) (c_dat (d_ix (b_var 0) (b_of d_int)) c_nil))) a_nil)))))) hC
theorem bd_step_of {k : Nat} {C_minus : Ct} {C : Ct} (T : Txt K mg) {f : Addr} {fd : FuncData} (F : Fun K "step_of" "step_of" s_step_of f fd) (hm : mg "step_of" = some (.ref f)) (hb : Binds K fd ["start", "end"] []) (c_minus : Cal P W K mg base "minus" k 2 C_minus) (hC : ∀ as S R, as.length = 2 → C as S R → (G_step_of C_minus) (ent N_step_of as) S { nx := fun _ S' => R .none S', rt := R }) : Cal P W K mg base "step_of" (k + 1) 2 C := ⟨f, fd, _, ok_step_of T F hm hb c_minus hC, F.kp, hb, hm⟩
/-! cross -/
abbrev s_cross : Stmt := top 22
abbrev N_cross : List Str := ["one", "two"]
theorem sc_cross : FnScope N_cross ["one", "two"] (defScope s_cross) := ⟨rfl, rfl, rfl, by decide +kernel, rfl, by decide +kernel, by decide +kernel⟩
def G_cross (C_minus C_times : Ct) : FS :=
    (sRet (fCall C_minus (gDat (fCall C_times (gDat (fOp oIx (fVarB 0) (fC (.int 0))) (gDat (fOp oIx (fVarB 1) (fC (.int 1))) gaNil))) (gDat (fCall C_times (gDat (fOp oIx (fVarB 0) (fC (.int 1))) (gDat (fOp oIx (fVarB 1) (fC (.int 0))) gaNil))) gaNil))))
theorem ok_cross {k : Nat} {C_minus C_times : Ct} {C : Ct} (T : Txt K mg) {f : Addr} {fd : FuncData} (F : Fun K "cross" "cross" s_cross f fd) (hm : mg "cross" = some (.ref f)) (hb : Binds K fd ["one", "two"] []) (c_minus : Cal P W K mg base "minus" k 2 C_minus) (c_times : Cal P W K mg base "times" k 2 C_times) (hC : ∀ as S R, as.length = 2 → C as S R → (G_cross C_minus C_times) (ent N_cross as) S { nx := fun _ S' => R .none S', rt := R }) : Pro P W K mg base (k + 1) f fd ["one", "two"] (spC K 2 C) := by
  have nd := sc_cross.nd
  exact dfn_ok F sc_cross rfl (by decide) (fun cdv A outer s H E hr =>
    (s_one (s_ret (d_call c_minus (hr.mono (by omega)) (c_dat (d_call c_times (hr.mono (by omega)) (c_dat (d_ix (b_var 0) (b_of d_int)) (c_dat (d_ix (b_var 1) (b_of d_int)) c_nil))) (c_dat (d_call c_times (hr.mono (by omega)) (c_dat (d_ix (b_var 0) (b_of d_int)) (c_dat (d_ix (b_var 1) (b_of d_int)) c_nil))) c_nil)))))) hC
theorem bd_cross {k : Nat} {C_minus C_times : Ct} {C : Ct} (T : Txt K mg) {f : Addr} {fd : FuncData} (F : Fun K "cross" "cross" s_cross f fd) (hm : mg "cross" = some (.ref f)) (hb : Binds K fd ["one", "two"] []) (c_minus : Cal P W K mg base "minus" k 2 C_minus) (c_times : Cal P W K mg base "times" k 2 C_times) (hC : ∀ as S R, as.length = 2 → C as S R → (G_cross C_minus C_times) (ent N_cross as) S { nx := fun _ S' => R .none S', rt := R }) : Cal P W K mg base "cross" (k + 1) 2 C := ⟨f, fd, _, ok_cross T F hm hb c_minus c_times hC, F.kp, hb, hm⟩
/-! turn_by -/
abbrev s_turn_by : Stmt := top 23
abbrev N_turn_by : List Str := ["point", "other", "third"]
theorem sc_turn_by : FnScope N_turn_by ["point", "other", "third"] (defScope s_turn_by) := ⟨rfl, rfl, rfl, by decide +kernel, rfl, by decide +kernel, by decide +kernel⟩
def G_turn_by (C_sign_of C_cross C_step_of : Ct) : FS :=
    (sRet (fCall C_sign_of (gDat (fCall C_cross (gDat (fCall C_step_of (gDat (fVar 0) (gDat (fVar 1) gaNil))) (gDat (fCall C_step_of (gDat (fVar 0) (gDat (fVar 2) gaNil))) gaNil))) gaNil)))
theorem ok_turn_by {k : Nat} {C_sign_of C_cross C_step_of : Ct} {C : Ct} (T : Txt K mg) {f : Addr} {fd : FuncData} (F : Fun K "turn_by" "turn_by" s_turn_by f fd) (hm : mg "turn_by" = some (.ref f)) (hb : Binds K fd ["point", "other", "third"] []) (c_sign_of : Cal P W K mg base "sign_of" k 1 C_sign_of) (c_cross : Cal P W K mg base "cross" k 2 C_cross) (c_step_of : Cal P W K mg base "step_of" k 2 C_step_of) (hC : ∀ as S R, as.length = 3 → C as S R → (G_turn_by C_sign_of C_cross C_step_of) (ent N_turn_by as) S { nx := fun _ S' => R .none S', rt := R }) : Pro P W K mg base (k + 1) f fd ["point", "other", "third"] (spC K 3 C) := by
  have nd := sc_turn_by.nd
  exact dfn_ok F sc_turn_by rfl (by decide) (fun cdv A outer s H E hr =>
    (s_one (s_ret (d_call c_sign_of (hr.mono (by omega)) (c_dat (d_call c_cross (hr.mono (by omega)) (c_dat (d_call c_step_of (hr.mono (by omega)) (c_dat (d_var 0) (c_dat (d_var 1) c_nil))) (c_dat (d_call c_step_of (hr.mono (by omega)) (c_dat (d_var 0) (c_dat (d_var 2) c_nil))) c_nil))) c_nil))))) hC
theorem bd_turn_by {k : Nat} {C_sign_of C_cross C_step_of : Ct} {C : Ct} (T : Txt K mg) {f : Addr} {fd : FuncData} (F : Fun K "turn_by" "turn_by" s_turn_by f fd) (hm : mg "turn_by" = some (.ref f)) (hb : Binds K fd ["point", "other", "third"] []) (c_sign_of : Cal P W K mg base "sign_of" k 1 C_sign_of) (c_cross : Cal P W K mg base "cross" k 2 C_cross) (c_step_of : Cal P W K mg base "step_of" k 2 C_step_of) (hC : ∀ as S R, as.length = 3 → C as S R → (G_turn_by C_sign_of C_cross C_step_of) (ent N_turn_by as) S { nx := fun _ S' => R .none S', rt := R }) : Cal P W K mg base "turn_by" (k + 1) 3 C := ⟨f, fd, _, ok_turn_by T F hm hb c_sign_of c_cross c_step_of hC, F.kp, hb, hm⟩
/-! comes_first -/
abbrev s_comes_first : Stmt := top 24
abbrev N_comes_first : List Str := ["one", "two"]
theorem sc_comes_first : FnScope N_comes_first ["one", "two"] (defScope s_comes_first) := ⟨rfl, rfl, rfl, by decide +kernel, rfl, by decide +kernel, by decide +kernel⟩
def G_comes_first (C_is_less : Ct) : FS :=
    (sRet (fOr (fCall C_is_less (gDat (fOp oIx (fVarB 0) (fC (.int 0))) (gDat (fOp oIx (fVarB 1) (fC (.int 0))) gaNil))) (fAnd (fOp oEq (fOp oIx (fVarB 0) (fC (.int 0))) (fOp oIx (fVarB 1) (fC (.int 0)))) (fCall C_is_less (gDat (fOp oIx (fVarB 0) (fC (.int 1))) (gDat (fOp oIx (fVarB 1) (fC (.int 1))) gaNil))))))
theorem ok_comes_first {k : Nat} {C_is_less : Ct} {C : Ct} (T : Txt K mg) {f : Addr} {fd : FuncData} (F : Fun K "comes_first" "comes_first" s_comes_first f fd) (hm : mg "comes_first" = some (.ref f)) (hb : Binds K fd ["one", "two"] []) (c_is_less : Cal P W K mg base "is_less" k 2 C_is_less) (hC : ∀ as S R, as.length = 2 → C as S R → (G_comes_first C_is_less) (ent N_comes_first as) S { nx := fun _ S' => R .none S', rt := R }) : Pro P W K mg base (k + 1) f fd ["one", "two"] (spC K 2 C) := by
  have nd := sc_comes_first.nd
  exact dfn_ok F sc_comes_first rfl (by decide) (fun cdv A outer s H E hr =>
    (s_one (s_ret (d_or (b_of (d_call c_is_less (hr.mono (by omega)) (c_dat (d_ix (b_var 0) (b_of d_int)) (c_dat (d_ix (b_var 1) (b_of d_int)) c_nil)))) (d_one (d_and (b_of (d_cmp (op_eqH hr) sEq (b_of (d_ix (b_var 0) (b_of d_int))) (b_of (d_ix (b_var 1) (b_of d_int))))) (d_one (d_call c_is_less (hr.mono (by omega)) (c_dat (d_ix (b_var 0) (b_of d_int)) (c_dat (d_ix (b_var 1) (b_of d_int)) c_nil)))))))))) hC
theorem bd_comes_first {k : Nat} {C_is_less : Ct} {C : Ct} (T : Txt K mg) {f : Addr} {fd : FuncData} (F : Fun K "comes_first" "comes_first" s_comes_first f fd) (hm : mg "comes_first" = some (.ref f)) (hb : Binds K fd ["one", "two"] []) (c_is_less : Cal P W K mg base "is_less" k 2 C_is_less) (hC : ∀ as S R, as.length = 2 → C as S R → (G_comes_first C_is_less) (ent N_comes_first as) S { nx := fun _ S' => R .none S', rt := R }) : Cal P W K mg base "comes_first" (k + 1) 2 C := ⟨f, fd, _, ok_comes_first T F hm hb c_is_less hC, F.kp, hb, hm⟩
/-! ascending -/
abbrev s_ascending : Stmt := top 25
abbrev N_ascending : List Str := ["segment"]
theorem sc_ascending : FnScope N_ascending ["segment"] (defScope s_ascending) := ⟨rfl, rfl, rfl, by decide +kernel, rfl, by decide +kernel, by decide +kernel⟩
def G_ascending (C_comes_first : Ct) : FS :=
    (sRet (fIf (fCall C_comes_first (gDat (fOp oIx (fVarB 0) (fC (.int 0))) (gDat (fOp oIx (fVarB 0) (fC (.int 1))) gaNil))) (fVar 0) (fUn oBack (fVarB 0))))
theorem ok_ascending {k : Nat} {C_comes_first : Ct} {C : Ct} (T : Txt K mg) {f : Addr} {fd : FuncData} (F : Fun K "ascending" "ascending" s_ascending f fd) (hm : mg "ascending" = some (.ref f)) (hb : Binds K fd ["segment"] []) (c_comes_first : Cal P W K mg base "comes_first" k 2 C_comes_first) (hC : ∀ as S R, as.length = 1 → C as S R → (G_ascending C_comes_first) (ent N_ascending as) S { nx := fun _ S' => R .none S', rt := R }) : Pro P W K mg base (k + 1) f fd ["segment"] (spC K 1 C) := by
  have nd := sc_ascending.nd
  exact dfn_ok F sc_ascending rfl (by decide) (fun cdv A outer s H E hr =>
    (s_one (s_ret (d_if (t_val (b_of (d_call c_comes_first (hr.mono (by omega)) (c_dat (d_ix (b_var 0) (b_of d_int)) (c_dat (d_ix (b_var 0) (b_of d_int)) c_nil))))) (d_var 0) (d_back (b_var 0)))))) hC
theorem bd_ascending {k : Nat} {C_comes_first : Ct} {C : Ct} (T : Txt K mg) {f : Addr} {fd : FuncData} (F : Fun K "ascending" "ascending" s_ascending f fd) (hm : mg "ascending" = some (.ref f)) (hb : Binds K fd ["segment"] []) (c_comes_first : Cal P W K mg base "comes_first" k 2 C_comes_first) (hC : ∀ as S R, as.length = 1 → C as S R → (G_ascending C_comes_first) (ent N_ascending as) S { nx := fun _ S' => R .none S', rt := R }) : Cal P W K mg base "ascending" (k + 1) 1 C := ⟨f, fd, _, ok_ascending T F hm hb c_comes_first hC, F.kp, hb, hm⟩
/-! is_on_by -/
abbrev s_is_on_by : Stmt := top 26
abbrev N_is_on_by : List Str := ["segment", "point", "low", "high"]
theorem sc_is_on_by : FnScope N_is_on_by ["segment", "point"] (defScope s_is_on_by) := ⟨rfl, rfl, rfl, by decide +kernel, rfl, by decide +kernel, by decide +kernel⟩
def G_is_on_by (C_ascending C_comes_first C_turn_by : Ct) : FS :=
    (sSeq (sAsg (fCall C_ascending (gDat (fVar 0) gaNil)) (gTp 2 (gsCons (gNm 2) (gsCons (gNm 3) gsNil))))
    (sSeq (sIf (fOr (fCall C_comes_first (gDat (fVar 1) (gDat (fVar 2) gaNil))) (fCall C_comes_first (gDat (fVar 3) (gDat (fVar 1) gaNil))))
    (sRet (fC (.bool false)))
    sNext)
    (sRet (fOp oEq (fCall C_turn_by (gDat (fVar 2) (gDat (fVar 3) (gDat (fVar 1) gaNil)))) (fC (.int 0))))))
theorem ok_is_on_by {k : Nat} {C_ascending C_comes_first C_turn_by : Ct} {C : Ct} (T : Txt K mg) {f : Addr} {fd : FuncData} (F : Fun K "is_on_by" "is_on_by" s_is_on_by f fd) (hm : mg "is_on_by" = some (.ref f)) (hb : Binds K fd ["segment", "point"] []) (c_ascending : Cal P W K mg base "ascending" k 1 C_ascending) (c_comes_first : Cal P W K mg base "comes_first" k 2 C_comes_first) (c_turn_by : Cal P W K mg base "turn_by" k 3 C_turn_by) (hC : ∀ as S R, as.length = 2 → C as S R → (G_is_on_by C_ascending C_comes_first C_turn_by) (ent N_is_on_by as) S { nx := fun _ S' => R .none S', rt := R }) : Pro P W K mg base (k + 1) f fd ["segment", "point"] (spC K 2 C) := by
  have nd := sc_is_on_by.nd
  exact dfn_ok F sc_is_on_by rfl (by decide) (fun cdv A outer s H E hr =>
    (s_cons (s_asg (d_call c_ascending (hr.mono (by omega)) (c_dat (d_var 0) c_nil)) (g_tup rfl (gs_cons (g_name 2 nd) (gs_cons (g_name 3 nd) gs_nil))))
    (s_cons (s_if (PW.pt (w_or (t_val (b_of (d_call c_comes_first (hr.mono (by omega)) (c_dat (d_var 1) (c_dat (d_var 2) c_nil))))) (w_or1 (t_val (b_of (d_call c_comes_first (hr.mono (by omega)) (c_dat (d_var 3) (c_dat (d_var 1) c_nil))))))))
    (s_one (s_ret d_bool))
    s_nil)
    (s_one (s_ret (d_cmp (op_eqH hr) sEq (b_of (d_call c_turn_by (hr.mono (by omega)) (c_dat (d_var 2) (c_dat (d_var 3) (c_dat (d_var 1) c_nil))))) (b_of d_int))))))) hC
theorem bd_is_on_by {k : Nat} {C_ascending C_comes_first C_turn_by : Ct} {C : Ct} (T : Txt K mg) {f : Addr} {fd : FuncData} (F : Fun K "is_on_by" "is_on_by" s_is_on_by f fd) (hm : mg "is_on_by" = some (.ref f)) (hb : Binds K fd ["segment", "point"] []) (c_ascending : Cal P W K mg base "ascending" k 1 C_ascending) (c_comes_first : Cal P W K mg base "comes_first" k 2 C_comes_first) (c_turn_by : Cal P W K mg base "turn_by" k 3 C_turn_by) (hC : ∀ as S R, as.length = 2 → C as S R → (G_is_on_by C_ascending C_comes_first C_turn_by) (ent N_is_on_by as) S { nx := fun _ S' => R .none S', rt := R }) : Cal P W K mg base "is_on_by" (k + 1) 2 C := ⟨f, fd, _, ok_is_on_by T F hm hb c_ascending c_comes_first c_turn_by hC, F.kp, hb, hm⟩
/-! at_part -/
abbrev s_at_part : Stmt := top 27
abbrev N_at_part : List Str := ["start", "step", "part"]
theorem sc_at_part : FnScope N_at_part ["start", "step", "part"] (defScope s_at_part) := ⟨rfl, rfl, rfl, by decide +kernel, rfl, by decide +kernel, by decide +kernel⟩
def G_at_part (C_plus C_times : Ct) : FS :=
    (sRet (fTup (fCons (fCall C_plus (gDat (fOp oIx (fVarB 0) (fC (.int 0))) (gDat (fCall C_times (gDat (fVar 2) (gDat (fOp oIx (fVarB 1) (fC (.int 0))) gaNil))) gaNil))) (fCons (fCall C_plus (gDat (fOp oIx (fVarB 0) (fC (.int 1))) (gDat (fCall C_times (gDat (fVar 2) (gDat (fOp oIx (fVarB 1) (fC (.int 1))) gaNil))) gaNil))) fNil))))
theorem ok_at_part {k : Nat} {C_plus C_times : Ct} {C : Ct} (T : Txt K mg) {f : Addr} {fd : FuncData} (F : Fun K "at_part" "at_part" s_at_part f fd) (hm : mg "at_part" = some (.ref f)) (hb : Binds K fd ["start", "step", "part"] []) (c_plus : Cal P W K mg base "plus" k 2 C_plus) (c_times : Cal P W K mg base "times" k 2 C_times) (hC : ∀ as S R, as.length = 3 → C as S R → (G_at_part C_plus C_times) (ent N_at_part as) S { nx := fun _ S' => R .none S', rt := R }) : Pro P W K mg base (k + 1) f fd ["start", "step", "part"] (spC K 3 C) := by
  have nd := sc_at_part.nd
  exact dfn_ok F sc_at_part rfl (by decide) (fun cdv A outer s H E hr =>
    (s_one (s_ret (d_tup (a_cons (d_call c_plus (hr.mono (by omega)) (c_dat (d_ix (b_var 0) (b_of d_int)) (c_dat (d_call c_times (hr.mono (by omega)) (c_dat (d_var 2) (c_dat (d_ix (b_var 1) (b_of d_int)) c_nil))) c_nil))) (a_cons (d_call c_plus (hr.mono (by omega)) (c_dat (d_ix (b_var 0) (b_of d_int)) (c_dat (d_call c_times (hr.mono (by omega)) (c_dat (d_var 2) (c_dat (d_ix (b_var 1) (b_of d_int)) c_nil))) c_nil))) a_nil)))))) hC
theorem bd_at_part {k : Nat} {C_plus C_times : Ct} {C : Ct} (T : Txt K mg) {f : Addr} {fd : FuncData} (F : Fun K "at_part" "at_part" s_at_part f fd) (hm : mg "at_part" = some (.ref f)) (hb : Binds K fd ["start", "step", "part"] []) (c_plus : Cal P W K mg base "plus" k 2 C_plus) (c_times : Cal P W K mg base "times" k 2 C_times) (hC : ∀ as S R, as.length = 3 → C as S R → (G_at_part C_plus C_times) (ent N_at_part as) S { nx := fun _ S' => R .none S', rt := R }) : Cal P W K mg base "at_part" (k + 1) 3 C := ⟨f, fd, _, ok_at_part T F hm hb c_plus c_times hC, F.kp, hb, hm⟩
/-! shared_line -/
abbrev s_shared_line : Stmt := top 28
abbrev N_shared_line : List Str := ["segment", "other", "one", "two", "three", "four", "low", "high"]
theorem sc_shared_line : FnScope N_shared_line ["segment", "other"] (defScope s_shared_line) := ⟨rfl, rfl, rfl, by decide +kernel, rfl, by decide +kernel, by decide +kernel⟩
def G_shared_line (C_ascending C_comes_first : Ct) : FS :=
    (sSeq (sAsg (fTup (fCons (fCall C_ascending (gDat (fVar 0) gaNil)) (fCons (fCall C_ascending (gDat (fVar 1) gaNil)) fNil))) (gTp 2 (gsCons (gTp 2 (gsCons (gNm 2) (gsCons (gNm 3) gsNil))) (gsCons (gTp 2 (gsCons (gNm 4) (gsCons (gNm 5) gsNil))) gsNil))))
    (sSeq (sSet 6 (fIf (fCall C_comes_first (gDat (fVar 4) (gDat (fVar 2) gaNil))) (fVar 2) (fVar 4)))
    (sSeq (sSet 7 (fIf (fCall C_comes_first (gDat (fVar 3) (gDat (fVar 5) gaNil))) (fVar 3) (fVar 5)))
    (sSeq (sIf (fOp oEq (fVarB 6) (fVarB 7))
    (sRet (fTup (fCons (fVar 6) fNil)))
    sNext)
    (sRet (fIf (fCall C_comes_first (gDat (fVar 6) (gDat (fVar 7) gaNil))) (fTup (fCons (fVar 6) (fCons (fVar 7) fNil))) (fTup fNil)))))))
theorem ok_shared_line {k : Nat} {C_ascending C_comes_first : Ct} {C : Ct} (T : Txt K mg) {f : Addr} {fd : FuncData} (F : Fun K "shared_line" "shared_line" s_shared_line f fd) (hm : mg "shared_line" = some (.ref f)) (hb : Binds K fd ["segment", "other"] []) (c_ascending : Cal P W K mg base "ascending" k 1 C_ascending) (c_comes_first : Cal P W K mg base "comes_first" k 2 C_comes_first) (hC : ∀ as S R, as.length = 2 → C as S R → (G_shared_line C_ascending C_comes_first) (ent N_shared_line as) S { nx := fun _ S' => R .none S', rt := R }) : Pro P W K mg base (k + 1) f fd ["segment", "other"] (spC K 2 C) := by
  have nd := sc_shared_line.nd
  exact dfn_ok F sc_shared_line rfl (by decide) (fun cdv A outer s H E hr =>
    (s_cons (s_asg (d_tup (a_cons (d_call c_ascending (hr.mono (by omega)) (c_dat (d_var 0) c_nil)) (a_cons (d_call c_ascending (hr.mono (by omega)) (c_dat (d_var 1) c_nil)) a_nil))) (g_tup rfl (gs_cons (g_tup rfl (gs_cons (g_name 2 nd) (gs_cons (g_name 3 nd) gs_nil))) (gs_cons (g_tup rfl (gs_cons (g_name 4 nd) (gs_cons (g_name 5 nd) gs_nil))) gs_nil))))
    (s_cons (s_set 6 nd (d_if (t_val (b_of (d_call c_comes_first (hr.mono (by omega)) (c_dat (d_var 4) (c_dat (d_var 2) c_nil))))) (d_var 2) (d_var 4)))
    (s_cons (s_set 7 nd (d_if (t_val (b_of (d_call c_comes_first (hr.mono (by omega)) (c_dat (d_var 3) (c_dat (d_var 5) c_nil))))) (d_var 3) (d_var 5)))
    (s_cons (s_if (t_cmp (op_eqH hr) sEq (b_var 6) (b_var 7))
    (s_one (s_ret (d_tup (a_cons (d_var 6) a_nil))))
    s_nil)
    (s_one (s_ret (d_if (t_val (b_of (d_call c_comes_first (hr.mono (by omega)) (c_dat (d_var 6) (c_dat (d_var 7) c_nil))))) (d_tup (a_cons (d_var 6) (a_cons (d_var 7) a_nil))) (d_tup a_nil))))))))) hC
theorem bd_shared_line {k : Nat} {C_ascending C_comes_first : Ct} {C : Ct} (T : Txt K mg) {f : Addr} {fd : FuncData} (F : Fun K "shared_line" "shared_line" s_shared_line f fd) (hm : mg "shared_line" = some (.ref f)) (hb : Binds K fd ["segment", "other"] []) (c_ascending : Cal P W K mg base "ascending" k 1 C_ascending) (c_comes_first : Cal P W K mg base "comes_first" k 2 C_comes_first) (hC : ∀ as S R, as.length = 2 → C as S R → (G_shared_line C_ascending C_comes_first) (ent N_shared_line as) S { nx := fun _ S' => R .none S', rt := R }) : Cal P W K mg base "shared_line" (k + 1) 2 C := ⟨f, fd, _, ok_shared_line T F hm hb c_ascending c_comes_first hC, F.kp, hb, hm⟩
/-! common_by -/
abbrev s_common_by : Stmt := top 29
abbrev N_common_by : List Str := ["segment", "other", "first", "second", "gap", "whole", "point"]
theorem sc_common_by : FnScope N_common_by ["segment", "other"] (defScope s_common_by) := ⟨rfl, rfl, rfl, by decide +kernel, rfl, by decide +kernel, by decide +kernel⟩
def G_common_by (C_step_of C_cross C_shared_line C_at_part C_over C_is_on_by : Ct) : FS :=
    (sSeq (sPar 2 3 (fCons (fCall C_step_of (gDat (fOp oIx (fVarB 0) (fC (.int 0))) (gDat (fOp oIx (fVarB 0) (fC (.int 1))) gaNil))) (fCons (fCall C_step_of (gDat (fOp oIx (fVarB 1) (fC (.int 0))) (gDat (fOp oIx (fVarB 1) (fC (.int 1))) gaNil))) fNil)))
    (sSeq (sPar 4 5 (fCons (fCall C_step_of (gDat (fOp oIx (fVarB 0) (fC (.int 0))) (gDat (fOp oIx (fVarB 1) (fC (.int 0))) gaNil))) (fCons (fCall C_cross (gDat (fVar 2) (gDat (fVar 3) gaNil))) fNil)))
    (sSeq (sIf (fOp oEq (fVarB 5) (fC (.tuple [.int 0, .int 1])))
    (sRet (fIf (fOp oEq (fCall C_cross (gDat (fVar 2) (gDat (fVar 4) gaNil))) (fC (.tuple [.int 0, .int 1]))) (fCall C_shared_line (gDat (fVar 0) (gDat (fVar 1) gaNil))) (fTup fNil)))
    sNext)
    (sSeq (sSet 6 (fCall C_at_part (gDat (fOp oIx (fVarB 0) (fC (.int 0))) (gDat (fVar 2) (gDat (fCall C_over (gDat (fCall C_cross (gDat (fVar 4) (gDat (fVar 3) gaNil))) (gDat (fVar 5) gaNil))) gaNil)))))
    (sRet (fIf (fAnd (fCall C_is_on_by (gDat (fVar 0) (gDat (fVar 6) gaNil))) (fCall C_is_on_by (gDat (fVar 1) (gDat (fVar 6) gaNil)))) (fTup (fCons (fVar 6) fNil)) (fTup fNil)))))))
theorem ok_common_by {k : Nat} {C_step_of C_cross C_shared_line C_at_part C_over C_is_on_by : Ct} {C : Ct} (T : Txt K mg) {f : Addr} {fd : FuncData} (F : Fun K "common_by" "common_by" s_common_by f fd) (hm : mg "common_by" = some (.ref f)) (hb : Binds K fd ["segment", "other"] []) (c_step_of : Cal P W K mg base "step_of" k 2 C_step_of) (c_cross : Cal P W K mg base "cross" k 2 C_cross) (c_shared_line : Cal P W K mg base "shared_line" k 2 C_shared_line) (c_at_part : Cal P W K mg base "at_part" k 3 C_at_part) (c_over : Cal P W K mg base "over" k 2 C_over) (c_is_on_by : Cal P W K mg base "is_on_by" k 2 C_is_on_by) (hC : ∀ as S R, as.length = 2 → C as S R → (G_common_by C_step_of C_cross C_shared_line C_at_part C_over C_is_on_by) (ent N_common_by as) S { nx := fun _ S' => R .none S', rt := R }) : Pro P W K mg base (k + 1) f fd ["segment", "other"] (spC K 2 C) := by
  have nd := sc_common_by.nd
  exact dfn_ok F sc_common_by rfl (by decide) (fun cdv A outer s H E hr =>
    (s_cons (s_par 2 3 rfl nd (a_cons (d_call c_step_of (hr.mono (by omega)) (c_dat (d_ix (b_var 0) (b_of d_int)) (c_dat (d_ix (b_var 0) (b_of d_int)) c_nil))) (a_cons (d_call c_step_of (hr.mono (by omega)) (c_dat (d_ix (b_var 1) (b_of d_int)) (c_dat (d_ix (b_var 1) (b_of d_int)) c_nil))) a_nil)))
    (s_cons (s_par 4 5 rfl nd (a_cons (d_call c_step_of (hr.mono (by omega)) (c_dat (d_ix (b_var 0) (b_of d_int)) (c_dat (d_ix (b_var 1) (b_of d_int)) c_nil))) (a_cons (d_call c_cross (hr.mono (by omega)) (c_dat (d_var 2) (c_dat (d_var 3) c_nil))) a_nil)))
    (s_cons (s_if (t_cmp (op_eqH hr) sEq (b_var 5) (b_of (d_glob T.g_ZERO)))
    (s_one (s_ret (d_if (t_cmp (op_eqH hr) sEq (b_of (d_call c_cross (hr.mono (by omega)) (c_dat (d_var 2) (c_dat (d_var 4) c_nil)))) (b_of (d_glob T.g_ZERO))) (d_call c_shared_line (hr.mono (by omega)) (c_dat (d_var 0) (c_dat (d_var 1) c_nil))) (d_tup a_nil))))
    s_nil)
    (s_cons (s_set 6 nd (d_call c_at_part (hr.mono (by omega)) (c_dat (d_ix (b_var 0) (b_of d_int)) (c_dat (d_var 2) (c_dat (d_call c_over (hr.mono (by omega)) (c_dat (d_call c_cross (hr.mono (by omega)) (c_dat (d_var 4) (c_dat (d_var 3) c_nil))) (c_dat (d_var 5) c_nil))) c_nil)))))
    (s_one (s_ret (d_if (PW.pt (w_and (t_val (b_of (d_call c_is_on_by (hr.mono (by omega)) (c_dat (d_var 0) (c_dat (d_var 6) c_nil))))) (w_and1 (t_val (b_of (d_call c_is_on_by (hr.mono (by omega)) (c_dat (d_var 1) (c_dat (d_var 6) c_nil)))))))) (d_tup (a_cons (d_var 6) a_nil)) (d_tup a_nil))))))))) hC
theorem bd_common_by {k : Nat} {C_step_of C_cross C_shared_line C_at_part C_over C_is_on_by : Ct} {C : Ct} (T : Txt K mg) {f : Addr} {fd : FuncData} (F : Fun K "common_by" "common_by" s_common_by f fd) (hm : mg "common_by" = some (.ref f)) (hb : Binds K fd ["segment", "other"] []) (c_step_of : Cal P W K mg base "step_of" k 2 C_step_of) (c_cross : Cal P W K mg base "cross" k 2 C_cross) (c_shared_line : Cal P W K mg base "shared_line" k 2 C_shared_line) (c_at_part : Cal P W K mg base "at_part" k 3 C_at_part) (c_over : Cal P W K mg base "over" k 2 C_over) (c_is_on_by : Cal P W K mg base "is_on_by" k 2 C_is_on_by) (hC : ∀ as S R, as.length = 2 → C as S R → (G_common_by C_step_of C_cross C_shared_line C_at_part C_over C_is_on_by) (ent N_common_by as) S { nx := fun _ S' => R .none S', rt := R }) : Cal P W K mg base "common_by" (k + 1) 2 C := ⟨f, fd, _, ok_common_by T F hm hb c_step_of c_cross c_shared_line c_at_part c_over c_is_on_by hC, F.kp, hb, hm⟩
/-! with_point -/
abbrev s_with_point : Stmt := top 30
abbrev N_with_point : List Str := ["points", "point", "at", "each"]
theorem sc_with_point : FnScope N_with_point ["points", "point"] (defScope s_with_point) := ⟨rfl, rfl, rfl, by decide +kernel, rfl, by decide +kernel, by decide +kernel⟩
def G_with_point (C_comes_first : Ct) : FS :=
    (sSeq (sIf (fOp (oInD false) (fVarB 1) (fVarB 0))
    (sRetV 0)
    sNext)
    (sSeq (sSet 2 (fUn oLen (fLc (fiL (fVar 0)) [3] (gNm 3) (fCall C_comes_first (gDat (fVar 3) (gDat (fVar 1) gaNil))) (fVar 3))))
    (sRet (fOp oAdd (fOp oAdd (fSl (fVarB 0) fNoP (fP (fVarB 2))) (fLst (fCons (fVar 1) fNil))) (fSl (fVarB 0) (fP (fVarB 2)) fNoP)))))
theorem ok_with_point {k : Nat} {C_comes_first : Ct} {C : Ct} (T : Txt K mg) {f : Addr} {fd : FuncData} (F : Fun K "with_point" "with_point" s_with_point f fd) (hm : mg "with_point" = some (.ref f)) (hb : Binds K fd ["points", "point"] []) (c_comes_first : Cal P W K mg base "comes_first" k 2 C_comes_first) (hC : ∀ as S R, as.length = 2 → C as S R → (G_with_point C_comes_first) (ent N_with_point as) S { nx := fun _ S' => R .none S', rt := R }) : Pro P W K mg base (k + 1) f fd ["points", "point"] (spC K 2 C) := by
  have nd := sc_with_point.nd
  exact dfn_ok F sc_with_point rfl (by decide) (fun cdv A outer s H E hr =>
    (s_cons (s_if (t_cmp (op_inDeep hr) sInD (b_var 1) (b_var 0))
    (s_one (s_retV 0))
    s_nil)
    (s_cons (s_set 2 nd (d_callB call_len sLen (b_of (d_of_n (n_lc rfl nd (ic_of (i_list (d_var 0))) (blkOk_by (own := [("each", 3)]) (N := N_with_point) (sc := defScope s_with_point) (by decide +kernel)) (by decide) (fun _ _ _ _ _ => (g_name 3 nd)) (fun _ _ _ _ _ => (p_one (t_val (b_of (d_call c_comes_first (hr.mono (by omega)) (c_dat (d_var 3) (c_dat (d_var 1) c_nil))))))) (fun _ _ _ _ _ => (d_var 3))))) T.z_len PySem.boot_len))
    (s_one (s_ret (d_add (b_of (d_add (b_of (d_slice (b_var 0) o_none (o_some (b_var 2)))) (b_of (d_lst (a_cons (d_var 1) a_nil))))) (b_of (d_slice (b_var 0) (o_some (b_var 2)) o_none)))))))) hC
theorem bd_with_point {k : Nat} {C_comes_first : Ct} {C : Ct} (T : Txt K mg) {f : Addr} {fd : FuncData} (F : Fun K "with_point" "with_point" s_with_point f fd) (hm : mg "with_point" = some (.ref f)) (hb : Binds K fd ["points", "point"] []) (c_comes_first : Cal P W K mg base "comes_first" k 2 C_comes_first) (hC : ∀ as S R, as.length = 2 → C as S R → (G_with_point C_comes_first) (ent N_with_point as) S { nx := fun _ S' => R .none S', rt := R }) : Cal P W K mg base "with_point" (k + 1) 2 C := ⟨f, fd, _, ok_with_point T F hm hb c_comes_first hC, F.kp, hb, hm⟩
/-! all_vertices -/
abbrev s_all_vertices : Stmt := top 32
abbrev N_all_vertices : List Str := ["segments", "points", "found", "segment", "point", "index", "other", "end"]
theorem sc_all_vertices : FnScope N_all_vertices ["segments", "points"] (defScope s_all_vertices) := ⟨rfl, rfl, rfl, by decide +kernel, rfl, by decide +kernel, by decide +kernel⟩
def G_all_vertices (C_with_point C_common_by : Ct) : FS :=
    (sSeq (sSet 2 (fLst fNil))
    (sSeq (sFor (fiL (fOp oAdd (fLc2 (fiT (fVarB 0)) [3, 7] (gNm 3) (fiT (fVarB 3)) [7] (gNm 7) (fVar 7)) (fUn oList (fVarB 1)))) (gNm 4)
    (sSet 2 (fCall C_with_point (gDat (fVar 2) (gDat (fVar 4) gaNil)))))
    (sSeq (sFor (fiE (fVar 0)) (gTp 2 (gsCons (gNm 5) (gsCons (gNm 3) gsNil)))
    (sFor (fiT (fSl (fVarB 0) fNoP (fP (fVarB 5)))) (gNm 6)
    (sFor (fiT (fCall C_common_by (gDat (fVar 3) (gDat (fVar 6) gaNil)))) (gNm 4)
    (sSet 2 (fCall C_with_point (gDat (fVar 2) (gDat (fVar 4) gaNil)))))))
    (sRet (fUn oTuple (fVarB 2))))))
theorem ok_all_vertices {k : Nat} {C_with_point C_common_by : Ct} {C : Ct} (T : Txt K mg) {f : Addr} {fd : FuncData} (F : Fun K "all_vertices" "all_vertices" s_all_vertices f fd) (hm : mg "all_vertices" = some (.ref f)) (hb : Binds K fd ["segments", "points"] []) (c_with_point : Cal P W K mg base "with_point" k 2 C_with_point) (c_common_by : Cal P W K mg base "common_by" k 2 C_common_by) (hC : ∀ as S R, as.length = 2 → C as S R → (G_all_vertices C_with_point C_common_by) (ent N_all_vertices as) S { nx := fun _ S' => R .none S', rt := R }) : Pro P W K mg base (k + 1) f fd ["segments", "points"] (spC K 2 C) := by
  have nd := sc_all_vertices.nd
  exact dfn_ok F sc_all_vertices rfl (by decide) (fun cdv A outer s H E hr =>
    (s_cons (s_set 2 nd (d_lst a_nil))
    (s_cons (s_for PassesOwn.never rfl (i_list (d_add (b_of (d_of_n (n_lc2 (vs1 := [7]) rfl nd (ic_of (i_tup (b_var 0))) (blkOk_by (own := [("segment", 3), ("end", 7)]) (N := N_all_vertices) (sc := defScope s_all_vertices) (by decide +kernel)) (by decide) (by decide) (by decide) (fun _ _ _ _ _ => (g_name 3 nd)) (fun _ _ _ _ _ => (i_tup (b_var 3))) (fun _ _ _ _ _ => (g_name 7 nd)) (fun _ _ _ _ _ => (d_var 7))))) (b_of (d_of_n (n_callT call_list_of nList (b_var 1) T.z_list PyProof.Rows.boot_list))))) (g_name 4 nd)
    (s_one (s_set 2 nd (d_call c_with_point (hr.mono (by omega)) (c_dat (d_var 2) (c_dat (d_var 4) c_nil))))))
    (s_cons (s_for PassesOwn.never rfl (i_enum (d_var 0) T.z_enumerate) (g_tup rfl (gs_cons (g_name 5 nd) (gs_cons (g_name 3 nd) gs_nil)))
    (s_one (s_for PassesOwn.never rfl (i_tup (b_of (d_slice (b_var 0) o_none (o_some (b_var 5))))) (g_name 6 nd)
    (s_one (s_for PassesOwn.never rfl (i_tup (b_of (d_call c_common_by (hr.mono (by omega)) (c_dat (d_var 3) (c_dat (d_var 6) c_nil))))) (g_name 4 nd)
    (s_one (s_set 2 nd (d_call c_with_point (hr.mono (by omega)) (c_dat (d_var 2) (c_dat (d_var 4) c_nil))))))))))
    (s_one (s_ret (d_callT call_tuple_of sTuple (b_var 2) T.z_tuple PyProof.Rows.boot_tuple))))))) hC
theorem bd_all_vertices {k : Nat} {C_with_point C_common_by : Ct} {C : Ct} (T : Txt K mg) {f : Addr} {fd : FuncData} (F : Fun K "all_vertices" "all_vertices" s_all_vertices f fd) (hm : mg "all_vertices" = some (.ref f)) (hb : Binds K fd ["segments", "points"] []) (c_with_point : Cal P W K mg base "with_point" k 2 C_with_point) (c_common_by : Cal P W K mg base "common_by" k 2 C_common_by) (hC : ∀ as S R, as.length = 2 → C as S R → (G_all_vertices C_with_point C_common_by) (ent N_all_vertices as) S { nx := fun _ S' => R .none S', rt := R }) : Cal P W K mg base "all_vertices" (k + 1) 2 C := ⟨f, fd, _, ok_all_vertices T F hm hb c_with_point c_common_by hC, F.kp, hb, hm⟩
/-! all_edges -/
abbrev s_all_edges : Stmt := top 33
abbrev N_all_edges : List Str := ["segments", "vertices", "found", "segment", "some", "pair", "index", "vertex"]
theorem sc_all_edges : FnScope N_all_edges ["segments", "vertices"] (defScope s_all_edges) := ⟨rfl, rfl, rfl, by decide +kernel, rfl, by decide +kernel, by decide +kernel⟩
def G_all_edges (C_is_on_by : Ct) : FS :=
    (sDct 2
    (sSeq (sFor (fiT (fVarB 0)) (gNm 3)
    (sSeq (sSet 4 (fLc (fiE (fVar 1)) [6, 7] (gTp 2 (gsCons (gNm 6) (gsCons (gNm 7) gsNil))) (fCall C_is_on_by (gDat (fVar 3) (gDat (fVar 7) gaNil))) (fVar 6)))
    (sZipPut 2 5 (fVar 4) (fSl (fVarB 4) (fP (fC (.int 1))) fNoP))))
    (sRet (fUn oTuple (fSortK 2)))))
theorem ok_all_edges {k : Nat} {C_is_on_by : Ct} {C : Ct} (T : Txt K mg) {f : Addr} {fd : FuncData} (F : Fun K "all_edges" "all_edges" s_all_edges f fd) (hm : mg "all_edges" = some (.ref f)) (hb : Binds K fd ["segments", "vertices"] []) (c_is_on_by : Cal P W K mg base "is_on_by" k 2 C_is_on_by) (hC : ∀ as S R, as.length = 2 → C as S R → (G_all_edges C_is_on_by) (ent N_all_edges as) S { nx := fun _ S' => R .none S', rt := R }) : Pro P W K mg base (k + 1) f fd ["segments", "vertices"] (spC K 2 C) := by
  have nd := sc_all_edges.nd
  exact dfn_ok F sc_all_edges rfl (by decide) (fun cdv A outer s H E hr =>
    (s_dct 2 nd
    (s_cons (s_for PassesOwn.never rfl (i_tup (b_var 0)) (g_name 3 nd)
    (s_cons (s_setLcD 4 rfl nd (ic_of (i_enum (d_var 1) T.z_enumerate)) (blkOk_by (own := [("index", 6), ("vertex", 7)]) (N := N_all_edges) (sc := defScope s_all_edges) (by decide +kernel)) (by decide) (fun _ _ _ _ _ => (g_tup rfl (gs_cons (g_name 6 nd) (gs_cons (g_name 7 nd) gs_nil)))) (fun _ _ _ _ _ => (p_one (t_val (b_of (d_call c_is_on_by (hr.mono (by omega)) (c_dat (d_var 3) (c_dat (d_var 7) c_nil))))))) (fun _ _ _ _ _ => (d_var 6)) (sw_true rfl rfl rfl (by decide +kernel)))
    (s_one (s_zipPut hr 2 5 PassesOwn.never rfl nd (d_var 4) (d_slice (b_var 4) (o_some (b_of d_int)) o_none) T.z_zip))))
    (s_one (s_ret (d_callT call_tuple_of sTuple (b_of (d_of_n (n_sortedK rfl hr 2 T.z_sorted))) T.z_tuple PyProof.Rows.boot_tuple)))))) hC
theorem bd_all_edges {k : Nat} {C_is_on_by : Ct} {C : Ct} (T : Txt K mg) {f : Addr} {fd : FuncData} (F : Fun K "all_edges" "all_edges" s_all_edges f fd) (hm : mg "all_edges" = some (.ref f)) (hb : Binds K fd ["segments", "vertices"] []) (c_is_on_by : Cal P W K mg base "is_on_by" k 2 C_is_on_by) (hC : ∀ as S R, as.length = 2 → C as S R → (G_all_edges C_is_on_by) (ent N_all_edges as) S { nx := fun _ S' => R .none S', rt := R }) : Cal P W K mg base "all_edges" (k + 1) 2 C := ⟨f, fd, _, ok_all_edges T F hm hb c_is_on_by hC, F.kp, hb, hm⟩
/-! check_points -/
abbrev s_check_points : Stmt := top 36
abbrev N_check_points : List Str := ["value", "index", "each"]
theorem sc_check_points : FnScope N_check_points ["value"] (defScope s_check_points) := ⟨rfl, rfl, rfl, by decide +kernel, rfl, by decide +kernel, by decide +kernel⟩
def G_check_points (C_is_pointed : Ct) : FS :=
    (sSeq (sIf (fOr (fNot (fUn (fun x R => R (.bool (isiD "tuple" x))) (fVarB 0))) (fOp oGt (fUn oLen (fVarB 0)) (fC (.int 24))))
    sNever
    sNext)
    (sFor (fiE (fVar 0)) (gTp 2 (gsCons (gNm 1) (gsCons (gNm 2) gsNil)))
    (sIf (fNot (fCall C_is_pointed (gDat (fVar 2) gaNil)))
    sNever
    sNext)))
theorem ok_check_points {k : Nat} {C_is_pointed : Ct} {C : Ct} (T : Txt K mg) {f : Addr} {fd : FuncData} (F : Fun K "check_points" "check_points" s_check_points f fd) (hm : mg "check_points" = some (.ref f)) (hb : Binds K fd ["value"] []) (c_is_pointed : Cal P W K mg base "is_pointed" k 1 C_is_pointed) (hC : ∀ as S R, as.length = 1 → C as S R → (G_check_points C_is_pointed) (ent N_check_points as) S { nx := fun _ S' => R .none S', rt := R }) : Pro P W K mg base (k + 1) f fd ["value"] (spC K 1 C) := by
  have nd := sc_check_points.nd
  exact dfn_ok F sc_check_points rfl (by decide) (fun cdv A outer s H E hr =>
    (s_cons (s_if (PW.pt (w_or (t_not (t_val (b_of (d_isi isi_tuple (b_var 0) T.z_isinstance T.z_tuple PyProof.Rows.boot_tuple)))) (w_or1 (t_cmp op_gt sIntB (b_of (d_callB call_len sLen (b_var 0) T.z_len PySem.boot_len)) (b_of (d_glob T.g_MOST_SEGMENTS))))))
    (s_one s_never)
    s_nil)
    (s_one (s_for PassesOwn.never rfl (i_enum (d_var 0) T.z_enumerate) (g_tup rfl (gs_cons (g_name 1 nd) (gs_cons (g_name 2 nd) gs_nil)))
    (s_one (s_if (t_not (t_val (b_of (d_call c_is_pointed (hr.mono (by omega)) (c_dat (d_var 2) c_nil)))))
    (s_one s_never)
    s_nil)))))) hC
theorem bd_check_points {k : Nat} {C_is_pointed : Ct} {C : Ct} (T : Txt K mg) {f : Addr} {fd : FuncData} (F : Fun K "check_points" "check_points" s_check_points f fd) (hm : mg "check_points" = some (.ref f)) (hb : Binds K fd ["value"] []) (c_is_pointed : Cal P W K mg base "is_pointed" k 1 C_is_pointed) (hC : ∀ as S R, as.length = 1 → C as S R → (G_check_points C_is_pointed) (ent N_check_points as) S { nx := fun _ S' => R .none S', rt := R }) : Cal P W K mg base "check_points" (k + 1) 1 C := ⟨f, fd, _, ok_check_points T F hm hb c_is_pointed hC, F.kp, hb, hm⟩
/-! check_lines -/
abbrev s_check_lines : Stmt := top 37
abbrev N_check_lines : List Str := ["segments", "points", "index", "each"]
theorem sc_check_lines : FnScope N_check_lines ["segments", "points"] (defScope s_check_lines) := ⟨rfl, rfl, rfl, by decide +kernel, rfl, by decide +kernel, by decide +kernel⟩
def G_check_lines (C_is_segmented C_check_points : Ct) : FS :=
    (sSeq (sIf (fOr (fNot (fUn (fun x R => R (.bool (isiD "tuple" x))) (fVarB 0))) (fOp oGt (fUn oLen (fVarB 0)) (fC (.int 24))))
    sNever
    sNext)
    (sSeq (sFor (fiE (fVar 0)) (gTp 2 (gsCons (gNm 2) (gsCons (gNm 3) gsNil)))
    (sIf (fNot (fCall C_is_segmented (gDat (fVar 3) gaNil)))
    sNever
    sNext))
    (sDrop (fCall C_check_points (gDat (fVar 1) gaNil)))))
theorem ok_check_lines {k : Nat} {C_is_segmented C_check_points : Ct} {C : Ct} (T : Txt K mg) {f : Addr} {fd : FuncData} (F : Fun K "check_lines" "check_lines" s_check_lines f fd) (hm : mg "check_lines" = some (.ref f)) (hb : Binds K fd ["segments", "points"] []) (c_is_segmented : Cal P W K mg base "is_segmented" k 1 C_is_segmented) (c_check_points : Cal P W K mg base "check_points" k 1 C_check_points) (hC : ∀ as S R, as.length = 2 → C as S R → (G_check_lines C_is_segmented C_check_points) (ent N_check_lines as) S { nx := fun _ S' => R .none S', rt := R }) : Pro P W K mg base (k + 1) f fd ["segments", "points"] (spC K 2 C) := by
  have nd := sc_check_lines.nd
  exact dfn_ok F sc_check_lines rfl (by decide) (fun cdv A outer s H E hr =>
    (s_cons (s_if (PW.pt (w_or (t_not (t_val (b_of (d_isi isi_tuple (b_var 0) T.z_isinstance T.z_tuple PyProof.Rows.boot_tuple)))) (w_or1 (t_cmp op_gt sIntB (b_of (d_callB call_len sLen (b_var 0) T.z_len PySem.boot_len)) (b_of (d_glob T.g_MOST_SEGMENTS))))))
    (s_one s_never)
    s_nil)
    (s_cons (s_for PassesOwn.never rfl (i_enum (d_var 0) T.z_enumerate) (g_tup rfl (gs_cons (g_name 2 nd) (gs_cons (g_name 3 nd) gs_nil)))
    (s_one (s_if (t_not (t_val (b_of (d_call c_is_segmented (hr.mono (by omega)) (c_dat (d_var 3) c_nil)))))
    (s_one s_never)
    s_nil)))
    (s_one (s_drop (b_of (d_call c_check_points (hr.mono (by omega)) (c_dat (d_var 1) c_nil)))))))) hC
theorem bd_check_lines {k : Nat} {C_is_segmented C_check_points : Ct} {C : Ct} (T : Txt K mg) {f : Addr} {fd : FuncData} (F : Fun K "check_lines" "check_lines" s_check_lines f fd) (hm : mg "check_lines" = some (.ref f)) (hb : Binds K fd ["segments", "points"] []) (c_is_segmented : Cal P W K mg base "is_segmented" k 1 C_is_segmented) (c_check_points : Cal P W K mg base "check_points" k 1 C_check_points) (hC : ∀ as S R, as.length = 2 → C as S R → (G_check_lines C_is_segmented C_check_points) (ent N_check_lines as) S { nx := fun _ S' => R .none S', rt := R }) : Cal P W K mg base "check_lines" (k + 1) 2 C := ⟨f, fd, _, ok_check_lines T F hm hb c_is_segmented c_check_points hC, F.kp, hb, hm⟩
/-! vertices_of -/
abbrev s_vertices_of : Stmt := top 39
abbrev N_vertices_of : List Str := ["segments", "points"]
theorem sc_vertices_of : FnScope N_vertices_of ["segments", "points"] (defScope s_vertices_of) := ⟨rfl, rfl, rfl, by decide +kernel, rfl, by decide +kernel, by decide +kernel⟩
def G_vertices_of (C_check_lines C_all_vertices : Ct) : FS :=
    (sSeq (sDrop (fCall C_check_lines (gDat (fVar 0) (gDat (fVar 1) gaNil))))
    (sRet (fCall C_all_vertices (gDat (fVar 0) (gDat (fVar 1) gaNil)))))
theorem ok_vertices_of {k : Nat} {C_check_lines C_all_vertices : Ct} {C : Ct} (T : Txt K mg) {f : Addr} {fd : FuncData} (F : Fun K "vertices_of" "vertices_of" s_vertices_of f fd) (hm : mg "vertices_of" = some (.ref f)) (hb : Binds K fd ["segments", "points"] []) (c_check_lines : Cal P W K mg base "check_lines" k 2 C_check_lines) (c_all_vertices : Cal P W K mg base "all_vertices" k 2 C_all_vertices) (hC : ∀ as S R, as.length = 2 → C as S R → (G_vertices_of C_check_lines C_all_vertices) (ent N_vertices_of as) S { nx := fun _ S' => R .none S', rt := R }) : Pro P W K mg base (k + 1) f fd ["segments", "points"] (spC K 2 C) := by
  have nd := sc_vertices_of.nd
  exact dfn_ok F sc_vertices_of rfl (by decide) (fun cdv A outer s H E hr =>
    (s_cons (s_drop (b_of (d_call c_check_lines (hr.mono (by omega)) (c_dat (d_var 0) (c_dat (d_var 1) c_nil)))))
    (s_one (s_ret (d_call c_all_vertices (hr.mono (by omega)) (c_dat (d_var 0) (c_dat (d_var 1) c_nil))))))) hC
theorem bd_vertices_of {k : Nat} {C_check_lines C_all_vertices : Ct} {C : Ct} (T : Txt K mg) {f : Addr} {fd : FuncData} (F : Fun K "vertices_of" "vertices_of" s_vertices_of f fd) (hm : mg "vertices_of" = some (.ref f)) (hb : Binds K fd ["segments", "points"] []) (c_check_lines : Cal P W K mg base "check_lines" k 2 C_check_lines) (c_all_vertices : Cal P W K mg base "all_vertices" k 2 C_all_vertices) (hC : ∀ as S R, as.length = 2 → C as S R → (G_vertices_of C_check_lines C_all_vertices) (ent N_vertices_of as) S { nx := fun _ S' => R .none S', rt := R }) : Cal P W K mg base "vertices_of" (k + 1) 2 C := ⟨f, fd, _, ok_vertices_of T F hm hb c_check_lines c_all_vertices hC, F.kp, hb, hm⟩
/-! edges_of -/
abbrev s_edges_of : Stmt := top 40
abbrev N_edges_of : List Str := ["segments", "points"]
theorem sc_edges_of : FnScope N_edges_of ["segments", "points"] (defScope s_edges_of) := ⟨rfl, rfl, rfl, by decide +kernel, rfl, by decide +kernel, by decide +kernel⟩
def G_edges_of (C_check_lines C_all_edges C_all_vertices : Ct) : FS :=
    (sSeq (sDrop (fCall C_check_lines (gDat (fVar 0) (gDat (fVar 1) gaNil))))
    (sRet (fCall C_all_edges (gDat (fVar 0) (gDat (fCall C_all_vertices (gDat (fVar 0) (gDat (fVar 1) gaNil))) gaNil)))))
theorem ok_edges_of {k : Nat} {C_check_lines C_all_edges C_all_vertices : Ct} {C : Ct} (T : Txt K mg) {f : Addr} {fd : FuncData} (F : Fun K "edges_of" "edges_of" s_edges_of f fd) (hm : mg "edges_of" = some (.ref f)) (hb : Binds K fd ["segments", "points"] []) (c_check_lines : Cal P W K mg base "check_lines" k 2 C_check_lines) (c_all_edges : Cal P W K mg base "all_edges" k 2 C_all_edges) (c_all_vertices : Cal P W K mg base "all_vertices" k 2 C_all_vertices) (hC : ∀ as S R, as.length = 2 → C as S R → (G_edges_of C_check_lines C_all_edges C_all_vertices) (ent N_edges_of as) S { nx := fun _ S' => R .none S', rt := R }) : Pro P W K mg base (k + 1) f fd ["segments", "points"] (spC K 2 C) := by
  have nd := sc_edges_of.nd
  exact dfn_ok F sc_edges_of rfl (by decide) (fun cdv A outer s H E hr =>
    (s_cons (s_drop (b_of (d_call c_check_lines (hr.mono (by omega)) (c_dat (d_var 0) (c_dat (d_var 1) c_nil)))))
    (s_one (s_ret (d_call c_all_edges (hr.mono (by omega)) (c_dat (d_var 0) (c_dat (d_call c_all_vertices (hr.mono (by omega)) (c_dat (d_var 0) (c_dat (d_var 1) c_nil))) c_nil))))))) hC
theorem bd_edges_of {k : Nat} {C_check_lines C_all_edges C_all_vertices : Ct} {C : Ct} (T : Txt K mg) {f : Addr} {fd : FuncData} (F : Fun K "edges_of" "edges_of" s_edges_of f fd) (hm : mg "edges_of" = some (.ref f)) (hb : Binds K fd ["segments", "points"] []) (c_check_lines : Cal P W K mg base "check_lines" k 2 C_check_lines) (c_all_edges : Cal P W K mg base "all_edges" k 2 C_all_edges) (c_all_vertices : Cal P W K mg base "all_vertices" k 2 C_all_vertices) (hC : ∀ as S R, as.length = 2 → C as S R → (G_edges_of C_check_lines C_all_edges C_all_vertices) (ent N_edges_of as) S { nx := fun _ S' => R .none S', rt := R }) : Cal P W K mg base "edges_of" (k + 1) 2 C := ⟨f, fd, _, ok_edges_of T F hm hb c_check_lines c_all_edges c_all_vertices hC, F.kp, hb, hm⟩
/-! _law_spring -/
abbrev s_law_spring : Stmt := top 42
abbrev N_law_spring : List Str := ["_law_script", "_law_turn", "_law_mixed", "_law_cell", "_law_own_here"]
theorem sc_law_spring : FnScope N_law_spring ["_law_script", "_law_turn"] (defScope s_law_spring) := ⟨rfl, rfl, rfl, by decide +kernel, rfl, by decide +kernel, by decide +kernel⟩
def G_law_spring : FS :=
    (sSeq (sSet 2 (fOp oAdd (fC (.int 855091)) (fOp (oIC CMulA fun i j => .int (i * j)) (fC (.int 9241)) (fVarB 1))))
    (sSeq (sFor (fiL (fSl (fVarB 0) fNoP (fP (fC (.int 9))))) (gNm 3)
    (sSet 2 (fOp (oIC (fun _ j => 0 < j) fun i j => .int (i % j)) (fUn oInt (fOp oAdd (fOp oAdd (fOp (oIC CMulA fun i j => .int (i * j)) (fVarB 2) (fC (.int 58027))) (fOp (oIC (fun _ j => 0 < j) fun i j => .int (i % j)) (fUn oInt (fVarB 3)) (fC (.int 2147483587)))) (fC (.int 19)))) (fC (.int 2147483629)))))
    (sSeq (sSet 4 (fIf (fOp oLt (fVarB 1) (fUn oLen (fVarB 0))) (fUn oInt (fOp oIx (fVarB 0) (fVarB 1))) (fC (.int 0))))
    (sSeq (sSet 2 (fOp (oIC (fun _ j => 0 < j) fun i j => .int (i % j)) (fUn oInt (fOp oAdd (fOp oAdd (fOp (oIC CMulA fun i j => .int (i * j)) (fVarB 2) (fC (.int 61))) (fOp (oIC CMulA fun i j => .int (i * j)) (fOp (oIC (fun _ j => 0 < j) fun i j => .int (i % j)) (fUn oInt (fVarB 4)) (fC (.int 2147483587))) (fC (.int 30011)))) (fC (.int 7)))) (fC (.int 2147483629))))
    (sRetNew (fLst (fCons (fIf (fOr (fOp oLt (fVarB 4) (fC (.int 0))) (fOp oGe (fVarB 4) (fOp (oIC CPow fun i j => .int (i ^ j.toNat)) (fC (.int 10)) (fC (.int 15))))) (fUn oAbs (fVarB 4)) (fC (.int 0))) (fCons (fVar 2) (fCons (fC (.int 0)) fNil)))))))))
theorem bd_law_spring {k : Nat} {C : Ct} (T : Txt K mg) {f : Addr} {fd : FuncData} (F : Fun K "_law_spring" "_law_spring" s_law_spring f fd) (hm : mg "_law_spring" = some (.ref f)) (hb : Binds K fd ["_law_script", "_law_turn"] []) (hC : ∀ as S R, as.length = 2 → C as S R → G_law_spring (ent N_law_spring as) S { nx := fun _ _ => False, rt := fun _ _ => False, rn := fun ds S' => R (.list ds) S' }) : CalN P W K mg base "_law_spring" (k + 1) 2 C := by
  have nd := sc_law_spring.nd
  exact dfnN F sc_law_spring hm hb rfl (by decide) (fun cdv A outer s H E hr =>
    (s_cons (s_set 2 nd (d_add (b_of d_int) (b_of (d_mul (b_of d_int) (b_var 1)))))
    (s_cons (s_for PassesOwn.never rfl (i_list (d_slice (b_var 0) o_none (o_some (b_of d_int)))) (g_name 3 nd)
    (s_one (s_set 2 nd (d_mod (b_of (d_callT call_int1 sIntOf (b_of (d_add (b_of (d_add (b_of (d_mul (b_var 2) (b_of d_int))) (b_of (d_mod (b_of (d_callT call_int1 sIntOf (b_var 3) T.z_int PyProof.Rows.boot_int)) (b_of d_int))))) (b_of d_int))) T.z_int PyProof.Rows.boot_int)) (b_of d_int)))))
    (s_cons (s_set 4 nd (d_if (t_cmp op_ltA sLt (b_var 1) (b_of (d_callB call_len sLen (b_var 0) T.z_len PySem.boot_len))) (d_callT call_int1 sIntOf (b_of (d_ix (b_var 0) (b_var 1))) T.z_int PyProof.Rows.boot_int) d_int))
    (s_cons (s_set 2 nd (d_mod (b_of (d_callT call_int1 sIntOf (b_of (d_add (b_of (d_add (b_of (d_mul (b_var 2) (b_of d_int))) (b_of (d_mul (b_of (d_mod (b_of (d_callT call_int1 sIntOf (b_var 4) T.z_int PyProof.Rows.boot_int)) (b_of d_int))) (b_of d_int))))) (b_of d_int))) T.z_int PyProof.Rows.boot_int)) (b_of d_int)))
    (s_one (s_retNew (n_lst (a_cons (d_if (PW.pt (w_or (t_cmp op_ltA sLt (b_var 4) (b_of d_int)) (w_or1 (t_cmp op_ge sIntB (b_var 4) (b_of (d_pow (b_of d_int) (b_of d_int))))))) (d_callB call_abs sAbs (b_var 4) T.z_abs PyProof.Rows.boot_abs) d_int) (a_cons (d_var 2) (a_cons d_int a_nil))))))))))) hC
/-! _law_draw -/
abbrev s_law_draw : Stmt := top 43
abbrev N_law_draw : List Str := ["_law_spring_here", "_law_many", "_law_digit", "_law_seed"]
theorem sc_law_draw : FnScope N_law_draw ["_law_spring_here", "_law_many"] (defScope s_law_draw) := ⟨rfl, rfl, rfl, by decide +kernel, rfl, by decide +kernel, by decide +kernel⟩
def G_law_draw : FS :=
    (sSeq (sIf (fOp oGt (fWix 0 (fC (.int 0))) (fC (.int 0)))
    (sSeq (sWdiv 0 2 (fC (.int 0)) (fOp oDivmod (fWix 0 (fC (.int 0))) (fVarB 1)))
    (sRetV 2))
    sNext)
    (sSeq (sWput 0 (fC (.int 2)) (fOp oAdd (fWix 0 (fC (.int 2))) (fC (.int 1))))
    (sSeq (sSet 3 (fOp (oIC (fun _ j => 0 < j) fun i j => .int (i % j)) (fUn oInt (fOp oAdd (fWix 0 (fC (.int 1))) (fOp (oIC CMulA fun i j => .int (i * j)) (fC (.int 70003)) (fWix 0 (fC (.int 2)))))) (fC (.int 2147483629))))
    (sSeq (sWput 0 (fC (.int 1)) (fOp (oIC (fun _ j => 0 < j) fun i j => .int (i % j)) (fUn oInt (fOp oAdd (fOp (oIC CMulA fun i j => .int (i * j)) (fVarB 3) (fOp oAdd (fOp (oIC (fun _ j => 0 < j) fun i j => .int (i % j)) (fUn oInt (fVarB 3)) (fC (.int 6007))) (fC (.int 50021)))) (fOp (oIC CMulA fun i j => .int (i * j)) (fC (.int 29)) (fWix 0 (fC (.int 2)))))) (fC (.int 2147483629))))
    (sRet (fOp (oIC (fun _ j => 0 < j) fun i j => .int (i % j)) (fUn oInt (fOp (oIC CDivW fun i j => .int (i / j)) (fWix 0 (fC (.int 1))) (fC (.int 769)))) (fVarB 1)))))))
theorem ok_law_draw {k : Nat} {C : Ct} (T : Txt K mg) {f : Addr} {fd : FuncData} (F : Fun K "_law_draw" "_law_draw" s_law_draw f fd) (hm : mg "_law_draw" = some (.ref f)) (hb : Binds K fd ["_law_spring_here", "_law_many"] []) (hC : ∀ as S R, as.length = 2 → C as S R → G_law_draw (ent N_law_draw as) S { nx := fun _ S' => R .none S', rt := R }) : Pro P W K mg base (k + 1) f fd ["_law_spring_here", "_law_many"] (spC K 2 C) := by
  have nd := sc_law_draw.nd
  exact dfn_ok F sc_law_draw rfl (by decide) (fun cdv A outer s H E hr =>
    (s_cons (s_if (t_cmp op_gt sIntB (b_of (d_wix 0 (b_of d_int))) (b_of d_int))
    (s_cons (s_wdiv 0 2 nd rfl (b_of (d_callB2 call_divmod sDivmod (b_of (d_wix 0 (b_of d_int))) (b_var 1) T.z_divmod PyProof.Rows.boot_divmod)) (b_of d_int))
    (s_one (s_retV 2)))
    s_nil)
    (s_cons (s_wput 0 (b_of (d_add (b_of (d_wix 0 (b_of d_int))) (b_of d_int))) (b_of d_int))
    (s_cons (s_set 3 nd (d_mod (b_of (d_callT call_int1 sIntOf (b_of (d_add (b_of (d_wix 0 (b_of d_int))) (b_of (d_mul (b_of d_int) (b_of (d_wix 0 (b_of d_int))))))) T.z_int PyProof.Rows.boot_int)) (b_of d_int)))
    (s_cons (s_wput 0 (b_of (d_mod (b_of (d_callT call_int1 sIntOf (b_of (d_add (b_of (d_mul (b_var 3) (b_of (d_add (b_of (d_mod (b_of (d_callT call_int1 sIntOf (b_var 3) T.z_int PyProof.Rows.boot_int)) (b_of d_int))) (b_of d_int))))) (b_of (d_mul (b_of d_int) (b_of (d_wix 0 (b_of d_int))))))) T.z_int PyProof.Rows.boot_int)) (b_of d_int))) (b_of d_int))
    (s_one (s_ret (d_mod (b_of (d_callT call_int1 sIntOf (b_of (d_fdiv (b_of (d_wix 0 (b_of d_int))) (b_of d_int))) T.z_int PyProof.Rows.boot_int)) (b_var 1))))))))) hC
theorem bd_law_draw {k : Nat} {C : Ct} (T : Txt K mg) {f : Addr} {fd : FuncData} (F : Fun K "_law_draw" "_law_draw" s_law_draw f fd) (hm : mg "_law_draw" = some (.ref f)) (hb : Binds K fd ["_law_spring_here", "_law_many"] []) (hC : ∀ as S R, as.length = 2 → C as S R → G_law_draw (ent N_law_draw as) S { nx := fun _ S' => R .none S', rt := R }) : Cal P W K mg base "_law_draw" (k + 1) 2 C := ⟨f, fd, _, ok_law_draw T F hm hb hC, F.kp, hb, hm⟩
/-! _law_one_of -/
abbrev s_law_one_of : Stmt := top 44
abbrev N_law_one_of : List Str := ["_law_spring_here", "_law_some"]
theorem sc_law_one_of : FnScope N_law_one_of ["_law_spring_here", "_law_some"] (defScope s_law_one_of) := ⟨rfl, rfl, rfl, by decide +kernel, rfl, by decide +kernel, by decide +kernel⟩
def G_law_one_of (C_law_draw : Ct) : FS :=
    (sRet (fOp oIx (fVarB 1) (fCall C_law_draw (gWel 0 (gDat (fUn oLen (fVarB 1)) gaNil)))))
theorem ok_law_one_of {k : Nat} {C_law_draw : Ct} {C : Ct} (T : Txt K mg) {f : Addr} {fd : FuncData} (F : Fun K "_law_one_of" "_law_one_of" s_law_one_of f fd) (hm : mg "_law_one_of" = some (.ref f)) (hb : Binds K fd ["_law_spring_here", "_law_some"] []) (c_law_draw : Cal P W K mg base "_law_draw" k 2 C_law_draw) (hC : ∀ as S R, as.length = 2 → C as S R → (G_law_one_of C_law_draw) (ent N_law_one_of as) S { nx := fun _ S' => R .none S', rt := R }) : Pro P W K mg base (k + 1) f fd ["_law_spring_here", "_law_some"] (spC K 2 C) := by
  have nd := sc_law_one_of.nd
  exact dfn_ok F sc_law_one_of rfl (by decide) (fun cdv A outer s H E hr =>
    (s_one (s_ret (d_ix (b_var 1) (b_of (d_call c_law_draw (hr.mono (by omega)) (c_wel 0 (c_dat (d_callB call_len sLen (b_var 1) T.z_len PySem.boot_len) c_nil)))))))) hC
theorem bd_law_one_of {k : Nat} {C_law_draw : Ct} {C : Ct} (T : Txt K mg) {f : Addr} {fd : FuncData} (F : Fun K "_law_one_of" "_law_one_of" s_law_one_of f fd) (hm : mg "_law_one_of" = some (.ref f)) (hb : Binds K fd ["_law_spring_here", "_law_some"] []) (c_law_draw : Cal P W K mg base "_law_draw" k 2 C_law_draw) (hC : ∀ as S R, as.length = 2 → C as S R → (G_law_one_of C_law_draw) (ent N_law_one_of as) S { nx := fun _ S' => R .none S', rt := R }) : Cal P W K mg base "_law_one_of" (k + 1) 2 C := ⟨f, fd, _, ok_law_one_of T F hm hb c_law_draw hC, F.kp, hb, hm⟩
/-! _law_divisor -/
abbrev s_law_divisor : Stmt := top 45
abbrev N_law_divisor : List Str := ["_law_one", "_law_two", "_law_far", "_law_rest"]
theorem sc_law_divisor : FnScope N_law_divisor ["_law_one", "_law_two"] (defScope s_law_divisor) := ⟨rfl, rfl, rfl, by decide +kernel, rfl, by decide +kernel, by decide +kernel⟩
def G_law_divisor : FS :=
    (sSeq (sPar 2 3 (fCons (fUn oAbs (fVarB 0)) (fCons (fUn oAbs (fVarB 1)) fNil)))
    (sSeq (sWhile (fOp oNe (fVarB 3) (fC (.int 0)))
    (sPar 2 3 (fCons (fVar 3) (fCons (fOp (oIC (fun _ j => 0 < j) fun i j => .int (i % j)) (fUn oInt (fVarB 2)) (fVarB 3)) fNil))))
    (sRetV 2)))
theorem ok_law_divisor {k : Nat} {C : Ct} (T : Txt K mg) {f : Addr} {fd : FuncData} (F : Fun K "_law_divisor" "_law_divisor" s_law_divisor f fd) (hm : mg "_law_divisor" = some (.ref f)) (hb : Binds K fd ["_law_one", "_law_two"] []) (hC : ∀ as S R, as.length = 2 → C as S R → G_law_divisor (ent N_law_divisor as) S { nx := fun _ S' => R .none S', rt := R }) : Pro P W K mg base (k + 1) f fd ["_law_one", "_law_two"] (spC K 2 C) := by
  have nd := sc_law_divisor.nd
  exact dfn_ok F sc_law_divisor rfl (by decide) (fun cdv A outer s H E hr =>
    (s_cons (s_par 2 3 rfl nd (a_cons (d_callB call_abs sAbs (b_var 0) T.z_abs PyProof.Rows.boot_abs) (a_cons (d_callB call_abs sAbs (b_var 1) T.z_abs PyProof.Rows.boot_abs) a_nil)))
    (s_cons (s_while PassesOwn.never (t_cmp (op_neH hr) sNe (b_var 3) (b_of d_int))
    (s_one (s_par 2 3 rfl nd (a_cons (d_var 3) (a_cons (d_mod (b_of (d_callT call_int1 sIntOf (b_var 2) T.z_int PyProof.Rows.boot_int)) (b_var 3)) a_nil)))))
    (s_one (s_retV 2))))) hC
theorem bd_law_divisor {k : Nat} {C : Ct} (T : Txt K mg) {f : Addr} {fd : FuncData} (F : Fun K "_law_divisor" "_law_divisor" s_law_divisor f fd) (hm : mg "_law_divisor" = some (.ref f)) (hb : Binds K fd ["_law_one", "_law_two"] []) (hC : ∀ as S R, as.length = 2 → C as S R → G_law_divisor (ent N_law_divisor as) S { nx := fun _ S' => R .none S', rt := R }) : Cal P W K mg base "_law_divisor" (k + 1) 2 C := ⟨f, fd, _, ok_law_divisor T F hm hb hC, F.kp, hb, hm⟩
/-! _law_part -/
abbrev s_law_part : Stmt := top 46
abbrev N_law_part : List Str := ["_law_top", "_law_base", "_law_far"]
theorem sc_law_part : FnScope N_law_part ["_law_top", "_law_base"] (defScope s_law_part) := ⟨rfl, rfl, rfl, by decide +kernel, rfl, by decide +kernel, by decide +kernel⟩
def G_law_part (C_law_divisor : Ct) : FS :=
    (sSeq (sSet 2 (fIf (fOp oGt (fVarB 1) (fC (.int 0))) (fCall C_law_divisor (gDat (fVar 0) (gDat (fVar 1) gaNil))) (fOp (oI fun i j => .int (i - j)) (fC (.int 0)) (fCall C_law_divisor (gDat (fVar 0) (gDat (fVar 1) gaNil))))))
    (sRet (fTup (fCons (fOp (oIC CDivW fun i j => .int (i / j)) (fVarB 0) (fVarB 2)) (fCons (fOp (oIC CDivW fun i j => .int (i / j)) (fVarB 1) (fVarB 2)) fNil)))))
theorem ok_law_part {k : Nat} {C_law_divisor : Ct} {C : Ct} (T : Txt K mg) {f : Addr} {fd : FuncData} (F : Fun K "_law_part" "_law_part" s_law_part f fd) (hm : mg "_law_part" = some (.ref f)) (hb : Binds K fd ["_law_top", "_law_base"] []) (c_law_divisor : Cal P W K mg base "_law_divisor" k 2 C_law_divisor) (hC : ∀ as S R, as.length = 2 → C as S R → (G_law_part C_law_divisor) (ent N_law_part as) S { nx := fun _ S' => R .none S', rt := R }) : Pro P W K mg base (k + 1) f fd ["_law_top", "_law_base"] (spC K 2 C) := by
  have nd := sc_law_part.nd
  exact dfn_ok F sc_law_part rfl (by decide) (fun cdv A outer s H E hr =>
    (s_cons (s_set 2 nd (d_if (t_cmp op_gt sIntB (b_var 1) (b_of d_int)) (d_call c_law_divisor (hr.mono (by omega)) (c_dat (d_var 0) (c_dat (d_var 1) c_nil))) (d_sub (b_of d_int) (b_of (d_call c_law_divisor (hr.mono (by omega)) (c_dat (d_var 0) (c_dat (d_var 1) c_nil)))))))
    (s_one (s_ret (d_tup (a_cons (d_fdiv (b_var 0) (b_var 2)) (a_cons (d_fdiv (b_var 1) (b_var 2)) a_nil))))))) hC
theorem bd_law_part {k : Nat} {C_law_divisor : Ct} {C : Ct} (T : Txt K mg) {f : Addr} {fd : FuncData} (F : Fun K "_law_part" "_law_part" s_law_part f fd) (hm : mg "_law_part" = some (.ref f)) (hb : Binds K fd ["_law_top", "_law_base"] []) (c_law_divisor : Cal P W K mg base "_law_divisor" k 2 C_law_divisor) (hC : ∀ as S R, as.length = 2 → C as S R → (G_law_part C_law_divisor) (ent N_law_part as) S { nx := fun _ S' => R .none S', rt := R }) : Cal P W K mg base "_law_part" (k + 1) 2 C := ⟨f, fd, _, ok_law_part T F hm hb c_law_divisor hC, F.kp, hb, hm⟩
/-! _law_place -/
abbrev s_law_place : Stmt := top 47
abbrev N_law_place : List Str := ["_law_x", "_law_y", "_law_w", "_law_far"]
theorem sc_law_place : FnScope N_law_place ["_law_x", "_law_y", "_law_w"] (defScope s_law_place) := ⟨rfl, rfl, rfl, by decide +kernel, rfl, by decide +kernel, by decide +kernel⟩
def G_law_place (C_law_divisor : Ct) : FS :=
    (sSeq (sSet 3 (fIf (fOp oGt (fVarB 2) (fC (.int 0))) (fCall C_law_divisor (gDat (fCall C_law_divisor (gDat (fVar 0) (gDat (fVar 1) gaNil))) (gDat (fVar 2) gaNil))) (fOp (oI fun i j => .int (i - j)) (fC (.int 0)) (fCall C_law_divisor (gDat (fCall C_law_divisor (gDat (fVar 0) (gDat (fVar 1) gaNil))) (gDat (fVar 2) gaNil))))))
    (sRet (fTup (fCons (fOp (oIC CDivZ fun i j => .int (i.fdiv j)) (fVarB 0) (fVarB 3)) (fCons (fOp (oIC CDivZ fun i j => .int (i.fdiv j)) (fVarB 1) (fVarB 3)) (fCons (fOp (oIC CDivZ fun i j => .int (i.fdiv j)) (fVarB 2) (fVarB 3)) fNil))))))
theorem ok_law_place {k : Nat} {C_law_divisor : Ct} {C : Ct} (T : Txt K mg) {f : Addr} {fd : FuncData} (F : Fun K "_law_place" "_law_place" s_law_place f fd) (hm : mg "_law_place" = some (.ref f)) (hb : Binds K fd ["_law_x", "_law_y", "_law_w"] []) (c_law_divisor : Cal P W K mg base "_law_divisor" k 2 C_law_divisor) (hC : ∀ as S R, as.length = 3 → C as S R → (G_law_place C_law_divisor) (ent N_law_place as) S { nx := fun _ S' => R .none S', rt := R }) : Pro P W K mg base (k + 1) f fd ["_law_x", "_law_y", "_law_w"] (spC K 3 C) := by
  have nd := sc_law_place.nd
  exact dfn_ok F sc_law_place rfl (by decide) (fun cdv A outer s H E hr =>
    (s_cons (s_set 3 nd (d_if (t_cmp op_gt sIntB (b_var 2) (b_of d_int)) (d_call c_law_divisor (hr.mono (by omega)) (c_dat (d_call c_law_divisor (hr.mono (by omega)) (c_dat (d_var 0) (c_dat (d_var 1) c_nil))) (c_dat (d_var 2) c_nil))) (d_sub (b_of d_int) (b_of (d_call c_law_divisor (hr.mono (by omega)) (c_dat (d_call c_law_divisor (hr.mono (by omega)) (c_dat (d_var 0) (c_dat (d_var 1) c_nil))) (c_dat (d_var 2) c_nil)))))))
    (s_one (s_ret (d_tup (a_cons (d_fdivZ (b_var 0) (b_var 3)) (a_cons (d_fdivZ (b_var 1) (b_var 3)) (a_cons (d_fdivZ (b_var 2) (b_var 3)) a_nil)))))))) hC
theorem bd_law_place {k : Nat} {C_law_divisor : Ct} {C : Ct} (T : Txt K mg) {f : Addr} {fd : FuncData} (F : Fun K "_law_place" "_law_place" s_law_place f fd) (hm : mg "_law_place" = some (.ref f)) (hb : Binds K fd ["_law_x", "_law_y", "_law_w"] []) (c_law_divisor : Cal P W K mg base "_law_divisor" k 2 C_law_divisor) (hC : ∀ as S R, as.length = 3 → C as S R → (G_law_place C_law_divisor) (ent N_law_place as) S { nx := fun _ S' => R .none S', rt := R }) : Cal P W K mg base "_law_place" (k + 1) 3 C := ⟨f, fd, _, ok_law_place T F hm hb c_law_divisor hC, F.kp, hb, hm⟩
/-! _law_told -/
abbrev s_law_told : Stmt := top 48
abbrev N_law_told : List Str := ["_law_place_here"]
theorem sc_law_told : FnScope N_law_told ["_law_place_here"] (defScope s_law_told) := ⟨rfl, rfl, rfl, by decide +kernel, rfl, by decide +kernel, by decide +kernel⟩
def G_law_told (C_law_part : Ct) : FS :=
    (sRet (fTup (fCons (fCall C_law_part (gDat (fOp oIx (fVarB 0) (fC (.int 0))) (gDat (fOp oIx (fVarB 0) (fC (.int 2))) gaNil))) (fCons (fCall C_law_part (gDat (fOp oIx (fVarB 0) (fC (.int 1))) (gDat (fOp oIx (fVarB 0) (fC (.int 2))) gaNil))) fNil))))
theorem ok_law_told {k : Nat} {C_law_part : Ct} {C : Ct} (T : Txt K mg) {f : Addr} {fd : FuncData} (F : Fun K "_law_told" "_law_told" s_law_told f fd) (hm : mg "_law_told" = some (.ref f)) (hb : Binds K fd ["_law_place_here"] []) (c_law_part : Cal P W K mg base "_law_part" k 2 C_law_part) (hC : ∀ as S R, as.length = 1 → C as S R → (G_law_told C_law_part) (ent N_law_told as) S { nx := fun _ S' => R .none S', rt := R }) : Pro P W K mg base (k + 1) f fd ["_law_place_here"] (spC K 1 C) := by
  have nd := sc_law_told.nd
  exact dfn_ok F sc_law_told rfl (by decide) (fun cdv A outer s H E hr =>
    (s_one (s_ret (d_tup (a_cons (d_call c_law_part (hr.mono (by omega)) (c_dat (d_ix (b_var 0) (b_of d_int)) (c_dat (d_ix (b_var 0) (b_of d_int)) c_nil))) (a_cons (d_call c_law_part (hr.mono (by omega)) (c_dat (d_ix (b_var 0) (b_of d_int)) (c_dat (d_ix (b_var 0) (b_of d_int)) c_nil))) a_nil)))))) hC
theorem bd_law_told {k : Nat} {C_law_part : Ct} {C : Ct} (T : Txt K mg) {f : Addr} {fd : FuncData} (F : Fun K "_law_told" "_law_told" s_law_told f fd) (hm : mg "_law_told" = some (.ref f)) (hb : Binds K fd ["_law_place_here"] []) (c_law_part : Cal P W K mg base "_law_part" k 2 C_law_part) (hC : ∀ as S R, as.length = 1 → C as S R → (G_law_told C_law_part) (ent N_law_told as) S { nx := fun _ S' => R .none S', rt := R }) : Cal P W K mg base "_law_told" (k + 1) 1 C := ⟨f, fd, _, ok_law_told T F hm hb c_law_part hC, F.kp, hb, hm⟩
/-! _law_own -/
abbrev s_law_own : Stmt := top 49
abbrev N_law_own : List Str := ["_law_told_here", "_law_a", "_law_b", "_law_c", "_law_d"]
theorem sc_law_own : FnScope N_law_own ["_law_told_here"] (defScope s_law_own) := ⟨rfl, rfl, rfl, by decide +kernel, rfl, by decide +kernel, by decide +kernel⟩
def G_law_own (C_law_place : Ct) : FS :=
    (sSeq (sAsg (fVar 0) (gTp 2 (gsCons (gTp 2 (gsCons (gNm 1) (gsCons (gNm 2) gsNil))) (gsCons (gTp 2 (gsCons (gNm 3) (gsCons (gNm 4) gsNil))) gsNil))))
    (sRet (fCall C_law_place (gDat (fOp (oIC CMulA fun i j => .int (i * j)) (fVarB 1) (fVarB 4)) (gDat (fOp (oIC CMulA fun i j => .int (i * j)) (fVarB 3) (fVarB 2)) (gDat (fOp (oIC CMulA fun i j => .int (i * j)) (fVarB 2) (fVarB 4)) gaNil))))))
theorem ok_law_own {k : Nat} {C_law_place : Ct} {C : Ct} (T : Txt K mg) {f : Addr} {fd : FuncData} (F : Fun K "_law_own" "_law_own" s_law_own f fd) (hm : mg "_law_own" = some (.ref f)) (hb : Binds K fd ["_law_told_here"] []) (c_law_place : Cal P W K mg base "_law_place" k 3 C_law_place) (hC : ∀ as S R, as.length = 1 → C as S R → (G_law_own C_law_place) (ent N_law_own as) S { nx := fun _ S' => R .none S', rt := R }) : Pro P W K mg base (k + 1) f fd ["_law_told_here"] (spC K 1 C) := by
  have nd := sc_law_own.nd
  exact dfn_ok F sc_law_own rfl (by decide) (fun cdv A outer s H E hr =>
    (s_cons (s_asg (d_var 0) (g_tup rfl (gs_cons (g_tup rfl (gs_cons (g_name 1 nd) (gs_cons (g_name 2 nd) gs_nil))) (gs_cons (g_tup rfl (gs_cons (g_name 3 nd) (gs_cons (g_name 4 nd) gs_nil))) gs_nil))))
    (s_one (s_ret (d_call c_law_place (hr.mono (by omega)) (c_dat (d_mul (b_var 1) (b_var 4)) (c_dat (d_mul (b_var 3) (b_var 2)) (c_dat (d_mul (b_var 2) (b_var 4)) c_nil)))))))) hC
theorem bd_law_own {k : Nat} {C_law_place : Ct} {C : Ct} (T : Txt K mg) {f : Addr} {fd : FuncData} (F : Fun K "_law_own" "_law_own" s_law_own f fd) (hm : mg "_law_own" = some (.ref f)) (hb : Binds K fd ["_law_told_here"] []) (c_law_place : Cal P W K mg base "_law_place" k 3 C_law_place) (hC : ∀ as S R, as.length = 1 → C as S R → (G_law_own C_law_place) (ent N_law_own as) S { nx := fun _ S' => R .none S', rt := R }) : Cal P W K mg base "_law_own" (k + 1) 1 C := ⟨f, fd, _, ok_law_own T F hm hb c_law_place hC, F.kp, hb, hm⟩
/-! _law_side -/
abbrev s_law_side : Stmt := top 50
abbrev N_law_side : List Str := ["_law_p", "_law_q", "_law_r", "_law_high"]
theorem sc_law_side : FnScope N_law_side ["_law_p", "_law_q", "_law_r"] (defScope s_law_side) := ⟨rfl, rfl, rfl, by decide +kernel, rfl, by decide +kernel, by decide +kernel⟩
def G_law_side : FS :=
    (sSeq (sSet 3 (fOp (oI fun i j => .int (i - j)) (fOp (oIC CMulA fun i j => .int (i * j)) (fOp oIx (fVarB 0) (fC (.int 0))) (fOp (oI fun i j => .int (i - j)) (fOp (oIC CMulA fun i j => .int (i * j)) (fOp oIx (fVarB 1) (fC (.int 1))) (fOp oIx (fVarB 2) (fC (.int 2)))) (fOp (oIC CMulA fun i j => .int (i * j)) (fOp oIx (fVarB 2) (fC (.int 1))) (fOp oIx (fVarB 1) (fC (.int 2)))))) (fOp (oIC CMulA fun i j => .int (i * j)) (fOp oIx (fVarB 0) (fC (.int 1))) (fOp (oI fun i j => .int (i - j)) (fOp (oIC CMulA fun i j => .int (i * j)) (fOp oIx (fVarB 1) (fC (.int 0))) (fOp oIx (fVarB 2) (fC (.int 2)))) (fOp (oIC CMulA fun i j => .int (i * j)) (fOp oIx (fVarB 2) (fC (.int 0))) (fOp oIx (fVarB 1) (fC (.int 2))))))))
    (sRet (fOp oAdd (fVarB 3) (fOp (oIC CMulA fun i j => .int (i * j)) (fOp oIx (fVarB 0) (fC (.int 2))) (fOp (oI fun i j => .int (i - j)) (fOp (oIC CMulA fun i j => .int (i * j)) (fOp oIx (fVarB 1) (fC (.int 0))) (fOp oIx (fVarB 2) (fC (.int 1)))) (fOp (oIC CMulA fun i j => .int (i * j)) (fOp oIx (fVarB 2) (fC (.int 0))) (fOp oIx (fVarB 1) (fC (.int 1)))))))))
theorem ok_law_side {k : Nat} {C : Ct} (T : Txt K mg) {f : Addr} {fd : FuncData} (F : Fun K "_law_side" "_law_side" s_law_side f fd) (hm : mg "_law_side" = some (.ref f)) (hb : Binds K fd ["_law_p", "_law_q", "_law_r"] []) (hC : ∀ as S R, as.length = 3 → C as S R → G_law_side (ent N_law_side as) S { nx := fun _ S' => R .none S', rt := R }) : Pro P W K mg base (k + 1) f fd ["_law_p", "_law_q", "_law_r"] (spC K 3 C) := by
  have nd := sc_law_side.nd
  exact dfn_ok F sc_law_side rfl (by decide) (fun cdv A outer s H E hr =>
    (s_cons (s_set 3 nd (d_sub (b_of (d_mul (b_of (d_ix (b_var 0) (b_of d_int))) (b_of (d_sub (b_of (d_mul (b_of (d_ix (b_var 1) (b_of d_int))) (b_of (d_ix (b_var 2) (b_of d_int))))) (b_of (d_mul (b_of (d_ix (b_var 2) (b_of d_int))) (b_of (d_ix (b_var 1) (b_of d_int))))))))) (b_of (d_mul (b_of (d_ix (b_var 0) (b_of d_int))) (b_of (d_sub (b_of (d_mul (b_of (d_ix (b_var 1) (b_of d_int))) (b_of (d_ix (b_var 2) (b_of d_int))))) (b_of (d_mul (b_of (d_ix (b_var 2) (b_of d_int))) (b_of (d_ix (b_var 1) (b_of d_int)))))))))))
    (s_one (s_ret (d_add (b_var 3) (b_of (d_mul (b_of (d_ix (b_var 0) (b_of d_int))) (b_of (d_sub (b_of (d_mul (b_of (d_ix (b_var 1) (b_of d_int))) (b_of (d_ix (b_var 2) (b_of d_int))))) (b_of (d_mul (b_of (d_ix (b_var 2) (b_of d_int))) (b_of (d_ix (b_var 1) (b_of d_int)))))))))))))) hC
theorem bd_law_side {k : Nat} {C : Ct} (T : Txt K mg) {f : Addr} {fd : FuncData} (F : Fun K "_law_side" "_law_side" s_law_side f fd) (hm : mg "_law_side" = some (.ref f)) (hb : Binds K fd ["_law_p", "_law_q", "_law_r"] []) (hC : ∀ as S R, as.length = 3 → C as S R → G_law_side (ent N_law_side as) S { nx := fun _ S' => R .none S', rt := R }) : Cal P W K mg base "_law_side" (k + 1) 3 C := ⟨f, fd, _, ok_law_side T F hm hb hC, F.kp, hb, hm⟩
/-! _law_is_less -/
abbrev s_law_is_less : Stmt := top 51
abbrev N_law_is_less : List Str := ["_law_p", "_law_q"]
theorem sc_law_is_less : FnScope N_law_is_less ["_law_p", "_law_q"] (defScope s_law_is_less) := ⟨rfl, rfl, rfl, by decide +kernel, rfl, by decide +kernel, by decide +kernel⟩
def G_law_is_less : FS :=
    (sSeq (sIf (fOp oNe (fOp (oIC CMulA fun i j => .int (i * j)) (fOp oIx (fVarB 0) (fC (.int 0))) (fOp oIx (fVarB 1) (fC (.int 2)))) (fOp (oIC CMulA fun i j => .int (i * j)) (fOp oIx (fVarB 1) (fC (.int 0))) (fOp oIx (fVarB 0) (fC (.int 2)))))
    (sRet (fOp oLt (fOp (oIC CMulA fun i j => .int (i * j)) (fOp oIx (fVarB 0) (fC (.int 0))) (fOp oIx (fVarB 1) (fC (.int 2)))) (fOp (oIC CMulA fun i j => .int (i * j)) (fOp oIx (fVarB 1) (fC (.int 0))) (fOp oIx (fVarB 0) (fC (.int 2))))))
    sNext)
    (sRet (fOp oLt (fOp (oIC CMulA fun i j => .int (i * j)) (fOp oIx (fVarB 0) (fC (.int 1))) (fOp oIx (fVarB 1) (fC (.int 2)))) (fOp (oIC CMulA fun i j => .int (i * j)) (fOp oIx (fVarB 1) (fC (.int 1))) (fOp oIx (fVarB 0) (fC (.int 2)))))))
theorem ok_law_is_less {k : Nat} {C : Ct} (T : Txt K mg) {f : Addr} {fd : FuncData} (F : Fun K "_law_is_less" "_law_is_less" s_law_is_less f fd) (hm : mg "_law_is_less" = some (.ref f)) (hb : Binds K fd ["_law_p", "_law_q"] []) (hC : ∀ as S R, as.length = 2 → C as S R → G_law_is_less (ent N_law_is_less as) S { nx := fun _ S' => R .none S', rt := R }) : Pro P W K mg base (k + 1) f fd ["_law_p", "_law_q"] (spC K 2 C) := by
  have nd := sc_law_is_less.nd
  exact dfn_ok F sc_law_is_less rfl (by decide) (fun cdv A outer s H E hr =>
    (s_cons (s_if (t_cmp (op_neH hr) sNe (b_of (d_mul (b_of (d_ix (b_var 0) (b_of d_int))) (b_of (d_ix (b_var 1) (b_of d_int))))) (b_of (d_mul (b_of (d_ix (b_var 1) (b_of d_int))) (b_of (d_ix (b_var 0) (b_of d_int))))))
    (s_one (s_ret (d_cmp op_ltA sLt (b_of (d_mul (b_of (d_ix (b_var 0) (b_of d_int))) (b_of (d_ix (b_var 1) (b_of d_int))))) (b_of (d_mul (b_of (d_ix (b_var 1) (b_of d_int))) (b_of (d_ix (b_var 0) (b_of d_int))))))))
    s_nil)
    (s_one (s_ret (d_cmp op_ltA sLt (b_of (d_mul (b_of (d_ix (b_var 0) (b_of d_int))) (b_of (d_ix (b_var 1) (b_of d_int))))) (b_of (d_mul (b_of (d_ix (b_var 1) (b_of d_int))) (b_of (d_ix (b_var 0) (b_of d_int)))))))))) hC
theorem bd_law_is_less {k : Nat} {C : Ct} (T : Txt K mg) {f : Addr} {fd : FuncData} (F : Fun K "_law_is_less" "_law_is_less" s_law_is_less f fd) (hm : mg "_law_is_less" = some (.ref f)) (hb : Binds K fd ["_law_p", "_law_q"] []) (hC : ∀ as S R, as.length = 2 → C as S R → G_law_is_less (ent N_law_is_less as) S { nx := fun _ S' => R .none S', rt := R }) : Cal P W K mg base "_law_is_less" (k + 1) 2 C := ⟨f, fd, _, ok_law_is_less T F hm hb hC, F.kp, hb, hm⟩
/-! _law_lies_on -/
abbrev s_law_lies_on : Stmt := top 52
abbrev N_law_lies_on : List Str := ["_law_p", "_law_q", "_law_r", "_law_low", "_law_high"]
theorem sc_law_lies_on : FnScope N_law_lies_on ["_law_p", "_law_q", "_law_r"] (defScope s_law_lies_on) := ⟨rfl, rfl, rfl, by decide +kernel, rfl, by decide +kernel, by decide +kernel⟩
def G_law_lies_on (C_law_side C_law_is_less : Ct) : FS :=
    (sSeq (sIf (fOp oNe (fCall C_law_side (gDat (fVar 0) (gDat (fVar 1) (gDat (fVar 2) gaNil)))) (fC (.int 0)))
    (sRet (fC (.bool false)))
    sNext)
    (sSeq (sAsg (fIf (fCall C_law_is_less (gDat (fVar 0) (gDat (fVar 1) gaNil))) (fTup (fCons (fVar 0) (fCons (fVar 1) fNil))) (fTup (fCons (fVar 1) (fCons (fVar 0) fNil)))) (gTp 2 (gsCons (gNm 3) (gsCons (gNm 4) gsNil))))
    (sRet (fAnd (fNot (fCall C_law_is_less (gDat (fVar 2) (gDat (fVar 3) gaNil)))) (fNot (fCall C_law_is_less (gDat (fVar 4) (gDat (fVar 2) gaNil))))))))
theorem ok_law_lies_on {k : Nat} {C_law_side C_law_is_less : Ct} {C : Ct} (T : Txt K mg) {f : Addr} {fd : FuncData} (F : Fun K "_law_lies_on" "_law_lies_on" s_law_lies_on f fd) (hm : mg "_law_lies_on" = some (.ref f)) (hb : Binds K fd ["_law_p", "_law_q", "_law_r"] []) (c_law_side : Cal P W K mg base "_law_side" k 3 C_law_side) (c_law_is_less : Cal P W K mg base "_law_is_less" k 2 C_law_is_less) (hC : ∀ as S R, as.length = 3 → C as S R → (G_law_lies_on C_law_side C_law_is_less) (ent N_law_lies_on as) S { nx := fun _ S' => R .none S', rt := R }) : Pro P W K mg base (k + 1) f fd ["_law_p", "_law_q", "_law_r"] (spC K 3 C) := by
  have nd := sc_law_lies_on.nd
  exact dfn_ok F sc_law_lies_on rfl (by decide) (fun cdv A outer s H E hr =>
    (s_cons (s_if (t_cmp (op_neH hr) sNe (b_of (d_call c_law_side (hr.mono (by omega)) (c_dat (d_var 0) (c_dat (d_var 1) (c_dat (d_var 2) c_nil))))) (b_of d_int))
    (s_one (s_ret d_bool))
    s_nil)
    (s_cons (s_asg (d_if (t_val (b_of (d_call c_law_is_less (hr.mono (by omega)) (c_dat (d_var 0) (c_dat (d_var 1) c_nil))))) (d_tup (a_cons (d_var 0) (a_cons (d_var 1) a_nil))) (d_tup (a_cons (d_var 1) (a_cons (d_var 0) a_nil)))) (g_tup rfl (gs_cons (g_name 3 nd) (gs_cons (g_name 4 nd) gs_nil))))
    (s_one (s_ret (d_and (b_of (d_not (b_of (d_call c_law_is_less (hr.mono (by omega)) (c_dat (d_var 2) (c_dat (d_var 3) c_nil)))))) (d_one (d_not (b_of (d_call c_law_is_less (hr.mono (by omega)) (c_dat (d_var 4) (c_dat (d_var 2) c_nil)))))))))))) hC
theorem bd_law_lies_on {k : Nat} {C_law_side C_law_is_less : Ct} {C : Ct} (T : Txt K mg) {f : Addr} {fd : FuncData} (F : Fun K "_law_lies_on" "_law_lies_on" s_law_lies_on f fd) (hm : mg "_law_lies_on" = some (.ref f)) (hb : Binds K fd ["_law_p", "_law_q", "_law_r"] []) (c_law_side : Cal P W K mg base "_law_side" k 3 C_law_side) (c_law_is_less : Cal P W K mg base "_law_is_less" k 2 C_law_is_less) (hC : ∀ as S R, as.length = 3 → C as S R → (G_law_lies_on C_law_side C_law_is_less) (ent N_law_lies_on as) S { nx := fun _ S' => R .none S', rt := R }) : Cal P W K mg base "_law_lies_on" (k + 1) 3 C := ⟨f, fd, _, ok_law_lies_on T F hm hb c_law_side c_law_is_less hC, F.kp, hb, hm⟩
/-! _law_bottom -/
abbrev s_law_bottom : Stmt := top 53
abbrev N_law_bottom : List Str := ["_law_places_here", "_law_found", "_law_each"]
theorem sc_law_bottom : FnScope N_law_bottom ["_law_places_here"] (defScope s_law_bottom) := ⟨rfl, rfl, rfl, by decide +kernel, rfl, by decide +kernel, by decide +kernel⟩
def G_law_bottom (C_law_divisor : Ct) : FS :=
    (sSeq (sSet 1 (fC (.int 1)))
    (sSeq (sFor (fiA (fVar 0)) (gNm 2)
    (sSet 1 (fOp (oIC CMulA fun i j => .int (i * j)) (fOp (oIC CDivW fun i j => .int (i / j)) (fVarB 1) (fCall C_law_divisor (gDat (fVar 1) (gDat (fOp oIx (fVarB 2) (fC (.int 2))) gaNil)))) (fOp oIx (fVarB 2) (fC (.int 2))))))
    (sRetV 1)))
theorem ok_law_bottom {k : Nat} {C_law_divisor : Ct} {C : Ct} (T : Txt K mg) {f : Addr} {fd : FuncData} (F : Fun K "_law_bottom" "_law_bottom" s_law_bottom f fd) (hm : mg "_law_bottom" = some (.ref f)) (hb : Binds K fd ["_law_places_here"] []) (c_law_divisor : Cal P W K mg base "_law_divisor" k 2 C_law_divisor) (hC : ∀ as S R, as.length = 1 → C as S R → (G_law_bottom C_law_divisor) (ent N_law_bottom as) S { nx := fun _ S' => R .none S', rt := R }) : Pro P W K mg base (k + 1) f fd ["_law_places_here"] (spC K 1 C) := by
  have nd := sc_law_bottom.nd
  exact dfn_ok F sc_law_bottom rfl (by decide) (fun cdv A outer s H E hr =>
    (s_cons (s_set 1 nd d_int)
    (s_cons (s_for PassesOwn.never rfl (i_any (d_var 0)) (g_name 2 nd)
    (s_one (s_set 1 nd (d_mul (b_of (d_fdiv (b_var 1) (b_of (d_call c_law_divisor (hr.mono (by omega)) (c_dat (d_var 1) (c_dat (d_ix (b_var 2) (b_of d_int)) c_nil)))))) (b_of (d_ix (b_var 2) (b_of d_int)))))))
    (s_one (s_retV 1))))) hC
theorem bd_law_bottom {k : Nat} {C_law_divisor : Ct} {C : Ct} (T : Txt K mg) {f : Addr} {fd : FuncData} (F : Fun K "_law_bottom" "_law_bottom" s_law_bottom f fd) (hm : mg "_law_bottom" = some (.ref f)) (hb : Binds K fd ["_law_places_here"] []) (c_law_divisor : Cal P W K mg base "_law_divisor" k 2 C_law_divisor) (hC : ∀ as S R, as.length = 1 → C as S R → (G_law_bottom C_law_divisor) (ent N_law_bottom as) S { nx := fun _ S' => R .none S', rt := R }) : Cal P W K mg base "_law_bottom" (k + 1) 1 C := ⟨f, fd, _, ok_law_bottom T F hm hb c_law_divisor hC, F.kp, hb, hm⟩
/-! _law_rising -/
abbrev s_law_rising : Stmt := top 54
abbrev N_law_rising : List Str := ["_law_places_here", "_law_by", "_law_some", "_law_at", "_law_each"]
theorem sc_law_rising : FnScope N_law_rising ["_law_places_here"] (defScope s_law_rising) := ⟨rfl, rfl, rfl, by decide +kernel, rfl, by decide +kernel, by decide +kernel⟩
def G_law_rising (C_law_bottom : Ct) : FS :=
    (sSeq (sSet 1 (fCall C_law_bottom (gDat (fVar 0) gaNil)))
    (sSeq (sSet 2 (fUn oSorted (fLc (fiA (fVar 0)) [4] (gNm 4) (fC (.bool true)) (fTup (fCons (fOp (oIC CMulA fun i j => .int (i * j)) (fOp oIx (fVarB 4) (fC (.int 0))) (fOp (oIC CDivW fun i j => .int (i / j)) (fVarB 1) (fOp oIx (fVarB 4) (fC (.int 2))))) (fCons (fOp (oIC CMulA fun i j => .int (i * j)) (fOp oIx (fVarB 4) (fC (.int 1))) (fOp (oIC CDivW fun i j => .int (i / j)) (fVarB 1) (fOp oIx (fVarB 4) (fC (.int 2))))) (fCons (fVar 4) fNil)))))))
    (sRet (fLc (fiE (fVar 2)) [3, 4] (gTp 2 (gsCons (gNm 3) (gsCons (gNm 4) gsNil))) (fOr (fOp oEq (fVarB 3) (fC (.int 0))) (fOp oNe (fOp oIx (fVarB 2) (fOp (oI fun i j => .int (i - j)) (fVarB 3) (fC (.int 1)))) (fVarB 4))) (fOp oIx (fVarB 4) (fC (.int 2)))))))
theorem ok_law_rising {k : Nat} {C_law_bottom : Ct} {C : Ct} (T : Txt K mg) {f : Addr} {fd : FuncData} (F : Fun K "_law_rising" "_law_rising" s_law_rising f fd) (hm : mg "_law_rising" = some (.ref f)) (hb : Binds K fd ["_law_places_here"] []) (c_law_bottom : Cal P W K mg base "_law_bottom" k 1 C_law_bottom) (hC : ∀ as S R, as.length = 1 → C as S R → (G_law_rising C_law_bottom) (ent N_law_rising as) S { nx := fun _ S' => R .none S', rt := R }) : Pro P W K mg base (k + 1) f fd ["_law_places_here"] (spC K 1 C) := by
  have nd := sc_law_rising.nd
  exact dfn_ok F sc_law_rising rfl (by decide) (fun cdv A outer s H E hr =>
    (s_cons (s_set 1 nd (d_call c_law_bottom (hr.mono (by omega)) (c_dat (d_var 0) c_nil)))
    (s_cons (s_set 2 nd (d_of_n (n_sorted hr (b_of (d_of_n (n_lc rfl nd (ic_of (i_any (d_var 0))) (blkOk_by (own := [("_law_each", 4)]) (N := N_law_rising) (sc := defScope s_law_rising) (by decide +kernel)) (by decide) (fun _ _ _ _ _ => (g_name 4 nd)) (fun _ _ _ _ _ => p_nil) (fun _ _ _ _ _ => (d_tup (a_cons (d_mul (b_of (d_ix (b_var 4) (b_of d_int))) (b_of (d_fdiv (b_var 1) (b_of (d_ix (b_var 4) (b_of d_int)))))) (a_cons (d_mul (b_of (d_ix (b_var 4) (b_of d_int))) (b_of (d_fdiv (b_var 1) (b_of (d_ix (b_var 4) (b_of d_int)))))) (a_cons (d_var 4) a_nil)))))))) T.z_sorted)))
    (s_one (s_ret (d_of_n (n_lc rfl nd (ic_of (i_enum (d_var 2) T.z_enumerate)) (blkOk_by (own := [("_law_at", 3), ("_law_each", 4)]) (N := N_law_rising) (sc := defScope s_law_rising) (by decide +kernel)) (by decide) (fun _ _ _ _ _ => (g_tup rfl (gs_cons (g_name 3 nd) (gs_cons (g_name 4 nd) gs_nil)))) (fun _ _ _ _ _ => (p_one (PW.pt (w_or (t_cmp (op_eqH hr) sEq (b_var 3) (b_of d_int)) (w_or1 (t_cmp (op_neH hr) sNe (b_of (d_ix (b_var 2) (b_of (d_sub (b_var 3) (b_of d_int))))) (b_var 4))))))) (fun _ _ _ _ _ => (d_ix (b_var 4) (b_of d_int)))))))))) hC
theorem bd_law_rising {k : Nat} {C_law_bottom : Ct} {C : Ct} (T : Txt K mg) {f : Addr} {fd : FuncData} (F : Fun K "_law_rising" "_law_rising" s_law_rising f fd) (hm : mg "_law_rising" = some (.ref f)) (hb : Binds K fd ["_law_places_here"] []) (c_law_bottom : Cal P W K mg base "_law_bottom" k 1 C_law_bottom) (hC : ∀ as S R, as.length = 1 → C as S R → (G_law_rising C_law_bottom) (ent N_law_rising as) S { nx := fun _ S' => R .none S', rt := R }) : Cal P W K mg base "_law_rising" (k + 1) 1 C := ⟨f, fd, _, ok_law_rising T F hm hb c_law_bottom hC, F.kp, hb, hm⟩
/-! _law_meet -/
abbrev s_law_meet : Stmt := top 55
abbrev N_law_meet : List Str := ["_law_one", "_law_two", "_law_p", "_law_q", "_law_r", "_law_s", "_law_a", "_law_b", "_law_c", "_law_d", "_law_ends", "_law_each"]
theorem sc_law_meet : FnScope N_law_meet ["_law_one", "_law_two"] (defScope s_law_meet) := ⟨rfl, rfl, rfl, by decide +kernel, rfl, by decide +kernel, by decide +kernel⟩
def G_law_meet (C_law_side C_law_lies_on C_law_rising C_law_place : Ct) : FS :=
    (sSeq (sAsg (fTup (fCons (fVar 0) (fCons (fVar 1) fNil))) (gTp 2 (gsCons (gTp 2 (gsCons (gNm 2) (gsCons (gNm 3) gsNil))) (gsCons (gTp 2 (gsCons (gNm 4) (gsCons (gNm 5) gsNil))) gsNil))))
    (sSeq (sAsg (fTup (fCons (fCall C_law_side (gDat (fVar 4) (gDat (fVar 5) (gDat (fVar 2) gaNil)))) (fCons (fCall C_law_side (gDat (fVar 4) (gDat (fVar 5) (gDat (fVar 3) gaNil)))) (fCons (fCall C_law_side (gDat (fVar 2) (gDat (fVar 3) (gDat (fVar 4) gaNil)))) (fCons (fCall C_law_side (gDat (fVar 2) (gDat (fVar 3) (gDat (fVar 5) gaNil)))) fNil))))) (gTp 4 (gsCons (gNm 6) (gsCons (gNm 7) (gsCons (gNm 8) (gsCons (gNm 9) gsNil))))))
    (sSeq (sIf (fAnd (fOp oEq (fVarB 8) (fC (.int 0))) (fOp oEq (fVarB 9) (fC (.int 0))))
    (sSeq (sSet 10 (fLc (fiT (fVarB 0)) [11] (gNm 11) (fCall C_law_lies_on (gDat (fVar 4) (gDat (fVar 5) (gDat (fVar 11) gaNil)))) (fVar 11)))
    (sRet (fCall C_law_rising (gDat (fOp oAdd (fVarB 10) (fLc (fiT (fVarB 1)) [11] (gNm 11) (fCall C_law_lies_on (gDat (fVar 2) (gDat (fVar 3) (gDat (fVar 11) gaNil)))) (fVar 11))) gaNil))))
    sNext)
    (sSeq (sIf (fOr (fOp oGt (fOp (oIC CMulA fun i j => .int (i * j)) (fVarB 6) (fVarB 7)) (fC (.int 0))) (fOp oGt (fOp (oIC CMulA fun i j => .int (i * j)) (fVarB 8) (fVarB 9)) (fC (.int 0))))
    (sRet (fLst fNil))
    sNext)
    (sRet (fLst (fCons (fCall C_law_place (gDat (fOp (oI fun i j => .int (i - j)) (fOp (oIC CMulA fun i j => .int (i * j)) (fVarB 6) (fOp oIx (fVarB 3) (fC (.int 0)))) (fOp (oIC CMulA fun i j => .int (i * j)) (fVarB 7) (fOp oIx (fVarB 2) (fC (.int 0))))) (gDat (fOp (oI fun i j => .int (i - j)) (fOp (oIC CMulA fun i j => .int (i * j)) (fVarB 6) (fOp oIx (fVarB 3) (fC (.int 1)))) (fOp (oIC CMulA fun i j => .int (i * j)) (fVarB 7) (fOp oIx (fVarB 2) (fC (.int 1))))) (gDat (fOp (oI fun i j => .int (i - j)) (fOp (oIC CMulA fun i j => .int (i * j)) (fVarB 6) (fOp oIx (fVarB 3) (fC (.int 2)))) (fOp (oIC CMulA fun i j => .int (i * j)) (fVarB 7) (fOp oIx (fVarB 2) (fC (.int 2))))) gaNil)))) fNil)))))))
theorem ok_law_meet {k : Nat} {C_law_side C_law_lies_on C_law_rising C_law_place : Ct} {C : Ct} (T : Txt K mg) {f : Addr} {fd : FuncData} (F : Fun K "_law_meet" "_law_meet" s_law_meet f fd) (hm : mg "_law_meet" = some (.ref f)) (hb : Binds K fd ["_law_one", "_law_two"] []) (c_law_side : Cal P W K mg base "_law_side" k 3 C_law_side) (c_law_lies_on : Cal P W K mg base "_law_lies_on" k 3 C_law_lies_on) (c_law_rising : Cal P W K mg base "_law_rising" k 1 C_law_rising) (c_law_place : Cal P W K mg base "_law_place" k 3 C_law_place) (hC : ∀ as S R, as.length = 2 → C as S R → (G_law_meet C_law_side C_law_lies_on C_law_rising C_law_place) (ent N_law_meet as) S { nx := fun _ S' => R .none S', rt := R }) : Pro P W K mg base (k + 1) f fd ["_law_one", "_law_two"] (spC K 2 C) := by
  have nd := sc_law_meet.nd
  exact dfn_ok F sc_law_meet rfl (by decide) (fun cdv A outer s H E hr =>
    (s_cons (s_asg (d_tup (a_cons (d_var 0) (a_cons (d_var 1) a_nil))) (g_tup rfl (gs_cons (g_tup rfl (gs_cons (g_name 2 nd) (gs_cons (g_name 3 nd) gs_nil))) (gs_cons (g_tup rfl (gs_cons (g_name 4 nd) (gs_cons (g_name 5 nd) gs_nil))) gs_nil))))
    (s_cons (s_asg (d_tup (a_cons (d_call c_law_side (hr.mono (by omega)) (c_dat (d_var 4) (c_dat (d_var 5) (c_dat (d_var 2) c_nil)))) (a_cons (d_call c_law_side (hr.mono (by omega)) (c_dat (d_var 4) (c_dat (d_var 5) (c_dat (d_var 3) c_nil)))) (a_cons (d_call c_law_side (hr.mono (by omega)) (c_dat (d_var 2) (c_dat (d_var 3) (c_dat (d_var 4) c_nil)))) (a_cons (d_call c_law_side (hr.mono (by omega)) (c_dat (d_var 2) (c_dat (d_var 3) (c_dat (d_var 5) c_nil)))) a_nil))))) (g_tup rfl (gs_cons (g_name 6 nd) (gs_cons (g_name 7 nd) (gs_cons (g_name 8 nd) (gs_cons (g_name 9 nd) gs_nil))))))
    (s_cons (s_if (PW.pt (w_and (t_cmp (op_eqH hr) sEq (b_var 8) (b_of d_int)) (w_and1 (t_cmp (op_eqH hr) sEq (b_var 9) (b_of d_int)))))
    (s_cons (s_setLcD 10 rfl nd (ic_of (i_tup (b_var 0))) (blkOk_by (own := [("_law_each", 11)]) (N := N_law_meet) (sc := defScope s_law_meet) (by decide +kernel)) (by decide) (fun _ _ _ _ _ => (g_name 11 nd)) (fun _ _ _ _ _ => (p_one (t_val (b_of (d_call c_law_lies_on (hr.mono (by omega)) (c_dat (d_var 4) (c_dat (d_var 5) (c_dat (d_var 11) c_nil)))))))) (fun _ _ _ _ _ => (d_var 11)) (sw_true rfl rfl rfl (by decide +kernel)))
    (s_one (s_ret (d_call c_law_rising (hr.mono (by omega)) (c_dat (d_add (b_var 10) (b_of (d_of_n (n_lc rfl nd (ic_of (i_tup (b_var 1))) (blkOk_by (own := [("_law_each", 11)]) (N := N_law_meet) (sc := defScope s_law_meet) (by decide +kernel)) (by decide) (fun _ _ _ _ _ => (g_name 11 nd)) (fun _ _ _ _ _ => (p_one (t_val (b_of (d_call c_law_lies_on (hr.mono (by omega)) (c_dat (d_var 2) (c_dat (d_var 3) (c_dat (d_var 11) c_nil)))))))) (fun _ _ _ _ _ => (d_var 11)))))) c_nil)))))
    s_nil)
    (s_cons (s_if (PW.pt (w_or (t_cmp op_gt sIntB (b_of (d_mul (b_var 6) (b_var 7))) (b_of d_int)) (w_or1 (t_cmp op_gt sIntB (b_of (d_mul (b_var 8) (b_var 9))) (b_of d_int)))))
    (s_one (s_ret (d_lst a_nil)))
    s_nil)
    (s_one (s_ret (d_lst (a_cons (d_call c_law_place (hr.mono (by omega)) (c_dat (d_sub (b_of (d_mul (b_var 6) (b_of (d_ix (b_var 3) (b_of d_int))))) (b_of (d_mul (b_var 7) (b_of (d_ix (b_var 2) (b_of d_int)))))) (c_dat (d_sub (b_of (d_mul (b_var 6) (b_of (d_ix (b_var 3) (b_of d_int))))) (b_of (d_mul (b_var 7) (b_of (d_ix (b_var 2) (b_of d_int)))))) (c_dat (d_sub (b_of (d_mul (b_var 6) (b_of (d_ix (b_var 3) (b_of d_int))))) (b_of (d_mul (b_var 7) (b_of (d_ix (b_var 2) (b_of d_int)))))) c_nil)))) a_nil))))))))) hC
theorem bd_law_meet {k : Nat} {C_law_side C_law_lies_on C_law_rising C_law_place : Ct} {C : Ct} (T : Txt K mg) {f : Addr} {fd : FuncData} (F : Fun K "_law_meet" "_law_meet" s_law_meet f fd) (hm : mg "_law_meet" = some (.ref f)) (hb : Binds K fd ["_law_one", "_law_two"] []) (c_law_side : Cal P W K mg base "_law_side" k 3 C_law_side) (c_law_lies_on : Cal P W K mg base "_law_lies_on" k 3 C_law_lies_on) (c_law_rising : Cal P W K mg base "_law_rising" k 1 C_law_rising) (c_law_place : Cal P W K mg base "_law_place" k 3 C_law_place) (hC : ∀ as S R, as.length = 2 → C as S R → (G_law_meet C_law_side C_law_lies_on C_law_rising C_law_place) (ent N_law_meet as) S { nx := fun _ S' => R .none S', rt := R }) : Cal P W K mg base "_law_meet" (k + 1) 2 C := ⟨f, fd, _, ok_law_meet T F hm hb c_law_side c_law_lies_on c_law_rising c_law_place hC, F.kp, hb, hm⟩
/-! _law_cut -/
abbrev s_law_cut : Stmt := top 56
abbrev N_law_cut : List Str := ["_law_shuts", "_law_lone", "_law_some", "_law_at", "_law_one", "_law_two", "_law_corners", "_law_found", "_law_p", "_law_q", "_law_row_here", "_law_here", "_law_there", "_law_each"]
theorem sc_law_cut : FnScope N_law_cut ["_law_shuts", "_law_lone"] (defScope s_law_cut) := ⟨rfl, rfl, rfl, by decide +kernel, rfl, by decide +kernel, by decide +kernel⟩
def G_law_cut (C_law_meet C_law_rising C_law_lies_on : Ct) : FS :=
    (sSeq (sSet 2 (fUn oList (fVarB 1)))
    (sSeq (sFor (fiE (fVar 0)) (gTp 2 (gsCons (gNm 3) (gsCons (gNm 4) gsNil)))
    (sSeq (sSet 2 (fOp oAdd (fVarB 2) (fLst (fCons (fOp oIx (fVarB 4) (fC (.int 0))) (fCons (fOp oIx (fVarB 4) (fC (.int 1))) fNil)))))
    (sFor (fiL (fSl (fVarB 0) fNoP (fP (fVarB 3)))) (gNm 5)
    (sSet 2 (fOp oAdd (fVarB 2) (fCall C_law_meet (gDat (fVar 4) (gDat (fVar 5) gaNil))))))))
    (sParD 6 7 (fCall C_law_rising (gDat (fVar 2) gaNil))
    (sSeq (sFor (fiL (fVar 0)) (gTp 2 (gsCons (gNm 8) (gsCons (gNm 9) gsNil)))
    (sSeq (sSet 10 (fLc (fiE (fVar 6)) [3, 13] (gTp 2 (gsCons (gNm 3) (gsCons (gNm 13) gsNil))) (fCall C_law_lies_on (gDat (fVar 8) (gDat (fVar 9) (gDat (fVar 13) gaNil)))) (fVar 3)))
    (sFor (fiZ (fVar 10) (fSl (fVarB 10) (fP (fC (.int 1))) fNoP)) (gTp 2 (gsCons (gNm 11) (gsCons (gNm 12) gsNil)))
    (sDput 7 2 (fCons (fVar 11) (fCons (fVar 12) fNil)) (fC (.bool true))))))
    (sRet (fTup (fCons (fVar 6) (fCons (fSortK 7) fNil))))))))
theorem ok_law_cut {k : Nat} {C_law_meet C_law_rising C_law_lies_on : Ct} {C : Ct} (T : Txt K mg) {f : Addr} {fd : FuncData} (F : Fun K "_law_cut" "_law_cut" s_law_cut f fd) (hm : mg "_law_cut" = some (.ref f)) (hb : Binds K fd ["_law_shuts", "_law_lone"] []) (c_law_meet : Cal P W K mg base "_law_meet" k 2 C_law_meet) (c_law_rising : Cal P W K mg base "_law_rising" k 1 C_law_rising) (c_law_lies_on : Cal P W K mg base "_law_lies_on" k 3 C_law_lies_on) (hC : ∀ as S R, as.length = 2 → C as S R → (G_law_cut C_law_meet C_law_rising C_law_lies_on) (ent N_law_cut as) S { nx := fun _ S' => R .none S', rt := R }) : Pro P W K mg base (k + 1) f fd ["_law_shuts", "_law_lone"] (spC K 2 C) := by
  have nd := sc_law_cut.nd
  exact dfn_ok F sc_law_cut rfl (by decide) (fun cdv A outer s H E hr =>
    (s_cons (s_set 2 nd (d_of_n (n_callT call_list_of nList (b_var 1) T.z_list PyProof.Rows.boot_list)))
    (s_cons (s_for PassesOwn.never rfl (i_enum (d_var 0) T.z_enumerate) (g_tup rfl (gs_cons (g_name 3 nd) (gs_cons (g_name 4 nd) gs_nil)))
    (s_cons (s_set 2 nd (d_add (b_var 2) (b_of (d_lst (a_cons (d_ix (b_var 4) (b_of d_int)) (a_cons (d_ix (b_var 4) (b_of d_int)) a_nil))))))
    (s_one (s_for PassesOwn.never rfl (i_list (d_slice (b_var 0) o_none (o_some (b_var 3)))) (g_name 5 nd)
    (s_one (s_set 2 nd (d_add (b_var 2) (b_of (d_call c_law_meet (hr.mono (by omega)) (c_dat (d_var 4) (c_dat (d_var 5) c_nil)))))))))))
    (s_parD 6 7 rfl nd (d_call c_law_rising (hr.mono (by omega)) (c_dat (d_var 2) c_nil))
    (s_cons (s_for PassesOwn.never rfl (i_list (d_var 0)) (g_tup rfl (gs_cons (g_name 8 nd) (gs_cons (g_name 9 nd) gs_nil)))
    (s_cons (s_setLcD 10 rfl nd (ic_of (i_enum (d_var 6) T.z_enumerate)) (blkOk_by (own := [("_law_at", 3), ("_law_each", 13)]) (N := N_law_cut) (sc := defScope s_law_cut) (by decide +kernel)) (by decide) (fun _ _ _ _ _ => (g_tup rfl (gs_cons (g_name 3 nd) (gs_cons (g_name 13 nd) gs_nil)))) (fun _ _ _ _ _ => (p_one (t_val (b_of (d_call c_law_lies_on (hr.mono (by omega)) (c_dat (d_var 8) (c_dat (d_var 9) (c_dat (d_var 13) c_nil)))))))) (fun _ _ _ _ _ => (d_var 3)) (sw_true rfl rfl rfl (by decide +kernel)))
    (s_one (s_for PassesOwn.never rfl (i_zip (d_var 10) (d_slice (b_var 10) (o_some (b_of d_int)) o_none) T.z_zip) (g_tup rfl (gs_cons (g_name 11 nd) (gs_cons (g_name 12 nd) gs_nil)))
    (s_one (s_dput hr 7 d_bool (a_cons (d_var 11) (a_cons (d_var 12) a_nil))))))))
    (s_one (s_ret (d_tup (a_cons (d_var 6) (a_cons (d_of_n (n_sortedK rfl hr 7 T.z_sorted)) a_nil)))))))))) hC
theorem bd_law_cut {k : Nat} {C_law_meet C_law_rising C_law_lies_on : Ct} {C : Ct} (T : Txt K mg) {f : Addr} {fd : FuncData} (F : Fun K "_law_cut" "_law_cut" s_law_cut f fd) (hm : mg "_law_cut" = some (.ref f)) (hb : Binds K fd ["_law_shuts", "_law_lone"] []) (c_law_meet : Cal P W K mg base "_law_meet" k 2 C_law_meet) (c_law_rising : Cal P W K mg base "_law_rising" k 1 C_law_rising) (c_law_lies_on : Cal P W K mg base "_law_lies_on" k 3 C_law_lies_on) (hC : ∀ as S R, as.length = 2 → C as S R → (G_law_cut C_law_meet C_law_rising C_law_lies_on) (ent N_law_cut as) S { nx := fun _ S' => R .none S', rt := R }) : Cal P W K mg base "_law_cut" (k + 1) 2 C := ⟨f, fd, _, ok_law_cut T F hm hb c_law_meet c_law_rising c_law_lies_on hC, F.kp, hb, hm⟩
/-! _law_frame -/
abbrev s_law_frame : Stmt := top 57
abbrev N_law_frame : List Str := ["_law_spring_here", "_law_wide", "_law_x", "_law_y", "_law_step", "_law_under"]
theorem sc_law_frame : FnScope N_law_frame ["_law_spring_here"] (defScope s_law_frame) := ⟨rfl, rfl, rfl, by decide +kernel, rfl, by decide +kernel, by decide +kernel⟩
def G_law_frame (C_law_one_of : Ct) : FS :=
    (sSeq (sSet 1 (fCall C_law_one_of (gWel 0 (gDat (fTup (fCons (fC (.int 3)) (fCons (fC (.int 4)) (fCons (fC (.int 5)) fNil)))) gaNil))))
    (sSeq (sAsg (fCall C_law_one_of (gWel 0 (gDat (fTup (fCons (fTup (fCons (fC (.int 0)) (fCons (fC (.int 0)) (fCons (fC (.int 1)) (fCons (fC (.int 1)) fNil))))) (fCons (fTup (fCons (fC (.int 0)) (fCons (fC (.int 0)) (fCons (fC (.int 1)) (fCons (fC (.int 1)) fNil))))) (fCons (fTup (fCons (fUn oNeg (fC (.int 2))) (fCons (fUn oNeg (fC (.int 1))) (fCons (fC (.int 1)) (fCons (fC (.int 1)) fNil))))) (fCons (fTup (fCons (fUn oNeg (fC (.int 3))) (fCons (fC (.int 1)) (fCons (fC (.int 1)) (fCons (fC (.int 2)) fNil))))) (fCons (fTup (fCons (fC (.int 0)) (fCons (fUn oNeg (fC (.int 5))) (fCons (fC (.int 2)) (fCons (fC (.int 3)) fNil))))) (fCons (fTup (fCons (fC (.int 1)) (fCons (fC (.int 1)) (fCons (fC (.int 5)) (fCons (fC (.int 6)) fNil))))) (fCons (fTup (fCons (fUn oNeg (fC (.int 700000))) (fCons (fC (.int 250001)) (fCons (fC (.int 100003)) (fCons (fC (.int 1)) fNil))))) (fCons (fTup (fCons (fUn oNeg (fC (.int 1))) (fCons (fUn oNeg (fC (.int 2))) (fCons (fC (.int 2)) (fCons (fC (.int 1)) fNil))))) fNil))))))))) gaNil))) (gTp 4 (gsCons (gNm 2) (gsCons (gNm 3) (gsCons (gNm 4) (gsCons (gNm 5) gsNil))))))
    (sRet (fTup (fCons (fVar 2) (fCons (fVar 3) (fCons (fVar 4) (fCons (fVar 5) (fCons (fVar 1) fNil)))))))))
theorem ok_law_frame {k : Nat} {C_law_one_of : Ct} {C : Ct} (T : Txt K mg) {f : Addr} {fd : FuncData} (F : Fun K "_law_frame" "_law_frame" s_law_frame f fd) (hm : mg "_law_frame" = some (.ref f)) (hb : Binds K fd ["_law_spring_here"] []) (c_law_one_of : Cal P W K mg base "_law_one_of" k 2 C_law_one_of) (hC : ∀ as S R, as.length = 1 → C as S R → (G_law_frame C_law_one_of) (ent N_law_frame as) S { nx := fun _ S' => R .none S', rt := R }) : Pro P W K mg base (k + 1) f fd ["_law_spring_here"] (spC K 1 C) := by
  have nd := sc_law_frame.nd
  exact dfn_ok F sc_law_frame rfl (by decide) (fun cdv A outer s H E hr =>
    (s_cons (s_set 1 nd (d_call c_law_one_of (hr.mono (by omega)) (c_wel 0 (c_dat (d_tup (a_cons d_int (a_cons d_int (a_cons d_int a_nil)))) c_nil))))
    (s_cons (s_asg (d_call c_law_one_of (hr.mono (by omega)) (c_wel 0 (c_dat (d_tup (a_cons (d_tup (a_cons d_int (a_cons d_int (a_cons d_int (a_cons d_int a_nil))))) (a_cons (d_tup (a_cons d_int (a_cons d_int (a_cons d_int (a_cons d_int a_nil))))) (a_cons (d_tup (a_cons (d_neg (b_of d_int)) (a_cons (d_neg (b_of d_int)) (a_cons d_int (a_cons d_int a_nil))))) (a_cons (d_tup (a_cons (d_neg (b_of d_int)) (a_cons d_int (a_cons d_int (a_cons d_int a_nil))))) (a_cons (d_tup (a_cons d_int (a_cons (d_neg (b_of d_int)) (a_cons d_int (a_cons d_int a_nil))))) (a_cons (d_tup (a_cons d_int (a_cons d_int (a_cons d_int (a_cons d_int a_nil))))) (a_cons (d_tup (a_cons (d_neg (b_of d_int)) (a_cons d_int (a_cons d_int (a_cons d_int a_nil))))) (a_cons (d_tup (a_cons (d_neg (b_of d_int)) (a_cons (d_neg (b_of d_int)) (a_cons d_int (a_cons d_int a_nil))))) a_nil))))))))) c_nil))) (g_tup rfl (gs_cons (g_name 2 nd) (gs_cons (g_name 3 nd) (gs_cons (g_name 4 nd) (gs_cons (g_name 5 nd) gs_nil))))))
    (s_one (s_ret (d_tup (a_cons (d_var 2) (a_cons (d_var 3) (a_cons (d_var 4) (a_cons (d_var 5) (a_cons (d_var 1) a_nil))))))))))) hC
theorem bd_law_frame {k : Nat} {C_law_one_of : Ct} {C : Ct} (T : Txt K mg) {f : Addr} {fd : FuncData} (F : Fun K "_law_frame" "_law_frame" s_law_frame f fd) (hm : mg "_law_frame" = some (.ref f)) (hb : Binds K fd ["_law_spring_here"] []) (c_law_one_of : Cal P W K mg base "_law_one_of" k 2 C_law_one_of) (hC : ∀ as S R, as.length = 1 → C as S R → (G_law_frame C_law_one_of) (ent N_law_frame as) S { nx := fun _ S' => R .none S', rt := R }) : Cal P W K mg base "_law_frame" (k + 1) 1 C := ⟨f, fd, _, ok_law_frame T F hm hb c_law_one_of hC, F.kp, hb, hm⟩
/-! _law_grid -/
abbrev s_law_grid : Stmt := top 58
abbrev N_law_grid : List Str := ["_law_frame_here", "_law_i", "_law_j", "_law_n", "_law_x", "_law_y", "_law_step", "_law_under", "_law_wide"]
theorem sc_law_grid : FnScope N_law_grid ["_law_frame_here", "_law_i", "_law_j", "_law_n"] (defScope s_law_grid) := ⟨rfl, rfl, rfl, by decide +kernel, rfl, by decide +kernel, by decide +kernel⟩
def G_law_grid (C_law_part : Ct) : FS :=
    (sSeq (sAsg (fVar 0) (gTp 5 (gsCons (gNm 4) (gsCons (gNm 5) (gsCons (gNm 6) (gsCons (gNm 7) (gsCons (gNm 8) gsNil)))))))
    (sRet (fTup (fCons (fCall C_law_part (gDat (fOp oAdd (fOp (oIC CMulA fun i j => .int (i * j)) (fVarB 4) (fVarB 3)) (fOp (oIC CMulA fun i j => .int (i * j)) (fVarB 6) (fVarB 1))) (gDat (fOp (oIC CMulA fun i j => .int (i * j)) (fVarB 7) (fVarB 3)) gaNil))) (fCons (fCall C_law_part (gDat (fOp oAdd (fOp (oIC CMulA fun i j => .int (i * j)) (fVarB 5) (fVarB 3)) (fOp (oIC CMulA fun i j => .int (i * j)) (fVarB 6) (fVarB 2))) (gDat (fOp (oIC CMulA fun i j => .int (i * j)) (fVarB 7) (fVarB 3)) gaNil))) fNil)))))
theorem ok_law_grid {k : Nat} {C_law_part : Ct} {C : Ct} (T : Txt K mg) {f : Addr} {fd : FuncData} (F : Fun K "_law_grid" "_law_grid" s_law_grid f fd) (hm : mg "_law_grid" = some (.ref f)) (hb : Binds K fd ["_law_frame_here", "_law_i", "_law_j", "_law_n"] []) (c_law_part : Cal P W K mg base "_law_part" k 2 C_law_part) (hC : ∀ as S R, as.length = 4 → C as S R → (G_law_grid C_law_part) (ent N_law_grid as) S { nx := fun _ S' => R .none S', rt := R }) : Pro P W K mg base (k + 1) f fd ["_law_frame_here", "_law_i", "_law_j", "_law_n"] (spC K 4 C) := by
  have nd := sc_law_grid.nd
  exact dfn_ok F sc_law_grid rfl (by decide) (fun cdv A outer s H E hr =>
    (s_cons (s_asg (d_var 0) (g_tup rfl (gs_cons (g_name 4 nd) (gs_cons (g_name 5 nd) (gs_cons (g_name 6 nd) (gs_cons (g_name 7 nd) (gs_cons (g_name 8 nd) gs_nil)))))))
    (s_one (s_ret (d_tup (a_cons (d_call c_law_part (hr.mono (by omega)) (c_dat (d_add (b_of (d_mul (b_var 4) (b_var 3))) (b_of (d_mul (b_var 6) (b_var 1)))) (c_dat (d_mul (b_var 7) (b_var 3)) c_nil))) (a_cons (d_call c_law_part (hr.mono (by omega)) (c_dat (d_add (b_of (d_mul (b_var 5) (b_var 3))) (b_of (d_mul (b_var 6) (b_var 2)))) (c_dat (d_mul (b_var 7) (b_var 3)) c_nil))) a_nil))))))) hC
theorem bd_law_grid {k : Nat} {C_law_part : Ct} {C : Ct} (T : Txt K mg) {f : Addr} {fd : FuncData} (F : Fun K "_law_grid" "_law_grid" s_law_grid f fd) (hm : mg "_law_grid" = some (.ref f)) (hb : Binds K fd ["_law_frame_here", "_law_i", "_law_j", "_law_n"] []) (c_law_part : Cal P W K mg base "_law_part" k 2 C_law_part) (hC : ∀ as S R, as.length = 4 → C as S R → (G_law_grid C_law_part) (ent N_law_grid as) S { nx := fun _ S' => R .none S', rt := R }) : Cal P W K mg base "_law_grid" (k + 1) 4 C := ⟨f, fd, _, ok_law_grid T F hm hb c_law_part hC, F.kp, hb, hm⟩
/-! _law_dot -/
abbrev s_law_dot : Stmt := top 59
abbrev N_law_dot : List Str := ["_law_spring_here", "_law_frame_here", "_law_n", "_law_i", "_law_j"]
theorem sc_law_dot : FnScope N_law_dot ["_law_spring_here", "_law_frame_here"] (defScope s_law_dot) := ⟨rfl, rfl, rfl, by decide +kernel, rfl, by decide +kernel, by decide +kernel⟩
def G_law_dot (C_law_one_of C_law_draw C_law_grid : Ct) : FS :=
    (sSeq (sSet 2 (fCall C_law_one_of (gWel 0 (gDat (fTup (fCons (fC (.int 1)) (fCons (fC (.int 1)) (fCons (fC (.int 2)) (fCons (fC (.int 2)) (fCons (fC (.int 3)) fNil)))))) gaNil))))
    (sSeq (sPar 3 4 (fCons (fCall C_law_draw (gWel 0 (gDat (fOp oAdd (fOp (oIC CMulA fun i j => .int (i * j)) (fVarB 2) (fOp oIx (fVarB 1) (fC (.int 4)))) (fC (.int 1))) gaNil))) (fCons (fCall C_law_draw (gWel 0 (gDat (fOp oAdd (fOp (oIC CMulA fun i j => .int (i * j)) (fVarB 2) (fOp oIx (fVarB 1) (fC (.int 4)))) (fC (.int 1))) gaNil))) fNil)))
    (sRet (fCall C_law_grid (gDat (fVar 1) (gDat (fVar 3) (gDat (fVar 4) (gDat (fVar 2) gaNil))))))))
theorem ok_law_dot {k : Nat} {C_law_one_of C_law_draw C_law_grid : Ct} {C : Ct} (T : Txt K mg) {f : Addr} {fd : FuncData} (F : Fun K "_law_dot" "_law_dot" s_law_dot f fd) (hm : mg "_law_dot" = some (.ref f)) (hb : Binds K fd ["_law_spring_here", "_law_frame_here"] []) (c_law_one_of : Cal P W K mg base "_law_one_of" k 2 C_law_one_of) (c_law_draw : Cal P W K mg base "_law_draw" k 2 C_law_draw) (c_law_grid : Cal P W K mg base "_law_grid" k 4 C_law_grid) (hC : ∀ as S R, as.length = 2 → C as S R → (G_law_dot C_law_one_of C_law_draw C_law_grid) (ent N_law_dot as) S { nx := fun _ S' => R .none S', rt := R }) : Pro P W K mg base (k + 1) f fd ["_law_spring_here", "_law_frame_here"] (spC K 2 C) := by
  have nd := sc_law_dot.nd
  exact dfn_ok F sc_law_dot rfl (by decide) (fun cdv A outer s H E hr =>
    (s_cons (s_set 2 nd (d_call c_law_one_of (hr.mono (by omega)) (c_wel 0 (c_dat (d_tup (a_cons d_int (a_cons d_int (a_cons d_int (a_cons d_int (a_cons d_int a_nil)))))) c_nil))))
    (s_cons (s_par 3 4 rfl nd (a_cons (d_call c_law_draw (hr.mono (by omega)) (c_wel 0 (c_dat (d_add (b_of (d_mul (b_var 2) (b_of (d_ix (b_var 1) (b_of d_int))))) (b_of d_int)) c_nil))) (a_cons (d_call c_law_draw (hr.mono (by omega)) (c_wel 0 (c_dat (d_add (b_of (d_mul (b_var 2) (b_of (d_ix (b_var 1) (b_of d_int))))) (b_of d_int)) c_nil))) a_nil)))
    (s_one (s_ret (d_call c_law_grid (hr.mono (by omega)) (c_dat (d_var 1) (c_dat (d_var 3) (c_dat (d_var 4) (c_dat (d_var 2) c_nil)))))))))) hC
theorem bd_law_dot {k : Nat} {C_law_one_of C_law_draw C_law_grid : Ct} {C : Ct} (T : Txt K mg) {f : Addr} {fd : FuncData} (F : Fun K "_law_dot" "_law_dot" s_law_dot f fd) (hm : mg "_law_dot" = some (.ref f)) (hb : Binds K fd ["_law_spring_here", "_law_frame_here"] []) (c_law_one_of : Cal P W K mg base "_law_one_of" k 2 C_law_one_of) (c_law_draw : Cal P W K mg base "_law_draw" k 2 C_law_draw) (c_law_grid : Cal P W K mg base "_law_grid" k 4 C_law_grid) (hC : ∀ as S R, as.length = 2 → C as S R → (G_law_dot C_law_one_of C_law_draw C_law_grid) (ent N_law_dot as) S { nx := fun _ S' => R .none S', rt := R }) : Cal P W K mg base "_law_dot" (k + 1) 2 C := ⟨f, fd, _, ok_law_dot T F hm hb c_law_one_of c_law_draw c_law_grid hC, F.kp, hb, hm⟩
/-! _law_row -/
abbrev s_law_row : Stmt := top 60
abbrev N_law_row : List Str := ["_law_spring_here", "_law_frame_here", "_law_many", "_law_is_closed", "_law_wide", "_law_found", "_law_turn", "_law_shut", "_law_each"]
theorem sc_law_row : FnScope N_law_row ["_law_spring_here", "_law_frame_here", "_law_many", "_law_is_closed"] (defScope s_law_row) := ⟨rfl, rfl, rfl, by decide +kernel, rfl, by decide +kernel, by decide +kernel⟩
def G_law_row (C_law_draw C_law_one_of C_law_grid : Ct) : FS :=
    (sSeq (sSet 4 (fOp oIx (fVarB 1) (fC (.int 4))))
    (sSeq (sOwn 5 (fLst (fCons (fCall C_law_draw (gWel 0 (gDat (fOp (oIC CMulA fun i j => .int (i * j)) (fVarB 4) (fVarB 4)) gaNil))) fNil)))
    (sSeq (sFor (fiR2 (fC (.int 1)) (fVarB 2)) (gNm 6)
    (sSeq (sSet 7 (fIf (fAnd (fVarB 3) (fOp oEq (fVarB 6) (fOp (oI fun i j => .int (i - j)) (fVarB 2) (fC (.int 1))))) (fLst (fCons (fOp oIx (fVarB 5) (fUn oNeg (fC (.int 1)))) (fCons (fOp oIx (fVarB 5) (fC (.int 0))) fNil))) (fLst (fCons (fOp oIx (fVarB 5) (fUn oNeg (fC (.int 1)))) fNil))))
    (sApp 5 (fCall C_law_one_of (gWel 0 (gDat (fLc (fiR1 (fOp (oIC CMulA fun i j => .int (i * j)) (fVarB 4) (fVarB 4))) [8] (gNm 8) (fOp (oIn true) (fVarB 8) (fVarB 7)) (fVar 8)) gaNil))))))
    (sRet (fUn oTuple (fLc (fiL (fVarB 5)) [8] (gNm 8) (fC (.bool true)) (fCall C_law_grid (gDat (fVar 1) (gDat (fOp (oIC CDivW fun i j => .int (i / j)) (fVarB 8) (fVarB 4)) (gDat (fOp (oIC (fun _ j => 0 < j) fun i j => .int (i % j)) (fUn oInt (fVarB 8)) (fVarB 4)) (gDat (fC (.int 1)) gaNil)))))))))))
theorem ok_law_row {k : Nat} {C_law_draw C_law_one_of C_law_grid : Ct} {C : Ct} (T : Txt K mg) {f : Addr} {fd : FuncData} (F : Fun K "_law_row" "_law_row" s_law_row f fd) (hm : mg "_law_row" = some (.ref f)) (hb : Binds K fd ["_law_spring_here", "_law_frame_here", "_law_many", "_law_is_closed"] []) (c_law_draw : Cal P W K mg base "_law_draw" k 2 C_law_draw) (c_law_one_of : Cal P W K mg base "_law_one_of" k 2 C_law_one_of) (c_law_grid : Cal P W K mg base "_law_grid" k 4 C_law_grid) (hC : ∀ as S R, as.length = 4 → C as S R → (G_law_row C_law_draw C_law_one_of C_law_grid) (ent N_law_row as) S { nx := fun _ S' => R .none S', rt := R }) : Pro P W K mg base (k + 1) f fd ["_law_spring_here", "_law_frame_here", "_law_many", "_law_is_closed"] (spC K 4 C) := by
  have nd := sc_law_row.nd
  exact dfn_ok F sc_law_row rfl (by decide) (fun cdv A outer s H E hr =>
    (s_cons (s_set 4 nd (d_ix (b_var 1) (b_of d_int)))
    (s_cons (s_own 5 nd (n_lst (a_cons (d_call c_law_draw (hr.mono (by omega)) (c_wel 0 (c_dat (d_mul (b_var 4) (b_var 4)) c_nil))) a_nil)))
    (s_cons (s_for PassesOwn.never rfl (i_range2 (b_of d_int) (b_var 2) T.z_range) (g_name 6 nd)
    (s_cons (s_set 7 nd (d_if (PW.pt (w_and (t_val (b_var 3)) (w_and1 (t_cmp (op_eqH hr) sEq (b_var 6) (b_of (d_sub (b_var 2) (b_of d_int))))))) (d_lst (a_cons (d_ix (b_var 5) (b_of (d_neg (b_of d_int)))) (a_cons (d_ix (b_var 5) (b_of d_int)) a_nil))) (d_lst (a_cons (d_ix (b_var 5) (b_of (d_neg (b_of d_int)))) a_nil))))
    (s_one (s_app 5 (d_call c_law_one_of (hr.mono (by omega)) (c_wel 0 (c_dat (d_of_n (n_lc rfl nd (ic_of (i_range1 (b_of (d_mul (b_var 4) (b_var 4))) T.z_range)) (blkOk_by (own := [("_law_each", 8)]) (N := N_law_row) (sc := defScope s_law_row) (by decide +kernel)) (by decide) (fun _ _ _ _ _ => (g_name 8 nd)) (fun _ _ _ _ _ => (p_one (t_cmp op_notIn_seq sIn (b_var 8) (b_var 7)))) (fun _ _ _ _ _ => (d_var 8)))) c_nil)))))))
    (s_one (s_ret (d_callT call_tuple_of sTuple (b_of (d_of_n (n_lc rfl nd (ib_list (b_var 5)) (blkOk_by (own := [("_law_each", 8)]) (N := N_law_row) (sc := defScope s_law_row) (by decide +kernel)) (by decide) (fun _ _ _ _ _ => (g_name 8 nd)) (fun _ _ _ _ _ => p_nil) (fun _ _ _ _ _ => (d_call c_law_grid (hr.mono (by omega)) (c_dat (d_var 1) (c_dat (d_fdiv (b_var 8) (b_var 4)) (c_dat (d_mod (b_of (d_callT call_int1 sIntOf (b_var 8) T.z_int PyProof.Rows.boot_int)) (b_var 4)) (c_dat d_int c_nil))))))))) T.z_tuple PyProof.Rows.boot_tuple))))))) hC
theorem bd_law_row {k : Nat} {C_law_draw C_law_one_of C_law_grid : Ct} {C : Ct} (T : Txt K mg) {f : Addr} {fd : FuncData} (F : Fun K "_law_row" "_law_row" s_law_row f fd) (hm : mg "_law_row" = some (.ref f)) (hb : Binds K fd ["_law_spring_here", "_law_frame_here", "_law_many", "_law_is_closed"] []) (c_law_draw : Cal P W K mg base "_law_draw" k 2 C_law_draw) (c_law_one_of : Cal P W K mg base "_law_one_of" k 2 C_law_one_of) (c_law_grid : Cal P W K mg base "_law_grid" k 4 C_law_grid) (hC : ∀ as S R, as.length = 4 → C as S R → (G_law_row C_law_draw C_law_one_of C_law_grid) (ent N_law_row as) S { nx := fun _ S' => R .none S', rt := R }) : Cal P W K mg base "_law_row" (k + 1) 4 C := ⟨f, fd, _, ok_law_row T F hm hb c_law_draw c_law_one_of c_law_grid hC, F.kp, hb, hm⟩
/-! _law_box -/
abbrev s_law_box : Stmt := top 61
abbrev N_law_box : List Str := ["_law_spring_here", "_law_frame_here", "_law_i", "_law_j", "_law_k", "_law_m", "_law_row_here"]
theorem sc_law_box : FnScope N_law_box ["_law_spring_here", "_law_frame_here"] (defScope s_law_box) := ⟨rfl, rfl, rfl, by decide +kernel, rfl, by decide +kernel, by decide +kernel⟩
def G_law_box (C_law_draw C_law_grid : Ct) : FS :=
    (sSeq (sPar 2 3 (fCons (fCall C_law_draw (gWel 0 (gDat (fOp (oI fun i j => .int (i - j)) (fOp oIx (fVarB 1) (fC (.int 4))) (fC (.int 1))) gaNil))) (fCons (fCall C_law_draw (gWel 0 (gDat (fOp (oI fun i j => .int (i - j)) (fOp oIx (fVarB 1) (fC (.int 4))) (fC (.int 1))) gaNil))) fNil)))
    (sSeq (sPar 4 5 (fCons (fOp oAdd (fOp oAdd (fVarB 2) (fC (.int 1))) (fCall C_law_draw (gWel 0 (gDat (fOp (oI fun i j => .int (i - j)) (fOp (oI fun i j => .int (i - j)) (fOp oIx (fVarB 1) (fC (.int 4))) (fC (.int 1))) (fVarB 2)) gaNil)))) (fCons (fOp oAdd (fOp oAdd (fVarB 3) (fC (.int 1))) (fCall C_law_draw (gWel 0 (gDat (fOp (oI fun i j => .int (i - j)) (fOp (oI fun i j => .int (i - j)) (fOp oIx (fVarB 1) (fC (.int 4))) (fC (.int 1))) (fVarB 3)) gaNil)))) fNil)))
    (sSeq (sSet 6 (fLst (fCons (fCall C_law_grid (gDat (fVar 1) (gDat (fVar 2) (gDat (fVar 3) (gDat (fC (.int 1)) gaNil))))) (fCons (fCall C_law_grid (gDat (fVar 1) (gDat (fVar 4) (gDat (fVar 3) (gDat (fC (.int 1)) gaNil))))) (fCons (fCall C_law_grid (gDat (fVar 1) (gDat (fVar 4) (gDat (fVar 5) (gDat (fC (.int 1)) gaNil))))) (fCons (fCall C_law_grid (gDat (fVar 1) (gDat (fVar 2) (gDat (fVar 5) (gDat (fC (.int 1)) gaNil))))) fNil))))))
    (sRet (fUn oTuple (fIf (fOp oGt (fCall C_law_draw (gWel 0 (gDat (fC (.int 3)) gaNil))) (fC (.int 0))) (fVar 6) (fUn oBack (fVarB 6))))))))
theorem ok_law_box {k : Nat} {C_law_draw C_law_grid : Ct} {C : Ct} (T : Txt K mg) {f : Addr} {fd : FuncData} (F : Fun K "_law_box" "_law_box" s_law_box f fd) (hm : mg "_law_box" = some (.ref f)) (hb : Binds K fd ["_law_spring_here", "_law_frame_here"] []) (c_law_draw : Cal P W K mg base "_law_draw" k 2 C_law_draw) (c_law_grid : Cal P W K mg base "_law_grid" k 4 C_law_grid) (hC : ∀ as S R, as.length = 2 → C as S R → (G_law_box C_law_draw C_law_grid) (ent N_law_box as) S { nx := fun _ S' => R .none S', rt := R }) : Pro P W K mg base (k + 1) f fd ["_law_spring_here", "_law_frame_here"] (spC K 2 C) := by
  have nd := sc_law_box.nd
  exact dfn_ok F sc_law_box rfl (by decide) (fun cdv A outer s H E hr =>
    (s_cons (s_par 2 3 rfl nd (a_cons (d_call c_law_draw (hr.mono (by omega)) (c_wel 0 (c_dat (d_sub (b_of (d_ix (b_var 1) (b_of d_int))) (b_of d_int)) c_nil))) (a_cons (d_call c_law_draw (hr.mono (by omega)) (c_wel 0 (c_dat (d_sub (b_of (d_ix (b_var 1) (b_of d_int))) (b_of d_int)) c_nil))) a_nil)))
    (s_cons (s_par 4 5 rfl nd (a_cons (d_add (b_of (d_add (b_var 2) (b_of d_int))) (b_of (d_call c_law_draw (hr.mono (by omega)) (c_wel 0 (c_dat (d_sub (b_of (d_sub (b_of (d_ix (b_var 1) (b_of d_int))) (b_of d_int))) (b_var 2)) c_nil))))) (a_cons (d_add (b_of (d_add (b_var 3) (b_of d_int))) (b_of (d_call c_law_draw (hr.mono (by omega)) (c_wel 0 (c_dat (d_sub (b_of (d_sub (b_of (d_ix (b_var 1) (b_of d_int))) (b_of d_int))) (b_var 3)) c_nil))))) a_nil)))
    (s_cons (s_set 6 nd (d_lst (a_cons (d_call c_law_grid (hr.mono (by omega)) (c_dat (d_var 1) (c_dat (d_var 2) (c_dat (d_var 3) (c_dat d_int c_nil))))) (a_cons (d_call c_law_grid (hr.mono (by omega)) (c_dat (d_var 1) (c_dat (d_var 4) (c_dat (d_var 3) (c_dat d_int c_nil))))) (a_cons (d_call c_law_grid (hr.mono (by omega)) (c_dat (d_var 1) (c_dat (d_var 4) (c_dat (d_var 5) (c_dat d_int c_nil))))) (a_cons (d_call c_law_grid (hr.mono (by omega)) (c_dat (d_var 1) (c_dat (d_var 2) (c_dat (d_var 5) (c_dat d_int c_nil))))) a_nil))))))
    (s_one (s_ret (d_callT call_tuple_of sTuple (b_of (d_if (t_cmp op_gt sIntB (b_of (d_call c_law_draw (hr.mono (by omega)) (c_wel 0 (c_dat d_int c_nil)))) (b_of d_int)) (d_var 6) (d_back (b_var 6)))) T.z_tuple PyProof.Rows.boot_tuple))))))) hC
theorem bd_law_box {k : Nat} {C_law_draw C_law_grid : Ct} {C : Ct} (T : Txt K mg) {f : Addr} {fd : FuncData} (F : Fun K "_law_box" "_law_box" s_law_box f fd) (hm : mg "_law_box" = some (.ref f)) (hb : Binds K fd ["_law_spring_here", "_law_frame_here"] []) (c_law_draw : Cal P W K mg base "_law_draw" k 2 C_law_draw) (c_law_grid : Cal P W K mg base "_law_grid" k 4 C_law_grid) (hC : ∀ as S R, as.length = 2 → C as S R → (G_law_box C_law_draw C_law_grid) (ent N_law_box as) S { nx := fun _ S' => R .none S', rt := R }) : Cal P W K mg base "_law_box" (k + 1) 2 C := ⟨f, fd, _, ok_law_box T F hm hb c_law_draw c_law_grid hC, F.kp, hb, hm⟩
/-! _law_pairs -/
abbrev s_law_pairs : Stmt := top 62
abbrev N_law_pairs : List Str := ["_law_row_here", "_law_is_closed", "_law_found"]
theorem sc_law_pairs : FnScope N_law_pairs ["_law_row_here", "_law_is_closed"] (defScope s_law_pairs) := ⟨rfl, rfl, rfl, by decide +kernel, rfl, by decide +kernel, by decide +kernel⟩
def G_law_pairs : FS :=
    (sSeq (sOwn 2 (fZipL (fVar 0) (fSl (fVarB 0) (fP (fC (.int 1))) fNoP)))
    (sSeq (sIf (fVarB 1)
    (sApp 2 (fTup (fCons (fOp oIx (fVarB 0) (fUn oNeg (fC (.int 1)))) (fCons (fOp oIx (fVarB 0) (fC (.int 0))) fNil))))
    sNext)
    (sRetV 2)))
theorem ok_law_pairs {k : Nat} {C : Ct} (T : Txt K mg) {f : Addr} {fd : FuncData} (F : Fun K "_law_pairs" "_law_pairs" s_law_pairs f fd) (hm : mg "_law_pairs" = some (.ref f)) (hb : Binds K fd ["_law_row_here", "_law_is_closed"] []) (hC : ∀ as S R, as.length = 2 → C as S R → G_law_pairs (ent N_law_pairs as) S { nx := fun _ S' => R .none S', rt := R }) : Pro P W K mg base (k + 1) f fd ["_law_row_here", "_law_is_closed"] (spC K 2 C) := by
  have nd := sc_law_pairs.nd
  exact dfn_ok F sc_law_pairs rfl (by decide) (fun cdv A outer s H E hr =>
    (s_cons (s_own 2 nd (n_zipL rfl (d_var 0) (d_slice (b_var 0) (o_some (b_of d_int)) o_none) T.z_list T.z_zip))
    (s_cons (s_if (t_val (b_var 1))
    (s_one (s_app 2 (d_tup (a_cons (d_ix (b_var 0) (b_of (d_neg (b_of d_int)))) (a_cons (d_ix (b_var 0) (b_of d_int)) a_nil)))))
    s_nil)
    (s_one (s_retV 2))))) hC
theorem bd_law_pairs {k : Nat} {C : Ct} (T : Txt K mg) {f : Addr} {fd : FuncData} (F : Fun K "_law_pairs" "_law_pairs" s_law_pairs f fd) (hm : mg "_law_pairs" = some (.ref f)) (hb : Binds K fd ["_law_row_here", "_law_is_closed"] []) (hC : ∀ as S R, as.length = 2 → C as S R → G_law_pairs (ent N_law_pairs as) S { nx := fun _ S' => R .none S', rt := R }) : Cal P W K mg base "_law_pairs" (k + 1) 2 C := ⟨f, fd, _, ok_law_pairs T F hm hb hC, F.kp, hb, hm⟩
/-! _law_lines -/
abbrev s_law_lines : Stmt := top 63
abbrev N_law_lines : List Str := ["_law_spring_here", "_law_frame_here", "_law_most", "_law_found", "_law_many", "_law_turn", "_law_branch", "_law_end", "_law_some"]
theorem sc_law_lines : FnScope N_law_lines ["_law_spring_here", "_law_frame_here", "_law_most"] (defScope s_law_lines) := ⟨rfl, rfl, rfl, by decide +kernel, rfl, by decide +kernel, by decide +kernel⟩
def G_law_lines (C_law_draw C_law_pairs C_law_box C_law_row C_law_one_of : Ct) : FS :=
    (sSeq (sParO 3 4 (fOp (oI fun i j => .int (i - j)) (fVarB 2) (fCall C_law_draw (gWel 0 (gDat (fIf (fOp oGt (fCall C_law_draw (gWel 0 (gDat (fC (.int 4)) gaNil))) (fC (.int 0))) (fOp oAdd (fOp (oIC CDivW fun i j => .int (i / j)) (fVarB 2) (fC (.int 2))) (fC (.int 1))) (fOp oAdd (fVarB 2) (fC (.int 1)))) gaNil)))))
    (sSeq (sFor (fiR1 (fVarB 4)) (gNm 5)
    (sSeq (sSet 6 (fCall C_law_draw (gWel 0 (gDat (fC (.int 8)) gaNil))))
    (sIf (fAnd (fOp oEq (fVarB 6) (fC (.int 0))) (fOp oLe (fOp oAdd (fUn oLen (fVarB 3)) (fC (.int 4))) (fVarB 4)))
    (sOwn 3 (fOp oCatL (fVarB 3) (fCall C_law_pairs (gDat (fCall C_law_box (gWel 0 (gDat (fVar 1) gaNil))) (gDat (fC (.bool true)) gaNil)))))
    (sIf (fAnd (fOp oLt (fVarB 6) (fC (.int 3))) (fOp oLe (fOp oAdd (fUn oLen (fVarB 3)) (fC (.int 3))) (fVarB 4)))
    (sOwn 3 (fOp oCatL (fVarB 3) (fCall C_law_pairs (gDat (fCall C_law_row (gWel 0 (gDat (fVar 1) (gDat (fC (.int 3)) (gDat (fC (.bool true)) gaNil))))) (gDat (fC (.bool true)) gaNil)))))
    (sIf (fAnd (fOp oLt (fVarB 6) (fC (.int 5))) (fAnd (fOp oNe (fVarB 3) (fLst fNil)) (fOp oLt (fUn oLen (fVarB 3)) (fVarB 4))))
    (sSeq (sPar 7 8 (fCons (fLend 3 (fOp oIx (fCall C_law_one_of (gWel 0 (gDat (fVar 3) gaNil))) (fC (.int 1)))) (fCons (fCall C_law_row (gWel 0 (gDat (fVar 1) (gDat (fC (.int 2)) (gDat (fC (.bool false)) gaNil))))) fNil)))
    (sApp 3 (fTup (fCons (fVar 7) (fCons (fIf (fOp oNe (fOp oIx (fVarB 8) (fC (.int 0))) (fVarB 7)) (fOp oIx (fVarB 8) (fC (.int 0))) (fOp oIx (fVarB 8) (fC (.int 1)))) fNil)))))
    (sIf (fAnd (fOp oEq (fVarB 6) (fC (.int 5))) (fAnd (fOp oNe (fVarB 3) (fLst fNil)) (fOp oLt (fUn oLen (fVarB 3)) (fVarB 4))))
    (sApp 3 (fLend 3 (fOp oStep (fCall C_law_one_of (gWel 0 (gDat (fVar 3) gaNil))) (fCall C_law_one_of (gWel 0 (gDat (fTup (fCons (fC (.int 1)) (fCons (fUn oNeg (fC (.int 1))) fNil))) gaNil))))))
    (sIf (fOp oLt (fUn oLen (fVarB 3)) (fVarB 4))
    (sApp 3 (fCall C_law_row (gWel 0 (gDat (fVar 1) (gDat (fC (.int 2)) (gDat (fC (.bool false)) gaNil))))))
    sNext)))))))
    (sRetV 3)))
theorem ok_law_lines {k : Nat} {C_law_draw C_law_pairs C_law_box C_law_row C_law_one_of : Ct} {C : Ct} (T : Txt K mg) {f : Addr} {fd : FuncData} (F : Fun K "_law_lines" "_law_lines" s_law_lines f fd) (hm : mg "_law_lines" = some (.ref f)) (hb : Binds K fd ["_law_spring_here", "_law_frame_here", "_law_most"] []) (c_law_draw : Cal P W K mg base "_law_draw" k 2 C_law_draw) (c_law_pairs : Cal P W K mg base "_law_pairs" k 2 C_law_pairs) (c_law_box : Cal P W K mg base "_law_box" k 2 C_law_box) (c_law_row : Cal P W K mg base "_law_row" k 4 C_law_row) (c_law_one_of : Cal P W K mg base "_law_one_of" k 2 C_law_one_of) (hC : ∀ as S R, as.length = 3 → C as S R → (G_law_lines C_law_draw C_law_pairs C_law_box C_law_row C_law_one_of) (ent N_law_lines as) S { nx := fun _ S' => R .none S', rt := R }) : Pro P W K mg base (k + 1) f fd ["_law_spring_here", "_law_frame_here", "_law_most"] (spC K 3 C) := by
  have nd := sc_law_lines.nd
  exact dfn_ok F sc_law_lines rfl (by decide) (fun cdv A outer s H E hr =>
    (s_cons (s_parO 3 4 rfl nd (d_sub (b_var 2) (b_of (d_call c_law_draw (hr.mono (by omega)) (c_wel 0 (c_dat (d_if (t_cmp op_gt sIntB (b_of (d_call c_law_draw (hr.mono (by omega)) (c_wel 0 (c_dat d_int c_nil)))) (b_of d_int)) (d_add (b_of (d_fdiv (b_var 2) (b_of d_int))) (b_of d_int)) (d_add (b_var 2) (b_of d_int))) c_nil))))))
    (s_cons (s_for PassesOwn.never rfl (i_range1 (b_var 4) T.z_range) (g_name 5 nd)
    (s_cons (s_set 6 nd (d_call c_law_draw (hr.mono (by omega)) (c_wel 0 (c_dat d_int c_nil))))
    (s_one (s_if (PW.pt (w_and (t_cmp (op_eqH hr) sEq (b_var 6) (b_of d_int)) (w_and1 (t_cmp op_le sIntB (b_of (d_add (b_of (d_callB call_len sLen (b_var 3) T.z_len PySem.boot_len)) (b_of d_int))) (b_var 4)))))
    (s_one (s_own 3 nd (n_add (b_var 3) (b_of (d_call c_law_pairs (hr.mono (by omega)) (c_dat (d_call c_law_box (hr.mono (by omega)) (c_wel 0 (c_dat (d_var 1) c_nil))) (c_dat d_bool c_nil)))))))
    (s_one (s_if (PW.pt (w_and (t_cmp op_ltA sLt (b_var 6) (b_of d_int)) (w_and1 (t_cmp op_le sIntB (b_of (d_add (b_of (d_callB call_len sLen (b_var 3) T.z_len PySem.boot_len)) (b_of d_int))) (b_var 4)))))
    (s_one (s_own 3 nd (n_add (b_var 3) (b_of (d_call c_law_pairs (hr.mono (by omega)) (c_dat (d_call c_law_row (hr.mono (by omega)) (c_wel 0 (c_dat (d_var 1) (c_dat d_int (c_dat d_bool c_nil))))) (c_dat d_bool c_nil)))))))
    (s_one (s_if (PW.pt (w_and (t_cmp op_ltA sLt (b_var 6) (b_of d_int)) (w_and (t_cmp (op_neH hr) sNe (b_var 3) (b_of (d_lst a_nil))) (w_and1 (t_cmp op_ltA sLt (b_of (d_callB call_len sLen (b_var 3) T.z_len PySem.boot_len)) (b_var 4))))))
    (s_cons (s_par 7 8 rfl nd (a_cons (d_lend 3 (d_ix (b_of (d_call c_law_one_of (hr.mono (by omega)) (c_wel 0 (c_dat (d_var 3) c_nil)))) (b_of d_int))) (a_cons (d_call c_law_row (hr.mono (by omega)) (c_wel 0 (c_dat (d_var 1) (c_dat d_int (c_dat d_bool c_nil))))) a_nil)))
    (s_one (s_app 3 (d_tup (a_cons (d_var 7) (a_cons (d_if (t_cmp (op_neH hr) sNe (b_of (d_ix (b_var 8) (b_of d_int))) (b_var 7)) (d_ix (b_var 8) (b_of d_int)) (d_ix (b_var 8) (b_of d_int))) a_nil))))))
    (s_one (s_if (PW.pt (w_and (t_cmp (op_eqH hr) sEq (b_var 6) (b_of d_int)) (w_and (t_cmp (op_neH hr) sNe (b_var 3) (b_of (d_lst a_nil))) (w_and1 (t_cmp op_ltA sLt (b_of (d_callB call_len sLen (b_var 3) T.z_len PySem.boot_len)) (b_var 4))))))
    (s_one (s_app 3 (d_lend 3 (d_step (d_call c_law_one_of (hr.mono (by omega)) (c_wel 0 (c_dat (d_var 3) c_nil))) (d_call c_law_one_of (hr.mono (by omega)) (c_wel 0 (c_dat (d_tup (a_cons d_int (a_cons (d_neg (b_of d_int)) a_nil))) c_nil)))))))
    (s_one (s_if (t_cmp op_ltA sLt (b_of (d_callB call_len sLen (b_var 3) T.z_len PySem.boot_len)) (b_var 4))
    (s_one (s_app 3 (d_call c_law_row (hr.mono (by omega)) (c_wel 0 (c_dat (d_var 1) (c_dat d_int (c_dat d_bool c_nil)))))))
    s_nil))))))))))))
    (s_one (s_retV 3))))) hC
theorem bd_law_lines {k : Nat} {C_law_draw C_law_pairs C_law_box C_law_row C_law_one_of : Ct} {C : Ct} (T : Txt K mg) {f : Addr} {fd : FuncData} (F : Fun K "_law_lines" "_law_lines" s_law_lines f fd) (hm : mg "_law_lines" = some (.ref f)) (hb : Binds K fd ["_law_spring_here", "_law_frame_here", "_law_most"] []) (c_law_draw : Cal P W K mg base "_law_draw" k 2 C_law_draw) (c_law_pairs : Cal P W K mg base "_law_pairs" k 2 C_law_pairs) (c_law_box : Cal P W K mg base "_law_box" k 2 C_law_box) (c_law_row : Cal P W K mg base "_law_row" k 4 C_law_row) (c_law_one_of : Cal P W K mg base "_law_one_of" k 2 C_law_one_of) (hC : ∀ as S R, as.length = 3 → C as S R → (G_law_lines C_law_draw C_law_pairs C_law_box C_law_row C_law_one_of) (ent N_law_lines as) S { nx := fun _ S' => R .none S', rt := R }) : Cal P W K mg base "_law_lines" (k + 1) 3 C := ⟨f, fd, _, ok_law_lines T F hm hb c_law_draw c_law_pairs c_law_box c_law_row c_law_one_of hC, F.kp, hb, hm⟩
/-! _law_places -/
abbrev s_law_places : Stmt := top 64
abbrev N_law_places : List Str := ["_law_lines_here", "_law_each"]
theorem sc_law_places : FnScope N_law_places ["_law_lines_here"] (defScope s_law_places) := ⟨rfl, rfl, rfl, by decide +kernel, rfl, by decide +kernel, by decide +kernel⟩
def G_law_places (C_law_own : Ct) : FS :=
    (sRet (fLc (fiA (fVar 0)) [1] (gNm 1) (fC (.bool true)) (fTup (fCons (fCall C_law_own (gDat (fOp oIx (fVarB 1) (fC (.int 0))) gaNil)) (fCons (fCall C_law_own (gDat (fOp oIx (fVarB 1) (fC (.int 1))) gaNil)) fNil)))))
theorem ok_law_places {k : Nat} {C_law_own : Ct} {C : Ct} (T : Txt K mg) {f : Addr} {fd : FuncData} (F : Fun K "_law_places" "_law_places" s_law_places f fd) (hm : mg "_law_places" = some (.ref f)) (hb : Binds K fd ["_law_lines_here"] []) (c_law_own : Cal P W K mg base "_law_own" k 1 C_law_own) (hC : ∀ as S R, as.length = 1 → C as S R → (G_law_places C_law_own) (ent N_law_places as) S { nx := fun _ S' => R .none S', rt := R }) : Pro P W K mg base (k + 1) f fd ["_law_lines_here"] (spC K 1 C) := by
  have nd := sc_law_places.nd
  exact dfn_ok F sc_law_places rfl (by decide) (fun cdv A outer s H E hr =>
    (s_one (s_ret (d_of_n (n_lc rfl nd (ic_of (i_any (d_var 0))) (blkOk_by (own := [("_law_each", 1)]) (N := N_law_places) (sc := defScope s_law_places) (by decide +kernel)) (by decide) (fun _ _ _ _ _ => (g_name 1 nd)) (fun _ _ _ _ _ => p_nil) (fun _ _ _ _ _ => (d_tup (a_cons (d_call c_law_own (hr.mono (by omega)) (c_dat (d_ix (b_var 1) (b_of d_int)) c_nil)) (a_cons (d_call c_law_own (hr.mono (by omega)) (c_dat (d_ix (b_var 1) (b_of d_int)) c_nil)) a_nil))))))))) hC
theorem bd_law_places {k : Nat} {C_law_own : Ct} {C : Ct} (T : Txt K mg) {f : Addr} {fd : FuncData} (F : Fun K "_law_places" "_law_places" s_law_places f fd) (hm : mg "_law_places" = some (.ref f)) (hb : Binds K fd ["_law_lines_here"] []) (c_law_own : Cal P W K mg base "_law_own" k 1 C_law_own) (hC : ∀ as S R, as.length = 1 → C as S R → (G_law_places C_law_own) (ent N_law_places as) S { nx := fun _ S' => R .none S', rt := R }) : Cal P W K mg base "_law_places" (k + 1) 1 C := ⟨f, fd, _, ok_law_places T F hm hb c_law_own hC, F.kp, hb, hm⟩
/-! _law_middle -/
abbrev s_law_middle : Stmt := top 65
abbrev N_law_middle : List Str := ["_law_p", "_law_q"]
theorem sc_law_middle : FnScope N_law_middle ["_law_p", "_law_q"] (defScope s_law_middle) := ⟨rfl, rfl, rfl, by decide +kernel, rfl, by decide +kernel, by decide +kernel⟩
def G_law_middle (C_law_place : Ct) : FS :=
    (sRet (fCall C_law_place (gDat (fOp oAdd (fOp (oIC CMulA fun i j => .int (i * j)) (fOp oIx (fVarB 0) (fC (.int 0))) (fOp oIx (fVarB 1) (fC (.int 2)))) (fOp (oIC CMulA fun i j => .int (i * j)) (fOp oIx (fVarB 1) (fC (.int 0))) (fOp oIx (fVarB 0) (fC (.int 2))))) (gDat (fOp oAdd (fOp (oIC CMulA fun i j => .int (i * j)) (fOp oIx (fVarB 0) (fC (.int 1))) (fOp oIx (fVarB 1) (fC (.int 2)))) (fOp (oIC CMulA fun i j => .int (i * j)) (fOp oIx (fVarB 1) (fC (.int 1))) (fOp oIx (fVarB 0) (fC (.int 2))))) (gDat (fOp (oIC CMulA fun i j => .int (i * j)) (fOp (oIC CMulA fun i j => .int (i * j)) (fC (.int 2)) (fOp oIx (fVarB 0) (fC (.int 2)))) (fOp oIx (fVarB 1) (fC (.int 2)))) gaNil)))))
theorem ok_law_middle {k : Nat} {C_law_place : Ct} {C : Ct} (T : Txt K mg) {f : Addr} {fd : FuncData} (F : Fun K "_law_middle" "_law_middle" s_law_middle f fd) (hm : mg "_law_middle" = some (.ref f)) (hb : Binds K fd ["_law_p", "_law_q"] []) (c_law_place : Cal P W K mg base "_law_place" k 3 C_law_place) (hC : ∀ as S R, as.length = 2 → C as S R → (G_law_middle C_law_place) (ent N_law_middle as) S { nx := fun _ S' => R .none S', rt := R }) : Pro P W K mg base (k + 1) f fd ["_law_p", "_law_q"] (spC K 2 C) := by
  have nd := sc_law_middle.nd
  exact dfn_ok F sc_law_middle rfl (by decide) (fun cdv A outer s H E hr =>
    (s_one (s_ret (d_call c_law_place (hr.mono (by omega)) (c_dat (d_add (b_of (d_mul (b_of (d_ix (b_var 0) (b_of d_int))) (b_of (d_ix (b_var 1) (b_of d_int))))) (b_of (d_mul (b_of (d_ix (b_var 1) (b_of d_int))) (b_of (d_ix (b_var 0) (b_of d_int)))))) (c_dat (d_add (b_of (d_mul (b_of (d_ix (b_var 0) (b_of d_int))) (b_of (d_ix (b_var 1) (b_of d_int))))) (b_of (d_mul (b_of (d_ix (b_var 1) (b_of d_int))) (b_of (d_ix (b_var 0) (b_of d_int)))))) (c_dat (d_mul (b_of (d_mul (b_of d_int) (b_of (d_ix (b_var 0) (b_of d_int))))) (b_of (d_ix (b_var 1) (b_of d_int)))) c_nil))))))) hC
theorem bd_law_middle {k : Nat} {C_law_place : Ct} {C : Ct} (T : Txt K mg) {f : Addr} {fd : FuncData} (F : Fun K "_law_middle" "_law_middle" s_law_middle f fd) (hm : mg "_law_middle" = some (.ref f)) (hb : Binds K fd ["_law_p", "_law_q"] []) (c_law_place : Cal P W K mg base "_law_place" k 3 C_law_place) (hC : ∀ as S R, as.length = 2 → C as S R → (G_law_middle C_law_place) (ent N_law_middle as) S { nx := fun _ S' => R .none S', rt := R }) : Cal P W K mg base "_law_middle" (k + 1) 2 C := ⟨f, fd, _, ok_law_middle T F hm hb c_law_place hC, F.kp, hb, hm⟩
/-! _law_any_place -/
abbrev s_law_any_place : Stmt := top 66
abbrev N_law_any_place : List Str := ["_law_spring_here", "_law_frame_here", "_law_shuts", "_law_lone", "_law_branch", "_law_one", "_law_two", "_law_some"]
theorem sc_law_any_place : FnScope N_law_any_place ["_law_spring_here", "_law_frame_here", "_law_shuts", "_law_lone"] (defScope s_law_any_place) := ⟨rfl, rfl, rfl, by decide +kernel, rfl, by decide +kernel, by decide +kernel⟩
def G_law_any_place (C_law_draw C_law_one_of C_law_meet C_law_middle C_law_own C_law_dot : Ct) : FS :=
    (sSeq (sSet 4 (fCall C_law_draw (gWel 0 (gDat (fC (.int 7)) gaNil))))
    (sSeq (sIf (fAnd (fOp oLt (fVarB 4) (fC (.int 4))) (fOp oNe (fVarB 2) (fLst fNil)))
    (sSeq (sPar 5 6 (fCons (fCall C_law_one_of (gWel 0 (gDat (fVar 2) gaNil))) (fCons (fCall C_law_one_of (gWel 0 (gDat (fVar 2) gaNil))) fNil)))
    (sSeq (sSet 7 (fIf (fOp oEq (fVarB 4) (fC (.int 2))) (fCall C_law_meet (gDat (fVar 5) (gDat (fVar 6) gaNil))) (fIf (fOp oEq (fVarB 4) (fC (.int 1))) (fLst (fCons (fOp oIx (fVarB 5) (fC (.int 0))) fNil)) (fLst fNil))))
    (sSeq (sIf (fOp oNe (fVarB 7) (fLst fNil))
    (sRet (fCall C_law_one_of (gWel 0 (gDat (fVar 7) gaNil))))
    sNext)
    (sRet (fIf (fOp oEq (fVarB 4) (fC (.int 0))) (fCall C_law_middle (gDat (fOp oIx (fVarB 5) (fC (.int 0))) (gDat (fOp oIx (fVarB 5) (fC (.int 1))) gaNil))) (fCall C_law_middle (gDat (fOp oIx (fVarB 6) (fC (.int 0))) (gDat (fOp oIx (fVarB 5) (fC (.int 1))) gaNil))))))))
    sNext)
    (sSeq (sIf (fAnd (fOp oEq (fVarB 4) (fC (.int 4))) (fOp oNe (fVarB 3) (fLst fNil)))
    (sRet (fCall C_law_one_of (gWel 0 (gDat (fVar 3) gaNil))))
    sNext)
    (sRet (fCall C_law_own (gDat (fCall C_law_dot (gWel 0 (gDat (fVar 1) gaNil))) gaNil))))))
theorem ok_law_any_place {k : Nat} {C_law_draw C_law_one_of C_law_meet C_law_middle C_law_own C_law_dot : Ct} {C : Ct} (T : Txt K mg) {f : Addr} {fd : FuncData} (F : Fun K "_law_any_place" "_law_any_place" s_law_any_place f fd) (hm : mg "_law_any_place" = some (.ref f)) (hb : Binds K fd ["_law_spring_here", "_law_frame_here", "_law_shuts", "_law_lone"] []) (c_law_draw : Cal P W K mg base "_law_draw" k 2 C_law_draw) (c_law_one_of : Cal P W K mg base "_law_one_of" k 2 C_law_one_of) (c_law_meet : Cal P W K mg base "_law_meet" k 2 C_law_meet) (c_law_middle : Cal P W K mg base "_law_middle" k 2 C_law_middle) (c_law_own : Cal P W K mg base "_law_own" k 1 C_law_own) (c_law_dot : Cal P W K mg base "_law_dot" k 2 C_law_dot) (hC : ∀ as S R, as.length = 4 → C as S R → (G_law_any_place C_law_draw C_law_one_of C_law_meet C_law_middle C_law_own C_law_dot) (ent N_law_any_place as) S { nx := fun _ S' => R .none S', rt := R }) : Pro P W K mg base (k + 1) f fd ["_law_spring_here", "_law_frame_here", "_law_shuts", "_law_lone"] (spC K 4 C) := by
  have nd := sc_law_any_place.nd
  exact dfn_ok F sc_law_any_place rfl (by decide) (fun cdv A outer s H E hr =>
    (s_cons (s_set 4 nd (d_call c_law_draw (hr.mono (by omega)) (c_wel 0 (c_dat d_int c_nil))))
    (s_cons (s_if (PW.pt (w_and (t_cmp op_ltA sLt (b_var 4) (b_of d_int)) (w_and1 (t_cmp (op_neH hr) sNe (b_var 2) (b_of (d_lst a_nil))))))
    (s_cons (s_par 5 6 rfl nd (a_cons (d_call c_law_one_of (hr.mono (by omega)) (c_wel 0 (c_dat (d_var 2) c_nil))) (a_cons (d_call c_law_one_of (hr.mono (by omega)) (c_wel 0 (c_dat (d_var 2) c_nil))) a_nil)))
    (s_cons (s_set 7 nd (d_if (t_cmp (op_eqH hr) sEq (b_var 4) (b_of d_int)) (d_call c_law_meet (hr.mono (by omega)) (c_dat (d_var 5) (c_dat (d_var 6) c_nil))) (d_if (t_cmp (op_eqH hr) sEq (b_var 4) (b_of d_int)) (d_lst (a_cons (d_ix (b_var 5) (b_of d_int)) a_nil)) (d_lst a_nil))))
    (s_cons (s_if (t_cmp (op_neH hr) sNe (b_var 7) (b_of (d_lst a_nil)))
    (s_one (s_ret (d_call c_law_one_of (hr.mono (by omega)) (c_wel 0 (c_dat (d_var 7) c_nil)))))
    s_nil)
    (s_one (s_ret (d_if (t_cmp (op_eqH hr) sEq (b_var 4) (b_of d_int)) (d_call c_law_middle (hr.mono (by omega)) (c_dat (d_ix (b_var 5) (b_of d_int)) (c_dat (d_ix (b_var 5) (b_of d_int)) c_nil))) (d_call c_law_middle (hr.mono (by omega)) (c_dat (d_ix (b_var 6) (b_of d_int)) (c_dat (d_ix (b_var 5) (b_of d_int)) c_nil)))))))))
    s_nil)
    (s_cons (s_if (PW.pt (w_and (t_cmp (op_eqH hr) sEq (b_var 4) (b_of d_int)) (w_and1 (t_cmp (op_neH hr) sNe (b_var 3) (b_of (d_lst a_nil))))))
    (s_one (s_ret (d_call c_law_one_of (hr.mono (by omega)) (c_wel 0 (c_dat (d_var 3) c_nil)))))
    s_nil)
    (s_one (s_ret (d_call c_law_own (hr.mono (by omega)) (c_dat (d_call c_law_dot (hr.mono (by omega)) (c_wel 0 (c_dat (d_var 1) c_nil))) c_nil)))))))) hC
theorem bd_law_any_place {k : Nat} {C_law_draw C_law_one_of C_law_meet C_law_middle C_law_own C_law_dot : Ct} {C : Ct} (T : Txt K mg) {f : Addr} {fd : FuncData} (F : Fun K "_law_any_place" "_law_any_place" s_law_any_place f fd) (hm : mg "_law_any_place" = some (.ref f)) (hb : Binds K fd ["_law_spring_here", "_law_frame_here", "_law_shuts", "_law_lone"] []) (c_law_draw : Cal P W K mg base "_law_draw" k 2 C_law_draw) (c_law_one_of : Cal P W K mg base "_law_one_of" k 2 C_law_one_of) (c_law_meet : Cal P W K mg base "_law_meet" k 2 C_law_meet) (c_law_middle : Cal P W K mg base "_law_middle" k 2 C_law_middle) (c_law_own : Cal P W K mg base "_law_own" k 1 C_law_own) (c_law_dot : Cal P W K mg base "_law_dot" k 2 C_law_dot) (hC : ∀ as S R, as.length = 4 → C as S R → (G_law_any_place C_law_draw C_law_one_of C_law_meet C_law_middle C_law_own C_law_dot) (ent N_law_any_place as) S { nx := fun _ S' => R .none S', rt := R }) : Cal P W K mg base "_law_any_place" (k + 1) 4 C := ⟨f, fd, _, ok_law_any_place T F hm hb c_law_draw c_law_one_of c_law_meet c_law_middle c_law_own c_law_dot hC, F.kp, hb, hm⟩
/-! _law_right -/
abbrev s_law_right : Stmt := top 67
abbrev N_law_right : List Str := ["_law_spring_here", "_law_frame_here", "_law_lines_here", "_law_shuts", "_law_lone", "_law_dots", "_law_corners", "_law_edges", "_law_due", "_law_back", "_law_turn", "_law_each"]
theorem sc_law_right : FnScope N_law_right ["_law_spring_here"] (defScope s_law_right) := ⟨rfl, rfl, rfl, by decide +kernel, rfl, by decide +kernel, by decide +kernel⟩
def G_law_right (C_law_frame C_law_lines C_law_one_of C_law_places C_law_draw C_law_any_place C_law_told C_law_cut C_edges_of C_vertices_of : Ct) : FS :=
    (sSeq (sSet 1 (fCall C_law_frame (gWel 0 gaNil)))
    (sSeq (sSet 2 (fUn oTuple (fCall C_law_lines (gWel 0 (gDat (fVar 1) (gDat (fCall C_law_one_of (gWel 0 (gDat (fTup (fCons (fC (.int 4)) (fCons (fC (.int 6)) (fCons (fC (.int 6)) (fCons (fC (.int 8)) (fCons (fC (.int 8)) (fCons (fC (.int 12)) fNil))))))) gaNil))) gaNil))))))
    (sSeq (sSet 3 (fCall C_law_places (gDat (fVar 2) gaNil)))
    (sSeq (sSet 4 (fLc (fiR1 (fCall C_law_draw (gWel 0 (gDat (fC (.int 4)) gaNil)))) [10] (gNm 10) (fC (.bool true)) (fCall C_law_any_place (gWel 0 (gDat (fVar 1) (gDat (fVar 3) (gDat (fLst fNil) gaNil)))))))
    (sSeq (sSet 5 (fUn oTuple (fLc (fiL (fVar 4)) [11] (gNm 11) (fC (.bool true)) (fCall C_law_told (gDat (fVar 11) gaNil)))))
    (sSeq (sAsg (fCall C_law_cut (gDat (fVar 3) (gDat (fVar 4) gaNil))) (gTp 2 (gsCons (gNm 6) (gsCons (gNm 7) gsNil))))
    (sSeq (sSet 8 (fLst (fCons (fUn oTuple (fLc (fiL (fVar 6)) [11] (gNm 11) (fC (.bool true)) (fCall C_law_told (gDat (fVar 11) gaNil)))) (fCons (fUn oTuple (fVarB 7)) fNil))))
    (sSeq (sIf (fOp oNe (fUn oReprG (fLst (fCons (fCall C_vertices_of (gDat (fVar 2) (gDat (fVar 5) gaNil))) (fCons (fCall C_edges_of (gDat (fVar 2) (gDat (fVar 5) gaNil))) fNil)))) (fUn oReprG (fVarB 8)))
    (sRet (fC (.bool false)))
    sNext)
    (sSeq (sSet 9 (fUn oTuple (fLc (fiT (fUn oBack (fVarB 2))) [11] (gNm 11) (fC (.bool true)) (fUn oBack (fVarB 11)))))
    (sRet (fOp oEq (fUn oReprG (fLst (fCons (fCallK C_vertices_of pm10 (gDat (fOp oAdd (fVarB 5) (fVarB 5)) (gDat (fVar 9) gaNil))) (fCons (fCallK C_edges_of pm10 (gDat (fUn oBack (fVarB 5)) (gDat (fVar 9) gaNil))) fNil)))) (fUn oReprG (fVarB 8)))))))))))))
theorem ok_law_right {k : Nat} {C_law_frame C_law_lines C_law_one_of C_law_places C_law_draw C_law_any_place C_law_told C_law_cut C_edges_of C_vertices_of : Ct} {C : Ct} (T : Txt K mg) {f : Addr} {fd : FuncData} (F : Fun K "_law_right" "_law_right" s_law_right f fd) (hm : mg "_law_right" = some (.ref f)) (hb : Binds K fd ["_law_spring_here"] []) (c_law_frame : Cal P W K mg base "_law_frame" k 1 C_law_frame) (c_law_lines : Cal P W K mg base "_law_lines" k 3 C_law_lines) (c_law_one_of : Cal P W K mg base "_law_one_of" k 2 C_law_one_of) (c_law_places : Cal P W K mg base "_law_places" k 1 C_law_places) (c_law_draw : Cal P W K mg base "_law_draw" k 2 C_law_draw) (c_law_any_place : Cal P W K mg base "_law_any_place" k 4 C_law_any_place) (c_law_told : Cal P W K mg base "_law_told" k 1 C_law_told) (c_law_cut : Cal P W K mg base "_law_cut" k 2 C_law_cut) (c_edges_of : Cal P W K mg base "edges_of" k 2 C_edges_of) (c_vertices_of : Cal P W K mg base "vertices_of" k 2 C_vertices_of) (k_edges_of__points_segments : CalK P W K mg base "edges_of" k 2 C_edges_of [PySem.Str.ofString "points", PySem.Str.ofString "segments"] pm10) (k_vertices_of__points_segments : CalK P W K mg base "vertices_of" k 2 C_vertices_of [PySem.Str.ofString "points", PySem.Str.ofString "segments"] pm10) (hC : ∀ as S R, as.length = 1 → C as S R → (G_law_right C_law_frame C_law_lines C_law_one_of C_law_places C_law_draw C_law_any_place C_law_told C_law_cut C_edges_of C_vertices_of) (ent N_law_right as) S { nx := fun _ S' => R .none S', rt := R }) : Pro P W K mg base (k + 1) f fd ["_law_spring_here"] (spC K 1 C) := by
  have nd := sc_law_right.nd
  exact dfn_ok F sc_law_right rfl (by decide) (fun cdv A outer s H E hr =>
    (s_cons (s_set 1 nd (d_call c_law_frame (hr.mono (by omega)) (c_wel 0 c_nil)))
    (s_cons (s_set 2 nd (d_callT call_tuple_of sTuple (b_of (d_call c_law_lines (hr.mono (by omega)) (c_wel 0 (c_dat (d_var 1) (c_dat (d_call c_law_one_of (hr.mono (by omega)) (c_wel 0 (c_dat (d_tup (a_cons d_int (a_cons d_int (a_cons d_int (a_cons d_int (a_cons d_int (a_cons d_int a_nil))))))) c_nil))) c_nil))))) T.z_tuple PyProof.Rows.boot_tuple))
    (s_cons (s_set 3 nd (d_call c_law_places (hr.mono (by omega)) (c_dat (d_var 2) c_nil)))
    (s_cons (s_setLcD 4 rfl nd (ic_of (i_range1 (b_of (d_call c_law_draw (hr.mono (by omega)) (c_wel 0 (c_dat d_int c_nil)))) T.z_range)) (blkOk_by (own := [("_law_turn", 10)]) (N := N_law_right) (sc := defScope s_law_right) (by decide +kernel)) (by decide) (fun _ _ _ _ _ => (g_name 10 nd)) (fun _ _ _ _ _ => p_nil) (fun _ _ _ _ _ => (d_call c_law_any_place (hr.mono (by omega)) (c_wel 0 (c_dat (d_var 1) (c_dat (d_var 3) (c_dat (d_lst a_nil) c_nil)))))) (sw_true rfl rfl rfl (by decide +kernel)))
    (s_cons (s_set 5 nd (d_callT call_tuple_of sTuple (b_of (d_of_n (n_lc rfl nd (ic_of (i_list (d_var 4))) (blkOk_by (own := [("_law_each", 11)]) (N := N_law_right) (sc := defScope s_law_right) (by decide +kernel)) (by decide) (fun _ _ _ _ _ => (g_name 11 nd)) (fun _ _ _ _ _ => p_nil) (fun _ _ _ _ _ => (d_call c_law_told (hr.mono (by omega)) (c_dat (d_var 11) c_nil)))))) T.z_tuple PyProof.Rows.boot_tuple))
    (s_cons (s_asg (d_call c_law_cut (hr.mono (by omega)) (c_dat (d_var 3) (c_dat (d_var 4) c_nil))) (g_tup rfl (gs_cons (g_name 6 nd) (gs_cons (g_name 7 nd) gs_nil))))
    (s_cons (s_set 8 nd (d_lst (a_cons (d_callT call_tuple_of sTuple (b_of (d_of_n (n_lc rfl nd (ic_of (i_list (d_var 6))) (blkOk_by (own := [("_law_each", 11)]) (N := N_law_right) (sc := defScope s_law_right) (by decide +kernel)) (by decide) (fun _ _ _ _ _ => (g_name 11 nd)) (fun _ _ _ _ _ => p_nil) (fun _ _ _ _ _ => (d_call c_law_told (hr.mono (by omega)) (c_dat (d_var 11) c_nil)))))) T.z_tuple PyProof.Rows.boot_tuple) (a_cons (d_callT call_tuple_of sTuple (b_var 7) T.z_tuple PyProof.Rows.boot_tuple) a_nil))))
    (s_cons (s_if (t_cmp (op_neH hr) sNe (b_of (d_callB (call_reprG hr) sReprG (b_of (d_lst (a_cons (d_call c_vertices_of (hr.mono (by omega)) (c_dat (d_var 2) (c_dat (d_var 5) c_nil))) (a_cons (d_call c_edges_of (hr.mono (by omega)) (c_dat (d_var 2) (c_dat (d_var 5) c_nil))) a_nil)))) T.z_repr PyProof.Rows.boot_repr)) (b_of (d_callB (call_reprG hr) sReprG (b_var 8) T.z_repr PyProof.Rows.boot_repr)))
    (s_one (s_ret d_bool))
    s_nil)
    (s_cons (s_set 9 nd (d_callT call_tuple_of sTuple (b_of (d_of_n (n_lc rfl nd (ic_of (i_tup (b_of (d_back (b_var 2))))) (blkOk_by (own := [("_law_each", 11)]) (N := N_law_right) (sc := defScope s_law_right) (by decide +kernel)) (by decide) (fun _ _ _ _ _ => (g_name 11 nd)) (fun _ _ _ _ _ => p_nil) (fun _ _ _ _ _ => (d_back (b_var 11)))))) T.z_tuple PyProof.Rows.boot_tuple))
    (s_one (s_ret (d_cmp (op_eqH hr) sEq (b_of (d_callB (call_reprG hr) sReprG (b_of (d_lst (a_cons (d_callK k_vertices_of__points_segments (hr.mono (by omega)) (k_dat (d_add (b_var 5) (b_var 5)) (k_dat (d_var 9) k_nil))) (a_cons (d_callK k_edges_of__points_segments (hr.mono (by omega)) (k_dat (d_back (b_var 5)) (k_dat (d_var 9) k_nil))) a_nil)))) T.z_repr PyProof.Rows.boot_repr)) (b_of (d_callB (call_reprG hr) sReprG (b_var 8) T.z_repr PyProof.Rows.boot_repr))))))))))))))) hC
theorem bd_law_right {k : Nat} {C_law_frame C_law_lines C_law_one_of C_law_places C_law_draw C_law_any_place C_law_told C_law_cut C_edges_of C_vertices_of : Ct} {C : Ct} (T : Txt K mg) {f : Addr} {fd : FuncData} (F : Fun K "_law_right" "_law_right" s_law_right f fd) (hm : mg "_law_right" = some (.ref f)) (hb : Binds K fd ["_law_spring_here"] []) (c_law_frame : Cal P W K mg base "_law_frame" k 1 C_law_frame) (c_law_lines : Cal P W K mg base "_law_lines" k 3 C_law_lines) (c_law_one_of : Cal P W K mg base "_law_one_of" k 2 C_law_one_of) (c_law_places : Cal P W K mg base "_law_places" k 1 C_law_places) (c_law_draw : Cal P W K mg base "_law_draw" k 2 C_law_draw) (c_law_any_place : Cal P W K mg base "_law_any_place" k 4 C_law_any_place) (c_law_told : Cal P W K mg base "_law_told" k 1 C_law_told) (c_law_cut : Cal P W K mg base "_law_cut" k 2 C_law_cut) (c_edges_of : Cal P W K mg base "edges_of" k 2 C_edges_of) (c_vertices_of : Cal P W K mg base "vertices_of" k 2 C_vertices_of) (k_edges_of__points_segments : CalK P W K mg base "edges_of" k 2 C_edges_of [PySem.Str.ofString "points", PySem.Str.ofString "segments"] pm10) (k_vertices_of__points_segments : CalK P W K mg base "vertices_of" k 2 C_vertices_of [PySem.Str.ofString "points", PySem.Str.ofString "segments"] pm10) (hC : ∀ as S R, as.length = 1 → C as S R → (G_law_right C_law_frame C_law_lines C_law_one_of C_law_places C_law_draw C_law_any_place C_law_told C_law_cut C_edges_of C_vertices_of) (ent N_law_right as) S { nx := fun _ S' => R .none S', rt := R }) : Cal P W K mg base "_law_right" (k + 1) 1 C := ⟨f, fd, _, ok_law_right T F hm hb c_law_frame c_law_lines c_law_one_of c_law_places c_law_draw c_law_any_place c_law_told c_law_cut c_edges_of c_vertices_of k_edges_of__points_segments k_vertices_of__points_segments hC, F.kp, hb, hm⟩
/-! law -/
abbrev s_law : Stmt := top 68
abbrev N_law : List Str := ["_law_script", "_law_turn"]
theorem sc_law : FnScope N_law ["_law_script"] (defScope s_law) := ⟨rfl, rfl, rfl, by decide +kernel, rfl, by decide +kernel, by decide +kernel⟩
def G_law (C_law_right C_law_spring : Ct) : FS :=
    (sRet (fUn oAll (fLc (fiR1 (fOp (oI fun i j => .int (if j > i then j else i)) (fC (.int 1)) (fOp (oI fun i j => .int (if j < i then j else i)) (fUn oLen (fVarB 0)) (fC (.int 3))))) [1] (gNm 1) (fC (.bool true)) (fCallW C_law_right (fCall C_law_spring (gDat (fVar 0) (gDat (fVar 1) gaNil)))))))
theorem ok_law {k : Nat} {C_law_right C_law_spring : Ct} {C : Ct} (T : Txt K mg) {f : Addr} {fd : FuncData} (F : Fun K "law" "law" s_law f fd) (hm : mg "law" = some (.ref f)) (hb : Binds K fd ["_law_script"] []) (c_law_right : Cal P W K mg base "_law_right" k 1 C_law_right) (c_law_spring : CalN P W K mg base "_law_spring" k 2 C_law_spring) (hC : ∀ as S R, as.length = 1 → C as S R → (G_law C_law_right C_law_spring) (ent N_law as) S { nx := fun _ S' => R .none S', rt := R }) : Pro P W K mg base (k + 1) f fd ["_law_script"] (spC K 1 C) := by
  have nd := sc_law.nd
  exact dfn_ok F sc_law rfl (by decide) (fun cdv A outer s H E hr =>
    (s_one (s_ret (d_callB (cr_all rfl) sAll (b_of (d_of_n (n_lc rfl nd (ic_of (i_range1 (b_of (d_callB2 (call_max2 rfl) sMax2 (b_of d_int) (b_of (d_callB2 (call_min2 rfl) sMin2 (b_of (d_callB call_len sLen (b_var 0) T.z_len PySem.boot_len)) (b_of d_int) T.z_min PyProof.Rows.boot_min)) T.z_max PyProof.Rows.boot_max)) T.z_range)) (blkOk_by (own := [("_law_turn", 1)]) (N := N_law) (sc := defScope s_law) (by decide +kernel)) (by decide) (fun _ _ _ _ _ => (g_name 1 nd)) (fun _ _ _ _ _ => p_nil) (fun _ _ _ _ _ => (d_callW c_law_right (hr.mono (by omega)) (n_call c_law_spring (hr.mono (by omega)) (c_dat (d_var 0) (c_dat (d_var 1) c_nil)))))))) T.z_all PyProof.Rows.boot_all)))) hC
theorem bd_law {k : Nat} {C_law_right C_law_spring : Ct} {C : Ct} (T : Txt K mg) {f : Addr} {fd : FuncData} (F : Fun K "law" "law" s_law f fd) (hm : mg "law" = some (.ref f)) (hb : Binds K fd ["_law_script"] []) (c_law_right : Cal P W K mg base "_law_right" k 1 C_law_right) (c_law_spring : CalN P W K mg base "_law_spring" k 2 C_law_spring) (hC : ∀ as S R, as.length = 1 → C as S R → (G_law C_law_right C_law_spring) (ent N_law as) S { nx := fun _ S' => R .none S', rt := R }) : Cal P W K mg base "law" (k + 1) 1 C := ⟨f, fd, _, ok_law T F hm hb c_law_right c_law_spring hC, F.kp, hb, hm⟩
end
/-- the defs, as the top leaves them -/
structure Defs (K : Fr_) (mg : Str → Option Value) : Prop where
  d_is_whole : Has K mg "is_whole" s_is_whole ["value"]
  d_are_wholes : Has K mg "are_wholes" s_are_wholes ["value", "many"]
  d_is_ratio : Has K mg "is_ratio" s_is_ratio ["value"]
  d_ratio : Has K mg "ratio" s_ratio ["top", "low"]
  d_plus : Has K mg "plus" s_plus ["one", "two"]
  d_minus : Has K mg "minus" s_minus ["one", "two"]
  d_times : Has K mg "times" s_times ["one", "two"]
  d_over : Has K mg "over" s_over ["one", "two"]
  d_sign_of : Has K mg "sign_of" s_sign_of ["one"]
  d_is_less : Has K mg "is_less" s_is_less ["one", "two"]
  d_is_pointed : Has K mg "is_pointed" s_is_pointed ["value"]
  d_is_segmented : Has K mg "is_segmented" s_is_segmented ["value"]
  d_step_of : Has K mg "step_of" s_step_of ["start", "end"]
  d_cross : Has K mg "cross" s_cross ["one", "two"]
  d_turn_by : Has K mg "turn_by" s_turn_by ["point", "other", "third"]
  d_comes_first : Has K mg "comes_first" s_comes_first ["one", "two"]
  d_ascending : Has K mg "ascending" s_ascending ["segment"]
  d_is_on_by : Has K mg "is_on_by" s_is_on_by ["segment", "point"]
  d_at_part : Has K mg "at_part" s_at_part ["start", "step", "part"]
  d_shared_line : Has K mg "shared_line" s_shared_line ["segment", "other"]
  d_common_by : Has K mg "common_by" s_common_by ["segment", "other"]
  d_with_point : Has K mg "with_point" s_with_point ["points", "point"]
  d_all_vertices : Has K mg "all_vertices" s_all_vertices ["segments", "points"]
  d_all_edges : Has K mg "all_edges" s_all_edges ["segments", "vertices"]
  d_check_points : Has K mg "check_points" s_check_points ["value"]
  d_check_lines : Has K mg "check_lines" s_check_lines ["segments", "points"]
  d_vertices_of : Has K mg "vertices_of" s_vertices_of ["segments", "points"]
  d_edges_of : Has K mg "edges_of" s_edges_of ["segments", "points"]
  d_law_spring : Has K mg "_law_spring" s_law_spring ["_law_script", "_law_turn"]
  d_law_draw : Has K mg "_law_draw" s_law_draw ["_law_spring_here", "_law_many"]
  d_law_one_of : Has K mg "_law_one_of" s_law_one_of ["_law_spring_here", "_law_some"]
  d_law_divisor : Has K mg "_law_divisor" s_law_divisor ["_law_one", "_law_two"]
  d_law_part : Has K mg "_law_part" s_law_part ["_law_top", "_law_base"]
  d_law_place : Has K mg "_law_place" s_law_place ["_law_x", "_law_y", "_law_w"]
  d_law_told : Has K mg "_law_told" s_law_told ["_law_place_here"]
  d_law_own : Has K mg "_law_own" s_law_own ["_law_told_here"]
  d_law_side : Has K mg "_law_side" s_law_side ["_law_p", "_law_q", "_law_r"]
  d_law_is_less : Has K mg "_law_is_less" s_law_is_less ["_law_p", "_law_q"]
  d_law_lies_on : Has K mg "_law_lies_on" s_law_lies_on ["_law_p", "_law_q", "_law_r"]
  d_law_bottom : Has K mg "_law_bottom" s_law_bottom ["_law_places_here"]
  d_law_rising : Has K mg "_law_rising" s_law_rising ["_law_places_here"]
  d_law_meet : Has K mg "_law_meet" s_law_meet ["_law_one", "_law_two"]
  d_law_cut : Has K mg "_law_cut" s_law_cut ["_law_shuts", "_law_lone"]
  d_law_frame : Has K mg "_law_frame" s_law_frame ["_law_spring_here"]
  d_law_grid : Has K mg "_law_grid" s_law_grid ["_law_frame_here", "_law_i", "_law_j", "_law_n"]
  d_law_dot : Has K mg "_law_dot" s_law_dot ["_law_spring_here", "_law_frame_here"]
  d_law_row : Has K mg "_law_row" s_law_row ["_law_spring_here", "_law_frame_here", "_law_many", "_law_is_closed"]
  d_law_box : Has K mg "_law_box" s_law_box ["_law_spring_here", "_law_frame_here"]
  d_law_pairs : Has K mg "_law_pairs" s_law_pairs ["_law_row_here", "_law_is_closed"]
  d_law_lines : Has K mg "_law_lines" s_law_lines ["_law_spring_here", "_law_frame_here", "_law_most"]
  d_law_places : Has K mg "_law_places" s_law_places ["_law_lines_here"]
  d_law_middle : Has K mg "_law_middle" s_law_middle ["_law_p", "_law_q"]
  d_law_any_place : Has K mg "_law_any_place" s_law_any_place ["_law_spring_here", "_law_frame_here", "_law_shuts", "_law_lone"]
  d_law_right : Has K mg "_law_right" s_law_right ["_law_spring_here"]
  d_law : Has K mg "law" s_law ["_law_script"]
end K05

namespace K05
open PySem L2 DL
theorem oRepr_bool (b : Bool) (R : PyData → Prop) : oReprG (.bool b) R = R (.str (PyData.bool b).shown) := rfl
theorem oGt_int (i j : Int) (R : PyData → Prop) : oGt (.int i) (.int j) R = R (.bool (decide (j < i))) := rfl
theorem oLe_int (i j : Int) (R : PyData → Prop) : oLe (.int i) (.int j) R = R (.bool (decide (i ≤ j))) := rfl
theorem oMix_int (g : Int → Int → Int) (o : O2) (i j : Int) (R : PyData → Prop) : oMix g o (.int i) (.int j) R = o (.int i) (.int j) R := rfl
theorem oMix_tup (g : Int → Int → Int) (o : O2) (a b : List PyData) (R : PyData → Prop) : oMix g o (.tuple a) (.tuple b) R = o (.tuple a) (.tuple b) R := rfl
theorem oMix_bi (g : Int → Int → Int) (o : O2) (a : Bool) (j : Int) (R : PyData → Prop) : oMix g o (.bool a) (.int j) R = R (.int (g (bI a) j)) := rfl
theorem oMix_ib (g : Int → Int → Int) (o : O2) (i : Int) (b : Bool) (R : PyData → Prop) : oMix g o (.int i) (.bool b) R = R (.int (g i (bI b))) := rfl
theorem oMix_bb (g : Int → Int → Int) (o : O2) (a b : Bool) (R : PyData → Prop) : oMix g o (.bool a) (.bool b) R = R (.int (g (bI a) (bI b))) := rfl
theorem ixN_30 : ixN 3 (0 : Int) = some 0 := by decide
theorem ixN_31 : ixN 3 (1 : Int) = some 1 := by decide
theorem ixN_32 : ixN 3 (2 : Int) = some 2 := by decide
theorem small_le (n : Nat) (h : n ≤ 1000) : n ≤ sizeLine := by rw [sizeLine_eq]; omega
local macro_rules | `(tactic| walk_at "dx") => `(tactic| try simp only [sSeq, sIf, sRet, sRetN, sRetV, sSet, sNext, sPar, sPar3, sAsg, sDrop, sOwn, sApp, sIns, sPut, sNever, fOr, fAnd, fNot, fIf, fOp, fUn, fVar, fVarB, fC, fCons, fNil, fTup, fLst, fSl, fP, fNoP, fCall, fCallK, gDat, gaNil, gWel, fChain, fWix, sWput, sWdiv, gNm, gTp, gsNil, gsCons, fiL, fiT, fiR1, sFor, ent, asB_bool, asI_int, if_tt, if_ff,
  List.getElem?_cons_zero, List.getElem?_cons_succ, List.set_cons_zero, List.set_cons_succ, List.cons_append, List.nil_append, List.length_cons, List.length_nil, List.replicate, Nat.zero_add, Nat.reduceAdd, Nat.reduceSub,
  isi_tup, isi_strD, oRepr_bool, oGt_int, oLe_int, oMix_int, oMix_tup, oMix_bi, oMix_ib, oMix_bb, isi_intD, isi_boolD, isi_listD, isTup.eq_1, isTup.eq_2, isStr.eq_1, isStr.eq_2, Bool.not_true, Bool.not_false, oIx_tup, oIx_lst, oEq_int, oEq_str, oEq_bool, oEq_nil, oNe_int, oNe_str, oNe_bool, oLen_tup, oLen_lst, oI_int, oIC_int, oAdd_int, oAdd_tup, oAdd_lst, oLt_int, oInt_int, oInt_bool, oIn_tup, oIn_lst, oSl_tup, oSl_lst,
  atI_zero, atI_one, atI_two, cut_from1, Bool.false_eq_true, if_false, if_true])
def WOk (S : SW) : Prop := ∃ a b c, S = [a, b, c] ∧ 0 ≤ a ∧ 0 ≤ b ∧ b < 2147483629 ∧ 0 ≤ c
def C_spring : Ct := fun as S R => ∃ (ns : List Int) (t : Nat), as = [.dat (.list (ns.map .int)), .dat (.int t)] ∧ ∀ ms : List Int, WOk ms → R (.list (ms.map .int)) S
theorem c_spring : ∀ as S R, as.length = 2 → C_spring as S R → G_law_spring (ent N_law_spring as) S { nx := fun _ _ => False, rt := fun _ _ => False, rn := fun ds S' => R (.list ds) S' } := by
  rintro as S R _ ⟨ns, t, rfl, h⟩
  unfold G_law_spring
  walk_at "dx"
  have go : ∀ (ds : List Int) (x : Sl) (b : Int) (B : Out), (∀ x b, B.nx [.dat (.list (ns.map .int)), .dat (.int t), .dat (.int b), x, .un] S) →
      forGo (gNm 3) (sSet 2 (fOp (oIC (fun _ j => 0 < j) fun i j => .int (i % j)) (fUn oInt (fOp oAdd (fOp oAdd (fOp (oIC CMulA fun i j => .int (i * j)) (fVarB 2) (fC (.int 58027))) (fOp (oIC (fun _ j => 0 < j) fun i j => .int (i % j)) (fUn oInt (fVarB 3)) (fC (.int 2147483587)))) (fC (.int 19)))) (fC (.int 2147483629)))) (ds.map .int) [.dat (.list (ns.map .int)), .dat (.int t), .dat (.int b), x, .un] S B := by
    intro ds
    induction ds with
    | nil => exact fun x b B k => k x b
    | cons d ds ih =>
      intro x b B k
      simp only [List.map_cons, forGo]
      walk_at "dx"
      exact ⟨.inl (.inr ⟨by omega, by omega⟩), by omega, by omega, ih _ _ _ k⟩
  have ec : cutD (ns.map PyData.int) none (some 9) = (ns.take 9).map .int := by rw [show (9 : Int) = ((9 : Nat) : Int) from rfl, cut_to, List.map_take]
  refine ⟨.inl (.inl ⟨by omega, by omega⟩), ?_⟩
  rw [ec]
  refine go _ _ _ _ fun x b => ?_
  walk_at "dx"
  have fin : ∀ o : Int, (sSeq (sSet 2 (fOp (oIC (fun _ j => 0 < j) fun i j => .int (i % j)) (fUn oInt (fOp oAdd (fOp oAdd (fOp (oIC CMulA fun i j => .int (i * j)) (fVarB 2) (fC (.int 61))) (fOp (oIC CMulA fun i j => .int (i * j)) (fOp (oIC (fun _ j => 0 < j) fun i j => .int (i % j)) (fUn oInt (fVarB 4)) (fC (.int 2147483587))) (fC (.int 30011)))) (fC (.int 7)))) (fC (.int 2147483629))))
    (sRetNew (fLst (fCons (fIf (fOr (fOp oLt (fVarB 4) (fC (.int 0))) (fOp oGe (fVarB 4) (fOp (oIC CPow fun i j => .int (i ^ j.toNat)) (fC (.int 10)) (fC (.int 15))))) (fUn oAbs (fVarB 4)) (fC (.int 0))) (fCons (fVar 2) (fCons (fC (.int 0)) fNil))))))
      [.dat (.list (ns.map .int)), .dat (.int t), .dat (.int b), x, .dat (.int o)] S { nx := fun _ _ => False, rt := fun _ _ => False, rn := fun ds S' => R (.list ds) S' } := by
    intro o
    unfold sRetNew
    walk_at "dx"
    simp only [oAbs, asI_int]
    have out : ∀ a b : Int, 0 ≤ a → R (.list [.int a, .int (b % 2147483629), .int 0]) S := fun a b ha => h [a, b % 2147483629, 0] ⟨a, _, 0, rfl, ha, by omega, by omega, by omega⟩
    have ab : ∀ z : Int, 0 ≤ (if z < 0 then -z else z) := fun z => by split <;> omega
    refine ⟨.inl (.inr ⟨by omega, by omega⟩), by omega, .inl (.inr ⟨by omega, by omega⟩), by omega, ?_⟩
    split
    · exact out _ _ (ab o)
    · refine ⟨⟨by decide, by decide, by decide⟩, ?_⟩
      split
      · exact out _ _ (ab o)
      · exact out _ _ (by omega)
  by_cases ht : t < ns.length
  · rw [if_pos (decide_eq_true (by rw [List.length_map]; omega))]
    have e : atI (ns.map PyData.int) (t : Int) = some (.int ns[t]) := atI_nat (by rw [List.getElem?_map, List.getElem?_eq_getElem ht]; rfl)
    rw [e]
    exact fin _
  · rw [if_neg (by rw [decide_eq_true_eq, List.length_map]; omega)]
    exact fin _
def C_draw : Ct := fun as S R => ∃ m : Int, as = [.wel, .dat (.int m)] ∧ 0 < m ∧ m < 100000000 ∧ WOk S ∧ ∀ r S', 0 ≤ r → r < m → WOk S' → R (.int r) S'
theorem draw_gen (c1 p c2 c3 c4 c5 : Int) (h1 : 0 < p) (h1' : p ≤ 2147483629) (h2 : -(2 ^ 64) < c1 ∧ c1 < 2 ^ 64) (h3 : 0 < c2) (h4 : -(2 ^ 64) < c4 ∧ c4 < 2 ^ 64) (h5 : 0 < c5) (h6 : c5.natAbs.log2 < 9000)
    {m a b c : Int} {R : PyData → SW → Prop} (hm : 0 < m) (hm2 : m < 100000000) (ha : 0 ≤ a) (hb : 0 ≤ b) (hb2 : b < 2147483629) (hc : 0 ≤ c) (h : ∀ r S', 0 ≤ r → r < m → WOk S' → R (.int r) S') :
    (sSeq (sIf (fOp oGt (fWix 0 (fC (.int 0))) (fC (.int 0)))
    (sSeq (sWdiv 0 2 (fC (.int 0)) (fOp oDivmod (fWix 0 (fC (.int 0))) (fVarB 1)))
    (sRetV 2))
    sNext)
    (sSeq (sWput 0 (fC (.int 2)) (fOp oAdd (fWix 0 (fC (.int 2))) (fC (.int 1))))
    (sSeq (sSet 3 (fOp (oIC (fun _ j => 0 < j) fun i j => .int (i % j)) (fUn oInt (fOp oAdd (fWix 0 (fC (.int 1))) (fOp (oIC CMulA fun i j => .int (i * j)) (fC (.int c1)) (fWix 0 (fC (.int 2)))))) (fC (.int p))))
    (sSeq (sWput 0 (fC (.int 1)) (fOp (oIC (fun _ j => 0 < j) fun i j => .int (i % j)) (fUn oInt (fOp oAdd (fOp (oIC CMulA fun i j => .int (i * j)) (fVarB 3) (fOp oAdd (fOp (oIC (fun _ j => 0 < j) fun i j => .int (i % j)) (fUn oInt (fVarB 3)) (fC (.int c2))) (fC (.int c3)))) (fOp (oIC CMulA fun i j => .int (i * j)) (fC (.int c4)) (fWix 0 (fC (.int 2)))))) (fC (.int p))))
    (sRet (fOp (oIC (fun _ j => 0 < j) fun i j => .int (i % j)) (fUn oInt (fOp (oIC CDivW fun i j => .int (i / j)) (fWix 0 (fC (.int 1))) (fC (.int c5)))) (fVarB 1)))))))
    [.wel, .dat (.int m), .un, .un] [a, b, c] { nx := fun _ S' => R .none S', rt := R } := by
  walk_at "dx"
  simp only [oDivmod]
  walk_at "dx"
  split
  · refine ⟨by decide, ⟨hm, by omega⟩, ?_⟩
    simp only [ixN_30]
    walk_at "dx"
    exact h _ _ (Int.emod_nonneg _ (by omega)) (Int.emod_lt_of_pos _ hm) ⟨_, _, _, rfl, Int.ediv_nonneg ha (by omega), hb, hb2, hc⟩
  · simp only [ixN_32]
    walk_at "dx"
    simp only [ixN_31]
    walk_at "dx"
    have cm : ∀ x y : Int, 0 ≤ x → x < 2147483629 → CMulA x y := fun x y q1 q2 => .inl (.inl ⟨by omega, by omega⟩)
    have m1 : ∀ x : Int, 0 ≤ x % p := fun x => Int.emod_nonneg _ (by omega)
    have m2 : ∀ x : Int, x % p < 2147483629 := fun x => Int.lt_of_lt_of_le (Int.emod_lt_of_pos _ h1) h1'
    refine ⟨.inl (.inl h2), h1, h3, cm _ _ (m1 _) (m2 _), .inl (.inl h4), h1, ⟨h5, h6⟩, hm, ?_⟩
    exact h _ _ (Int.emod_nonneg _ (by omega)) (Int.emod_lt_of_pos _ hm) ⟨_, _, _, rfl, ha, m1 _, m2 _, by omega⟩
theorem c_draw : ∀ as S R, as.length = 2 → C_draw as S R → G_law_draw (ent N_law_draw as) S { nx := fun _ S' => R .none S', rt := R } := by
  rintro as S R _ ⟨m, rfl, hm, hm2, ⟨a, b, c, rfl, ha, hb, hb2, hc⟩, h⟩
  exact draw_gen 70003 2147483629 6007 50021 29 769 (by decide) (by decide) (by decide) (by decide) (by decide) (by decide) (by decide) hm hm2 ha hb hb2 hc h
def C_one : Ct := fun as S R => ∃ ds, (as = [.wel, .dat (.tuple ds)] ∨ as = [.wel, .dat (.list ds)]) ∧ 0 < ds.length ∧ ds.length < 1000000 ∧ WOk S ∧ ∀ d S', d ∈ ds → WOk S' → R d S'
theorem c_one : ∀ as S R, as.length = 2 → C_one as S R → G_law_one_of C_draw (ent N_law_one_of as) S { nx := fun _ S' => R .none S', rt := R } := by
  rintro as S R _ ⟨ds, rfl | rfl, h1, h2, hw, h⟩ <;>
  · unfold G_law_one_of
    walk_at "dx"
    refine ⟨_, rfl, by omega, by omega, hw, fun r S' q1 q2 w' => ?_⟩
    walk_at "dx"
    obtain ⟨j, rfl⟩ := Int.eq_ofNat_of_zero_le q1
    have hj : j < ds.length := by omega
    rw [atI_nat (List.getElem?_eq_getElem hj)]
    exact h _ _ (List.getElem_mem hj) w'
theorem one_of {ds : List PyData} {S : SW} {R : PyData → SW → Prop} {x : PyData} {r : List PyData} (e : ds = x :: r) (hl : r.length < 1000) (w : WOk S) (h : ∀ d S', d ∈ ds → WOk S' → R d S') : C_one [.wel, .dat (.tuple ds)] S R :=
  ⟨ds, .inl rfl, by rw [e]; exact Nat.succ_pos _, by rw [e, List.length_cons]; omega, w, h⟩
theorem one_ofL {ds : List PyData} {S : SW} {R : PyData → SW → Prop} {x : PyData} {r : List PyData} (e : ds = x :: r) (hl : r.length < 1000) (w : WOk S) (h : ∀ d S', d ∈ ds → WOk S' → R d S') : C_one [.wel, .dat (.list ds)] S R :=
  ⟨ds, .inr rfl, by rw [e]; exact Nat.succ_pos _, by rw [e, List.length_cons]; omega, w, h⟩
/-! the greatest common divisor -/
def C_div : Ct := fun as S R => ∃ a b : Int, as = [.dat (.int a), .dat (.int b)] ∧ R (.int (Nat.gcd a.natAbs b.natAbs : Nat)) S
theorem c_div : ∀ as S R, as.length = 2 → C_div as S R → G_law_divisor (ent N_law_divisor as) S { nx := fun _ S' => R .none S', rt := R } := by
  rintro as S R _ ⟨a, b, rfl, h⟩
  unfold G_law_divisor
  walk_at "dx"
  have ab : ∀ z : Int, (if z < 0 then -z else z) = (z.natAbs : Nat) := fun z => by split <;> omega
  simp only [oAbs, asI_int, ab]
  unfold sWhile
  refine ⟨fun ρ S1 => S1 = S ∧ ∃ x y : Nat, ρ = [.dat (.int a), .dat (.int b), .dat (.int x), .dat (.int y)] ∧ Nat.gcd x y = Nat.gcd a.natAbs b.natAbs, fun ρ _ => match ρ with | [_, _, _, .dat (.int y)] => y.toNat | _ => 0, ⟨rfl, _, _, rfl, rfl⟩, ?_⟩
  rintro ρ S1 ⟨rfl, x, y, rfl, hg⟩
  walk_at "dx"
  by_cases hy : y = 0
  · subst hy
    simp only [Int.ofNat_zero, decide_true, Bool.not_true, Bool.false_eq_true, if_false]
    rw [Nat.gcd_zero_right] at hg
    rw [hg]
    exact h
  · have e : decide ((y : Int) = 0) = false := decide_eq_false (by omega)
    simp only [e, Bool.not_false, if_true]
    refine ⟨by omega, ⟨trivial, y, x % y, by rw [Int.natCast_emod], ?_⟩, ?_⟩
    · rw [← hg, Nat.gcd_comm x y, Nat.gcd_rec y x, Nat.gcd_comm]
    · have : x % y < y := Nat.mod_lt _ (by omega)
      have e : ((x : Int) % (y : Int)).toNat = x % y := by rw [← Int.natCast_emod]; rfl
      simp only [e, Int.toNat_natCast]
      exact this
end K05

namespace K05
open PySem L2 DL
local macro_rules | `(tactic| walk_at "dx") => `(tactic| try simp only [sSeq, sIf, sRet, sRetN, sRetV, sSet, sNext, sPar, sPar3, sAsg, sDrop, sOwn, sApp, sIns, sPut, sNever, fOr, fAnd, fNot, fIf, fOp, fUn, fVar, fVarB, fC, fCons, fNil, fTup, fLst, fSl, fP, fNoP, fCall, fCallK, gDat, gaNil, gWel, fChain, fWix, sWput, sWdiv, gNm, gTp, gsNil, gsCons, fiL, fiT, fiR1, sFor, ent, asB_bool, asI_int, if_tt, if_ff,
  List.getElem?_cons_zero, List.getElem?_cons_succ, List.set_cons_zero, List.set_cons_succ, List.cons_append, List.nil_append, List.length_cons, List.length_nil, List.replicate, Nat.zero_add, Nat.reduceAdd, Nat.reduceSub,
  isi_tup, isi_strD, oRepr_bool, oGt_int, oLe_int, oMix_int, oMix_tup, oMix_bi, oMix_ib, oMix_bb, isi_intD, isi_boolD, isi_listD, isTup.eq_1, isTup.eq_2, isStr.eq_1, isStr.eq_2, Bool.not_true, Bool.not_false, oIx_tup, oIx_lst, oEq_int, oEq_str, oEq_bool, oEq_nil, oNe_int, oNe_str, oNe_bool, oLen_tup, oLen_lst, oI_int, oIC_int, oAdd_int, oAdd_tup, oAdd_lst, oLt_int, oInt_int, oInt_bool, oIn_tup, oIn_lst, oSl_tup, oSl_lst,
  atI_zero, atI_one, atI_two, cut_from1, Bool.false_eq_true, if_false, if_true])
theorem all_lc {fi : FI} {i : Nat} {fe : FE} {ρ : Rho} {S : SW} {R : PyData → SW → Prop} (ds : List PyData) (f : PyData → Bool) (hi : ∀ T, T ds S → fi ρ S T) (own : notOwn ρ [i]) (hl : ds.length ≤ 1000)
    (he : ∀ d ∈ ds, ∀ R : PyData → SW → Prop, R (.bool (f d)) S → fe ((rwipe ρ [i]).set i (.dat d)) S R) (h : R (.bool (ds.all f)) S) : fLc fi [i] (gNm i) (fC (.bool true)) fe ρ S fun x S1 => oAll x fun d => R d S1 := by
  unfold fLc
  refine hi _ ⟨own, small_le _ hl, lcGo_map (g := fun d => .bool (f d)) he ?_⟩
  refine ⟨ds.map f, by rw [List.nil_append, map_bool], ?_⟩
  rw [List.all_map]
  exact h
/-! what is whole, a ratio, a point -/
def whole : PyData → Bool
  | .int _ => true
  | _ => false
def wh2 : PyData → Bool
  | .tuple [x, y] => whole x && whole y
  | _ => false
def ratD : PyData → Bool
  | .tuple [.int a, .int b] => decide (0 < b) && decide (Nat.gcd a.natAbs b.natAbs = 1)
  | _ => false
def ptD : PyData → Bool
  | .tuple [x, y] => ratD x && ratD y
  | _ => false
def sgD : PyData → Bool
  | .tuple [x, y] => (ptD x && ptD y) && !PyData.eqv x y
  | _ => false
theorem whole_inv {d : PyData} (h : whole d = true) : ∃ a, d = .int a := by
  unfold whole at h
  split at h
  · exact ⟨_, rfl⟩
  · cases h
theorem wh2_inv {d : PyData} (h : wh2 d = true) : ∃ a b, d = .tuple [.int a, .int b] := by
  unfold wh2 at h
  split at h
  · simp only [Bool.and_eq_true] at h
    obtain ⟨a, rfl⟩ := whole_inv h.1
    obtain ⟨b, rfl⟩ := whole_inv h.2
    exact ⟨a, b, rfl⟩
  · cases h
theorem rat_inv {d : PyData} (h : ratD d = true) : ∃ a b, d = .tuple [.int a, .int b] ∧ 0 < b ∧ Nat.gcd a.natAbs b.natAbs = 1 := by
  unfold ratD at h
  split at h
  · simp only [Bool.and_eq_true, decide_eq_true_eq] at h
    exact ⟨_, _, rfl, h⟩
  · cases h
theorem pt_inv {d : PyData} (h : ptD d = true) : ∃ x y, d = .tuple [x, y] ∧ ratD x = true ∧ ratD y = true := by
  unfold ptD at h
  split at h
  · simp only [Bool.and_eq_true] at h
    exact ⟨_, _, rfl, h⟩
  · cases h
def C_bool (f : PyData → Bool) : Ct := fun as S R => ∃ d, as = [.dat d] ∧ R (.bool (f d)) S
theorem c_whole : ∀ as S R, as.length = 1 → C_bool whole as S R → G_is_whole (ent N_is_whole as) S { nx := fun _ S' => R .none S', rt := R } := by
  rintro as S R _ ⟨d, rfl, h⟩
  unfold G_is_whole
  cases d <;> (walk_at "dx"; exact h)
def C_wholes : Ct := fun as S R => ∃ d, as = [.dat d, .dat (.int 2)] ∧ R (.bool (wh2 d)) S
theorem len2 (n : Nat) : decide (((n + 3 : Nat) : Int) = 2) = false := decide_eq_false (by omega)
theorem c_wholes : ∀ as S R, as.length = 2 → C_wholes as S R → G_are_wholes (C_bool whole) (ent N_are_wholes as) S { nx := fun _ S' => R .none S', rt := R } := by
  rintro as S R _ ⟨d, rfl, h⟩
  unfold G_are_wholes
  cases d with
  | tuple ds =>
    rcases ds with _ | ⟨x, _ | ⟨y, _ | ⟨z, r⟩⟩⟩
    · walk_at "dx"; exact h
    · walk_at "dx"; exact h
    · walk_at "dx"
      rw [if_pos (by decide)]
      refine all_lc [x, y] whole ?_ ?_ (by simp) ?_ (by simpa [wh2] using h)
      · exact fun T h => h
      · exact fun v hv xs => by simp at hv; subst hv; simp
      · intro d hd R q
        simp only [rwipe]
        walk_at "dx"
        exact ⟨d, rfl, q⟩
    · walk_at "dx"
      rw [show r.length + 1 + 1 + 1 = r.length + 3 from rfl, len2]
      exact h
  | _ => walk_at "dx"; exact h
theorem c_ratio_is : ∀ as S R, as.length = 1 → C_bool ratD as S R → G_is_ratio C_wholes (ent N_is_ratio as) S { nx := fun _ S' => R .none S', rt := R } := by
  rintro as S R _ ⟨d, rfl, h⟩
  unfold G_is_ratio
  walk_at "dx"
  refine ⟨d, rfl, ?_⟩
  walk_at "dx"
  by_cases hw : wh2 d = true
  · rw [if_pos hw]
    obtain ⟨a, b, rfl⟩ := wh2_inv hw
    walk_at "dx"
    by_cases hb : 0 < b
    · simp only [hb, decide_true, if_true]
      have e : decide (((Nat.gcd a.natAbs b.natAbs : Nat) : Int) = 1) = decide (Nat.gcd a.natAbs b.natAbs = 1) := decide_eq_decide.mpr (by omega)
      rw [e]
      simpa [ratD, hb] using h
    · simp only [hb, decide_false, Bool.false_eq_true, if_false]
      simpa [ratD, hb] using h
  · rw [if_neg hw]
    have e : ratD d = false := by
      by_cases z : ratD d = true
      · obtain ⟨a, b, rfl, _⟩ := rat_inv z
        exact absurd rfl hw
      · simpa using z
    rw [e] at h
    exact h
theorem c_pointed : ∀ as S R, as.length = 1 → C_bool ptD as S R → G_is_pointed (C_bool ratD) (ent N_is_pointed as) S { nx := fun _ S' => R .none S', rt := R } := by
  rintro as S R _ ⟨d, rfl, h⟩
  unfold G_is_pointed
  cases d with
  | tuple ds =>
    rcases ds with _ | ⟨x, _ | ⟨y, _ | ⟨z, r⟩⟩⟩
    · walk_at "dx"; exact h
    · walk_at "dx"; exact h
    · walk_at "dx"
      rw [if_pos (by decide)]
      refine all_lc [x, y] ratD ?_ ?_ (by simp) ?_ (by simpa [ptD] using h)
      · exact fun T h => h
      · exact fun v hv xs => by simp at hv; subst hv; simp
      · intro d hd R q
        simp only [rwipe]
        walk_at "dx"
        exact ⟨d, rfl, q⟩
    · walk_at "dx"
      rw [show r.length + 1 + 1 + 1 = r.length + 3 from rfl, len2]
      exact h
  | _ => walk_at "dx"; exact h
theorem c_segmented : ∀ as S R, as.length = 1 → C_bool sgD as S R → G_is_segmented (C_bool ptD) (ent N_is_segmented as) S { nx := fun _ S' => R .none S', rt := R } := by
  rintro as S R _ ⟨d, rfl, h⟩
  unfold G_is_segmented
  cases d with
  | tuple ds =>
    rcases ds with _ | ⟨x, _ | ⟨y, _ | ⟨z, r⟩⟩⟩
    · walk_at "dx"; exact h
    · walk_at "dx"; exact h
    · walk_at "dx"
      rw [if_neg (by decide)]
      refine all_lc (R := fun d S1 => asB d fun k => if (!k) = true then R (.bool false) S1 else oNe x y fun d => R d S1) [x, y] ptD ?_ ?_ (by simp) ?_ ?_
      · exact fun T h => h
      · exact fun v hv xs => by simp at hv; subst hv; simp
      · intro d hd R q
        simp only [rwipe]
        walk_at "dx"
        exact ⟨d, rfl, q⟩
      · walk_at "dx"
        by_cases hp : (ptD x && ptD y) = true
        · have hp' := Bool.and_eq_true_iff.mp hp
          rw [if_neg (by simp [hp'.1, hp'.2])]
          obtain ⟨x1, x2, rfl, q1, q2⟩ := pt_inv hp'.1
          obtain ⟨y1, y2, rfl, q3, q4⟩ := pt_inv hp'.2
          obtain ⟨_, _, rfl, _⟩ := rat_inv q1
          obtain ⟨_, _, rfl, _⟩ := rat_inv q2
          obtain ⟨_, _, rfl, _⟩ := rat_inv q3
          obtain ⟨_, _, rfl, _⟩ := rat_inv q4
          refine ⟨rfl, rfl, ?_⟩
          simp only [sgD, hp, Bool.true_and] at h
          exact h
        · rw [if_pos (by cases a : ptD x <;> cases b : ptD y <;> simp_all)]
          simp only [sgD, hp, Bool.false_and] at h
          exact h
    · walk_at "dx"
      rw [show r.length + 1 + 1 + 1 = r.length + 3 from rfl, len2]
      exact h
  | _ => walk_at "dx"; exact h
def isPair : PyData → Bool
  | .tuple [_, _] => true
  | _ => false
def C_lot : Ct := fun as S R => ∃ d, as = [.dat d, .dat (.int 2), .dat (.int 2)] ∧ R (.bool (isPair d)) S
theorem pair_inv {d : PyData} (h : isPair d = true) : ∃ x y, d = .tuple [x, y] := by
  unfold isPair at h
  split at h
  · exact ⟨_, _, rfl⟩
  · cases h
theorem not_pair {d : PyData} (h : ¬ isPair d = true) (f : PyData → PyData → Bool) : ratD d = false ∧ ptD d = false := by
  constructor
  · by_cases z : ratD d = true
    · obtain ⟨_, _, rfl, _⟩ := rat_inv z
      exact absurd rfl h
    · simpa using z
  · by_cases z : ptD d = true
    · obtain ⟨_, _, rfl, _⟩ := pt_inv z
      exact absurd rfl h
    · simpa using z
theorem c_never (f : PyData → Bool) (G : Ct → FS) : True := trivial
def C_chk (f : PyData → Bool) : Ct := fun as S R => ∃ d, as = [.dat d] ∧ f d = true ∧ R .none S
local macro_rules | `(tactic| walk_at "dx") => `(tactic| try simp only [sSeq, sIf, sRet, sRetN, sRetV, sSet, sNext, sPar, sPar3, sAsg, sDrop, sOwn, sApp, sIns, sPut, sNever, fOr, fAnd, fNot, fIf, fOp, fUn, fVar, fVarB, fC, fCons, fNil, fTup, fLst, fSl, fP, fNoP, fCall, fCallK, gDat, gaNil, gWel, fChain, fWix, sWput, sWdiv, gNm, gTp, gsNil, gsCons, fiL, fiT, fiR1, sFor, ent, asB_bool, asI_int, if_tt, if_ff,
  List.getElem?_cons_zero, List.getElem?_cons_succ, List.set_cons_zero, List.set_cons_succ, List.cons_append, List.nil_append, List.length_cons, List.length_nil, List.replicate, Nat.zero_add, Nat.reduceAdd, Nat.reduceSub,
  isi_tup, isi_strD, oRepr_bool, oGt_int, oLe_int, oMix_int, oMix_tup, oMix_bi, oMix_ib, oMix_bb, isi_intD, isi_boolD, isi_listD, isTup.eq_1, isTup.eq_2, isStr.eq_1, isStr.eq_2, Bool.not_true, Bool.not_false, oIx_tup, oIx_lst, oEq_int, oEq_str, oEq_bool, oEq_nil, oNe_int, oNe_str, oNe_bool, oLen_tup, oLen_lst, oI_int, oIC_int, oAdd_int, oAdd_tup, oAdd_lst, oLt_int, oInt_int, oInt_bool, oIn_tup, oIn_lst, oSl_tup, oSl_lst,
  atI_zero, atI_one, atI_two, cut_from1, Bool.false_eq_true, if_false, if_true])
/-! fractions -/
def fr (a b : Int) : Int × Int := (a / (Nat.gcd a.natAbs b.natAbs : Nat), b / (Nat.gcd a.natAbs b.natAbs : Nat))
def mi (p q : Int × Int) : Int × Int := fr (p.1 * q.2 - q.1 * p.2) (p.2 * q.2)
def ti (p q : Int × Int) : Int × Int := fr (p.1 * q.1) (p.2 * q.2)
def qd (p : Int × Int) : PyData := .tuple [.int p.1, .int p.2]
abbrev P2 := (Int × Int) × (Int × Int)
def pd (z : P2) : PyData := .tuple [qd z.1, qd z.2]
/-- a fraction of at most k bits -/
def Bq (k : Nat) (p : Int × Int) : Prop := 0 < p.2 ∧ p.1.natAbs < 2 ^ k ∧ p.2.natAbs < 2 ^ k
def Bp (k : Nat) (z : P2) : Prop := Bq k z.1 ∧ Bq k z.2
theorem pow_le {a b : Nat} (h : a ≤ b) : 2 ^ a ≤ 2 ^ b := Nat.pow_le_pow_right (by decide) h
theorem Bq.up {j k : Nat} {p : Int × Int} (h : Bq j p) (hk : j ≤ k) : Bq k p := ⟨h.1, Nat.lt_of_lt_of_le h.2.1 (pow_le hk), Nat.lt_of_lt_of_le h.2.2 (pow_le hk)⟩
theorem log_lt {x k : Nat} (h : x < 2 ^ k) : x.log2 ≤ k := by
  by_cases z : x = 0
  · subst z; simp
  · have := (Nat.log2_lt z).mpr h
    omega
theorem cmul {x y : Int} {j k : Nat} (hx : x.natAbs < 2 ^ j) (hy : y.natAbs < 2 ^ k) (h : j + k < 1000000) : CMulA x y := by
  have a := log_lt hx
  have b := log_lt hy
  exact .inr (show x.natAbs.log2 + y.natAbs.log2 < 1000000 by omega)
theorem bmul {x y : Int} {j k : Nat} (hx : x.natAbs < 2 ^ j) (hy : y.natAbs < 2 ^ k) : (x * y).natAbs < 2 ^ (j + k) := by
  rw [Int.natAbs_mul, Nat.pow_add]
  exact Nat.mul_lt_mul'' hx hy
theorem bsub {x y : Int} {k : Nat} (hx : x.natAbs < 2 ^ k) (hy : y.natAbs < 2 ^ k) : (x - y).natAbs < 2 ^ (k + 1) := by
  rw [Nat.pow_succ]
  omega
theorem badd {x y : Int} {k : Nat} (hx : x.natAbs < 2 ^ k) (hy : y.natAbs < 2 ^ k) : (x + y).natAbs < 2 ^ (k + 1) := by
  rw [Nat.pow_succ]
  omega
theorem gpos {a b : Int} (hb : 0 < b) : 0 < Nat.gcd a.natAbs b.natAbs := Nat.gcd_pos_of_pos_right _ (by omega)
theorem div_le (a : Int) (g : Nat) : (a / (g : Int)).natAbs ≤ a.natAbs := by
  have := Int.natAbs_ediv_le_natAbs a g
  exact this
theorem gl (a b : Int) : ((Nat.gcd a.natAbs b.natAbs : Nat) : Int) ∣ a := Int.ofNat_dvd_left.mpr (Nat.gcd_dvd_left _ _)
theorem gr (a b : Int) : ((Nat.gcd a.natAbs b.natAbs : Nat) : Int) ∣ b := Int.ofNat_dvd_left.mpr (Nat.gcd_dvd_right _ _)
theorem fr_pos {a b : Int} (hb : 0 < b) : 0 < (fr a b).2 := by
  have g := gpos (a := a) hb
  exact Int.ediv_pos_of_pos_of_dvd hb (by omega) (gr a b)
theorem fr_bq {a b : Int} {k : Nat} (hb : 0 < b) (h1 : a.natAbs < 2 ^ k) (h2 : b.natAbs < 2 ^ k) : Bq k (fr a b) :=
  ⟨fr_pos hb, Nat.lt_of_le_of_lt (div_le _ _) h1, Nat.lt_of_le_of_lt (div_le _ _) h2⟩
theorem mi_bq {p q : Int × Int} {k : Nat} (hp : Bq k p) (hq : Bq k q) : Bq (k + k + 1) (mi p q) :=
  fr_bq (Int.mul_pos hp.1 hq.1) (bsub (bmul hp.2.1 hq.2.2) (bmul hq.2.1 hp.2.2)) (Nat.lt_of_lt_of_le (bmul hp.2.2 hq.2.2) (pow_le (by omega)))
theorem ti_bq {p q : Int × Int} {k : Nat} (hp : Bq k p) (hq : Bq k q) : Bq (k + k) (ti p q) := fr_bq (Int.mul_pos hp.1 hq.1) (bmul hp.2.1 hq.2.1) (bmul hp.2.2 hq.2.2)
/-- p is N / D -/
def Sm (p : Int × Int) (N D : Int) : Prop := 0 < p.2 ∧ 0 < D ∧ p.1 * D = N * p.2
theorem fr_sm {a b : Int} (hb : 0 < b) : Sm (fr a b) a b := by
  have g := gpos (a := a) hb
  refine ⟨fr_pos hb, hb, ?_⟩
  have e1 := Int.ediv_mul_cancel (gl a b)
  have e2 := Int.ediv_mul_cancel (gr a b)
  simp only [fr]
  generalize a / ((Nat.gcd a.natAbs b.natAbs : Nat) : Int) = x at *
  generalize b / ((Nat.gcd a.natAbs b.natAbs : Nat) : Int) = y at *
  generalize ((Nat.gcd a.natAbs b.natAbs : Nat) : Int) = z at *
  grind
theorem cancel {c x y : Int} (hc : 0 < c) (h : c * x = c * y) : x = y := Int.eq_of_mul_eq_mul_left (by omega) h
theorem mi_sm {p q : Int × Int} {N D M E : Int} (hp : Sm p N D) (hq : Sm q M E) : Sm (mi p q) (N * E - M * D) (D * E) := by
  obtain ⟨a1, a2, a3⟩ := hp
  obtain ⟨b1, b2, b3⟩ := hq
  have h := fr_sm (a := p.1 * q.2 - q.1 * p.2) (Int.mul_pos a1 b1)
  refine ⟨h.1, Int.mul_pos a2 b2, cancel (Int.mul_pos a1 b1) ?_⟩
  have h3 := h.2.2
  show p.2 * q.2 * ((fr (p.1 * q.2 - q.1 * p.2) (p.2 * q.2)).1 * (D * E)) = p.2 * q.2 * ((N * E - M * D) * (fr (p.1 * q.2 - q.1 * p.2) (p.2 * q.2)).2)
  generalize (fr (p.1 * q.2 - q.1 * p.2) (p.2 * q.2)).1 = x at *
  generalize (fr (p.1 * q.2 - q.1 * p.2) (p.2 * q.2)).2 = y at *
  grind
theorem ti_sm {p q : Int × Int} {N D M E : Int} (hp : Sm p N D) (hq : Sm q M E) : Sm (ti p q) (N * M) (D * E) := by
  obtain ⟨a1, a2, a3⟩ := hp
  obtain ⟨b1, b2, b3⟩ := hq
  have h := fr_sm (a := p.1 * q.1) (Int.mul_pos a1 b1)
  refine ⟨h.1, Int.mul_pos a2 b2, cancel (Int.mul_pos a1 b1) ?_⟩
  have h3 := h.2.2
  show p.2 * q.2 * ((fr (p.1 * q.1) (p.2 * q.2)).1 * (D * E)) = p.2 * q.2 * ((N * M) * (fr (p.1 * q.1) (p.2 * q.2)).2)
  generalize (fr (p.1 * q.1) (p.2 * q.2)).1 = x at *
  generalize (fr (p.1 * q.1) (p.2 * q.2)).2 = y at *
  grind
theorem sign_mul_pos {x d : Int} (h : 0 < d) : Int.sign (x * d) = Int.sign x := by rw [Int.sign_mul, Int.sign_eq_one_of_pos h, Int.mul_one]
theorem Sm.sign {p : Int × Int} {N D : Int} (h : Sm p N D) : Int.sign p.1 = Int.sign N := by
  rw [← sign_mul_pos h.2.1, h.2.2, sign_mul_pos h.1]
/-- from left to right -/
theorem Sm.less {p q : Int × Int} {N D M E : Int} (hp : Sm p N D) (hq : Sm q M E) : p.1 * q.2 < q.1 * p.2 ↔ N * E < M * D := by
  have s : Int.sign (p.1 * q.2 - q.1 * p.2) = Int.sign (N * E - M * D) := by
    have h := (mi_sm hp hq).sign
    have h2 := (fr_sm (a := p.1 * q.2 - q.1 * p.2) (Int.mul_pos hp.1 hq.1)).sign
    rw [← h, ← h2]
    rfl
  have neg : ∀ x : Int, Int.sign x = -1 ↔ x < 0 := fun x => Int.sign_eq_neg_one_iff_neg
  constructor <;> intro h
  · have := (neg _).mpr (show p.1 * q.2 - q.1 * p.2 < 0 by omega)
    rw [s] at this
    have := (neg _).mp this
    omega
  · have := (neg _).mpr (show N * E - M * D < 0 by omega)
    rw [← s] at this
    have := (neg _).mp this
    omega
def Rq (p : Int × Int) : Prop := 0 < p.2 ∧ Nat.gcd p.1.natAbs p.2.natAbs = 1
theorem Rq.eq {p q : Int × Int} (hp : Rq p) (hq : Rq q) (h : p.1 * q.2 = q.1 * p.2) : p = q := by
  obtain ⟨a, b⟩ := p
  obtain ⟨c, d⟩ := q
  obtain ⟨b0, g1⟩ := hp
  obtain ⟨d0, g2⟩ := hq
  simp only at *
  have hn : a.natAbs * d.natAbs = c.natAbs * b.natAbs := by rw [← Int.natAbs_mul, ← Int.natAbs_mul, h]
  have e1 : b.natAbs ∣ d.natAbs := (Nat.Coprime.dvd_of_dvd_mul_left (Nat.Coprime.symm g1) (by rw [hn]; exact Nat.dvd_mul_left _ _))
  have e2 : d.natAbs ∣ b.natAbs := (Nat.Coprime.dvd_of_dvd_mul_left (Nat.Coprime.symm g2) (by rw [← hn]; exact Nat.dvd_mul_left _ _))
  have e : b.natAbs = d.natAbs := Nat.dvd_antisymm e1 e2
  have e' : b = d := by omega
  subst e'
  have : a = c := Int.eq_of_mul_eq_mul_right (by omega) h
  rw [this]
theorem Sm.eq {p q : Int × Int} {N D M E : Int} (hp : Sm p N D) (hq : Sm q M E) (rp : Rq p) (rq : Rq q) : p = q ↔ N * E = M * D := by
  have z := (hp.less hq)
  have z' := (hq.less hp)
  constructor
  · rintro rfl
    omega
  · intro h
    exact rp.eq rq (by omega)
theorem fr_rq {a b : Int} (hb : 0 < b) : Rq (fr a b) := by
  refine ⟨fr_pos hb, ?_⟩
  have g := gpos (a := a) hb
  simp only [fr]
  rw [Int.natAbs_ediv_of_dvd (gl a b), Int.natAbs_ediv_of_dvd (gr a b), Int.natAbs_natCast]
  rw [Nat.gcd_div (Nat.gcd_dvd_left _ _) (Nat.gcd_dvd_right _ _)]
  exact Nat.div_self g
end K05

namespace K05
open PySem L2 DL
local macro_rules | `(tactic| walk_at "dx") => `(tactic| try simp only [sSeq, sIf, sRet, sRetN, sRetV, sSet, sNext, sPar, sPar3, sAsg, sDrop, sOwn, sApp, sIns, sPut, sNever, fOr, fAnd, fNot, fIf, fOp, fUn, fVar, fVarB, fC, fCons, fNil, fTup, fLst, fSl, fP, fNoP, fCall, fCallK, gDat, gaNil, gWel, fChain, fWix, sWput, sWdiv, gNm, gTp, gsNil, gsCons, fiL, fiT, fiR1, sFor, ent, asB_bool, asI_int, if_tt, if_ff,
  List.getElem?_cons_zero, List.getElem?_cons_succ, List.set_cons_zero, List.set_cons_succ, List.cons_append, List.nil_append, List.length_cons, List.length_nil, List.replicate, Nat.zero_add, Nat.reduceAdd, Nat.reduceSub,
  isi_tup, isi_strD, oRepr_bool, oGt_int, oLe_int, oMix_int, oMix_tup, oMix_bi, oMix_ib, oMix_bb, isi_intD, isi_boolD, isi_listD, isTup.eq_1, isTup.eq_2, isStr.eq_1, isStr.eq_2, Bool.not_true, Bool.not_false, oIx_tup, oIx_lst, oEq_int, oEq_str, oEq_bool, oEq_nil, oNe_int, oNe_str, oNe_bool, oLen_tup, oLen_lst, oI_int, oIC_int, oAdd_int, oAdd_tup, oAdd_lst, oLt_int, oInt_int, oInt_bool, oIn_tup, oIn_lst, oSl_tup, oSl_lst,
  atI_zero, atI_one, atI_two, cut_from1, Bool.false_eq_true, if_false, if_true])
/-! the program's reckoning -/
def C_ratio : Ct := fun as S R => ∃ a b : Int, as = [.dat (.int a), .dat (.int b)] ∧ 0 < b ∧ b.natAbs < 2 ^ 8000 ∧ R (qd (fr a b)) S
theorem gcd_le {a b : Int} {k : Nat} (hb : 0 < b) (h : b.natAbs < 2 ^ k) : Nat.gcd a.natAbs b.natAbs < 2 ^ k := Nat.lt_of_le_of_lt (Nat.gcd_le_right _ (by omega)) h
theorem cdiv {a : Int} {g : Nat} (hg : 0 < g) (h : g < 2 ^ 8000) : CDivW a (g : Int) := ⟨by omega, by rw [Int.natAbs_natCast]; have := log_lt h; omega⟩
def C_part : Ct := C_ratio
theorem c_part : ∀ as S R, as.length = 2 → C_part as S R → G_law_part C_div (ent N_law_part as) S { nx := fun _ S' => R .none S', rt := R } := by
  rintro as S R _ ⟨a, b, rfl, hb, hz, h⟩
  unfold G_law_part
  walk_at "dx"
  simp only [hb, decide_true, if_true]
  refine ⟨a, b, rfl, ?_⟩
  walk_at "dx"
  have g := gpos (a := a) hb
  have z := gcd_le (a := a) hb hz
  exact ⟨cdiv (a := a) g z, cdiv (a := b) g z, h⟩
def C_qq (k : Nat) (f : Int × Int → Int × Int → PyData) : Ct := fun as S R => ∃ p q, as = [.dat (qd p), .dat (qd q)] ∧ Bq k p ∧ Bq k q ∧ R (f p q) S
theorem c_minus : ∀ as S R, as.length = 2 → C_qq 2000 (fun p q => qd (mi p q)) as S R → G_minus C_ratio (ent N_minus as) S { nx := fun _ S' => R .none S', rt := R } := by
  rintro as S R _ ⟨⟨a, b⟩, ⟨c, d⟩, rfl, hp, hq, h⟩
  unfold G_minus
  simp only [qd] at *
  walk_at "dx"
  exact ⟨cmul hp.2.1 hq.2.2 (by omega), cmul hq.2.1 hp.2.2 (by omega), cmul hp.2.2 hq.2.2 (by omega), _, _, rfl, Int.mul_pos hp.1 hq.1, Nat.lt_of_lt_of_le (bmul hp.2.2 hq.2.2) (pow_le (by omega)), h⟩
theorem c_times : ∀ as S R, as.length = 2 → C_qq 2000 (fun p q => qd (ti p q)) as S R → G_times C_ratio (ent N_times as) S { nx := fun _ S' => R .none S', rt := R } := by
  rintro as S R _ ⟨⟨a, b⟩, ⟨c, d⟩, rfl, hp, hq, h⟩
  unfold G_times
  simp only [qd] at *
  walk_at "dx"
  exact ⟨cmul hp.2.1 hq.2.1 (by omega), cmul hp.2.2 hq.2.2 (by omega), _, _, rfl, Int.mul_pos hp.1 hq.1, Nat.lt_of_lt_of_le (bmul hp.2.2 hq.2.2) (pow_le (by omega)), h⟩
def less (p q : Int × Int) : Bool := decide (p.1 * q.2 < q.1 * p.2)
theorem c_less : ∀ as S R, as.length = 2 → C_qq 2000 (fun p q => .bool (less p q)) as S R → G_is_less (ent N_is_less as) S { nx := fun _ S' => R .none S', rt := R } := by
  rintro as S R _ ⟨⟨a, b⟩, ⟨c, d⟩, rfl, hp, hq, h⟩
  unfold G_is_less
  simp only [qd] at *
  walk_at "dx"
  exact ⟨cmul hp.2.1 hq.2.2 (by omega), cmul hq.2.1 hp.2.2 (by omega), h⟩
def C_sign_of : Ct := fun as S R => ∃ p, as = [.dat (qd p)] ∧ R (.int (Int.sign p.1)) S
theorem sign_bI (a : Int) : bI (decide (0 < a)) - bI (decide (a < 0)) = Int.sign a := by
  rcases Int.lt_trichotomy a 0 with h | h | h
  · rw [Int.sign_eq_neg_one_of_neg h, decide_eq_false (by omega), decide_eq_true h]; rfl
  · subst h; rfl
  · rw [Int.sign_eq_one_of_pos h, decide_eq_true h, decide_eq_false (by omega)]; rfl
theorem c_sign_of : ∀ as S R, as.length = 1 → C_sign_of as S R → G_sign_of (ent N_sign_of as) S { nx := fun _ S' => R .none S', rt := R } := by
  rintro as S R _ ⟨⟨a, b⟩, rfl, h⟩
  unfold G_sign_of
  simp only [qd] at *
  walk_at "dx"
  rw [sign_bI]
  exact h
def C_step : Ct := fun as S R => ∃ s e : P2, as = [.dat (pd s), .dat (pd e)] ∧ Bp 2000 s ∧ Bp 2000 e ∧ R (.tuple [qd (mi e.1 s.1), qd (mi e.2 s.2)]) S
theorem c_step : ∀ as S R, as.length = 2 → C_step as S R → G_step_of (C_qq 2000 fun p q => qd (mi p q)) (ent N_step_of as) S { nx := fun _ S' => R .none S', rt := R } := by
  rintro as S R _ ⟨s, e, rfl, hs, he, h⟩
  unfold G_step_of
  simp only [pd] at *
  walk_at "dx"
  refine ⟨_, _, rfl, he.1, hs.1, ?_⟩
  walk_at "dx"
  exact ⟨_, _, rfl, he.2, hs.2, h⟩
def C_cross : Ct := fun as S R => ∃ a b : P2, as = [.dat (pd a), .dat (pd b)] ∧ Bp 1000 a ∧ Bp 1000 b ∧ R (qd (mi (ti a.1 b.2) (ti a.2 b.1))) S
theorem c_cross : ∀ as S R, as.length = 2 → C_cross as S R → G_cross (C_qq 2000 fun p q => qd (mi p q)) (C_qq 2000 fun p q => qd (ti p q)) (ent N_cross as) S { nx := fun _ S' => R .none S', rt := R } := by
  rintro as S R _ ⟨a, b, rfl, ha, hb, h⟩
  unfold G_cross
  simp only [pd] at *
  walk_at "dx"
  refine ⟨_, _, rfl, ha.1.up (by omega), hb.2.up (by omega), ?_⟩
  walk_at "dx"
  refine ⟨_, _, rfl, ha.2.up (by omega), hb.1.up (by omega), ?_⟩
  walk_at "dx"
  exact ⟨_, _, rfl, (ti_bq ha.1 hb.2).up (by omega), (ti_bq ha.2 hb.1).up (by omega), h⟩
def crs (a b c : P2) : Int × Int := mi (ti (mi b.1 a.1) (mi c.2 a.2)) (ti (mi b.2 a.2) (mi c.1 a.1))
def C_turn : Ct := fun as S R => ∃ a b c : P2, as = [.dat (pd a), .dat (pd b), .dat (pd c)] ∧ Bp 499 a ∧ Bp 499 b ∧ Bp 499 c ∧ R (.int (Int.sign (crs a b c).1)) S
theorem Bp.up {j k : Nat} {z : P2} (h : Bp j z) (hk : j ≤ k) : Bp k z := ⟨h.1.up hk, h.2.up hk⟩
theorem c_turn : ∀ as S R, as.length = 3 → C_turn as S R → G_turn_by C_sign_of C_cross C_step (ent N_turn_by as) S { nx := fun _ S' => R .none S', rt := R } := by
  rintro as S R _ ⟨a, b, c, rfl, ha, hb, hc, h⟩
  unfold G_turn_by
  walk_at "dx"
  refine ⟨_, _, rfl, ha.up (by omega), hb.up (by omega), ?_⟩
  walk_at "dx"
  refine ⟨_, _, rfl, ha.up (by omega), hc.up (by omega), ?_⟩
  walk_at "dx"
  refine ⟨(mi b.1 a.1, mi b.2 a.2), (mi c.1 a.1, mi c.2 a.2), rfl, ⟨(mi_bq hb.1 ha.1).up (by omega), (mi_bq hb.2 ha.2).up (by omega)⟩, ⟨(mi_bq hc.1 ha.1).up (by omega), (mi_bq hc.2 ha.2).up (by omega)⟩, ?_⟩
  walk_at "dx"
  exact ⟨_, rfl, h⟩
theorem eqv_qd (p q : Int × Int) : PyData.eqv (qd p) (qd q) = decide (p = q) := by
  obtain ⟨a, b⟩ := p
  obtain ⟨c, d⟩ := q
  simp only [qd, PyData.eqv, PyData.eqvAll, Bool.and_true]
  rw [Bool.eq_iff_iff]
  simp
theorem eqv_pd (p q : P2) : PyData.eqv (pd p) (pd q) = decide (p = q) := by
  obtain ⟨a, b⟩ := p
  obtain ⟨c, d⟩ := q
  simp only [pd, PyData.eqv, PyData.eqvAll, Bool.and_true, eqv_qd]
  rw [Bool.eq_iff_iff]
  simp
def first (a b : P2) : Bool := less a.1 b.1 || (decide (a.1 = b.1) && less a.2 b.2)
def C_first : Ct := fun as S R => ∃ a b : P2, as = [.dat (pd a), .dat (pd b)] ∧ Bp 2000 a ∧ Bp 2000 b ∧ R (.bool (first a b)) S
theorem oEq_qd (p q : Int × Int) (R : PyData → Prop) (h : R (.bool (decide (p = q)))) : oEq (qd p) (qd q) R := by
  refine ⟨rfl, rfl, ?_⟩
  rw [show PyData.eqv (.tuple [.int p.1, .int p.2]) (.tuple [.int q.1, .int q.2]) = _ from eqv_qd p q]
  exact h
theorem c_first : ∀ as S R, as.length = 2 → C_first as S R → G_comes_first (C_qq 2000 fun p q => .bool (less p q)) (ent N_comes_first as) S { nx := fun _ S' => R .none S', rt := R } := by
  rintro as S R _ ⟨a, b, rfl, ha, hb, h⟩
  unfold G_comes_first
  simp only [pd] at *
  walk_at "dx"
  refine ⟨_, _, rfl, ha.1, hb.1, ?_⟩
  walk_at "dx"
  simp only [first] at h
  cases e : less a.1 b.1
  · simp only [Bool.false_eq_true, if_false]
    rw [e, Bool.false_or] at h
    refine oEq_qd _ _ _ ?_
    walk_at "dx"
    by_cases e2 : a.1 = b.1
    · rw [if_pos (decide_eq_true e2)]
      rw [decide_eq_true e2, Bool.true_and] at h
      exact ⟨_, _, rfl, ha.2, hb.2, h⟩
    · rw [if_neg (by simpa using e2)]
      rw [decide_eq_false e2, Bool.false_and] at h
      exact h
  · rw [e, Bool.true_or] at h
    exact h
local macro_rules | `(tactic| walk_at "dx") => `(tactic| try simp only [sSeq, sIf, sRet, sRetN, sRetV, sSet, sNext, sPar, sPar3, sAsg, sDrop, sOwn, sApp, sIns, sPut, sNever, fOr, fAnd, fNot, fIf, fOp, fUn, fVar, fVarB, fC, fCons, fNil, fTup, fLst, fSl, fP, fNoP, fCall, fCallK, gDat, gaNil, gWel, fChain, fWix, sWput, sWdiv, gNm, gTp, gsNil, gsCons, fiL, fiT, fiR1, sFor, ent, asB_bool, asI_int, if_tt, if_ff,
  List.getElem?_cons_zero, List.getElem?_cons_succ, List.set_cons_zero, List.set_cons_succ, List.cons_append, List.nil_append, List.length_cons, List.length_nil, List.replicate, Nat.zero_add, Nat.reduceAdd, Nat.reduceSub,
  isi_tup, isi_strD, oRepr_bool, oGt_int, oLe_int, oMix_int, oMix_tup, oMix_bi, oMix_ib, oMix_bb, isi_intD, isi_boolD, isi_listD, isTup.eq_1, isTup.eq_2, isStr.eq_1, isStr.eq_2, Bool.not_true, Bool.not_false, oIx_tup, oIx_lst, oEq_int, oEq_str, oEq_bool, oEq_nil, oNe_int, oNe_str, oNe_bool, oLen_tup, oLen_lst, oI_int, oIC_int, oAdd_int, oAdd_tup, oAdd_lst, oLt_int, oInt_int, oInt_bool, oIn_tup, oIn_lst, oSl_tup, oSl_lst,
  atI_zero, atI_one, atI_two, cut_from1, true_and, Bool.false_eq_true, if_false, if_true])
def sg2 (a b : P2) : PyData := .tuple [pd a, pd b]
def C_asc : Ct := fun as S R => ∃ a b : P2, as = [.dat (sg2 a b)] ∧ Bp 499 a ∧ Bp 499 b ∧ R (if first a b = true then sg2 a b else sg2 b a) S
theorem c_asc : ∀ as S R, as.length = 1 → C_asc as S R → G_ascending C_first (ent N_ascending as) S { nx := fun _ S' => R .none S', rt := R } := by
  rintro as S R _ ⟨a, b, rfl, ha, hb, h⟩
  unfold G_ascending
  simp only [sg2] at *
  walk_at "dx"
  refine ⟨_, _, rfl, ha.up (by omega), hb.up (by omega), ?_⟩
  walk_at "dx"
  by_cases e : first a b = true
  · rw [if_pos e] at h ⊢
    exact h
  · rw [if_neg e] at h ⊢
    exact h
def onB (a b c : P2) : Bool :=
  let l := if first a b = true then a else b
  let g := if first a b = true then b else a
  !(first c l || first g c) && decide (Int.sign (crs l g c).1 = 0)
def C_onby : Ct := fun as S R => ∃ a b c : P2, as = [.dat (sg2 a b), .dat (pd c)] ∧ Bp 499 a ∧ Bp 499 b ∧ Bp 499 c ∧ R (.bool (onB a b c)) S
theorem c_onby : ∀ as S R, as.length = 2 → C_onby as S R → G_is_on_by C_asc C_first C_turn (ent N_is_on_by as) S { nx := fun _ S' => R .none S', rt := R } := by
  rintro as S R _ ⟨a, b, c, rfl, ha, hb, hc, h⟩
  unfold G_is_on_by
  walk_at "dx"
  refine ⟨_, _, rfl, ha, hb, ?_⟩
  have e : (if first a b = true then sg2 a b else sg2 b a) = sg2 (if first a b = true then a else b) (if first a b = true then b else a) := by split <;> rfl
  rw [e]
  have hl : Bp 499 (if first a b = true then a else b) := by split <;> assumption
  have hg : Bp 499 (if first a b = true then b else a) := by split <;> assumption
  simp only [onB] at h
  generalize (if first a b = true then a else b) = l at *
  generalize (if first a b = true then b else a) = g at *
  simp only [sg2]
  walk_at "dx"
  refine ⟨_, _, rfl, hc.up (by omega), hl.up (by omega), ?_⟩
  walk_at "dx"
  cases e1 : first c l
  · simp only [Bool.false_eq_true, if_false]
    refine ⟨_, _, rfl, hg.up (by omega), hc.up (by omega), ?_⟩
    walk_at "dx"
    rw [e1, Bool.false_or] at h
    cases e2 : first g c
    · simp only [Bool.false_eq_true, if_false]
      rw [e2] at h
      refine ⟨_, _, _, rfl, hl, hg, hc, ?_⟩
      walk_at "dx"
      exact h
    · rw [e2] at h
      exact h
  · rw [e1, Bool.true_or] at h
    exact h
def Rp (z : P2) : Prop := Rq z.1 ∧ Rq z.2
theorem pt_pd {z : P2} (h : Rp z) : ptD (pd z) = true := by
  obtain ⟨⟨a, b⟩, ⟨c, d⟩⟩ := z
  obtain ⟨⟨h1, h2⟩, ⟨h3, h4⟩⟩ := h
  simp only at h1 h2 h3 h4
  simp [pd, qd, ptD, ratD, h1, h2, h3, h4]
def C_turn_of : Ct := fun as S R => ∃ a b c : P2, as = [.dat (pd a), .dat (pd b), .dat (pd c)] ∧ (Rp a ∧ Rp b ∧ Rp c) ∧ Bp 499 a ∧ Bp 499 b ∧ Bp 499 c ∧ R (.int (Int.sign (crs a b c).1)) S
def C_is_on : Ct := fun as S R => ∃ a b c : P2, as = [.dat (sg2 a b), .dat (pd c)] ∧ (Rp a ∧ Rp b ∧ Rp c ∧ a ≠ b) ∧ Bp 499 a ∧ Bp 499 b ∧ Bp 499 c ∧ R (.bool (onB a b c)) S
/-! the law's reckoning -/
structure H3 where
  x : Int
  y : Int
  w : Int
def hd (p : H3) : PyData := .tuple [.int p.x, .int p.y, .int p.w]
def Bh (k : Nat) (p : H3) : Prop := 0 < p.w ∧ p.x.natAbs < 2 ^ k ∧ p.y.natAbs < 2 ^ k ∧ p.w.natAbs < 2 ^ k
def place (x y w : Int) : H3 := ⟨x / (Nat.gcd (Nat.gcd x.natAbs y.natAbs) w.natAbs : Nat), y / (Nat.gcd (Nat.gcd x.natAbs y.natAbs) w.natAbs : Nat), w / (Nat.gcd (Nat.gcd x.natAbs y.natAbs) w.natAbs : Nat)⟩
def C_place : Ct := fun as S R => ∃ x y w : Int, as = [.dat (.int x), .dat (.int y), .dat (.int w)] ∧ 0 < w ∧ w.natAbs < 2 ^ 8000 ∧ R (hd (place x y w)) S
theorem place_bh {x y w : Int} {k : Nat} (hw : 0 < w) (h1 : x.natAbs < 2 ^ k) (h2 : y.natAbs < 2 ^ k) (h3 : w.natAbs < 2 ^ k) : Bh k (place x y w) := by
  have g : 0 < Nat.gcd (Nat.gcd x.natAbs y.natAbs) w.natAbs := Nat.gcd_pos_of_pos_right _ (by omega)
  exact ⟨Int.ediv_pos_of_pos_of_dvd hw (by omega) (Int.ofNat_dvd_left.mpr (Nat.gcd_dvd_right _ _)), Nat.lt_of_le_of_lt (div_le _ _) h1, Nat.lt_of_le_of_lt (div_le _ _) h2, Nat.lt_of_le_of_lt (div_le _ _) h3⟩
/-- the place shows x / w, y / w -/
theorem place_sm {x y w : Int} (hw : 0 < w) : 0 < (place x y w).w ∧ (place x y w).x * w = x * (place x y w).w ∧ (place x y w).y * w = y * (place x y w).w := by
  have g : 0 < Nat.gcd (Nat.gcd x.natAbs y.natAbs) w.natAbs := Nat.gcd_pos_of_pos_right _ (by omega)
  have d1 : ((Nat.gcd (Nat.gcd x.natAbs y.natAbs) w.natAbs : Nat) : Int) ∣ x := Int.ofNat_dvd_left.mpr (Nat.dvd_trans (Nat.gcd_dvd_left _ _) (Nat.gcd_dvd_left _ _))
  have d2 : ((Nat.gcd (Nat.gcd x.natAbs y.natAbs) w.natAbs : Nat) : Int) ∣ y := Int.ofNat_dvd_left.mpr (Nat.dvd_trans (Nat.gcd_dvd_left _ _) (Nat.gcd_dvd_right _ _))
  have d3 : ((Nat.gcd (Nat.gcd x.natAbs y.natAbs) w.natAbs : Nat) : Int) ∣ w := Int.ofNat_dvd_left.mpr (Nat.gcd_dvd_right _ _)
  have e1 := Int.ediv_mul_cancel d1
  have e2 := Int.ediv_mul_cancel d2
  have e3 := Int.ediv_mul_cancel d3
  have p : 0 < w / ((Nat.gcd (Nat.gcd x.natAbs y.natAbs) w.natAbs : Nat) : Int) := Int.ediv_pos_of_pos_of_dvd hw (by omega) d3
  simp only [place]
  generalize x / ((Nat.gcd (Nat.gcd x.natAbs y.natAbs) w.natAbs : Nat) : Int) = a at *
  generalize y / ((Nat.gcd (Nat.gcd x.natAbs y.natAbs) w.natAbs : Nat) : Int) = b at *
  generalize w / ((Nat.gcd (Nat.gcd x.natAbs y.natAbs) w.natAbs : Nat) : Int) = c at *
  generalize ((Nat.gcd (Nat.gcd x.natAbs y.natAbs) w.natAbs : Nat) : Int) = z at *
  exact ⟨p, by grind, by grind⟩
def told (p : H3) : P2 := (fr p.x p.w, fr p.y p.w)
def C_told : Ct := fun as S R => ∃ p : H3, as = [.dat (hd p)] ∧ Bh 2000 p ∧ R (pd (told p)) S
theorem c_told : ∀ as S R, as.length = 1 → C_told as S R → G_law_told C_part (ent N_law_told as) S { nx := fun _ S' => R .none S', rt := R } := by
  rintro as S R _ ⟨⟨x, y, w⟩, rfl, hp, h⟩
  obtain ⟨hp1, hp2, hp3, hp4⟩ := hp
  unfold G_law_told
  simp only [hd] at *
  walk_at "dx"
  refine ⟨_, _, rfl, hp1, Nat.lt_of_lt_of_le hp4 (pow_le (by omega)), ?_⟩
  walk_at "dx"
  exact ⟨_, _, rfl, hp1, Nat.lt_of_lt_of_le hp4 (pow_le (by omega)), h⟩
def own (z : P2) : H3 := place (z.1.1 * z.2.2) (z.2.1 * z.1.2) (z.1.2 * z.2.2)
def C_own : Ct := fun as S R => ∃ z : P2, as = [.dat (pd z)] ∧ Bp 2000 z ∧ R (hd (own z)) S
theorem c_own : ∀ as S R, as.length = 1 → C_own as S R → G_law_own C_place (ent N_law_own as) S { nx := fun _ S' => R .none S', rt := R } := by
  rintro as S R _ ⟨⟨⟨a, b⟩, ⟨c, d⟩⟩, rfl, hz, h⟩
  obtain ⟨⟨z1, z2, z3⟩, ⟨z4, z5, z6⟩⟩ := hz
  unfold G_law_own
  simp only [pd, qd] at *
  walk_at "dx"
  exact ⟨cmul z2 z6 (by omega), cmul z5 z3 (by omega), cmul z3 z6 (by omega), _, _, _, rfl, Int.mul_pos z1 z4, Nat.lt_of_lt_of_le (bmul z3 z6) (pow_le (by omega)), h⟩
def side (p q r : H3) : Int := p.x * (q.y * r.w - r.y * q.w) - p.y * (q.x * r.w - r.x * q.w) + p.w * (q.x * r.y - r.x * q.y)
def C_side : Ct := fun as S R => ∃ p q r : H3, as = [.dat (hd p), .dat (hd q), .dat (hd r)] ∧ Bh 1000 p ∧ Bh 1000 q ∧ Bh 1000 r ∧ R (.int (side p q r)) S
theorem c_side : ∀ as S R, as.length = 3 → C_side as S R → G_law_side (ent N_law_side as) S { nx := fun _ S' => R .none S', rt := R } := by
  rintro as S R _ ⟨⟨px, py, pw⟩, ⟨qx, qy, qw⟩, ⟨rx, ry, rw⟩, rfl, ⟨_, p1, p2, p3⟩, ⟨_, q1, q2, q3⟩, ⟨_, r1, r2, r3⟩, h⟩
  unfold G_law_side
  simp only [hd] at *
  walk_at "dx"
  refine ⟨cmul q2 r3 (by omega), cmul r2 q3 (by omega), cmul p1 (bsub (bmul q2 r3) (bmul r2 q3)) (by omega), cmul q1 r3 (by omega), cmul r1 q3 (by omega), cmul p2 (bsub (bmul q1 r3) (bmul r1 q3)) (by omega), ?_⟩
  exact ⟨cmul q1 r2 (by omega), cmul r1 q2 (by omega), cmul p3 (bsub (bmul q1 r2) (bmul r1 q2)) (by omega), h⟩
def hless (p q : H3) : Bool := if p.x * q.w = q.x * p.w then decide (p.y * q.w < q.y * p.w) else decide (p.x * q.w < q.x * p.w)
def C_hless : Ct := fun as S R => ∃ p q : H3, as = [.dat (hd p), .dat (hd q)] ∧ Bh 1000 p ∧ Bh 1000 q ∧ R (.bool (hless p q)) S
theorem c_hless : ∀ as S R, as.length = 2 → C_hless as S R → G_law_is_less (ent N_law_is_less as) S { nx := fun _ S' => R .none S', rt := R } := by
  rintro as S R _ ⟨⟨px, py, pw⟩, ⟨qx, qy, qw⟩, rfl, ⟨_, p1, p2, p3⟩, ⟨_, q1, q2, q3⟩, h⟩
  unfold G_law_is_less
  simp only [hd, hless] at *
  walk_at "dx"
  refine ⟨cmul p1 q3 (by omega), cmul q1 p3 (by omega), ?_⟩
  by_cases e : px * qw = qx * pw
  · rw [if_pos e] at h
    simp only [e, decide_true, Bool.not_true, Bool.false_eq_true, if_false]
    exact ⟨cmul p2 q3 (by omega), cmul q2 p3 (by omega), h⟩
  · rw [if_neg e] at h
    simp only [e, decide_false, Bool.not_false, if_true]
    exact ⟨cmul p1 q3 (by omega), cmul q1 p3 (by omega), h⟩
def lies (p q r : H3) : Bool :=
  decide (side p q r = 0) && (!hless r (if hless p q = true then p else q) && !hless (if hless p q = true then q else p) r)
def C_lies : Ct := fun as S R => ∃ p q r : H3, as = [.dat (hd p), .dat (hd q), .dat (hd r)] ∧ Bh 1000 p ∧ Bh 1000 q ∧ Bh 1000 r ∧ R (.bool (lies p q r)) S
theorem c_lies : ∀ as S R, as.length = 3 → C_lies as S R → G_law_lies_on C_side C_hless (ent N_law_lies_on as) S { nx := fun _ S' => R .none S', rt := R } := by
  rintro as S R _ ⟨p, q, r, rfl, hp, hq, hr, h⟩
  unfold G_law_lies_on
  walk_at "dx"
  refine ⟨_, _, _, rfl, hp, hq, hr, ?_⟩
  walk_at "dx"
  simp only [lies] at h
  by_cases e : side p q r = 0
  · simp only [e, decide_true, Bool.not_true, Bool.false_eq_true, if_false, Bool.true_and] at h ⊢
    refine ⟨_, _, rfl, hp, hq, ?_⟩
    walk_at "dx"
    cases c : hless p q
    · simp only [c, Bool.false_eq_true, if_false] at h ⊢
      walk_at "dx"
      refine ⟨_, _, rfl, hr, hq, ?_⟩
      walk_at "dx"
      cases c2 : hless r q
      · rw [c2] at h
        simp only [Bool.not_false, if_true, Bool.true_and] at h ⊢
        exact ⟨_, _, rfl, hp, hr, h⟩
      · rw [c2] at h
        exact h
    · simp only [c, if_true] at h ⊢
      walk_at "dx"
      refine ⟨_, _, rfl, hr, hp, ?_⟩
      walk_at "dx"
      cases c2 : hless r p
      · rw [c2] at h
        simp only [Bool.not_false, if_true, Bool.true_and] at h ⊢
        exact ⟨_, _, rfl, hq, hr, h⟩
      · rw [c2] at h
        exact h
  · simp only [e, decide_false, Bool.not_false, if_true, Bool.false_and] at h ⊢
    exact h
def C_sign : Ct := fun as S R => ∃ x : Int, as = [.dat (.int x)] ∧ R (.int (Int.sign x)) S
end K05

namespace K05
open PySem L2 DL
local macro_rules | `(tactic| walk_at "dx") => `(tactic| try simp only [sSeq, sIf, sRet, sRetN, sRetV, sSet, sNext, sPar, sPar3, sAsg, sDrop, sOwn, sApp, sIns, sPut, sNever, fOr, fAnd, fNot, fIf, fOp, fUn, fVar, fVarB, fC, fCons, fNil, fTup, fLst, fSl, fP, fNoP, fCall, fCallK, gDat, gaNil, gWel, fChain, fWix, sWput, sWdiv, gNm, gTp, gsNil, gsCons, fiL, fiT, fiR1, sFor, ent, asB_bool, asI_int, if_tt, if_ff,
  List.getElem?_cons_zero, List.getElem?_cons_succ, List.set_cons_zero, List.set_cons_succ, List.cons_append, List.nil_append, List.length_cons, List.length_nil, List.replicate, Nat.zero_add, Nat.reduceAdd, Nat.reduceSub,
  isi_tup, isi_strD, oRepr_bool, oGt_int, oLe_int, oMix_int, oMix_tup, oMix_bi, oMix_ib, oMix_bb, isi_intD, isi_boolD, isi_listD, isTup.eq_1, isTup.eq_2, isStr.eq_1, isStr.eq_2, Bool.not_true, Bool.not_false, oIx_tup, oIx_lst, oEq_int, oEq_str, oEq_bool, oEq_nil, oNe_int, oNe_str, oNe_bool, oLen_tup, oLen_lst, oI_int, oIC_int, oAdd_int, oAdd_tup, oAdd_lst, oLt_int, oInt_int, oInt_bool, oIn_tup, oIn_lst, oSl_tup, oSl_lst,
  atI_zero, atI_one, atI_two, cut_from1, true_and, Bool.false_eq_true, if_false, if_true])
def C_num : Ct := fun as S R => as = [.wel] ∧ WOk S ∧ ∀ p S', Rq p → Bq 21 p → WOk S' → R (qd p) S'
theorem own_bh {z : P2} {k : Nat} (h : Bp k z) : Bh (k + k) (own z) := place_bh (Int.mul_pos h.1.1 h.2.1) (bmul h.1.2.1 h.2.2.2) (bmul h.2.2.1 h.1.2.2) (bmul h.1.2.2 h.2.2.2)
theorem Bh.up {j k : Nat} {p : H3} (h : Bh j p) (hk : j ≤ k) : Bh k p := ⟨h.1, Nat.lt_of_lt_of_le h.2.1 (pow_le hk), Nat.lt_of_lt_of_le h.2.2.1 (pow_le hk), Nat.lt_of_lt_of_le h.2.2.2 (pow_le hk)⟩
def C_third : Ct := fun as S R => ∃ p q : H3, as = [.wel, .dat (hd p), .dat (hd q)] ∧ Bh 42 p ∧ Bh 42 q ∧ WOk S ∧ ∀ r S', Bh 150 r → WOk S' → R (hd r) S'
/-- an expression that delivers something, whatever -/
def Any (f : FE) (ρ : Rho) (S : SW) : Prop := ∀ R : PyData → SW → Prop, (∀ d, R d S) → f ρ S R
def AnyL (n : Nat) (g : FL) (ρ : Rho) (S : SW) : Prop := ∀ R : List PyData → SW → Prop, (∀ ds, ds.length = n → R ds S) → g ρ S R
section
variable {ρ : Rho} {S : SW} {f : FE} {g : FL} {n : Nat}
theorem anyC (d : PyData) : Any (fC d) ρ S := fun _ h => h d
theorem anyV {i : Nat} {d : PyData} (e : ρ[i]? = some (.dat d)) : Any (fVar i) ρ S := fun _ h => by
  unfold fVar
  rw [e]
  exact h d
theorem anyT (a : AnyL n g ρ S) : Any (fTup g) ρ S := fun _ h => a _ fun ds _ => h _
theorem anyLs (a : AnyL n g ρ S) : Any (fLst g) ρ S := fun _ h => a _ fun ds _ => h _
theorem anyN : AnyL 0 fNil ρ S := fun _ h => h [] rfl
theorem anyS (a : Any f ρ S) (b : AnyL n g ρ S) : AnyL (n + 1) (fCons f g) ρ S := fun _ h => a _ fun d => b _ fun ds e => h (d :: ds) (by rw [List.length_cons, e])
theorem anyM (i : Int) : Any (fUn oNeg (fC (.int i))) ρ S := fun _ h => h _
theorem anyP {i j : Int} {k : Int → Int → PyData} (c : CPow i j) : Any (fOp (oIC CPow k) (fC (.int i)) (fC (.int j))) ρ S := fun _ h => ⟨c, h _⟩
end
def C_odd : Ct := fun as S R => as = [.wel] ∧ WOk S ∧ ∀ d S', WOk S' → R d S'
/-! ### the plain law -/
/-- the point z is the law's place p -/
def Is (z : P2) (p : H3) : Prop := Sm z.1 p.x p.w ∧ Sm z.2 p.y p.w
theorem own_is {z : P2} {k : Nat} (h : Bp k z) : Is z (own z) := by
  obtain ⟨⟨a, b⟩, ⟨c, d⟩⟩ := z
  obtain ⟨⟨b0, _, _⟩, ⟨d0, _, _⟩⟩ := h
  simp only at b0 d0
  have w0 := Int.mul_pos b0 d0
  obtain ⟨e0, e1, e2⟩ := place_sm (x := a * d) (y := c * b) w0
  simp only [own]
  generalize place (a * d) (c * b) (b * d) = p at *
  refine ⟨⟨b0, e0, cancel w0 ?_⟩, ⟨d0, e0, cancel w0 ?_⟩⟩ <;> simp only <;> grind
theorem told_is {p : H3} (h : 0 < p.w) : Is (told p) p := ⟨fr_sm h, fr_sm h⟩
theorem told_rp {p : H3} (h : 0 < p.w) : Rp (told p) := ⟨fr_rq h, fr_rq h⟩
theorem told_bp {p : H3} {k : Nat} (h : Bh k p) : Bp k (told p) := ⟨fr_bq h.1 h.2.1 h.2.2.2, fr_bq h.1 h.2.2.1 h.2.2.2⟩
theorem crs_side {a b c : P2} {p q r : H3} (ha : Is a p) (hb : Is b q) (hc : Is c r) : Int.sign (crs a b c).1 = Int.sign (side p q r) := by
  have w1 := ha.1.2.1
  have w2 := hb.1.2.1
  have w3 := hc.1.2.1
  have m := mi_sm (ti_sm (mi_sm hb.1 ha.1) (mi_sm hc.2 ha.2)) (ti_sm (mi_sm hb.2 ha.2) (mi_sm hc.1 ha.1))
  have e := m.sign
  rw [show (crs a b c).1 = (mi (ti (mi b.1 a.1) (mi c.2 a.2)) (ti (mi b.2 a.2) (mi c.1 a.1))).1 from rfl, e]
  have f : (q.x * p.w - p.x * q.w) * (r.y * p.w - p.y * r.w) * (q.w * p.w * (r.w * p.w)) - (q.y * p.w - p.y * q.w) * (r.x * p.w - p.x * r.w) * (q.w * p.w * (r.w * p.w)) = side p q r * (p.w * (q.w * p.w * (r.w * p.w))) := by
    simp only [side]
    grind
  rw [f]
  exact sign_mul_pos (Int.mul_pos w1 (Int.mul_pos (Int.mul_pos w2 w1) (Int.mul_pos w3 w1)))
theorem side_turn (p q r : H3) : side q r p = side p q r := by simp only [side]; grind
theorem side_swap (p q r : H3) : side q p r = 0 - side p q r := by simp only [side]; grind
theorem side_pp (p r : H3) : side p p r = 0 := by simp only [side]; grind
theorem sign_swap (x : Int) : Int.sign (0 - x) = 0 - Int.sign x := by rw [Int.zero_sub, Int.sign_neg, Int.zero_sub]
theorem first_less {a b : P2} {p q : H3} (ha : Is a p) (hb : Is b q) (ra : Rp a) (rb : Rp b) : first a b = hless p q := by
  have l1 := ha.1.less hb.1
  have l2 := ha.2.less hb.2
  have e1 := ha.1.eq hb.1 ra.1 rb.1
  simp only [first, hless, less]
  by_cases e : p.x * q.w = q.x * p.w
  · have e' := e1.mpr e
    rw [if_pos e, decide_eq_true e', Bool.true_and, decide_eq_false (show ¬ (a.1.1 * b.1.2 < b.1.1 * a.1.2) from fun z => by have := l1.mp z; omega), Bool.false_or]
    exact decide_eq_decide.mpr l2
  · rw [if_neg e, decide_eq_false (fun z => e (e1.mp z)), Bool.false_and, Bool.or_false]
    exact decide_eq_decide.mpr l1
/-- two unlike places: one is ahead -/
theorem less_other {a b : P2} {p q : H3} (ha : Is a p) (hb : Is b q) (ra : Rp a) (rb : Rp b) (ne : a ≠ b) : hless q p = !hless p q := by
  have e1 := ha.1.eq hb.1 ra.1 rb.1
  have e2 := ha.2.eq hb.2 ra.2 rb.2
  have no : ¬ (p.x * q.w = q.x * p.w ∧ p.y * q.w = q.y * p.w) := fun z => ne (Prod.ext (e1.mpr z.1) (e2.mpr z.2))
  simp only [hless]
  by_cases e : p.x * q.w = q.x * p.w
  · rw [if_pos e, if_pos e.symm]
    have : ¬ (p.y * q.w = q.y * p.w) := fun z => no ⟨e, z⟩
    rw [← decide_not]
    exact decide_eq_decide.mpr (by omega)
  · rw [if_neg e, if_neg (fun z => e z.symm), ← decide_not]
    exact decide_eq_decide.mpr (by omega)
theorem sign_zero (x : Int) : decide (Int.sign x = 0) = decide (x = 0) := decide_eq_decide.mpr Int.sign_eq_zero_iff_zero
theorem onB_lies {a b c : P2} {p q r : H3} (ha : Is a p) (hb : Is b q) (hc : Is c r) (ra : Rp a) (rb : Rp b) (rc : Rp c) : onB a b c = lies p q r := by
  simp only [onB, lies]
  rw [first_less ha hb ra rb]
  cases e : hless p q
  · simp only [Bool.false_eq_true, if_false]
    rw [first_less hc hb rc rb, first_less ha hc ra rc, crs_side hb ha hc, sign_zero, side_swap p q r, show decide (0 - side p q r = 0) = decide (side p q r = 0) from decide_eq_decide.mpr (by omega)]
    cases hless r q <;> cases hless p r <;> simp
  · simp only [if_true]
    rw [first_less hc ha rc ra, first_less hb hc rb rc, crs_side ha hb hc, sign_zero]
    cases hless r p <;> cases hless q r <;> simp
theorem lies_back {a b : P2} {p q r : H3} (ha : Is a p) (hb : Is b q) (ra : Rp a) (rb : Rp b) (ne : a ≠ b) : lies q p r = lies p q r := by
  simp only [lies]
  rw [less_other ha hb ra rb ne, side_swap p q r, show decide (0 - side p q r = 0) = decide (side p q r = 0) from decide_eq_decide.mpr (by omega)]
  cases hless p q <;> simp
theorem less_self (p : H3) : hless p p = false := by
  simp only [hless, if_true]
  exact decide_eq_false (by omega)
theorem lies_end {a b : P2} {p q : H3} (ha : Is a p) (hb : Is b q) (ra : Rp a) (rb : Rp b) (ne : a ≠ b) : lies p q q = true := by
  simp only [lies]
  have s : side p q q = 0 := by simp only [side]; grind
  rw [s]
  cases e : hless p q
  · simp only [Bool.false_eq_true, if_false]
    rw [less_self, e]
    rfl
  · simp only [if_true]
    rw [less_self, less_other ha hb ra rb ne, e]
    rfl
local macro_rules | `(tactic| walk_at "dx") => `(tactic| try simp -implicitDefEqProofs only [sSeq, sIf, sRet, sRetN, sRetV, sSet, sNext, sPar, sPar3, sAsg, sDrop, sOwn, sApp, sIns, sPut, sNever, fOr, fAnd, fNot, fIf, fOp, fUn, fVar, fVarB, fC, fCons, fNil, fTup, fLst, fSl, fP, fNoP, fCall, fCallK, gDat, gaNil, gWel, fChain, fWix, sWput, sWdiv, gNm, gTp, gsNil, gsCons, fiL, fiT, fiR1, sFor, ent, asB_bool, asI_int, if_tt, if_ff,
  List.getElem?_cons_zero, List.getElem?_cons_succ, List.set_cons_zero, List.set_cons_succ, List.cons_append, List.nil_append, List.length_cons, List.length_nil, List.replicate, Nat.zero_add, Nat.reduceAdd, Nat.reduceSub,
  isi_tup, oBack_tup, fCall.eq_1, isi_strD, oRepr_bool, oGt_int, oLe_int, oMix_int, oMix_tup, oMix_bi, oMix_ib, oMix_bb, isi_intD, isi_boolD, isi_listD, isTup.eq_1, isTup.eq_2, isStr.eq_1, isStr.eq_2, Bool.not_true, Bool.not_false, oIx_tup, oIx_lst, oEq_int, oEq_str, oEq_bool, oEq_nil, oNe_int, oNe_str, oNe_bool, oLen_tup, oLen_lst, oI_int, oIC_int, oAdd_int, oAdd_tup, oAdd_lst, oLt_int, oInt_int, oInt_bool, oIn_tup, oIn_lst, oSl_tup, oSl_lst,
  atI_zero, atI_one, atI_two, cut_from1, true_and, Bool.false_eq_true, if_false, if_true])
theorem show_signs (s : Int) (h : s = -1 ∨ s = 0 ∨ s = 1) : showOk (.list [.int s, .int s, .int s, .int s, .int (0 - s), .int (0 - s), .int (0 - s)]) := by
  rcases h with rfl | rfl | rfl <;> exact ⟨by decide +kernel, by decide +kernel, by decide +kernel, by decide +kernel⟩
theorem show_nils : showOk (.list [.int 0, .int 0, .int 0]) := ⟨by decide +kernel, by decide +kernel, by decide +kernel, by decide +kernel⟩
theorem show_truth4 (a b c d : Bool) : showOk (.list [.bool a, .bool b, .bool c, .bool d]) := by
  cases a <;> cases b <;> cases c <;> cases d <;> exact ⟨by decide +kernel, by decide +kernel, by decide +kernel, by decide +kernel⟩
theorem show_truth7 : ∀ a b c d e f g : Bool, showOk (.list [.bool a, .bool b, .bool c, .bool d, .bool e, .bool f, .bool g]) := by
  unfold showOk
  decide +kernel
theorem ne_same {d : PyData} {o : O2} {l : List PyData} {R : PyData → Prop} (ok : showOk (.list l)) (h : R (.bool false)) : oReprG (.list l) fun x => oReprG (.list l) fun y => oNe x y R := by
  refine ⟨ok, ok, ?_⟩
  show oNe (.str _) (.str _) R
  rw [oNe_str, decide_eq_true rfl]
  exact h
theorem eq_same {l : List PyData} {R : PyData → Prop} (ok : showOk (.list l)) (h : R (.bool true)) : oReprG (.list l) fun x => oReprG (.list l) fun y => oEq x y R := by
  refine ⟨ok, ok, ?_⟩
  show oEq (.str _) (.str _) R
  rw [oEq_str, decide_eq_true rfl]
  exact h
theorem ix0 {i : Nat} {x : PyData} {r : List PyData} {ρ : Rho} {S : SW} {Q : PyData → SW → Prop} (hρ : ρ[i]? = some (.dat (.tuple (x :: r)))) (h : Q x S) : fOp oIx (fVarB i) (fC (.int 0)) ρ S Q := by
  unfold fOp fVarB fC
  rw [hρ]
  show oIx (.tuple (x :: r)) (.int 0) _
  rw [oIx_tup, atI_zero]
  exact h
theorem app_of {i : Nat} {xs : List PyData} {f : FE} {ρ : Rho} {S : SW} {B : Out} (hρ : ρ[i]? = some (.own xs)) (hl : xs.length ≤ 400) (h : f ρ S fun d S1 => B.nx (ρ.set i (.own (xs ++ [d]))) S1) : sApp i f ρ S B := by
  unfold sApp
  rw [hρ]
  exact ⟨by rw [sizeLine_eq]; omega, h⟩
theorem tup2 {a b : FE} {ρ : Rho} {S : SW} {Q : PyData → SW → Prop} (h : a ρ S fun x S1 => b ρ S1 fun y S2 => Q (.tuple [x, y]) S2) : fTup (fCons a (fCons b fNil)) ρ S Q := h
theorem chk {a b : FE} {ρ : Rho} {S : SW} {B : Out} {X : FS} {v : Bool} (ha : ∀ Q : PyData → SW → Prop, Q (.bool v) S → a ρ S Q) (hb : ∀ Q : PyData → SW → Prop, Q (.bool v) S → b ρ S Q) (h : B.nx ρ S) : sIf (fOp oNe (fUn oReprG a) (fUn oReprG b)) X sNext ρ S B := by
  unfold sIf fOp fUn
  refine ha _ ?_
  rw [oRepr_bool]
  refine hb _ ?_
  rw [oRepr_bool]
  show oNe (.str _) (.str _) _
  rw [oNe_str, decide_eq_true rfl]
  exact h
theorem own_ix {i : Nat} {xs : List PyData} {k : Int} {d : PyData} {ρ : Rho} {S : SW} {Q : PyData → SW → Prop} (hρ : ρ[i]? = some (.own xs)) (e : atI xs k = some d) (h : Q d S) : fOp oIx (fVarB i) (fC (.int k)) ρ S Q := by
  unfold fOp fVarB fC
  rw [hρ]
  show oIx (.list xs) (.int k) _
  rw [oIx_lst, e]
  exact h
theorem fin_eq {a b : FE} {ρ : Rho} {S : SW} {B : Out} {l : List PyData} (ok : showOk (.list l)) (ha : ∀ Q : PyData → SW → Prop, Q (.list l) S → a ρ S Q) (hb : ∀ Q : PyData → SW → Prop, Q (.list l) S → b ρ S Q) (h : B.rt (.bool true) S) : sRet (fOp oEq (fUn oReprG a) (fUn oReprG b)) ρ S B := by
  unfold sRet fOp fUn
  refine ha _ ⟨ok, ?_⟩
  refine hb _ ⟨ok, ?_⟩
  show oEq (.str _) (.str _) _
  rw [oEq_str, decide_eq_true rfl]
  exact h
theorem lc_own {i : Nat} {j : Nat} {f : PyData → Bool} {xs : List PyData} {ρ : Rho} {S : SW} {Q : PyData → SW → Prop} (hρ : ρ[i]? = some (.own xs)) (hl : xs.length ≤ 1000) (own : notOwn ρ [j]) (hj : ∀ d, ((rwipe ρ [j]).set j (.dat d))[j]? = some (.dat d)) (h : Q (.list (xs.map fun d => .bool (f d))) S) :
    fLc (fiL (fVarB i)) [j] (gNm j) (fC (.bool true)) (fCall (C_bool f) (gDat (fVar j) gaNil)) ρ S Q := by
  unfold fLc fiL fVarB
  rw [hρ]
  refine ⟨own, small_le _ hl, lcGo_map (g := fun d => .bool (f d)) (fun d _ R q => ?_) (by rw [List.nil_append]; exact h)⟩
  unfold fCall gDat fVar gaNil
  rw [hj]
  exact ⟨d, rfl, q⟩
theorem par_of {a b : FE} {i j : Nat} {rest : FS} {ρ : Rho} {S : SW} {B : Out} (h : a ρ S fun x S1 => b ρ S1 fun y S2 => rest ((ρ.set i (.dat x)).set j (.dat y)) S2 B) : sSeq (sPar i j (fCons a (fCons b fNil))) rest ρ S B := h
theorem set_of {f : FE} {i : Nat} {rest : FS} {ρ : Rho} {S : SW} {B : Out} (h : f ρ S fun d S1 => rest (ρ.set i (.dat d)) S1 B) : sSeq (sSet i f) rest ρ S B := h
theorem call1 {C : Ct} {i : Nat} {a : PyData} {ρ : Rho} {S : SW} {R : PyData → SW → Prop} (h1 : ρ[i]? = some (.dat a)) (h : C [.dat a] S R) : fCall C (gDat (fVar i) gaNil) ρ S R := by
  unfold fCall gDat fVar gaNil
  rw [h1]
  exact h
theorem call3 {C : Ct} {i j k : Nat} {a b c : PyData} {ρ : Rho} {S : SW} {R : PyData → SW → Prop} (h1 : ρ[i]? = some (.dat a)) (h2 : ρ[j]? = some (.dat b)) (h3 : ρ[k]? = some (.dat c)) (h : C [.dat a, .dat b, .dat c] S R) : fCall C (gDat (fVar i) (gDat (fVar j) (gDat (fVar k) gaNil))) ρ S R := by
  unfold fCall gDat fVar gaNil
  rw [h1, h2, h3]
  exact h
/-- turn_of of three -/
theorem turn_at {i j k : Nat} {a b c : P2} {p q r : H3} {v : Int} {ρ : Rho} {S : SW} {R : PyData → SW → Prop} (h1 : ρ[i]? = some (.dat (pd a))) (h2 : ρ[j]? = some (.dat (pd b))) (h3 : ρ[k]? = some (.dat (pd c)))
    (ha : Is a p ∧ Rp a ∧ Bp 499 a) (hb : Is b q ∧ Rp b ∧ Bp 499 b) (hc : Is c r ∧ Rp c ∧ Bp 499 c) (e : Int.sign (side p q r) = v) (h : R (.int v) S) : fCall C_turn_of (gDat (fVar i) (gDat (fVar j) (gDat (fVar k) gaNil))) ρ S R := by
  refine call3 h1 h2 h3 ⟨a, b, c, rfl, ⟨ha.2.1, hb.2.1, hc.2.1⟩, ha.2.2, hb.2.2, hc.2.2, ?_⟩
  rw [crs_side ha.1 hb.1 hc.1, e]
  exact h
theorem turn_at120 {i j k : Nat} {a b c : P2} {p q r : H3} {v : Int} {ρ : Rho} {S : SW} {R : PyData → SW → Prop} (h1 : ρ[i]? = some (.dat (pd c))) (h2 : ρ[j]? = some (.dat (pd a))) (h3 : ρ[k]? = some (.dat (pd b)))
    (ha : Is a p ∧ Rp a ∧ Bp 499 a) (hb : Is b q ∧ Rp b ∧ Bp 499 b) (hc : Is c r ∧ Rp c ∧ Bp 499 c) (e : Int.sign (side p q r) = v) (h : R (.int v) S) : fCallK C_turn_of pm120 (gDat (fVar i) (gDat (fVar j) (gDat (fVar k) gaNil))) ρ S R := by
  unfold fCallK gDat fVar gaNil
  rw [h1, h2, h3]
  show C_turn_of [.dat (pd a), .dat (pd b), .dat (pd c)] S R
  refine ⟨a, b, c, rfl, ⟨ha.2.1, hb.2.1, hc.2.1⟩, ha.2.2, hb.2.2, hc.2.2, ?_⟩
  rw [crs_side ha.1 hb.1 hc.1, e]
  exact h
theorem turn_atId {i j k : Nat} {a b c : P2} {p q r : H3} {v : Int} {ρ : Rho} {S : SW} {R : PyData → SW → Prop} (h1 : ρ[i]? = some (.dat (pd a))) (h2 : ρ[j]? = some (.dat (pd b))) (h3 : ρ[k]? = some (.dat (pd c)))
    (ha : Is a p ∧ Rp a ∧ Bp 499 a) (hb : Is b q ∧ Rp b ∧ Bp 499 b) (hc : Is c r ∧ Rp c ∧ Bp 499 c) (e : Int.sign (side p q r) = v) (h : R (.int v) S) : fCallK C_turn_of pmId (gDat (fVar i) (gDat (fVar j) (gDat (fVar k) gaNil))) ρ S R := by
  unfold fCallK gDat fVar gaNil
  rw [h1, h2, h3]
  show C_turn_of [.dat (pd a), .dat (pd b), .dat (pd c)] S R
  refine ⟨a, b, c, rfl, ⟨ha.2.1, hb.2.1, hc.2.1⟩, ha.2.2, hb.2.2, hc.2.2, ?_⟩
  rw [crs_side ha.1 hb.1 hc.1, e]
  exact h
theorem on_at {i j : Nat} {a b c : P2} {p q r : H3} {v : Bool} {ρ : Rho} {S : SW} {R : PyData → SW → Prop} (h1 : ρ[i]? = some (.dat (sg2 a b))) (h2 : ρ[j]? = some (.dat (pd c)))
    (ha : Is a p ∧ Rp a ∧ Bp 499 a) (hb : Is b q ∧ Rp b ∧ Bp 499 b) (hc : Is c r ∧ Rp c ∧ Bp 499 c) (ne : a ≠ b) (e : lies p q r = v) (h : R (.bool v) S) : fCall C_is_on (gDat (fVar i) (gDat (fVar j) gaNil)) ρ S R := by
  unfold fCall gDat fVar gaNil
  rw [h1, h2]
  refine ⟨a, b, c, rfl, ⟨ha.2.1, hb.2.1, hc.2.1, ne⟩, ha.2.2, hb.2.2, hc.2.2, ?_⟩
  rw [onB_lies ha.1 hb.1 hc.1 ha.2.1 hb.2.1 hc.2.1, e]
  exact h
theorem on_at10 {i j : Nat} {a b c : P2} {p q r : H3} {v : Bool} {ρ : Rho} {S : SW} {R : PyData → SW → Prop} (h1 : ρ[i]? = some (.dat (pd c))) (h2 : ρ[j]? = some (.dat (sg2 a b)))
    (ha : Is a p ∧ Rp a ∧ Bp 499 a) (hb : Is b q ∧ Rp b ∧ Bp 499 b) (hc : Is c r ∧ Rp c ∧ Bp 499 c) (ne : a ≠ b) (e : lies p q r = v) (h : R (.bool v) S) : fCallK C_is_on pm10 (gDat (fVar i) (gDat (fVar j) gaNil)) ρ S R := by
  unfold fCallK gDat fVar gaNil
  rw [h1, h2]
  show C_is_on [.dat (sg2 a b), .dat (pd c)] S R
  refine ⟨a, b, c, rfl, ⟨ha.2.1, hb.2.1, hc.2.1, ne⟩, ha.2.2, hb.2.2, hc.2.2, ?_⟩
  rw [onB_lies ha.1 hb.1 hc.1 ha.2.1 hb.2.1 hc.2.1, e]
  exact h
/-- the segment turned round -/
theorem on_back {i j : Nat} {a b c : P2} {p q r : H3} {v : Bool} {ρ : Rho} {S : SW} {R : PyData → SW → Prop} (h1 : ρ[i]? = some (.dat (sg2 a b))) (h2 : ρ[j]? = some (.dat (pd c)))
    (ha : Is a p ∧ Rp a ∧ Bp 499 a) (hb : Is b q ∧ Rp b ∧ Bp 499 b) (hc : Is c r ∧ Rp c ∧ Bp 499 c) (ne : a ≠ b) (e : lies p q r = v) (h : R (.bool v) S) : fCall C_is_on (gDat (fUn oBack (fVarB i)) (gDat (fVar j) gaNil)) ρ S R := by
  unfold fCall gDat fUn fVarB fVar gaNil
  rw [h1, h2]
  show C_is_on [.dat (sg2 b a), .dat (pd c)] S R
  refine ⟨b, a, c, rfl, ⟨hb.2.1, ha.2.1, hc.2.1, fun z => ne z.symm⟩, hb.2.2, ha.2.2, hc.2.2, ?_⟩
  rw [onB_lies hb.1 ha.1 hc.1 hb.2.1 ha.2.1 hc.2.1, lies_back ha.1 hb.1 ha.2.1 hb.2.1 ne, e]
  exact h
end K05

namespace K05
open PySem L2 DL
local macro_rules | `(tactic| walk_at "dw") => `(tactic| try simp -implicitDefEqProofs only [sSeq, sIf, sRet, sRetN, sRetV, sSet, sNext, sPar, sPar3, sAsg, sDrop, sOwn, sApp, sIns, sPut, sNever, sFrz, sParO, fOr, fAnd, fNot, fIf, fOp, fUn, fVar, fVarB, fC, fCons, fNil, fTup, fLst, fSl, fP, fNoP, fCall, fCallK, gDat, gaNil, gWel, fChain, fWix, sWput, sWdiv, gNm, gTp, gsNil, gsCons, fiL, fiT, fiE, fiR1, fiR2, sFor, rowD, ent, asB_bool, asI_int, if_tt, if_ff,
  List.getElem?_cons_zero, List.getElem?_cons_succ, List.set_cons_zero, List.set_cons_succ, List.cons_append, List.nil_append, List.length_cons, List.length_nil, List.replicate, Nat.zero_add, Nat.reduceAdd, Nat.reduceSub,
  isi_tup, oReprG_bool, oGtD_int, oLeD_int, oGeD_int, oMixD_int, oMixD_tup, oMixD_bi, oMixD_ib, oMixD_bb, oStrD_int, oListD_tup, oListD_lst, oTupleD_lst, oTupleD_tup, oBackD_tup, oBackD_lst, oNegD_int, isi_strD, isi_intD, isi_boolD, isi_listD, isTup.eq_1, isTup.eq_2, isStr.eq_1, isStr.eq_2, isNum.eq_1, isNum.eq_2, Bool.not_true, Bool.not_false, oIx_tup, oIx_lst, oEq_int, oEq_str, oEq_bool, oEq_nil, oNe_int, oNe_str, oNe_bool, oLen_tup, oLen_lst, oI_int, oIC_int, oAdd_int, oAdd_tup, oAdd_lst, oLt_int, oInt_int, oInt_bool, oIn_tup, oIn_lst, oSl_tup, oSl_lst,
  atI_zero, atI_one, atI_two, atI_three, atI_four, cut_from1, true_and, Bool.false_eq_true, if_false, if_true])
/-! ### the law's grid -/
structure Fm where
  x : Int
  y : Int
  s : Int
  u : Int
  w : Int
def fmd (f : Fm) : PyData := .tuple [.int f.x, .int f.y, .int f.s, .int f.u, .int f.w]
def FmOk (f : Fm) : Prop := (-1000000 ≤ f.x ∧ f.x ≤ 1000000) ∧ (-1000000 ≤ f.y ∧ f.y ≤ 1000000) ∧ (0 < f.s ∧ f.s ≤ 100003) ∧ (0 < f.u ∧ f.u ≤ 6) ∧ (3 ≤ f.w ∧ f.w ≤ 5)
def C_frame : Ct := fun as S R => as = [.wel] ∧ WOk S ∧ ∀ f S', FmOk f → WOk S' → R (fmd f) S'
theorem c_frame : ∀ as S R, as.length = 1 → C_frame as S R → G_law_frame C_one (ent N_law_frame as) S { nx := fun _ S' => R .none S', rt := R } := by
  rintro as S R _ ⟨rfl, w, h⟩
  unfold G_law_frame
  walk_at "dw"
  refine one_of rfl (by decide) w fun d S1 hd w1 => ?_
  have : ∃ u : Int, d = .int u ∧ 3 ≤ u ∧ u ≤ 5 := by
    simp only [List.mem_cons, List.not_mem_nil, or_false] at hd
    rcases hd with e | e | e <;> exact ⟨_, e, by decide, by decide⟩
  obtain ⟨wd, rfl, w2, w3⟩ := this
  refine one_of rfl (by decide) w1 fun d S2 hd w2' => ?_
  have fin : ∀ a b c e : Int, (-1000000 ≤ a ∧ a ≤ 1000000) ∧ (-1000000 ≤ b ∧ b ≤ 1000000) ∧ (0 < c ∧ c ≤ 100003) ∧ (0 < e ∧ e ≤ 6) → R (.tuple [.int a, .int b, .int c, .int e, .int wd]) S2 := fun a b c e q => h ⟨a, b, c, e, wd⟩ S2 ⟨q.1, q.2.1, q.2.2.1, q.2.2.2, w2, w3⟩ w2'
  simp only [List.mem_cons, List.not_mem_nil, or_false] at hd
  rcases hd with e | e | e | e | e | e | e | e <;> subst e <;> walk_at "dw" <;> exact fin _ _ _ _ (by decide)
def gpt (f : Fm) (i j n : Int) : P2 := (fr (f.x * n + f.s * i) (f.u * n), fr (f.y * n + f.s * j) (f.u * n))
def C_grid : Ct := fun as S R => ∃ (f : Fm) (i j n : Int), as = [.dat (fmd f), .dat (.int i), .dat (.int j), .dat (.int n)] ∧ FmOk f ∧ (-1000 < i ∧ i < 1000) ∧ (-1000 < j ∧ j < 1000) ∧ (0 < n ∧ n < 8) ∧ R (pd (gpt f i j n)) S
theorem gpt_b {a n s i : Int} (ha : -1000000 ≤ a ∧ a ≤ 1000000) (hn : 0 < n ∧ n < 8) (hs : 0 < s ∧ s ≤ 100003) (hi : -1000 < i ∧ i < 1000) : (a * n + s * i).natAbs < 2 ^ 28 := by
  have q1 : (a * n).natAbs < 2 ^ 23 := bmul (j := 20) (k := 3) (by omega) (by omega)
  have q2 : (s * i).natAbs < 2 ^ 27 := bmul (j := 17) (k := 10) (by omega) (by omega)
  omega
theorem gpt_w {u n : Int} (hn : 0 < n ∧ n < 8) (hu : 0 < u ∧ u ≤ 6) : 0 < u * n ∧ (u * n).natAbs < 2 ^ 6 := ⟨Int.mul_pos hu.1 hn.1, bmul (j := 3) (k := 3) (by omega) (by omega)⟩
theorem c_grid : ∀ as S R, as.length = 4 → C_grid as S R → G_law_grid C_part (ent N_law_grid as) S { nx := fun _ S' => R .none S', rt := R } := by
  rintro as S R _ ⟨⟨x, y, s, u, wd⟩, i, j, n, rfl, ⟨hx, hy, hs, hu, hw⟩, hi, hj, hn, h⟩
  unfold G_law_grid
  simp only [fmd, gpt] at *
  walk_at "dw"
  have b1 := gpt_w hn hu
  have b2 : (u * n).natAbs < 2 ^ 8000 := Nat.lt_of_lt_of_le b1.2 (pow_le (by omega))
  refine ⟨cmul (j := 20) (k := 3) (by omega) (by omega) (by omega), cmul (j := 17) (k := 10) (by omega) (by omega) (by omega), cmul (j := 3) (k := 3) (by omega) (by omega) (by omega), _, _, rfl, b1.1, b2, ?_⟩
  walk_at "dw"
  exact ⟨cmul (j := 20) (k := 3) (by omega) (by omega) (by omega), cmul (j := 17) (k := 10) (by omega) (by omega) (by omega), cmul (j := 3) (k := 3) (by omega) (by omega) (by omega), _, _, rfl, b1.1, b2, h⟩
theorem gpt_ok {f : Fm} {i j n : Int} (hf : FmOk f) (hi : -1000 < i ∧ i < 1000) (hj : -1000 < j ∧ j < 1000) (hn : 0 < n ∧ n < 8) : Rp (gpt f i j n) ∧ Bp 28 (gpt f i j n) := by
  obtain ⟨hx, hy, hs, hu, hw⟩ := hf
  have b := gpt_w hn hu
  have b2 : (f.u * n).natAbs < 2 ^ 28 := Nat.lt_of_lt_of_le b.2 (pow_le (by omega))
  exact ⟨⟨fr_rq b.1, fr_rq b.1⟩, fr_bq b.1 (gpt_b hx hn hs hi) b2, fr_bq b.1 (gpt_b hy hn hs hj) b2⟩
def C_dot : Ct := fun as S R => ∃ f, as = [.wel, .dat (fmd f)] ∧ FmOk f ∧ WOk S ∧ ∀ z S', Rp z → Bp 28 z → WOk S' → R (pd z) S'
theorem c_dot : ∀ as S R, as.length = 2 → C_dot as S R → G_law_dot C_one C_draw C_grid (ent N_law_dot as) S { nx := fun _ S' => R .none S', rt := R } := by
  rintro as S R _ ⟨f, rfl, hf, w, h⟩
  have hw := hf.2.2.2.2
  unfold G_law_dot
  walk_at "dw"
  refine one_of rfl (by decide) w fun d S1 hd w1 => ?_
  have : ∃ u : Int, d = .int u ∧ 1 ≤ u ∧ u ≤ 3 := by
    simp only [List.mem_cons, List.not_mem_nil, or_false] at hd
    rcases hd with e | e | e | e | e <;> exact ⟨_, e, by decide, by decide⟩
  obtain ⟨n, rfl, n1, n2⟩ := this
  simp only [fmd]
  walk_at "dw"
  have b : 0 < n * f.w + 1 ∧ n * f.w + 1 ≤ 16 := by
    have : n = 1 ∨ n = 2 ∨ n = 3 := by omega
    rcases this with rfl | rfl | rfl <;> omega
  have c : CMulA n f.w := cmul (j := 2) (k := 3) (by omega) (by omega) (by omega)
  refine ⟨c, _, rfl, b.1, by omega, w1, fun i S2 i1 i2 w2 => ?_⟩
  walk_at "dw"
  refine ⟨c, _, rfl, b.1, by omega, w2, fun j S3 j1 j2 w3 => ?_⟩
  walk_at "dw"
  have q := gpt_ok (i := i) (j := j) hf (by omega) (by omega) (show 0 < n ∧ n < 8 by omega)
  exact ⟨f, i, j, n, rfl, hf, by omega, by omega, by omega, h _ S3 q.1 q.2 w3⟩
/-! ### places in lowest terms -/
def Red (p : H3) : Prop := 0 < p.w ∧ Nat.gcd (Nat.gcd p.x.natAbs p.y.natAbs) p.w.natAbs = 1
theorem place_red {x y w : Int} (hw : 0 < w) : Red (place x y w) := by
  have g : 0 < Nat.gcd (Nat.gcd x.natAbs y.natAbs) w.natAbs := Nat.gcd_pos_of_pos_right _ (by omega)
  have d1 : ((Nat.gcd (Nat.gcd x.natAbs y.natAbs) w.natAbs : Nat) : Int) ∣ x := Int.ofNat_dvd_left.mpr (Nat.dvd_trans (Nat.gcd_dvd_left _ _) (Nat.gcd_dvd_left _ _))
  have d2 : ((Nat.gcd (Nat.gcd x.natAbs y.natAbs) w.natAbs : Nat) : Int) ∣ y := Int.ofNat_dvd_left.mpr (Nat.dvd_trans (Nat.gcd_dvd_left _ _) (Nat.gcd_dvd_right _ _))
  have d3 : ((Nat.gcd (Nat.gcd x.natAbs y.natAbs) w.natAbs : Nat) : Int) ∣ w := Int.ofNat_dvd_left.mpr (Nat.gcd_dvd_right _ _)
  refine ⟨(place_sm hw).1, ?_⟩
  simp only [place]
  rw [Int.natAbs_ediv_of_dvd d1, Int.natAbs_ediv_of_dvd d2, Int.natAbs_ediv_of_dvd d3, Int.natAbs_natCast]
  rw [Nat.gcd_div (Int.ofNat_dvd_left.mp d1) (Int.ofNat_dvd_left.mp d2), Nat.gcd_div (Nat.gcd_dvd_left _ _) (Nat.gcd_dvd_right _ _)]
  exact Nat.div_self g
theorem red_dvd {p q : H3} (hp : Red p) (h1 : p.x * q.w = q.x * p.w) (h2 : p.y * q.w = q.y * p.w) : p.w.natAbs ∣ q.w.natAbs := by
  have n1 : p.x.natAbs * q.w.natAbs = q.x.natAbs * p.w.natAbs := by rw [← Int.natAbs_mul, ← Int.natAbs_mul, h1]
  have n2 : p.y.natAbs * q.w.natAbs = q.y.natAbs * p.w.natAbs := by rw [← Int.natAbs_mul, ← Int.natAbs_mul, h2]
  have a1 : p.w.natAbs ∣ p.x.natAbs * q.w.natAbs := by rw [n1]; exact Nat.dvd_mul_left _ _
  have a2 : p.w.natAbs ∣ p.y.natAbs * q.w.natAbs := by rw [n2]; exact Nat.dvd_mul_left _ _
  have a3 : p.w.natAbs ∣ p.w.natAbs * q.w.natAbs := Nat.dvd_mul_right _ _
  have b1 := Nat.dvd_gcd (Nat.dvd_gcd a1 a2) a3
  rw [Nat.gcd_mul_right, Nat.gcd_mul_right, hp.2, Nat.one_mul] at b1
  exact b1
theorem red_eq {p q : H3} (hp : Red p) (hq : Red q) (h1 : p.x * q.w = q.x * p.w) (h2 : p.y * q.w = q.y * p.w) : p = q := by
  have e : p.w.natAbs = q.w.natAbs := Nat.dvd_antisymm (red_dvd hp h1 h2) (red_dvd hq h1.symm h2.symm)
  obtain ⟨x, y, w⟩ := p
  obtain ⟨x', y', w'⟩ := q
  have p0 := hp.1
  have q0 := hq.1
  simp only at *
  have ew : w = w' := by omega
  subst ew
  have e1 : x = x' := Int.eq_of_mul_eq_mul_right (by omega) h1
  have e2 : y = y' := Int.eq_of_mul_eq_mul_right (by omega) h2
  rw [e1, e2]
theorem own_red {z : P2} {k : Nat} (h : Bp k z) : Red (own z) := place_red (Int.mul_pos h.1.1 h.2.1)
theorem is_uniq {z : P2} {p q : H3} (h1 : Is z p) (h2 : Is z q) (hp : Red p) (hq : Red q) : p = q := by
  obtain ⟨⟨a0, _, a1⟩, ⟨b0, _, b1⟩⟩ := h1
  obtain ⟨⟨_, _, a2⟩, ⟨_, _, b2⟩⟩ := h2
  refine red_eq hp hq (cancel a0 ?_) (cancel b0 ?_)
  · generalize z.1.1 = a at *
    generalize z.1.2 = b at *
    grind
  · generalize z.2.1 = a at *
    generalize z.2.2 = b at *
    grind
theorem own_told {p : H3} (h : Red p) {k : Nat} (hb : Bp k (told p)) : own (told p) = p := is_uniq (own_is hb) (told_is h.1) (own_red hb) h
theorem eqv_hd (p q : H3) : PyData.eqv (hd p) (hd q) = true ↔ p = q := by
  obtain ⟨a, b, c⟩ := p
  obtain ⟨d, e, f⟩ := q
  simp only [hd, PyData.eqv, PyData.eqvAll, Bool.and_true]
  simp
local macro_rules | `(tactic| walk_at "dw") => `(tactic| try simp -implicitDefEqProofs only [sSeq, sIf, sRet, sRetN, sRetV, sSet, sNext, sPar, sPar3, sAsg, sDrop, sOwn, sApp, sIns, sPut, sNever, sFrz, sParO, fOr, fAnd, fNot, fIf, fOp, fUn, fVar, fVarB, fC, fCons, fNil, fTup, fLst, fSl, fP, fNoP, fCall, fCallK, gDat, gaNil, gWel, fChain, fWix, sWput, sWdiv, gNm, gTp, gsNil, gsCons, fiL, fiT, fiE, fiR1, fiR2, sFor, rowD, ent, asB_bool, asI_int, if_tt, if_ff,
  List.getElem?_cons_zero, List.getElem?_cons_succ, List.set_cons_zero, List.set_cons_succ, List.cons_append, List.nil_append, List.length_cons, List.length_nil, List.replicate, Nat.zero_add, Nat.reduceAdd, Nat.reduceSub,
  isi_tup, oReprG_bool, oGtD_int, oLeD_int, oGeD_int, oMixD_int, oMixD_tup, oMixD_bi, oMixD_ib, oMixD_bb, oStrD_int, oListD_tup, oListD_lst, oTupleD_lst, oTupleD_tup, oBackD_tup, oBackD_lst, oNegD_int, isi_strD, isi_intD, isi_boolD, isi_listD, isTup.eq_1, isTup.eq_2, isStr.eq_1, isStr.eq_2, isNum.eq_1, isNum.eq_2, Bool.not_true, Bool.not_false, oIx_tup, oIx_lst, oEq_int, oEq_str, oEq_bool, oEq_nil, oNe_int, oNe_str, oNe_bool, oLen_tup, oLen_lst, oI_int, oIC_int, oAdd_int, oAdd_tup, oAdd_lst, oLt_int, oInt_int, oInt_bool, oIn_tup, oIn_lst, oSl_tup, oSl_lst,
  atI_zero, atI_one, atI_two, atI_three, atI_four, cut_from1, true_and, Bool.false_eq_true, if_false, if_true])
theorem lcGo_draw {i : Nat} {fe : FE} {ρ : Rho} {T : List PyData → SW → Prop} {P : PyData → Prop} : ∀ {ds acc : List PyData} {S : SW}, WOk S → (∀ a ∈ acc, P a) → (∀ d S, d ∈ ds → WOk S → ∀ Q : PyData → SW → Prop, (∀ y S', P y → WOk S' → Q y S') → fe (ρ.set i (.dat d)) S Q) →
    (∀ out S', out.length = acc.length + ds.length → (∀ y ∈ out, P y) → WOk S' → T out S') → lcGo (gNm i) (fC (.bool true)) fe ρ ds acc S T
  | [], acc, S, w, ha, he, h => h acc S (by simp) ha w
  | d :: ds, acc, S, w, ha, he, h => by
    simp only [lcGo, gNm, fC, asB_bool, if_tt]
    refine he d S (by simp) w _ fun y S' py w' => ?_
    refine lcGo_draw w' (fun a h => ?_) (fun d' S hd' => he d' S (by simp [hd'])) (fun out S' hl ho w'' => h out S' (by simp at hl ⊢; omega) ho w'')
    rcases List.mem_append.mp h with h | h
    · exact ha a h
    · rw [List.mem_singleton.mp h]
      exact py
theorem draw_at {m : Int} {ρ : Rho} {S : SW} {Q : PyData → SW → Prop} (h0 : ρ[0]? = some .wel) (m0 : 0 < m) (m1 : m < 100000000) (w : WOk S) (h : ∀ r S', 0 ≤ r → r < m → WOk S' → Q (.int r) S') : fCall C_draw (gWel 0 (gDat (fC (.int m)) gaNil)) ρ S Q :=
  w_welF h0 (show C_draw [.wel, .dat (.int m)] S Q from ⟨m, rfl, m0, m1, w, h⟩)
theorem draw1_at {a m : Int} {ρ : Rho} {S : SW} {Q : PyData → SW → Prop} (h0 : ρ[0]? = some .wel) (m0 : 0 < m) (m1 : m < 100000000) (w : WOk S) (h : ∀ r S', 0 ≤ r → r < m → WOk S' → Q (.int (a + r)) S') : fOp oAdd (fC (.int a)) (fCall C_draw (gWel 0 (gDat (fC (.int m)) gaNil))) ρ S Q :=
  w_op (show fCall C_draw (gWel 0 (gDat (fC (.int m)) gaNil)) ρ S _ from draw_at h0 m0 m1 w h)
theorem draw_pick {n : Int} {X Y : FE} {ρ : Rho} {S : SW} {Q : PyData → SW → Prop} (h0 : ρ[0]? = some .wel) (n0 : 0 < n) (n1 : n < 100000000) (w : WOk S)
    (h : ∀ S', WOk S' → X ρ S' Q) (k : ∀ S', WOk S' → Y ρ S' Q) :
    fIf (fOp oEq (fCall C_draw (gWel 0 (gDat (fC (.int n)) gaNil))) (fC (.int 0))) X Y ρ S Q := by
  unfold fIf fOp fCall gWel gDat fC gaNil
  rw [h0]
  refine ⟨n, rfl, n0, n1, w, fun r S1 r1 r2 w1 => ?_⟩
  simp only [oEq_int, asB_bool]
  split
  · exact h _ w1
  · exact k _ w1
theorem hd_shaped (p : H3) : SeqAt.shaped (hd p) = true := rfl
local macro_rules | `(tactic| walk_at "dw") => `(tactic| try simp -implicitDefEqProofs only [sSeq, sIf, sRet, sRetN, sRetV, sSet, sNext, sPar, sPar3, sAsg, sDrop, sOwn, sApp, sIns, sPut, sNever, sFrz, sParO, fOr, fAnd, fNot, fIf, fOp, fUn, fVar, fVarB, fC, fCons, fNil, fTup, fLst, fSl, fP, fNoP, fCall, fCallK, gDat, gaNil, gWel, fChain, fWix, sWput, sWdiv, gNm, gTp, gsNil, gsCons, fiL, fiT, fiE, fiR1, fiR2, sFor, rowD, ent, asB_bool, asI_int, if_tt, if_ff,
  List.getElem?_cons_zero, List.getElem?_cons_succ, List.set_cons_zero, List.set_cons_succ, List.cons_append, List.nil_append, List.length_cons, List.length_nil, List.replicate, Nat.zero_add, Nat.reduceAdd, Nat.reduceSub,
  isi_tup, oReprG_bool, oGtD_int, oLeD_int, oGeD_int, oMixD_int, oMixD_tup, oMixD_bi, oMixD_ib, oMixD_bb, oStrD_int, oListD_tup, oListD_lst, oTupleD_lst, oTupleD_tup, oBackD_tup, oBackD_lst, oNegD_int, isi_strD, isi_intD, isi_boolD, isi_listD, isTup.eq_1, isTup.eq_2, isStr.eq_1, isStr.eq_2, isNum.eq_1, isNum.eq_2, Bool.not_true, Bool.not_false, oIx_tup, oIx_lst, oEq_int, oEq_str, oEq_bool, oEq_nil, oNe_int, oNe_str, oNe_bool, oLen_tup, oLen_lst, oI_int, oIC_int, oAdd_int, oAdd_tup, oAdd_lst, oLt_int, oInt_int, oInt_bool, oIn_tup, oIn_lst, oSl_tup, oSl_lst,
  atI_zero, atI_one, atI_two, atI_three, atI_four, cut_from1, true_and, Bool.false_eq_true, if_false, if_true])
theorem sgn_pos {a b : Int} (h : Int.sign a = Int.sign b) : (0 < a ↔ 0 < b) ∧ (a = 0 ↔ b = 0) := by
  rcases Int.lt_trichotomy a 0 with c | c | c <;> rcases Int.lt_trichotomy b 0 with d | d | d
  all_goals (first | (subst c; skip) | skip)
  all_goals (try simp only [Int.sign_eq_neg_one_of_neg, Int.sign_eq_one_of_pos, Int.sign_zero, *] at h)
  all_goals omega
theorem lc_rng {m : FE} {n : Int} {i : Nat} {fe : FE} {ρ : Rho} {S : SW} {Q : PyData → SW → Prop} (hm : ∀ Q : PyData → SW → Prop, Q (.int n) S → m ρ S Q) (h0 : 0 ≤ n) (h1 : n ≤ 1000) (own : notOwn ρ [i])
    (he : ∀ (k : Nat) (Q : PyData → SW → Prop), Q (.bool true) S → fe ((rwipe ρ [i]).set i (.dat (.int k))) S Q) (h : Q (.list ((List.range n.toNat).map fun _ => .bool true)) S) :
    fLc (fiR1 m) [i] (gNm i) (fC (.bool true)) fe ρ S Q := by
  unfold fLc fiR1
  refine hm _ ⟨by omega, by omega, own, small_leD _ (by simp; omega), ?_⟩
  refine lcGo_map (g := fun _ => .bool true) (fun d hd R q => ?_) (by simpa [List.map_map, Function.comp_def] using h)
  obtain ⟨k, _, rfl⟩ := List.mem_map.mp hd
  exact he k R q
theorem all_true {f : FE} {n : Nat} {ρ : Rho} {S : SW} {B : Out} (hf : ∀ Q : PyData → SW → Prop, Q (.list ((List.range n).map fun _ => .bool true)) S → f ρ S Q) (h : B.rt (.bool true) S) : sRet (fUn oAll f) ρ S B :=
  hf _ ⟨(List.range n).map fun _ => true, by simp [List.map_map, Function.comp_def], by rw [show ((List.range n).map fun _ => true).all id = true from by rw [List.all_eq_true]; intro x hx; obtain ⟨_, _, rfl⟩ := List.mem_map.mp hx; rfl]; exact h⟩
end K05

namespace K05
open PySem L2 DL
/-! ### the order of places -/
def dX (p q : H3) : Int := q.x * p.w - p.x * q.w
def dY (p q : H3) : Int := q.y * p.w - p.y * q.w
def lp (u v : Int) : Prop := 0 < u ∨ (u = 0 ∧ 0 < v)
theorem hless_iff (p q : H3) : hless p q = true ↔ lp (dX p q) (dY p q) := by
  unfold hless lp dX dY
  by_cases e : p.x * q.w = q.x * p.w
  · rw [if_pos e, decide_eq_true_eq]
    omega
  · rw [if_neg e, decide_eq_true_eq]
    omega
theorem dX_neg (p q : H3) : dX q p = - dX p q := by unfold dX; omega
theorem dY_neg (p q : H3) : dY q p = - dY p q := by unfold dY; omega
theorem lp_mul {u v c : Int} (h : lp u v) : lp (c * u) (c * v) ↔ 0 < c := by
  unfold lp at *
  rcases Int.lt_trichotomy c 0 with hc | hc | hc
  · have hn : 0 < -c := by omega
    refine ⟨fun q => ?_, fun q => by omega⟩
    rcases h with h | ⟨h, h2⟩
    · have := Int.mul_pos hn h
      rw [Int.neg_mul] at this
      omega
    · subst h
      have := Int.mul_pos hn h2
      rw [Int.neg_mul] at this
      rw [Int.mul_zero] at q
      omega
  · subst hc
    simp
  · refine ⟨fun _ => hc, fun _ => ?_⟩
    rcases h with h | ⟨h, h2⟩
    · exact .inl (Int.mul_pos hc h)
    · exact .inr ⟨by rw [h, Int.mul_zero], Int.mul_pos hc h2⟩
theorem lp_pos {u v c : Int} (hc : 0 < c) : lp (c * u) (c * v) ↔ lp u v := by
  refine ⟨fun h => ?_, fun h => (lp_mul h).mpr hc⟩
  unfold lp at *
  rcases h with h | ⟨h, h2⟩
  · exact .inl (Int.pos_of_mul_pos_right h hc)
  · refine .inr ⟨?_, Int.pos_of_mul_pos_right h2 hc⟩
    rcases Int.mul_eq_zero.mp h with z | z
    · omega
    · exact z
theorem lp_add {u v x y : Int} (h : lp u v) (k : lp x y) : lp (u + x) (v + y) := by unfold lp at *; omega
theorem lp_not {u v : Int} (h : lp u v) : ¬ lp (-u) (-v) := by unfold lp at *; omega
theorem lp_or (u v : Int) : lp u v ∨ lp (-u) (-v) ∨ (u = 0 ∧ v = 0) := by unfold lp; omega
theorem hl_irr (p : H3) : hless p p = false := by
  cases e : hless p p
  · rfl
  · have := (hless_iff p p).mp e
    unfold lp dX dY at this
    omega
theorem hl_asy {p q : H3} (h : hless p q = true) : hless q p = false := by
  cases e : hless q p
  · rfl
  · have a := (hless_iff p q).mp h
    have b := (hless_iff q p).mp e
    rw [dX_neg p q, dY_neg p q] at b
    exact absurd b (lp_not a)
theorem hl_trans {p q r : H3} (wp : 0 < p.w) (wq : 0 < q.w) (wr : 0 < r.w) (h : hless p q = true) (k : hless q r = true) : hless p r = true := by
  rw [hless_iff] at *
  have a := (lp_pos (u := dX p q) (v := dY p q) wr).mpr h
  have b := (lp_pos (u := dX q r) (v := dY q r) wp).mpr k
  have c := lp_add a b
  refine (lp_pos wq).mp ?_
  have e1 : q.w * dX p r = r.w * dX p q + p.w * dX q r := by unfold dX; grind
  have e2 : q.w * dY p r = r.w * dY p q + p.w * dY q r := by unfold dY; grind
  rw [e1, e2]
  exact c
theorem hl_tot {p q : H3} (hp : Red p) (hq : Red q) (h : hless p q = false) (k : hless q p = false) : p = q := by
  have a : ¬ lp (dX p q) (dY p q) := fun z => by rw [(hless_iff _ _).mpr z] at h; cases h
  have b : ¬ lp (- dX p q) (- dY p q) := fun z => by rw [(hless_iff q p).mpr (by rw [dX_neg p q, dY_neg p q]; exact z)] at k; cases k
  rcases lp_or (dX p q) (dY p q) with z | z | z
  · exact absurd z a
  · exact absurd z b
  · unfold dX dY at z
    exact red_eq hp hq (by omega) (by omega)
/-! ### on a segment -/
def btw (p q x : H3) : Prop := if hless p q = true then hless x p = false ∧ hless q x = false else hless x q = false ∧ hless p x = false
theorem lies_iff (p q x : H3) : lies p q x = true ↔ side p q x = 0 ∧ btw p q x := by
  unfold lies btw
  cases hless p q <;> simp
theorem not_true {b : Bool} : b = false ↔ ¬ (b = true) := by cases b <;> simp
/-- x on the line from p to q, by parts k and l of the way -/
theorem btw_iff {p q x : H3} {m k n l : Int} (hm : 0 < m) (hn : 0 < n) (kx : m * dX p x = k * dX p q) (ky : m * dY p x = k * dY p q) (lx : n * dX x q = l * dX p q) (ly : n * dY x q = l * dY p q) (ne : ¬ (dX p q = 0 ∧ dY p q = 0)) :
    btw p q x ↔ 0 ≤ k ∧ 0 ≤ l := by
  have a1 : ∀ c : Int, lp (c * dX p x) (c * dY p x) ↔ lp ((c * k) * dX p q) ((c * k) * dY p q) := fun c => by
    rw [← lp_pos hm (u := c * dX p x) (v := c * dY p x)]
    have e1 : m * (c * dX p x) = (c * k) * dX p q := by rw [Int.mul_assoc, ← kx]; grind
    have e2 : m * (c * dY p x) = (c * k) * dY p q := by rw [Int.mul_assoc, ← ky]; grind
    rw [e1, e2]
  have a2 : ∀ c : Int, lp (c * dX x q) (c * dY x q) ↔ lp ((c * l) * dX p q) ((c * l) * dY p q) := fun c => by
    rw [← lp_pos hn (u := c * dX x q) (v := c * dY x q)]
    have e1 : n * (c * dX x q) = (c * l) * dX p q := by rw [Int.mul_assoc, ← lx]; grind
    have e2 : n * (c * dY x q) = (c * l) * dY p q := by rw [Int.mul_assoc, ← ly]; grind
    rw [e1, e2]
  unfold btw
  by_cases h : hless p q = true
  · rw [if_pos h]
    have hd := (hless_iff p q).mp h
    have b1 : hless x p = true ↔ 0 < -1 * k := by
      rw [hless_iff, dX_neg p x, dY_neg p x, ← lp_mul hd, ← a1 (-1)]
      simp
    have b2 : hless q x = true ↔ 0 < -1 * l := by
      rw [hless_iff, dX_neg x q, dY_neg x q, ← lp_mul hd, ← a2 (-1)]
      simp
    rw [not_true, not_true, b1, b2]
    omega
  · rw [if_neg h]
    have hd : lp (- dX p q) (- dY p q) := by
      rcases lp_or (dX p q) (dY p q) with z | z | z
      · exact absurd ((hless_iff p q).mpr z) h
      · exact z
      · exact absurd z ne
    have sw : ∀ c : Int, lp (c * dX p q) (c * dY p q) ↔ 0 < - c := fun c => by
      rw [← lp_mul hd, Int.neg_mul_neg, Int.neg_mul_neg]
    have b1 : hless x q = true ↔ 0 < - (1 * l) := by
      rw [hless_iff, ← sw, ← a2 1]
      simp
    have b2 : hless p x = true ↔ 0 < - (1 * k) := by
      rw [hless_iff, ← sw, ← a1 1]
      simp
    rw [not_true, not_true, b1, b2]
    omega
theorem sgn2 {a b p q : Int} (hp : 0 < p) (hq : 0 < q) (h : a * q - b * p ≠ 0) : (0 ≤ (a * q - b * p) * a ∧ 0 ≤ (a * q - b * p) * (-b)) ↔ a * b ≤ 0 := by
  rcases Int.lt_trichotomy a 0 with ha | ha | ha <;> rcases Int.lt_trichotomy b 0 with hb | hb | hb
  · -- both below
    have ab := Int.mul_pos_of_neg_of_neg ha hb
    refine ⟨fun ⟨h1, h2⟩ => ?_, fun h => by omega⟩
    generalize a * q - b * p = w at *
    rcases Int.lt_trichotomy w 0 with hw | hw | hw
    · have := Int.mul_neg_of_neg_of_pos hw (show 0 < -b by omega)
      omega
    · exact absurd hw h
    · have := Int.mul_neg_of_pos_of_neg hw ha
      omega
  · subst hb
    have : a * q < 0 := Int.mul_neg_of_neg_of_pos ha hq
    refine ⟨fun _ => by simp, fun _ => ⟨?_, by simp⟩⟩
    rw [Int.zero_mul, Int.sub_zero]
    exact Int.le_of_lt (Int.mul_pos_of_neg_of_neg this ha)
  · have : a * q < 0 := Int.mul_neg_of_neg_of_pos ha hq
    have h2 : 0 < b * p := Int.mul_pos hb hp
    have ab : a * b < 0 := Int.mul_neg_of_neg_of_pos ha hb
    refine ⟨fun _ => by omega, fun _ => ?_⟩
    have hw : a * q - b * p < 0 := by omega
    generalize a * q - b * p = w at *
    exact ⟨Int.le_of_lt (Int.mul_pos_of_neg_of_neg hw ha), Int.le_of_lt (Int.mul_pos_of_neg_of_neg hw (by omega))⟩
  · subst ha
    have : b * p < 0 := Int.mul_neg_of_neg_of_pos hb hp
    refine ⟨fun _ => by simp, fun _ => ⟨by simp, ?_⟩⟩
    exact Int.le_of_lt (Int.mul_pos (by omega) (by omega))
  · subst ha hb
    simp at h
  · subst ha
    have : 0 < b * p := Int.mul_pos hb hp
    refine ⟨fun _ => by simp, fun _ => ⟨by simp, ?_⟩⟩
    exact Int.le_of_lt (Int.mul_pos_of_neg_of_neg (by omega) (by omega))
  · have : 0 < a * q := Int.mul_pos ha hq
    have h2 : b * p < 0 := Int.mul_neg_of_neg_of_pos hb hp
    have ab : a * b < 0 := Int.mul_neg_of_pos_of_neg ha hb
    refine ⟨fun _ => by omega, fun _ => ?_⟩
    have hw : 0 < a * q - b * p := by omega
    generalize a * q - b * p = w at *
    exact ⟨Int.le_of_lt (Int.mul_pos hw ha), Int.le_of_lt (Int.mul_pos hw (by omega))⟩
  · subst hb
    have : 0 < a * q := Int.mul_pos ha hq
    refine ⟨fun _ => by simp, fun _ => ⟨?_, by simp⟩⟩
    rw [Int.zero_mul, Int.sub_zero]
    exact Int.le_of_lt (Int.mul_pos this ha)
  · have ab := Int.mul_pos ha hb
    refine ⟨fun ⟨h1, h2⟩ => ?_, fun h => by omega⟩
    generalize a * q - b * p = w at *
    rcases Int.lt_trichotomy w 0 with hw | hw | hw
    · have := Int.mul_neg_of_neg_of_pos hw ha
      omega
    · exact absurd hw h
    · have := Int.mul_neg_of_pos_of_neg hw (show -b < 0 by omega)
      omega
/-- the place a q - b p -/
structure Mix (p q x : H3) (a b : Int) : Prop where
  w : 0 < x.w
  o : a * q.w - b * p.w ≠ 0
  ex : x.x * (a * q.w - b * p.w) = (a * q.x - b * p.x) * x.w
  ey : x.y * (a * q.w - b * p.w) = (a * q.y - b * p.y) * x.w
theorem sq_pos {o : Int} (h : o ≠ 0) : 0 < o * o := by
  rcases Int.lt_trichotomy o 0 with z | z | z
  · exact Int.mul_pos_of_neg_of_neg z z
  · exact absurd z h
  · exact Int.mul_pos z z
theorem mix_side {p q x : H3} {a b : Int} (m : Mix p q x a b) : side p q x = 0 := by
  obtain ⟨w, o, ex, ey⟩ := m
  have : (a * q.w - b * p.w) * side p q x = (a * q.w - b * p.w) * 0 := by
    unfold side
    generalize x.x = x1 at *
    generalize x.y = x2 at *
    generalize x.w = x3 at *
    grind
  exact Int.eq_of_mul_eq_mul_left o this
theorem mix_btw {p q x : H3} {a b : Int} (hp : 0 < p.w) (hq : 0 < q.w) (m : Mix p q x a b) (ne : ¬ (dX p q = 0 ∧ dY p q = 0)) : btw p q x ↔ a * b ≤ 0 := by
  obtain ⟨w, o, ex, ey⟩ := m
  have s := sgn2 hp hq o
  have h := btw_iff (p := p) (q := q) (x := x) (m := (a * q.w - b * p.w) * (a * q.w - b * p.w)) (k := x.w * ((a * q.w - b * p.w) * a)) (n := (a * q.w - b * p.w) * (a * q.w - b * p.w)) (l := x.w * ((a * q.w - b * p.w) * (-b))) (sq_pos o) (sq_pos o)
    (by unfold dX; generalize x.x = x1 at *; generalize x.w = x3 at *; grind) (by unfold dY; generalize x.y = x1 at *; generalize x.w = x3 at *; grind)
    (by unfold dX; generalize x.x = x1 at *; generalize x.w = x3 at *; grind) (by unfold dY; generalize x.y = x1 at *; generalize x.w = x3 at *; grind) ne
  rw [h, ← s]
  have nn : ∀ c : Int, 0 ≤ x.w * c ↔ 0 ≤ c := fun c => by
    refine ⟨fun z => ?_, fun z => Int.mul_nonneg (Int.le_of_lt w) z⟩
    by_cases hc : 0 ≤ c
    · exact hc
    · have := Int.mul_neg_of_pos_of_neg w (show c < 0 by omega)
      omega
  rw [nn, nn]
theorem mix_lies {p q x : H3} {a b : Int} (hp : 0 < p.w) (hq : 0 < q.w) (m : Mix p q x a b) (ne : ¬ (dX p q = 0 ∧ dY p q = 0)) : lies p q x = true ↔ a * b ≤ 0 := by
  rw [lies_iff, mix_btw hp hq m ne]
  exact ⟨fun h => h.2, fun h => ⟨mix_side m, h⟩⟩
/-- four places -/
theorem cramer (p q r s : H3) : side r s p * q.x - side r s q * p.x = side p q s * r.x - side p q r * s.x ∧ side r s p * q.y - side r s q * p.y = side p q s * r.y - side p q r * s.y ∧ side r s p * q.w - side r s q * p.w = side p q s * r.w - side p q r * s.w := by
  unfold side
  exact ⟨by grind, by grind, by grind⟩
/-- .. on the other line too -/
theorem mix_other {p q r s x : H3} (m : Mix p q x (side r s p) (side r s q)) : Mix r s x (side p q r) (side p q s) := by
  obtain ⟨w, o, ex, ey⟩ := m
  obtain ⟨c1, c2, c3⟩ := cramer p q r s
  rw [c3, c1] at ex
  rw [c3, c2] at ey
  rw [c3] at o
  refine ⟨w, by omega, ?_, ?_⟩
  · have : x.x * (side p q r * s.w - side p q s * r.w) = - (x.x * (side p q s * r.w - side p q r * s.w)) := by grind
    rw [this, ex]
    grind
  · have : x.y * (side p q r * s.w - side p q s * r.w) = - (x.y * (side p q s * r.w - side p q r * s.w)) := by grind
    rw [this, ey]
    grind
end K05

namespace K05
open PySem L2 DL
theorem ne_d {p q : H3} (hp : Red p) (hq : Red q) (ne : p ≠ q) : ¬ (dX p q = 0 ∧ dY p q = 0) := fun z => ne (red_eq hp hq (by unfold dX at z; omega) (by unfold dY at z; omega))
theorem mul0 {a b : Int} (ha : a ≠ 0) (h : a * b = 0) : b = 0 := by
  rcases Int.mul_eq_zero.mp h with z | z
  · exact absurd z ha
  · exact z
/-! ### beside one another -/
theorem par_pos {p q r s : H3} (hp : Red p) (hq : Red q) (hr : Red r) (hs : Red s) (rs : r ≠ s) (o : side r s p * q.w - side r s q * p.w = 0) (c : side p q r ≠ 0) : 0 < side r s p * side r s q := by
  obtain ⟨c1, c2, c3⟩ := cramer p q r s
  have p0 := hp.1
  have q0 := hq.1
  generalize side r s p = A at *
  generalize side r s q = B at *
  generalize side p q r = C at *
  generalize side p q s = D at *
  have a0 : A ≠ 0 := fun a0 => by
    subst a0
    have b0 : B = 0 := by
      have : p.w * B = 0 := by rw [Int.mul_comm]; omega
      exact mul0 (by omega) this
    subst b0
    refine rs (red_eq hr hs ?_ ?_)
    · refine Int.eq_of_mul_eq_mul_left c ?_
      have e1 : D * r.x = C * s.x := by omega
      have e3 : D * r.w = C * s.w := by omega
      have : C * (r.x * s.w) = r.x * (D * r.w) := by rw [e3]; grind
      rw [this]
      have : C * (s.x * r.w) = (D * r.x) * r.w := by rw [e1]; grind
      rw [this]
      grind
    · refine Int.eq_of_mul_eq_mul_left c ?_
      have e1 : D * r.y = C * s.y := by omega
      have e3 : D * r.w = C * s.w := by omega
      have : C * (r.y * s.w) = r.y * (D * r.w) := by rw [e3]; grind
      rw [this]
      have : C * (s.y * r.w) = (D * r.y) * r.w := by rw [e1]; grind
      rw [this]
      grind
  have e : A * q.w = B * p.w := by omega
  have : p.w * (A * B) = (A * A) * q.w := by rw [Int.mul_assoc A A, e]; grind
  exact Int.pos_of_mul_pos_right (a := p.w) (by rw [this]; exact Int.mul_pos (sq_pos a0) q0) p0
/-- a place of both lines is the meeting -/
theorem on_both {p q r s y : H3} (h1 : side p q y = 0) (h2 : side r s y = 0) : y.x * (side r s p * q.w - side r s q * p.w) = (side r s p * q.x - side r s q * p.x) * y.w ∧ y.y * (side r s p * q.w - side r s q * p.w) = (side r s p * q.y - side r s q * p.y) * y.w := by
  have e1 : y.x * (side r s p * q.w - side r s q * p.w) - (side r s p * q.x - side r s q * p.x) * y.w = (r.w * s.x - r.x * s.w) * side p q y - (p.w * q.x - p.x * q.w) * side r s y := by
    unfold side; grind
  have e2 : y.y * (side r s p * q.w - side r s q * p.w) - (side r s p * q.y - side r s q * p.y) * y.w = (r.w * s.y - r.y * s.w) * side p q y - (p.w * q.y - p.y * q.w) * side r s y := by
    unfold side; grind
  rw [h1, h2] at e1 e2
  simp only [Int.mul_zero, Int.sub_zero] at e1 e2
  exact ⟨by omega, by omega⟩
theorem meet_uniq {p q r s x y : H3} (rx : Red x) (ry : Red y) (m : Mix p q x (side r s p) (side r s q)) (h1 : side p q y = 0) (h2 : side r s y = 0) : y = x := by
  obtain ⟨e1, e2⟩ := on_both h1 h2
  obtain ⟨w, o, ex, ey⟩ := m
  generalize side r s p * q.w - side r s q * p.w = n at *
  refine red_eq ry rx (Int.eq_of_mul_eq_mul_left o ?_) (Int.eq_of_mul_eq_mul_left o ?_)
  · have a1 : n * (y.x * x.w) = (y.x * n) * x.w := by grind
    have a2 : n * (x.x * y.w) = (x.x * n) * y.w := by grind
    rw [a1, a2, e1, ex]
    grind
  · have a1 : n * (y.y * x.w) = (y.y * n) * x.w := by grind
    have a2 : n * (x.y * y.w) = (x.y * n) * y.w := by grind
    rw [a1, a2, e2, ey]
    grind
theorem par_none {p q r s y : H3} (hp : Red p) (hq : Red q) (hr : Red r) (hs : Red s) (pq : p ≠ q) (rs : r ≠ s) (ry : 0 < y.w) (o : side r s p * q.w - side r s q * p.w = 0) (c : side p q r ≠ 0) (h1 : side p q y = 0) (h2 : side r s y = 0) : False := by
  have a := par_pos hp hq hr hs rs o c
  obtain ⟨e1, e2⟩ := on_both h1 h2
  rw [o] at e1 e2
  simp only [Int.mul_zero] at e1 e2
  have x0 : side r s p * q.x - side r s q * p.x = 0 := mul0 (a := y.w) (by omega) (by rw [Int.mul_comm]; omega)
  have y0 : side r s p * q.y - side r s q * p.y = 0 := mul0 (a := y.w) (by omega) (by rw [Int.mul_comm]; omega)
  have a0 : side r s p ≠ 0 := fun z => by rw [z, Int.zero_mul] at a; omega
  generalize side r s p = A at *
  generalize side r s q = B at *
  have ew : A * q.w = B * p.w := by omega
  have ex : A * q.x = B * p.x := by omega
  have ey : A * q.y = B * p.y := by omega
  refine pq (red_eq hp hq (Int.eq_of_mul_eq_mul_left a0 ?_) (Int.eq_of_mul_eq_mul_left a0 ?_))
  · have u : A * (p.x * q.w) = p.x * (A * q.w) := by grind
    have v : A * (q.x * p.w) = (A * q.x) * p.w := by grind
    rw [u, v, ew, ex]
    grind
  · have u : A * (p.y * q.w) = p.y * (A * q.w) := by grind
    have v : A * (q.y * p.w) = (A * q.y) * p.w := by grind
    rw [u, v, ew, ey]
    grind
/-! ### on one line -/
theorem col_d {p q r s : H3} (r0 : 0 < r.w) (o : side r s p * q.w - side r s q * p.w = 0) (c : side p q r = 0) : side p q s = 0 := by
  obtain ⟨_, _, c3⟩ := cramer p q r s
  rw [c, o, Int.zero_mul, Int.sub_zero] at c3
  exact mul0 (a := r.w) (by omega) (by rw [Int.mul_comm]; omega)
/-- three places of one line -/
theorem col_3 {p q r s y : H3} (ne : ¬ (dX p q = 0 ∧ dY p q = 0)) (h1 : side p q r = 0) (h2 : side p q s = 0) (h3 : side p q y = 0) : side r s y = 0 := by
  have e1 : dX p q * side r s y = (r.x * y.w - r.w * y.x) * side p q s - (r.x * s.w - r.w * s.x) * side p q y - (s.x * y.w - s.w * y.x) * side p q r := by
    unfold side dX; grind
  have e2 : dY p q * side r s y = (r.y * y.w - r.w * y.y) * side p q s - (r.y * s.w - r.w * s.y) * side p q y - (s.y * y.w - s.w * y.y) * side p q r := by
    unfold side dY; grind
  rw [h1, h2, h3] at e1 e2
  simp only [Int.mul_zero, Int.sub_zero] at e1 e2
  by_cases z : dX p q = 0
  · exact mul0 (fun w => ne ⟨z, w⟩) e2
  · exact mul0 z e1
/-! ranks -/
def rk (l : List H3) (a : H3) : Nat := (l.filter fun e => hless e a).length
theorem filter_le {α : Type} {f g : α → Bool} : ∀ {l : List α}, (∀ x ∈ l, f x = true → g x = true) → (l.filter f).length ≤ (l.filter g).length
  | [], _ => Nat.le_refl _
  | x :: l, h => by
    have ih := filter_le (l := l) fun y hy => h y (List.mem_cons_of_mem x hy)
    cases e : f x
    · rw [List.filter_cons_of_neg (by simp [e])]
      cases e2 : g x
      · rw [List.filter_cons_of_neg (by simp [e2])]; exact ih
      · rw [List.filter_cons_of_pos e2, List.length_cons]; omega
    · rw [List.filter_cons_of_pos e, List.filter_cons_of_pos (h x (by simp) e), List.length_cons, List.length_cons]; omega
theorem filter_lt {α : Type} {f g : α → Bool} {a : α} : ∀ {l : List α}, (∀ x ∈ l, f x = true → g x = true) → a ∈ l → f a = false → g a = true → (l.filter f).length < (l.filter g).length
  | x :: l, h, ha, fa, ga => by
    have hl : ∀ y ∈ l, f y = true → g y = true := fun y hy => h y (List.mem_cons_of_mem x hy)
    rcases List.mem_cons.mp ha with rfl | ha
    · rw [List.filter_cons_of_neg (by simp [fa]), List.filter_cons_of_pos ga, List.length_cons]
      have := filter_le hl
      omega
    · have ih := filter_lt hl ha fa ga
      cases e : f x
      · rw [List.filter_cons_of_neg (by simp [e])]
        cases e2 : g x
        · rw [List.filter_cons_of_neg (by simp [e2])]; exact ih
        · rw [List.filter_cons_of_pos e2, List.length_cons]; omega
      · rw [List.filter_cons_of_pos e, List.filter_cons_of_pos (h x (by simp) e), List.length_cons, List.length_cons]; omega
theorem rk_lt {l : List H3} (hl : ∀ e ∈ l, Red e) {a b : H3} (ha : a ∈ l) (hb : b ∈ l) (h : hless a b = true) : rk l a < rk l b :=
  filter_lt (a := a) (fun e he k => hl_trans (hl e he).1 (hl a ha).1 (hl b hb).1 k h) ha (hl_irr a) h
theorem rk_iff {l : List H3} (hl : ∀ e ∈ l, Red e) {a b : H3} (ha : a ∈ l) (hb : b ∈ l) : hless a b = decide (rk l a < rk l b) := by
  cases e : hless a b
  · refine (decide_eq_false ?_).symm
    cases k : hless b a
    · have := hl_tot (hl a ha) (hl b hb) e k
      subst this
      omega
    · have := rk_lt hl hb ha k
      omega
  · exact (decide_eq_true (rk_lt hl ha hb e)).symm
theorem rk_eq {l : List H3} (hl : ∀ e ∈ l, Red e) {a b : H3} (ha : a ∈ l) (hb : b ∈ l) : rk l a = rk l b ↔ a = b := by
  refine ⟨fun h => hl_tot (hl a ha) (hl b hb) ?_ ?_, fun h => by rw [h]⟩
  · rw [rk_iff hl ha hb, decide_eq_false_iff_not]; omega
  · rw [rk_iff hl hb ha, decide_eq_false_iff_not]; omega
def mn (p q : H3) : H3 := if hless p q = true then p else q
def mx (p q : H3) : H3 := if hless p q = true then q else p
/-- the lower one of the upper ends, the upper one of the lower ends -/
def lowE (p q r s : H3) : H3 := if hless (mn r s) (mn p q) = true then mn p q else mn r s
def highE (p q r s : H3) : H3 := if hless (mx p q) (mx r s) = true then mx p q else mx r s
def cmn (p q r s : H3) : List H3 := if hless (lowE p q r s) (highE p q r s) = true then [lowE p q r s, highE p q r s] else if hless (highE p q r s) (lowE p q r s) = true then [] else [lowE p q r s]
theorem ite_in {α : Type} {c : Prop} [Decidable c] {a b : α} {l : List α} (ha : a ∈ l) (hb : b ∈ l) : (if c then a else b) ∈ l := by split <;> assumption
theorem low_in (p q r s : H3) : lowE p q r s ∈ [p, q, r, s] ∧ highE p q r s ∈ [p, q, r, s] := by
  have hp : p ∈ [p, q, r, s] := by simp
  have hq : q ∈ [p, q, r, s] := by simp
  have hr : r ∈ [p, q, r, s] := by simp
  have hs : s ∈ [p, q, r, s] := by simp
  exact ⟨ite_in (ite_in hp hq) (ite_in hr hs), ite_in (ite_in hq hp) (ite_in hs hr)⟩
section
variable {p q r s : H3} {l : List H3} (hl : ∀ e ∈ l, Red e) (hp : p ∈ l) (hq : q ∈ l) (hr : r ∈ l) (hs : s ∈ l)
include hl hp hq hr hs
theorem low_rk : rk l (lowE p q r s) = max (min (rk l p) (rk l q)) (min (rk l r) (rk l s)) ∧ rk l (highE p q r s) = min (max (rk l p) (rk l q)) (max (rk l r) (rk l s)) := by
  have m1 : rk l (mn p q) = min (rk l p) (rk l q) ∧ mn p q ∈ l := by
    unfold mn
    rw [rk_iff hl hp hq]
    by_cases h : rk l p < rk l q
    · rw [if_pos (decide_eq_true h)]; exact ⟨by omega, hp⟩
    · rw [if_neg (by simpa using h)]; exact ⟨by omega, hq⟩
  have m2 : rk l (mn r s) = min (rk l r) (rk l s) ∧ mn r s ∈ l := by
    unfold mn
    rw [rk_iff hl hr hs]
    by_cases h : rk l r < rk l s
    · rw [if_pos (decide_eq_true h)]; exact ⟨by omega, hr⟩
    · rw [if_neg (by simpa using h)]; exact ⟨by omega, hs⟩
  have m3 : rk l (mx p q) = max (rk l p) (rk l q) ∧ mx p q ∈ l := by
    unfold mx
    rw [rk_iff hl hp hq]
    by_cases h : rk l p < rk l q
    · rw [if_pos (decide_eq_true h)]; exact ⟨by omega, hq⟩
    · rw [if_neg (by simpa using h)]; exact ⟨by omega, hp⟩
  have m4 : rk l (mx r s) = max (rk l r) (rk l s) ∧ mx r s ∈ l := by
    unfold mx
    rw [rk_iff hl hr hs]
    by_cases h : rk l r < rk l s
    · rw [if_pos (decide_eq_true h)]; exact ⟨by omega, hs⟩
    · rw [if_neg (by simpa using h)]; exact ⟨by omega, hr⟩
  unfold lowE highE
  rw [rk_iff hl m2.2 m1.2, rk_iff hl m3.2 m4.2]
  constructor
  · by_cases h : rk l (mn r s) < rk l (mn p q)
    · rw [if_pos (decide_eq_true h)]; omega
    · rw [if_neg (by simpa using h)]; omega
  · by_cases h : rk l (mx p q) < rk l (mx r s)
    · rw [if_pos (decide_eq_true h)]; omega
    · rw [if_neg (by simpa using h)]; omega
theorem btw_rk {x : H3} (hx : x ∈ l) : btw p q x ↔ min (rk l p) (rk l q) ≤ rk l x ∧ rk l x ≤ max (rk l p) (rk l q) := by
  unfold btw
  rw [rk_iff hl hp hq, rk_iff hl hx hp, rk_iff hl hq hx, rk_iff hl hx hq, rk_iff hl hp hx]
  by_cases h : rk l p < rk l q
  · rw [if_pos (decide_eq_true h)]
    simp only [decide_eq_false_iff_not]
    omega
  · rw [if_neg (by simpa using h)]
    simp only [decide_eq_false_iff_not]
    omega
end
end K05

namespace K05
open PySem L2 DL
theorem side_p (p q : H3) : side p q p = 0 ∧ side p q q = 0 := by unfold side; exact ⟨by grind, by grind⟩
/-- all on the line from p to q -/
theorem side_all {p q r s x : H3} (h1 : side p q r = 0) (h2 : side p q s = 0) (hx : x ∈ [p, q, r, s]) : side p q x = 0 := by
  simp only [List.mem_cons, List.not_mem_nil, or_false] at hx
  rcases hx with rfl | rfl | rfl | rfl
  · exact (side_p _ _).1
  · exact (side_p _ _).2
  · exact h1
  · exact h2
def endsOf (p q r s : H3) : List H3 := [p, q].filter (fun e => lies r s e) ++ [r, s].filter (fun e => lies p q e)
section
variable {p q r s : H3} (hp : Red p) (hq : Red q) (hr : Red r) (hs : Red s) (pq : p ≠ q) (rs : r ≠ s) (h1 : side p q r = 0) (h2 : side p q s = 0)
include hp hq hr hs
theorem all_red : ∀ e ∈ [p, q, r, s], Red e := fun e he => by
  simp only [List.mem_cons, List.not_mem_nil, or_false] at he
  rcases he with rfl | rfl | rfl | rfl <;> assumption
include pq rs h1 h2
theorem ends_cmn (x : H3) : x ∈ endsOf p q r s ↔ x ∈ cmn p q r s := by
  have hl := all_red hp hq hr hs
  have nd := ne_d hp hq pq
  have mp : p ∈ [p, q, r, s] := by simp
  have mq : q ∈ [p, q, r, s] := by simp
  have mr : r ∈ [p, q, r, s] := by simp
  have ms : s ∈ [p, q, r, s] := by simp
  have a1 : side r s p = 0 := col_3 nd h1 h2 (side_p p q).1
  have a2 : side r s q = 0 := col_3 nd h1 h2 (side_p p q).2
  have b1 : lies r s p = true ↔ _ := (lies_iff r s p).trans ((and_iff_right a1).trans (btw_rk hl mr ms mp mq mp))
  have b2 : lies r s q = true ↔ _ := (lies_iff r s q).trans ((and_iff_right a2).trans (btw_rk hl mr ms mp mq mq))
  have b3 : lies p q r = true ↔ _ := (lies_iff p q r).trans ((and_iff_right h1).trans (btw_rk hl mp mq mr ms mr))
  have b4 : lies p q s = true ↔ _ := (lies_iff p q s).trans ((and_iff_right h2).trans (btw_rk hl mp mq mr ms ms))
  have npq : rk [p, q, r, s] p ≠ rk [p, q, r, s] q := fun z => pq ((rk_eq hl mp mq).mp z)
  have nrs : rk [p, q, r, s] r ≠ rk [p, q, r, s] s := fun z => rs ((rk_eq hl mr ms).mp z)
  obtain ⟨k1, k2⟩ := low_rk hl mp mq mr ms
  obtain ⟨m1, m2⟩ := low_in p q r s
  have e1 : x ∈ endsOf p q r s ↔ (x = p ∧ lies r s p = true) ∨ (x = q ∧ lies r s q = true) ∨ (x = r ∧ lies p q r = true) ∨ (x = s ∧ lies p q s = true) := by
    unfold endsOf
    simp only [List.mem_append, List.mem_filter, List.mem_cons, List.not_mem_nil, or_false]
    constructor
    · rintro (⟨rfl | rfl, h⟩ | ⟨rfl | rfl, h⟩)
      · exact .inl ⟨rfl, h⟩
      · exact .inr (.inl ⟨rfl, h⟩)
      · exact .inr (.inr (.inl ⟨rfl, h⟩))
      · exact .inr (.inr (.inr ⟨rfl, h⟩))
    · rintro (⟨rfl, h⟩ | ⟨rfl, h⟩ | ⟨rfl, h⟩ | ⟨rfl, h⟩)
      · exact .inl ⟨.inl rfl, h⟩
      · exact .inl ⟨.inr rfl, h⟩
      · exact .inr ⟨.inl rfl, h⟩
      · exact .inr ⟨.inr rfl, h⟩
  have e2 : x ∈ cmn p q r s ↔ rk [p, q, r, s] (lowE p q r s) ≤ rk [p, q, r, s] (highE p q r s) ∧ (x = lowE p q r s ∨ x = highE p q r s) := by
    unfold cmn
    rw [rk_iff hl m1 m2, rk_iff hl m2 m1]
    by_cases c1 : rk [p, q, r, s] (lowE p q r s) < rk [p, q, r, s] (highE p q r s)
    · rw [if_pos (decide_eq_true c1)]
      simp only [List.mem_cons, List.not_mem_nil, or_false]
      exact ⟨fun h => ⟨by omega, h⟩, fun h => h.2⟩
    · rw [if_neg (by simpa using c1)]
      by_cases c2 : rk [p, q, r, s] (highE p q r s) < rk [p, q, r, s] (lowE p q r s)
      · rw [if_pos (decide_eq_true c2)]
        simp only [List.not_mem_nil, false_iff]
        omega
      · rw [if_neg (by simpa using c2)]
        have : lowE p q r s = highE p q r s := (rk_eq hl m1 m2).mp (by omega)
        rw [List.mem_singleton, ← this]
        exact ⟨fun h => ⟨Nat.le_refl _, .inl h⟩, fun h => h.2.elim id id⟩
  rw [e1, e2, b1, b2, b3, b4, k1, k2]
  have toX : ∀ {y z : H3}, y ∈ [p, q, r, s] → z ∈ [p, q, r, s] → (y = z ↔ rk [p, q, r, s] y = rk [p, q, r, s] z) := fun hy hz => (rk_eq hl hy hz).symm
  constructor
  · rintro (⟨rfl, h⟩ | ⟨rfl, h⟩ | ⟨rfl, h⟩ | ⟨rfl, h⟩)
    · rw [toX mp m1, toX mp m2, k1, k2]; omega
    · rw [toX mq m1, toX mq m2, k1, k2]; omega
    · rw [toX mr m1, toX mr m2, k1, k2]; omega
    · rw [toX ms m1, toX ms m2, k1, k2]; omega
  · rintro ⟨h, hx⟩
    have xm : x ∈ [p, q, r, s] := by rcases hx with rfl | rfl <;> assumption
    rw [toX xm m1, toX xm m2, k1, k2] at hx
    rw [toX xm mp, toX xm mq, toX xm mr, toX xm ms]
    omega
theorem cmn_red : ∀ x ∈ cmn p q r s, Red x := fun x hx => by
  have := (ends_cmn hp hq hr hs pq rs h1 h2 x).mpr hx
  unfold endsOf at this
  simp only [List.mem_append, List.mem_filter, List.mem_cons, List.not_mem_nil, or_false] at this
  rcases this with ⟨rfl | rfl, _⟩ | ⟨rfl | rfl, _⟩ <;> assumption
theorem cmn_up : (cmn p q r s).Pairwise fun a b => hless a b = true := by
  unfold cmn
  split
  · rename_i h
    exact List.pairwise_cons.mpr ⟨fun b hb => by rw [List.mem_singleton.mp hb]; exact h, List.pairwise_singleton _ _⟩
  · split
    · exact List.Pairwise.nil
    · exact List.pairwise_singleton _ _
end
/-- which places are on both: told by the places that are due -/
def Hull (M : List H3) (y : H3) : Prop := match M with
  | [] => False
  | [x] => y = x
  | x :: z :: _ => lies x z y = true
theorem cmn_hull {p q r s y : H3} (hp : Red p) (hq : Red q) (hr : Red r) (hs : Red s) (hy : Red y) (pq : p ≠ q) (rs : r ≠ s) (h1 : side p q r = 0) (h2 : side p q s = 0) :
    (lies p q y = true ∧ lies r s y = true) ↔ Hull (cmn p q r s) y := by
  have hl : ∀ e ∈ [p, q, r, s, y], Red e := fun e he => by
    simp only [List.mem_cons, List.not_mem_nil, or_false] at he
    rcases he with rfl | rfl | rfl | rfl | rfl <;> assumption
  have nd := ne_d hp hq pq
  have mp : p ∈ [p, q, r, s, y] := by simp
  have mq : q ∈ [p, q, r, s, y] := by simp
  have mr : r ∈ [p, q, r, s, y] := by simp
  have ms : s ∈ [p, q, r, s, y] := by simp
  have my : y ∈ [p, q, r, s, y] := by simp
  obtain ⟨m1, m2⟩ := low_in p q r s
  have up : ∀ {x : H3}, x ∈ [p, q, r, s] → x ∈ [p, q, r, s, y] := fun {x} hx => by
    simp only [List.mem_cons, List.not_mem_nil, or_false] at hx ⊢
    rcases hx with h | h | h | h <;> simp [h]
  obtain ⟨k1, k2⟩ := low_rk hl mp mq mr ms
  have sl := side_all h1 h2 m1
  have sh := side_all h1 h2 m2
  have b : (lies p q y = true ∧ lies r s y = true) ↔ side p q y = 0 ∧ rk [p, q, r, s, y] (lowE p q r s) ≤ rk [p, q, r, s, y] y ∧ rk [p, q, r, s, y] y ≤ rk [p, q, r, s, y] (highE p q r s) := by
    rw [lies_iff, lies_iff, btw_rk hl mp mq mr ms my, btw_rk hl mr ms mp mq my, k1, k2]
    constructor
    · rintro ⟨⟨a, b, c⟩, d, e, f⟩
      exact ⟨a, by omega, by omega⟩
    · rintro ⟨a, b, c⟩
      exact ⟨⟨a, by omega, by omega⟩, col_3 nd h1 h2 a, by omega, by omega⟩
  rw [b]
  unfold cmn
  rw [rk_iff hl (up m1) (up m2), rk_iff hl (up m2) (up m1)]
  by_cases c1 : rk [p, q, r, s, y] (lowE p q r s) < rk [p, q, r, s, y] (highE p q r s)
  · rw [if_pos (decide_eq_true c1)]
    have ne : lowE p q r s ≠ highE p q r s := fun z => by rw [z] at c1; omega
    have nd2 := ne_d (hl _ (up m1)) (hl _ (up m2)) ne
    show _ ↔ lies (lowE p q r s) (highE p q r s) y = true
    rw [lies_iff, btw_rk hl (up m1) (up m2) mr ms my]
    constructor
    · rintro ⟨a, b, c⟩
      exact ⟨col_3 nd sl sh a, by omega, by omega⟩
    · rintro ⟨a, b, c⟩
      exact ⟨col_3 nd2 (col_3 nd sl sh (side_p p q).1) (col_3 nd sl sh (side_p p q).2) a, by omega, by omega⟩
  · rw [if_neg (by simpa using c1)]
    by_cases c2 : rk [p, q, r, s, y] (highE p q r s) < rk [p, q, r, s, y] (lowE p q r s)
    · rw [if_pos (decide_eq_true c2)]
      show _ ↔ False
      simp only [iff_false]
      rintro ⟨_, b, c⟩
      omega
    · rw [if_neg (by simpa using c2)]
      show _ ↔ y = lowE p q r s
      constructor
      · rintro ⟨_, b, c⟩
        exact (rk_eq hl my (up m1)).mp (by omega)
      · intro e
        have : rk [p, q, r, s, y] y = rk [p, q, r, s, y] (lowE p q r s) := (rk_eq hl my (up m1)).mpr e
        exact ⟨by rw [e]; exact sl, by omega, by omega⟩
end K05

namespace K05
open PySem L2 DL
/-! ### what is due -/
def placeS (x y w : Int) : H3 := if 0 < w then place x y w else place (-x) (-y) (-w)
def crossing (p q : H3) (a b : Int) : H3 := placeS (a * q.x - b * p.x) (a * q.y - b * p.y) (a * q.w - b * p.w)
theorem placeS_mix {p q : H3} {a b : Int} (o : a * q.w - b * p.w ≠ 0) : Mix p q (crossing p q a b) a b ∧ Red (crossing p q a b) := by
  unfold crossing placeS
  by_cases h : 0 < a * q.w - b * p.w
  · rw [if_pos h]
    obtain ⟨w, ex, ey⟩ := place_sm (x := a * q.x - b * p.x) (y := a * q.y - b * p.y) h
    exact ⟨⟨w, o, ex, ey⟩, place_red h⟩
  · rw [if_neg h]
    have h' : 0 < -(a * q.w - b * p.w) := by omega
    obtain ⟨w, ex, ey⟩ := place_sm (x := -(a * q.x - b * p.x)) (y := -(a * q.y - b * p.y)) h'
    exact ⟨⟨w, o, Int.neg_inj.mp (by rw [← Int.mul_neg, ← Int.neg_mul]; exact ex), Int.neg_inj.mp (by rw [← Int.mul_neg, ← Int.neg_mul]; exact ey)⟩, place_red h'⟩
def meetL (p q r s : H3) : List H3 := if side p q r = 0 ∧ side p q s = 0 then cmn p q r s else if 0 < side r s p * side r s q ∨ 0 < side p q r * side p q s then [] else [crossing p q (side r s p) (side r s q)]
section
variable {p q r s : H3} (hp : Red p) (hq : Red q) (hr : Red r) (hs : Red s) (pq : p ≠ q) (rs : r ≠ s)
include hp hq hr hs pq rs
theorem meet_o (h : ¬ (side p q r = 0 ∧ side p q s = 0)) (k : ¬ (0 < side r s p * side r s q ∨ 0 < side p q r * side p q s)) : side r s p * q.w - side r s q * p.w ≠ 0 := fun o => by
  have c : side p q r ≠ 0 := fun z => h ⟨z, col_d hr.1 o z⟩
  exact k (.inl (par_pos hp hq hr hs rs o c))
theorem meet_red : ∀ x ∈ meetL p q r s, Red x := fun x hx => by
  unfold meetL at hx
  by_cases h : side p q r = 0 ∧ side p q s = 0
  · rw [if_pos h] at hx
    exact cmn_red hp hq hr hs pq rs h.1 h.2 x hx
  · rw [if_neg h] at hx
    by_cases k : 0 < side r s p * side r s q ∨ 0 < side p q r * side p q s
    · rw [if_pos k] at hx
      cases hx
    · rw [if_neg k, List.mem_singleton] at hx
      rw [hx]
      exact (placeS_mix (meet_o hp hq hr hs pq rs h k)).2
theorem cross_lies (o : side r s p * q.w - side r s q * p.w ≠ 0) : (lies p q (crossing p q (side r s p) (side r s q)) = true ↔ side r s p * side r s q ≤ 0) ∧ (lies r s (crossing p q (side r s p) (side r s q)) = true ↔ side p q r * side p q s ≤ 0) := by
  have m := (placeS_mix o).1
  exact ⟨mix_lies hp.1 hq.1 m (ne_d hp hq pq), mix_lies hr.1 hs.1 (mix_other m) (ne_d hr hs rs)⟩
theorem meet_hull {y : H3} (hy : Red y) : (lies p q y = true ∧ lies r s y = true) ↔ Hull (meetL p q r s) y := by
  unfold meetL
  by_cases h : side p q r = 0 ∧ side p q s = 0
  · rw [if_pos h]
    exact cmn_hull hp hq hr hs hy pq rs h.1 h.2
  · rw [if_neg h]
    by_cases o : side r s p * q.w - side r s q * p.w = 0
    · have c : side p q r ≠ 0 := fun z => h ⟨z, col_d hr.1 o z⟩
      rw [if_pos (.inl (par_pos hp hq hr hs rs o c))]
      show _ ↔ False
      simp only [iff_false]
      rintro ⟨a, b⟩
      exact par_none hp hq hr hs pq rs hy.1 o c ((lies_iff p q y).mp a).1 ((lies_iff r s y).mp b).1
    · obtain ⟨l1, l2⟩ := cross_lies hp hq hr hs pq rs o
      obtain ⟨m, rx⟩ := placeS_mix o
      have un : lies p q y = true ∧ lies r s y = true → y = crossing p q (side r s p) (side r s q) := fun ⟨a, b⟩ => meet_uniq rx hy m ((lies_iff p q y).mp a).1 ((lies_iff r s y).mp b).1
      by_cases k : 0 < side r s p * side r s q ∨ 0 < side p q r * side p q s
      · rw [if_pos k]
        show _ ↔ False
        simp only [iff_false]
        intro ab
        have e := un ab
        rw [e] at ab
        have a := l1.mp ab.1
        have b := l2.mp ab.2
        omega
      · rw [if_neg k]
        show _ ↔ y = _
        refine ⟨un, fun e => ?_⟩
        rw [e]
        exact ⟨l1.mpr (by omega), l2.mpr (by omega)⟩
end
/-! ### the program's reckoning -/
def pl (p q : Int × Int) : Int × Int := fr (p.1 * q.2 + q.1 * p.2) (p.2 * q.2)
def frs (a b : Int) : Int × Int := if 0 < b then fr a b else fr (-a) (-b)
def ov (p q : Int × Int) : Int × Int := frs (p.1 * q.2) (p.2 * q.1)
/-- p is N / D, D of any sign -/
def Sg (p : Int × Int) (N D : Int) : Prop := 0 < p.2 ∧ D ≠ 0 ∧ p.1 * D = N * p.2
theorem Sm.sg {p : Int × Int} {N D : Int} (h : Sm p N D) : Sg p N D := ⟨h.1, by have := h.2.1; omega, h.2.2⟩
theorem mul_ne {a b : Int} (ha : a ≠ 0) (hb : b ≠ 0) : a * b ≠ 0 := fun z => hb (mul0 ha z)
theorem pl_sg {p q : Int × Int} {N D M E : Int} (hp : Sg p N D) (hq : Sg q M E) : Sg (pl p q) (N * E + M * D) (D * E) := by
  obtain ⟨a1, a2, a3⟩ := hp
  obtain ⟨b1, b2, b3⟩ := hq
  have h := fr_sm (a := p.1 * q.2 + q.1 * p.2) (Int.mul_pos a1 b1)
  refine ⟨h.1, mul_ne a2 b2, cancel (Int.mul_pos a1 b1) ?_⟩
  have h3 := h.2.2
  show p.2 * q.2 * ((fr (p.1 * q.2 + q.1 * p.2) (p.2 * q.2)).1 * (D * E)) = p.2 * q.2 * ((N * E + M * D) * (fr (p.1 * q.2 + q.1 * p.2) (p.2 * q.2)).2)
  generalize (fr (p.1 * q.2 + q.1 * p.2) (p.2 * q.2)).1 = x at *
  generalize (fr (p.1 * q.2 + q.1 * p.2) (p.2 * q.2)).2 = y at *
  grind
theorem ti_sg {p q : Int × Int} {N D M E : Int} (hp : Sg p N D) (hq : Sg q M E) : Sg (ti p q) (N * M) (D * E) := by
  obtain ⟨a1, a2, a3⟩ := hp
  obtain ⟨b1, b2, b3⟩ := hq
  have h := fr_sm (a := p.1 * q.1) (Int.mul_pos a1 b1)
  refine ⟨h.1, mul_ne a2 b2, cancel (Int.mul_pos a1 b1) ?_⟩
  have h3 := h.2.2
  show p.2 * q.2 * ((fr (p.1 * q.1) (p.2 * q.2)).1 * (D * E)) = p.2 * q.2 * ((N * M) * (fr (p.1 * q.1) (p.2 * q.2)).2)
  generalize (fr (p.1 * q.1) (p.2 * q.2)).1 = x at *
  generalize (fr (p.1 * q.1) (p.2 * q.2)).2 = y at *
  grind
theorem frs_sg {a b : Int} (hb : b ≠ 0) : Sg (frs a b) a b ∧ Rq (frs a b) := by
  unfold frs
  by_cases h : 0 < b
  · rw [if_pos h]
    exact ⟨(fr_sm h).sg, fr_rq h⟩
  · rw [if_neg h]
    have h' : 0 < -b := by omega
    obtain ⟨w, _, e⟩ := fr_sm (a := -a) h'
    exact ⟨⟨w, hb, Int.neg_inj.mp (by rw [← Int.mul_neg, ← Int.neg_mul]; exact e)⟩, fr_rq h'⟩
theorem ov_sg {p q : Int × Int} {N D M E : Int} (hp : Sg p N D) (hq : Sg q M E) (hm : M ≠ 0) (hq1 : q.1 ≠ 0) : Sg (ov p q) (N * E) (D * M) := by
  obtain ⟨a1, a2, a3⟩ := hp
  obtain ⟨b1, b2, b3⟩ := hq
  have n : p.2 * q.1 ≠ 0 := mul_ne (by omega) hq1
  obtain ⟨⟨w, _, e⟩, _⟩ := frs_sg (a := p.1 * q.2) n
  refine ⟨w, mul_ne a2 hm, Int.eq_of_mul_eq_mul_left (mul_ne n (mul_ne (show q.2 ≠ 0 by omega) b2)) ?_⟩
  show p.2 * q.1 * (q.2 * E) * ((frs (p.1 * q.2) (p.2 * q.1)).1 * (D * M)) = p.2 * q.1 * (q.2 * E) * (N * E * (frs (p.1 * q.2) (p.2 * q.1)).2)
  generalize (frs (p.1 * q.2) (p.2 * q.1)).1 = x at *
  generalize (frs (p.1 * q.2) (p.2 * q.1)).2 = y at *
  have t1 : p.2 * q.1 * (q.2 * E) * (x * (D * M)) = (x * (p.2 * q.1)) * (M * q.2) * (D * E) := by grind
  have t2 : p.2 * q.1 * (q.2 * E) * (N * E * y) = (N * p.2) * y * q.2 * (q.1 * E) * E := by grind
  rw [t1, t2, e, ← a3, b3]
  grind
theorem Sg.eq {p q : Int × Int} {N D M E : Int} (hp : Sg p N D) (hq : Sg q M E) (rp : Rq p) (rq : Rq q) (h : N * E = M * D) : p = q := by
  obtain ⟨a1, a2, a3⟩ := hp
  obtain ⟨b1, b2, b3⟩ := hq
  refine rp.eq rq (Int.eq_of_mul_eq_mul_left (mul_ne a2 b2) ?_)
  have t1 : D * E * (p.1 * q.2) = (p.1 * D) * E * q.2 := by grind
  have t2 : D * E * (q.1 * p.2) = (q.1 * E) * D * p.2 := by grind
  rw [t1, t2, a3, b3]
  have : N * p.2 * E * q.2 = (N * E) * (p.2 * q.2) := by grind
  rw [this, h]
  grind
theorem told_own {a : P2} (ra : Rp a) {k : Nat} (h : Bp k a) : told (own a) = a := by
  have i := own_is h
  exact Prod.ext (Sg.eq (fr_sm (own_red h).1).sg i.1.sg (fr_rq (own_red h).1) ra.1 rfl) (Sg.eq (fr_sm (own_red h).1).sg i.2.sg (fr_rq (own_red h).1) ra.2 rfl)
end K05

namespace K05
open PySem L2 DL
def stp (a z : P2) : P2 := (mi z.1 a.1, mi z.2 a.2)
def cq (F G : P2) : Int × Int := mi (ti F.1 G.2) (ti F.2 G.1)
def atp (a F : P2) (t : Int × Int) : P2 := (pl a.1 (ti t F.1), pl a.2 (ti t F.2))
def lowP (a b c d : P2) : P2 := if first (if first c d = true then c else d) (if first a b = true then a else b) = true then (if first a b = true then a else b) else (if first c d = true then c else d)
def highP (a b c d : P2) : P2 := if first (if first a b = true then b else a) (if first c d = true then d else c) = true then (if first a b = true then b else a) else (if first c d = true then d else c)
def shl (a b c d : P2) : List P2 := if lowP a b c d = highP a b c d then [lowP a b c d] else if first (lowP a b c d) (highP a b c d) = true then [lowP a b c d, highP a b c d] else []
def meetX (a b c d : P2) : P2 := atp a (stp a b) (ov (cq (stp a c) (stp c d)) (cq (stp a b) (stp c d)))
def comB (a b c d : P2) : List P2 :=
  if (cq (stp a b) (stp c d)).1 = 0 then (if (cq (stp a b) (stp a c)).1 = 0 then shl a b c d else [])
  else if onB a b (meetX a b c d) = true ∧ onB c d (meetX a b c d) = true then [meetX a b c d] else []
theorem sg_conv {p : Int × Int} {N D N' D' : Int} (h : Sg p N D) (n : D' ≠ 0) (e : N * D' = N' * D) : Sg p N' D' := by
  obtain ⟨a, b, c⟩ := h
  refine ⟨a, n, Int.eq_of_mul_eq_mul_left b ?_⟩
  have t1 : D * (p.1 * D') = (p.1 * D) * D' := by grind
  have t2 : D * (N' * p.2) = (N' * D) * p.2 := by grind
  rw [t1, t2, c, ← e]
  grind
section
variable {a b c d : P2} {p q r s : H3} (ha : Is a p) (hb : Is b q) (hc : Is c r) (hd : Is d s)
theorem stp_sm (ha : Is a p) (hb : Is b q) : Sm (stp a b).1 (dX p q) (q.w * p.w) ∧ Sm (stp a b).2 (dY p q) (q.w * p.w) := ⟨mi_sm hb.1 ha.1, mi_sm hb.2 ha.2⟩
theorem cq_sm {F G : P2} {x y D u v E : Int} (f1 : Sm F.1 x D) (f2 : Sm F.2 y D) (g1 : Sm G.1 u E) (g2 : Sm G.2 v E) : Sm (cq F G) ((x * v - y * u) * (D * E)) (D * E * (D * E)) := by
  have m := mi_sm (ti_sm f1 g2) (ti_sm f2 g1)
  have e : x * v * (D * E) - y * u * (D * E) = (x * v - y * u) * (D * E) := by grind
  rw [e] at m
  exact m
include ha hb hc hd
theorem w_sm : Sm (cq (stp a b) (stp c d)) ((side r s p * q.w - side r s q * p.w) * (q.w * p.w * (s.w * r.w))) (q.w * p.w * (s.w * r.w) * (q.w * p.w * (s.w * r.w))) := by
  have m := cq_sm (stp_sm ha hb).1 (stp_sm ha hb).2 (stp_sm hc hd).1 (stp_sm hc hd).2
  have e : dX p q * dY r s - dY p q * dX r s = side r s p * q.w - side r s q * p.w := by unfold dX dY side; grind
  rw [e] at m
  exact m
theorem p_sm : Sm (cq (stp a c) (stp c d)) ((side r s p * r.w) * (r.w * p.w * (s.w * r.w))) (r.w * p.w * (s.w * r.w) * (r.w * p.w * (s.w * r.w))) := by
  have m := cq_sm (stp_sm ha hc).1 (stp_sm ha hc).2 (stp_sm hc hd).1 (stp_sm hc hd).2
  have e : dX p r * dY r s - dY p r * dX r s = side r s p * r.w := by unfold dX dY side; grind
  rw [e] at m
  exact m
omit hd in
theorem f_sm : Sm (cq (stp a b) (stp a c)) ((side p q r * p.w) * (q.w * p.w * (r.w * p.w))) (q.w * p.w * (r.w * p.w) * (q.w * p.w * (r.w * p.w))) := by
  have m := cq_sm (stp_sm ha hb).1 (stp_sm ha hb).2 (stp_sm ha hc).1 (stp_sm ha hc).2
  have e : dX p q * dY p r - dY p q * dX p r = side p q r * p.w := by unfold dX dY side; grind
  rw [e] at m
  exact m
theorem w_zero : (cq (stp a b) (stp c d)).1 = 0 ↔ side r s p * q.w - side r s q * p.w = 0 := by
  have m := (w_sm ha hb hc hd).sign
  have w1 := ha.1.2.1
  have w2 := hb.1.2.1
  have w3 := hc.1.2.1
  have w4 := hd.1.2.1
  rw [sign_mul_pos (Int.mul_pos (Int.mul_pos w2 w1) (Int.mul_pos w4 w3))] at m
  exact (sgn_pos m).2
omit hd in
theorem f_zero : (cq (stp a b) (stp a c)).1 = 0 ↔ side p q r = 0 := by
  have m := (f_sm ha hb hc).sign
  have w1 := ha.1.2.1
  have w2 := hb.1.2.1
  have w3 := hc.1.2.1
  rw [sign_mul_pos (Int.mul_pos (Int.mul_pos w2 w1) (Int.mul_pos w3 w1)), sign_mul_pos w1] at m
  exact (sgn_pos m).2
theorem meetX_eq (o : side r s p * q.w - side r s q * p.w ≠ 0) : meetX a b c d = told (crossing p q (side r s p) (side r s q)) := by
  obtain ⟨mx, rx⟩ := placeS_mix o
  have w1 := ha.1.2.1
  have w2 := hb.1.2.1
  have w3 := hc.1.2.1
  have w4 := hd.1.2.1
  have fz : (cq (stp a b) (stp c d)).1 ≠ 0 := fun z => o ((w_zero ha hb hc hd).mp z)
  have ws := (w_sm ha hb hc hd).sg
  have ps := (p_sm ha hb hc hd).sg
  generalize side r s p = A at *
  generalize side r s q = B at *
  have dn : q.w * p.w * (s.w * r.w) ≠ 0 := by have := Int.mul_pos (Int.mul_pos w2 w1) (Int.mul_pos w4 w3); omega
  have t : Sg (ov (cq (stp a c) (stp c d)) (cq (stp a b) (stp c d))) (A * q.w) (A * q.w - B * p.w) := by
    refine sg_conv (ov_sg ps ws (mul_ne o dn) fz) o ?_
    generalize A * q.w - B * p.w = z at *
    grind
  generalize crossing p q A B = x at *
  have f := stp_sm ha hb
  have one : ∀ (u v : Int) (F z : Int × Int) (x1 y : Int), Sm z u p.w → Sm F (v * p.w - u * q.w) (q.w * p.w) → x1 * (A * q.w - B * p.w) = (A * v - B * u) * y → 0 < y →
      pl z (ti (ov (cq (stp a c) (stp c d)) (cq (stp a b) (stp c d))) F) = fr x1 y := by
    intro u v F z x1 y hz hF ex y0
    have s1 := ti_sg t hF.sg
    have s2 : Sg (ti (ov (cq (stp a c) (stp c d)) (cq (stp a b) (stp c d))) F) (A * (v * p.w - u * q.w)) ((A * q.w - B * p.w) * p.w) := sg_conv s1 (mul_ne o (by omega)) (by generalize A * q.w - B * p.w = zz at *; grind)
    have s3 := pl_sg hz.sg s2
    have s4 : Sg (pl z (ti (ov (cq (stp a c) (stp c d)) (cq (stp a b) (stp c d))) F)) (A * v - B * u) (A * q.w - B * p.w) := sg_conv s3 o (by grind)
    exact Sg.eq s4 (fr_sm y0).sg (fr_rq (Int.mul_pos hz.1 s2.1)) (fr_rq y0) ex.symm
  exact Prod.ext (one p.x q.x _ _ _ _ ha.1 f.1 mx.ex mx.w) (one p.y q.y _ _ _ _ ha.2 f.2 mx.ey mx.w)
end
theorem told_if {c : Prop} [Decidable c] (x y : H3) : (if c then told x else told y) = told (if c then x else y) := by split <;> rfl
theorem told_inj {x y : H3} (hx : Red x) (hy : Red y) {k : Nat} (bx : Bp k (told x)) (by' : Bp k (told y)) (h : told x = told y) : x = y := by
  have a := own_told hx bx
  have b := own_told hy by'
  rw [← a, ← b, h]
theorem tot_bp {x : H3} (h : 0 < x.w) : ∃ k, Bp k (told x) := by
  refine ⟨x.x.natAbs + x.y.natAbs + x.w.natAbs, told_bp ⟨h, ?_, ?_, ?_⟩⟩
  all_goals exact Nat.lt_of_lt_of_le Nat.lt_two_pow_self (Nat.pow_le_pow_right (by decide) (by omega))
theorem told_inj' {x y : H3} (hx : Red x) (hy : Red y) (h : told x = told y) : x = y := is_uniq (told_is hx.1) (by rw [h]; exact told_is hy.1) hx hy
theorem first_told {x y : H3} (hx : Red x) (hy : Red y) : first (told x) (told y) = hless x y := first_less (told_is hx.1) (told_is hy.1) (told_rp hx.1) (told_rp hy.1)
section
variable {p q r s : H3} (hp : Red p) (hq : Red q) (hr : Red r) (hs : Red s)
include hp hq hr hs
theorem low_told : lowP (told p) (told q) (told r) (told s) = told (lowE p q r s) ∧ highP (told p) (told q) (told r) (told s) = told (highE p q r s) := by
  have m1 : Red (if hless p q = true then p else q) := by split <;> assumption
  have m2 : Red (if hless r s = true then r else s) := by split <;> assumption
  have m3 : Red (if hless p q = true then q else p) := by split <;> assumption
  have m4 : Red (if hless r s = true then s else r) := by split <;> assumption
  unfold lowP highP lowE highE mn mx
  rw [first_told hp hq, first_told hr hs]
  simp only [told_if]
  rw [first_told m2 m1, first_told m3 m4]
  simp only [told_if, and_self]
theorem shl_told : shl (told p) (told q) (told r) (told s) = (cmn p q r s).map told := by
  obtain ⟨l1, l2⟩ := low_told hp hq hr hs
  obtain ⟨m1, m2⟩ := low_in p q r s
  have rl := all_red hp hq hr hs _ m1
  have rh := all_red hp hq hr hs _ m2
  unfold shl cmn
  rw [l1, l2, first_told rl rh]
  by_cases e : lowE p q r s = highE p q r s
  · rw [if_pos (by rw [e]), ← e, hl_irr, if_neg Bool.false_ne_true, if_neg Bool.false_ne_true]
    rfl
  · rw [if_neg fun z => e (told_inj' rl rh z)]
    cases h : hless (lowE p q r s) (highE p q r s)
    · cases k : hless (highE p q r s) (lowE p q r s)
      · exact absurd (hl_tot rl rh h k) e
      · rfl
    · rfl
/-- the program's answer is the law's -/
theorem com_told (pq : p ≠ q) (rs : r ≠ s) : comB (told p) (told q) (told r) (told s) = (meetL p q r s).map told := by
  have ip := told_is hp.1
  have iq := told_is hq.1
  have ir := told_is hr.1
  have is := told_is hs.1
  unfold comB meetL
  by_cases o : side r s p * q.w - side r s q * p.w = 0
  · rw [if_pos ((w_zero ip iq ir is).mpr o)]
    by_cases c : side p q r = 0
    · rw [if_pos ((f_zero ip iq ir).mpr c), if_pos ⟨c, col_d hr.1 o c⟩]
      exact shl_told hp hq hr hs
    · rw [if_neg fun z => c ((f_zero ip iq ir).mp z), if_neg fun z => c z.1, if_pos (.inl (par_pos hp hq hr hs rs o c))]
      rfl
  · rw [if_neg fun z => o ((w_zero ip iq ir is).mp z)]
    have nc : ¬ (side p q r = 0 ∧ side p q s = 0) := fun z => by
      obtain ⟨_, _, c3⟩ := cramer p q r s
      rw [z.1, z.2, Int.zero_mul, Int.zero_mul, Int.sub_zero] at c3
      exact o c3
    rw [if_neg nc, meetX_eq ip iq ir is o]
    have rx := (placeS_mix (p := p) (q := q) o).2
    obtain ⟨l1, l2⟩ := cross_lies hp hq hr hs pq rs o
    rw [onB_lies ip iq (told_is rx.1) (told_rp hp.1) (told_rp hq.1) (told_rp rx.1), onB_lies ir is (told_is rx.1) (told_rp hr.1) (told_rp hs.1) (told_rp rx.1)]
    by_cases k : 0 < side r s p * side r s q ∨ 0 < side p q r * side p q s
    · rw [if_pos k, if_neg (by rw [l1, l2]; omega)]
      rfl
    · rw [if_neg k, if_pos (by rw [l1, l2]; omega)]
      rfl
end
end K05

namespace K05
open PySem L2 DL
local macro_rules | `(tactic| walk_at "dw") => `(tactic| try simp -implicitDefEqProofs only [sSeq, sIf, sRet, sRetN, sRetV, sSet, sNext, sPar, sPar3, sAsg, sDrop, sOwn, sApp, sIns, sPut, sNever, sFrz, sParO, fOr, fAnd, fNot, fIf, fOp, fUn, fVar, fVarB, fC, fCons, fNil, fTup, fLst, fSl, fP, fNoP, fCall, fCallK, gDat, gaNil, gWel, fChain, fWix, sWput, sWdiv, gNm, gTp, gsNil, gsCons, fiL, fiT, fiE, fiR1, fiR2, sFor, rowD, ent, asB_bool, asI_int, if_tt, if_ff,
  List.getElem?_cons_zero, List.getElem?_cons_succ, List.set_cons_zero, List.set_cons_succ, List.cons_append, List.nil_append, List.length_cons, List.length_nil, List.replicate, Nat.zero_add, Nat.reduceAdd, Nat.reduceSub,
  isi_tup, oReprG_bool, oGtD_int, oLeD_int, oGeD_int, oMixD_int, oMixD_tup, oMixD_bi, oMixD_ib, oMixD_bb, oStrD_int, oListD_tup, oListD_lst, oTupleD_lst, oTupleD_tup, oBackD_tup, oBackD_lst, oNegD_int, isi_strD, isi_intD, isi_boolD, isi_listD, isTup.eq_1, isTup.eq_2, isStr.eq_1, isStr.eq_2, isNum.eq_1, isNum.eq_2, Bool.not_true, Bool.not_false, oIx_tup, oIx_lst, oEq_int, oEq_str, oEq_bool, oEq_nil, oNe_int, oNe_str, oNe_bool, oLen_tup, oLen_lst, oI_int, oIC_int, oAdd_int, oAdd_tup, oAdd_lst, oLt_int, oInt_int, oInt_bool, oIn_tup, oIn_lst, oSl_tup, oSl_lst,
  atI_zero, atI_one, atI_two, atI_three, atI_four, cut_from1, true_and, Bool.false_eq_true, if_false, if_true])
def C_ratioN : Ct := fun as S R => ∃ a b : Int, as = [.dat (.int a), .dat (.int b)] ∧ b ≠ 0 ∧ b.natAbs < 2 ^ 8000 ∧ R (qd (frs a b)) S
theorem cdz {a g : Int} (hg : g ≠ 0) (h : g.natAbs < 2 ^ 8000) : CDivZ a g := ⟨hg, by have := log_lt h; omega⟩
theorem fdiv_neg' {a g : Int} (hg : 0 < g) (d : g ∣ a) : a.fdiv (-g) = (-a) / g := by
  obtain ⟨k, rfl⟩ := d
  have e1 : (g * k).fdiv (-g) = -k := by
    have : g * k = (-g) * (-k) := by grind
    rw [this, Int.mul_fdiv_cancel_left _ (by omega)]
  have e2 : -(g * k) / g = -k := by
    have : -(g * k) = g * (-k) := by grind
    rw [this, Int.mul_ediv_cancel_left _ (by omega)]
  rw [e1, e2]
theorem fdiv_pos' {a g : Int} (hg : 0 < g) : a.fdiv g = a / g := Int.fdiv_eq_ediv_of_nonneg a (by omega)
theorem gcd_neg2 (a b : Int) : Nat.gcd (-a).natAbs (-b).natAbs = Nat.gcd a.natAbs b.natAbs := by rw [Int.natAbs_neg, Int.natAbs_neg]
theorem gposN {a b : Int} (hb : b ≠ 0) : 0 < Nat.gcd a.natAbs b.natAbs := Nat.gcd_pos_of_pos_right _ (by omega)
theorem gcd_leN {a b : Int} {k : Nat} (hb : b ≠ 0) (h : b.natAbs < 2 ^ k) : Nat.gcd a.natAbs b.natAbs < 2 ^ k := Nat.lt_of_le_of_lt (Nat.gcd_le_right _ (by omega)) h
theorem frs_qd {a b : Int} (hb : b ≠ 0) : qd (frs a b) = .tuple [.int (a.fdiv (if 0 < b then ((Nat.gcd a.natAbs b.natAbs : Nat) : Int) else -((Nat.gcd a.natAbs b.natAbs : Nat) : Int))), .int (b.fdiv (if 0 < b then ((Nat.gcd a.natAbs b.natAbs : Nat) : Int) else -((Nat.gcd a.natAbs b.natAbs : Nat) : Int)))] := by
  have g := gposN (a := a) hb
  have gi : (0 : Int) < ((Nat.gcd a.natAbs b.natAbs : Nat) : Int) := by omega
  unfold frs
  by_cases h : 0 < b
  · rw [if_pos h, if_pos h, fdiv_pos' gi, fdiv_pos' gi]
    rfl
  · rw [if_neg h, if_neg h, fdiv_neg' gi (gl a b), fdiv_neg' gi (gr a b)]
    unfold fr qd
    rw [gcd_neg2]
theorem c_ratioN : ∀ as S R, as.length = 2 → C_ratioN as S R → G_ratio (ent N_ratio as) S { nx := fun _ S' => R .none S', rt := R } := by
  rintro as S R _ ⟨a, b, rfl, hb, hz, h⟩
  unfold G_ratio
  rw [frs_qd hb] at h
  have g := gposN (a := a) hb
  have z := gcd_leN (a := a) hb hz
  walk_at "dw"
  by_cases c : 0 < b
  · simp only [c, decide_true, if_true] at h ⊢
    exact ⟨cdz (by omega) (by rw [Int.natAbs_natCast]; exact z), cdz (by omega) (by rw [Int.natAbs_natCast]; exact z), h⟩
  · simp only [c, decide_false, Bool.false_eq_true, if_false] at h ⊢
    walk_at "dw"
    exact ⟨cdz (by omega) (by rw [Int.natAbs_neg, Int.natAbs_natCast]; exact z), cdz (by omega) (by rw [Int.natAbs_neg, Int.natAbs_natCast]; exact z), h⟩
theorem ratio_imp : ∀ as S R, C_ratio as S R → C_ratioN as S R := fun as S R ⟨a, b, e, hb, hz, h⟩ => ⟨a, b, e, by omega, hz, by unfold frs; rw [if_pos hb]; exact h⟩
def C_placeS : Ct := fun as S R => ∃ x y w : Int, as = [.dat (.int x), .dat (.int y), .dat (.int w)] ∧ w ≠ 0 ∧ w.natAbs < 2 ^ 8000 ∧ R (hd (placeS x y w)) S
theorem place_imp : ∀ as S R, C_place as S R → C_placeS as S R := fun as S R ⟨x, y, w, e, hb, hz, h⟩ => ⟨x, y, w, e, by omega, hz, by unfold placeS; rw [if_pos hb]; exact h⟩
theorem placeS_hd {x y w : Int} (hb : w ≠ 0) : hd (placeS x y w) = .tuple [.int (x.fdiv (if 0 < w then ((Nat.gcd (Nat.gcd x.natAbs y.natAbs) w.natAbs : Nat) : Int) else 0 - ((Nat.gcd (Nat.gcd x.natAbs y.natAbs) w.natAbs : Nat) : Int))),
    .int (y.fdiv (if 0 < w then ((Nat.gcd (Nat.gcd x.natAbs y.natAbs) w.natAbs : Nat) : Int) else 0 - ((Nat.gcd (Nat.gcd x.natAbs y.natAbs) w.natAbs : Nat) : Int))),
    .int (w.fdiv (if 0 < w then ((Nat.gcd (Nat.gcd x.natAbs y.natAbs) w.natAbs : Nat) : Int) else 0 - ((Nat.gcd (Nat.gcd x.natAbs y.natAbs) w.natAbs : Nat) : Int)))] := by
  have g : 0 < Nat.gcd (Nat.gcd x.natAbs y.natAbs) w.natAbs := Nat.gcd_pos_of_pos_right _ (by omega)
  have gi : (0 : Int) < ((Nat.gcd (Nat.gcd x.natAbs y.natAbs) w.natAbs : Nat) : Int) := by omega
  have d1 : ((Nat.gcd (Nat.gcd x.natAbs y.natAbs) w.natAbs : Nat) : Int) ∣ x := Int.ofNat_dvd_left.mpr (Nat.dvd_trans (Nat.gcd_dvd_left _ _) (Nat.gcd_dvd_left _ _))
  have d2 : ((Nat.gcd (Nat.gcd x.natAbs y.natAbs) w.natAbs : Nat) : Int) ∣ y := Int.ofNat_dvd_left.mpr (Nat.dvd_trans (Nat.gcd_dvd_left _ _) (Nat.gcd_dvd_right _ _))
  have d3 : ((Nat.gcd (Nat.gcd x.natAbs y.natAbs) w.natAbs : Nat) : Int) ∣ w := Int.ofNat_dvd_left.mpr (Nat.gcd_dvd_right _ _)
  unfold placeS
  by_cases h : 0 < w
  · rw [if_pos h, if_pos h, fdiv_pos' gi, fdiv_pos' gi, fdiv_pos' gi]
    rfl
  · rw [if_neg h, if_neg h, Int.zero_sub, fdiv_neg' gi d1, fdiv_neg' gi d2, fdiv_neg' gi d3]
    unfold place hd
    rw [Int.natAbs_neg, Int.natAbs_neg, Int.natAbs_neg]
theorem c_placeS : ∀ as S R, as.length = 3 → C_placeS as S R → G_law_place C_div (ent N_law_place as) S { nx := fun _ S' => R .none S', rt := R } := by
  rintro as S R _ ⟨x, y, w, rfl, hw, hz, h⟩
  unfold G_law_place
  rw [placeS_hd hw] at h
  have g : 0 < Nat.gcd (Nat.gcd x.natAbs y.natAbs) w.natAbs := Nat.gcd_pos_of_pos_right _ (by omega)
  have z : Nat.gcd (Nat.gcd x.natAbs y.natAbs) w.natAbs < 2 ^ 8000 := Nat.lt_of_le_of_lt (Nat.gcd_le_right _ (by omega)) hz
  walk_at "dw"
  by_cases c : 0 < w
  · simp only [c, decide_true, if_true] at h ⊢
    refine ⟨_, _, rfl, ?_⟩
    walk_at "dw"
    refine ⟨_, _, rfl, ?_⟩
    walk_at "dw"
    rw [Int.natAbs_natCast]
    exact ⟨cdz (by omega) (by rw [Int.natAbs_natCast]; exact z), cdz (by omega) (by rw [Int.natAbs_natCast]; exact z), cdz (by omega) (by rw [Int.natAbs_natCast]; exact z), h⟩
  · simp only [c, decide_false, Bool.false_eq_true, if_false] at h ⊢
    refine ⟨_, _, rfl, ?_⟩
    walk_at "dw"
    refine ⟨_, _, rfl, ?_⟩
    walk_at "dw"
    rw [Int.natAbs_natCast]
    rw [Int.zero_sub] at h ⊢
    exact ⟨cdz (by omega) (by rw [Int.natAbs_neg, Int.natAbs_natCast]; exact z), cdz (by omega) (by rw [Int.natAbs_neg, Int.natAbs_natCast]; exact z), cdz (by omega) (by rw [Int.natAbs_neg, Int.natAbs_natCast]; exact z), h⟩
/-! ### the program's defs -/
theorem pl_bq {p q : Int × Int} {k : Nat} (hp : Bq k p) (hq : Bq k q) : Bq (k + k + 1) (pl p q) :=
  fr_bq (Int.mul_pos hp.1 hq.1) (badd (bmul hp.2.1 hq.2.2) (bmul hq.2.1 hp.2.2)) (Nat.lt_of_lt_of_le (bmul hp.2.2 hq.2.2) (pow_le (by omega)))
theorem frs_bq {a b : Int} {k : Nat} (hb : b ≠ 0) (h1 : a.natAbs < 2 ^ k) (h2 : b.natAbs < 2 ^ k) : Bq k (frs a b) := by
  unfold frs
  split
  · exact fr_bq (by omega) h1 h2
  · exact fr_bq (by omega) (by rw [Int.natAbs_neg]; exact h1) (by rw [Int.natAbs_neg]; exact h2)
theorem c_plus : ∀ as S R, as.length = 2 → C_qq 3900 (fun p q => qd (pl p q)) as S R → G_plus C_ratio (ent N_plus as) S { nx := fun _ S' => R .none S', rt := R } := by
  rintro as S R _ ⟨⟨a, b⟩, ⟨c, d⟩, rfl, ⟨b0, b1, b2⟩, ⟨d0, d1, d2⟩, h⟩
  unfold G_plus
  simp only [qd] at *
  walk_at "dw"
  exact ⟨cmul b1 d2 (by omega), cmul d1 b2 (by omega), cmul b2 d2 (by omega), _, _, rfl, Int.mul_pos b0 d0, Nat.lt_of_lt_of_le (bmul b2 d2) (pow_le (by omega)), h⟩
def C_over : Ct := fun as S R => ∃ p q : Int × Int, as = [.dat (qd p), .dat (qd q)] ∧ Bq 3900 p ∧ Bq 3900 q ∧ q.1 ≠ 0 ∧ R (qd (ov p q)) S
theorem c_over : ∀ as S R, as.length = 2 → C_over as S R → G_over C_ratioN (ent N_over as) S { nx := fun _ S' => R .none S', rt := R } := by
  rintro as S R _ ⟨⟨a, b⟩, ⟨c, d⟩, rfl, ⟨b0, b1, b2⟩, ⟨d0, d1, d2⟩, n, h⟩
  unfold G_over
  simp only [qd] at *
  walk_at "dw"
  exact ⟨cmul b1 d2 (by omega), cmul b2 d1 (by omega), _, _, rfl, mul_ne (by omega) n, Nat.lt_of_lt_of_le (bmul b2 d1) (pow_le (by omega)), h⟩
end K05

namespace K05
open PySem L2 DL
local macro_rules | `(tactic| walk_at "dw") => `(tactic| try simp -implicitDefEqProofs only [sSeq, sIf, sRet, sRetN, sRetV, sSet, sNext, sPar, sPar3, sAsg, sDrop, sOwn, sApp, sIns, sPut, sNever, sFrz, sParO, fOr, fAnd, fNot, fIf, fOp, fUn, fVar, fVarB, fC, fCons, fNil, fTup, fLst, fSl, fP, fNoP, fCall, fCallK, gDat, gaNil, gWel, fChain, fWix, sWput, sWdiv, gNm, gTp, gsNil, gsCons, fiL, fiT, fiE, fiR1, fiR2, sFor, rowD, ent, asB_bool, asI_int, if_tt, if_ff,
  List.getElem?_cons_zero, List.getElem?_cons_succ, List.set_cons_zero, List.set_cons_succ, List.cons_append, List.nil_append, List.length_cons, List.length_nil, List.replicate, Nat.zero_add, Nat.reduceAdd, Nat.reduceSub,
  isi_tup, oReprG_bool, oGtD_int, oLeD_int, oGeD_int, oMixD_int, oMixD_tup, oMixD_bi, oMixD_ib, oMixD_bb, oStrD_int, oListD_tup, oListD_lst, oTupleD_lst, oTupleD_tup, oBackD_tup, oBackD_lst, oNegD_int, isi_strD, isi_intD, isi_boolD, isi_listD, isTup.eq_1, isTup.eq_2, isStr.eq_1, isStr.eq_2, isNum.eq_1, isNum.eq_2, Bool.not_true, Bool.not_false, oIx_tup, oIx_lst, oEq_int, oEq_str, oEq_bool, oEq_nil, oNe_int, oNe_str, oNe_bool, oLen_tup, oLen_lst, oI_int, oIC_int, oAdd_int, oAdd_tup, oAdd_lst, oLt_int, oInt_int, oInt_bool, oIn_tup, oIn_lst, oSl_tup, oSl_lst,
  atI_zero, atI_one, atI_two, atI_three, atI_four, cut_from1, true_and, Bool.false_eq_true, if_false, if_true])
def C_at : Ct := fun as S R => ∃ (a F : P2) (t : Int × Int), as = [.dat (pd a), .dat (pd F), .dat (qd t)] ∧ Bp 1900 a ∧ Bp 1900 F ∧ Bq 1900 t ∧ R (pd (atp a F t)) S
theorem c_at : ∀ as S R, as.length = 3 → C_at as S R → G_at_part (C_qq 3900 (fun p q => qd (pl p q))) (C_qq 2000 fun p q => qd (ti p q)) (ent N_at_part as) S { nx := fun _ S' => R .none S', rt := R } := by
  rintro as S R _ ⟨a, F, t, rfl, ha, hF, ht, h⟩
  unfold G_at_part
  simp only [pd, atp] at *
  walk_at "dw"
  refine ⟨t, F.1, rfl, ht.up (by omega), hF.1.up (by omega), ?_⟩
  walk_at "dw"
  refine ⟨a.1, ti t F.1, rfl, ha.1.up (by omega), (ti_bq ht hF.1).up (by omega), ?_⟩
  walk_at "dw"
  refine ⟨t, F.2, rfl, ht.up (by omega), hF.2.up (by omega), ?_⟩
  walk_at "dw"
  exact ⟨a.2, ti t F.2, rfl, ha.2.up (by omega), (ti_bq ht hF.2).up (by omega), h⟩
theorem sg2_if (a b : P2) : (if first a b = true then sg2 a b else sg2 b a) = sg2 (if first a b = true then a else b) (if first a b = true then b else a) := by split <;> rfl
theorem bp_if {k : Nat} {c : Prop} [Decidable c] {a b : P2} (ha : Bp k a) (hb : Bp k b) : Bp k (if c then a else b) := by split <;> assumption
def shl3 (lo hi : P2) : List P2 := if lo = hi then [lo] else if first lo hi = true then [lo, hi] else []
def shl2 (one two three four : P2) : List P2 := shl3 (if first three one = true then one else three) (if first two four = true then two else four)
theorem shl_eq (a b c d : P2) : shl a b c d = shl2 (if first a b = true then a else b) (if first a b = true then b else a) (if first c d = true then c else d) (if first c d = true then d else c) := rfl
def C_shl : Ct := fun as S R => ∃ a b c d : P2, as = [.dat (sg2 a b), .dat (sg2 c d)] ∧ Bp 499 a ∧ Bp 499 b ∧ Bp 499 c ∧ Bp 499 d ∧ R (.tuple ((shl a b c d).map pd)) S
theorem oEq_pd (p q : P2) (bp : Bp 499 p) (bq : Bp 499 q) (R : PyData → Prop) (h : R (.bool (decide (p = q)))) : oEq (pd p) (pd q) R := by
  have s : ∀ z : P2, Bp 499 z → SeqAt.shaped (pd z) = true := fun z h => by
    have := (Tin.tup (k := 499) (n := 1) (.cons (Tin.tup (n := 0) (.cons (.int (by omega) h.1.2.1) (.cons (.int (by omega) h.1.2.2) (TinAll.nil (W := 0))))) (.cons (Tin.tup (n := 0) (.cons (.int (by omega) h.2.2.1) (.cons (.int (by omega) h.2.2.2) (TinAll.nil (W := 0))))) (TinAll.nil (W := 0))))).shaped (by omega)
    exact this
  refine (show SeqAt.shaped (pd p) = true ∧ SeqAt.shaped (pd q) = true ∧ R (.bool (PyData.eqv (pd p) (pd q))) from ⟨s p bp, s q bq, ?_⟩)
  rw [eqv_pd]
  exact h
theorem c_shl : ∀ as S R, as.length = 2 → C_shl as S R → G_shared_line C_asc C_first (ent N_shared_line as) S { nx := fun _ S' => R .none S', rt := R } := by
  rintro as S R _ ⟨a, b, c, d, rfl, ha, hb, hc, hd, h⟩
  unfold G_shared_line
  refine w_asg (w_tup2 (w_call1 rfl ⟨a, b, rfl, ha, hb, ?_⟩))
  rw [sg2_if]
  refine w_call1 rfl ⟨c, d, rfl, hc, hd, ?_⟩
  rw [sg2_if]
  rw [shl_eq] at h
  have q1 : Bp 499 (if first a b = true then a else b) := bp_if ha hb
  have q2 : Bp 499 (if first a b = true then b else a) := bp_if hb ha
  have q3 : Bp 499 (if first c d = true then c else d) := bp_if hc hd
  have q4 : Bp 499 (if first c d = true then d else c) := bp_if hd hc
  generalize (if first a b = true then a else b) = one at *
  generalize (if first a b = true then b else a) = two at *
  generalize (if first c d = true then c else d) = three at *
  generalize (if first c d = true then d else c) = four at *
  simp only [sg2]
  refine (show (2 = 2 ∧ 2 = 2 ∧ [] = [] ∧ 2 = 2 ∧ [] = [] ∧ [] = [] ∧ _) from ⟨rfl, rfl, rfl, rfl, rfl, rfl, ?_⟩)
  have pick : ∀ (i j : Nat) (x y : P2) (ρ : Rho) (Q : PyData → SW → Prop), ρ[i]? = some (.dat (pd x)) → ρ[j]? = some (.dat (pd y)) → Bp 499 x → Bp 499 y → ∀ (f g : FE), (first x y = true → f ρ S Q) → (first x y = false → g ρ S Q) → fIf (fCall C_first (gDat (fVar i) (gDat (fVar j) gaNil))) f g ρ S Q := by
    intro i j x y ρ Q e1 e2 bx by' f g k1 k2
    unfold fIf
    refine w_call2 e1 e2 ⟨x, y, rfl, bx.up (by omega), by'.up (by omega), ?_⟩
    simp only [asB_bool]
    cases e : first x y
    · rw [if_neg Bool.false_ne_true]; exact k2 e
    · rw [if_pos rfl]; exact k1 e
  have low : ∀ (ρ : Rho) (Q : PyData → SW → Prop), ρ[2]? = some (.dat (pd one)) → ρ[4]? = some (.dat (pd three)) → Q (pd (if first three one = true then one else three)) S → fIf (fCall C_first (gDat (fVar 4) (gDat (fVar 2) gaNil))) (fVar 2) (fVar 4) ρ S Q := fun ρ Q e1 e2 q =>
    pick 4 2 three one ρ Q e2 e1 q3 q1 _ _ (fun e => w_var e1 (by rw [if_pos e] at q; exact q)) (fun e => w_var e2 (by rw [e, if_neg Bool.false_ne_true] at q; exact q))
  have high : ∀ (ρ : Rho) (Q : PyData → SW → Prop), ρ[3]? = some (.dat (pd two)) → ρ[5]? = some (.dat (pd four)) → Q (pd (if first two four = true then two else four)) S → fIf (fCall C_first (gDat (fVar 3) (gDat (fVar 5) gaNil))) (fVar 3) (fVar 5) ρ S Q := fun ρ Q e1 e2 q =>
    pick 3 5 two four ρ Q e1 e2 q2 q4 _ _ (fun e => w_var e1 (by rw [if_pos e] at q; exact q)) (fun e => w_var e2 (by rw [e, if_neg Bool.false_ne_true] at q; exact q))
  refine w_set (low _ _ rfl rfl (w_set (high _ _ rfl rfl ?_)))
  unfold shl2 at h
  have b1 : Bp 499 (if first three one = true then one else three) := bp_if q1 q3
  have b2 : Bp 499 (if first two four = true then two else four) := bp_if q2 q4
  generalize (if first three one = true then one else three) = lo at *
  generalize (if first two four = true then two else four) = hi at *
  unfold shl3 at h
  refine w_ifS (b := decide (lo = hi)) (fun Q q => w_op (w_varB rfl (w_varB rfl (oEq_pd lo hi b1 b2 _ q)))) (fun e => ?_) (fun e => ?_)
  · rw [if_pos (of_decide_eq_true e)] at h
    exact w_ret (w_tup1 (w_var rfl h))
  · rw [if_neg (of_decide_eq_false e)] at h
    unfold sNext
    dsimp only
    refine w_ret (pick 6 7 lo hi _ _ rfl rfl b1 b2 _ _ (fun e => ?_) (fun e => ?_))
    · rw [if_pos e] at h
      exact w_tup2 (w_var rfl (w_var rfl h))
    · rw [e, if_neg Bool.false_ne_true] at h
      exact h
end K05

namespace K05
open PySem L2 DL
local macro_rules | `(tactic| walk_at "dw") => `(tactic| try simp -implicitDefEqProofs only [sSeq, sIf, sRet, sRetN, sRetV, sSet, sNext, sPar, sPar3, sAsg, sDrop, sOwn, sApp, sIns, sPut, sNever, sFrz, sParO, fOr, fAnd, fNot, fIf, fOp, fUn, fVar, fVarB, fC, fCons, fNil, fTup, fLst, fSl, fP, fNoP, fCall, fCallK, gDat, gaNil, gWel, fChain, fWix, sWput, sWdiv, gNm, gTp, gsNil, gsCons, fiL, fiT, fiE, fiR1, fiR2, sFor, rowD, ent, asB_bool, asI_int, if_tt, if_ff,
  List.getElem?_cons_zero, List.getElem?_cons_succ, List.set_cons_zero, List.set_cons_succ, List.cons_append, List.nil_append, List.length_cons, List.length_nil, List.replicate, Nat.zero_add, Nat.reduceAdd, Nat.reduceSub,
  isi_tup, oReprG_bool, oGtD_int, oLeD_int, oGeD_int, oMixD_int, oMixD_tup, oMixD_bi, oMixD_ib, oMixD_bb, oStrD_int, oListD_tup, oListD_lst, oTupleD_lst, oTupleD_tup, oBackD_tup, oBackD_lst, oNegD_int, isi_strD, isi_intD, isi_boolD, isi_listD, isTup.eq_1, isTup.eq_2, isStr.eq_1, isStr.eq_2, isNum.eq_1, isNum.eq_2, Bool.not_true, Bool.not_false, oIx_tup, oIx_lst, oEq_int, oEq_str, oEq_bool, oEq_nil, oNe_int, oNe_str, oNe_bool, oLen_tup, oLen_lst, oI_int, oIC_int, oAdd_int, oAdd_tup, oAdd_lst, oLt_int, oInt_int, oInt_bool, oIn_tup, oIn_lst, oSl_tup, oSl_lst,
  atI_zero, atI_one, atI_two, atI_three, atI_four, cut_from1, true_and, Bool.false_eq_true, if_false, if_true])
theorem zero_iff {p : Int × Int} (h : Rq p) : p = (0, 1) ↔ p.1 = 0 := by
  obtain ⟨a, b⟩ := p
  obtain ⟨h1, h2⟩ := h
  simp only at h1 h2
  constructor
  · intro e
    exact (Prod.mk.inj e).1
  · intro e
    simp only at e
    subst e
    rw [Int.natAbs_zero, Nat.gcd_zero_left] at h2
    have : b = 1 := by omega
    rw [this]
theorem stp_bp {k : Nat} {a z : P2} (ha : Bp k a) (hz : Bp k z) : Bp (k + k + 1) (stp a z) := ⟨mi_bq hz.1 ha.1, mi_bq hz.2 ha.2⟩
theorem cq_bq {k : Nat} {F G : P2} (hF : Bp k F) (hG : Bp k G) : Bq (k + k + (k + k) + 1) (cq F G) := mi_bq (ti_bq hF.1 hG.2) (ti_bq hF.2 hG.1)
theorem cq_rq {k : Nat} {F G : P2} (hF : Bp k F) (hG : Bp k G) : Rq (cq F G) := fr_rq (Int.mul_pos (ti_bq hF.1 hG.2).1 (ti_bq hF.2 hG.1).1)
def C_comby : Ct := fun as S R => ∃ a b c d : P2, as = [.dat (sg2 a b), .dat (sg2 c d)] ∧ (Bp 118 a ∧ Bp 118 b ∧ Bp 118 c ∧ Bp 118 d) ∧ ((cq (stp a b) (stp c d)).1 ≠ 0 → Bp 499 (meetX a b c d)) ∧ R (.tuple ((comB a b c d).map pd)) S
theorem ov_bq {p q : Int × Int} {k : Nat} (hp : Bq k p) (hq : Bq k q) (n : q.1 ≠ 0) : Bq (k + k) (ov p q) := by
  have := hp.1
  exact frs_bq (mul_ne (by omega) n) (bmul hp.2.1 hq.2.2) (bmul hp.2.2 hq.2.1)
theorem step2 {i j : Nat} {a b c d : P2} {ρ : Rho} {S : SW} {Q : PyData → SW → Prop} (h1 : ρ[i]? = some (.dat (sg2 a b))) (h2 : ρ[j]? = some (.dat (sg2 c d))) (ha : Bp 2000 a) (hc : Bp 2000 c) (h : Q (pd (stp a c)) S) : fCall C_step (gDat (fOp oIx (fVarB i) (fC (.int 0))) (gDat (fOp oIx (fVarB j) (fC (.int 0))) gaNil)) ρ S Q :=
  w_callF2 (w_ix0 h1 (w_ix0 h2 ⟨a, c, rfl, ha, hc, h⟩))
theorem step1 {i : Nat} {a b : P2} {ρ : Rho} {S : SW} {Q : PyData → SW → Prop} (h1 : ρ[i]? = some (.dat (sg2 a b))) (ha : Bp 2000 a) (hb : Bp 2000 b) (h : Q (pd (stp a b)) S) : fCall C_step (gDat (fOp oIx (fVarB i) (fC (.int 0))) (gDat (fOp oIx (fVarB i) (fC (.int 1))) gaNil)) ρ S Q :=
  w_callF2 (w_ix0 h1 (w_ix1 h1 ⟨a, b, rfl, ha, hb, h⟩))
theorem cross2 {i j : Nat} {F G : P2} {ρ : Rho} {S : SW} {Q : PyData → SW → Prop} (h1 : ρ[i]? = some (.dat (pd F))) (h2 : ρ[j]? = some (.dat (pd G))) (hF : Bp 1000 F) (hG : Bp 1000 G) (h : Q (qd (cq F G)) S) : fCall C_cross (gDat (fVar i) (gDat (fVar j) gaNil)) ρ S Q :=
  w_call2 h1 h2 ⟨F, G, rfl, hF, hG, h⟩
theorem zero_at {f : FE} {p : Int × Int} {ρ : Rho} {S : SW} {Q : PyData → SW → Prop} (rp : Rq p) (hf : ∀ Q : PyData → SW → Prop, Q (qd p) S → f ρ S Q) (h : Q (.bool (decide (p.1 = 0))) S) : fOp oEq f (fC (.tuple [.int 0, .int 1])) ρ S Q := by
  refine w_op (hf _ ?_)
  unfold fC
  refine oEq_qd p (0, 1) _ ?_
  rw [show decide (p = (0, 1)) = decide (p.1 = 0) from decide_eq_decide.mpr (zero_iff rp)]
  exact h
theorem w_fIf {c f g : FE} {b : Bool} {ρ : Rho} {S : SW} {Q : PyData → SW → Prop} (hc : ∀ Q : PyData → SW → Prop, Q (.bool b) S → c ρ S Q) (h1 : b = true → f ρ S Q) (h2 : b = false → g ρ S Q) : fIf c f g ρ S Q := by
  unfold fIf
  refine hc _ ?_
  simp only [asB_bool]
  cases b
  · rw [if_neg Bool.false_ne_true]; exact h2 rfl
  · rw [if_pos rfl]; exact h1 rfl
theorem w_and {f g : FE} {b c : Bool} {ρ : Rho} {S : SW} {Q : PyData → SW → Prop} (hf : ∀ Q : PyData → SW → Prop, Q (.bool b) S → f ρ S Q) (hg : b = true → ∀ Q : PyData → SW → Prop, Q (.bool c) S → g ρ S Q) (h : Q (.bool (b && c)) S) : fAnd f g ρ S Q := by
  unfold fAnd
  refine hf _ ?_
  simp only [asB_bool]
  cases b
  · rw [if_neg Bool.false_ne_true]; exact h
  · rw [if_pos rfl]; exact hg rfl _ (by simpa using h)
def comX (X a b c d : P2) : List P2 := if onB a b X = true ∧ onB c d X = true then [X] else []
theorem comB_eq (a b c d : P2) : comB a b c d = if (cq (stp a b) (stp c d)).1 = 0 then (if (cq (stp a b) (stp a c)).1 = 0 then shl a b c d else []) else comX (meetX a b c d) a b c d := rfl
theorem c_comby : ∀ as S R, as.length = 2 → C_comby as S R → G_common_by C_step C_cross C_shl C_at C_over C_onby (ent N_common_by as) S { nx := fun _ S' => R .none S', rt := R } := by
  rintro as S R _ ⟨a, b, c, d, rfl, ⟨ha, hb, hc, hd⟩, hX, h⟩
  unfold G_common_by
  have f1 := stp_bp ha hb
  have f2 := stp_bp hc hd
  have f3 := stp_bp ha hc
  refine w_par (step1 rfl (ha.up (by omega)) (hb.up (by omega)) (step1 rfl (hc.up (by omega)) (hd.up (by omega)) ?_))
  refine w_par (step2 rfl rfl (ha.up (by omega)) (hc.up (by omega)) (cross2 rfl rfl (f1.up (by omega)) (f2.up (by omega)) ?_))
  rw [comB_eq] at h
  have rW := cq_rq f1 f2
  refine w_ifS (b := decide ((cq (stp a b) (stp c d)).1 = 0)) (fun Q q => zero_at rW (fun Q q => w_varB rfl q) q) (fun e => ?_) (fun e => ?_)
  · rw [if_pos (of_decide_eq_true e)] at h
    refine w_ret (w_fIf (b := decide ((cq (stp a b) (stp a c)).1 = 0)) (fun Q q => zero_at (cq_rq f1 f3) (fun Q q => cross2 rfl rfl (f1.up (by omega)) (f3.up (by omega)) q) q) (fun e2 => ?_) (fun e2 => ?_))
    · rw [if_pos (of_decide_eq_true e2)] at h
      exact w_call2 rfl rfl ⟨a, b, c, d, rfl, ha.up (by omega), hb.up (by omega), hc.up (by omega), hd.up (by omega), h⟩
    · rw [if_neg (of_decide_eq_false e2)] at h
      exact h
  · have n := of_decide_eq_false e
    rw [if_neg n] at h
    have bX := hX n
    have t1 := cq_bq f3 f2
    have t2 := cq_bq f1 f2
    have tb := ov_bq t1 t2 n
    unfold sNext
    dsimp only
    refine w_set ?_
    have at3 : ∀ (f g k : FE) (ρ : Rho) (Q : PyData → SW → Prop), (f ρ S fun x S1 => g ρ S1 fun y S2 => k ρ S2 fun z S3 => C_at [.dat x, .dat y, .dat z] S3 Q) → fCall C_at (gDat f (gDat g (gDat k gaNil))) ρ S Q := fun f g k ρ Q h => h
    refine at3 _ _ _ _ _ (w_ix0 (x := pd a) (r := [pd b]) rfl (w_var rfl (w_callF2 (cross2 rfl rfl (f3.up (by omega)) (f2.up (by omega)) (w_var rfl ⟨_, _, rfl, t1.up (by omega), t2.up (by omega), n, ?_⟩)))))
    refine ⟨a, stp a b, ov (cq (stp a c) (stp c d)) (cq (stp a b) (stp c d)), rfl, ha.up (by omega), f1.up (by omega), tb.up (by omega), ?_⟩
    change R (.tuple ((comX (atp a (stp a b) (ov (cq (stp a c) (stp c d)) (cq (stp a b) (stp c d)))) a b c d).map pd)) S at h
    change Bp 499 (atp a (stp a b) (ov (cq (stp a c) (stp c d)) (cq (stp a b) (stp c d)))) at bX
    clear hX tb
    generalize atp a (stp a b) (ov (cq (stp a c) (stp c d)) (cq (stp a b) (stp c d))) = X at *
    unfold comX at h
    refine w_ret (w_fIf (b := onB a b X && onB c d X) (fun Q q => w_and (fun Q q => w_call2 rfl rfl ⟨a, b, X, rfl, ha.up (by omega), hb.up (by omega), bX, q⟩) (fun _ Q q => w_call2 rfl rfl ⟨c, d, X, rfl, hc.up (by omega), hd.up (by omega), bX, q⟩) q) (fun e2 => ?_) (fun e2 => ?_))
    · rw [Bool.and_eq_true] at e2
      rw [if_pos e2] at h
      exact w_tup1 (w_var rfl h)
    · rw [if_neg (fun z => by rw [z.1, z.2] at e2; cases e2)] at h
      exact h
def C_common : Ct := fun as S R => ∃ a b c d : P2, as = [.dat (sg2 a b), .dat (sg2 c d)] ∧ ((Rp a ∧ Rp b ∧ a ≠ b) ∧ (Rp c ∧ Rp d ∧ c ≠ d)) ∧ (Bp 118 a ∧ Bp 118 b ∧ Bp 118 c ∧ Bp 118 d) ∧ ((cq (stp a b) (stp c d)).1 ≠ 0 → Bp 499 (meetX a b c d)) ∧ R (.tuple ((comB a b c d).map pd)) S
theorem sg_ok {a b : P2} (ra : Rp a) (rb : Rp b) (ne : a ≠ b) : sgD (sg2 a b) = true := by
  simp only [sg2, sgD, pt_pd ra, pt_pd rb, eqv_pd, decide_eq_false ne]
  rfl
end K05

namespace K05
open PySem L2 DL PySem.W
local macro_rules | `(tactic| walk_at "dw") => `(tactic| try simp -implicitDefEqProofs only [sSeq, sIf, sRet, sRetN, sRetV, sSet, sNext, sPar, sPar3, sAsg, sDrop, sOwn, sApp, sIns, sPut, sNever, sFrz, sParO, fOr, fAnd, fNot, fIf, fOp, fUn, fVar, fVarB, fC, fCons, fNil, fTup, fLst, fSl, fP, fNoP, fCall, fCallK, gDat, gaNil, gWel, fChain, fWix, sWput, sWdiv, gNm, gTp, gsNil, gsCons, fiL, fiT, fiE, fiR1, fiR2, sFor, rowD, ent, asB_bool, asI_int, if_tt, if_ff,
  List.getElem?_cons_zero, List.getElem?_cons_succ, List.set_cons_zero, List.set_cons_succ, List.cons_append, List.nil_append, List.length_cons, List.length_nil, List.replicate, Nat.zero_add, Nat.reduceAdd, Nat.reduceSub,
  isi_tup, oReprG_bool, oGtD_int, oLeD_int, oGeD_int, oMixD_int, oMixD_tup, oMixD_bi, oMixD_ib, oMixD_bb, oStrD_int, oListD_tup, oListD_lst, oTupleD_lst, oTupleD_tup, oBackD_tup, oBackD_lst, oNegD_int, isi_strD, isi_intD, isi_boolD, isi_listD, isTup.eq_1, isTup.eq_2, isStr.eq_1, isStr.eq_2, isNum.eq_1, isNum.eq_2, Bool.not_true, Bool.not_false, oIx_tup, oIx_lst, oEq_int, oEq_str, oEq_bool, oEq_nil, oNe_int, oNe_str, oNe_bool, oLen_tup, oLen_lst, oI_int, oIC_int, oAdd_int, oAdd_tup, oAdd_lst, oLt_int, oInt_int, oInt_bool, oIn_tup, oIn_lst, oSl_tup, oSl_lst,
  atI_zero, atI_one, atI_two, atI_three, atI_four, cut_from1, true_and, Bool.false_eq_true, if_false, if_true])
theorem gcd_lcm {f w : Int} (hf : 0 < f) (hw : 0 < w) : 0 < f / ((Nat.gcd f.natAbs w.natAbs : Nat) : Int) * w ∧ f ∣ f / ((Nat.gcd f.natAbs w.natAbs : Nat) : Int) * w ∧ w ∣ f / ((Nat.gcd f.natAbs w.natAbs : Nat) : Int) * w := by
  have g := gpos (a := f) hw
  have z0 : (0 : Int) < ((Nat.gcd f.natAbs w.natAbs : Nat) : Int) := by omega
  have d1 := gl f w
  have d2 := gr f w
  generalize ((Nat.gcd f.natAbs w.natAbs : Nat) : Int) = z at *
  obtain ⟨m, hm⟩ := d1
  obtain ⟨n, hn⟩ := d2
  have e : f / z = m := by rw [hm, Int.mul_ediv_cancel_left _ (by omega)]
  have m0 : 0 < m := Int.pos_of_mul_pos_right (a := z) (by omega) z0
  rw [e]
  exact ⟨Int.mul_pos m0 hw, ⟨n, by rw [hm, hn]; grind⟩, ⟨m, by grind⟩⟩
def RowOf (l : List H3) (d : PyData) : Prop := d = .list (l.map hd) ∨ d = .tuple (l.map hd)
def C_bottom : Ct := fun as S R => ∃ (l : List H3) (d : PyData), as = [.dat d] ∧ RowOf l d ∧ l.length ≤ 170 ∧ (∀ e ∈ l, Bh 118 e) ∧ ∀ b : Int, 0 < b → b.natAbs < 2 ^ 20100 → (∀ e ∈ l, e.w ∣ b) → R (.int b) S
theorem bottom_loop {l0 : List H3} {x0 : Sl} {S : SW} {B : Out} (h : ∀ (b : Int) (x2 : Sl), 0 < b → b.natAbs < 2 ^ 20100 → (∀ e ∈ l0, e.w ∣ b) → B.nx [x0, .dat (.int b), x2] S) :
    ∀ (l done : List H3) (f : Int) (k : Nat) (x2 : Sl), (∀ e ∈ l, Bh 118 e) → (∀ e ∈ l0, e ∈ done ∨ e ∈ l) → (∀ e ∈ done, e.w ∣ f) → 0 < f → f.natAbs < 2 ^ (118 * k + 1) → k + l.length ≤ 170 →
    forGo (gNm 2) (sSet 1 (fOp (oIC CMulA fun i j => .int (i * j)) (fOp (oIC CDivW fun i j => .int (i / j)) (fVarB 1) (fCall C_div (gDat (fVar 1) (gDat (fOp oIx (fVarB 2) (fC (.int 2))) gaNil)))) (fOp oIx (fVarB 2) (fC (.int 2))))) (l.map hd) [x0, .dat (.int f), x2] S B
  | [], done, f, k, x2, _, hall, hd', f0, fb, hk => h f x2 f0 (Nat.lt_of_lt_of_le fb (pow_le (by simp at hk; omega))) fun e he => (hall e he).elim (hd' e) (by simp)
  | e :: l, done, f, k, x2, hb, hall, hd', f0, fb, hk => by
    have be := hb e (by simp)
    obtain ⟨g1, g2, g3⟩ := gcd_lcm f0 be.1
    simp only [List.length_cons] at hk
    have gb : Nat.gcd f.natAbs e.w.natAbs < 2 ^ 8000 := Nat.lt_of_le_of_lt (Nat.gcd_le_right _ (by have := be.1; omega)) (Nat.lt_of_lt_of_le be.2.2.2 (pow_le (by omega)))
    have g0 : 0 < Nat.gcd f.natAbs e.w.natAbs := gpos (a := f) be.1
    have fd : (f / ((Nat.gcd f.natAbs e.w.natAbs : Nat) : Int)).natAbs < 2 ^ (118 * k + 1) := Nat.lt_of_le_of_lt (div_le _ _) fb
    have ih := bottom_loop h l (e :: done) (f / ((Nat.gcd f.natAbs e.w.natAbs : Nat) : Int) * e.w) (k + 1) (.dat (hd e)) (fun x hx => hb x (by simp [hx])) (fun x hx => by
        rcases hall x hx with q | q
        · exact .inl (by simp [q])
        · rcases List.mem_cons.mp q with rfl | q
          · exact .inl (by simp)
          · exact .inr q)
      (fun x hx => by
        rcases List.mem_cons.mp hx with rfl | hx
        · exact g3
        · exact Int.dvd_trans (hd' x hx) g2) g1 (Nat.lt_of_lt_of_le (bmul fd be.2.2.2) (pow_le (by omega))) (by omega)
    show sSet 1 _ [x0, .dat (.int f), .dat (hd e)] S _
    refine w_setE (w_op (w_op (w_varB rfl (w_callF2 (w_var rfl (w_ix2 (x := .int e.x) (y := .int e.y) (z := .int e.w) (r := []) rfl ⟨f, e.w, rfl, ?_⟩))))))
    refine (show CDivW f _ ∧ _ from ⟨cdiv g0 gb, ?_⟩)
    refine w_ix2 (x := .int e.x) (y := .int e.y) (z := .int e.w) (r := []) rfl ?_
    exact (show CMulA _ _ ∧ _ from ⟨cmul fd be.2.2.2 (by omega), ih⟩)
theorem c_bottom : ∀ as S R, as.length = 1 → C_bottom as S R → G_law_bottom C_div (ent N_law_bottom as) S { nx := fun _ S' => R .none S', rt := R } := by
  rintro as S R _ ⟨l, d, rfl, hr, hl, hb, h⟩
  unfold G_law_bottom
  refine w_set (show fC (.int 1) _ S _ from ?_)
  refine w_for ?_
  have e : rowD d = some (l.map hd) := by rcases hr with rfl | rfl <;> rfl
  unfold fiA
  refine w_var rfl ?_
  rw [e]
  refine bottom_loop (l0 := l) (fun b x2 b0 bb hd' => ?_) l [] 1 0 .un hb (fun e he => .inr he) (by simp) (by omega) (by decide) (by omega)
  exact h b b0 bb hd'
/-! ### sorted -/
def td (b : Int) (e : H3) : PyData := .tuple [.int (e.x * (b / e.w)), .int (e.y * (b / e.w)), hd e]
def inv : PyData → H3
  | .tuple [_, _, .tuple [.int x, .int y, .int w]] => ⟨x, y, w⟩
  | _ => ⟨0, 0, 0⟩
theorem inv_td (b : Int) (e : H3) : inv (td b e) = e := rfl
theorem scale {b u v x y : Int} (u0 : 0 < u) (v0 : 0 < v) (hb : 0 < b) (du : u ∣ b) (dv : v ∣ b) : (x * (b / u) < y * (b / v) ↔ x * v < y * u) ∧ (x * (b / u) = y * (b / v) ↔ x * v = y * u) := by
  obtain ⟨m, rfl⟩ := du
  obtain ⟨n, hn⟩ := dv
  have e1 : u * m / u = m := Int.mul_ediv_cancel_left _ (by omega)
  have e2 : u * m / v = n := by rw [hn, Int.mul_ediv_cancel_left _ (by omega)]
  rw [e1, e2]
  have m0 : 0 < m := Int.pos_of_mul_pos_right (a := u) (by rw [Int.mul_comm] at hb; exact hb |> fun h => by rw [Int.mul_comm]; exact h) u0
  have k1 : u * (x * m) = x * (v * n) := by rw [← hn]; grind
  have n0 : 0 < n := Int.pos_of_mul_pos_right (a := v) (by rw [← hn]; exact hb) v0
  have k2 : u * (y * n) = (y * u) * n := by grind
  have k3 : x * (v * n) = (x * v) * n := by grind
  constructor
  · rw [← Int.mul_lt_mul_left (a := u) u0, k1, k2, k3]
    exact Int.mul_lt_mul_right n0
  · constructor
    · intro h
      have : u * (x * m) = u * (y * n) := by rw [h]
      rw [k1, k2, k3] at this
      exact Int.eq_of_mul_eq_mul_right (by omega) this
    · intro h
      refine Int.eq_of_mul_eq_mul_left (a := u) (by omega) ?_
      rw [k1, k2, k3, h]
theorem td_lt {b : Int} {e f : H3} (re : Red e) (rf : Red f) (hb : 0 < b) (de : e.w ∣ b) (df : f.w ∣ b) : dataLt (td b e) (td b f) = hless e f := by
  have sx := scale (x := e.x) (y := f.x) re.1 rf.1 hb de df
  have sy := scale (x := e.y) (y := f.y) re.1 rf.1 hb de df
  unfold td hless
  rw [dataLt_tuple, dataLt_cons (by simp [alike]), dataLt_cons (by simp [alike]), dataLt_cons (by simp [alike, alikeAll, hd]), dataLt_int, dataLt_int]
  have e0 : PyProof.Rows.lexLt PyProof.Rows.itemOrd (keyToksAll []) (keyToksAll []) = false := PyProof.Rows.lex_irrefl _
  rw [e0]
  simp only [PyData.eqv, beq_iff_eq]
  by_cases c1 : e.x * f.w = f.x * e.w
  · rw [if_pos (sx.2.mpr c1), if_pos c1]
    by_cases c2 : e.y * f.w = f.y * e.w
    · have := red_eq re rf c1 c2
      subst this
      rw [if_pos rfl, if_pos ((eqv_hd e e).mpr rfl), decide_eq_false (by omega)]
    · rw [if_neg (fun z => c2 (sy.2.mp z))]
      exact decide_eq_decide.mpr sy.1
  · rw [if_neg (fun z => c1 (sx.2.mp z)), if_neg c1]
    exact decide_eq_decide.mpr sx.1
theorem sort_td {b : Int} {l : List H3} (hl : ∀ e ∈ l, Red e) (hb : 0 < b) (hd' : ∀ e ∈ l, e.w ∣ b) : ∃ l' : List H3, sortD (l.map (td b)) = l'.map (td b) ∧ (∀ x, x ∈ l' ↔ x ∈ l) ∧ l'.length = l.length ∧ l'.Pairwise fun e f => hless f e = false := by
  have p : (sortD (l.map (td b))).Perm (l.map (td b)) := List.mergeSort_perm _ _
  have eq : sortD (l.map (td b)) = ((sortD (l.map (td b))).map inv).map (td b) := by
    rw [List.map_map]
    conv => lhs; rw [← List.map_id (sortD (l.map (td b)))]
    refine List.map_congr_left fun d hdm => ?_
    obtain ⟨e, _, rfl⟩ := List.mem_map.mp (p.mem_iff.mp hdm)
    rfl
  have pm : ((sortD (l.map (td b))).map inv).Perm l := by
    have := p.map inv
    rw [List.map_map] at this
    have e2 : l.map (inv ∘ td b) = l := by
      conv => rhs; rw [← List.map_id l]
      rfl
    rw [e2] at this
    exact this
  refine ⟨(sortD (l.map (td b))).map inv, eq, fun x => pm.mem_iff, pm.length_eq, ?_⟩
  have T := sortLe_total (PyProof.Rows.listOrd PyProof.Rows.itemOrd) false fun d : PyData => keyToks d
  have pw : (sortD (l.map (td b))).Pairwise fun x y => dataLe false (fun d => d) x y = true := List.pairwise_mergeSort (fun x y z h1 h2 => T.trans x y z h1 h2) (fun x y => by
    have := T.total x y
    simp only [Bool.or_eq_true]
    exact this) _
  rw [eq, List.pairwise_map] at pw
  refine List.Pairwise.imp_of_mem (fun {e f} he hf h => ?_) pw
  have h' : (!dataLt (td b f) (td b e)) = true := h
  have me := pm.mem_iff.mp he
  have mf := pm.mem_iff.mp hf
  rw [td_lt (hl f mf) (hl e me) hb (hd' f mf) (hd' e me)] at h'
  simpa using h'
end K05

namespace K05
open PySem L2 DL PySem.W
local macro_rules | `(tactic| walk_at "dw") => `(tactic| try simp -implicitDefEqProofs only [sSeq, sIf, sRet, sRetN, sRetV, sSet, sNext, sPar, sPar3, sAsg, sDrop, sOwn, sApp, sIns, sPut, sNever, sFrz, sParO, fOr, fAnd, fNot, fIf, fOp, fUn, fVar, fVarB, fC, fCons, fNil, fTup, fLst, fSl, fP, fNoP, fCall, fCallK, gDat, gaNil, gWel, fChain, fWix, sWput, sWdiv, gNm, gTp, gsNil, gsCons, fiL, fiT, fiE, fiR1, fiR2, sFor, rowD, ent, asB_bool, asI_int, if_tt, if_ff,
  List.getElem?_cons_zero, List.getElem?_cons_succ, List.set_cons_zero, List.set_cons_succ, List.cons_append, List.nil_append, List.length_cons, List.length_nil, List.replicate, Nat.zero_add, Nat.reduceAdd, Nat.reduceSub,
  isi_tup, oReprG_bool, oGtD_int, oLeD_int, oGeD_int, oMixD_int, oMixD_tup, oMixD_bi, oMixD_ib, oMixD_bb, oStrD_int, oListD_tup, oListD_lst, oTupleD_lst, oTupleD_tup, oBackD_tup, oBackD_lst, oNegD_int, isi_strD, isi_intD, isi_boolD, isi_listD, isTup.eq_1, isTup.eq_2, isStr.eq_1, isStr.eq_2, isNum.eq_1, isNum.eq_2, Bool.not_true, Bool.not_false, oIx_tup, oIx_lst, oEq_int, oEq_str, oEq_bool, oEq_nil, oNe_int, oNe_str, oNe_bool, oLen_tup, oLen_lst, oI_int, oIC_int, oAdd_int, oAdd_tup, oAdd_lst, oLt_int, oInt_int, oInt_bool, oIn_tup, oIn_lst, oSl_tup, oSl_lst,
  atI_zero, atI_one, atI_two, atI_three, atI_four, cut_from1, true_and, Bool.false_eq_true, if_false, if_true])
theorem td_eqv (b : Int) (e f : H3) : PyData.eqv (td b e) (td b f) = true ↔ e = f := by
  constructor
  · intro h
    unfold td at h
    simp only [PyData.eqv, PyData.eqvAll, Bool.and_true, Bool.and_eq_true] at h
    exact (eqv_hd e f).mp h.2.2
  · rintro rfl
    have := (eqv_hd e e).mpr rfl
    unfold td
    simp only [PyData.eqv, PyData.eqvAll, Bool.and_true, Bool.and_eq_true, this, beq_self_eq_true, and_self]
/-- each once -/
def ded (b : Int) : Option H3 → List H3 → List H3
  | _, [] => []
  | none, x :: r => x :: ded b (some x) r
  | some p, x :: r => if PyData.eqv (td b p) (td b x) = true then ded b (some x) r else x :: ded b (some x) r
theorem ded_some {b : Int} : ∀ {l : List H3} {p : H3}, Red p → (∀ e ∈ l, Red e) → (∀ y ∈ l, hless y p = false) → l.Pairwise (fun e f => hless f e = false) →
    (∀ y, y ∈ ded b (some p) l ↔ y ∈ l ∧ y ≠ p) ∧ (ded b (some p) l).Pairwise fun e f => hless e f = true
  | [], p, _, _, _, _ => ⟨fun y => by simp [ded], List.Pairwise.nil⟩
  | x :: r, p, rp, hr, hp, pw => by
    obtain ⟨p1, p2⟩ := List.pairwise_cons.mp pw
    obtain ⟨ih1, ih2⟩ := ded_some (b := b) (l := r) (p := x) (hr x (by simp)) (fun e he => hr e (by simp [he])) p1 p2
    have rx := hr x (by simp)
    unfold ded
    by_cases e : PyData.eqv (td b p) (td b x) = true
    · have := (td_eqv b p x).mp e
      subst this
      rw [if_pos e]
      refine ⟨fun y => ?_, ih2⟩
      rw [ih1, List.mem_cons]
      exact ⟨fun h => ⟨.inr h.1, h.2⟩, fun h => ⟨h.1.elim (fun z => absurd z h.2) id, h.2⟩⟩
    · have ne : p ≠ x := fun z => e ((td_eqv b p x).mpr z)
      rw [if_neg e]
      refine ⟨fun y => ?_, List.pairwise_cons.mpr ⟨fun y hy => ?_, ih2⟩⟩
      · rw [List.mem_cons, ih1, List.mem_cons]
        constructor
        · rintro (rfl | ⟨h1, h2⟩)
          · exact ⟨.inl rfl, fun z => ne z.symm⟩
          · refine ⟨.inr h1, fun z => ?_⟩
            subst z
            -- y = p stands behind x: then x is not ahead of p, p not ahead of x
            exact ne (hl_tot rp rx (p1 y h1) (hp x (by simp)))
        · rintro ⟨rfl | h1, h2⟩
          · exact .inl rfl
          · by_cases z : y = x
            · exact .inl z
            · exact .inr ⟨h1, z⟩
      · obtain ⟨h1, h2⟩ := (ih1 y).mp hy
        cases k : hless x y
        · exact absurd (hl_tot rx (hr y (by simp [h1])) k (p1 y h1)).symm h2
        · rfl
theorem ded_none {b : Int} {l : List H3} (hr : ∀ e ∈ l, Red e) (pw : l.Pairwise fun e f => hless f e = false) : (∀ y, y ∈ ded b none l ↔ y ∈ l) ∧ (ded b none l).Pairwise fun e f => hless e f = true := by
  cases l with
  | nil => exact ⟨fun y => by simp [ded], List.Pairwise.nil⟩
  | cons x r =>
    obtain ⟨p1, p2⟩ := List.pairwise_cons.mp pw
    have rx := hr x (by simp)
    obtain ⟨ih1, ih2⟩ := ded_some (b := b) (l := r) (p := x) rx (fun e he => hr e (by simp [he])) p1 p2
    unfold ded
    refine ⟨fun y => ?_, List.pairwise_cons.mpr ⟨fun y hy => ?_, ih2⟩⟩
    · rw [List.mem_cons, ih1, List.mem_cons]
      constructor
      · rintro (h | ⟨h, _⟩)
        · exact .inl h
        · exact .inr h
      · rintro (h | h)
        · exact .inl h
        · by_cases z : y = x
          · exact .inl z
          · exact .inr ⟨h, z⟩
    · obtain ⟨h1, h2⟩ := (ih1 y).mp hy
      cases k : hless x y
      · exact absurd (hl_tot rx (hr y (by simp [h1])) k (p1 y h1)).symm h2
      · rfl
/-- one strictly ascending row of given members -/
theorem up_uniq : ∀ {L M : List H3}, L.Pairwise (fun e f => hless e f = true) → M.Pairwise (fun e f => hless e f = true) → (∀ x, x ∈ L ↔ x ∈ M) → L = M
  | [], [], _, _, _ => rfl
  | [], b :: M, _, _, h => by have := (h b).mpr (by simp); simp at this
  | a :: L, [], _, _, h => by have := (h a).mp (by simp); simp at this
  | a :: L, b :: M, hL, hM, h => by
    obtain ⟨a1, a2⟩ := List.pairwise_cons.mp hL
    obtain ⟨b1, b2⟩ := List.pairwise_cons.mp hM
    have e : a = b := by
      have m1 := (h a).mp (by simp)
      have m2 := (h b).mpr (by simp)
      rcases List.mem_cons.mp m1 with z | z
      · exact z
      · rcases List.mem_cons.mp m2 with y | y
        · exact y.symm
        · have u := hl_asy (a1 b y)
          have v := b1 a z
          rw [u] at v
          cases v
    subst e
    rw [up_uniq a2 b2 fun x => ?_]
    constructor
    · intro hx
      rcases List.mem_cons.mp ((h x).mp (by simp [hx])) with z | z
      · subst z
        have := a1 x hx
        rw [hl_irr] at this
        cases this
      · exact z
    · intro hx
      rcases List.mem_cons.mp ((h x).mpr (by simp [hx])) with z | z
      · subst z
        have := b1 x hx
        rw [hl_irr] at this
        cases this
      · exact z
theorem lay_allD : ∀ {ds : List PyData}, (∀ d ∈ ds, d.canLay0 = true) → PyData.canLayAll0 ds = true
  | [], _ => by simp [PyData.canLayAll0]
  | d :: ds, h => by
    simp only [PyData.canLayAll0, Bool.and_eq_true]
    exact ⟨h d (by simp), lay_allD fun x hx => h x (by simp [hx])⟩
theorem td_ok (b : Int) (l : List H3) : PyData.canLayAll0 (l.map (td b)) = true ∧ AllAlike (l.map (td b)) ∧ Sortable (l.map (td b)) ∧ ∀ d ∈ l.map (td b), d.depth ≤ 60 := by
  refine ⟨lay_allD fun d hd => ?_, AllAlike.of fun e f => by simp [td, hd, alike, alikeAll], Sortable.tuples fun e => ⟨_, _, rfl⟩, fun d hd => ?_⟩
  · obtain ⟨e, _, rfl⟩ := List.mem_map.mp hd
    rfl
  · obtain ⟨e, _, rfl⟩ := List.mem_map.mp hd
    show PyData.depth (td b e) ≤ 60
    simp [td, K05.hd, PyData.depth, PyData.depthAll]
def C_rising : Ct := fun as S R => ∃ (l : List H3) (d : PyData), as = [.dat d] ∧ RowOf l d ∧ l.length ≤ 170 ∧ (∀ e ∈ l, Red e ∧ Bh 118 e) ∧ ∀ L : List H3, (∀ x, x ∈ L ↔ x ∈ l) → L.Pairwise (fun e f => hless e f = true) → R (.list (L.map hd)) S
theorem w_or {f g : FE} {b c : Bool} {ρ : Rho} {S : SW} {Q : PyData → SW → Prop} (hf : ∀ Q : PyData → SW → Prop, Q (.bool b) S → f ρ S Q) (hg : b = false → ∀ Q : PyData → SW → Prop, Q (.bool c) S → g ρ S Q) (h : Q (.bool (b || c)) S) : fOr f g ρ S Q := by
  unfold fOr
  refine hf _ ?_
  simp only [asB_bool]
  cases b
  · rw [if_neg Bool.false_ne_true]; exact hg rfl _ (by simpa using h)
  · rw [if_pos rfl]; simpa using h
theorem eq0 {k : Nat} {ρ : Rho} {S : SW} {i : Nat} {Q : PyData → SW → Prop} (h1 : ρ[i]? = some (.dat (.int (k : Nat)))) (h : Q (.bool (decide (k = 0))) S) : fOp oEq (fVarB i) (fC (.int 0)) ρ S Q := by
  refine w_op (w_varB h1 ?_)
  unfold fC
  dsimp only
  rw [oEq_int, show decide ((k : Int) = 0) = decide (k = 0) from decide_eq_decide.mpr (by omega)]
  exact h
theorem ded_loop {b : Int} {l : List H3} {x0 x1 : Sl} {S : SW} {T : List PyData → SW → Prop} : ∀ (rest : List H3) (k : Nat) (prev : Option H3) (acc : List PyData), l.drop k = rest → (k = 0 ∧ prev = none ∨ ∃ j p, k = j + 1 ∧ prev = some p ∧ l[j]? = some p) → T (acc ++ (ded b prev rest).map hd) S →
    lcGo (gTp 2 (gsCons (gNm 3) (gsCons (gNm 4) gsNil))) (fOr (fOp oEq (fVarB 3) (fC (.int 0))) (fOp oNe (fOp oIx (fVarB 2) (fOp (oI fun i j => .int (i - j)) (fVarB 3) (fC (.int 1)))) (fVarB 4))) (fOp oIx (fVarB 4) (fC (.int 2)))
      [x0, x1, .dat (.list (l.map (td b))), .un, .un] (enumD k (rest.map (td b))) acc S T
  | [], k, prev, acc, e, hk, h => by
    show T acc S
    have e2 : ded b prev [] = [] := by cases prev <;> rfl
    rw [e2] at h
    simpa using h
  | x :: rest, k, prev, acc, e, hk, h => by
    have e2 : l.drop (k + 1) = rest := by rw [← List.drop_drop, e]; rfl
    have ex : l[k]? = some x := by
      have q : (l.drop k)[0]? = some x := by rw [e]; rfl
      rw [List.getElem?_drop, Nat.add_zero] at q
      exact q
    have ih := fun acc' => ded_loop (b := b) (l := l) (x0 := x0) (x1 := x1) (S := S) (T := T) rest (k + 1) (some x) acc' e2 (.inr ⟨k, x, rfl, rfl, ex⟩)
    have el : ∀ Q : PyData → SW → Prop, Q (hd x) S → fOp oIx (fVarB 4) (fC (.int 2)) [x0, x1, .dat (.list (l.map (td b))), .dat (.int (k : Nat)), .dat (td b x)] S Q := fun Q q =>
      w_ix2 (x := .int (x.x * (b / x.w))) (y := .int (x.y * (b / x.w))) (z := hd x) (r := []) rfl q
    refine (show (2 = 2 ∧ _) from ⟨rfl, ?_⟩)
    refine (show ([] = [] ∧ _) from ⟨rfl, ?_⟩)
    rcases hk with ⟨rfl, rfl⟩ | ⟨j, p, rfl, rfl, hp⟩
    · refine w_or (b := true) (c := false) (fun Q q => eq0 (k := 0) rfl q) (fun z => by cases z) ?_
      simp only [asB_bool, Bool.true_or, if_true]
      refine el _ (ih _ ?_)
      unfold ded at h
      simpa using h
    · refine w_or (b := false) (c := !PyData.eqv (td b p) (td b x)) (fun Q q => eq0 (k := j + 1) rfl (by simpa using q)) (fun _ Q q => ?_) ?_
      · refine w_op (w_op (w_varB rfl (w_op (w_varB rfl ?_))))
        unfold fC
        dsimp only
        rw [oI_int, show ((j + 1 : Nat) : Int) - 1 = (j : Nat) from by omega, oIx_lst, atI_at (show (l.map (td b))[j]? = some (td b p) from by rw [List.getElem?_map, hp]; rfl)]
        refine w_varB rfl ?_
        exact (show SeqAt.shaped (td b p) = true ∧ SeqAt.shaped (td b x) = true ∧ _ from ⟨rfl, rfl, q⟩)
      simp only [asB_bool, Bool.false_or]
      unfold ded at h
      by_cases c : PyData.eqv (td b p) (td b x) = true
      · rw [if_pos c] at h
        rw [c]
        simp only [Bool.not_true, Bool.false_eq_true, if_false]
        exact ih _ h
      · rw [if_neg c] at h
        have c' : PyData.eqv (td b p) (td b x) = false := by simpa using c
        rw [c']
        simp only [Bool.not_false, if_true]
        refine el _ (ih _ ?_)
        simpa using h
theorem c_rising : ∀ as S R, as.length = 1 → C_rising as S R → G_law_rising C_bottom (ent N_law_rising as) S { nx := fun _ S' => R .none S', rt := R } := by
  rintro as S R _ ⟨l, d, rfl, hr, hl, hb, h⟩
  unfold G_law_rising
  refine w_set (w_call1 rfl ⟨l, d, rfl, hr, hl, fun e he => (hb e he).2, fun b b0 bb hd' => ?_⟩)
  obtain ⟨l', e1, m, len, pw⟩ := sort_td (b := b) (fun e he => (hb e he).1) b0 hd'
  obtain ⟨t1, t2, t3, t4⟩ := td_ok b l
  have row : ∀ Q : PyData → SW → Prop, Q (.list (l.map (td b))) S → (fLc (fiA (fVar 0)) [4] (gNm 4) (fC (.bool true)) (fTup (fCons (fOp (oIC CMulA fun i j => .int (i * j)) (fOp oIx (fVarB 4) (fC (.int 0))) (fOp (oIC CDivW fun i j => .int (i / j)) (fVarB 1) (fOp oIx (fVarB 4) (fC (.int 2))))) (fCons (fOp (oIC CMulA fun i j => .int (i * j)) (fOp oIx (fVarB 4) (fC (.int 1))) (fOp (oIC CDivW fun i j => .int (i / j)) (fVarB 1) (fOp oIx (fVarB 4) (fC (.int 2))))) (fCons (fVar 4) fNil)))))
      [.dat d, .dat (.int b), .un, .un, .un] S Q := fun Q q => by
    refine fLc_map (ds := l.map hd) (g := fun d => td b (match d with | .tuple [.int x, .int y, .int w] => ⟨x, y, w⟩ | _ => ⟨0, 0, 0⟩)) (fun T t => ?_) (by rw [List.length_map]; omega) (fun v hv xs => by simp at hv; subst hv; simp) (fun z hz R r => ?_) ?_
    · unfold fiA
      refine w_var rfl ?_
      have : rowD d = some (l.map hd) := by rcases hr with rfl | rfl <;> rfl
      rw [this]
      exact t
    · obtain ⟨e, he, rfl⟩ := List.mem_map.mp hz
      have be := (hb e he).2
      obtain ⟨x, y, w⟩ := e
      simp only [rwipe, hd] at *
      walk_at "dw"
      have bd : (b / w).natAbs < 2 ^ 20100 := by
        have := Int.natAbs_ediv_le_natAbs b w
        omega
      have dv : CDivW b w := ⟨be.1, by have := log_lt be.2.2.2; simp only at this; omega⟩
      exact ⟨dv, cmul be.2.1 bd (by omega), dv, cmul be.2.2.1 bd (by omega), r⟩
    · rw [List.map_map]
      exact q
  refine w_set (w_un (row _ ?_))
  refine (show _ ∧ _ ∧ _ ∧ _ ∧ _ from ⟨t1, t2, t3, t4, ?_⟩)
  rw [e1]
  obtain ⟨d1, d2⟩ := ded_none (b := b) (l := l') (fun e he => (hb e ((m e).mp he)).1) pw
  refine w_ret ?_
  unfold fLc fiE
  refine w_var rfl ?_
  refine (show notOwn _ _ ∧ _ ∧ _ from ⟨fun v hv xs => ?_, small_leD _ (by rw [enumD_len, List.length_map, len]; omega), ?_⟩)
  · simp only [List.mem_cons, List.not_mem_nil, or_false] at hv
    rcases hv with rfl | rfl <;> simp [ent]
  · refine ded_loop (b := b) (l := l') l' 0 none [] rfl (.inl ⟨rfl, rfl⟩) ?_
    exact h _ (fun x => (d1 x).trans (m x)) d2
end K05

namespace K05
open PySem L2 DL
local macro_rules | `(tactic| walk_at "dw") => `(tactic| try simp -implicitDefEqProofs only [sSeq, sIf, sRet, sRetN, sRetV, sSet, sNext, sPar, sPar3, sAsg, sDrop, sOwn, sApp, sIns, sPut, sNever, sFrz, sParO, fOr, fAnd, fNot, fIf, fOp, fUn, fVar, fVarB, fC, fCons, fNil, fTup, fLst, fSl, fP, fNoP, fCall, fCallK, gDat, gaNil, gWel, fChain, fWix, sWput, sWdiv, gNm, gTp, gsNil, gsCons, fiL, fiT, fiE, fiR1, fiR2, sFor, rowD, ent, asB_bool, asI_int, if_tt, if_ff,
  List.getElem?_cons_zero, List.getElem?_cons_succ, List.set_cons_zero, List.set_cons_succ, List.cons_append, List.nil_append, List.length_cons, List.length_nil, List.replicate, Nat.zero_add, Nat.reduceAdd, Nat.reduceSub,
  isi_tup, oReprG_bool, oGtD_int, oLeD_int, oGeD_int, oMixD_int, oMixD_tup, oMixD_bi, oMixD_ib, oMixD_bb, oStrD_int, oListD_tup, oListD_lst, oTupleD_lst, oTupleD_tup, oBackD_tup, oBackD_lst, oNegD_int, isi_strD, isi_intD, isi_boolD, isi_listD, isTup.eq_1, isTup.eq_2, isStr.eq_1, isStr.eq_2, isNum.eq_1, isNum.eq_2, Bool.not_true, Bool.not_false, oIx_tup, oIx_lst, oEq_int, oEq_str, oEq_bool, oEq_nil, oNe_int, oNe_str, oNe_bool, oLen_tup, oLen_lst, oI_int, oIC_int, oAdd_int, oAdd_tup, oAdd_lst, oLt_int, oInt_int, oInt_bool, oIn_tup, oIn_lst, oSl_tup, oSl_lst,
  atI_zero, atI_one, atI_two, atI_three, atI_four, cut_from1, true_and, Bool.false_eq_true, if_false, if_true])
def pp (p q : H3) : PyData := .tuple [hd p, hd q]
def unH : PyData → H3
  | .tuple [.int x, .int y, .int w] => ⟨x, y, w⟩
  | _ => ⟨0, 0, 0⟩
theorem un_hd (e : H3) : unH (hd e) = e := rfl
theorem side_b {k : Nat} {p q r : H3} (hp : Bh k p) (hq : Bh k q) (hr : Bh k r) : (side p q r).natAbs < 2 ^ (k + (k + k + 1) + 1 + 1) := by
  unfold side
  exact badd (bsub (bmul hp.2.1 (bsub (bmul hq.2.2.1 hr.2.2.2) (bmul hr.2.2.1 hq.2.2.2))) (bmul hp.2.2.1 (bsub (bmul hq.2.1 hr.2.2.2) (bmul hr.2.1 hq.2.2.2)))) (Nat.lt_of_lt_of_le (bmul hp.2.2.2 (bsub (bmul hq.2.1 hr.2.2.1) (bmul hr.2.1 hq.2.2.1))) (pow_le (by omega)))
theorem placeS_bh {x y w : Int} {k : Nat} (hw : w ≠ 0) (h1 : x.natAbs < 2 ^ k) (h2 : y.natAbs < 2 ^ k) (h3 : w.natAbs < 2 ^ k) : Bh k (placeS x y w) := by
  unfold placeS
  split
  · exact place_bh (by omega) h1 h2 h3
  · exact place_bh (by omega) (by rw [Int.natAbs_neg]; exact h1) (by rw [Int.natAbs_neg]; exact h2) (by rw [Int.natAbs_neg]; exact h3)
theorem cross_bh {p q r s : H3} (hp : Bh 28 p) (hq : Bh 28 q) (hr : Bh 28 r) (hs : Bh 28 s) (o : side r s p * q.w - side r s q * p.w ≠ 0) : Bh 118 (crossing p q (side r s p) (side r s q)) := by
  have a := side_b hr hs hp
  have b := side_b hr hs hq
  exact placeS_bh o (Nat.lt_of_lt_of_le (bsub (bmul a hq.2.1) (bmul b hp.2.1)) (pow_le (by omega))) (Nat.lt_of_lt_of_le (bsub (bmul a hq.2.2.1) (bmul b hp.2.2.1)) (pow_le (by omega))) (Nat.lt_of_lt_of_le (bsub (bmul a hq.2.2.2) (bmul b hp.2.2.2)) (pow_le (by omega)))
structure Seg (p q : H3) : Prop where
  rp : Red p
  rq : Red q
  ne : p ≠ q
  bp : Bh 28 p
  bq : Bh 28 q
def C_meet : Ct := fun as S R => ∃ p q r s : H3, as = [.dat (pp p q), .dat (pp r s)] ∧ Seg p q ∧ Seg r s ∧ R (.list ((meetL p q r s).map hd)) S
section
variable {ρ : Rho} {S : SW} {Q : PyData → SW → Prop} {i j k : Nat}
theorem side_at {p q r : H3} (h1 : ρ[i]? = some (.dat (hd p))) (h2 : ρ[j]? = some (.dat (hd q))) (h3 : ρ[k]? = some (.dat (hd r))) (hp : Bh 28 p) (hq : Bh 28 q) (hr : Bh 28 r) (h : Q (.int (side p q r)) S) : fCall C_side (gDat (fVar i) (gDat (fVar j) (gDat (fVar k) gaNil))) ρ S Q :=
  w_call3 h1 h2 h3 ⟨p, q, r, rfl, hp.up (by omega), hq.up (by omega), hr.up (by omega), h⟩
theorem w_tup4 {a b c d : FE} (h : a ρ S fun x S1 => b ρ S1 fun y S2 => c ρ S2 fun z S3 => d ρ S3 fun u S4 => Q (.tuple [x, y, z, u]) S4) : fTup (fCons a (fCons b (fCons c (fCons d fNil)))) ρ S Q := h
theorem isz {x : Int} (h1 : ρ[i]? = some (.dat (.int x))) (h : Q (.bool (decide (x = 0))) S) : fOp oEq (fVarB i) (fC (.int 0)) ρ S Q := by
  refine w_op (w_varB h1 ?_)
  unfold fC
  dsimp only
  rw [oEq_int]
  exact h
theorem ispos {x y : Int} (h1 : ρ[i]? = some (.dat (.int x))) (h2 : ρ[j]? = some (.dat (.int y))) (c : CMulA x y) (h : Q (.bool (decide (0 < x * y))) S) : fOp oGt (fOp (oIC CMulA fun i j => .int (i * j)) (fVarB i) (fVarB j)) (fC (.int 0)) ρ S Q := by
  refine w_op (w_op (w_varB h1 (w_varB h2 ?_)))
  refine (show CMulA x y ∧ _ from ⟨c, ?_⟩)
  unfold fC
  dsimp only
  exact h
/-- the ends of a pair that lie on another one -/
theorem ends_at {a b c : Nat} {p q r s : H3} (h1 : ρ[a]? = some (.dat (pp p q))) (h2 : ρ[b]? = some (.dat (hd r))) (h3 : ρ[c]? = some (.dat (hd s))) (hp : Bh 28 p) (hq : Bh 28 q) (hr : Bh 28 r) (hs : Bh 28 s) (hb : b ≠ 11) (hc : c ≠ 11) (hlen : 11 < ρ.length) (own : ∀ xs, ρ[11]? ≠ some (Sl.own xs))
    (h : Q (.list (([p, q].filter fun e => lies r s e).map hd)) S) : fLc (fiT (fVarB a)) [11] (gNm 11) (fCall C_lies (gDat (fVar b) (gDat (fVar c) (gDat (fVar 11) gaNil)))) (fVar 11) ρ S Q := by
  have at11 : ∀ d : PyData, ((rwipe ρ [11]).set 11 (.dat d))[11]? = some (.dat d) := fun d => by
    rw [List.getElem?_set_self (by simp only [rwipe, List.length_set]; exact hlen)]
  have keep : ∀ (n : Nat) (d : PyData) (x : Sl), n ≠ 11 → ρ[n]? = some x → ((rwipe ρ [11]).set 11 (.dat d))[n]? = some x := fun n d x hn e => by
    simp only [rwipe]
    rw [List.getElem?_set_ne (fun z => hn z.symm), List.getElem?_set_ne (fun z => hn z.symm)]
    exact e
  refine fLc_keep (ds := [p, q].map hd) (f := fun d => lies r s (unH d)) (g := fun d => d) (fun T t => ?_) (by simp) (fun v hv xs => by simp at hv; subst hv; exact own xs) (fun d hdm R k => ?_) (fun d hdm _ R k => w_var (at11 d) k) ?_
  · unfold fiT
    exact w_varB h1 t
  · obtain ⟨e, he, rfl⟩ := List.mem_map.mp hdm
    have be : Bh 28 e := by
      simp only [List.mem_cons, List.not_mem_nil, or_false] at he
      rcases he with rfl | rfl <;> assumption
    exact w_call3 (keep b _ _ hb h2) (keep c _ _ hc h3) (at11 _) ⟨r, s, e, rfl, hr.up (by omega), hs.up (by omega), be.up (by omega), k⟩
  · rw [List.map_id', List.filter_map]
    exact h
end
theorem ends_len (p q r s : H3) : (endsOf p q r s).length ≤ 4 := by
  unfold endsOf
  have a := List.length_filter_le (fun e => lies r s e) [p, q]
  have b := List.length_filter_le (fun e => lies p q e) [r, s]
  simp only [List.length_append, List.length_cons, List.length_nil] at *
  omega
theorem c_meet : ∀ as S R, as.length = 2 → C_meet as S R → G_law_meet C_side C_lies C_rising C_placeS (ent N_law_meet as) S { nx := fun _ S' => R .none S', rt := R } := by
  rintro as S R _ ⟨p, q, r, s, rfl, ⟨rp, rq, pq, bp, bq⟩, ⟨rr, rs, rsn, br, bs⟩, h⟩
  unfold G_law_meet
  refine w_asg (w_tup2 (w_var rfl (w_var rfl ?_)))
  refine (show (2 = 2 ∧ 2 = 2 ∧ [] = [] ∧ 2 = 2 ∧ [] = [] ∧ [] = [] ∧ _) from ⟨rfl, rfl, rfl, rfl, rfl, rfl, ?_⟩)
  refine w_asg (w_tup4 (side_at rfl rfl rfl br bs bp (side_at rfl rfl rfl br bs bq (side_at rfl rfl rfl bp bq br (side_at rfl rfl rfl bp bq bs ?_)))))
  refine (show (4 = 4 ∧ [] = [] ∧ _) from ⟨rfl, rfl, ?_⟩)
  have sA := side_b br bs bp
  have sB := side_b br bs bq
  have sC := side_b bp bq br
  have sD := side_b bp bq bs
  refine w_ifS (b := decide (side p q r = 0) && decide (side p q s = 0)) (fun Q k => w_and (fun Q k => isz rfl k) (fun _ Q k => isz rfl k) k) (fun e => ?_) (fun e => ?_)
  · rw [Bool.and_eq_true, decide_eq_true_eq, decide_eq_true_eq] at e
    have m : meetL p q r s = cmn p q r s := if_pos e
    rw [m] at h
    refine w_set (ends_at (a := 0) (b := 4) (c := 5) rfl rfl rfl bp bq br bs (by decide) (by decide) (by simp [ent]) (fun xs => by simp [ent]) ?_)
    refine w_ret (w_callF (w_op (w_varB rfl (ends_at (a := 1) (b := 2) (c := 3) rfl rfl rfl br bs bp bq (by decide) (by decide) (by simp [ent]) (fun xs => by simp [ent]) ?_))))
    have el := ends_len p q r s
    unfold endsOf at el
    rw [List.length_append] at el
    refine (show _ ∧ _ from ⟨small_leD _ (by rw [List.length_map, List.length_map]; omega), ?_⟩)
    rw [← List.map_append]
    have mem : ∀ x ∈ endsOf p q r s, x ∈ [p, q, r, s] := fun x hx => by
      unfold endsOf at hx
      simp only [List.mem_append, List.mem_filter, List.mem_cons, List.not_mem_nil, or_false] at hx ⊢
      rcases hx with ⟨h | h, _⟩ | ⟨h | h, _⟩ <;> simp [h]
    refine ⟨endsOf p q r s, _, rfl, .inl rfl, Nat.le_trans (ends_len p q r s) (by decide), fun x hx => ?_, fun L hL pw => ?_⟩
    · have := mem x hx
      simp only [List.mem_cons, List.not_mem_nil, or_false] at this
      rcases this with rfl | rfl | rfl | rfl
      · exact ⟨rp, bp.up (by omega)⟩
      · exact ⟨rq, bq.up (by omega)⟩
      · exact ⟨rr, br.up (by omega)⟩
      · exact ⟨rs, bs.up (by omega)⟩
    · rw [up_uniq pw (cmn_up rp rq rr rs pq rsn e.1 e.2) fun x => (hL x).trans (ends_cmn rp rq rr rs pq rsn e.1 e.2 x)]
      exact h
  · have ne : ¬ (side p q r = 0 ∧ side p q s = 0) := fun z => by
      rw [decide_eq_true z.1, decide_eq_true z.2] at e
      cases e
    (try unfold sNext)
    dsimp only
    refine w_ifS (b := decide (0 < side r s p * side r s q) || decide (0 < side p q r * side p q s)) (fun Q k => w_or (fun Q k => ispos rfl rfl (cmul sA sB (by omega)) k) (fun _ Q k => ispos rfl rfl (cmul sC sD (by omega)) k) k) (fun e2 => ?_) (fun e2 => ?_)
    · rw [Bool.or_eq_true, decide_eq_true_eq, decide_eq_true_eq] at e2
      have m : meetL p q r s = [] := by unfold meetL; rw [if_neg ne, if_pos e2]
      rw [m] at h
      exact h
    · have n2 : ¬ (0 < side r s p * side r s q ∨ 0 < side p q r * side p q s) := fun z => by
        rw [Bool.or_eq_false_iff, decide_eq_false_iff_not, decide_eq_false_iff_not] at e2
        exact z.elim e2.1 e2.2
      have m : meetL p q r s = [crossing p q (side r s p) (side r s q)] := by unfold meetL; rw [if_neg ne, if_neg n2]
      rw [m] at h
      have o := meet_o rp rq rr rs pq rsn ne n2
      (try unfold sNext)
      dsimp only
      have z : (side r s p * q.w - side r s q * p.w).natAbs < 2 ^ 8000 := Nat.lt_of_lt_of_le (bsub (bmul sA bq.2.2.2) (bmul sB bp.2.2.2)) (pow_le (by omega))
      refine w_ret (w_lst1 ?_)
      have fin : C_placeS [.dat (.int (side r s p * q.x - side r s q * p.x)), .dat (.int (side r s p * q.y - side r s q * p.y)), .dat (.int (side r s p * q.w - side r s q * p.w))] S (fun x S1 => R (.list [x]) S1) := ⟨_, _, _, rfl, o, z, h⟩
      revert fin
      have c1 : CMulA (side r s p) q.x := cmul sA bq.2.1 (by omega)
      have c2 : CMulA (side r s q) p.x := cmul sB bp.2.1 (by omega)
      have c3 : CMulA (side r s p) q.y := cmul sA bq.2.2.1 (by omega)
      have c4 : CMulA (side r s q) p.y := cmul sB bp.2.2.1 (by omega)
      have c5 : CMulA (side r s p) q.w := cmul sA bq.2.2.2 (by omega)
      have c6 : CMulA (side r s q) p.w := cmul sB bp.2.2.2 (by omega)
      clear h z sA sB sC sD
      generalize side r s p = A at *
      generalize side r s q = B at *
      intro fin
      simp only [hd]
      walk_at "dw"
      exact ⟨c1, c2, c3, c4, c5, c6, fin⟩
end K05

namespace K05
open PySem L2 DL
local macro_rules | `(tactic| walk_at "dw") => `(tactic| try simp -implicitDefEqProofs only [sSeq, sIf, sRet, sRetN, sRetV, sSet, sNext, sPar, sPar3, sAsg, sDrop, sOwn, sApp, sIns, sPut, sNever, sFrz, sParO, fOr, fAnd, fNot, fIf, fOp, fUn, fVar, fVarB, fC, fCons, fNil, fTup, fLst, fSl, fP, fNoP, fCall, fCallK, gDat, gaNil, gWel, fChain, fWix, sWput, sWdiv, gNm, gTp, gsNil, gsCons, fiL, fiT, fiE, fiR1, fiR2, sFor, rowD, ent, asB_bool, asI_int, if_tt, if_ff,
  List.getElem?_cons_zero, List.getElem?_cons_succ, List.set_cons_zero, List.set_cons_succ, List.cons_append, List.nil_append, List.length_cons, List.length_nil, List.replicate, Nat.zero_add, Nat.reduceAdd, Nat.reduceSub,
  isi_tup, oReprG_bool, oGtD_int, oLeD_int, oGeD_int, oMixD_int, oMixD_tup, oMixD_bi, oMixD_ib, oMixD_bb, oStrD_int, oListD_tup, oListD_lst, oTupleD_lst, oTupleD_tup, oBackD_tup, oBackD_lst, oNegD_int, isi_strD, isi_intD, isi_boolD, isi_listD, isTup.eq_1, isTup.eq_2, isStr.eq_1, isStr.eq_2, isNum.eq_1, isNum.eq_2, Bool.not_true, Bool.not_false, oIx_tup, oIx_lst, oEq_int, oEq_str, oEq_bool, oEq_nil, oNe_int, oNe_str, oNe_bool, oLen_tup, oLen_lst, oI_int, oIC_int, oAdd_int, oAdd_tup, oAdd_lst, oLt_int, oInt_int, oInt_bool, oIn_tup, oIn_lst, oSl_tup, oSl_lst,
  atI_zero, atI_one, atI_two, atI_three, atI_four, cut_from1, true_and, Bool.false_eq_true, if_false, if_true])
/-! ### grid points -/
theorem fr_inj {a c b : Int} (hb : 0 < b) (h : fr a b = fr c b) : a = c := by
  have h1 := fr_sm (a := a) hb
  have h2 := fr_sm (a := c) hb
  rw [h] at h1
  have e := h1.2.2.symm.trans h2.2.2
  exact Int.eq_of_mul_eq_mul_right (by have := h1.1; omega) e
theorem gpt_inj {f : Fm} {i j i' j' : Int} (hf : FmOk f) (h : gpt f i j 1 = gpt f i' j' 1) : i = i' ∧ j = j' := by
  obtain ⟨hx, hy, hs, hu, hw⟩ := hf
  have u : 0 < f.u * 1 := by omega
  have e1 := fr_inj u (congrArg Prod.fst h)
  have e2 := fr_inj u (congrArg Prod.snd h)
  exact ⟨Int.eq_of_mul_eq_mul_left (a := f.s) (by omega) (by omega), Int.eq_of_mul_eq_mul_left (a := f.s) (by omega) (by omega)⟩
theorem fr_place {X Y U : Int} (hU : 0 < U) : Is (fr X U, fr Y U) (place X Y U) := by
  obtain ⟨p0, p1, p2⟩ := place_sm (x := X) (y := Y) hU
  have one : ∀ {A a c : Int}, Sm (fr A U) A U → a * U = A * (place X Y U).w → (fr A U).1 * (place X Y U).w = a * (fr A U).2 := fun {A a c} h e => by
    obtain ⟨h1, _, h3⟩ := h
    refine cancel hU ?_
    have t1 : U * ((fr A U).1 * (place X Y U).w) = ((fr A U).1 * U) * (place X Y U).w := by grind
    have t2 : U * (a * (fr A U).2) = (a * U) * (fr A U).2 := by grind
    rw [t1, t2, h3, e]
    grind
  exact ⟨⟨(fr_sm hU).1, p0, one (c := 0) (fr_sm hU) p1⟩, ⟨(fr_sm hU).1, p0, one (c := 0) (fr_sm hU) p2⟩⟩
/-- a point of the grid: itself and its place are small -/
structure GP (a : P2) : Prop where
  rp : Rp a
  bp : Bp 28 a
  bh : Bh 28 (own a)
theorem gpt_gp {f : Fm} {i j : Int} (hf : FmOk f) (hi : -1000 < i ∧ i < 1000) (hj : -1000 < j ∧ j < 1000) : GP (gpt f i j 1) := by
  obtain ⟨r, b⟩ := gpt_ok hf hi hj (show (0 : Int) < 1 ∧ (1 : Int) < 8 by decide)
  obtain ⟨hx, hy, hs, hu, hw⟩ := hf
  refine ⟨r, b, ?_⟩
  have u := gpt_w (n := 1) (by decide) hu
  have e : own (gpt f i j 1) = place (f.x * 1 + f.s * i) (f.y * 1 + f.s * j) (f.u * 1) := is_uniq (own_is b) (fr_place u.1) (own_red b) (place_red u.1)
  rw [e]
  exact place_bh u.1 (gpt_b hx (by decide) hs hi) (gpt_b hy (by decide) hs hj) (Nat.lt_of_lt_of_le u.2 (pow_le (by omega)))
theorem GP.seg {a b : P2} (ha : GP a) (hb : GP b) (ne : a ≠ b) : Seg (own a) (own b) :=
  ⟨own_red ha.bp, own_red hb.bp, fun e => ne (by rw [← told_own ha.rp ha.bp, ← told_own hb.rp hb.bp, e]), ha.bh, hb.bh⟩
/-! ### middles -/
def Fine (x : H3) : Prop := Red x ∧ Bh 118 x
def C_middle : Ct := fun as S R => ∃ p q : H3, as = [.dat (hd p), .dat (hd q)] ∧ Bh 28 p ∧ Bh 28 q ∧ ∀ x, Fine x → R (hd x) S
theorem c_middle : ∀ as S R, as.length = 2 → C_middle as S R → G_law_middle C_placeS (ent N_law_middle as) S { nx := fun _ S' => R .none S', rt := R } := by
  rintro as S R _ ⟨⟨px, py, pw⟩, ⟨qx, qy, qw⟩, rfl, ⟨p0, p1, p2, p3⟩, ⟨q0, q1, q2, q3⟩, h⟩
  unfold G_law_middle
  simp only [hd] at *
  walk_at "dw"
  have w2 : (2 * pw).natAbs < 2 ^ 30 := Nat.lt_of_lt_of_le (bmul (j := 2) (k := 28) (by decide) p3) (pow_le (by omega))
  have w3 : (2 * pw * qw).natAbs < 2 ^ 58 := bmul w2 q3
  have w0 : 0 < 2 * pw * qw := Int.mul_pos (by omega) q0
  have e : placeS (px * qw + qx * pw) (py * qw + qy * pw) (2 * pw * qw) = place (px * qw + qx * pw) (py * qw + qy * pw) (2 * pw * qw) := if_pos w0
  have b := place_bh (k := 58) w0 (Nat.lt_of_lt_of_le (badd (bmul p1 q3) (bmul q1 p3)) (pow_le (by omega))) (Nat.lt_of_lt_of_le (badd (bmul p2 q3) (bmul q2 p3)) (pow_le (by omega))) w3
  refine ⟨cmul p1 q3 (by omega), cmul q1 p3 (by omega), cmul p2 q3 (by omega), cmul q2 p3 (by omega), cmul (j := 2) (k := 28) (by decide) p3 (by omega), cmul w2 q3 (by omega), _, _, _, rfl, by omega, Nat.lt_of_lt_of_le w3 (pow_le (by omega)), ?_⟩
  rw [e]
  exact h _ ⟨place_red w0, b.up (by omega)⟩
/-! ### places of segments -/
abbrev Sg2 := P2 × P2
/-- segments of the grid -/
structure GL (z : Sg2) : Prop where
  a : GP z.1
  b : GP z.2
  ne : z.1 ≠ z.2
def sgp (z : Sg2) : PyData := sg2 z.1 z.2
def ppo (z : Sg2) : PyData := pp (own z.1) (own z.2)
def unP : PyData → P2
  | .tuple [.tuple [.int a, .int b], .tuple [.int c, .int d]] => ((a, b), (c, d))
  | _ => ((0, 1), (0, 1))
def unS : PyData → Sg2
  | .tuple [a, b] => (unP a, unP b)
  | _ => (((0, 1), (0, 1)), ((0, 1), (0, 1)))
theorem un_sgp (z : Sg2) : unS (sgp z) = z := rfl
theorem GL.seg {z : Sg2} (h : GL z) : Seg (own z.1) (own z.2) := h.a.seg h.b h.ne
def C_places : Ct := fun as S R => ∃ L : List Sg2, as = [.dat (.tuple (L.map sgp))] ∧ L.length ≤ 12 ∧ (∀ z ∈ L, GL z) ∧ R (.list (L.map ppo)) S
theorem c_places : ∀ as S R, as.length = 1 → C_places as S R → G_law_places C_own (ent N_law_places as) S { nx := fun _ S' => R .none S', rt := R } := by
  rintro as S R _ ⟨L, rfl, hl, hL, h⟩
  unfold G_law_places
  refine w_ret (fLc_map (ds := L.map sgp) (g := fun d => ppo (unS d)) (fun T t => ?_) (by rw [List.length_map]; omega) (fun v hv xs => by simp at hv; subst hv; simp [ent]) (fun d hd R k => ?_) ?_)
  · unfold fiA
    exact w_var rfl t
  · obtain ⟨z, hz, rfl⟩ := List.mem_map.mp hd
    have g := hL z hz
    exact w_tup2 (w_callF (w_ix0 rfl ⟨z.1, rfl, g.a.bp.up (by omega), w_callF (w_ix1 rfl ⟨z.2, rfl, g.b.bp.up (by omega), k⟩)⟩))
  · rw [List.map_map]
    exact h
/-! ### rows -/
theorem atI_last1 {α : Type} (x : α) : atI [x] (-1 : Int) = some x := rfl
theorem atI_last2 {α : Type} (x y : α) : atI [x, y] (-1 : Int) = some y := rfl
theorem atI_last3 {α : Type} (x y z : α) : atI [x, y, z] (-1 : Int) = some z := rfl
theorem atI_last4 {α : Type} (x y z u : α) : atI [x, y, z, u] (-1 : Int) = some u := rfl
theorem w_ix4 {i : Nat} {x y z u v : PyData} {ρ : Rho} {S : SW} {Q : PyData → SW → Prop} (hρ : ρ[i]? = some (.dat (.tuple [x, y, z, u, v]))) (h : Q v S) : fOp oIx (fVarB i) (fC (.int 4)) ρ S Q := by
  unfold fOp fVarB fC
  rw [hρ]
  show oIx (.tuple [x, y, z, u, v]) (.int 4) _
  rw [oIx_tup, atI_four]
  exact h
theorem w_c {d : PyData} {ρ : Rho} {S : SW} {Q : PyData → SW → Prop} (h : Q d S) : fC d ρ S Q := h
theorem w_go {i : Nat} {gb : FS} {d : PyData} {ds : List PyData} {ρ : Rho} {S : SW} {B : Out} (h : gb (ρ.set i (.dat d)) S { nx := fun ρ2 S2 => forGo (gNm i) gb ds ρ2 S2 B, rt := B.rt, rn := B.rn, bk := B.nx, ct := fun ρ2 S2 => forGo (gNm i) gb ds ρ2 S2 B }) : forGo (gNm i) gb (d :: ds) ρ S B := h
theorem w_goN {fg : FG} {gb : FS} {ρ : Rho} {S : SW} {B : Out} (h : B.nx ρ S) : forGo fg gb [] ρ S B := h
theorem mul_at {i j : Nat} {x y : Int} {ρ : Rho} {S : SW} {Q : PyData → SW → Prop} (h1 : ρ[i]? = some (.dat (.int x))) (h2 : ρ[j]? = some (.dat (.int y))) (c : CMulA x y) (h : Q (.int (x * y)) S) : fOp (oIC CMulA fun i j => .int (i * j)) (fVarB i) (fVarB j) ρ S Q := by
  refine w_op (w_varB h1 (w_varB h2 ?_))
  exact ⟨c, h⟩
/-- what is in no list -/
def oth (X : List Int) (d : PyData) : Bool := !((X.map PyData.int).any fun z => PyData.eqv z d)
theorem oth_iff {X : List Int} {k : Int} : oth X (.int k) = true ↔ k ∉ X := by
  unfold oth
  rw [Bool.not_eq_true', List.any_eq_false]
  constructor
  · intro h hk
    have := h (.int k) (List.mem_map_of_mem hk)
    simp [PyData.eqv] at this
  · intro h z hz
    obtain ⟨x, hx, rfl⟩ := List.mem_map.mp hz
    simp only [PyData.eqv, decide_eq_true_eq, beq_iff_eq]
    exact fun e => h (e ▸ hx)
theorem oth_list {n : Nat} {X : List Int} (hX : X.length ≤ 2) (h2 : 3 ≤ n) : ∃ x l, (((List.range n).map fun k => PyData.int (k : Nat)).filter (oth X)) = x :: l := by
  have hk : ∃ k < n, ((k : Nat) : Int) ∉ X := by
    match X, hX with
    | [], _ => exact ⟨0, by omega, by simp⟩
    | [a], _ =>
      by_cases e : a = 0
      · exact ⟨1, by omega, by simp; omega⟩
      · exact ⟨0, by omega, by simp; omega⟩
    | [a, b], _ =>
      by_cases e : a = 0 ∨ b = 0
      · by_cases e1 : a = 1 ∨ b = 1
        · exact ⟨2, by omega, by simp; omega⟩
        · exact ⟨1, by omega, by simp; omega⟩
      · exact ⟨0, by omega, by simp; omega⟩
  obtain ⟨k, kn, ke⟩ := hk
  have m : PyData.int (k : Nat) ∈ (((List.range n).map fun k => PyData.int (k : Nat)).filter (oth X)) :=
    List.mem_filter.mpr ⟨List.mem_map.mpr ⟨k, List.mem_range.mpr kn, rfl⟩, oth_iff.mpr ke⟩
  cases e : (((List.range n).map fun k => PyData.int (k : Nat)).filter (oth X)) with
  | nil => rw [e] at m; cases m
  | cons x l => exact ⟨x, l, rfl⟩
/-- one more index of the grid, of none that is shut -/
theorem pick_at {w : Int} {X : List Int} {ρ : Rho} {S : SW} {Q : PyData → SW → Prop} (h0 : ρ[0]? = some .wel) (h4 : ρ[4]? = some (.dat (.int w))) (h7 : ρ[7]? = some (.dat (.list (X.map .int)))) (h8 : 8 < ρ.length) (own : ∀ xs, ρ[8]? ≠ some (Sl.own xs)) (hw : 3 ≤ w ∧ w ≤ 5) (hX : X.length ≤ 2) (ok : WOk S)
    (h : ∀ k S', 0 ≤ k → k < w * w → k ∉ X → WOk S' → Q (.int k) S') : fCall C_one (gWel 0 (gDat (fLc (fiR1 (fOp (oIC CMulA fun i j => .int (i * j)) (fVarB 4) (fVarB 4))) [8] (gNm 8) (fOp (oIn true) (fVarB 8) (fVarB 7)) (fVar 8)) gaNil)) ρ S Q := by
  have c : CMulA w w := cmul (j := 3) (k := 3) (by omega) (by omega) (by omega)
  have ww : 9 ≤ w * w ∧ w * w ≤ 25 := by
    have : w = 3 ∨ w = 4 ∨ w = 5 := by omega
    rcases this with e | e | e <;> rw [e] <;> decide
  have at8 : ∀ d : PyData, ((rwipe ρ [8]).set 8 (.dat d))[8]? = some (.dat d) := fun d => by
    rw [List.getElem?_set_self (by simp only [rwipe, List.length_set]; exact h8)]
  have at7 : ∀ d : PyData, ((rwipe ρ [8]).set 8 (.dat d))[7]? = some (.dat (.list (X.map .int))) := fun d => by
    simp only [rwipe]
    rw [List.getElem?_set_ne (by decide), List.getElem?_set_ne (by decide)]
    exact h7
  refine w_welF h0 (fLc_keep (f := oth X) (g := fun d => d) (ds := (List.range (w * w).toNat).map fun k => .int (k : Nat)) (fun T t => ?_) (by simp; omega) (fun v hv xs => by simp at hv; subst hv; exact own xs) (fun d hd R k => ?_) (fun d hd _ R k => w_var (at8 d) k) ?_)
  · unfold fiR1
    exact mul_at h4 h4 c ⟨by omega, by omega, t⟩
  · obtain ⟨n, _, rfl⟩ := List.mem_map.mp hd
    refine w_op (w_varB (at8 _) (w_varB (at7 _) ?_))
    rw [oIn_lst]
    refine ⟨rfl, ?_, ?_⟩
    · rw [List.all_eq_true]
      intro d hd
      obtain ⟨x, _, rfl⟩ := List.mem_map.mp hd
      rfl
    · simp only [if_true]
      exact k
  · rw [List.map_id']
    obtain ⟨x, l, e⟩ := oth_list (n := (w * w).toNat) hX (by omega)
    have le := List.length_filter_le (oth X) ((List.range (w * w).toNat).map fun k => PyData.int (k : Nat))
    rw [e] at le
    simp only [List.length_cons, List.length_map, List.length_range] at le
    refine one_ofL e (by omega) ok fun d S2 hd w2 => ?_
    obtain ⟨hd1, hd2⟩ := List.mem_filter.mp hd
    obtain ⟨k, hk, rfl⟩ := List.mem_map.mp hd1
    have hk := List.mem_range.mp hk
    exact h k S2 (by omega) (by omega) (oth_iff.mp hd2) w2
theorem dm_inj {a b w : Int} (h1 : a / w = b / w) (h2 : a % w = b % w) : a = b := by
  have e1 := Int.mul_ediv_add_emod a w
  have e2 := Int.mul_ediv_add_emod b w
  rw [h1, h2] at e1
  omega
def cell (f : Fm) (k : Int) : P2 := gpt f (k / f.w) (k % f.w) 1
def cellD (f : Fm) : PyData → PyData
  | .int k => pd (cell f k)
  | d => d
theorem cell_dm {f : Fm} (hf : FmOk f) {x : Int} (x0 : 0 ≤ x) (x1 : x < f.w * f.w) : (-1000 < x / f.w ∧ x / f.w < 1000) ∧ (-1000 < x % f.w ∧ x % f.w < 1000) := by
  have hw := hf.2.2.2.2
  have a1 : 0 ≤ x / f.w := Int.ediv_nonneg x0 (by omega)
  have a2 : x / f.w < f.w := Int.ediv_lt_of_lt_mul (by omega) x1
  have a3 := Int.emod_nonneg x (show f.w ≠ 0 by omega)
  have a4 := Int.emod_lt_of_pos x (show 0 < f.w by omega)
  omega
theorem cell_gp {f : Fm} (hf : FmOk f) {x : Int} (x0 : 0 ≤ x) (x1 : x < f.w * f.w) : GP (cell f x) := gpt_gp hf (cell_dm hf x0 x1).1 (cell_dm hf x0 x1).2
theorem cell_ne {f : Fm} (hf : FmOk f) {x y : Int} (ne : x ≠ y) : cell f x ≠ cell f y := fun e => ne (dm_inj (gpt_inj hf e).1 (gpt_inj hf e).2)
/-- the row of the indexes -/
theorem cells_at {f : Fm} {X : List Int} {ρ : Rho} {S : SW} {Q : PyData → SW → Prop} (hf : FmOk f) (h1 : ρ[1]? = some (.dat (fmd f))) (h4 : ρ[4]? = some (.dat (.int f.w))) (h5 : ρ[5]? = some (.own (X.map .int))) (h8 : 8 < ρ.length) (own : ∀ xs, ρ[8]? ≠ some (Sl.own xs)) (hl : X.length ≤ 10) (hX : ∀ x ∈ X, 0 ≤ x ∧ x < f.w * f.w)
    (h : Q (.tuple ((X.map (cell f)).map pd)) S) : fUn oTuple (fLc (fiL (fVarB 5)) [8] (gNm 8) (fC (.bool true)) (fCall C_grid (gDat (fVar 1) (gDat (fOp (oIC CDivW fun i j => .int (i / j)) (fVarB 8) (fVarB 4)) (gDat (fOp (oIC (fun _ j => 0 < j) fun i j => .int (i % j)) (fUn oInt (fVarB 8)) (fVarB 4)) (gDat (fC (.int 1)) gaNil)))))) ρ S Q := by
  have hw := hf.2.2.2.2
  obtain ⟨wn, ew⟩ := Int.eq_ofNat_of_zero_le (show 0 ≤ f.w by omega)
  have cd : ∀ x : Int, CDivW x f.w := fun x => by rw [ew]; exact cdiv (by omega) (Nat.lt_of_lt_of_le (show wn < 2 ^ 3 by omega) (pow_le (by omega)))
  refine w_un (fLc_map (ds := X.map .int) (g := cellD f) (fun T t => ?_) (by rw [List.length_map]; omega) (fun v hv xs => by simp at hv; subst hv; exact own xs) (fun d hd R q => ?_) ?_)
  · unfold fiL
    exact w_varO h5 t
  · obtain ⟨x, hx, rfl⟩ := List.mem_map.mp hd
    obtain ⟨x0, x1⟩ := hX x hx
    have at8 : ((rwipe ρ [8]).set 8 (.dat (.int x)))[8]? = some (.dat (.int x)) := by
      rw [List.getElem?_set_self (by simp only [rwipe, List.length_set]; exact h8)]
    have at' : ∀ {j : Nat} {y : Sl}, j ≠ 8 → ρ[j]? = some y → ((rwipe ρ [8]).set 8 (.dat (.int x)))[j]? = some y := fun {j y} hj e => by
      simp only [rwipe]
      rw [List.getElem?_set_ne (fun z => hj z.symm), List.getElem?_set_ne (fun z => hj z.symm)]
      exact e
    generalize (rwipe ρ [8]).set 8 (.dat (.int x)) = τ at *
    have t1 := at' (by decide) h1
    have t4 := at' (by decide) h4
    refine (show fVar 1 τ S fun d S1 => fOp (oIC CDivW fun i j => .int (i / j)) (fVarB 8) (fVarB 4) τ S1 fun d2 S2 => fOp (oIC (fun _ j => 0 < j) fun i j => .int (i % j)) (fUn oInt (fVarB 8)) (fVarB 4) τ S2 fun d3 S3 => C_grid [.dat d, .dat d2, .dat d3, .dat (.int 1)] S3 R from ?_)
    refine w_var t1 (w_op (w_varB at8 (w_varB t4 ⟨cd x, w_op (w_un (w_varB at8 ?_))⟩)))
    rw [oInt_int]
    exact w_varB t4 ⟨show 0 < f.w by omega, f, _, _, 1, rfl, hf, (cell_dm hf x0 x1).1, (cell_dm hf x0 x1).2, by decide, q⟩
  · rw [oTupleD_lst, List.map_map]
    rw [List.map_map] at h
    exact h
/-- a row of two, or of three that is closed -/
def C_row : Ct := fun as S R => ∃ f, ((as = [.wel, .dat (fmd f), .dat (.int 2), .dat (.bool false)] ∧ ∀ a b S', GP a → GP b → a ≠ b → WOk S' → R (sg2 a b) S') ∨ (as = [.wel, .dat (fmd f), .dat (.int 3), .dat (.bool true)] ∧ ∀ a b c S', GP a → GP b → GP c → a ≠ b → b ≠ c → c ≠ a → WOk S' → R (.tuple [pd a, pd b, pd c]) S')) ∧ FmOk f ∧ WOk S
theorem ww_of {w : Int} (hw : 3 ≤ w ∧ w ≤ 5) : 9 ≤ w * w ∧ w * w ≤ 25 := by
  have : w = 3 ∨ w = 4 ∨ w = 5 := by omega
  rcases this with e | e | e <;> rw [e] <;> decide
theorem last_at {i : Nat} {xs : List PyData} {d : PyData} {ρ : Rho} {S : SW} {Q : PyData → SW → Prop} (h5 : ρ[i]? = some (.own xs)) (e : atI xs (-1 : Int) = some d) (h : Q d S) : fOp oIx (fVarB i) (fUn oNeg (fC (.int 1))) ρ S Q := by
  refine w_op (w_varO h5 (w_un (w_c ?_)))
  rw [oNegD_int, oIx_lst, e]
  exact h
end K05

namespace K05
open PySem L2 DL
local macro_rules | `(tactic| walk_at "dw") => `(tactic| try simp -implicitDefEqProofs only [sSeq, sIf, sRet, sRetN, sRetV, sSet, sNext, sPar, sPar3, sAsg, sDrop, sOwn, sApp, sIns, sPut, sNever, sFrz, sParO, fOr, fAnd, fNot, fIf, fOp, fUn, fVar, fVarB, fC, fCons, fNil, fTup, fLst, fSl, fP, fNoP, fCall, fCallK, gDat, gaNil, gWel, fChain, fWix, sWput, sWdiv, gNm, gTp, gsNil, gsCons, fiL, fiT, fiE, fiR1, fiR2, sFor, rowD, ent, asB_bool, asI_int, if_tt, if_ff,
  List.getElem?_cons_zero, List.getElem?_cons_succ, List.set_cons_zero, List.set_cons_succ, List.cons_append, List.nil_append, List.length_cons, List.length_nil, List.replicate, Nat.zero_add, Nat.reduceAdd, Nat.reduceSub,
  isi_tup, oReprG_bool, oGtD_int, oLeD_int, oGeD_int, oMixD_int, oMixD_tup, oMixD_bi, oMixD_ib, oMixD_bb, oStrD_int, oListD_tup, oListD_lst, oTupleD_lst, oTupleD_tup, oBackD_tup, oBackD_lst, oNegD_int, isi_strD, isi_intD, isi_boolD, isi_listD, isTup.eq_1, isTup.eq_2, isStr.eq_1, isStr.eq_2, isNum.eq_1, isNum.eq_2, Bool.not_true, Bool.not_false, oIx_tup, oIx_lst, oEq_int, oEq_str, oEq_bool, oEq_nil, oNe_int, oNe_str, oNe_bool, oLen_tup, oLen_lst, oI_int, oIC_int, oAdd_int, oAdd_tup, oAdd_lst, oLt_int, oInt_int, oInt_bool, oIn_tup, oIn_lst, oSl_tup, oSl_lst,
  atI_zero, atI_one, atI_two, atI_three, atI_four, cut_from1, true_and, Bool.false_eq_true, if_false, if_true])
theorem c_row : ∀ as S R, as.length = 4 → C_row as S R → G_law_row C_draw C_one C_grid (ent N_law_row as) S { nx := fun _ S' => R .none S', rt := R } := by
  rintro as S R _ ⟨f, ⟨rfl, h⟩ | ⟨rfl, h⟩, hf, w⟩
  · have hw := hf.2.2.2.2
    have c : CMulA f.w f.w := cmul (j := 3) (k := 3) (by omega) (by omega) (by omega)
    have ww := ww_of hw
    unfold G_law_row
    refine w_set (w_ix4 rfl ?_)
    refine w_own (show fCall C_draw (gWel 0 (gDat (fOp (oIC CMulA fun i j => .int (i * j)) (fVarB 4) (fVarB 4)) gaNil)) _ S _ from w_welF rfl (mul_at rfl rfl c ⟨_, rfl, by omega, by omega, w, fun r S1 r0 r1 w1 => ?_⟩))
    refine w_for ?_
    unfold fiR2
    refine (show (-(2 ^ 62) ≤ (1 : Int) ∧ (1 : Int) < 2 ^ 62 ∧ -(2 ^ 62) ≤ (2 : Int) ∧ (2 : Int) < 2 ^ 62) ∧ forGo _ _ [.int 1] _ S1 _ from ⟨by decide, ?_⟩)
    refine w_go (w_set (w_fIf (b := false) (fun Q q => w_and (b := false) (c := false) (fun Q q => w_varB rfl q) (fun z => nomatch z) q) (fun z => nomatch z) fun _ => w_lst1 (last_at rfl (atI_last1 _) ?_)))
    refine w_app rfl (by simp) (pick_at (X := [r]) rfl rfl rfl (by simp [ent]) (by simp [ent]) hw (by simp) w1 fun k S2 k0 k1 kr w2 => ?_)
    dsimp only
    refine w_goN ?_
    dsimp only
    refine w_ret (cells_at (X := [r, k]) hf rfl rfl rfl (by simp [ent]) (by simp [ent]) (by simp) (by simp; omega) ?_)
    exact h _ _ S2 (cell_gp hf r0 r1) (cell_gp hf k0 k1) (cell_ne hf fun e => kr (by simp [e])) w2
  · have hw := hf.2.2.2.2
    have c : CMulA f.w f.w := cmul (j := 3) (k := 3) (by omega) (by omega) (by omega)
    have ww := ww_of hw
    unfold G_law_row
    refine w_set (w_ix4 rfl ?_)
    refine w_own (show fCall C_draw (gWel 0 (gDat (fOp (oIC CMulA fun i j => .int (i * j)) (fVarB 4) (fVarB 4)) gaNil)) _ S _ from w_welF rfl (mul_at rfl rfl c ⟨_, rfl, by omega, by omega, w, fun r S1 r0 r1 w1 => ?_⟩))
    refine w_for ?_
    unfold fiR2
    refine (show (-(2 ^ 62) ≤ (1 : Int) ∧ (1 : Int) < 2 ^ 62 ∧ -(2 ^ 62) ≤ (3 : Int) ∧ (3 : Int) < 2 ^ 62) ∧ forGo _ _ [.int 1, .int 2] _ S1 _ from ⟨by decide, ?_⟩)
    refine w_go (w_set (w_fIf (b := false) (fun Q q => w_and (b := true) (c := false) (fun Q q => w_varB rfl q) (fun _ Q q => w_op (w_varB rfl (w_op (w_varB rfl (w_c ?_))))) q) (fun z => nomatch z) fun _ => w_lst1 (last_at rfl (atI_last1 _) ?_)))
    · rw [oI_int, oEq_int]; exact q
    refine w_app rfl (by simp) (pick_at (X := [r]) rfl rfl rfl (by simp [ent]) (by simp [ent]) hw (by simp) w1 fun k S2 k0 k1 kr w2 => ?_)
    dsimp only
    refine w_go (w_set (w_fIf (b := true) (fun Q q => w_and (b := true) (c := true) (fun Q q => w_varB rfl q) (fun _ Q q => w_op (w_varB rfl (w_op (w_varB rfl (w_c ?_))))) q) (fun _ => w_lst2 (last_at rfl (atI_last2 _ _) (w_op (w_varO rfl (w_c ?_))))) fun z => nomatch z))
    · rw [oI_int, oEq_int]; exact q
    rw [show ([PyData.int r] ++ [PyData.int k]) = [.int r, .int k] from rfl, oIx_lst, atI_zero]
    refine w_app (xs := [.int r, .int k]) rfl (by simp) (pick_at (X := [k, r]) rfl rfl rfl (by simp [ent]) (by simp [ent]) hw (by simp) w2 fun m S3 m0 m1 mr w3 => ?_)
    dsimp only
    refine w_goN ?_
    dsimp only
    refine w_ret (cells_at (X := [r, k, m]) hf rfl rfl rfl (by simp [ent]) (by simp [ent]) (by simp) (by simp; omega) ?_)
    exact h _ _ _ S3 (cell_gp hf r0 r1) (cell_gp hf k0 k1) (cell_gp hf m0 m1) (cell_ne hf fun e => kr (by simp [e])) (cell_ne hf fun e => mr (by simp [e])) (cell_ne hf fun e => mr (by simp [e])) w3
end K05

namespace K05
open PySem L2 DL
local macro_rules | `(tactic| walk_at "dw") => `(tactic| try simp -implicitDefEqProofs only [sSeq, sIf, sRet, sRetN, sRetV, sSet, sNext, sPar, sPar3, sAsg, sDrop, sOwn, sApp, sIns, sPut, sNever, sFrz, sParO, fOr, fAnd, fNot, fIf, fOp, fUn, fVar, fVarB, fC, fCons, fNil, fTup, fLst, fSl, fP, fNoP, fCall, fCallK, gDat, gaNil, gWel, fChain, fWix, sWput, sWdiv, gNm, gTp, gsNil, gsCons, fiL, fiT, fiE, fiR1, fiR2, sFor, rowD, ent, asB_bool, asI_int, if_tt, if_ff,
  List.getElem?_cons_zero, List.getElem?_cons_succ, List.set_cons_zero, List.set_cons_succ, List.cons_append, List.nil_append, List.length_cons, List.length_nil, List.replicate, Nat.zero_add, Nat.reduceAdd, Nat.reduceSub,
  isi_tup, oReprG_bool, oGtD_int, oLeD_int, oGeD_int, oMixD_int, oMixD_tup, oMixD_bi, oMixD_ib, oMixD_bb, oStrD_int, oListD_tup, oListD_lst, oTupleD_lst, oTupleD_tup, oBackD_tup, oBackD_lst, oNegD_int, isi_strD, isi_intD, isi_boolD, isi_listD, isTup.eq_1, isTup.eq_2, isStr.eq_1, isStr.eq_2, isNum.eq_1, isNum.eq_2, Bool.not_true, Bool.not_false, oIx_tup, oIx_lst, oEq_int, oEq_str, oEq_bool, oEq_nil, oNe_int, oNe_str, oNe_bool, oLen_tup, oLen_lst, oI_int, oIC_int, oAdd_int, oAdd_tup, oAdd_lst, oLt_int, oInt_int, oInt_bool, oIn_tup, oIn_lst, oSl_tup, oSl_lst,
  atI_zero, atI_one, atI_two, atI_three, atI_four, cut_from1, true_and, Bool.false_eq_true, if_false, if_true])
section
variable {ρ : Rho} {S : SW} {Q : PyData → SW → Prop} {i j : Nat}
theorem ltk {x n : Int} (h1 : ρ[i]? = some (.dat (.int x))) (h : Q (.bool (decide (x < n))) S) : fOp oLt (fVarB i) (fC (.int n)) ρ S Q :=
  w_op (w_varB h1 (w_c (by rw [oLt_int]; exact h)))
theorem eqk {x n : Int} (h1 : ρ[i]? = some (.dat (.int x))) (h : Q (.bool (decide (x = n))) S) : fOp oEq (fVarB i) (fC (.int n)) ρ S Q :=
  w_op (w_varB h1 (w_c (by rw [oEq_int]; exact h)))
theorem row_at {f : Fm} (h0 : ρ[0]? = some .wel) (h1 : ρ[1]? = some (.dat (fmd f))) (hf : FmOk f) (w : WOk S) (h : ∀ a b S', GP a → GP b → a ≠ b → WOk S' → Q (sg2 a b) S') : fCall C_row (gWel 0 (gDat (fVar 1) (gDat (fC (.int 2)) (gDat (fC (.bool false)) gaNil)))) ρ S Q := by
  unfold fCall gWel gDat fVar fC gaNil
  rw [h0, h1]
  exact ⟨f, .inl ⟨rfl, h⟩, hf, w⟩
theorem row3_at {f : Fm} (h0 : ρ[0]? = some .wel) (h1 : ρ[1]? = some (.dat (fmd f))) (hf : FmOk f) (w : WOk S) (h : ∀ a b c S', GP a → GP b → GP c → a ≠ b → b ≠ c → c ≠ a → WOk S' → Q (.tuple [pd a, pd b, pd c]) S') : fCall C_row (gWel 0 (gDat (fVar 1) (gDat (fC (.int 3)) (gDat (fC (.bool true)) gaNil)))) ρ S Q := by
  unfold fCall gWel gDat fVar fC gaNil
  rw [h0, h1]
  exact ⟨f, .inr ⟨rfl, h⟩, hf, w⟩
theorem pd_shaped (z : P2) : SeqAt.shaped (pd z) = true := rfl
theorem pickN_at {c d e : P2} (h4 : ρ[i]? = some (.dat (sg2 c d))) (h5 : ρ[j]? = some (.dat (pd e))) (h : Q (pd (if c = e then d else c)) S) :
    fIf (fOp oNe (fOp oIx (fVarB i) (fC (.int 0))) (fVarB j)) (fOp oIx (fVarB i) (fC (.int 0))) (fOp oIx (fVarB i) (fC (.int 1))) ρ S Q := by
  refine w_fIf (b := !decide (c = e)) (fun Q q => w_op (w_ix0 h4 (w_varB h5 ?_))) (fun k => w_ix0 h4 ?_) (fun k => w_ix1 h4 ?_)
  · refine (show SeqAt.shaped (pd c) = true ∧ SeqAt.shaped (pd e) = true ∧ Q (.bool (!PyData.eqv (pd c) (pd e))) S from ⟨pd_shaped _, pd_shaped _, ?_⟩)
    rw [eqv_pd]
    exact q
  · rw [Bool.not_eq_true', decide_eq_false_iff_not] at k
    rw [if_neg k] at h
    exact h
  · rw [Bool.not_eq_false', decide_eq_true_eq] at k
    rw [if_pos k] at h
    exact h
theorem grid_at {a b : Nat} {f : Fm} {x y : Int} (h1 : ρ[1]? = some (.dat (fmd f))) (ha : ρ[a]? = some (.dat (.int x))) (hb : ρ[b]? = some (.dat (.int y))) (hf : FmOk f) (hx : -1000 < x ∧ x < 1000) (hy : -1000 < y ∧ y < 1000) (h : Q (pd (gpt f x y 1)) S) : fCall C_grid (gDat (fVar 1) (gDat (fVar a) (gDat (fVar b) (gDat (fC (.int 1)) gaNil)))) ρ S Q := by
  unfold fCall gDat fVar fC gaNil
  rw [h1, ha, hb]
  exact ⟨f, x, y, 1, rfl, hf, hx, hy, by decide, h⟩
theorem w_lst4 {a b c d : FE} (h : a ρ S fun x S1 => b ρ S1 fun y S2 => c ρ S2 fun z S3 => d ρ S3 fun u S4 => Q (.list [x, y, z, u]) S4) : fLst (fCons a (fCons b (fCons c (fCons d fNil)))) ρ S Q := h
theorem w_fIfS {c f g : FE} (h : c ρ S fun x S1 => asB x fun k => if k = true then f ρ S1 Q else g ρ S1 Q) : fIf c f g ρ S Q := h
end
theorem pick_gp {c d e : P2} (hc : GP c) (hd : GP d) (cd : c ≠ d) : GP (if c = e then d else c) ∧ (if c = e then d else c) ≠ e := by
  split
  · rename_i k
    exact ⟨hd, fun z => cd (k.trans z.symm)⟩
  · exact ⟨hc, by assumption⟩
/-! ### shapes -/
def Low (d : PyData) : Prop := d.canLay0 = true ∧ d.depth ≤ 20
theorem low_all : ∀ {ds : List PyData}, (∀ d ∈ ds, Low d) → PyData.canLayAll0 ds = true ∧ PyData.depthAll ds ≤ 20
  | [], _ => ⟨rfl, by simp [PyData.depthAll]⟩
  | d :: ds, h => by
    obtain ⟨a, b⟩ := low_all fun x hx => h x (List.mem_cons_of_mem d hx)
    obtain ⟨a', b'⟩ := h d (by simp)
    refine ⟨by simp only [PyData.canLayAll0, a, a', Bool.and_self], ?_⟩
    simp only [PyData.depthAll]
    omega
theorem shaped_lst {ds : List PyData} (h : ∀ d ∈ ds, Low d) : SeqAt.shaped (.list ds) = true := by
  obtain ⟨a, b⟩ := low_all h
  simp only [SeqAt.shaped, Bool.and_eq_true, decide_eq_true_eq]
  refine ⟨by simpa only [PyData.canLay0] using a, ?_⟩
  simp only [PyData.depth]
  omega
theorem shaped_tup {ds : List PyData} (h : ∀ d ∈ ds, Low d) : SeqAt.shaped (.tuple ds) = true := by
  obtain ⟨a, b⟩ := low_all h
  simp only [SeqAt.shaped, Bool.and_eq_true, decide_eq_true_eq]
  refine ⟨by simpa only [PyData.canLay0] using a, ?_⟩
  simp only [PyData.depth]
  omega
theorem low_pd (z : P2) : Low (pd z) := ⟨rfl, by simp [pd, qd, PyData.depth, PyData.depthAll]⟩
theorem low_sgp (z : Sg2) : Low (sgp z) := ⟨rfl, by simp [sgp, sg2, pd, qd, PyData.depth, PyData.depthAll]⟩
theorem low_hd (z : H3) : Low (hd z) := ⟨rfl, by simp [hd, PyData.depth, PyData.depthAll]⟩
theorem low_ppo (z : Sg2) : Low (ppo z) := ⟨rfl, by simp [ppo, pp, hd, PyData.depth, PyData.depthAll]⟩
theorem full_at {i : Nat} {l : List PyData} {ρ : Rho} {S : SW} {Q : PyData → SW → Prop} (h1 : ρ[i]? = some (.dat (.list l)) ∨ ρ[i]? = some (.own l)) (sh : ∀ d ∈ l, Low d) (h : Q (.bool (!l.isEmpty)) S) : fOp oNe (fVarB i) (fLst fNil) ρ S Q := by
  have k : SeqAt.shaped (.list l) = true ∧ SeqAt.shaped (.list []) = true ∧ Q (.bool (!PyData.eqv (.list l) (.list []))) S := by
    refine ⟨shaped_lst sh, rfl, ?_⟩
    cases l
    · exact h
    · exact h
  rcases h1 with h1 | h1
  · exact w_op (w_varB h1 k)
  · exact w_op (w_varO h1 k)
/-! ### boxes -/
def C_box : Ct := fun as S R => ∃ f, as = [.wel, .dat (fmd f)] ∧ FmOk f ∧ WOk S ∧ ∀ a b c d S', GP a → GP b → GP c → GP d → a ≠ b → b ≠ c → c ≠ d → d ≠ a → WOk S' → R (.tuple [pd a, pd b, pd c, pd d]) S'
theorem c_box : ∀ as S R, as.length = 2 → C_box as S R → G_law_box C_draw C_grid (ent N_law_box as) S { nx := fun _ S' => R .none S', rt := R } := by
  rintro as S R _ ⟨f, rfl, hf, w, h⟩
  have hw := hf.2.2.2.2
  unfold G_law_box
  have d1 : ∀ {ρ : Rho} {S : SW} {Q : PyData → SW → Prop}, ρ[0]? = some .wel → ρ[1]? = some (.dat (fmd f)) → WOk S → (∀ i S', 0 ≤ i → i < f.w - 1 → WOk S' → Q (.int i) S') → fCall C_draw (gWel 0 (gDat (fOp (oI fun i j => .int (i - j)) (fOp oIx (fVarB 1) (fC (.int 4))) (fC (.int 1))) gaNil)) ρ S Q := by
    intro ρ S Q h0 h1 w k
    refine w_welF h0 (w_op (w_ix4 h1 (w_c ?_)))
    rw [oI_int]
    exact ⟨_, rfl, by omega, by omega, w, k⟩
  have d2 : ∀ {n : Nat} {x : Int} {ρ : Rho} {S : SW} {Q : PyData → SW → Prop}, ρ[0]? = some .wel → ρ[1]? = some (.dat (fmd f)) → ρ[n]? = some (.dat (.int x)) → 0 ≤ x → x < f.w - 1 → WOk S → (∀ k S', x < k → k < f.w → WOk S' → Q (.int k) S') →
      fOp oAdd (fOp oAdd (fVarB n) (fC (.int 1))) (fCall C_draw (gWel 0 (gDat (fOp (oI fun i j => .int (i - j)) (fOp (oI fun i j => .int (i - j)) (fOp oIx (fVarB 1) (fC (.int 4))) (fC (.int 1))) (fVarB n)) gaNil))) ρ S Q := by
    intro n x ρ S Q h0 h1 hn x0 x1 w k
    refine w_op (w_op (w_varB hn (w_c ?_)))
    rw [oAdd_int]
    refine w_welF h0 (w_op (w_op (w_ix4 h1 (w_c ?_))))
    rw [oI_int]
    refine w_varB hn ?_
    rw [oI_int]
    refine ⟨_, rfl, by omega, by omega, w, fun r S' r0 r1 w' => ?_⟩
    dsimp only
    rw [oAdd_int]
    exact k _ S' (by omega) (by omega) w'
  refine w_par (d1 rfl rfl w fun i S1 i0 i1 w1 => d1 rfl rfl w1 fun j S2 j0 j1 w2 => ?_)
  refine w_par (d2 rfl rfl rfl i0 i1 w2 fun k S3 k0 k1 w3 => d2 rfl rfl rfl j0 j1 w3 fun m S4 m0 m1 w4 => ?_)
  have gi : -1000 < i ∧ i < 1000 := by omega
  have gj : -1000 < j ∧ j < 1000 := by omega
  have gk : -1000 < k ∧ k < 1000 := by omega
  have gm : -1000 < m ∧ m < 1000 := by omega
  refine w_set (w_lst4 (grid_at rfl rfl rfl hf gi gj (grid_at rfl rfl rfl hf gk gj (grid_at rfl rfl rfl hf gk gm (grid_at rfl rfl rfl hf gi gm ?_)))))
  have a := gpt_gp hf gi gj
  have b := gpt_gp hf gk gj
  have c := gpt_gp hf gk gm
  have d := gpt_gp hf gi gm
  have ab : gpt f i j 1 ≠ gpt f k j 1 := fun e => by have := (gpt_inj hf e).1; omega
  have bc : gpt f k j 1 ≠ gpt f k m 1 := fun e => by have := (gpt_inj hf e).2; omega
  have cd : gpt f k m 1 ≠ gpt f i m 1 := fun e => by have := (gpt_inj hf e).1; omega
  have da : gpt f i m 1 ≠ gpt f i j 1 := fun e => by have := (gpt_inj hf e).2; omega
  refine w_ret (w_un (w_fIfS (w_op (w_welF rfl (w_c ⟨3, rfl, by decide, by decide, w4, fun r S5 r0 r1 w5 => w_c ?_⟩)))))
  rw [oGtD_int, asB_bool]
  split
  · refine w_var rfl ?_
    rw [oTupleD_lst]
    exact h _ _ _ _ S5 a b c d ab bc cd da w5
  · refine w_un (w_varB rfl ?_)
    rw [oBackD_lst, oTupleD_lst]
    exact h _ _ _ _ S5 d c b a cd.symm bc.symm ab.symm da.symm w5
/-! ### pairs -/
def C_pairs : Ct := fun as S R => ∃ (x : PyData) (r : List PyData) (l : PyData), as = [.dat (.tuple (x :: r)), .dat (.bool true)] ∧ r.length ≤ 900 ∧ atI (x :: r) (-1 : Int) = some l ∧ R (.list (zipD (x :: r) r ++ [.tuple [l, x]])) S
theorem zipD_len : ∀ (a b : List PyData), (zipD a b).length ≤ b.length
  | [], _ => by simp [zipD]
  | _ :: _, [] => by simp [zipD]
  | a :: as, b :: bs => by simp only [zipD, List.length_cons]; have := zipD_len as bs; omega
theorem w_sl1 {i : Nat} {x : PyData} {r : List PyData} {ρ : Rho} {S : SW} {Q : PyData → SW → Prop} (h1 : ρ[i]? = some (.dat (.tuple (x :: r)))) (h : Q (.tuple r) S) : fSl (fVarB i) (fP (fC (.int 1))) fNoP ρ S Q := by
  unfold fSl
  refine w_varB h1 ?_
  refine (show oSl (.tuple (x :: r)) (some 1) none (fun d => Q d S) from ?_)
  rw [oSl_tup, cut_from1]
  exact h
theorem c_pairs : ∀ as S R, as.length = 2 → C_pairs as S R → G_law_pairs (ent N_law_pairs as) S { nx := fun _ S' => R .none S', rt := R } := by
  rintro as S R _ ⟨x, r, l, rfl, hr, hl, h⟩
  unfold G_law_pairs
  refine w_seq ?_
  unfold sOwn
  unfold fZipL
  refine w_var rfl (w_sl1 rfl ?_)
  dsimp only
  have lz := zipD_len (x :: r) r
  refine w_ifS (b := true) (fun Q q => w_varB rfl q) (fun _ => ?_) (fun z => nomatch z)
  refine w_app rfl (by omega) (w_tup2 (w_op (w_varB rfl (w_un (w_c ?_)))))
  rw [oNegD_int, oIx_tup, hl]
  exact w_ix0 rfl h
end K05

namespace K05
open PySem L2 DL
local macro_rules | `(tactic| walk_at "dw") => `(tactic| try simp -implicitDefEqProofs only [sSeq, sIf, sRet, sRetN, sRetV, sSet, sNext, sPar, sPar3, sAsg, sDrop, sOwn, sApp, sIns, sPut, sNever, sFrz, sParO, fOr, fAnd, fNot, fIf, fOp, fUn, fVar, fVarB, fC, fCons, fNil, fTup, fLst, fSl, fP, fNoP, fCall, fCallK, gDat, gaNil, gWel, fChain, fWix, sWput, sWdiv, gNm, gTp, gsNil, gsCons, fiL, fiT, fiE, fiR1, fiR2, sFor, rowD, ent, asB_bool, asI_int, if_tt, if_ff,
  List.getElem?_cons_zero, List.getElem?_cons_succ, List.set_cons_zero, List.set_cons_succ, List.cons_append, List.nil_append, List.length_cons, List.length_nil, List.replicate, Nat.zero_add, Nat.reduceAdd, Nat.reduceSub,
  isi_tup, oReprG_bool, oGtD_int, oLeD_int, oGeD_int, oMixD_int, oMixD_tup, oMixD_bi, oMixD_ib, oMixD_bb, oStrD_int, oListD_tup, oListD_lst, oTupleD_lst, oTupleD_tup, oBackD_tup, oBackD_lst, oNegD_int, isi_strD, isi_intD, isi_boolD, isi_listD, isTup.eq_1, isTup.eq_2, isStr.eq_1, isStr.eq_2, isNum.eq_1, isNum.eq_2, Bool.not_true, Bool.not_false, oIx_tup, oIx_lst, oEq_int, oEq_str, oEq_bool, oEq_nil, oNe_int, oNe_str, oNe_bool, oLen_tup, oLen_lst, oI_int, oIC_int, oAdd_int, oAdd_tup, oAdd_lst, oLt_int, oInt_int, oInt_bool, oIn_tup, oIn_lst, oSl_tup, oSl_lst,
  atI_zero, atI_one, atI_two, atI_three, atI_four, cut_from1, true_and, Bool.false_eq_true, if_false, if_true])
def LinesB (C_law_draw C_law_pairs C_law_box C_law_row C_law_one_of : Ct) : FS :=
    (sSeq (sSet 6 (fCall C_law_draw (gWel 0 (gDat (fC (.int 8)) gaNil))))
    (sIf (fAnd (fOp oEq (fVarB 6) (fC (.int 0))) (fOp oLe (fOp oAdd (fUn oLen (fVarB 3)) (fC (.int 4))) (fVarB 4)))
    (sOwn 3 (fOp oCatL (fVarB 3) (fCall C_law_pairs (gDat (fCall C_law_box (gWel 0 (gDat (fVar 1) gaNil))) (gDat (fC (.bool true)) gaNil)))))
    (sIf (fAnd (fOp oLt (fVarB 6) (fC (.int 3))) (fOp oLe (fOp oAdd (fUn oLen (fVarB 3)) (fC (.int 3))) (fVarB 4)))
    (sOwn 3 (fOp oCatL (fVarB 3) (fCall C_law_pairs (gDat (fCall C_law_row (gWel 0 (gDat (fVar 1) (gDat (fC (.int 3)) (gDat (fC (.bool true)) gaNil))))) (gDat (fC (.bool true)) gaNil)))))
    (sIf (fAnd (fOp oLt (fVarB 6) (fC (.int 5))) (fAnd (fOp oNe (fVarB 3) (fLst fNil)) (fOp oLt (fUn oLen (fVarB 3)) (fVarB 4))))
    (sSeq (sPar 7 8 (fCons (fLend 3 (fOp oIx (fCall C_law_one_of (gWel 0 (gDat (fVar 3) gaNil))) (fC (.int 1)))) (fCons (fCall C_law_row (gWel 0 (gDat (fVar 1) (gDat (fC (.int 2)) (gDat (fC (.bool false)) gaNil))))) fNil)))
    (sApp 3 (fTup (fCons (fVar 7) (fCons (fIf (fOp oNe (fOp oIx (fVarB 8) (fC (.int 0))) (fVarB 7)) (fOp oIx (fVarB 8) (fC (.int 0))) (fOp oIx (fVarB 8) (fC (.int 1)))) fNil)))))
    (sIf (fAnd (fOp oEq (fVarB 6) (fC (.int 5))) (fAnd (fOp oNe (fVarB 3) (fLst fNil)) (fOp oLt (fUn oLen (fVarB 3)) (fVarB 4))))
    (sApp 3 (fLend 3 (fOp oStep (fCall C_law_one_of (gWel 0 (gDat (fVar 3) gaNil))) (fCall C_law_one_of (gWel 0 (gDat (fTup (fCons (fC (.int 1)) (fCons (fUn oNeg (fC (.int 1))) fNil))) gaNil))))))
    (sIf (fOp oLt (fUn oLen (fVarB 3)) (fVarB 4))
    (sApp 3 (fCall C_law_row (gWel 0 (gDat (fVar 1) (gDat (fC (.int 2)) (gDat (fC (.bool false)) gaNil))))))
    sNext))))))

def linesR (f : Fm) (m : Int) (L : List Sg2) (n : Int) (s5 s6 s7 s8 : Sl) : Rho := [.wel, .dat (fmd f), .dat (.int m), .own (L.map sgp), .dat (.int n), s5, s6, s7, s8]
theorem len_lt {i j : Nat} {xs : List PyData} {n : Int} {ρ : Rho} {S : SW} {Q : PyData → SW → Prop} (h1 : ρ[i]? = some (.own xs)) (h2 : ρ[j]? = some (.dat (.int n))) (h : Q (.bool (decide ((xs.length : Int) < n))) S) : fOp oLt (fUn oLen (fVarB i)) (fVarB j) ρ S Q := by
  refine w_op (w_un (w_varO h1 ?_))
  rw [oLen_lst]
  refine w_varB h2 ?_
  rw [oLt_int]
  exact h
theorem len_le {i j : Nat} {k : Int} {xs : List PyData} {n : Int} {ρ : Rho} {S : SW} {Q : PyData → SW → Prop} (h1 : ρ[i]? = some (.own xs)) (h2 : ρ[j]? = some (.dat (.int n))) (h : Q (.bool (decide ((xs.length : Int) + k ≤ n))) S) : fOp oLe (fOp oAdd (fUn oLen (fVarB i)) (fC (.int k))) (fVarB j) ρ S Q := by
  refine w_op (w_op (w_un (w_varO h1 ?_)))
  rw [oLen_lst]
  refine w_c ?_
  rw [oAdd_int]
  refine w_varB h2 ?_
  rw [oLeD_int]
  exact h
theorem lend_one {f : FE} {xs : List PyData} {ρ : Rho} {S : SW} {Q : PyData → SW → Prop} (h3 : ρ[3]? = some (.own xs)) (h : f (ρ.set 3 (.dat (.list xs))) S fun d S' => noLst d = true ∧ Q d S') : fLend 3 f ρ S Q := by
  unfold fLend
  rw [h3]
  exact h
theorem own_of {i : Nat} {f : FE} {rest : FS} {ρ : Rho} {S : SW} {B : Out} (h : f ρ S fun d S1 => match d with
  | .list ds => B.nx (ρ.set i (.own ds)) S1
  | _ => False) : sOwn i f ρ S B := h
theorem catL_at {i : Nat} {f : FE} {xs : List PyData} {ρ : Rho} {S : SW} {Q : PyData → SW → Prop} (h1 : ρ[i]? = some (.own xs)) (h : f ρ S fun y S1 => oCatL (.list xs) y fun d => Q d S1) : fOp oCatL (fVarB i) f ρ S Q :=
  w_op (w_varO h1 h)
theorem lines_turn {f : Fm} {m n : Int} {s5 s6 s7 s8 : Sl} {L : List Sg2} {S : SW} {B : Out} (hf : FmOk f) (hn : n ≤ 12) (hl : (L.length : Int) ≤ n) (hL : ∀ z ∈ L, GL z) (w : WOk S)
    (h : ∀ L' S' t6 t7 t8, (L'.length : Int) ≤ n → (∀ z ∈ L', GL z) → WOk S' → B.nx (linesR f m L' n s5 t6 t7 t8) S') : LinesB C_draw C_pairs C_box C_row C_one (linesR f m L n s5 s6 s7 s8) S B := by
  unfold LinesB
  unfold linesR at *
  refine w_set (w_welF rfl (w_c ⟨8, rfl, by decide, by decide, w, fun br S1 b0 b1 w1 => ?_⟩))
  have len : ((L.map sgp).length : Int) = L.length := by rw [List.length_map]
  have low : ∀ d ∈ L.map sgp, Low d := fun d hd => by obtain ⟨z, _, rfl⟩ := List.mem_map.mp hd; exact low_sgp z
  have room : ∀ k : Nat, k ≤ 4 → (L.map sgp).length + k ≤ sizeLine := fun k hk => by rw [sizeLine_eq, List.length_map]; omega
  have emp : (!(L.map sgp).isEmpty) = true → ∃ z r, L = z :: r := fun e => by
    cases L with
    | nil => cases e
    | cons z r => exact ⟨z, r, rfl⟩
  refine w_if (b := decide (br = 0) && decide (((L.map sgp).length : Int) + 4 ≤ n)) (fun Q q => w_and (fun Q q => eqk rfl q) (fun _ Q q => len_le rfl rfl q) q) (fun e => ?_) (fun _ => ?_)
  · obtain ⟨_, e⟩ := Bool.and_eq_true_iff.mp e
    have e := of_decide_eq_true e
    refine own_of (rest := sNext) (catL_at rfl ?_)
    refine w_callF2 (w_welF rfl (w_var rfl ⟨f, rfl, hf, w1, fun a b c d S2 ha hb hc hd ab bc cd da w2 => w_c ⟨_, _, _, rfl, by simp, rfl, ?_⟩⟩))
    refine (show _ ∧ _ from ⟨room 4 (by decide), ?_⟩)
    refine (show B.nx [.wel, .dat (fmd f), .dat (.int m), .own (L.map sgp ++ [(a, b), (b, c), (c, d), (d, a)].map sgp), .dat (.int n), s5, .dat (.int br), s7, s8] S2 from ?_)
    rw [← List.map_append]
    refine h _ S2 _ _ _ (by simp; omega) (fun z hz => ?_) w2
    rcases List.mem_append.mp hz with hz | hz
    · exact hL z hz
    · simp only [List.mem_cons, List.not_mem_nil, or_false] at hz
      rcases hz with rfl | rfl | rfl | rfl
      · exact ⟨ha, hb, ab⟩
      · exact ⟨hb, hc, bc⟩
      · exact ⟨hc, hd, cd⟩
      · exact ⟨hd, ha, da⟩
  refine w_if (b := decide (br < 3) && decide (((L.map sgp).length : Int) + 3 ≤ n)) (fun Q q => w_and (fun Q q => ltk rfl q) (fun _ Q q => len_le rfl rfl q) q) (fun e => ?_) (fun _ => ?_)
  · obtain ⟨_, e⟩ := Bool.and_eq_true_iff.mp e
    have e := of_decide_eq_true e
    refine own_of (rest := sNext) (catL_at rfl ?_)
    refine w_callF2 (row3_at rfl rfl hf w1 fun a b c S2 ha hb hc ab bc ca w2 => w_c ⟨_, _, _, rfl, by simp, rfl, ?_⟩)
    refine (show _ ∧ _ from ⟨room 3 (by decide), ?_⟩)
    refine (show B.nx [.wel, .dat (fmd f), .dat (.int m), .own (L.map sgp ++ [(a, b), (b, c), (c, a)].map sgp), .dat (.int n), s5, .dat (.int br), s7, s8] S2 from ?_)
    rw [← List.map_append]
    refine h _ S2 _ _ _ (by simp; omega) (fun z hz => ?_) w2
    rcases List.mem_append.mp hz with hz | hz
    · exact hL z hz
    · simp only [List.mem_cons, List.not_mem_nil, or_false] at hz
      rcases hz with rfl | rfl | rfl
      · exact ⟨ha, hb, ab⟩
      · exact ⟨hb, hc, bc⟩
      · exact ⟨hc, ha, ca⟩
  have one : ∀ {z : Sg2} {S2 : SW} {t6 t7 t8 : Sl}, ((L.map sgp).length : Int) < n → GL z → WOk S2 → B.nx [.wel, .dat (fmd f), .dat (.int m), .own (L.map sgp ++ [sgp z]), .dat (.int n), s5, t6, t7, t8] S2 := fun {z S2 t6 t7 t8} e g w2 => by
    have k := h (L ++ [z]) S2 t6 t7 t8 (by simp; omega) (fun y hy => by
      rcases List.mem_append.mp hy with hy | hy
      · exact hL y hy
      · rw [List.mem_singleton.mp hy]; exact g) w2
    rw [List.map_append] at k
    exact k
  have cap : (L.map sgp).length ≤ 1000 := by rw [List.length_map]; omega
  refine w_if (b := decide (br < 5) && (!(L.map sgp).isEmpty && decide (((L.map sgp).length : Int) < n))) (fun Q q => w_and (fun Q q => ltk rfl q) (fun _ Q q => w_and (fun Q q => full_at (.inr rfl) low q) (fun _ Q q => len_lt rfl rfl q) q) q) (fun e => ?_) (fun _ => ?_)
  · obtain ⟨_, e⟩ := Bool.and_eq_true_iff.mp e
    obtain ⟨e1, e2⟩ := Bool.and_eq_true_iff.mp e
    have e2 := of_decide_eq_true e2
    obtain ⟨z, r, rfl⟩ := emp e1
    refine w_par (lend_one rfl (w_op (w_welF rfl (w_var rfl (one_ofL rfl (by simp at hl ⊢; omega) w1 fun d S2 hd w2 => w_c ?_)))))
    obtain ⟨y, hy, rfl⟩ := List.mem_map.mp hd
    have gy := hL y hy
    refine (show noLst (pd y.2) = true ∧ _ from ⟨rfl, ?_⟩)
    refine row_at rfl rfl hf w2 fun a b S3 ha hb ab w3 => ?_
    obtain ⟨p1, p2⟩ := pick_gp (e := y.2) ha hb ab
    refine w_app rfl cap (w_tup2 (w_var rfl (pickN_at rfl rfl ?_)))
    exact one (z := (y.2, if a = y.2 then b else a)) e2 ⟨gy.b, p1, p2.symm⟩ w3
  refine w_if (b := decide (br = 5) && (!(L.map sgp).isEmpty && decide (((L.map sgp).length : Int) < n))) (fun Q q => w_and (fun Q q => eqk rfl q) (fun _ Q q => w_and (fun Q q => full_at (.inr rfl) low q) (fun _ Q q => len_lt rfl rfl q) q) q) (fun e => ?_) (fun _ => ?_)
  · obtain ⟨_, e⟩ := Bool.and_eq_true_iff.mp e
    obtain ⟨e1, e2⟩ := Bool.and_eq_true_iff.mp e
    have e2 := of_decide_eq_true e2
    obtain ⟨z, r, rfl⟩ := emp e1
    refine w_app rfl cap (lend_one rfl (w_op (w_welF rfl (w_var rfl (one_ofL rfl (by simp at hl ⊢; omega) w1 fun d S2 hd w2 => w_welF rfl (w_tup2 (w_c (w_un (w_c ?_))))))))) 
    rw [oNegD_int]
    refine one_of rfl (by decide) w2 fun k S3 hk w3 => ?_
    obtain ⟨y, hy, rfl⟩ := List.mem_map.mp hd
    have gy := hL y hy
    simp only [List.mem_cons, List.not_mem_nil, or_false] at hk
    rcases hk with rfl | rfl
    · refine (show _ ∨ _ from .inl ⟨rfl, rfl, ?_⟩)
      exact one (z := y) e2 gy w3
    · refine (show _ ∨ _ from .inr ⟨rfl, rfl, ?_⟩)
      exact one (z := (y.2, y.1)) e2 ⟨gy.b, gy.a, gy.ne.symm⟩ w3
  refine w_if (b := decide (((L.map sgp).length : Int) < n)) (fun Q q => len_lt rfl rfl q) (fun e => ?_) (fun _ => ?_)
  · have e := of_decide_eq_true e
    refine w_app rfl cap (row_at rfl rfl hf w1 fun a b S3 ha hb ab w3 => ?_)
    exact one (z := (a, b)) e ⟨ha, hb, ab⟩ w3
  · (try unfold sNext)
    exact h L S1 _ _ _ hl hL w1
theorem lines_loop {f : Fm} {m n : Int} {B : Out} (hf : FmOk f) (hn : n ≤ 12) (h : ∀ L' S' t5 t6 t7 t8, (L'.length : Int) ≤ n → (∀ z ∈ L', GL z) → WOk S' → B.nx (linesR f m L' n t5 t6 t7 t8) S') :
    ∀ (ds : List PyData) (L : List Sg2) (S : SW) (s5 s6 s7 s8 : Sl), (L.length : Int) ≤ n → (∀ z ∈ L, GL z) → WOk S → forGo (gNm 5) (LinesB C_draw C_pairs C_box C_row C_one) ds (linesR f m L n s5 s6 s7 s8) S B
  | [], L, S, s5, s6, s7, s8, hl, hL, w => h L S s5 s6 s7 s8 hl hL w
  | d :: ds, L, S, s5, s6, s7, s8, hl, hL, w => by
    refine w_go ?_
    refine (show LinesB C_draw C_pairs C_box C_row C_one (linesR f m L n (.dat d) s6 s7 s8) S _ from lines_turn hf hn hl hL w fun L' S' t6 t7 t8 hl' hL' w' => ?_)
    exact lines_loop hf hn h ds L' S' (.dat d) t6 t7 t8 hl' hL' w'
def C_lines : Ct := fun as S R => ∃ f m, as = [.wel, .dat (fmd f), .dat (.int m)] ∧ FmOk f ∧ 4 ≤ m ∧ m ≤ 12 ∧ WOk S ∧ ∀ (L : List Sg2) S', L.length ≤ 12 → (∀ z ∈ L, GL z) → WOk S' → R (.list (L.map sgp)) S'
theorem c_lines : ∀ as S R, as.length = 3 → C_lines as S R → G_law_lines C_draw C_pairs C_box C_row C_one (ent N_law_lines as) S { nx := fun _ S' => R .none S', rt := R } := by
  rintro as S R _ ⟨f, m, rfl, hf, m0, m1, w, h⟩
  unfold G_law_lines
  refine w_parO (w_op (w_varB rfl (w_welF rfl (w_fIfS (w_op (w_welF rfl (w_c ⟨4, rfl, by decide, by decide, w, fun r S1 r0 r1 w1 => w_c ?_⟩)))))))
  have go : ∀ k S', 0 < k → k ≤ m + 1 → WOk S' → C_draw [.wel, .dat (.int k)] S' fun y S2 => oI (fun i j => .int (i - j)) (.int m) y fun d =>
      sSeq (sFor (fiR1 (fVarB 4)) (gNm 5) (LinesB C_draw C_pairs C_box C_row C_one)) (sRetV 3) (((ent N_law_lines [.wel, .dat (fmd f), .dat (.int m)]).set 3 (.own [])).set 4 (.dat d)) S2 { nx := fun _ S' => R .none S', rt := R } := fun k S' k0 k1 w' => by
    refine ⟨k, rfl, k0, by omega, w', fun q S2 q0 q1 w2 => ?_⟩
    dsimp only
    rw [oI_int]
    refine w_for ?_
    unfold fiR1
    refine w_varB rfl ?_
    rw [asI_int]
    refine ⟨by omega, by omega, ?_⟩
    dsimp only
    refine lines_loop (L := []) (f := f) (m := m) (n := m - q) hf (by omega) (fun L' S' t5 t6 t7 t8 hl' hL' w' => ?_) _ _ _ _ _ _ (by simp; omega) (fun _ hz => nomatch hz) w2
    exact h L' S' (by omega) hL' w'
  rw [oGtD_int, asB_bool]
  split
  · refine w_op (w_op (w_varB rfl (w_c ?_)))
    refine (show CDivW m 2 ∧ _ from ⟨cdiv (by decide) (by decide), w_c ?_⟩)
    rw [oAdd_int]
    exact go _ S1 (by omega) (by omega) w1
  · refine w_op (w_varB rfl (w_c ?_))
    rw [oAdd_int]
    exact go _ S1 (by omega) (by omega) w1
end K05

namespace K05
open PySem L2 DL
local macro_rules | `(tactic| walk_at "dw") => `(tactic| try simp -implicitDefEqProofs only [sSeq, sIf, sRet, sRetN, sRetV, sSet, sNext, sPar, sPar3, sAsg, sDrop, sOwn, sApp, sIns, sPut, sNever, sFrz, sParO, fOr, fAnd, fNot, fIf, fOp, fUn, fVar, fVarB, fC, fCons, fNil, fTup, fLst, fSl, fP, fNoP, fCall, fCallK, gDat, gaNil, gWel, fChain, fWix, sWput, sWdiv, gNm, gTp, gsNil, gsCons, fiL, fiT, fiE, fiR1, fiR2, sFor, rowD, ent, asB_bool, asI_int, if_tt, if_ff,
  List.getElem?_cons_zero, List.getElem?_cons_succ, List.set_cons_zero, List.set_cons_succ, List.cons_append, List.nil_append, List.length_cons, List.length_nil, List.replicate, Nat.zero_add, Nat.reduceAdd, Nat.reduceSub,
  isi_tup, oReprG_bool, oGtD_int, oLeD_int, oGeD_int, oMixD_int, oMixD_tup, oMixD_bi, oMixD_ib, oMixD_bb, oStrD_int, oListD_tup, oListD_lst, oTupleD_lst, oTupleD_tup, oBackD_tup, oBackD_lst, oNegD_int, isi_strD, isi_intD, isi_boolD, isi_listD, isTup.eq_1, isTup.eq_2, isStr.eq_1, isStr.eq_2, isNum.eq_1, isNum.eq_2, Bool.not_true, Bool.not_false, oIx_tup, oIx_lst, oEq_int, oEq_str, oEq_bool, oEq_nil, oNe_int, oNe_str, oNe_bool, oLen_tup, oLen_lst, oI_int, oIC_int, oAdd_int, oAdd_tup, oAdd_lst, oLt_int, oInt_int, oInt_bool, oIn_tup, oIn_lst, oSl_tup, oSl_lst,
  atI_zero, atI_one, atI_two, atI_three, atI_four, cut_from1, true_and, Bool.false_eq_true, if_false, if_true])
/-! ### what meets -/
theorem cmn_mem {p q r s x : H3} (h : x ∈ cmn p q r s) : x ∈ [p, q, r, s] := by
  obtain ⟨a, b⟩ := low_in p q r s
  unfold cmn at h
  split at h
  · rcases List.mem_cons.mp h with e | h
    · rw [e]; exact a
    · rw [List.mem_singleton.mp h]; exact b
  · split at h
    · cases h
    · rw [List.mem_singleton.mp h]; exact a
theorem meet_len (p q r s : H3) : (meetL p q r s).length ≤ 2 := by
  unfold meetL cmn
  split
  · split
    · simp
    · split <;> simp
  · split <;> simp
theorem meet_fine {p q r s : H3} (a : Seg p q) (b : Seg r s) : ∀ x ∈ meetL p q r s, Fine x := fun x hx => by
  refine ⟨meet_red a.rp a.rq b.rp b.rq a.ne b.ne x hx, ?_⟩
  unfold meetL at hx
  by_cases h : side p q r = 0 ∧ side p q s = 0
  · rw [if_pos h] at hx
    have m := cmn_mem hx
    simp only [List.mem_cons, List.not_mem_nil, or_false] at m
    rcases m with rfl | rfl | rfl | rfl
    · exact a.bp.up (by omega)
    · exact a.bq.up (by omega)
    · exact b.bp.up (by omega)
    · exact b.bq.up (by omega)
  · rw [if_neg h] at hx
    by_cases k : 0 < side r s p * side r s q ∨ 0 < side p q r * side p q s
    · rw [if_pos k] at hx
      cases hx
    · rw [if_neg k, List.mem_singleton] at hx
      rw [hx]
      exact cross_bh a.bp a.bq b.bp b.bq (meet_o a.rp a.rq b.rp b.rq a.ne b.ne h k)
/-! ### the same answer in each order -/
def UpL (M : List H3) : Prop := M.Pairwise fun a b => hless a b = true
theorem liesB {p q : H3} (hp : Red p) (hq : Red q) (ne : p ≠ q) (y : H3) : lies q p y = lies p q y :=
  lies_back (told_is hp.1) (told_is hq.1) (told_rp hp.1) (told_rp hq.1) fun e => ne (told_inj' hp hq e)
theorem liesE {p q : H3} (hp : Red p) (hq : Red q) (ne : p ≠ q) : lies p q q = true ∧ lies p q p = true := by
  have t : told p ≠ told q := fun e => ne (told_inj' hp hq e)
  refine ⟨lies_end (told_is hp.1) (told_is hq.1) (told_rp hp.1) (told_rp hq.1) t, ?_⟩
  rw [← liesB hp hq ne]
  exact lies_end (told_is hq.1) (told_is hp.1) (told_rp hq.1) (told_rp hp.1) fun e => t e.symm
theorem up_ne {x z : H3} (h : hless x z = true) : x ≠ z := fun e => by
  rw [e, hl_irr] at h
  cases h
theorem lies_in {x z y : H3} (h : hless x z = true) (l : lies x z y = true) : hless y x = false ∧ hless z y = false := by
  have b := ((lies_iff x z y).mp l).2
  unfold btw at b
  rw [if_pos h] at b
  exact b
theorem hull_uniq {M M' : List H3} (u : UpL M) (u' : UpL M') (r : ∀ x ∈ M, Red x) (r' : ∀ x ∈ M', Red x) (l : M.length ≤ 2) (l' : M'.length ≤ 2) (h : ∀ y, Red y → (Hull M y ↔ Hull M' y)) : M = M' := by
  match M, M', l, l' with
  | [], [], _, _ => rfl
  | [], [x], _, _ => exact ((h x (r' x (by simp))).mpr rfl).elim
  | [], [x, z], _, _ =>
    have xz := (List.pairwise_cons.mp u').1 z (by simp)
    exact ((h x (r' x (by simp))).mpr (liesE (r' x (by simp)) (r' z (by simp)) (up_ne xz)).2).elim
  | [x], [], _, _ => exact ((h x (r x (by simp))).mp rfl).elim
  | [x, z], [], _, _ =>
    have xz := (List.pairwise_cons.mp u).1 z (by simp)
    exact ((h x (r x (by simp))).mp (liesE (r x (by simp)) (r z (by simp)) (up_ne xz)).2).elim
  | [x], [x'], _, _ => rw [show x = x' from (h x (r x (by simp))).mp rfl]
  | [x], [x', z'], _, _ =>
    have xz := (List.pairwise_cons.mp u').1 z' (by simp)
    have e := liesE (r' x' (by simp)) (r' z' (by simp)) (up_ne xz)
    have a : z' = x := (h z' (r' z' (by simp))).mpr e.1
    have b : x' = x := (h x' (r' x' (by simp))).mpr e.2
    exact (up_ne xz (b.trans a.symm)).elim
  | [x, z], [x'], _, _ =>
    have xz := (List.pairwise_cons.mp u).1 z (by simp)
    have e := liesE (r x (by simp)) (r z (by simp)) (up_ne xz)
    have a : z = x' := (h z (r z (by simp))).mp e.1
    have b : x = x' := (h x (r x (by simp))).mp e.2
    exact (up_ne xz (b.trans a.symm)).elim
  | [x, z], [x', z'], _, _ =>
    have rx := r x (by simp)
    have rz := r z (by simp)
    have rx' := r' x' (by simp)
    have rz' := r' z' (by simp)
    have xz := (List.pairwise_cons.mp u).1 z (by simp)
    have xz' := (List.pairwise_cons.mp u').1 z' (by simp)
    have e := liesE rx rz (up_ne xz)
    have e' := liesE rx' rz' (up_ne xz')
    have a1 := lies_in xz' ((h z rz).mp e.1)
    have a2 := lies_in xz' ((h x rx).mp e.2)
    have b1 := lies_in xz ((h z' rz').mpr e'.1)
    have b2 := lies_in xz ((h x' rx').mpr e'.2)
    rw [hl_tot rx rx' a2.1 b2.1, hl_tot rz rz' b1.2 a1.2]
theorem meet_up {p q r s : H3} (a : Seg p q) (b : Seg r s) : UpL (meetL p q r s) := by
  unfold meetL
  split
  · rename_i h
    exact cmn_up a.rp a.rq b.rp b.rq a.ne b.ne h.1 h.2
  · split
    · exact List.Pairwise.nil
    · exact List.pairwise_singleton _ _
theorem Seg.back {p q : H3} (a : Seg p q) : Seg q p := ⟨a.rq, a.rp, a.ne.symm, a.bq, a.bp⟩
theorem meet_sw {p q r s : H3} (a : Seg p q) (b : Seg r s) : meetL r s p q = meetL p q r s :=
  hull_uniq (meet_up b a) (meet_up a b) (fun x hx => (meet_fine b a x hx).1) (fun x hx => (meet_fine a b x hx).1) (meet_len _ _ _ _) (meet_len _ _ _ _) fun y hy => by
    rw [← meet_hull a.rp a.rq b.rp b.rq a.ne b.ne hy, ← meet_hull b.rp b.rq a.rp a.rq b.ne a.ne hy, and_comm]
theorem meet_b1 {p q r s : H3} (a : Seg p q) (b : Seg r s) : meetL q p r s = meetL p q r s :=
  hull_uniq (meet_up a.back b) (meet_up a b) (fun x hx => (meet_fine a.back b x hx).1) (fun x hx => (meet_fine a b x hx).1) (meet_len _ _ _ _) (meet_len _ _ _ _) fun y hy => by
    rw [← meet_hull a.rp a.rq b.rp b.rq a.ne b.ne hy, ← meet_hull a.rq a.rp b.rp b.rq a.ne.symm b.ne hy, liesB a.rp a.rq a.ne]
theorem meet_b2 {p q r s : H3} (a : Seg p q) (b : Seg r s) : meetL p q s r = meetL p q r s := by
  rw [← meet_sw a b.back, meet_b1 b a, meet_sw a b]
/-! ### any place -/
def C_any : Ct := fun as S R => ∃ (f : Fm) (L : List Sg2), as = [.wel, .dat (fmd f), .dat (.list (L.map ppo)), .dat (.list [])] ∧ FmOk f ∧ L.length ≤ 12 ∧ (∀ z ∈ L, GL z) ∧ WOk S ∧ ∀ x S', Fine x → WOk S' → R (hd x) S'
theorem one_fine {M : List H3} {S : SW} {R : PyData → SW → Prop} (ne : (!(M.map hd).isEmpty) = true) (hl : M.length ≤ 2) (hM : ∀ x ∈ M, Fine x) (w : WOk S) (h : ∀ x S', Fine x → WOk S' → R (hd x) S') : C_one [.wel, .dat (.list (M.map hd))] S R := by
  cases M with
  | nil => cases ne
  | cons x l =>
    refine one_ofL rfl (by simp at hl ⊢; omega) w fun d S' hd w' => ?_
    obtain ⟨y, hy, rfl⟩ := List.mem_map.mp hd
    exact h y S' (hM y hy) w'
theorem c_any : ∀ as S R, as.length = 4 → C_any as S R → G_law_any_place C_draw C_one C_meet C_middle C_own C_dot (ent N_law_any_place as) S { nx := fun _ S' => R .none S', rt := R } := by
  rintro as S R _ ⟨f, L, rfl, hf, hl, hL, w, h⟩
  unfold G_law_any_place
  have low : ∀ d ∈ L.map ppo, Low d := fun d hd => by obtain ⟨z, _, rfl⟩ := List.mem_map.mp hd; exact low_ppo z
  refine w_set (w_welF rfl (w_c ⟨7, rfl, by decide, by decide, w, fun br S1 b0 b1 w1 => ?_⟩))
  refine w_ifS (b := decide (br < 4) && !(L.map ppo).isEmpty) (fun Q q => w_and (fun Q q => ltk rfl q) (fun _ Q q => full_at (.inl rfl) low q) q) (fun e => ?_) (fun _ => ?_)
  · obtain ⟨_, e⟩ := Bool.and_eq_true_iff.mp e
    cases L with
    | nil => cases e
    | cons z0 r0 =>
    refine w_par (w_welF rfl (w_var rfl (one_ofL rfl (by simp at hl ⊢; omega) w1 fun d1 S2 h1 w2 => w_welF rfl (w_var rfl (one_ofL rfl (by simp at hl ⊢; omega) w2 fun d2 S3 h2 w3 => ?_)))))
    obtain ⟨z, hz, rfl⟩ := List.mem_map.mp h1
    obtain ⟨z', hz', rfl⟩ := List.mem_map.mp h2
    have gz := hL z hz
    have gz' := hL z' hz'
    have g := gz.seg
    have g' := gz'.seg
    unfold ppo
    have b1 := gz.a.bh
    have b2 := gz.b.bh
    have b3 := gz'.a.bh
    generalize own z.1 = u at *
    generalize own z.2 = v at *
    generalize own z'.1 = u' at *
    generalize own z'.2 = v' at *
    have pickL : ∃ L : List H3, L.length ≤ 2 ∧ (∀ x ∈ L, Fine x) ∧ ∀ (ρ : Rho) (Q : PyData → SW → Prop), ρ[4]? = some (.dat (.int br)) → ρ[5]? = some (.dat (pp u v)) → ρ[6]? = some (.dat (pp u' v')) → Q (.list (L.map hd)) S3 →
        fIf (fOp oEq (fVarB 4) (fC (.int 2))) (fCall C_meet (gDat (fVar 5) (gDat (fVar 6) gaNil))) (fIf (fOp oEq (fVarB 4) (fC (.int 1))) (fLst (fCons (fOp oIx (fVarB 5) (fC (.int 0))) fNil)) (fLst fNil)) ρ S3 Q := by
      by_cases e2 : br = 2
      · exact ⟨meetL u v u' v', meet_len _ _ _ _, meet_fine g g', fun ρ Q r4 r5 r6 k => w_fIf (b := true) (fun Q q => eqk r4 (by rw [decide_eq_true e2]; exact q)) (fun _ => w_call2 r5 r6 ⟨u, v, u', v', rfl, g, g', k⟩) (fun z => nomatch z)⟩
      · by_cases e1 : br = 1
        · exact ⟨[u], by simp, fun x hx => by rw [List.mem_singleton.mp hx]; exact ⟨g.rp, g.bp.up (by omega)⟩, fun ρ Q r4 r5 r6 k => w_fIf (b := false) (fun Q q => eqk r4 (by rw [decide_eq_false e2]; exact q)) (fun z => nomatch z) (fun _ => w_fIf (b := true) (fun Q q => eqk r4 (by rw [decide_eq_true e1]; exact q)) (fun _ => w_lst1 (w_ix0 r5 k)) (fun z => nomatch z))⟩
        · exact ⟨[], by simp, (fun _ hx => nomatch hx), fun ρ Q r4 r5 r6 k => w_fIf (b := false) (fun Q q => eqk r4 (by rw [decide_eq_false e2]; exact q)) (fun z => nomatch z) (fun _ => w_fIf (b := false) (fun Q q => eqk r4 (by rw [decide_eq_false e1]; exact q)) (fun z => nomatch z) (fun _ => k))⟩
    obtain ⟨M, lM, fM, kM⟩ := pickL
    refine w_set (kM _ _ rfl rfl rfl ?_)
    refine w_ifS (b := !(M.map hd).isEmpty) (fun Q q => full_at (.inl rfl) (fun d hd => by obtain ⟨z, _, rfl⟩ := List.mem_map.mp hd; exact low_hd z) q) (fun e => ?_) (fun _ => ?_)
    · exact w_ret (w_welF rfl (w_var rfl (one_fine e lM fM w3 h)))
    · (try unfold sNext)
      dsimp only
      refine w_ret (w_fIf (b := decide (br = 0)) (fun Q q => eqk rfl q) (fun _ => ?_) (fun _ => ?_))
      · exact w_callF2 (w_ix0 rfl (w_ix1 rfl ⟨u, v, rfl, b1, b2, fun x fx => h x S3 fx w3⟩))
      · exact w_callF2 (w_ix0 rfl (w_ix1 rfl ⟨u', v, rfl, b3, b2, fun x fx => h x S3 fx w3⟩))
  · (try unfold sNext)
    dsimp only
    refine w_ifS (b := decide (br = 4) && false) (fun Q q => w_and (fun Q q => eqk rfl q) (fun _ Q q => full_at (l := []) (.inl rfl) (fun _ h => nomatch h) q) q) (fun e => by simp at e) (fun _ => ?_)
    (try unfold sNext)
    dsimp only
    refine w_ret (w_callF (w_welF rfl (w_var rfl ⟨f, rfl, hf, w1, fun z S2 rz bz w2 => ⟨z, rfl, bz.up (by omega), h _ S2 ⟨own_red bz, ?_⟩ w2⟩⟩)))
    exact (own_bh bz).up (by omega)
end K05

namespace K05
open PySem L2 DL
local macro_rules | `(tactic| walk_at "dw") => `(tactic| try simp -implicitDefEqProofs only [sSeq, sIf, sRet, sRetN, sRetV, sSet, sNext, sPar, sPar3, sAsg, sDrop, sOwn, sApp, sIns, sPut, sNever, sFrz, sParO, fOr, fAnd, fNot, fIf, fOp, fUn, fVar, fVarB, fC, fCons, fNil, fTup, fLst, fSl, fP, fNoP, fCall, fCallK, gDat, gaNil, gWel, fChain, fWix, sWput, sWdiv, gNm, gTp, gsNil, gsCons, fiL, fiT, fiE, fiR1, fiR2, sFor, rowD, ent, asB_bool, asI_int, if_tt, if_ff,
  List.getElem?_cons_zero, List.getElem?_cons_succ, List.set_cons_zero, List.set_cons_succ, List.cons_append, List.nil_append, List.length_cons, List.length_nil, List.replicate, Nat.zero_add, Nat.reduceAdd, Nat.reduceSub,
  isi_tup, oReprG_bool, oGtD_int, oLeD_int, oGeD_int, oMixD_int, oMixD_tup, oMixD_bi, oMixD_ib, oMixD_bb, oStrD_int, oListD_tup, oListD_lst, oTupleD_lst, oTupleD_tup, oBackD_tup, oBackD_lst, oNegD_int, isi_strD, isi_intD, isi_boolD, isi_listD, isTup.eq_1, isTup.eq_2, isStr.eq_1, isStr.eq_2, isNum.eq_1, isNum.eq_2, Bool.not_true, Bool.not_false, oIx_tup, oIx_lst, oEq_int, oEq_str, oEq_bool, oEq_nil, oNe_int, oNe_str, oNe_bool, oLen_tup, oLen_lst, oI_int, oIC_int, oAdd_int, oAdd_tup, oAdd_lst, oLt_int, oInt_int, oInt_bool, oIn_tup, oIn_lst, oSl_tup, oSl_lst,
  atI_zero, atI_one, atI_two, atI_three, atI_four, cut_from1, true_and, Bool.false_eq_true, if_false, if_true])
instance decH3 : DecidableEq H3 := fun p q => decidable_of_iff (p.x = q.x ∧ p.y = q.y ∧ p.w = q.w) ⟨fun h => by cases p; cases q; simp_all, fun h => by rw [h]; exact ⟨rfl, rfl, rfl⟩⟩
/-! ### rows of told places -/
def tds (V : List H3) : List PyData := V.map fun x => pd (told x)
theorem lg_pd {x : H3} (h : Fine x) : Lg 2 512 (pd (told x)) := by
  have b := told_bp h.2
  have q : ∀ z : Int × Int, Bq 118 z → Lg 1 247 (qd z) := fun z hz => (Lg.tup (n := 0) (.cons (.int (k := 118) (by omega) hz.2.1) (.cons (.int (k := 118) (by omega) hz.2.2) LgAll.nil))).up (by omega) (by omega)
  exact (Lg.tup (n := 1) (.cons (q _ b.1) (.cons (q _ b.2) LgAll.nil))).up (by omega) (by omega)
theorem lg_tds {V : List H3} (h : ∀ x ∈ V, Fine x) : LgAll 2 (514 * V.length) (tds V) :=
  (LgAll.of (N := 512) fun d hd => by
    obtain ⟨x, hx, rfl⟩ := List.mem_map.mp hd
    exact lg_pd (h x hx)).up (by unfold tds; rw [List.length_map]; omega)
theorem any_tds {V : List H3} {x : H3} (hV : ∀ y ∈ V, Fine y) (hx : Fine x) : ((tds V).any fun z => PyData.eqv z (pd (told x))) = decide (x ∈ V) := by
  rw [Bool.eq_iff_iff, List.any_eq_true, decide_eq_true_eq]
  constructor
  · rintro ⟨d, hd, e⟩
    obtain ⟨y, hy, rfl⟩ := List.mem_map.mp hd
    rw [eqv_pd] at e
    rw [← told_inj' (hV y hy).1 hx.1 (of_decide_eq_true e)]
    exact hy
  · intro h
    exact ⟨_, List.mem_map.mpr ⟨x, h, rfl⟩, by rw [eqv_pd]; exact decide_eq_true rfl⟩
theorem ins_up : ∀ {V : List H3} {x : H3}, (∀ y ∈ V, Red y) → Red x → UpL V → x ∉ V → UpL (V.take (V.filter fun y => hless y x).length ++ [x] ++ V.drop (V.filter fun y => hless y x).length)
  | [], x, _, _, _, _ => List.pairwise_singleton _ _
  | y :: r, x, hV, hx, up, nx => by
    have ry := hV y (by simp)
    obtain ⟨u1, u2⟩ := List.pairwise_cons.mp up
    by_cases c : hless y x = true
    · rw [List.filter_cons_of_pos (by simpa using c)]
      have ih := ins_up (V := r) (x := x) (fun z hz => hV z (by simp [hz])) hx u2 (fun z => nx (by simp [z]))
      simp only [List.length_cons, List.take_succ_cons, List.drop_succ_cons, List.cons_append]
      refine List.pairwise_cons.mpr ⟨fun z hz => ?_, ih⟩
      simp only [List.append_assoc, List.mem_append, List.mem_cons, List.not_mem_nil, or_false, List.cons_append, List.nil_append] at hz
      rcases hz with hz | rfl | hz
      · exact u1 z (List.mem_of_mem_take hz)
      · exact c
      · exact u1 z (List.mem_of_mem_drop hz)
    · have c' : hless y x = false := by simpa using c
      have e : r.filter (fun y => hless y x) = [] := by
        rw [List.filter_eq_nil_iff]
        intro z hz h
        have := hl_trans ry.1 (hV z (by simp [hz])).1 hx.1 (u1 z hz) h
        rw [c'] at this
        cases this
      rw [List.filter_cons_of_neg (by simp [c']), e]
      simp only [List.length_nil, List.take_zero, List.drop_zero, List.nil_append, List.cons_append]
      have xy : hless x y = true := by
        cases k : hless x y
        · exact absurd (hl_tot hx ry k c') (fun z => nx (by simp [z]))
        · rfl
      exact List.pairwise_cons.mpr ⟨fun z hz => by
        rcases List.mem_cons.mp hz with rfl | hz
        · exact xy
        · exact hl_trans hx.1 ry.1 (hV z (by simp [hz])).1 xy (u1 z hz), up⟩
def C_with : Ct := fun as S R => ∃ (V : List H3) (x : H3), as = [.dat (.list (tds V)), .dat (pd (told x))] ∧ UpL V ∧ (∀ y ∈ V, Fine y) ∧ Fine x ∧ V.length ≤ 400 ∧
  ∀ V', UpL V' → (∀ y, y ∈ V' ↔ y ∈ V ∨ y = x) → V'.length ≤ V.length + 1 → R (.list (tds V')) S
theorem c_with : ∀ as S R, as.length = 2 → C_with as S R → G_with_point C_first (ent N_with_point as) S { nx := fun _ S' => R .none S', rt := R } := by
  rintro as S R _ ⟨V, x, rfl, up, hV, hx, hl, h⟩
  unfold G_with_point
  have shx : SeqAt.shaped (pd (told x)) = true := (lg_pd hx).shaped (by omega)
  have shV : SeqAt.shaped (.list (tds V)) = true := (Lg.lst (lg_tds hV)).shaped (by omega)
  refine w_ifS (b := decide (x ∈ V)) (fun Q q => w_op (w_varB rfl (w_varB rfl ?_))) (fun e => ?_) (fun e => ?_)
  · refine (show _ ∧ _ ∧ _ from ⟨shx, shV, ?_⟩)
    simp only [Bool.false_eq_true, if_false]
    rw [any_tds hV hx]
    exact q
  · exact h V up (fun y => ⟨.inl, fun z => z.elim id fun z => by rw [z]; exact of_decide_eq_true e⟩) (by omega)
  (try unfold sNext)
  dsimp only
  have nx : x ∉ V := of_decide_eq_false e
  refine w_set (w_un (fLc_keep (ds := tds V) (f := fun d => first (unP d) (told x)) (g := fun d => d) (fun T t => ?_) (by unfold tds; rw [List.length_map]; omega) (fun v hv xs => by simp at hv; subst hv; simp [ent]) (fun d hd R k => ?_) (fun d hd _ R k => w_var rfl k) ?_))
  · unfold fiL
    exact w_var rfl t
  · obtain ⟨y, hy, rfl⟩ := List.mem_map.mp hd
    exact w_call2 rfl rfl ⟨told y, told x, rfl, (told_bp (hV y hy).2).up (by omega), (told_bp hx.2).up (by omega), k⟩
  rw [oLen_lst, List.map_id']
  have ef : ((tds V).filter fun d => first (unP d) (told x)) = tds (V.filter fun y => hless y x) := by
    unfold tds
    rw [List.filter_map]
    congr 1
    refine List.filter_congr fun y hy => ?_
    exact first_told (hV y hy).1 hx.1
  rw [ef, show (tds (V.filter fun y => hless y x)).length = (V.filter fun y => hless y x).length from by unfold tds; rw [List.length_map]]
  have iu := ins_up (fun y hy => (hV y hy).1) hx.1 up nx
  have kl : (V.filter fun y => hless y x).length ≤ V.length := List.length_filter_le _ _
  generalize (V.filter fun y => hless y x).length = k at *
  have fin : R (.list (tds (V.take k ++ [x] ++ V.drop k))) S := by
    refine h _ iu (fun y => ?_) (by simp only [List.length_append, List.length_take, List.length_drop, List.length_singleton]; omega)
    simp only [List.mem_append, List.mem_singleton]
    conv => rhs; rw [← List.take_append_drop k V, List.mem_append]
    constructor
    · rintro ((a | a) | a)
      · exact .inl (.inl a)
      · exact .inr a
      · exact .inl (.inr a)
    · rintro ((a | a) | a)
      · exact .inl (.inl a)
      · exact .inr a
      · exact .inl (.inr a)
  have et : tds (V.take k ++ [x] ++ V.drop k) = (tds V).take k ++ [pd (told x)] ++ (tds V).drop k := by
    unfold tds
    rw [List.map_append, List.map_append, List.map_take, List.map_drop]
    rfl
  rw [et] at fin
  have lt : (tds V).length = V.length := by unfold tds; rw [List.length_map]
  clear et iu shx shV ef
  generalize tds V = T at *
  generalize pd (told x) = d at *
  change (fOp oAdd (fOp oAdd (fSl (fVarB 0) fNoP (fP (fVarB 2))) (fLst (fCons (fVar 1) fNil))) (fSl (fVarB 0) (fP (fVarB 2)) fNoP)) [.dat (.list T), .dat d, .dat (.int k), .un] S R
  walk_at "dw"
  rw [cut_to, cut_from]
  exact ⟨small_leD _ (by simp only [List.length_take, List.length_singleton]; omega), small_leD _ (by simp only [List.length_append, List.length_take, List.length_drop, List.length_singleton]; omega), fin⟩
/-! ### what a cut holds -/
def m2 (z y : Sg2) : List H3 := meetL (own z.1) (own z.2) (own y.1) (own y.2)
theorem m2_fine {z y : Sg2} (hz : GL z) (hy : GL y) : ∀ x ∈ m2 z y, Fine x := meet_fine hz.seg hy.seg
theorem m2_sw {z y : Sg2} (hz : GL z) (hy : GL y) : m2 y z = m2 z y := meet_sw hz.seg hy.seg
def swp (z : Sg2) : Sg2 := (z.2, z.1)
theorem GL.swp {z : Sg2} (h : GL z) : GL (swp z) := ⟨h.b, h.a, h.ne.symm⟩
theorem m2_swp {z y : Sg2} (hz : GL z) (hy : GL y) : m2 (swp z) (swp y) = m2 z y := by
  have e1 : m2 (swp z) (swp y) = m2 z (swp y) := meet_b1 hz.seg hy.swp.seg
  have e2 : m2 z (swp y) = m2 z y := meet_b2 hz.seg hy.seg
  rw [e1, e2]
def meetsIn : List Sg2 → List Sg2 → H3 → Prop
  | _, [], _ => False
  | done, z :: r, x => (∃ y ∈ done, x ∈ m2 z y) ∨ meetsIn (done ++ [z]) r x
theorem meetsIn_iff : ∀ {r done : List Sg2} {x : H3}, meetsIn done r x ↔ ∃ (i j : Nat) (z y : Sg2), j < i ∧ done.length ≤ i ∧ (done ++ r)[i]? = some z ∧ (done ++ r)[j]? = some y ∧ x ∈ m2 z y
  | [], done, x => by
    constructor
    · intro h; exact h.elim
    · rintro ⟨i, j, z, y, _, h, e, _⟩
      rw [List.getElem?_eq_none (by simp; omega)] at e
      cases e
  | z :: r, done, x => by
    have e0 : done ++ z :: r = done ++ [z] ++ r := by simp
    have at0 : (done ++ z :: r)[done.length]? = some z := by simp
    constructor
    · rintro (⟨y, hy, hx⟩ | h)
      · obtain ⟨j, hj⟩ := List.getElem?_of_mem hy
        have lj := (List.getElem?_eq_some_iff.mp hj).1
        exact ⟨done.length, j, z, y, lj, Nat.le_refl _, at0, by rw [List.getElem?_append_left lj]; exact hj, hx⟩
      · obtain ⟨i, j, a, b, h1, h2, h3, h4, h5⟩ := meetsIn_iff.mp h
        rw [← e0] at h3 h4
        exact ⟨i, j, a, b, h1, by simp at h2; omega, h3, h4, h5⟩
    · rintro ⟨i, j, a, b, h1, h2, h3, h4, h5⟩
      rcases Nat.eq_or_lt_of_le h2 with e | lt
      · subst e
        rw [at0] at h3
        cases h3
        rw [List.getElem?_append_left h1] at h4
        exact .inl ⟨b, List.mem_of_getElem? h4, h5⟩
      · rw [e0] at h3 h4
        exact .inr (meetsIn_iff.mpr ⟨i, j, a, b, h1, by simp; omega, h3, h4, h5⟩)
/-- the meetings of unlike places of a row -/
def Mt (L : List Sg2) (x : H3) : Prop := ∃ (i j : Nat) (z y : Sg2), i ≠ j ∧ L[i]? = some z ∧ L[j]? = some y ∧ x ∈ m2 z y
theorem mt_iff {L : List Sg2} (hL : ∀ z ∈ L, GL z) {x : H3} : meetsIn [] L x ↔ Mt L x := by
  rw [meetsIn_iff]
  constructor
  · rintro ⟨i, j, z, y, h1, _, h2, h3, h4⟩
    exact ⟨i, j, z, y, by omega, h2, h3, h4⟩
  · rintro ⟨i, j, z, y, h1, h2, h3, h4⟩
    rcases Nat.lt_or_gt_of_ne h1 with h | h
    · exact ⟨j, i, y, z, h, Nat.zero_le _, h3, h2, by rw [m2_sw (hL z (List.mem_of_getElem? h2)) (hL y (List.mem_of_getElem? h3))]; exact h4⟩
    · exact ⟨i, j, z, y, h, Nat.zero_le _, h2, h3, h4⟩
def backL (L : List Sg2) : List Sg2 := (L.map swp).reverse
theorem backL_at {L : List Sg2} {i : Nat} {z : Sg2} (h : L[i]? = some z) : (backL L)[L.length - 1 - i]? = some (swp z) := by
  have lt := (List.getElem?_eq_some_iff.mp h).1
  unfold backL
  rw [List.getElem?_reverse (by rw [List.length_map]; omega), List.length_map, show L.length - 1 - (L.length - 1 - i) = i from by omega, List.getElem?_map, h]
  rfl
theorem backL_back (L : List Sg2) : backL (backL L) = L := by
  unfold backL
  rw [List.map_reverse, List.reverse_reverse, List.map_map]
  conv => rhs; rw [← List.map_id L]
  rfl
theorem backL_gl {L : List Sg2} (hL : ∀ z ∈ L, GL z) : ∀ z ∈ backL L, GL z := fun z hz => by
  unfold backL at hz
  rw [List.mem_reverse, List.mem_map] at hz
  obtain ⟨y, hy, rfl⟩ := hz
  exact (hL y hy).swp
theorem mt_back1 {L : List Sg2} (hL : ∀ z ∈ L, GL z) {x : H3} (h : Mt L x) : Mt (backL L) x := by
  obtain ⟨i, j, z, y, h1, h2, h3, h4⟩ := h
  have l1 := (List.getElem?_eq_some_iff.mp h2).1
  have l2 := (List.getElem?_eq_some_iff.mp h3).1
  exact ⟨_, _, _, _, by omega, backL_at h2, backL_at h3, by rw [m2_swp (hL z (List.mem_of_getElem? h2)) (hL y (List.mem_of_getElem? h3))]; exact h4⟩
def cutM (L : List Sg2) (D : List H3) (x : H3) : Prop := x ∈ D ∨ (∃ z ∈ L, x = own z.1 ∨ x = own z.2) ∨ Mt L x
theorem cutM_back {L : List Sg2} {D D' : List H3} (hL : ∀ z ∈ L, GL z) (hD : ∀ x, x ∈ D' ↔ x ∈ D) (x : H3) : cutM (backL L) D' x ↔ cutM L D x := by
  unfold cutM
  have a : Mt (backL L) x ↔ Mt L x := ⟨fun h => by
    have := mt_back1 (backL_gl hL) h
    rw [backL_back] at this
    exact this, mt_back1 hL⟩
  have b : (∃ z ∈ backL L, x = own z.1 ∨ x = own z.2) ↔ ∃ z ∈ L, x = own z.1 ∨ x = own z.2 := by
    unfold backL
    constructor
    · rintro ⟨z, hz, h⟩
      rw [List.mem_reverse, List.mem_map] at hz
      obtain ⟨y, hy, rfl⟩ := hz
      exact ⟨y, hy, h.symm⟩
    · rintro ⟨z, hz, h⟩
      exact ⟨swp z, by rw [List.mem_reverse, List.mem_map]; exact ⟨z, hz, rfl⟩, h.symm⟩
  rw [hD, a, b]
theorem own_fine {a : P2} (h : GP a) : Fine (own a) := ⟨own_red h.bp, h.bh.up (by omega)⟩
theorem cutM_fine {L : List Sg2} {D : List H3} (hL : ∀ z ∈ L, GL z) (hD : ∀ x ∈ D, Fine x) {x : H3} (h : cutM L D x) : Fine x := by
  rcases h with h | ⟨z, hz, h | h⟩ | ⟨i, j, z, y, _, h2, h3, h4⟩
  · exact hD x h
  · rw [h]; exact own_fine (hL z hz).a
  · rw [h]; exact own_fine (hL z hz).b
  · exact m2_fine (hL z (List.mem_of_getElem? h2)) (hL y (List.mem_of_getElem? h3)) x h4
end K05

namespace K05
open PySem L2 DL
local macro_rules | `(tactic| walk_at "dw") => `(tactic| try simp -implicitDefEqProofs only [sSeq, sIf, sRet, sRetN, sRetV, sSet, sNext, sPar, sPar3, sAsg, sDrop, sOwn, sApp, sIns, sPut, sNever, sFrz, sParO, fOr, fAnd, fNot, fIf, fOp, fUn, fVar, fVarB, fC, fCons, fNil, fTup, fLst, fSl, fP, fNoP, fCall, fCallK, gDat, gaNil, gWel, fChain, fWix, sWput, sWdiv, gNm, gTp, gsNil, gsCons, fiL, fiT, fiE, fiR1, fiR2, sFor, rowD, ent, asB_bool, asI_int, if_tt, if_ff,
  List.getElem?_cons_zero, List.getElem?_cons_succ, List.set_cons_zero, List.set_cons_succ, List.cons_append, List.nil_append, List.length_cons, List.length_nil, List.replicate, Nat.zero_add, Nat.reduceAdd, Nat.reduceSub,
  isi_tup, oReprG_bool, oGtD_int, oLeD_int, oGeD_int, oMixD_int, oMixD_tup, oMixD_bi, oMixD_ib, oMixD_bb, oStrD_int, oListD_tup, oListD_lst, oTupleD_lst, oTupleD_tup, oBackD_tup, oBackD_lst, oNegD_int, isi_strD, isi_intD, isi_boolD, isi_listD, isTup.eq_1, isTup.eq_2, isStr.eq_1, isStr.eq_2, isNum.eq_1, isNum.eq_2, Bool.not_true, Bool.not_false, oIx_tup, oIx_lst, oEq_int, oEq_str, oEq_bool, oEq_nil, oNe_int, oNe_str, oNe_bool, oLen_tup, oLen_lst, oI_int, oIC_int, oAdd_int, oAdd_tup, oAdd_lst, oLt_int, oInt_int, oInt_bool, oIn_tup, oIn_lst, oSl_tup, oSl_lst,
  atI_zero, atI_one, atI_two, atI_three, atI_four, cut_from1, true_and, Bool.false_eq_true, if_false, if_true])
theorem small_ltD {n : Nat} (h : n ≤ 1002) : n < sizeLine := by rw [sizeLine_eq]; omega
theorem comby_c {z y : Sg2} (gz : GL z) (gy : GL y) {S : SW} {Q : PyData → SW → Prop} (h : Q (.tuple (tds (m2 z y))) S) : C_comby [.dat (sgp z), .dat (sgp y)] S Q := by
  have e : ∀ {z : Sg2}, GL z → sgp z = sg2 (told (own z.1)) (told (own z.2)) := fun {z} g => by unfold sgp; rw [told_own g.a.rp g.a.bp, told_own g.b.rp g.b.bp]
  rw [e gz, e gy]
  have a := gz.seg
  have b := gy.seg
  refine ⟨_, _, _, _, rfl, ⟨(told_bp a.bp).up (by omega), (told_bp a.bq).up (by omega), (told_bp b.bp).up (by omega), (told_bp b.bq).up (by omega)⟩, fun o => ?_, ?_⟩
  · have ip := told_is a.rp.1
    have iq := told_is a.rq.1
    have ir := told_is b.rp.1
    have is := told_is b.rq.1
    have o' := fun z => o ((w_zero ip iq ir is).mpr z)
    rw [meetX_eq ip iq ir is o']
    exact (told_bp (cross_bh a.bp a.bq b.bp b.bq o')).up (by omega)
  · rw [com_told a.rp a.rq b.rp b.rq a.ne b.ne, List.map_map]
    exact h
/-! ### the program's vertices -/
abbrev InsB (Cw : Ct) : FS := sSet 2 (fCall Cw (gDat (fVar 2) (gDat (fVar 4) gaNil)))
abbrev MeetB (Cw Cc : Ct) : FS := sFor (fiT (fCall Cc (gDat (fVar 3) (gDat (fVar 6) gaNil)))) (gNm 4) (InsB Cw)
abbrev OutB (Cw Cc : Ct) : FS := sFor (fiT (fSl (fVarB 0) fNoP (fP (fVarB 5)))) (gNm 6) (MeetB Cw Cc)
def vR (L : List Sg2) (b : PyData) (V : List H3) (x3 x4 x5 x6 x7 : Sl) : Rho := [.dat (.tuple (L.map sgp)), .dat b, .dat (.list (tds V)), x3, x4, x5, x6, x7]
theorem ins_loop {L : List Sg2} {b : PyData} {x3 x5 x6 x7 : Sl} {S : SW} {B : Out} : ∀ (M V : List H3) (x4 : Sl), UpL V → (∀ y ∈ V, Fine y) → (∀ y ∈ M, Fine y) → V.length + M.length ≤ 400 →
    (∀ V' x4', UpL V' → (∀ y, y ∈ V' ↔ y ∈ V ∨ y ∈ M) → V'.length ≤ V.length + M.length → B.nx (vR L b V' x3 x4' x5 x6 x7) S) →
    forGo (gNm 4) (InsB C_with) (tds M) (vR L b V x3 x4 x5 x6 x7) S B
  | [], V, x4, up, hV, _, hl, h => w_goN (h V x4 up (fun y => by simp) (by simp))
  | x :: M, V, x4, up, hV, hM, hl, h => by
    simp only [List.length_cons] at hl
    refine w_go (w_setE (w_call2 rfl rfl ⟨V, x, rfl, up, hV, hM x (by simp), by omega, fun V' up' m' l' => ?_⟩))
    have fV' : ∀ y ∈ V', Fine y := fun y hy => ((m' y).mp hy).elim (hV y) fun e => by rw [e]; exact hM x (by simp)
    exact ins_loop M V' (.dat (pd (told x))) up' fV' (fun y hy => hM y (by simp [hy])) (by omega) fun V'' x4' u'' m'' l'' => h V'' x4' u'' (fun y => by rw [m'', m', List.mem_cons, or_assoc]) (by simp only [List.length_cons]; omega)
theorem meets_loop {L : List Sg2} {b : PyData} {z : Sg2} {x5 x7 : Sl} {S : SW} {B : Out} (gz : GL z) : ∀ (ys : List Sg2) (V : List H3) (x4 x6 : Sl), UpL V → (∀ y ∈ V, Fine y) → (∀ y ∈ ys, GL y) → V.length + 2 * ys.length ≤ 400 →
    (∀ V' x4' x6', UpL V' → (∀ x, x ∈ V' ↔ x ∈ V ∨ ∃ y ∈ ys, x ∈ m2 z y) → V'.length ≤ V.length + 2 * ys.length → B.nx (vR L b V' (.dat (sgp z)) x4' x5 x6' x7) S) →
    forGo (gNm 6) (MeetB C_with C_comby) (ys.map sgp) (vR L b V (.dat (sgp z)) x4 x5 x6 x7) S B
  | [], V, x4, x6, up, hV, _, hl, h => w_goN (h V x4 x6 up (fun y => by simp) (by simp))
  | y :: ys, V, x4, x6, up, hV, hy, hl, h => by
    simp only [List.length_cons] at hl
    have gy := hy y (by simp)
    have ml := meet_len (own z.1) (own z.2) (own y.1) (own y.2)
    refine w_go (w_forE (w_fiT (w_call2 rfl rfl (comby_c gz gy ?_))))
    refine (show forGo (gNm 4) (InsB C_with) (tds (m2 z y)) (vR L b V (.dat (sgp z)) x4 x5 (.dat (sgp y)) x7) S _ from ins_loop (m2 z y) V x4 up hV (m2_fine gz gy) (by unfold m2; omega) fun V' x4' up' m' l' => ?_)
    have fV' : ∀ y ∈ V', Fine y := fun x hx => ((m' x).mp hx).elim (hV x) (m2_fine gz gy x)
    have l2 : V'.length ≤ V.length + 2 := by unfold m2 at l'; omega
    exact meets_loop gz ys V' x4' (.dat (sgp y)) up' fV' (fun y hh => hy y (by simp [hh])) (by omega) fun V'' x4'' x6'' u'' m'' l'' => h V'' x4'' x6'' u'' (fun x => by
      rw [m'', m', or_assoc]
      constructor
      · rintro (h | h | ⟨w, h, k⟩)
        · exact .inl h
        · exact .inr ⟨y, by simp, h⟩
        · exact .inr ⟨w, by simp [h], k⟩
      · rintro (h | ⟨w, h, k⟩)
        · exact .inl h
        · rcases List.mem_cons.mp h with rfl | h
          · exact .inr (.inl k)
          · exact .inr (.inr ⟨w, h, k⟩)) (by simp only [List.length_cons]; omega)
theorem vert_loop {L : List Sg2} {b : PyData} {x7 : Sl} {S : SW} {B : Out} (hL : ∀ z ∈ L, GL z) (hl : L.length ≤ 12) : ∀ (rest done : List Sg2) (V : List H3) (x3 x4 x5 x6 : Sl), L = done ++ rest → UpL V → (∀ y ∈ V, Fine y) → V.length + 24 * rest.length ≤ 400 →
    (∀ V' x3' x4' x5' x6', UpL V' → (∀ x, x ∈ V' ↔ x ∈ V ∨ meetsIn done rest x) → V'.length ≤ V.length + 24 * rest.length → B.nx (vR L b V' x3' x4' x5' x6' x7) S) →
    forGo (gTp 2 (gsCons (gNm 5) (gsCons (gNm 3) gsNil))) (OutB C_with C_comby) (enumD done.length (rest.map sgp)) (vR L b V x3 x4 x5 x6 x7) S B
  | [], done, V, x3, x4, x5, x6, e, up, hV, hn, h => w_goN (h V x3 x4 x5 x6 up (fun y => by simp [meetsIn]) (by simp))
  | z :: r, done, V, x3, x4, x5, x6, e, up, hV, hn, h => by
    simp only [List.length_cons] at hn
    have gz := hL z (by rw [e]; simp)
    have dl : done.length ≤ 12 := by rw [e, List.length_append] at hl; omega
    refine w_goP (w_forE (w_fiT (sl_to (ds := L.map sgp) (k := done.length) rfl rfl ?_)))
    rw [← List.map_take, show L.take done.length = done from by rw [e]; simp]
    refine (show forGo (gNm 6) (MeetB C_with C_comby) (done.map sgp) (vR L b V (.dat (sgp z)) x4 (.dat (.int (done.length : Nat))) x6 x7) S _ from meets_loop gz done V x4 x6 up hV (fun y hy => hL y (by rw [e]; simp [hy])) (by omega) fun V' x4' x6' up' m' l' => ?_)
    have fV' : ∀ y ∈ V', Fine y := fun x hx => ((m' x).mp hx).elim (hV x) fun ⟨y, hy, hx⟩ => m2_fine gz (hL y (by rw [e]; simp [hy])) x hx
    have e2 : L = (done ++ [z]) ++ r := by rw [e]; simp
    have := vert_loop (b := b) (x7 := x7) (S := S) (B := B) hL hl r (done ++ [z]) V' (.dat (sgp z)) x4' (.dat (.int (done.length : Nat))) x6' e2 up' fV' (by omega) fun V'' x3'' x4'' x5'' x6'' u'' m'' l'' => h V'' x3'' x4'' x5'' x6'' u'' (fun x => by rw [m'', m', or_assoc]; rfl) (by simp only [List.length_cons]; omega)
    rw [List.length_append, List.length_singleton] at this
    exact this
theorem ends_go {a0 a1 a2 a4 a5 a6 : Sl} {S : SW} {T : List PyData → SW → Prop} : ∀ (l : List Sg2) (acc : List PyData), (∀ z ∈ l, GL z) → acc.length + 2 * l.length ≤ 1000 → T (acc ++ tds (l.flatMap fun z => [own z.1, own z.2])) S →
    lc2Go (gNm 3) (fiT (fVarB 3)) [7] (gNm 7) (fVar 7) [a0, a1, a2, .un, a4, a5, a6, .un] (l.map sgp) acc S T
  | [], acc, _, hl, h => by simpa [lc2Go, tds] using h
  | z :: l, acc, hL, hl, h => by
    simp only [List.length_cons] at hl
    have g := hL z (by simp)
    refine lc2_cons (w_varB rfl ?_)
    refine lc2In_cons (w_var rfl ⟨small_ltD (by omega), ?_⟩)
    refine lc2In_cons (w_var rfl ⟨small_ltD (by rw [List.length_append, List.length_singleton]; omega), ?_⟩)
    refine lc2In_nil ?_
    refine (show lc2Go (gNm 3) (fiT (fVarB 3)) [7] (gNm 7) (fVar 7) [a0, a1, a2, .un, a4, a5, a6, .un] (l.map sgp) (acc ++ [pd z.1] ++ [pd z.2]) S T from ends_go l _ (fun y hy => hL y (by simp [hy])) (by simp only [List.length_append, List.length_singleton]; omega) ?_)
    have e : acc ++ [pd z.1] ++ [pd z.2] ++ tds (l.flatMap fun z => [own z.1, own z.2]) = acc ++ tds ((z :: l).flatMap fun z => [own z.1, own z.2]) := by
      simp only [tds, List.flatMap_cons, List.map_append, List.map_cons, List.map_nil, told_own g.a.rp g.a.bp, told_own g.b.rp g.b.bp, List.append_assoc, List.cons_append, List.nil_append]
    rw [e]
    exact h
def C_allv : Ct := fun as S R => ∃ (L : List Sg2) (D : List H3), as = [.dat (.tuple (L.map sgp)), .dat (.tuple (tds D))] ∧ L.length ≤ 12 ∧ (∀ z ∈ L, GL z) ∧ D.length ≤ 6 ∧ (∀ x ∈ D, Fine x) ∧ ∀ V, UpL V → (∀ x, x ∈ V ↔ cutM L D x) → V.length ≤ 318 → R (.tuple (tds V)) S
theorem c_allv : ∀ as S R, as.length = 2 → C_allv as S R → G_all_vertices C_with C_comby (ent N_all_vertices as) S { nx := fun _ S' => R .none S', rt := R } := by
  rintro as S R _ ⟨L, D, rfl, hl, hL, hDl, hD, h⟩
  unfold G_all_vertices
  refine w_set (w_lst0 ?_)
  refine w_for ?_
  unfold fiL
  have fE : ∀ x ∈ L.flatMap fun z => [own z.1, own z.2], Fine x := fun x hx => by
    obtain ⟨z, hz, hx⟩ := List.mem_flatMap.mp hx
    simp only [List.mem_cons, List.not_mem_nil, or_false] at hx
    rcases hx with rfl | rfl
    · exact own_fine (hL z hz).a
    · exact own_fine (hL z hz).b
  have lE : (L.flatMap fun z => [own z.1, own z.2]).length = 2 * L.length := by
    have : ∀ l : List Sg2, (l.flatMap fun z => [own z.1, own z.2]).length = 2 * l.length := fun l => by
      induction l with
      | nil => rfl
      | cons z l ih => rw [List.flatMap_cons, List.length_append, ih]; simp; omega
    exact this L
  refine w_op (w_lc2 (w_fiT (w_varB rfl ⟨fun v hv xs => ?_, ends_go L [] hL (by simp; omega) ?_⟩)))
  · simp only [List.mem_cons, List.not_mem_nil, or_false] at hv
    rcases hv with rfl | rfl <;> simp [ent]
  rw [List.nil_append]
  have mE : ∀ x, x ∈ (L.flatMap fun z => [own z.1, own z.2]) ↔ ∃ z ∈ L, x = own z.1 ∨ x = own z.2 := fun x => by
    rw [List.mem_flatMap]
    simp only [List.mem_cons, List.not_mem_nil, or_false]
  generalize (L.flatMap fun z => [own z.1, own z.2]) = E at *
  dsimp only
  refine w_un (w_varB rfl ?_)
  rw [oListD_tup]
  refine (show _ ∧ forGo (gNm 4) (InsB C_with) (tds E ++ tds D) (vR L (.tuple (tds D)) [] .un .un .un .un .un) S _ from ⟨small_leD _ (by simp only [tds, List.length_map]; omega), ?_⟩)
  rw [show tds E ++ tds D = tds (E ++ D) from by unfold tds; rw [List.map_append]]
  refine ins_loop (E ++ D) [] .un List.Pairwise.nil (fun _ hy => nomatch hy) (fun y hy => (List.mem_append.mp hy).elim (fE y) (hD y)) (by simp only [List.length_append, List.length_nil]; omega) fun V x4 up m l => ?_
  simp only [List.length_append, List.length_nil] at l
  have fV : ∀ y ∈ V, Fine y := fun y hy => ((m y).mp hy).elim (fun z => nomatch z) fun hy => (List.mem_append.mp hy).elim (fE y) (hD y)
  dsimp only
  refine w_for ?_
  unfold fiE
  refine w_var rfl ?_
  refine (show forGo (gTp 2 (gsCons (gNm 5) (gsCons (gNm 3) gsNil))) (OutB C_with C_comby) (enumD 0 (L.map sgp)) (vR L (.tuple (tds D)) V .un x4 .un .un .un) S _ from vert_loop hL hl L [] V .un x4 .un .un rfl up fV (by omega) fun V' x3' x4' x5' x6' up' m' l' => ?_)
  dsimp only
  refine w_ret (w_un (w_varB rfl ?_))
  rw [oTupleD_lst]
  refine h V' up' (fun x => ?_) (by omega)
  rw [m', m, mt_iff hL, List.mem_append, mE]
  unfold cutM
  constructor
  · rintro ((h | h | h) | h)
    · cases h
    · exact .inr (.inl h)
    · exact .inl h
    · exact .inr (.inr h)
  · rintro (h | h | h)
    · exact .inl (.inr (.inr h))
    · exact .inl (.inr (.inl h))
    · exact .inr h
end K05

namespace K05
open PySem L2 DL PySem.W
local macro_rules | `(tactic| walk_at "dw") => `(tactic| try simp -implicitDefEqProofs only [sSeq, sIf, sRet, sRetN, sRetV, sSet, sNext, sPar, sPar3, sAsg, sDrop, sOwn, sApp, sIns, sPut, sNever, sFrz, sParO, fOr, fAnd, fNot, fIf, fOp, fUn, fVar, fVarB, fC, fCons, fNil, fTup, fLst, fSl, fP, fNoP, fCall, fCallK, gDat, gaNil, gWel, fChain, fWix, sWput, sWdiv, gNm, gTp, gsNil, gsCons, fiL, fiT, fiE, fiR1, fiR2, sFor, rowD, ent, asB_bool, asI_int, if_tt, if_ff,
  List.getElem?_cons_zero, List.getElem?_cons_succ, List.set_cons_zero, List.set_cons_succ, List.cons_append, List.nil_append, List.length_cons, List.length_nil, List.replicate, Nat.zero_add, Nat.reduceAdd, Nat.reduceSub,
  isi_tup, oReprG_bool, oGtD_int, oLeD_int, oGeD_int, oMixD_int, oMixD_tup, oMixD_bi, oMixD_ib, oMixD_bb, oStrD_int, oListD_tup, oListD_lst, oTupleD_lst, oTupleD_tup, oBackD_tup, oBackD_lst, oNegD_int, isi_strD, isi_intD, isi_boolD, isi_listD, isTup.eq_1, isTup.eq_2, isStr.eq_1, isStr.eq_2, isNum.eq_1, isNum.eq_2, Bool.not_true, Bool.not_false, oIx_tup, oIx_lst, oEq_int, oEq_str, oEq_bool, oEq_nil, oNe_int, oNe_str, oNe_bool, oLen_tup, oLen_lst, oI_int, oIC_int, oAdd_int, oAdd_tup, oAdd_lst, oLt_int, oInt_int, oInt_bool, oIn_tup, oIn_lst, oSl_tup, oSl_lst,
  atI_zero, atI_one, atI_two, atI_three, atI_four, cut_from1, true_and, Bool.false_eq_true, if_false, if_true])
/-! ### which of a row's places are met -/
def rowI (f : H3 → Bool) : Nat → List H3 → List Int
  | _, [] => []
  | k, x :: r => if f x = true then (k : Int) :: rowI f (k + 1) r else rowI f (k + 1) r
theorem rowI_len (f : H3 → Bool) : ∀ (k : Nat) (l : List H3), (rowI f k l).length ≤ l.length
  | _, [] => by simp [rowI]
  | k, x :: r => by
    have := rowI_len f (k + 1) r
    unfold rowI
    split <;> simp <;> omega
theorem rowI_in (f : H3 → Bool) : ∀ (k : Nat) (l : List H3) (i : Int), i ∈ rowI f k l → (k : Int) ≤ i ∧ i < (k + l.length : Nat)
  | _, [], i, h => by simp [rowI] at h
  | k, x :: r, i, h => by
    have ih := rowI_in f (k + 1) r i
    unfold rowI at h
    simp only [List.length_cons]
    split at h
    · rcases List.mem_cons.mp h with rfl | h
      · omega
      · have := ih h; omega
    · have := ih h; omega
theorem lcGo_row {i j : Nat} {ft : FE} {ρ : Rho} {S : SW} {f : H3 → Bool} {g : H3 → PyData} {T : List PyData → SW → Prop} (hi : i < ρ.length) (hij : i ≠ j) : ∀ (xs : List H3) (k : Nat) (acc : List PyData),
    (∀ x ∈ xs, ∀ k : Nat, ∀ Q : PyData → SW → Prop, Q (.bool (f x)) S → ft ((ρ.set i (.dat (.int k))).set j (.dat (g x))) S Q) → T (acc ++ (rowI f k xs).map .int) S →
    lcGo (gTp 2 (gsCons (gNm i) (gsCons (gNm j) gsNil))) ft (fVar i) ρ (enumD k (xs.map g)) acc S T
  | [], k, acc, _, h => by simpa [lcGo, rowI, enumD] using h
  | x :: r, k, acc, ht, h => by
    refine (show (2 = 2 ∧ [] = [] ∧ ft ((ρ.set i (.dat (.int k))).set j (.dat (g x))) S _) from ⟨rfl, rfl, ht x (by simp) k _ ?_⟩)
    simp only [asB_bool]
    have ih := fun acc => lcGo_row (T := T) hi hij r (k + 1) acc fun y hy => ht y (by simp [hy])
    unfold rowI at h
    by_cases c : f x = true
    · rw [if_pos c] at h ⊢
      refine w_var (d := .int k) ?_ (ih _ (by simpa using h))
      rw [List.getElem?_set_ne (fun z => hij z.symm), List.getElem?_set_self hi]
    · rw [if_neg c] at h ⊢
      exact ih _ h
/-! ### pairs of neighbours, in a dict -/
abbrev E2 := Int × Int
def ek (e : E2) : List Key := [.inl e.1, .inl e.2]
def eT (e : E2) : PyData := .tuple [.int e.1, .int e.2]
theorem ek_inj {e f : E2} (h : ek e = ek f) : e = f := by
  unfold ek at h
  simp only [List.cons.injEq, Sum.inl.injEq, and_true] at h
  exact Prod.ext h.1 h.2
theorem keyT_ek (e : E2) : keyT (ek e) = eT e := rfl
def addE (E : List E2) (e : E2) : List E2 := if e ∈ E then E else E ++ [e]
def addZ : List E2 → List Int → List Int → List E2
  | E, a :: as, b :: bs => addZ (addE E (a, b)) as bs
  | E, _, _ => E
theorem addE_mem {E : List E2} {e x : E2} : x ∈ addE E e ↔ x ∈ E ∨ x = e := by
  unfold addE
  split
  · rename_i h
    exact ⟨.inl, fun z => z.elim id fun z => by rw [z]; exact h⟩
  · rw [List.mem_append, List.mem_singleton]
theorem addE_nd {E : List E2} {e : E2} (h : E.Nodup) : (addE E e).Nodup := by
  unfold addE
  split
  · exact h
  · rename_i hn
    rw [List.nodup_append]
    exact ⟨h, by simp, fun a ha b hb => by rw [List.mem_singleton.mp hb]; exact fun z => hn (by rw [← z]; exact ha)⟩
theorem addE_len (E : List E2) (e : E2) : (addE E e).length ≤ E.length + 1 := by
  unfold addE
  split
  · omega
  · rw [List.length_append, List.length_singleton]; exact Nat.le_refl _
theorem addZ_mem : ∀ {as bs : List Int} {E : List E2} {x : E2}, x ∈ addZ E as bs ↔ x ∈ E ∨ x ∈ as.zip bs
  | [], _, E, x => by simp [addZ]
  | _ :: _, [], E, x => by simp [addZ]
  | a :: as, b :: bs, E, x => by
    rw [addZ, addZ_mem, addE_mem, List.zip_cons_cons, List.mem_cons, or_assoc]
theorem addZ_nd : ∀ {as bs : List Int} {E : List E2}, E.Nodup → (addZ E as bs).Nodup
  | [], _, E, h => h
  | _ :: _, [], E, h => h
  | a :: as, b :: bs, E, h => addZ_nd (as := as) (bs := bs) (addE_nd h)
theorem addZ_len : ∀ (as bs : List Int) (E : List E2), (addZ E as bs).length ≤ E.length + as.length
  | [], _, E => by simp [addZ]
  | _ :: _, [], E => by simp [addZ]
  | a :: as, b :: bs, E => by
    have := addZ_len as bs (addE E (a, b))
    have := addE_len E (a, b)
    simp only [addZ, List.length_cons]
    omega
def HasE (kvs : List (List Key × PyData)) (E : List E2) : Prop := kvs.map (·.1) = E.map ek
theorem hasE_len {kvs : List (List Key × PyData)} {E : List E2} (h : HasE kvs E) : kvs.length = E.length := by
  have := congrArg List.length h
  simpa using this
theorem putD_keys {kvs : List (List Key × PyData)} {E : List E2} (h : HasE kvs E) (e : E2) (d : PyData) : HasE (putD kvs (ek e) d) (addE E e) := by
  have an : (kvs.any fun kv => decide (kv.1 = ek e)) = decide (e ∈ E) := by
    rw [Bool.eq_iff_iff, List.any_eq_true, decide_eq_true_eq]
    constructor
    · rintro ⟨kv, hk, he⟩
      have he := of_decide_eq_true he
      have : kv.1 ∈ kvs.map (·.1) := List.mem_map.mpr ⟨kv, hk, rfl⟩
      rw [h, List.mem_map] at this
      obtain ⟨x, hx, hxe⟩ := this
      rw [he] at hxe
      rw [← ek_inj hxe]
      exact hx
    · intro he
      have : ek e ∈ kvs.map (·.1) := by rw [h]; exact List.mem_map.mpr ⟨e, he, rfl⟩
      obtain ⟨kv, hk, he⟩ := List.mem_map.mp this
      exact ⟨kv, hk, decide_eq_true he⟩
  unfold putD addE HasE
  rw [an]
  by_cases c : e ∈ E
  · rw [if_pos (decide_eq_true c), if_pos c, List.map_map, ← h]
    refine List.map_congr_left fun kv _ => ?_
    simp only [Function.comp]
    split <;> rfl
  · rw [if_neg (by simpa using c), if_neg c, List.map_append, List.map_append, h]
    rfl
theorem putZ_keys : ∀ {as bs : List Int} {kvs : List (List Key × PyData)} {E : List E2}, HasE kvs E → HasE (putZ kvs (as.map .inl) (bs.map .inl)) (addZ E as bs)
  | [], _, _, _, h => by simpa [putZ, addZ] using h
  | _ :: _, [], _, _, h => by simpa [putZ, addZ] using h
  | a :: as, b :: bs, kvs, E, h => by
    simp only [List.map_cons, putZ, addZ]
    exact putZ_keys (putD_keys h (a, b) (.bool true))
/-! ### sorted -/
def eless (e f : E2) : Bool := if e.1 = f.1 then decide (e.2 < f.2) else decide (e.1 < f.1)
theorem el_irr (e : E2) : eless e e = false := by unfold eless; rw [if_pos rfl]; exact decide_eq_false (by omega)
theorem el_asy {e f : E2} (h : eless e f = true) : eless f e = false := by
  unfold eless at *
  by_cases c : e.1 = f.1
  · rw [if_pos c] at h
    rw [if_pos c.symm]
    have := of_decide_eq_true h
    exact decide_eq_false (by omega)
  · rw [if_neg c] at h
    rw [if_neg (fun z => c z.symm)]
    have := of_decide_eq_true h
    exact decide_eq_false (by omega)
theorem el_tot {e f : E2} (h : eless e f = false) (k : eless f e = false) : e = f := by
  unfold eless at *
  by_cases c : e.1 = f.1
  · rw [if_pos c] at h
    rw [if_pos c.symm] at k
    have := of_decide_eq_false h
    have := of_decide_eq_false k
    exact Prod.ext c (by omega)
  · rw [if_neg c] at h
    rw [if_neg (fun z => c z.symm)] at k
    have := of_decide_eq_false h
    have := of_decide_eq_false k
    omega
def UpE (E : List E2) : Prop := E.Pairwise fun e f => eless e f = true
theorem upE_uniq : ∀ {L M : List E2}, UpE L → UpE M → (∀ x, x ∈ L ↔ x ∈ M) → L = M
  | [], [], _, _, _ => rfl
  | [], b :: M, _, _, h => by have := (h b).mpr (by simp); simp at this
  | a :: L, [], _, _, h => by have := (h a).mp (by simp); simp at this
  | a :: L, b :: M, hL, hM, h => by
    obtain ⟨a1, a2⟩ := List.pairwise_cons.mp hL
    obtain ⟨b1, b2⟩ := List.pairwise_cons.mp hM
    have e : a = b := by
      have m1 := (h a).mp (by simp)
      have m2 := (h b).mpr (by simp)
      rcases List.mem_cons.mp m1 with z | z
      · exact z
      · rcases List.mem_cons.mp m2 with y | y
        · exact y.symm
        · have u := el_asy (a1 b y)
          have v := b1 a z
          rw [u] at v
          cases v
    subst e
    rw [upE_uniq a2 b2 fun x => ?_]
    constructor
    · intro hx
      rcases List.mem_cons.mp ((h x).mp (by simp [hx])) with z | z
      · subst z
        have := a1 x hx
        rw [el_irr] at this
        cases this
      · exact z
    · intro hx
      rcases List.mem_cons.mp ((h x).mpr (by simp [hx])) with z | z
      · subst z
        have := b1 x hx
        rw [el_irr] at this
        cases this
      · exact z
theorem eT_lt (e f : E2) : dataLt (eT e) (eT f) = eless e f := by
  unfold eT eless
  rw [dataLt_tuple, dataLt_cons (by simp [alike]), dataLt_cons (by simp [alike]), dataLt_int, dataLt_int]
  have e0 : PyProof.Rows.lexLt PyProof.Rows.itemOrd (keyToksAll []) (keyToksAll []) = false := PyProof.Rows.lex_irrefl _
  rw [e0]
  simp only [PyData.eqv, beq_iff_eq]
  by_cases c : e.1 = f.1
  · rw [if_pos c, if_pos c]
    by_cases c2 : e.2 = f.2
    · rw [if_pos c2]
      exact (decide_eq_false (by omega)).symm
    · rw [if_neg c2]
  · rw [if_neg c, if_neg c]
def unE : PyData → E2
  | .tuple [.int a, .int b] => (a, b)
  | _ => (0, 0)
theorem sort_eT {E : List E2} (nd : E.Nodup) : ∃ E' : List E2, sortD (E.map eT) = E'.map eT ∧ (∀ x, x ∈ E' ↔ x ∈ E) ∧ E'.length = E.length ∧ UpE E' := by
  have p : (sortD (E.map eT)).Perm (E.map eT) := List.mergeSort_perm _ _
  have eq : sortD (E.map eT) = ((sortD (E.map eT)).map unE).map eT := by
    rw [List.map_map]
    conv => lhs; rw [← List.map_id (sortD (E.map eT))]
    refine List.map_congr_left fun d hdm => ?_
    obtain ⟨e, _, rfl⟩ := List.mem_map.mp (p.mem_iff.mp hdm)
    rfl
  have pm : ((sortD (E.map eT)).map unE).Perm E := by
    have := p.map unE
    rw [List.map_map] at this
    have e2 : E.map (unE ∘ eT) = E := by
      conv => rhs; rw [← List.map_id E]
      rfl
    rw [e2] at this
    exact this
  refine ⟨(sortD (E.map eT)).map unE, eq, fun x => pm.mem_iff, pm.length_eq, ?_⟩
  have T := sortLe_total (PyProof.Rows.listOrd PyProof.Rows.itemOrd) false fun d : PyData => keyToks d
  have pw : (sortD (E.map eT)).Pairwise fun x y => dataLe false (fun d => d) x y = true := List.pairwise_mergeSort (fun x y z h1 h2 => T.trans x y z h1 h2) (fun x y => by
    have := T.total x y
    simp only [Bool.or_eq_true]
    exact this) _
  rw [eq, List.pairwise_map] at pw
  have nd' : ((sortD (E.map eT)).map unE).Nodup := pm.nodup_iff.mpr nd
  refine (pw.and nd').imp fun {e f} h => ?_
  have h' : (!dataLt (eT f) (eT e)) = true := h.1
  rw [eT_lt] at h'
  have h'' : eless f e = false := by simpa using h'
  cases k : eless e f
  · exact absurd (el_tot k h'') h.2
  · rfl
theorem sortK_at {i : Nat} {kvs : List (List Key × PyData)} {E : List E2} {ρ : Rho} {S : SW} {Q : PyData → SW → Prop} (hρ : ρ[i]? = some (.dct kvs)) (hE : HasE kvs E) (nd : E.Nodup)
    (h : ∀ E', UpE E' → (∀ x, x ∈ E' ↔ x ∈ E) → E'.length = E.length → Q (.list (E'.map eT)) S) : fSortK i ρ S Q := by
  unfold fSortK
  rw [hρ]
  dsimp only
  have ke : kvs.map (fun kv => keyT kv.1) = E.map eT := by
    rw [show kvs.map (fun kv => keyT kv.1) = (kvs.map (·.1)).map keyT from by rw [List.map_map]; rfl, hE, List.map_map]
    rfl
  rw [ke]
  obtain ⟨E', e1, m, l, u⟩ := sort_eT nd
  refine ⟨fun kv hk => ?_, AllAlike.of fun e f => by simp [eT, alike, alikeAll], Sortable.tuples fun e => ⟨_, _, rfl⟩, fun d hd => ?_, ?_⟩
  · have : kv.1 ∈ kvs.map (·.1) := List.mem_map.mpr ⟨kv, hk, rfl⟩
    rw [hE, List.mem_map] at this
    obtain ⟨e, _, he⟩ := this
    rw [← he]
    rfl
  · obtain ⟨e, _, rfl⟩ := List.mem_map.mp hd
    simp [eT, PyData.depth, PyData.depthAll]
  · rw [e1]
    exact h E' u m l
end K05

namespace K05
open PySem L2 DL
local macro_rules | `(tactic| walk_at "dw") => `(tactic| try simp -implicitDefEqProofs only [sSeq, sIf, sRet, sRetN, sRetV, sSet, sNext, sPar, sPar3, sAsg, sDrop, sOwn, sApp, sIns, sPut, sNever, sFrz, sParO, fOr, fAnd, fNot, fIf, fOp, fUn, fVar, fVarB, fC, fCons, fNil, fTup, fLst, fSl, fP, fNoP, fCall, fCallK, gDat, gaNil, gWel, fChain, fWix, sWput, sWdiv, gNm, gTp, gsNil, gsCons, fiL, fiT, fiE, fiR1, fiR2, sFor, rowD, ent, asB_bool, asI_int, if_tt, if_ff,
  List.getElem?_cons_zero, List.getElem?_cons_succ, List.set_cons_zero, List.set_cons_succ, List.cons_append, List.nil_append, List.length_cons, List.length_nil, List.replicate, Nat.zero_add, Nat.reduceAdd, Nat.reduceSub,
  isi_tup, oReprG_bool, oGtD_int, oLeD_int, oGeD_int, oMixD_int, oMixD_tup, oMixD_bi, oMixD_ib, oMixD_bb, oStrD_int, oListD_tup, oListD_lst, oTupleD_lst, oTupleD_tup, oBackD_tup, oBackD_lst, oNegD_int, isi_strD, isi_intD, isi_boolD, isi_listD, isTup.eq_1, isTup.eq_2, isStr.eq_1, isStr.eq_2, isNum.eq_1, isNum.eq_2, Bool.not_true, Bool.not_false, oIx_tup, oIx_lst, oEq_int, oEq_str, oEq_bool, oEq_nil, oNe_int, oNe_str, oNe_bool, oLen_tup, oLen_lst, oI_int, oIC_int, oAdd_int, oAdd_tup, oAdd_lst, oLt_int, oInt_int, oInt_bool, oIn_tup, oIn_lst, oSl_tup, oSl_lst,
  atI_zero, atI_one, atI_two, atI_three, atI_four, cut_from1, true_and, Bool.false_eq_true, if_false, if_true])
theorem small_ltE {n : Nat} (h : n ≤ 12000) : n < sizeLine := by rw [sizeLine_eq]; omega
def rowZ (z : Sg2) (V : List H3) : List Int := rowI (fun x => lies (own z.1) (own z.2) x) 0 V
def nb (l : List Int) : List E2 := l.zip (l.drop 1)
theorem rowZ_swp {z : Sg2} (g : GL z) (V : List H3) : rowZ (swp z) V = rowZ z V := by
  unfold rowZ swp
  have : (fun x => lies (own z.2) (own z.1) x) = fun x => lies (own z.1) (own z.2) x := funext fun x => liesB g.seg.rp g.seg.rq g.seg.ne x
  rw [this]
theorem onby_c {z : Sg2} {x : H3} (g : GL z) (hx : Fine x) {S : SW} {Q : PyData → SW → Prop} (h : Q (.bool (lies (own z.1) (own z.2) x)) S) : C_onby [.dat (sgp z), .dat (pd (told x))] S Q := by
  refine ⟨z.1, z.2, told x, rfl, g.a.bp.up (by omega), g.b.bp.up (by omega), (told_bp hx.2).up (by omega), ?_⟩
  rw [onB_lies (own_is g.a.bp) (own_is g.b.bp) (told_is hx.1.1) g.a.rp g.b.rp (told_rp hx.1.1)]
  exact h
theorem lies_c {z : Sg2} {x : H3} (g : GL z) (hx : Fine x) {S : SW} {Q : PyData → SW → Prop} (h : Q (.bool (lies (own z.1) (own z.2) x)) S) : C_lies [.dat (hd (own z.1)), .dat (hd (own z.2)), .dat (hd x)] S Q :=
  ⟨_, _, _, rfl, g.a.bh.up (by omega), g.b.bh.up (by omega), hx.2.up (by omega), h⟩
/-! ### the program's edges -/
abbrev EdgeB (Con : Ct) : FS := sSeq (sSet 4 (fLc (fiE (fVar 1)) [6, 7] (gTp 2 (gsCons (gNm 6) (gsCons (gNm 7) gsNil))) (fCall Con (gDat (fVar 3) (gDat (fVar 7) gaNil))) (fVar 6)))
    (sZipPut 2 5 (fVar 4) (fSl (fVarB 4) (fP (fC (.int 1))) fNoP))
theorem nb_len (l : List Int) : (nb l).length ≤ l.length := by unfold nb; rw [List.length_zip]; omega
theorem edge_loop {a : Sl} {V : List H3} {S : SW} {B : Out} (hV : ∀ x ∈ V, Fine x) (lV : V.length ≤ 400) : ∀ (zs : List Sg2) (kvs : List (List Key × PyData)) (E : List E2) (x3 x4 : Sl), HasE kvs E → E.Nodup → (∀ z ∈ zs, GL z) → E.length + V.length * zs.length ≤ 10000 →
    (∀ kvs' E' x3' x4', HasE kvs' E' → E'.Nodup → (∀ e, e ∈ E' ↔ e ∈ E ∨ ∃ z ∈ zs, e ∈ nb (rowZ z V)) → E'.length ≤ E.length + V.length * zs.length → B.nx [a, .dat (.tuple (tds V)), .dct kvs', x3', x4', .un, .un, .un] S) →
    forGo (gNm 3) (EdgeB C_onby) (zs.map sgp) [a, .dat (.tuple (tds V)), .dct kvs, x3, x4, .un, .un, .un] S B
  | [], kvs, E, x3, x4, hE, nd, _, _, h => w_goN (h kvs E x3 x4 hE nd (fun e => by simp) (by simp))
  | z :: zs, kvs, E, x3, x4, hE, nd, hz, hl, h => by
    have g := hz z (by simp)
    have rl := rowI_len (fun x => lies (own z.1) (own z.2) x) 0 V
    rw [List.length_cons, Nat.mul_succ] at hl
    refine w_go (w_set (w_lc (w_fiE (w_var rfl ⟨fun v hv xs => ?_, small_leD _ (by rw [enumD_len]; unfold tds; rw [List.length_map]; omega), ?_⟩))))
    · simp only [List.mem_cons, List.not_mem_nil, or_false] at hv
      rcases hv with rfl | rfl <;> simp
    refine (show lcGo (gTp 2 (gsCons (gNm 6) (gsCons (gNm 7) gsNil))) (fCall C_onby (gDat (fVar 3) (gDat (fVar 7) gaNil))) (fVar 6) [a, .dat (.tuple (tds V)), .dct kvs, .dat (sgp z), x4, .un, .un, .un] (enumD 0 (tds V)) [] S _ from
      lcGo_row (f := fun x => lies (own z.1) (own z.2) x) (by show 6 < 8; decide) (by decide) V 0 [] (fun x hx k Q q => w_call2 rfl rfl (onby_c g (hV x hx) q)) ?_)
    rw [List.nil_append]
    change sZipPut 2 5 (fVar 4) (fSl (fVarB 4) (fP (fC (.int 1))) fNoP) [a, .dat (.tuple (tds V)), .dct kvs, .dat (sgp z), .dat (.list ((rowZ z V).map .int)), .un, .un, .un] S _
    have rl' : (rowZ z V).length ≤ V.length := rl
    refine w_zipput rfl rfl (by decide) (w_var rfl (sl_l1 rfl ⟨(rowZ z V).map .inl, ((rowZ z V).drop 1).map .inl, .inl ⟨by rw [keys_map], by rw [← List.map_drop, keys_map]⟩, ?_, ?_⟩))
    · have := hasE_len hE
      rw [List.length_map]
      exact small_ltE (by omega)
    · have hE' := putZ_keys (as := rowZ z V) (bs := (rowZ z V).drop 1) hE
      have nd' := addZ_nd (as := rowZ z V) (bs := (rowZ z V).drop 1) nd
      have lE' := addZ_len (rowZ z V) ((rowZ z V).drop 1) E
      have mE' : ∀ e, e ∈ addZ E (rowZ z V) ((rowZ z V).drop 1) ↔ e ∈ E ∨ e ∈ nb (rowZ z V) := fun e => addZ_mem
      refine (show forGo (gNm 3) (EdgeB C_onby) (zs.map sgp) [a, .dat (.tuple (tds V)), .dct (putZ kvs ((rowZ z V).map .inl) (((rowZ z V).drop 1).map .inl)), .dat (sgp z), .dat (.list ((rowZ z V).map .int)), .un, .un, .un] S B from
        edge_loop hV lV zs _ _ _ _ hE' nd' (fun y hy => hz y (by simp [hy])) (by omega) fun kvs' E' x3' x4' h1 h2 h3 h4 => h kvs' E' x3' x4' h1 h2 (fun e => ?_) (by rw [List.length_cons, Nat.mul_succ]; omega))
      rw [h3, mE', or_assoc]
      constructor
      · rintro (h | h | ⟨w, h, k⟩)
        · exact .inl h
        · exact .inr ⟨z, by simp, h⟩
        · exact .inr ⟨w, by simp [h], k⟩
      · rintro (h | ⟨w, h, k⟩)
        · exact .inl h
        · rcases List.mem_cons.mp h with rfl | h
          · exact .inr (.inl k)
          · exact .inr (.inr ⟨w, h, k⟩)
def IsE (L : List Sg2) (V : List H3) (E : List E2) : Prop := UpE E ∧ ∀ e, e ∈ E ↔ ∃ z ∈ L, e ∈ nb (rowZ z V)
def C_alle : Ct := fun as S R => ∃ (L : List Sg2) (V : List H3), as = [.dat (.tuple (L.map sgp)), .dat (.tuple (tds V))] ∧ L.length ≤ 12 ∧ (∀ z ∈ L, GL z) ∧ (∀ x ∈ V, Fine x) ∧ V.length ≤ 400 ∧ ∀ E, IsE L V E → E.length ≤ 10000 → R (.tuple (E.map eT)) S
theorem c_alle : ∀ as S R, as.length = 2 → C_alle as S R → G_all_edges C_onby (ent N_all_edges as) S { nx := fun _ S' => R .none S', rt := R } := by
  rintro as S R _ ⟨L, V, rfl, hl, hL, hV, lV, h⟩
  unfold G_all_edges
  have lim : V.length * L.length ≤ 400 * 12 := Nat.mul_le_mul lV hl
  change sSeq (sFor (fiT (fVarB 0)) (gNm 3) (EdgeB C_onby)) (sRet (fUn oTuple (fSortK 2))) [.dat (.tuple (L.map sgp)), .dat (.tuple (tds V)), .dct [], .un, .un, .un, .un, .un] S _
  refine w_for (w_fiT (w_varB rfl ?_))
  refine edge_loop hV lV L [] [] .un .un rfl List.nodup_nil hL (by simp; omega) fun kvs E x3 x4 h1 h2 h3 h4 => ?_
  dsimp only
  refine w_ret (w_un (sortK_at rfl h1 h2 fun E' u m l => ?_))
  rw [oTupleD_lst]
  refine h E' ⟨u, fun e => ?_⟩ (by simp at h4; omega)
  rw [m, h3]
  simp
/-! ### the law's cut -/
theorem nd_le : ∀ {V A : List H3}, V.Nodup → (∀ x ∈ V, x ∈ A) → V.length ≤ A.length
  | [], A, _, _ => Nat.zero_le _
  | x :: V, A, nd, h => by
    obtain ⟨n1, n2⟩ := List.nodup_cons.mp nd
    obtain ⟨s, t, rfl⟩ := List.append_of_mem (h x (by simp))
    have := nd_le (V := V) (A := s ++ t) n2 fun y hy => by
      have := h y (by simp [hy])
      simp only [List.mem_append, List.mem_cons] at this ⊢
      rcases this with q | rfl | q
      · exact .inl q
      · exact absurd hy n1
      · exact .inr q
    simp only [List.length_append, List.length_cons] at *
    omega
theorem up_nd {V : List H3} (u : UpL V) : V.Nodup := u.imp fun h => up_ne h
abbrev GathB (Cm : Ct) : FS := sSet 2 (fOp oAdd (fVarB 2) (fCall Cm (gDat (fVar 4) (gDat (fVar 5) gaNil))))
theorem gath_loop {a b x3 : Sl} {z : Sg2} {tl : List Sl} {S : SW} {B : Out} (gz : GL z) : ∀ (ys : List Sg2) (A : List H3) (x5 : Sl), (∀ y ∈ ys, GL y) → A.length + 2 * ys.length ≤ 170 →
    (∀ (A' : List H3) (x5' : Sl), (∀ x, x ∈ A' ↔ x ∈ A ∨ ∃ y ∈ ys, x ∈ m2 z y) → A'.length ≤ A.length + 2 * ys.length → B.nx (a :: b :: .dat (.list (A'.map hd)) :: x3 :: .dat (ppo z) :: x5' :: tl) S) →
    forGo (gNm 5) (GathB C_meet) (ys.map ppo) (a :: b :: .dat (.list (A.map hd)) :: x3 :: .dat (ppo z) :: x5 :: tl) S B
  | [], A, x5, _, _, h => w_goN (h A x5 (fun x => by simp) (by simp))
  | y :: ys, A, x5, hy, hl, h => by
    simp only [List.length_cons] at hl
    have gy := hy y (by simp)
    have ml : (m2 z y).length ≤ 2 := meet_len (own z.1) (own z.2) (own y.1) (own y.2)
    refine w_go (w_setE (w_op (w_varB rfl (w_call2 rfl rfl ⟨own z.1, own z.2, own y.1, own y.2, rfl, gz.seg, gy.seg, ?_⟩))))
    refine (show _ ∧ _ from ⟨small_leD _ (by change (A.map hd).length + ((m2 z y).map hd).length ≤ 1000; rw [List.length_map, List.length_map]; omega), ?_⟩)
    rw [← List.map_append]
    refine (show forGo (gNm 5) (GathB C_meet) (ys.map ppo) (a :: b :: .dat (.list ((A ++ m2 z y).map hd)) :: x3 :: .dat (ppo z) :: .dat (ppo y) :: tl) S B from
      gath_loop gz ys (A ++ m2 z y) _ (fun w hw => hy w (by simp [hw])) (by rw [List.length_append]; omega) fun A' x5' m l => h A' x5' (fun x => ?_) (by rw [List.length_append] at l; simp only [List.length_cons]; omega))
    rw [m, List.mem_append, or_assoc]
    constructor
    · rintro (h | h | ⟨w, h, k⟩)
      · exact .inl h
      · exact .inr ⟨y, by simp, h⟩
      · exact .inr ⟨w, by simp [h], k⟩
    · rintro (h | ⟨w, h, k⟩)
      · exact .inl h
      · rcases List.mem_cons.mp h with rfl | h
        · exact .inr (.inl k)
        · exact .inr (.inr ⟨w, h, k⟩)
abbrev GatherB (Cm : Ct) : FS := sSeq (sSet 2 (fOp oAdd (fVarB 2) (fLst (fCons (fOp oIx (fVarB 4) (fC (.int 0))) (fCons (fOp oIx (fVarB 4) (fC (.int 1))) fNil)))))
    (sFor (fiL (fSl (fVarB 0) fNoP (fP (fVarB 3)))) (gNm 5) (GathB Cm))
theorem gather_loop {L : List Sg2} {D : List H3} {b : Sl} {tl : List Sl} {S : SW} {B : Out} (hL : ∀ z ∈ L, GL z) (hl : L.length ≤ 12) : ∀ (rest done : List Sg2) (A : List H3) (x3 x4 x5 : Sl), L = done ++ rest → A.length ≤ 3 + done.length * (done.length + 1) → (∀ xs, x3 ≠ Sl.own xs) →
    (∀ (A' : List H3) (x3' x4' x5' : Sl), (∀ xs, x3' ≠ Sl.own xs) → (∀ x, x ∈ A' ↔ x ∈ A ∨ (∃ z ∈ rest, x = own z.1 ∨ x = own z.2) ∨ meetsIn done rest x) → A'.length ≤ 3 + L.length * (L.length + 1) → B.nx (.dat (.list (L.map ppo)) :: b :: .dat (.list (A'.map hd)) :: x3' :: x4' :: x5' :: tl) S) →
    forGo (gTp 2 (gsCons (gNm 3) (gsCons (gNm 4) gsNil))) (GatherB C_meet) (enumD done.length (rest.map ppo)) (.dat (.list (L.map ppo)) :: b :: .dat (.list (A.map hd)) :: x3 :: x4 :: x5 :: tl) S B
  | [], done, A, x3, x4, x5, e, ha, n3, h => w_goN (h A x3 x4 x5 n3 (fun x => by simp [meetsIn]) (by rw [e, List.append_nil]; exact ha))
  | z :: r, done, A, x3, x4, x5, e, ha, n3, h => by
    have gz := hL z (by rw [e]; simp)
    have dl : done.length ≤ 11 := by rw [e, List.length_append, List.length_cons] at hl; omega
    have d2 : done.length * (done.length + 1) ≤ 11 * 12 := Nat.mul_le_mul dl (by omega)
    have d3 : (done.length + 1) * (done.length + 1 + 1) = done.length * (done.length + 1) + 2 * done.length + 2 := by grind
    refine w_goP (w_seq (w_setE (w_op (w_varB rfl (w_lst2 (w_ix0 (x := hd (own z.1)) (r := [hd (own z.2)]) rfl (w_ix1 (x := hd (own z.1)) (y := hd (own z.2)) (r := []) rfl ?_)))))))
    refine (show _ ∧ _ from ⟨small_leD _ (by rw [List.length_map]; simp only [List.length_cons, List.length_nil]; omega), ?_⟩)
    dsimp only
    refine w_forE (w_fiL (sl_toL (ds := L.map ppo) (k := done.length) rfl rfl ?_))
    rw [← List.map_take, show L.take done.length = done from by rw [e]; simp, show A.map hd ++ [hd (own z.1), hd (own z.2)] = (A ++ [own z.1, own z.2]).map hd from by rw [List.map_append]; rfl]
    refine (show forGo (gNm 5) (GathB C_meet) (done.map ppo) (.dat (.list (L.map ppo)) :: b :: .dat (.list ((A ++ [own z.1, own z.2]).map hd)) :: .dat (.int (done.length : Nat)) :: .dat (ppo z) :: x5 :: tl) S _ from
      gath_loop gz done _ _ (fun y hy => hL y (by rw [e]; simp [hy])) (by simp only [List.length_append, List.length_cons, List.length_nil]; omega) fun A' x5' m l => ?_)
    simp only [List.length_append, List.length_cons, List.length_nil] at l
    have e2 : L = (done ++ [z]) ++ r := by rw [e]; simp
    have := gather_loop (D := D) (b := b) (tl := tl) (S := S) (B := B) hL hl r (done ++ [z]) A' (.dat (.int (done.length : Nat))) (.dat (ppo z)) x5' e2 (by rw [List.length_append, List.length_singleton]; omega) (fun xs e => nomatch e) fun A'' x3'' x4'' x5'' n3'' m'' l'' => h A'' x3'' x4'' x5'' n3'' (fun x => ?_) l''
    · rw [List.length_append, List.length_singleton] at this
      exact this
    · rw [m'', m, List.mem_append]
      simp only [List.mem_cons, List.not_mem_nil, or_false, meetsIn]
      constructor
      · rintro (((h | h) | h) | ⟨w, h, k⟩ | h)
        · exact .inl h
        · exact .inr (.inl ⟨z, .inl rfl, h⟩)
        · exact .inr (.inr (.inl h))
        · exact .inr (.inl ⟨w, .inr h, k⟩)
        · exact .inr (.inr (.inr h))
      · rintro (h | ⟨w, rfl | h, k⟩ | h | h)
        · exact .inl (.inl (.inl h))
        · exact .inl (.inl (.inr k))
        · exact .inr (.inl ⟨w, h, k⟩)
        · exact .inl (.inr h)
        · exact .inr (.inr h)
abbrev PutB : FS := sDput 7 2 (fCons (fVar 11) (fCons (fVar 12) fNil)) (fC (.bool true))
theorem put_loop {r0 r1 r2 r3 r4 r5 r6 r8 r9 r10 r13 : Sl} {S : SW} {B : Out} : ∀ (as bs : List Int) (kvs : List (List Key × PyData)) (x11 x12 : Sl), kvs.length + as.length ≤ 10000 →
    (∀ x11' x12', B.nx [r0, r1, r2, r3, r4, r5, r6, .dct (putZ kvs (as.map .inl) (bs.map .inl)), r8, r9, r10, x11', x12', r13] S) →
    forGo (gTp 2 (gsCons (gNm 11) (gsCons (gNm 12) gsNil))) PutB (zipD (as.map .int) (bs.map .int)) [r0, r1, r2, r3, r4, r5, r6, .dct kvs, r8, r9, r10, x11, x12, r13] S B
  | [], bs, kvs, x11, x12, _, h => w_goN (h x11 x12)
  | a :: as, [], kvs, x11, x12, _, h => w_goN (h x11 x12)
  | a :: as, b :: bs, kvs, x11, x12, hl, h => by
    simp only [List.length_cons] at hl
    refine (show forGo _ PutB (.tuple [.int a, .int b] :: zipD (as.map .int) (bs.map .int)) _ S B from w_goP ?_)
    refine w_dput2 rfl (w_c' (w_var rfl (w_var rfl ⟨ek (a, b), rfl, small_ltE (by omega), ?_⟩)))
    have pl := putD_len kvs (ek (a, b)) (.bool true)
    exact (show forGo (gTp 2 (gsCons (gNm 11) (gsCons (gNm 12) gsNil))) PutB (zipD (as.map .int) (bs.map .int)) [r0, r1, r2, r3, r4, r5, r6, .dct (putD kvs (ek (a, b)) (.bool true)), r8, r9, r10, .dat (.int a), .dat (.int b), r13] S B from put_loop as bs _ _ _ (by omega) h)
abbrev LawB (Cl : Ct) : FS := sSeq (sSet 10 (fLc (fiE (fVar 6)) [3, 13] (gTp 2 (gsCons (gNm 3) (gsCons (gNm 13) gsNil))) (fCall Cl (gDat (fVar 8) (gDat (fVar 9) (gDat (fVar 13) gaNil)))) (fVar 3)))
    (sFor (fiZ (fVar 10) (fSl (fVarB 10) (fP (fC (.int 1))) fNoP)) (gTp 2 (gsCons (gNm 11) (gsCons (gNm 12) gsNil))) PutB)
theorem law_loop {r0 r1 r2 r3 r4 r5 r13 : Sl} {V : List H3} {S : SW} {B : Out} (n3 : ∀ xs, r3 ≠ Sl.own xs) (n13 : ∀ xs, r13 ≠ Sl.own xs) (hV : ∀ x ∈ V, Fine x) (lV : V.length ≤ 400) : ∀ (zs : List Sg2) (kvs : List (List Key × PyData)) (E : List E2) (x8 x9 x10 x11 x12 : Sl), HasE kvs E → E.Nodup → (∀ z ∈ zs, GL z) → E.length + V.length * zs.length ≤ 9000 →
    (∀ kvs' E' x8' x9' x10' x11' x12', HasE kvs' E' → E'.Nodup → (∀ e, e ∈ E' ↔ e ∈ E ∨ ∃ z ∈ zs, e ∈ nb (rowZ z V)) → E'.length ≤ E.length + V.length * zs.length → B.nx [r0, r1, r2, r3, r4, r5, .dat (.list (V.map hd)), .dct kvs', x8', x9', x10', x11', x12', r13] S) →
    forGo (gTp 2 (gsCons (gNm 8) (gsCons (gNm 9) gsNil))) (LawB C_lies) (zs.map ppo) [r0, r1, r2, r3, r4, r5, .dat (.list (V.map hd)), .dct kvs, x8, x9, x10, x11, x12, r13] S B
  | [], kvs, E, x8, x9, x10, x11, x12, hE, nd, _, _, h => w_goN (h kvs E _ _ _ _ _ hE nd (fun e => by simp) (by simp))
  | z :: zs, kvs, E, x8, x9, x10, x11, x12, hE, nd, hz, hl, h => by
    have g := hz z (by simp)
    have rl : (rowZ z V).length ≤ V.length := rowI_len (fun x => lies (own z.1) (own z.2) x) 0 V
    rw [List.length_cons, Nat.mul_succ] at hl
    refine (show forGo _ (LawB C_lies) (.tuple [hd (own z.1), hd (own z.2)] :: zs.map ppo) _ S B from w_goP (w_set (w_lc (w_fiE (w_var rfl ⟨fun v hv xs => ?_, small_leD _ (by rw [enumD_len, List.length_map]; omega), ?_⟩)))))
    · simp only [List.mem_cons, List.not_mem_nil, or_false] at hv
      rcases hv with rfl | rfl
      · exact fun z => n3 xs (Option.some.inj z)
      · exact fun z => n13 xs (Option.some.inj z)
    refine (show lcGo (gTp 2 (gsCons (gNm 3) (gsCons (gNm 13) gsNil))) (fCall C_lies (gDat (fVar 8) (gDat (fVar 9) (gDat (fVar 13) gaNil)))) (fVar 3) [r0, r1, r2, .un, r4, r5, .dat (.list (V.map hd)), .dct kvs, .dat (hd (own z.1)), .dat (hd (own z.2)), x10, x11, x12, .un] (enumD 0 (V.map hd)) [] S _ from
      lcGo_row (f := fun x => lies (own z.1) (own z.2) x) (by show 3 < 14; decide) (by decide) V 0 [] (fun x hx k Q q => w_call3 rfl rfl rfl (lies_c g (hV x hx) q)) ?_)
    rw [List.nil_append]
    change sFor (fiZ (fVar 10) (fSl (fVarB 10) (fP (fC (.int 1))) fNoP)) (gTp 2 (gsCons (gNm 11) (gsCons (gNm 12) gsNil))) PutB [r0, r1, r2, r3, r4, r5, .dat (.list (V.map hd)), .dct kvs, .dat (hd (own z.1)), .dat (hd (own z.2)), .dat (.list ((rowZ z V).map .int)), x11, x12, r13] S _
    have kl := hasE_len hE
    refine w_forE (w_fiZ (w_var rfl (sl_l1 rfl ?_)))
    rw [← List.map_drop]
    refine (show forGo (gTp 2 (gsCons (gNm 11) (gsCons (gNm 12) gsNil))) PutB (zipD ((rowZ z V).map .int) (((rowZ z V).drop 1).map .int)) _ S _ from put_loop (rowZ z V) ((rowZ z V).drop 1) kvs _ _ (by omega) fun x11' x12' => ?_)
    have hE' := putZ_keys (as := rowZ z V) (bs := (rowZ z V).drop 1) hE
    have nd' := addZ_nd (as := rowZ z V) (bs := (rowZ z V).drop 1) nd
    have lE' := addZ_len (rowZ z V) ((rowZ z V).drop 1) E
    have mE' : ∀ e, e ∈ addZ E (rowZ z V) ((rowZ z V).drop 1) ↔ e ∈ E ∨ e ∈ nb (rowZ z V) := fun e => addZ_mem
    refine law_loop n3 n13 hV lV zs _ _ _ _ _ _ _ hE' nd' (fun y hy => hz y (by simp [hy])) (by omega) fun kvs' E' x8' x9' x10' x11' x12' h1 h2 h3 h4 => h kvs' E' x8' x9' x10' x11' x12' h1 h2 (fun e => ?_) (by rw [List.length_cons, Nat.mul_succ]; omega)
    rw [h3, mE', or_assoc]
    constructor
    · rintro (h | h | ⟨w, h, k⟩)
      · exact .inl h
      · exact .inr ⟨z, by simp, h⟩
      · exact .inr ⟨w, by simp [h], k⟩
    · rintro (h | ⟨w, h, k⟩)
      · exact .inl h
      · rcases List.mem_cons.mp h with rfl | h
        · exact .inr (.inl k)
        · exact .inr (.inr ⟨w, h, k⟩)
def C_cut : Ct := fun as S R => ∃ (L : List Sg2) (D : List H3), as = [.dat (.list (L.map ppo)), .dat (.list (D.map hd))] ∧ L.length ≤ 12 ∧ (∀ z ∈ L, GL z) ∧ D.length ≤ 3 ∧ (∀ x ∈ D, Fine x) ∧
  ∀ V E, UpL V → (∀ x, x ∈ V ↔ cutM L D x) → V.length ≤ 170 → IsE L V E → E.length ≤ 10000 → R (.tuple [.list (V.map hd), .list (E.map eT)]) S
theorem c_cut : ∀ as S R, as.length = 2 → C_cut as S R → G_law_cut C_meet C_rising C_lies (ent N_law_cut as) S { nx := fun _ S' => R .none S', rt := R } := by
  rintro as S R _ ⟨L, D, rfl, hl, hL, hDl, hD, h⟩
  unfold G_law_cut
  refine w_set (w_un (w_varB rfl ?_))
  rw [oListD_lst]
  refine w_for ?_
  unfold fiE
  refine w_var rfl ?_
  have l2 : L.length * (L.length + 1) ≤ 12 * 13 := Nat.mul_le_mul hl (by omega)
  refine (show forGo (gTp 2 (gsCons (gNm 3) (gsCons (gNm 4) gsNil))) (GatherB C_meet) (enumD 0 (L.map ppo)) [.dat (.list (L.map ppo)), .dat (.list (D.map hd)), .dat (.list (D.map hd)), .un, .un, .un, .un, .un, .un, .un, .un, .un, .un, .un] S _ from
    gather_loop (D := D) hL hl L [] D .un .un .un rfl (by simp; omega) (fun xs e => nomatch e) fun A x3 x4 x5 n3 m l => ?_)
  have mA : ∀ x, x ∈ A ↔ cutM L D x := fun x => by
    rw [m, mt_iff hL]
    unfold cutM
    exact Iff.rfl
  have fA : ∀ x ∈ A, Fine x := fun x hx => cutM_fine hL hD ((mA x).mp hx)
  dsimp only
  refine w_parD (w_call1 rfl ⟨A, _, rfl, .inl rfl, by omega, fun e he => ⟨(fA e he).1, (fA e he).2⟩, fun V mV uV => ?_⟩)
  have fV : ∀ x ∈ V, Fine x := fun x hx => fA x ((mV x).mp hx)
  have lV : V.length ≤ 170 := Nat.le_trans (nd_le (up_nd uV) fun x hx => (mV x).mp hx) (by omega)
  have lim : V.length * L.length ≤ 170 * 12 := Nat.mul_le_mul lV hl
  refine w_for (w_fiL (w_var rfl ?_))
  refine (show forGo (gTp 2 (gsCons (gNm 8) (gsCons (gNm 9) gsNil))) (LawB C_lies) (L.map ppo) [.dat (.list (L.map ppo)), .dat (.list (D.map hd)), .dat (.list (A.map hd)), x3, x4, x5, .dat (.list (V.map hd)), .dct [], .un, .un, .un, .un, .un, .un] S _ from
    law_loop n3 (by intro xs e; cases e) fV (by omega) L [] [] .un .un .un .un .un rfl List.nodup_nil hL (by simp; omega) fun kvs E x8 x9 x10 x11 x12 h1 h2 h3 h4 => ?_)
  dsimp only
  refine w_ret (w_tup2 (w_var rfl (sortK_at rfl h1 h2 fun E' u m l => ?_)))
  refine h V E' uV (fun x => (mV x).trans (mA x)) lV ⟨u, fun e => ?_⟩ (by simp at h4; omega)
  rw [m, h3]
  simp
end K05

namespace K05
open PySem L2 DL
local macro_rules | `(tactic| walk_at "dw") => `(tactic| try simp -implicitDefEqProofs only [sSeq, sIf, sRet, sRetN, sRetV, sSet, sNext, sPar, sPar3, sAsg, sDrop, sOwn, sApp, sIns, sPut, sNever, sFrz, sParO, fOr, fAnd, fNot, fIf, fOp, fUn, fVar, fVarB, fC, fCons, fNil, fTup, fLst, fSl, fP, fNoP, fCall, fCallK, gDat, gaNil, gWel, fChain, fWix, sWput, sWdiv, gNm, gTp, gsNil, gsCons, fiL, fiT, fiE, fiR1, fiR2, sFor, rowD, ent, asB_bool, asI_int, if_tt, if_ff,
  List.getElem?_cons_zero, List.getElem?_cons_succ, List.set_cons_zero, List.set_cons_succ, List.cons_append, List.nil_append, List.length_cons, List.length_nil, List.replicate, Nat.zero_add, Nat.reduceAdd, Nat.reduceSub,
  isi_tup, oReprG_bool, oGtD_int, oLeD_int, oGeD_int, oMixD_int, oMixD_tup, oMixD_bi, oMixD_ib, oMixD_bb, oStrD_int, oListD_tup, oListD_lst, oTupleD_lst, oTupleD_tup, oBackD_tup, oBackD_lst, oNegD_int, isi_strD, isi_intD, isi_boolD, isi_listD, isTup.eq_1, isTup.eq_2, isStr.eq_1, isStr.eq_2, isNum.eq_1, isNum.eq_2, Bool.not_true, Bool.not_false, oIx_tup, oIx_lst, oEq_int, oEq_str, oEq_bool, oEq_nil, oNe_int, oNe_str, oNe_bool, oLen_tup, oLen_lst, oI_int, oIC_int, oAdd_int, oAdd_tup, oAdd_lst, oLt_int, oInt_int, oInt_bool, oIn_tup, oIn_lst, oSl_tup, oSl_lst,
  atI_zero, atI_one, atI_two, atI_three, atI_four, cut_from1, true_and, Bool.false_eq_true, if_false, if_true])
/-! ### what is let -/
theorem w_not {f : FE} {b : Bool} {ρ : Rho} {S : SW} {Q : PyData → SW → Prop} (hf : ∀ Q : PyData → SW → Prop, Q (.bool b) S → f ρ S Q) (h : Q (.bool (!b)) S) : fNot f ρ S Q := by
  unfold fNot
  refine hf _ ?_
  rw [asB_bool]
  exact h
def C_lotp (f : PyData → Bool) : Ct := fun as S R => ∃ ds, as = [.dat (.tuple ds)] ∧ ds.length ≤ 24 ∧ (∀ d ∈ ds, f d = true) ∧ R .none S
theorem let_at {i : Nat} {ds : List PyData} {X Y : FS} {ρ : Rho} {S : SW} {B : Out} (h1 : ρ[i]? = some (.dat (.tuple ds))) (hl : ds.length ≤ 24) (h : Y ρ S B) :
    sIf (fOr (fNot (fUn (fun x R => R (.bool (isiD "tuple" x))) (fVarB i))) (fOp oGt (fUn oLen (fVarB i)) (fC (.int 24)))) X Y ρ S B := by
  refine w_if (b := false) (fun Q q => w_or (b := false) (c := false) (fun Q q => w_not (b := true) (fun Q q => w_un (w_varB h1 (by rw [isi_tup]; exact q))) q) (fun _ Q q => ?_) q) (fun z => nomatch z) (fun _ => h)
  refine w_op (w_un (w_varB h1 ?_))
  rw [oLen_tup]
  refine w_c ?_
  rw [oGtD_int, decide_eq_false (by omega)]
  exact q
theorem let_loop {f : PyData → Bool} {i j : Nat} {S : SW} {B : Out} : ∀ (ds : List PyData) (k : Nat) (ρ : Rho), j < ρ.length → (∀ d ∈ ds, f d = true) → (∀ ρ' : Rho, ρ'.length = ρ.length → (∀ n, n ≠ i → n ≠ j → ρ'[n]? = ρ[n]?) → B.nx ρ' S) →
    forGo (gTp 2 (gsCons (gNm i) (gsCons (gNm j) gsNil))) (sIf (fNot (fCall (C_bool f) (gDat (fVar j) gaNil))) sNever sNext) (enumD k ds) ρ S B
  | [], k, ρ, _, _, h => w_goN (h ρ rfl fun _ _ _ => rfl)
  | d :: ds, k, ρ, hj, hd, h => by
    refine (show forGo _ _ (.tuple [.int (k : Nat), d] :: enumD (k + 1) ds) ρ S B from w_goP ?_)
    refine w_if (b := false) (fun Q q => w_not (b := true) (fun Q q => w_call1 (d := d) (by rw [List.getElem?_set_self (by rw [List.length_set]; exact hj)]) ⟨d, rfl, by rw [hd d (by simp)]; exact q⟩) q) (fun z => nomatch z) (fun _ => ?_)
    (try unfold sNext)
    exact let_loop ds (k + 1) _ (by rw [List.length_set, List.length_set]; exact hj) (fun x hx => hd x (by simp [hx])) fun ρ' l e => h ρ' (by rw [l, List.length_set, List.length_set]) fun n n1 n2 => by
      rw [e n n1 n2, List.getElem?_set_ne (fun z => n2 z.symm), List.getElem?_set_ne (fun z => n1 z.symm)]
theorem c_chk_points : ∀ as S R, as.length = 1 → C_lotp ptD as S R → G_check_points (C_bool ptD) (ent N_check_points as) S { nx := fun _ S' => R .none S', rt := R } := by
  rintro as S R _ ⟨ds, rfl, hl, hd, h⟩
  unfold G_check_points
  refine w_seq (let_at rfl hl ?_)
  (try unfold sNext)
  dsimp only
  refine w_forE (w_fiE (w_var rfl ?_))
  exact let_loop ds 0 _ (by simp [ent]) hd fun ρ' _ _ => h
def C_lines2 : Ct := fun as S R => ∃ ds es, as = [.dat (.tuple ds), .dat (.tuple es)] ∧ ds.length ≤ 24 ∧ es.length ≤ 24 ∧ (∀ d ∈ ds, sgD d = true) ∧ (∀ d ∈ es, ptD d = true) ∧ R .none S
theorem c_chk_lines : ∀ as S R, as.length = 2 → C_lines2 as S R → G_check_lines (C_bool sgD) (C_lotp ptD) (ent N_check_lines as) S { nx := fun _ S' => R .none S', rt := R } := by
  rintro as S R _ ⟨ds, es, rfl, hl, hl2, hd, he, h⟩
  unfold G_check_lines
  refine w_seq (let_at rfl hl ?_)
  (try unfold sNext)
  dsimp only
  refine w_for (w_fiE (w_var rfl ?_))
  refine let_loop ds 0 _ (by simp [ent]) hd fun ρ' l e => ?_
  have e1 : ρ'[1]? = some (.dat (.tuple es)) := e 1 (by decide) (by decide)
  exact (show fCall (C_lotp ptD) (gDat (fVar 1) gaNil) ρ' S _ from w_call1 e1 ⟨es, rfl, hl2, he, h⟩)
theorem let_cut {L : List Sg2} {D : List H3} (hL : ∀ z ∈ L, GL z) (hD : ∀ x ∈ D, Fine x) (l1 : L.length ≤ 12) (l2 : D.length ≤ 6) {S : SW} {R : PyData → SW → Prop} (h : R .none S) : C_lines2 [.dat (.tuple (L.map sgp)), .dat (.tuple (tds D))] S R :=
  ⟨_, _, rfl, by rw [List.length_map]; omega, by unfold tds; rw [List.length_map]; omega, fun d hd => by
    obtain ⟨z, hz, rfl⟩ := List.mem_map.mp hd
    have g := hL z hz
    exact sg_ok g.a.rp g.b.rp g.ne, fun d hd => by
    obtain ⟨x, hx, rfl⟩ := List.mem_map.mp hd
    exact pt_pd (told_rp (hD x hx).1.1), h⟩
theorem c_verts : ∀ as S R, as.length = 2 → C_allv as S R → G_vertices_of C_lines2 C_allv (ent N_vertices_of as) S { nx := fun _ S' => R .none S', rt := R } := by
  rintro as S R _ ⟨L, D, rfl, hl, hL, hDl, hD, h⟩
  unfold G_vertices_of
  exact w_drop (w_call2 rfl rfl (let_cut hL hD hl hDl (w_ret (w_call2 rfl rfl ⟨L, D, rfl, hl, hL, hDl, hD, h⟩))))
def C_edges : Ct := fun as S R => ∃ (L : List Sg2) (D : List H3), as = [.dat (.tuple (L.map sgp)), .dat (.tuple (tds D))] ∧ L.length ≤ 12 ∧ (∀ z ∈ L, GL z) ∧ D.length ≤ 6 ∧ (∀ x ∈ D, Fine x) ∧ ∀ V E, UpL V → (∀ x, x ∈ V ↔ cutM L D x) → IsE L V E → R (.tuple (E.map eT)) S
theorem c_edges : ∀ as S R, as.length = 2 → C_edges as S R → G_edges_of C_lines2 C_alle C_allv (ent N_edges_of as) S { nx := fun _ S' => R .none S', rt := R } := by
  rintro as S R _ ⟨L, D, rfl, hl, hL, hDl, hD, h⟩
  unfold G_edges_of
  exact w_drop (w_call2 rfl rfl (let_cut hL hD hl hDl (w_ret (w_callF2 (w_var rfl (w_call2 rfl rfl ⟨L, D, rfl, hl, hL, hDl, hD, fun V u m l => ⟨L, V, rfl, hl, hL, fun x hx => cutM_fine hL hD ((m x).mp hx), by omega, fun E hE _ => h V E u m hE⟩⟩))))))
/-! ### the law -/
theorem isE_back {L : List Sg2} {V : List H3} {E : List E2} (hL : ∀ z ∈ L, GL z) (h : IsE (backL L) V E) : IsE L V E := by
  refine ⟨h.1, fun e => ?_⟩
  rw [h.2]
  unfold backL
  constructor
  · rintro ⟨z, hz, he⟩
    rw [List.mem_reverse, List.mem_map] at hz
    obtain ⟨y, hy, rfl⟩ := hz
    rw [rowZ_swp (hL y hy)] at he
    exact ⟨y, hy, he⟩
  · rintro ⟨z, hz, he⟩
    exact ⟨swp z, by rw [List.mem_reverse, List.mem_map]; exact ⟨z, hz, rfl⟩, by rw [rowZ_swp (hL z hz)]; exact he⟩
theorem isE_uniq {L : List Sg2} {V : List H3} {E F : List E2} (a : IsE L V E) (b : IsE L V F) : E = F := upE_uniq a.1 b.1 fun e => (a.2 e).trans (b.2 e).symm
theorem isE_in {L : List Sg2} {V : List H3} {E : List E2} (h : IsE L V E) : ∀ e ∈ E, (0 ≤ e.1 ∧ e.1 < V.length) ∧ (0 ≤ e.2 ∧ e.2 < V.length) := fun e he => by
  obtain ⟨z, _, hz⟩ := (h.2 e).mp he
  unfold nb at hz
  obtain ⟨m1, m2⟩ := List.of_mem_zip (a := e.1) (b := e.2) hz
  have a := rowI_in _ _ _ _ m1
  have b := rowI_in _ _ _ _ (List.mem_of_mem_drop m2)
  simp only [Nat.zero_add] at a b
  omega
def dueD (V : List H3) (E : List E2) : PyData := .list [.tuple (tds V), .tuple (E.map eT)]
theorem due_ok {L : List Sg2} {V : List H3} {E : List E2} (hV : ∀ x ∈ V, Fine x) (lV : V.length ≤ 170) (lE : E.length ≤ 10000) (h : IsE L V E) : showOk (dueD V E) := by
  have a : Lg 3 87500 (.tuple (tds V)) := (Lg.tup (lg_tds hV)).up (by omega) (by omega)
  have b : Lg 3 300000 (.tuple (E.map eT)) := (Lg.tup (n := 2) (LgAll.of (N := 27) fun d hd => by
    obtain ⟨e, he, rfl⟩ := List.mem_map.mp hd
    have i := isE_in h e he
    exact (Lg.tup (n := 1) (.cons (.int (k := 8) (by omega) (by omega)) (.cons (.int (k := 8) (by omega) (by omega)) LgAll.nil))).up (by omega) (by omega))).up (by omega) (by rw [List.length_map]; omega)
  exact (Lg.lst (.cons a (.cons b LgAll.nil))).ok (by omega) (by omega)
theorem told_row {fi : FI} {M : List H3} {ρ : Rho} {S : SW} {Q : PyData → SW → Prop} (hi : ∀ T : List PyData → SW → Prop, T (M.map hd) S → fi ρ S T) (hl : M.length ≤ 170) (hM : ∀ x ∈ M, Fine x) (h11 : 11 < ρ.length) (own : ∀ xs, ρ[11]? ≠ some (Sl.own xs)) (h : Q (.tuple (tds M)) S) :
    fUn oTuple (fLc fi [11] (gNm 11) (fC (.bool true)) (fCall C_told (gDat (fVar 11) gaNil))) ρ S Q := by
  refine w_un (fLc_map (ds := M.map hd) (g := fun d => pd (told (unH d))) hi (by rw [List.length_map]; omega) (fun v hv xs => by simp at hv; subst hv; exact own xs) (fun d hdm R k => ?_) ?_)
  · obtain ⟨x, hx, rfl⟩ := List.mem_map.mp hdm
    exact w_call1 (by rw [List.getElem?_set_self (by simp only [rwipe, List.length_set]; exact h11)]) ⟨x, rfl, (hM x hx).2.up (by omega), k⟩
  · rw [oTupleD_lst, List.map_map]
    exact h
def C_right : Ct := fun as S R => as = [.wel] ∧ WOk S ∧ ∀ S', WOk S' → R (.bool true) S'
def RestV (C_law_told C_law_cut C_edges_of C_vertices_of : Ct) : FS :=
    (sSeq (sSet 5 (fUn oTuple (fLc (fiL (fVar 4)) [11] (gNm 11) (fC (.bool true)) (fCall C_law_told (gDat (fVar 11) gaNil)))))
    (sSeq (sAsg (fCall C_law_cut (gDat (fVar 3) (gDat (fVar 4) gaNil))) (gTp 2 (gsCons (gNm 6) (gsCons (gNm 7) gsNil))))
    (sSeq (sSet 8 (fLst (fCons (fUn oTuple (fLc (fiL (fVar 6)) [11] (gNm 11) (fC (.bool true)) (fCall C_law_told (gDat (fVar 11) gaNil)))) (fCons (fUn oTuple (fVarB 7)) fNil))))
    (sSeq (sIf (fOp oNe (fUn oReprG (fLst (fCons (fCall C_vertices_of (gDat (fVar 2) (gDat (fVar 5) gaNil))) (fCons (fCall C_edges_of (gDat (fVar 2) (gDat (fVar 5) gaNil))) fNil)))) (fUn oReprG (fVarB 8)))
    (sRet (fC (.bool false)))
    sNext)
    (sSeq (sSet 9 (fUn oTuple (fLc (fiT (fUn oBack (fVarB 2))) [11] (gNm 11) (fC (.bool true)) (fUn oBack (fVarB 11)))))
    (sRet (fOp oEq (fUn oReprG (fLst (fCons (fCallK C_vertices_of pm10 (gDat (fOp oAdd (fVarB 5) (fVarB 5)) (gDat (fVar 9) gaNil))) (fCons (fCallK C_edges_of pm10 (gDat (fUn oBack (fVarB 5)) (gDat (fVar 9) gaNil))) fNil)))) (fUn oReprG (fVarB 8)))))))))
theorem rest_v {f : Fm} {L : List Sg2} {D : List H3} {x10 : Sl} {S : SW} {B : Out} (hl : L.length ≤ 12) (hL : ∀ z ∈ L, GL z) (hDl : D.length ≤ 3) (hD : ∀ x ∈ D, Fine x) (h : B.rt (.bool true) S) :
    RestV C_told C_cut C_edges C_allv [.wel, .dat (fmd f), .dat (.tuple (L.map sgp)), .dat (.list (L.map ppo)), .dat (.list (D.map hd)), .un, .un, .un, .un, .un, x10, .un] S B := by
  unfold RestV
  refine w_set (told_row (fun T t => w_fiL (w_var rfl t)) (by omega) hD (by simp) (fun xs => by simp) ?_)
  refine w_asg (w_call2 rfl rfl ⟨L, D, rfl, hl, hL, hDl, hD, fun V E u m lV hE lE => ?_⟩)
  refine (show 2 = 2 ∧ [] = [] ∧ _ from ⟨rfl, rfl, ?_⟩)
  have fV : ∀ x ∈ V, Fine x := fun x hx => cutM_fine hL hD ((m x).mp hx)
  have ok := due_ok fV lV lE hE
  refine w_set (w_lst2 (told_row (fun T t => w_fiL (w_var rfl t)) lV fV (by simp) (fun xs => by simp) (w_un (w_varB rfl ?_))))
  rw [oTupleD_lst]
  refine w_ifS (b := false) (fun Q k => w_differ (l := dueD V E) ok (fun R => oReprG_lst _ R) (fun Q k => ?_) (fun Q k => w_varB rfl k) k) (fun z => nomatch z) (fun _ => ?_)
  · refine w_lst2 (w_call2 rfl rfl ⟨L, D, rfl, hl, hL, by omega, hD, fun V' u' m' _ => ?_⟩)
    rw [up_uniq u' u fun x => (m' x).trans (m x).symm]
    refine w_call2 rfl rfl ⟨L, D, rfl, hl, hL, by omega, hD, fun V' E' u' m' hE' => ?_⟩
    rw [up_uniq u' u fun x => (m' x).trans (m x).symm] at hE'
    rw [isE_uniq hE' hE]
    exact k
  (try unfold sNext)
  dsimp only
  have gb := backL_gl hL
  have lb : (backL L).length ≤ 12 := by unfold backL; rw [List.length_reverse, List.length_map]; exact hl
  refine w_set (w_un (fLc_map (ds := (L.map sgp).reverse) (g := fun d => sgp (swp (unS d))) (fun T t => w_fiT (w_un (w_varB rfl t))) (by rw [List.length_reverse, List.length_map]; omega) (fun v hv xs => by simp at hv; subst hv; simp) (fun d hd R k => ?_) ?_))
  · rw [List.mem_reverse] at hd
    obtain ⟨z, hz, rfl⟩ := List.mem_map.mp hd
    exact w_un (w_varB rfl k)
  have eb : (L.map sgp).reverse.map (fun d => sgp (swp (unS d))) = (backL L).map sgp := by
    unfold backL
    rw [List.map_reverse, List.map_map, ← List.map_reverse, List.map_reverse, ← List.map_reverse, List.map_reverse, List.map_reverse, List.map_map]
    rfl
  rw [oTupleD_lst, eb]
  have kw : ∀ {D' : List H3} {a : FE} {C : Ct} {ρ : Rho} {Q : PyData → SW → Prop}, (∀ Q : PyData → SW → Prop, Q (.tuple (tds D')) S → a ρ S Q) → ρ[9]? = some (.dat (.tuple ((backL L).map sgp))) → C [.dat (.tuple ((backL L).map sgp)), .dat (.tuple (tds D'))] S Q → fCallK C pm10 (gDat a (gDat (fVar 9) gaNil)) ρ S Q := fun {D' a C ρ Q} ha h9 hC => by
    unfold fCallK gDat gaNil
    refine ha _ (w_var h9 ?_)
    exact hC
  refine w_ret (w_same (l := dueD V E) ok (fun R => oReprG_lst _ R) (fun Q k => w_lst2 (kw (D' := D ++ D) (fun Q q => w_op (w_varB rfl (w_varB rfl ?_))) rfl ⟨backL L, D ++ D, rfl, lb, gb, by rw [List.length_append]; omega, fun x hx => (List.mem_append.mp hx).elim (hD x) (hD x), fun V' u' m' _ => ?_⟩)) (fun Q k => w_varB rfl k) h)
  · refine (show _ ∧ _ from ⟨small_leD _ (by unfold tds; rw [List.length_map]; omega), ?_⟩)
    unfold tds at q ⊢
    rw [← List.map_append]
    exact q
  · have mb : ∀ x, x ∈ V' ↔ x ∈ V := fun x => by rw [m', m]; exact cutM_back hL (fun x => by rw [List.mem_append, or_self]) x
    rw [up_uniq u' u mb]
    refine kw (D' := D.reverse) (fun Q q => w_un (w_varB rfl ?_)) rfl ⟨backL L, D.reverse, rfl, lb, gb, by rw [List.length_reverse]; omega, fun x hx => hD x (List.mem_reverse.mp hx), fun V' E' u' m' hE' => ?_⟩
    · rw [oBackD_tup]
      unfold tds at q ⊢
      rw [← List.map_reverse]
      exact q
    · have mb : ∀ x, x ∈ V' ↔ x ∈ V := fun x => by rw [m', m]; exact cutM_back hL (fun x => List.mem_reverse) x
      rw [up_uniq u' u mb] at hE'
      rw [isE_uniq (isE_back hL hE') hE]
      exact k
theorem w_tup6 {a b c d e g : FE} {ρ : Rho} {S : SW} {Q : PyData → SW → Prop} (h : a ρ S fun x S1 => b ρ S1 fun y S2 => c ρ S2 fun z S3 => d ρ S3 fun u S4 => e ρ S4 fun v S5 => g ρ S5 fun t S6 => Q (.tuple [x, y, z, u, v, t]) S6) : fTup (fCons a (fCons b (fCons c (fCons d (fCons e (fCons g fNil)))))) ρ S Q := h
theorem w_wel3 {i : Nat} {a b c : FE} {C : Ct} {ρ : Rho} {S : SW} {Q : PyData → SW → Prop} (h0 : ρ[i]? = some .wel) (h : a ρ S fun d S1 => b ρ S1 fun e S2 => c ρ S2 fun g S3 => C [.wel, .dat d, .dat e, .dat g] S3 Q) : fCall C (gWel i (gDat a (gDat b (gDat c gaNil)))) ρ S Q := by
  unfold fCall gWel
  rw [h0]
  exact h
theorem c_right : ∀ as S R, as.length = 1 → C_right as S R → G_law_right C_frame C_lines C_one C_places C_draw C_any C_told C_cut C_edges C_allv (ent N_law_right as) S { nx := fun _ S' => R .none S', rt := R } := by
  rintro as S R _ ⟨rfl, w, h⟩
  unfold G_law_right
  refine w_set (w_wel rfl ⟨rfl, w, fun f S1 hf w1 => ?_⟩)
  refine w_set (w_un (w_welF2 rfl (w_var rfl (w_welF rfl ?_))))
  refine w_tup6 (w_c (w_c (w_c (w_c (w_c (w_c ?_))))))
  refine one_of rfl (by decide) w1 fun d S2 hdm w2 => ?_
  obtain ⟨m, rfl, m0, m1⟩ : ∃ m : Int, d = .int m ∧ 4 ≤ m ∧ m ≤ 12 := by
    simp only [List.mem_cons, List.not_mem_nil, or_false] at hdm
    rcases hdm with rfl | rfl | rfl | rfl | rfl | rfl <;> exact ⟨_, rfl, by decide, by decide⟩
  refine ⟨f, m, rfl, hf, m0, m1, w2, fun L S3 hl hL w3 => ?_⟩
  dsimp only
  rw [oTupleD_lst]
  refine w_set (w_call1 rfl ⟨L, rfl, hl, hL, ?_⟩)
  refine w_set (w_lc ?_)
  unfold fiR1
  refine draw_at rfl (by decide) (by decide) w3 fun n S4 n0 n1 w4 => ?_
  rw [asI_int]
  refine ⟨by omega, by omega, fun v hv xs => by simp at hv; subst hv; simp [ent], small_leD _ (by rw [List.length_map, List.length_range]; omega), ?_⟩
  refine lcGo_draw (P := fun d => ∃ x, d = hd x ∧ Fine x) w4 (fun a ha => nomatch ha) (fun d S' _ w' Q q => ?_) (fun out S' hl' ho w' => ?_)
  · refine w_wel3 rfl (w_var rfl (w_var rfl (w_lst0 ⟨f, L, rfl, hf, hl, hL, w', fun x S'' fx w'' => q _ _ ⟨x, rfl, fx⟩ w''⟩)))
  · obtain ⟨D, rfl, hD⟩ : ∃ D : List H3, out = D.map hd ∧ ∀ x ∈ D, Fine x := by
      clear hl'
      induction out with
      | nil => exact ⟨[], rfl, fun _ h => nomatch h⟩
      | cons a l ih =>
        obtain ⟨D, rfl, hD⟩ := ih fun y hy => ho y (by simp [hy])
        obtain ⟨x, rfl, fx⟩ := ho a (by simp)
        exact ⟨x :: D, rfl, fun y hy => by
          rcases List.mem_cons.mp hy with rfl | hy
          · exact fx
          · exact hD y hy⟩
    simp only [List.length_map, List.length_range, List.length_nil] at hl'
    exact rest_v (f := f) (B := { nx := fun _ S' => R .none S', rt := R }) hl hL (by omega) hD (h S' w')
theorem c_law : ∀ as S R, as.length = 1 → C_true as S R → G_law C_right C_spring (ent N_law as) S { nx := fun _ S' => R .none S', rt := R } := by
  rintro as S R _ ⟨ns, rfl, hl, h⟩
  have hm : ∀ Q : PyData → SW → Prop, Q (.int (let j := (if (3 : Int) < (ns.length : Int) then (3 : Int) else ns.length); if j > 1 then j else 1)) S →
      (fOp (oI fun i j => .int (if j > i then j else i)) (fC (.int 1)) (fOp (oI fun i j => .int (if j < i then j else i)) (fUn oLen (fVarB 0)) (fC (.int 3)))) [.dat (.list (ns.map .int)), .un] S Q := fun Q q => by
    unfold fOp fUn fC fVarB
    simp only [List.getElem?_cons_zero, oLen_lst, oI_int, List.length_map]
    exact q
  unfold G_law
  refine all_true (fun Q q => lc_rng hm ?_ ?_ ?_ ?_ q) ?_
  · dsimp only
    split <;> omega
  · dsimp only
    split <;> split <;> omega
  · intro v hv xs
    simp at hv
    subst hv
    simp [ent]
  · intro k Q q
    exact ⟨ns, k, rfl, fun ms w => ⟨ms, rfl, rfl, w, fun _ _ => q⟩⟩
  · exact h
end K05

namespace K05
open PySem L2 DL

section
variable {P : Program} {W : World} {K : Fr_} {mg : Str → Option Value} {base : Heap}
theorem CalN_mono' {x : Str} {k k' n : Nat} {C : Ct} (c : CalN P W K mg base x k n C) (h : k ≤ k') : CalN P W K mg base x k' n C := by
  obtain ⟨f, fd, ps, F, a, b, d⟩ := c.ex
  exact ⟨f, fd, ps, F.mono h, a, b, d⟩

theorem CalK_mono' {x : Str} {k k' n : Nat} {C : Ct} {ks : List Str} {pm : {α : Type} → List α → List α} (c : CalK P W K mg base x k n C ks pm) (h : k ≤ k') : CalK P W K mg base x k' n C ks pm := by
  obtain ⟨⟨f, fd, ps, F, a, b, d⟩, e1, e2, e3⟩ := c
  exact ⟨⟨f, fd, ps, F.mono h, a, b, d⟩, e1, e2, e3⟩

theorem all_is_whole (T : Txt K mg) (D : Defs K mg) : Cal P W K mg base "is_whole" 1 1 (C_bool whole) := by
  obtain ⟨f, fd, F, hm, hb, _⟩ := D.d_is_whole.ex
  exact bd_is_whole (k := 0) T F hm hb  c_whole

theorem all_are_wholes (T : Txt K mg) (D : Defs K mg) : Cal P W K mg base "are_wholes" 2 2 (C_wholes) := by
  obtain ⟨f, fd, F, hm, hb, _⟩ := D.d_are_wholes.ex
  exact bd_are_wholes (k := 1) T F hm hb ((all_is_whole T D).mono (by omega)) c_wholes

theorem all_is_ratio (T : Txt K mg) (D : Defs K mg) : Cal P W K mg base "is_ratio" 3 1 (C_bool ratD) := by
  obtain ⟨f, fd, F, hm, hb, _⟩ := D.d_is_ratio.ex
  exact bd_is_ratio (k := 2) T F hm hb ((all_are_wholes T D).mono (by omega)) c_ratio_is

theorem all_ratio (T : Txt K mg) (D : Defs K mg) : Cal P W K mg base "ratio" 1 2 (C_ratioN) := by
  obtain ⟨f, fd, F, hm, hb, _⟩ := D.d_ratio.ex
  exact bd_ratio (k := 0) T F hm hb  c_ratioN

theorem all_plus (T : Txt K mg) (D : Defs K mg) : Cal P W K mg base "plus" 2 2 (C_qq 3900 (fun p q => qd (pl p q))) := by
  obtain ⟨f, fd, F, hm, hb, _⟩ := D.d_plus.ex
  exact bd_plus (k := 1) T F hm hb ((Cal.imp (all_ratio T D) ratio_imp).mono (by omega)) c_plus

theorem all_minus (T : Txt K mg) (D : Defs K mg) : Cal P W K mg base "minus" 2 2 (C_qq 2000 (fun p q => qd (mi p q))) := by
  obtain ⟨f, fd, F, hm, hb, _⟩ := D.d_minus.ex
  exact bd_minus (k := 1) T F hm hb ((Cal.imp (all_ratio T D) ratio_imp).mono (by omega)) c_minus

theorem all_times (T : Txt K mg) (D : Defs K mg) : Cal P W K mg base "times" 2 2 (C_qq 2000 (fun p q => qd (ti p q))) := by
  obtain ⟨f, fd, F, hm, hb, _⟩ := D.d_times.ex
  exact bd_times (k := 1) T F hm hb ((Cal.imp (all_ratio T D) ratio_imp).mono (by omega)) c_times

theorem all_over (T : Txt K mg) (D : Defs K mg) : Cal P W K mg base "over" 2 2 (C_over) := by
  obtain ⟨f, fd, F, hm, hb, _⟩ := D.d_over.ex
  exact bd_over (k := 1) T F hm hb ((all_ratio T D).mono (by omega)) c_over

theorem all_sign_of (T : Txt K mg) (D : Defs K mg) : Cal P W K mg base "sign_of" 1 1 (C_sign_of) := by
  obtain ⟨f, fd, F, hm, hb, _⟩ := D.d_sign_of.ex
  exact bd_sign_of (k := 0) T F hm hb  c_sign_of

theorem all_is_less (T : Txt K mg) (D : Defs K mg) : Cal P W K mg base "is_less" 1 2 (C_qq 2000 (fun p q => .bool (less p q))) := by
  obtain ⟨f, fd, F, hm, hb, _⟩ := D.d_is_less.ex
  exact bd_is_less (k := 0) T F hm hb  c_less

theorem all_is_pointed (T : Txt K mg) (D : Defs K mg) : Cal P W K mg base "is_pointed" 4 1 (C_bool ptD) := by
  obtain ⟨f, fd, F, hm, hb, _⟩ := D.d_is_pointed.ex
  exact bd_is_pointed (k := 3) T F hm hb ((all_is_ratio T D).mono (by omega)) c_pointed

theorem all_is_segmented (T : Txt K mg) (D : Defs K mg) : Cal P W K mg base "is_segmented" 5 1 (C_bool sgD) := by
  obtain ⟨f, fd, F, hm, hb, _⟩ := D.d_is_segmented.ex
  exact bd_is_segmented (k := 4) T F hm hb ((all_is_pointed T D).mono (by omega)) c_segmented

theorem all_step_of (T : Txt K mg) (D : Defs K mg) : Cal P W K mg base "step_of" 3 2 (C_step) := by
  obtain ⟨f, fd, F, hm, hb, _⟩ := D.d_step_of.ex
  exact bd_step_of (k := 2) T F hm hb ((all_minus T D).mono (by omega)) c_step

theorem all_cross (T : Txt K mg) (D : Defs K mg) : Cal P W K mg base "cross" 3 2 (C_cross) := by
  obtain ⟨f, fd, F, hm, hb, _⟩ := D.d_cross.ex
  exact bd_cross (k := 2) T F hm hb ((all_minus T D).mono (by omega)) ((all_times T D).mono (by omega)) c_cross

theorem all_turn_by (T : Txt K mg) (D : Defs K mg) : Cal P W K mg base "turn_by" 4 3 (C_turn) := by
  obtain ⟨f, fd, F, hm, hb, _⟩ := D.d_turn_by.ex
  exact bd_turn_by (k := 3) T F hm hb ((all_sign_of T D).mono (by omega)) ((all_cross T D).mono (by omega)) ((all_step_of T D).mono (by omega)) c_turn

theorem all_comes_first (T : Txt K mg) (D : Defs K mg) : Cal P W K mg base "comes_first" 2 2 (C_first) := by
  obtain ⟨f, fd, F, hm, hb, _⟩ := D.d_comes_first.ex
  exact bd_comes_first (k := 1) T F hm hb ((all_is_less T D).mono (by omega)) c_first

theorem all_ascending (T : Txt K mg) (D : Defs K mg) : Cal P W K mg base "ascending" 3 1 (C_asc) := by
  obtain ⟨f, fd, F, hm, hb, _⟩ := D.d_ascending.ex
  exact bd_ascending (k := 2) T F hm hb ((all_comes_first T D).mono (by omega)) c_asc

theorem all_is_on_by (T : Txt K mg) (D : Defs K mg) : Cal P W K mg base "is_on_by" 5 2 (C_onby) := by
  obtain ⟨f, fd, F, hm, hb, _⟩ := D.d_is_on_by.ex
  exact bd_is_on_by (k := 4) T F hm hb ((all_ascending T D).mono (by omega)) ((all_comes_first T D).mono (by omega)) ((all_turn_by T D).mono (by omega)) c_onby

theorem all_at_part (T : Txt K mg) (D : Defs K mg) : Cal P W K mg base "at_part" 3 3 (C_at) := by
  obtain ⟨f, fd, F, hm, hb, _⟩ := D.d_at_part.ex
  exact bd_at_part (k := 2) T F hm hb ((all_plus T D).mono (by omega)) ((all_times T D).mono (by omega)) c_at

theorem all_shared_line (T : Txt K mg) (D : Defs K mg) : Cal P W K mg base "shared_line" 4 2 (C_shl) := by
  obtain ⟨f, fd, F, hm, hb, _⟩ := D.d_shared_line.ex
  exact bd_shared_line (k := 3) T F hm hb ((all_ascending T D).mono (by omega)) ((all_comes_first T D).mono (by omega)) c_shl

theorem all_common_by (T : Txt K mg) (D : Defs K mg) : Cal P W K mg base "common_by" 6 2 (C_comby) := by
  obtain ⟨f, fd, F, hm, hb, _⟩ := D.d_common_by.ex
  exact bd_common_by (k := 5) T F hm hb ((all_step_of T D).mono (by omega)) ((all_cross T D).mono (by omega)) ((all_shared_line T D).mono (by omega)) ((all_at_part T D).mono (by omega)) ((all_over T D).mono (by omega)) ((all_is_on_by T D).mono (by omega)) c_comby

theorem all_with_point (T : Txt K mg) (D : Defs K mg) : Cal P W K mg base "with_point" 3 2 (C_with) := by
  obtain ⟨f, fd, F, hm, hb, _⟩ := D.d_with_point.ex
  exact bd_with_point (k := 2) T F hm hb ((all_comes_first T D).mono (by omega)) c_with

theorem all_all_vertices (T : Txt K mg) (D : Defs K mg) : Cal P W K mg base "all_vertices" 7 2 (C_allv) := by
  obtain ⟨f, fd, F, hm, hb, _⟩ := D.d_all_vertices.ex
  exact bd_all_vertices (k := 6) T F hm hb ((all_with_point T D).mono (by omega)) ((all_common_by T D).mono (by omega)) c_allv

theorem all_all_edges (T : Txt K mg) (D : Defs K mg) : Cal P W K mg base "all_edges" 6 2 (C_alle) := by
  obtain ⟨f, fd, F, hm, hb, _⟩ := D.d_all_edges.ex
  exact bd_all_edges (k := 5) T F hm hb ((all_is_on_by T D).mono (by omega)) c_alle

theorem all_check_points (T : Txt K mg) (D : Defs K mg) : Cal P W K mg base "check_points" 5 1 (C_lotp ptD) := by
  obtain ⟨f, fd, F, hm, hb, _⟩ := D.d_check_points.ex
  exact bd_check_points (k := 4) T F hm hb ((all_is_pointed T D).mono (by omega)) c_chk_points

theorem all_check_lines (T : Txt K mg) (D : Defs K mg) : Cal P W K mg base "check_lines" 6 2 (C_lines2) := by
  obtain ⟨f, fd, F, hm, hb, _⟩ := D.d_check_lines.ex
  exact bd_check_lines (k := 5) T F hm hb ((all_is_segmented T D).mono (by omega)) ((all_check_points T D).mono (by omega)) c_chk_lines

theorem all_vertices_of (T : Txt K mg) (D : Defs K mg) : Cal P W K mg base "vertices_of" 8 2 (C_allv) := by
  obtain ⟨f, fd, F, hm, hb, _⟩ := D.d_vertices_of.ex
  exact bd_vertices_of (k := 7) T F hm hb ((all_check_lines T D).mono (by omega)) ((all_all_vertices T D).mono (by omega)) c_verts

theorem all_edges_of (T : Txt K mg) (D : Defs K mg) : Cal P W K mg base "edges_of" 8 2 (C_edges) := by
  obtain ⟨f, fd, F, hm, hb, _⟩ := D.d_edges_of.ex
  exact bd_edges_of (k := 7) T F hm hb ((all_check_lines T D).mono (by omega)) ((all_all_edges T D).mono (by omega)) ((all_all_vertices T D).mono (by omega)) c_edges

theorem all_law_spring (T : Txt K mg) (D : Defs K mg) : CalN P W K mg base "_law_spring" 1 2 (C_spring) := by
  obtain ⟨f, fd, F, hm, hb, _⟩ := D.d_law_spring.ex
  exact bd_law_spring (k := 0) T F hm hb  c_spring

theorem all_law_draw (T : Txt K mg) (D : Defs K mg) : Cal P W K mg base "_law_draw" 1 2 (C_draw) := by
  obtain ⟨f, fd, F, hm, hb, _⟩ := D.d_law_draw.ex
  exact bd_law_draw (k := 0) T F hm hb  c_draw

theorem all_law_one_of (T : Txt K mg) (D : Defs K mg) : Cal P W K mg base "_law_one_of" 2 2 (C_one) := by
  obtain ⟨f, fd, F, hm, hb, _⟩ := D.d_law_one_of.ex
  exact bd_law_one_of (k := 1) T F hm hb ((all_law_draw T D).mono (by omega)) c_one

theorem all_law_divisor (T : Txt K mg) (D : Defs K mg) : Cal P W K mg base "_law_divisor" 1 2 (C_div) := by
  obtain ⟨f, fd, F, hm, hb, _⟩ := D.d_law_divisor.ex
  exact bd_law_divisor (k := 0) T F hm hb  c_div

theorem all_law_part (T : Txt K mg) (D : Defs K mg) : Cal P W K mg base "_law_part" 2 2 (C_part) := by
  obtain ⟨f, fd, F, hm, hb, _⟩ := D.d_law_part.ex
  exact bd_law_part (k := 1) T F hm hb ((all_law_divisor T D).mono (by omega)) c_part

theorem all_law_place (T : Txt K mg) (D : Defs K mg) : Cal P W K mg base "_law_place" 2 3 (C_placeS) := by
  obtain ⟨f, fd, F, hm, hb, _⟩ := D.d_law_place.ex
  exact bd_law_place (k := 1) T F hm hb ((all_law_divisor T D).mono (by omega)) c_placeS

theorem all_law_told (T : Txt K mg) (D : Defs K mg) : Cal P W K mg base "_law_told" 3 1 (C_told) := by
  obtain ⟨f, fd, F, hm, hb, _⟩ := D.d_law_told.ex
  exact bd_law_told (k := 2) T F hm hb ((all_law_part T D).mono (by omega)) c_told

theorem all_law_own (T : Txt K mg) (D : Defs K mg) : Cal P W K mg base "_law_own" 3 1 (C_own) := by
  obtain ⟨f, fd, F, hm, hb, _⟩ := D.d_law_own.ex
  exact bd_law_own (k := 2) T F hm hb ((Cal.imp (all_law_place T D) place_imp).mono (by omega)) c_own

theorem all_law_side (T : Txt K mg) (D : Defs K mg) : Cal P W K mg base "_law_side" 1 3 (C_side) := by
  obtain ⟨f, fd, F, hm, hb, _⟩ := D.d_law_side.ex
  exact bd_law_side (k := 0) T F hm hb  c_side

theorem all_law_is_less (T : Txt K mg) (D : Defs K mg) : Cal P W K mg base "_law_is_less" 1 2 (C_hless) := by
  obtain ⟨f, fd, F, hm, hb, _⟩ := D.d_law_is_less.ex
  exact bd_law_is_less (k := 0) T F hm hb  c_hless

theorem all_law_lies_on (T : Txt K mg) (D : Defs K mg) : Cal P W K mg base "_law_lies_on" 2 3 (C_lies) := by
  obtain ⟨f, fd, F, hm, hb, _⟩ := D.d_law_lies_on.ex
  exact bd_law_lies_on (k := 1) T F hm hb ((all_law_side T D).mono (by omega)) ((all_law_is_less T D).mono (by omega)) c_lies

theorem all_law_bottom (T : Txt K mg) (D : Defs K mg) : Cal P W K mg base "_law_bottom" 2 1 (C_bottom) := by
  obtain ⟨f, fd, F, hm, hb, _⟩ := D.d_law_bottom.ex
  exact bd_law_bottom (k := 1) T F hm hb ((all_law_divisor T D).mono (by omega)) c_bottom

theorem all_law_rising (T : Txt K mg) (D : Defs K mg) : Cal P W K mg base "_law_rising" 3 1 (C_rising) := by
  obtain ⟨f, fd, F, hm, hb, _⟩ := D.d_law_rising.ex
  exact bd_law_rising (k := 2) T F hm hb ((all_law_bottom T D).mono (by omega)) c_rising

theorem all_law_meet (T : Txt K mg) (D : Defs K mg) : Cal P W K mg base "_law_meet" 4 2 (C_meet) := by
  obtain ⟨f, fd, F, hm, hb, _⟩ := D.d_law_meet.ex
  exact bd_law_meet (k := 3) T F hm hb ((all_law_side T D).mono (by omega)) ((all_law_lies_on T D).mono (by omega)) ((all_law_rising T D).mono (by omega)) ((all_law_place T D).mono (by omega)) c_meet

theorem all_law_cut (T : Txt K mg) (D : Defs K mg) : Cal P W K mg base "_law_cut" 5 2 (C_cut) := by
  obtain ⟨f, fd, F, hm, hb, _⟩ := D.d_law_cut.ex
  exact bd_law_cut (k := 4) T F hm hb ((all_law_meet T D).mono (by omega)) ((all_law_rising T D).mono (by omega)) ((all_law_lies_on T D).mono (by omega)) c_cut

theorem all_law_frame (T : Txt K mg) (D : Defs K mg) : Cal P W K mg base "_law_frame" 3 1 (C_frame) := by
  obtain ⟨f, fd, F, hm, hb, _⟩ := D.d_law_frame.ex
  exact bd_law_frame (k := 2) T F hm hb ((all_law_one_of T D).mono (by omega)) c_frame

theorem all_law_grid (T : Txt K mg) (D : Defs K mg) : Cal P W K mg base "_law_grid" 3 4 (C_grid) := by
  obtain ⟨f, fd, F, hm, hb, _⟩ := D.d_law_grid.ex
  exact bd_law_grid (k := 2) T F hm hb ((all_law_part T D).mono (by omega)) c_grid

theorem all_law_dot (T : Txt K mg) (D : Defs K mg) : Cal P W K mg base "_law_dot" 4 2 (C_dot) := by
  obtain ⟨f, fd, F, hm, hb, _⟩ := D.d_law_dot.ex
  exact bd_law_dot (k := 3) T F hm hb ((all_law_one_of T D).mono (by omega)) ((all_law_draw T D).mono (by omega)) ((all_law_grid T D).mono (by omega)) c_dot

theorem all_law_row (T : Txt K mg) (D : Defs K mg) : Cal P W K mg base "_law_row" 4 4 (C_row) := by
  obtain ⟨f, fd, F, hm, hb, _⟩ := D.d_law_row.ex
  exact bd_law_row (k := 3) T F hm hb ((all_law_draw T D).mono (by omega)) ((all_law_one_of T D).mono (by omega)) ((all_law_grid T D).mono (by omega)) c_row

theorem all_law_box (T : Txt K mg) (D : Defs K mg) : Cal P W K mg base "_law_box" 4 2 (C_box) := by
  obtain ⟨f, fd, F, hm, hb, _⟩ := D.d_law_box.ex
  exact bd_law_box (k := 3) T F hm hb ((all_law_draw T D).mono (by omega)) ((all_law_grid T D).mono (by omega)) c_box

theorem all_law_pairs (T : Txt K mg) (D : Defs K mg) : Cal P W K mg base "_law_pairs" 1 2 (C_pairs) := by
  obtain ⟨f, fd, F, hm, hb, _⟩ := D.d_law_pairs.ex
  exact bd_law_pairs (k := 0) T F hm hb  c_pairs

theorem all_law_lines (T : Txt K mg) (D : Defs K mg) : Cal P W K mg base "_law_lines" 5 3 (C_lines) := by
  obtain ⟨f, fd, F, hm, hb, _⟩ := D.d_law_lines.ex
  exact bd_law_lines (k := 4) T F hm hb ((all_law_draw T D).mono (by omega)) ((all_law_pairs T D).mono (by omega)) ((all_law_box T D).mono (by omega)) ((all_law_row T D).mono (by omega)) ((all_law_one_of T D).mono (by omega)) c_lines

theorem all_law_places (T : Txt K mg) (D : Defs K mg) : Cal P W K mg base "_law_places" 4 1 (C_places) := by
  obtain ⟨f, fd, F, hm, hb, _⟩ := D.d_law_places.ex
  exact bd_law_places (k := 3) T F hm hb ((all_law_own T D).mono (by omega)) c_places

theorem all_law_middle (T : Txt K mg) (D : Defs K mg) : Cal P W K mg base "_law_middle" 3 2 (C_middle) := by
  obtain ⟨f, fd, F, hm, hb, _⟩ := D.d_law_middle.ex
  exact bd_law_middle (k := 2) T F hm hb ((all_law_place T D).mono (by omega)) c_middle

theorem all_law_any_place (T : Txt K mg) (D : Defs K mg) : Cal P W K mg base "_law_any_place" 5 4 (C_any) := by
  obtain ⟨f, fd, F, hm, hb, _⟩ := D.d_law_any_place.ex
  exact bd_law_any_place (k := 4) T F hm hb ((all_law_draw T D).mono (by omega)) ((all_law_one_of T D).mono (by omega)) ((all_law_meet T D).mono (by omega)) ((all_law_middle T D).mono (by omega)) ((all_law_own T D).mono (by omega)) ((all_law_dot T D).mono (by omega)) c_any

theorem kw_edges_of_points_segments (T : Txt K mg) (D : Defs K mg) : CalK P W K mg base "edges_of" 8 2 (C_edges) [PySem.Str.ofString "points", PySem.Str.ofString "segments"] pm10 := by
  obtain ⟨f, fd, F, hm, hb, _, hk⟩ := D.d_edges_of.ex
  exact CalK.of10 (ok_edges_of (k := 7) T F hm hb ((all_check_lines T D).mono (by omega)) ((all_all_edges T D).mono (by omega)) ((all_all_vertices T D).mono (by omega)) c_edges) F.kp hm rfl (DL.Fun.kw F fun kV doc pmv an cdv ct us e => by
    match us, e with
    | [a, b], _ => rfl)

theorem kw_vertices_of_points_segments (T : Txt K mg) (D : Defs K mg) : CalK P W K mg base "vertices_of" 8 2 (C_allv) [PySem.Str.ofString "points", PySem.Str.ofString "segments"] pm10 := by
  obtain ⟨f, fd, F, hm, hb, _, hk⟩ := D.d_vertices_of.ex
  exact CalK.of10 (ok_vertices_of (k := 7) T F hm hb ((all_check_lines T D).mono (by omega)) ((all_all_vertices T D).mono (by omega)) c_verts) F.kp hm rfl (DL.Fun.kw F fun kV doc pmv an cdv ct us e => by
    match us, e with
    | [a, b], _ => rfl)

theorem all_law_right (T : Txt K mg) (D : Defs K mg) : Cal P W K mg base "_law_right" 9 1 (C_right) := by
  obtain ⟨f, fd, F, hm, hb, _⟩ := D.d_law_right.ex
  exact bd_law_right (k := 8) T F hm hb ((all_law_frame T D).mono (by omega)) ((all_law_lines T D).mono (by omega)) ((all_law_one_of T D).mono (by omega)) ((all_law_places T D).mono (by omega)) ((all_law_draw T D).mono (by omega)) ((all_law_any_place T D).mono (by omega)) ((all_law_told T D).mono (by omega)) ((all_law_cut T D).mono (by omega)) ((all_edges_of T D).mono (by omega)) ((all_vertices_of T D).mono (by omega)) (CalK_mono' (kw_edges_of_points_segments T D) (by omega)) (CalK_mono' (kw_vertices_of_points_segments T D) (by omega)) c_right

abbrev levels : Nat := 10
theorem law_end (T : Txt K mg) (D : Defs K mg) : ∃ f fd, mg "law" = some (.ref f) ∧ (∀ (s : Shared) (ws : List Value), ws.length = ["_law_script"].length → BindsTo s fd ⟨ws, []⟩ ((["_law_script"] : List Str).zip ws)) ∧
    ∀ base : Heap, K.In base → base.Ns mainGlobals mg → Pro P W K mg base levels f fd ["_law_script"] (spC K 1 C_true) := by
  obtain ⟨f, fd, F, hm, hb, hp, _⟩ := D.d_law.ex
  refine ⟨f, fd, hm, hp, fun base _ _ => ?_⟩
  exact ok_law (k := 9) T F hm hb ((all_law_right T D).mono (by omega)) (CalN_mono' (all_law_spring T D) (by omega)) c_law
end

end K05

open PySem PySem.W PyProof.Rows
set_option maxRecDepth 100000 in
set_option maxHeartbeats 0 in
theorem PySem.Challenge.cw_bentalike_k05_whole_vertices_and_edges_b_holds : PySem.Challenge.rw_bentalike_k05_whole_vertices_and_edges_b.Holds := by
  w_on; o_law; k_head; (case hw => w_witness2)
  k_fill
  refine DL.law_walk (l := PySem.Challenge.rw_bentalike_k05_whole_vertices_and_edges_b) (x := "_law_script") K05.levels rfl rfl ⟨rfl, by decide, by decide⟩ (fun w h Y => PySem.W.kIn_of Y) rfl ?F
  case F =>
    intro w mg fa h KX G hmg
    refine K05.law_end ?T ?D
    case T =>
      refine ⟨?qg0, ?qg1, ?qg2, ?qg3, ?qg4, ?qg5, ?qg6, ?qg7, ?qg8, ?qg9, ?qg10, ?qg11, ?qg12, ?qg13, ?qg14, ?qg15, ?qg16, ?qg17, ?qg18⟩
      case qg0 =>
        refine' DL.glob_fix KX G ?qa DL.fix_int
        (case qa => k_is)
      case qg1 =>
        refine' DL.glob_fix KX G ?qa (DL.fix_tup ?ql0 (by decide) (DL.fixs_cons DL.fix_int (DL.fixs_cons DL.fix_int DL.fixs_nil)))
        (case qa => k_is); (case ql0 => k_is)
      case qg2 => exact PySem.W.mg_none_of KX G (by k_is)
      case qg3 => exact PySem.W.mg_none_of KX G (by k_is)
      case qg4 => exact PySem.W.mg_none_of KX G (by k_is)
      case qg5 => exact PySem.W.mg_none_of KX G (by k_is)
      case qg6 => exact PySem.W.mg_none_of KX G (by k_is)
      case qg7 => exact PySem.W.mg_of KX G (by k_is)
      case qg8 => exact PySem.W.mg_none_of KX G (by k_is)
      case qg9 => exact PySem.W.mg_none_of KX G (by k_is)
      case qg10 => exact PySem.W.mg_none_of KX G (by k_is)
      case qg11 => exact PySem.W.mg_none_of KX G (by k_is)
      case qg12 => exact PySem.W.mg_none_of KX G (by k_is)
      case qg13 => exact PySem.W.mg_none_of KX G (by k_is)
      case qg14 => exact PySem.W.mg_none_of KX G (by k_is)
      case qg15 => exact PySem.W.mg_none_of KX G (by k_is)
      case qg16 => exact PySem.W.mg_none_of KX G (by k_is)
      case qg17 => exact PySem.W.mg_none_of KX G (by k_is)
      case qg18 => exact PySem.W.mg_none_of KX G (by k_is)
    case D =>
      refine ⟨?qd0, ?qd1, ?qd2, ?qd3, ?qd4, ?qd5, ?qd6, ?qd7, ?qd8, ?qd9, ?qd10, ?qd11, ?qd12, ?qd13, ?qd14, ?qd15, ?qd16, ?qd17, ?qd18, ?qd19, ?qd20, ?qd21, ?qd22, ?qd23, ?qd24, ?qd25, ?qd26, ?qd27, ?qd28, ?qd29, ?qd30, ?qd31, ?qd32, ?qd33, ?qd34, ?qd35, ?qd36, ?qd37, ?qd38, ?qd39, ?qd40, ?qd41, ?qd42, ?qd43, ?qd44, ?qd45, ?qd46, ?qd47, ?qd48, ?qd49, ?qd50, ?qd51, ?qd52, ?qd53, ?qd54⟩
      case qd0 =>
        refine' DL.Has.mk' KX G (fun _ _ _ _ _ _ us hl => match us, hl with | [_], _ => rfl) (fun _ _ _ _ _ _ us hl => match us, hl with | [_], _ => rfl) ?qa ?ql ?qc ?qk
        (case qa => k_is); (case ql => k_is); (case qc => k_is); (case qk => k_is)
      case qd1 =>
        refine' DL.Has.mk' KX G (fun _ _ _ _ _ _ us hl => match us, hl with | [_, _], _ => rfl) (fun _ _ _ _ _ _ us hl => match us, hl with | [_, _], _ => rfl) ?qa ?ql ?qc ?qk
        (case qa => k_is); (case ql => k_is); (case qc => k_is); (case qk => k_is)
      case qd2 =>
        refine' DL.Has.mk' KX G (fun _ _ _ _ _ _ us hl => match us, hl with | [_], _ => rfl) (fun _ _ _ _ _ _ us hl => match us, hl with | [_], _ => rfl) ?qa ?ql ?qc ?qk
        (case qa => k_is); (case ql => k_is); (case qc => k_is); (case qk => k_is)
      case qd3 =>
        refine' DL.Has.mk' KX G (fun _ _ _ _ _ _ us hl => match us, hl with | [_, _], _ => rfl) (fun _ _ _ _ _ _ us hl => match us, hl with | [_, _], _ => rfl) ?qa ?ql ?qc ?qk
        (case qa => k_is); (case ql => k_is); (case qc => k_is); (case qk => k_is)
      case qd4 =>
        refine' DL.Has.mk' KX G (fun _ _ _ _ _ _ us hl => match us, hl with | [_, _], _ => rfl) (fun _ _ _ _ _ _ us hl => match us, hl with | [_, _], _ => rfl) ?qa ?ql ?qc ?qk
        (case qa => k_is); (case ql => k_is); (case qc => k_is); (case qk => k_is)
      case qd5 =>
        refine' DL.Has.mk' KX G (fun _ _ _ _ _ _ us hl => match us, hl with | [_, _], _ => rfl) (fun _ _ _ _ _ _ us hl => match us, hl with | [_, _], _ => rfl) ?qa ?ql ?qc ?qk
        (case qa => k_is); (case ql => k_is); (case qc => k_is); (case qk => k_is)
      case qd6 =>
        refine' DL.Has.mk' KX G (fun _ _ _ _ _ _ us hl => match us, hl with | [_, _], _ => rfl) (fun _ _ _ _ _ _ us hl => match us, hl with | [_, _], _ => rfl) ?qa ?ql ?qc ?qk
        (case qa => k_is); (case ql => k_is); (case qc => k_is); (case qk => k_is)
      case qd7 =>
        refine' DL.Has.mk' KX G (fun _ _ _ _ _ _ us hl => match us, hl with | [_, _], _ => rfl) (fun _ _ _ _ _ _ us hl => match us, hl with | [_, _], _ => rfl) ?qa ?ql ?qc ?qk
        (case qa => k_is); (case ql => k_is); (case qc => k_is); (case qk => k_is)
      case qd8 =>
        refine' DL.Has.mk' KX G (fun _ _ _ _ _ _ us hl => match us, hl with | [_], _ => rfl) (fun _ _ _ _ _ _ us hl => match us, hl with | [_], _ => rfl) ?qa ?ql ?qc ?qk
        (case qa => k_is); (case ql => k_is); (case qc => k_is); (case qk => k_is)
      case qd9 =>
        refine' DL.Has.mk' KX G (fun _ _ _ _ _ _ us hl => match us, hl with | [_, _], _ => rfl) (fun _ _ _ _ _ _ us hl => match us, hl with | [_, _], _ => rfl) ?qa ?ql ?qc ?qk
        (case qa => k_is); (case ql => k_is); (case qc => k_is); (case qk => k_is)
      case qd10 =>
        refine' DL.Has.mk' KX G (fun _ _ _ _ _ _ us hl => match us, hl with | [_], _ => rfl) (fun _ _ _ _ _ _ us hl => match us, hl with | [_], _ => rfl) ?qa ?ql ?qc ?qk
        (case qa => k_is); (case ql => k_is); (case qc => k_is); (case qk => k_is)
      case qd11 =>
        refine' DL.Has.mk' KX G (fun _ _ _ _ _ _ us hl => match us, hl with | [_], _ => rfl) (fun _ _ _ _ _ _ us hl => match us, hl with | [_], _ => rfl) ?qa ?ql ?qc ?qk
        (case qa => k_is); (case ql => k_is); (case qc => k_is); (case qk => k_is)
      case qd12 =>
        refine' DL.Has.mk' KX G (fun _ _ _ _ _ _ us hl => match us, hl with | [_, _], _ => rfl) (fun _ _ _ _ _ _ us hl => match us, hl with | [_, _], _ => rfl) ?qa ?ql ?qc ?qk
        (case qa => k_is); (case ql => k_is); (case qc => k_is); (case qk => k_is)
      case qd13 =>
        refine' DL.Has.mk' KX G (fun _ _ _ _ _ _ us hl => match us, hl with | [_, _], _ => rfl) (fun _ _ _ _ _ _ us hl => match us, hl with | [_, _], _ => rfl) ?qa ?ql ?qc ?qk
        (case qa => k_is); (case ql => k_is); (case qc => k_is); (case qk => k_is)
      case qd14 =>
        refine' DL.Has.mk' KX G (fun _ _ _ _ _ _ us hl => match us, hl with | [_, _, _], _ => rfl) (fun _ _ _ _ _ _ us hl => match us, hl with | [_, _, _], _ => rfl) ?qa ?ql ?qc ?qk
        (case qa => k_is); (case ql => k_is); (case qc => k_is); (case qk => k_is)
      case qd15 =>
        refine' DL.Has.mk' KX G (fun _ _ _ _ _ _ us hl => match us, hl with | [_, _], _ => rfl) (fun _ _ _ _ _ _ us hl => match us, hl with | [_, _], _ => rfl) ?qa ?ql ?qc ?qk
        (case qa => k_is); (case ql => k_is); (case qc => k_is); (case qk => k_is)
      case qd16 =>
        refine' DL.Has.mk' KX G (fun _ _ _ _ _ _ us hl => match us, hl with | [_], _ => rfl) (fun _ _ _ _ _ _ us hl => match us, hl with | [_], _ => rfl) ?qa ?ql ?qc ?qk
        (case qa => k_is); (case ql => k_is); (case qc => k_is); (case qk => k_is)
      case qd17 =>
        refine' DL.Has.mk' KX G (fun _ _ _ _ _ _ us hl => match us, hl with | [_, _], _ => rfl) (fun _ _ _ _ _ _ us hl => match us, hl with | [_, _], _ => rfl) ?qa ?ql ?qc ?qk
        (case qa => k_is); (case ql => k_is); (case qc => k_is); (case qk => k_is)
      case qd18 =>
        refine' DL.Has.mk' KX G (fun _ _ _ _ _ _ us hl => match us, hl with | [_, _, _], _ => rfl) (fun _ _ _ _ _ _ us hl => match us, hl with | [_, _, _], _ => rfl) ?qa ?ql ?qc ?qk
        (case qa => k_is); (case ql => k_is); (case qc => k_is); (case qk => k_is)
      case qd19 =>
        refine' DL.Has.mk' KX G (fun _ _ _ _ _ _ us hl => match us, hl with | [_, _], _ => rfl) (fun _ _ _ _ _ _ us hl => match us, hl with | [_, _], _ => rfl) ?qa ?ql ?qc ?qk
        (case qa => k_is); (case ql => k_is); (case qc => k_is); (case qk => k_is)
      case qd20 =>
        refine' DL.Has.mk' KX G (fun _ _ _ _ _ _ us hl => match us, hl with | [_, _], _ => rfl) (fun _ _ _ _ _ _ us hl => match us, hl with | [_, _], _ => rfl) ?qa ?ql ?qc ?qk
        (case qa => k_is); (case ql => k_is); (case qc => k_is); (case qk => k_is)
      case qd21 =>
        refine' DL.Has.mk' KX G (fun _ _ _ _ _ _ us hl => match us, hl with | [_, _], _ => rfl) (fun _ _ _ _ _ _ us hl => match us, hl with | [_, _], _ => rfl) ?qa ?ql ?qc ?qk
        (case qa => k_is); (case ql => k_is); (case qc => k_is); (case qk => k_is)
      case qd22 =>
        refine' DL.Has.mk' KX G (fun _ _ _ _ _ _ us hl => match us, hl with | [_, _], _ => rfl) (fun _ _ _ _ _ _ us hl => match us, hl with | [_, _], _ => rfl) ?qa ?ql ?qc ?qk
        (case qa => k_is); (case ql => k_is); (case qc => k_is); (case qk => k_is)
      case qd23 =>
        refine' DL.Has.mk' KX G (fun _ _ _ _ _ _ us hl => match us, hl with | [_, _], _ => rfl) (fun _ _ _ _ _ _ us hl => match us, hl with | [_, _], _ => rfl) ?qa ?ql ?qc ?qk
        (case qa => k_is); (case ql => k_is); (case qc => k_is); (case qk => k_is)
      case qd24 =>
        refine' DL.Has.mk' KX G (fun _ _ _ _ _ _ us hl => match us, hl with | [_], _ => rfl) (fun _ _ _ _ _ _ us hl => match us, hl with | [_], _ => rfl) ?qa ?ql ?qc ?qk
        (case qa => k_is); (case ql => k_is); (case qc => k_is); (case qk => k_is)
      case qd25 =>
        refine' DL.Has.mk' KX G (fun _ _ _ _ _ _ us hl => match us, hl with | [_, _], _ => rfl) (fun _ _ _ _ _ _ us hl => match us, hl with | [_, _], _ => rfl) ?qa ?ql ?qc ?qk
        (case qa => k_is); (case ql => k_is); (case qc => k_is); (case qk => k_is)
      case qd26 =>
        refine' DL.Has.mk' KX G (fun _ _ _ _ _ _ us hl => match us, hl with | [_, _], _ => rfl) (fun _ _ _ _ _ _ us hl => match us, hl with | [_, _], _ => rfl) ?qa ?ql ?qc ?qk
        (case qa => k_is); (case ql => k_is); (case qc => k_is); (case qk => k_is)
      case qd27 =>
        refine' DL.Has.mk' KX G (fun _ _ _ _ _ _ us hl => match us, hl with | [_, _], _ => rfl) (fun _ _ _ _ _ _ us hl => match us, hl with | [_, _], _ => rfl) ?qa ?ql ?qc ?qk
        (case qa => k_is); (case ql => k_is); (case qc => k_is); (case qk => k_is)
      case qd28 =>
        refine' DL.Has.mk' KX G (fun _ _ _ _ _ _ us hl => match us, hl with | [_, _], _ => rfl) (fun _ _ _ _ _ _ us hl => match us, hl with | [_, _], _ => rfl) ?qa ?ql ?qc ?qk
        (case qa => k_is); (case ql => k_is); (case qc => k_is); (case qk => k_is)
      case qd29 =>
        refine' DL.Has.mk' KX G (fun _ _ _ _ _ _ us hl => match us, hl with | [_, _], _ => rfl) (fun _ _ _ _ _ _ us hl => match us, hl with | [_, _], _ => rfl) ?qa ?ql ?qc ?qk
        (case qa => k_is); (case ql => k_is); (case qc => k_is); (case qk => k_is)
      case qd30 =>
        refine' DL.Has.mk' KX G (fun _ _ _ _ _ _ us hl => match us, hl with | [_, _], _ => rfl) (fun _ _ _ _ _ _ us hl => match us, hl with | [_, _], _ => rfl) ?qa ?ql ?qc ?qk
        (case qa => k_is); (case ql => k_is); (case qc => k_is); (case qk => k_is)
      case qd31 =>
        refine' DL.Has.mk' KX G (fun _ _ _ _ _ _ us hl => match us, hl with | [_, _], _ => rfl) (fun _ _ _ _ _ _ us hl => match us, hl with | [_, _], _ => rfl) ?qa ?ql ?qc ?qk
        (case qa => k_is); (case ql => k_is); (case qc => k_is); (case qk => k_is)
      case qd32 =>
        refine' DL.Has.mk' KX G (fun _ _ _ _ _ _ us hl => match us, hl with | [_, _], _ => rfl) (fun _ _ _ _ _ _ us hl => match us, hl with | [_, _], _ => rfl) ?qa ?ql ?qc ?qk
        (case qa => k_is); (case ql => k_is); (case qc => k_is); (case qk => k_is)
      case qd33 =>
        refine' DL.Has.mk' KX G (fun _ _ _ _ _ _ us hl => match us, hl with | [_, _, _], _ => rfl) (fun _ _ _ _ _ _ us hl => match us, hl with | [_, _, _], _ => rfl) ?qa ?ql ?qc ?qk
        (case qa => k_is); (case ql => k_is); (case qc => k_is); (case qk => k_is)
      case qd34 =>
        refine' DL.Has.mk' KX G (fun _ _ _ _ _ _ us hl => match us, hl with | [_], _ => rfl) (fun _ _ _ _ _ _ us hl => match us, hl with | [_], _ => rfl) ?qa ?ql ?qc ?qk
        (case qa => k_is); (case ql => k_is); (case qc => k_is); (case qk => k_is)
      case qd35 =>
        refine' DL.Has.mk' KX G (fun _ _ _ _ _ _ us hl => match us, hl with | [_], _ => rfl) (fun _ _ _ _ _ _ us hl => match us, hl with | [_], _ => rfl) ?qa ?ql ?qc ?qk
        (case qa => k_is); (case ql => k_is); (case qc => k_is); (case qk => k_is)
      case qd36 =>
        refine' DL.Has.mk' KX G (fun _ _ _ _ _ _ us hl => match us, hl with | [_, _, _], _ => rfl) (fun _ _ _ _ _ _ us hl => match us, hl with | [_, _, _], _ => rfl) ?qa ?ql ?qc ?qk
        (case qa => k_is); (case ql => k_is); (case qc => k_is); (case qk => k_is)
      case qd37 =>
        refine' DL.Has.mk' KX G (fun _ _ _ _ _ _ us hl => match us, hl with | [_, _], _ => rfl) (fun _ _ _ _ _ _ us hl => match us, hl with | [_, _], _ => rfl) ?qa ?ql ?qc ?qk
        (case qa => k_is); (case ql => k_is); (case qc => k_is); (case qk => k_is)
      case qd38 =>
        refine' DL.Has.mk' KX G (fun _ _ _ _ _ _ us hl => match us, hl with | [_, _, _], _ => rfl) (fun _ _ _ _ _ _ us hl => match us, hl with | [_, _, _], _ => rfl) ?qa ?ql ?qc ?qk
        (case qa => k_is); (case ql => k_is); (case qc => k_is); (case qk => k_is)
      case qd39 =>
        refine' DL.Has.mk' KX G (fun _ _ _ _ _ _ us hl => match us, hl with | [_], _ => rfl) (fun _ _ _ _ _ _ us hl => match us, hl with | [_], _ => rfl) ?qa ?ql ?qc ?qk
        (case qa => k_is); (case ql => k_is); (case qc => k_is); (case qk => k_is)
      case qd40 =>
        refine' DL.Has.mk' KX G (fun _ _ _ _ _ _ us hl => match us, hl with | [_], _ => rfl) (fun _ _ _ _ _ _ us hl => match us, hl with | [_], _ => rfl) ?qa ?ql ?qc ?qk
        (case qa => k_is); (case ql => k_is); (case qc => k_is); (case qk => k_is)
      case qd41 =>
        refine' DL.Has.mk' KX G (fun _ _ _ _ _ _ us hl => match us, hl with | [_, _], _ => rfl) (fun _ _ _ _ _ _ us hl => match us, hl with | [_, _], _ => rfl) ?qa ?ql ?qc ?qk
        (case qa => k_is); (case ql => k_is); (case qc => k_is); (case qk => k_is)
      case qd42 =>
        refine' DL.Has.mk' KX G (fun _ _ _ _ _ _ us hl => match us, hl with | [_, _], _ => rfl) (fun _ _ _ _ _ _ us hl => match us, hl with | [_, _], _ => rfl) ?qa ?ql ?qc ?qk
        (case qa => k_is); (case ql => k_is); (case qc => k_is); (case qk => k_is)
      case qd43 =>
        refine' DL.Has.mk' KX G (fun _ _ _ _ _ _ us hl => match us, hl with | [_], _ => rfl) (fun _ _ _ _ _ _ us hl => match us, hl with | [_], _ => rfl) ?qa ?ql ?qc ?qk
        (case qa => k_is); (case ql => k_is); (case qc => k_is); (case qk => k_is)
      case qd44 =>
        refine' DL.Has.mk' KX G (fun _ _ _ _ _ _ us hl => match us, hl with | [_, _, _, _], _ => rfl) (fun _ _ _ _ _ _ us hl => match us, hl with | [_, _, _, _], _ => rfl) ?qa ?ql ?qc ?qk
        (case qa => k_is); (case ql => k_is); (case qc => k_is); (case qk => k_is)
      case qd45 =>
        refine' DL.Has.mk' KX G (fun _ _ _ _ _ _ us hl => match us, hl with | [_, _], _ => rfl) (fun _ _ _ _ _ _ us hl => match us, hl with | [_, _], _ => rfl) ?qa ?ql ?qc ?qk
        (case qa => k_is); (case ql => k_is); (case qc => k_is); (case qk => k_is)
      case qd46 =>
        refine' DL.Has.mk' KX G (fun _ _ _ _ _ _ us hl => match us, hl with | [_, _, _, _], _ => rfl) (fun _ _ _ _ _ _ us hl => match us, hl with | [_, _, _, _], _ => rfl) ?qa ?ql ?qc ?qk
        (case qa => k_is); (case ql => k_is); (case qc => k_is); (case qk => k_is)
      case qd47 =>
        refine' DL.Has.mk' KX G (fun _ _ _ _ _ _ us hl => match us, hl with | [_, _], _ => rfl) (fun _ _ _ _ _ _ us hl => match us, hl with | [_, _], _ => rfl) ?qa ?ql ?qc ?qk
        (case qa => k_is); (case ql => k_is); (case qc => k_is); (case qk => k_is)
      case qd48 =>
        refine' DL.Has.mk' KX G (fun _ _ _ _ _ _ us hl => match us, hl with | [_, _], _ => rfl) (fun _ _ _ _ _ _ us hl => match us, hl with | [_, _], _ => rfl) ?qa ?ql ?qc ?qk
        (case qa => k_is); (case ql => k_is); (case qc => k_is); (case qk => k_is)
      case qd49 =>
        refine' DL.Has.mk' KX G (fun _ _ _ _ _ _ us hl => match us, hl with | [_, _, _], _ => rfl) (fun _ _ _ _ _ _ us hl => match us, hl with | [_, _, _], _ => rfl) ?qa ?ql ?qc ?qk
        (case qa => k_is); (case ql => k_is); (case qc => k_is); (case qk => k_is)
      case qd50 =>
        refine' DL.Has.mk' KX G (fun _ _ _ _ _ _ us hl => match us, hl with | [_], _ => rfl) (fun _ _ _ _ _ _ us hl => match us, hl with | [_], _ => rfl) ?qa ?ql ?qc ?qk
        (case qa => k_is); (case ql => k_is); (case qc => k_is); (case qk => k_is)
      case qd51 =>
        refine' DL.Has.mk' KX G (fun _ _ _ _ _ _ us hl => match us, hl with | [_, _], _ => rfl) (fun _ _ _ _ _ _ us hl => match us, hl with | [_, _], _ => rfl) ?qa ?ql ?qc ?qk
        (case qa => k_is); (case ql => k_is); (case qc => k_is); (case qk => k_is)
      case qd52 =>
        refine' DL.Has.mk' KX G (fun _ _ _ _ _ _ us hl => match us, hl with | [_, _, _, _], _ => rfl) (fun _ _ _ _ _ _ us hl => match us, hl with | [_, _, _, _], _ => rfl) ?qa ?ql ?qc ?qk
        (case qa => k_is); (case ql => k_is); (case qc => k_is); (case qk => k_is)
      case qd53 =>
        refine' DL.Has.mk' KX G (fun _ _ _ _ _ _ us hl => match us, hl with | [_], _ => rfl) (fun _ _ _ _ _ _ us hl => match us, hl with | [_], _ => rfl) ?qa ?ql ?qc ?qk
        (case qa => k_is); (case ql => k_is); (case qc => k_is); (case qk => k_is)
      case qd54 =>
        refine' DL.Has.mk' KX G (fun _ _ _ _ _ _ us hl => match us, hl with | [_], _ => rfl) (fun _ _ _ _ _ _ us hl => match us, hl with | [_], _ => rfl) ?qa ?ql ?qc ?qk
        (case qa => k_is); (case ql => k_is); (case qc => k_is); (case qk => k_is)

