import PyProof.Rows.All
import Wide.All
import OpenK.AllK
import Wide.FinOn
import KE.DatumIndex
import HandS.ForMost
import HandS.IsInst
import HandS.Deep
import HandS.Wide
import HandS.Style
import HandS.More
import HandS.TupLe
import HandS.TupAny
import HandS.Gcd
import HandS.RaiseMore
import HandS.Walk
import HandS.Zip
import PySem.Challenge.RW_bentalike_k42_whole_picks_of_anything
set_option Elab.async false
set_option linter.all false
set_option maxRecDepth 100000
set_option maxHeartbeats 4000000
/-! A layer of data over the hand layer: values as trees of data, slots as data, expressions and statements as
predicate transformers over data. -/
namespace DL
open PySem L2 PyProof.Rows
abbrev Fr_ := PySem.W.Frag
abbrev AS := Addr → Prop
/-- what may change in place -/
def Mu : HO → Prop
  | .lst _ => True
  | .dK _ => True
  | _ => False
def keyD : Key → PyData
  | .inl i => .int i
  | .inr x => .str x
/-- a list of the module's own, at a heap that tracks nothing -/
def Wr (K : Fr_) (a : Addr) (vs : List V) : Prop := SqL K (fun _ => none) a vs
def QL (K : Fr_) (O : AS) (H : Hp) (a : Addr) (vs : List V) : Prop := (Rd H a (.lst vs) ∧ ¬ O a) ∨ Wr K a vs
theorem QL.sq {K : Fr_} {O : AS} {H : Hp} {a : Addr} {vs : List V} (h : QL K O H a vs) : SqL K H a vs := by
  rcases h with h | (h | ⟨o, h⟩) | h
  · exact .inl h.1
  · cases h
  · cases h
  · exact .inr h
mutual
/-- the value v shows the data d -/
def Rep (K : Fr_) (O : AS) (H : Hp) : PyData → V → Prop
  | .none, v => v = .non
  | .bool b, v => v = .bl b
  | .int i, v => v = .int i
  | .str x, v => v = .str x
  | .list ds, v => ∃ a vs, v = .ref a ∧ QL K O H a vs ∧ Reps K O H ds vs
  | .tuple ds, v => ∃ a vs, v = .ref a ∧ SqT K H a vs ∧ Reps K O H ds vs
  | .dict kvs, v => ∃ a ps, v = .ref a ∧ (Rd H a (.dK ps) ∧ ¬ O a) ∧ Repd K O H kvs ps
def Reps (K : Fr_) (O : AS) (H : Hp) : List PyData → List V → Prop
  | [], vs => vs = []
  | d :: ds, vs => ∃ v r, vs = v :: r ∧ Rep K O H d v ∧ Reps K O H ds r
def Repd (K : Fr_) (O : AS) (H : Hp) : List (PyData × PyData) → List (Key × V) → Prop
  | [], vs => vs = []
  | p :: ds, vs => ∃ k v r, vs = (k, v) :: r ∧ p.1 = keyD k ∧ Rep K O H p.2 v ∧ Repd K O H ds r
end
/-- all but what may be written stays -/
def Step (O : AS) (H H' : Hp) : Prop := ∀ a u, ¬ O a → H a = some u → H' a = some u
def OL (O : AS) (H : Hp) : Prop := ∀ a, O a → ∃ u, H a = some u ∧ Mu u
section
variable {K : Fr_} {O O' : AS} {H H' : Hp}
theorem Rd.step {a : Addr} {u : HO} (s : Step O H H') (n : ¬ O a) (h : Rd H a u) : Rd H' a u := by
  rcases h with h | ⟨o, h⟩
  · exact .inl (s _ _ n h)
  · exact .inr ⟨o, s _ _ n h⟩
theorem QL.step {a : Addr} {vs : List V} (s : Step O H H') (h : QL K O H a vs) : QL K O H' a vs := h.elim (fun h => .inl ⟨Rd.step s h.2 h.1, h.2⟩) .inr
theorem QL.less {a : Addr} {vs : List V} (s : ∀ a, O' a → O a) (h : QL K O H a vs) : QL K O' H a vs := h.elim (fun h => .inl ⟨h.1, fun z => h.2 (s a z)⟩) .inr
theorem SqT.step {a : Addr} {vs : List V} (s : Step O H H') (ol : OL O H) (h : SqT K H a vs) : SqT K H' a vs := by
  rcases h with h | h
  · refine .inl (Rd.step s (fun z => ?_) h)
    obtain ⟨u, hu, mu⟩ := ol a z
    rcases h with h | ⟨o, h⟩ <;> (rw [h] at hu; cases hu; exact mu)
  · exact .inr h
mutual
theorem Rep.step (s : Step O H H') (ol : OL O H) : ∀ (d : PyData) (v : V), Rep K O H d v → Rep K O H' d v
  | .none, v, h => by simp only [Rep] at *; exact h
  | .bool b, v, h => by simp only [Rep] at *; exact h
  | .int i, v, h => by simp only [Rep] at *; exact h
  | .str x, v, h => by simp only [Rep] at *; exact h
  | .list ds, v, h => by
    simp only [Rep] at *
    obtain ⟨a, vs, e, q, r⟩ := h
    exact ⟨a, vs, e, QL.step s q, Reps.step s ol ds vs r⟩
  | .tuple ds, v, h => by
    simp only [Rep] at *
    obtain ⟨a, vs, e, q, r⟩ := h
    exact ⟨a, vs, e, SqT.step s ol q, Reps.step s ol ds vs r⟩
  | .dict kvs, v, h => by
    simp only [Rep] at *
    obtain ⟨a, ps, e, ⟨q, n⟩, r⟩ := h
    exact ⟨a, ps, e, ⟨Rd.step s n q, n⟩, Repd.step s ol kvs ps r⟩
theorem Reps.step (s : Step O H H') (ol : OL O H) : ∀ (ds : List PyData) (vs : List V), Reps K O H ds vs → Reps K O H' ds vs
  | [], vs, h => by simp only [Reps] at *; exact h
  | d :: ds, vs, h => by
    simp only [Reps] at *
    obtain ⟨v, r, e, h1, h2⟩ := h
    exact ⟨v, r, e, Rep.step s ol d v h1, Reps.step s ol ds r h2⟩
theorem Repd.step (s : Step O H H') (ol : OL O H) : ∀ (ds : List (PyData × PyData)) (vs : List (Key × V)), Repd K O H ds vs → Repd K O H' ds vs
  | [], vs, h => by simp only [Repd] at *; exact h
  | p :: ds, vs, h => by
    simp only [Repd] at *
    obtain ⟨k, v, r, e, e2, h1, h2⟩ := h
    exact ⟨k, v, r, e, e2, Rep.step s ol p.2 v h1, Repd.step s ol ds r h2⟩
end
mutual
theorem Rep.less (s : ∀ a, O' a → O a) : ∀ (d : PyData) (v : V), Rep K O H d v → Rep K O' H d v
  | .none, v, h => by simp only [Rep] at *; exact h
  | .bool b, v, h => by simp only [Rep] at *; exact h
  | .int i, v, h => by simp only [Rep] at *; exact h
  | .str x, v, h => by simp only [Rep] at *; exact h
  | .list ds, v, h => by
    simp only [Rep] at *
    obtain ⟨a, vs, e, q, r⟩ := h
    exact ⟨a, vs, e, QL.less s q, Reps.less s ds vs r⟩
  | .tuple ds, v, h => by
    simp only [Rep] at *
    obtain ⟨a, vs, e, q, r⟩ := h
    exact ⟨a, vs, e, q, Reps.less s ds vs r⟩
  | .dict kvs, v, h => by
    simp only [Rep] at *
    obtain ⟨a, ps, e, ⟨q, n⟩, r⟩ := h
    exact ⟨a, ps, e, ⟨q, fun z => n (s a z)⟩, Repd.less s kvs ps r⟩
theorem Reps.less (s : ∀ a, O' a → O a) : ∀ (ds : List PyData) (vs : List V), Reps K O H ds vs → Reps K O' H ds vs
  | [], vs, h => by simp only [Reps] at *; exact h
  | d :: ds, vs, h => by
    simp only [Reps] at *
    obtain ⟨v, r, e, h1, h2⟩ := h
    exact ⟨v, r, e, Rep.less s d v h1, Reps.less s ds r h2⟩
theorem Repd.less (s : ∀ a, O' a → O a) : ∀ (ds : List (PyData × PyData)) (vs : List (Key × V)), Repd K O H ds vs → Repd K O' H ds vs
  | [], vs, h => by simp only [Repd] at *; exact h
  | p :: ds, vs, h => by
    simp only [Repd] at *
    obtain ⟨k, v, r, e, e2, h1, h2⟩ := h
    exact ⟨k, v, r, e, e2, Rep.less s p.2 v h1, Repd.less s ds r h2⟩
end

/-- a new address is in no data that stood before -/
def With (O : AS) (p : Addr) : AS := fun a => O a ∨ a = p
theorem Rd.there {a : Addr} {u : HO} (h : Rd H a u) {p : Addr} (n : H p = none) : a ≠ p := by
  rintro rfl
  rcases h with h | ⟨o, h⟩ <;> (rw [h] at n; cases n)
theorem QL.fw {a : Addr} {vs : List V} (hn : ∀ a, O' a → O a ∨ H a = none) (s : Step O H H') (h : QL K O H a vs) : QL K O' H' a vs := h.elim (fun h => .inl ⟨Rd.step s h.2 h.1, fun z => (hn a z).elim h.2 fun n => Rd.there h.1 n rfl⟩) .inr
mutual
theorem Rep.fw (hn : ∀ a, O' a → O a ∨ H a = none) (s : Step O H H') (ol : OL O H) : ∀ (d : PyData) (v : V), Rep K O H d v → Rep K O' H' d v
  | .none, v, h => by simp only [Rep] at *; exact h
  | .bool b, v, h => by simp only [Rep] at *; exact h
  | .int i, v, h => by simp only [Rep] at *; exact h
  | .str x, v, h => by simp only [Rep] at *; exact h
  | .list ds, v, h => by
    simp only [Rep] at *
    obtain ⟨a, vs, e, q, r⟩ := h
    exact ⟨a, vs, e, QL.fw hn s q, Reps.fw hn s ol ds vs r⟩
  | .tuple ds, v, h => by
    simp only [Rep] at *
    obtain ⟨a, vs, e, q, r⟩ := h
    exact ⟨a, vs, e, SqT.step s ol q, Reps.fw hn s ol ds vs r⟩
  | .dict kvs, v, h => by
    simp only [Rep] at *
    obtain ⟨a, ps, e, ⟨q, m⟩, r⟩ := h
    exact ⟨a, ps, e, ⟨Rd.step s m q, fun z => (hn a z).elim m fun n => Rd.there q n rfl⟩, Repd.fw hn s ol kvs ps r⟩
theorem Reps.fw (hn : ∀ a, O' a → O a ∨ H a = none) (s : Step O H H') (ol : OL O H) : ∀ (ds : List PyData) (vs : List V), Reps K O H ds vs → Reps K O' H' ds vs
  | [], vs, h => by simp only [Reps] at *; exact h
  | d :: ds, vs, h => by
    simp only [Reps] at *
    obtain ⟨v, r, e, h1, h2⟩ := h
    exact ⟨v, r, e, Rep.fw hn s ol d v h1, Reps.fw hn s ol ds r h2⟩
theorem Repd.fw (hn : ∀ a, O' a → O a ∨ H a = none) (s : Step O H H') (ol : OL O H) : ∀ (ds : List (PyData × PyData)) (vs : List (Key × V)), Repd K O H ds vs → Repd K O' H' ds vs
  | [], vs, h => by simp only [Repd] at *; exact h
  | q :: ds, vs, h => by
    simp only [Repd] at *
    obtain ⟨k, v, r, e, e2, h1, h2⟩ := h
    exact ⟨k, v, r, e, e2, Rep.fw hn s ol q.2 v h1, Repd.fw hn s ol ds r h2⟩
end
/-! ### rows of values -/
theorem Reps.len : ∀ {ds : List PyData} {vs : List V}, Reps K O H ds vs → vs.length = ds.length
  | [], _, h => by simp only [Reps] at h; subst h; rfl
  | d :: ds, _, h => by
    simp only [Reps] at h
    obtain ⟨v, r, rfl, _, h2⟩ := h
    simp [Reps.len h2]
theorem Reps.at : ∀ {ds : List PyData} {vs : List V} {i : Nat} {d : PyData}, Reps K O H ds vs → ds[i]? = some d → ∃ v, vs[i]? = some v ∧ Rep K O H d v
  | [], _, i, d, h, e => by simp at e
  | d' :: ds, _, 0, d, h, e => by
    simp only [Reps] at h
    obtain ⟨v, r, rfl, h1, h2⟩ := h
    simp at e; subst e
    exact ⟨v, rfl, h1⟩
  | d' :: ds, _, i + 1, d, h, e => by
    simp only [Reps] at h
    obtain ⟨v, r, rfl, h1, h2⟩ := h
    simp at e
    obtain ⟨v', e', h'⟩ := Reps.at h2 e
    exact ⟨v', by simpa using e', h'⟩
theorem Reps.app : ∀ {ds es : List PyData} {vs ws : List V}, Reps K O H ds vs → Reps K O H es ws → Reps K O H (ds ++ es) (vs ++ ws)
  | [], es, vs, ws, h, g => by simp only [Reps] at h; subst h; exact g
  | d :: ds, es, vs, ws, h, g => by
    simp only [Reps] at h
    obtain ⟨v, r, rfl, h1, h2⟩ := h
    simp only [List.cons_append, Reps]
    exact ⟨v, r ++ ws, rfl, h1, Reps.app h2 g⟩
theorem Reps.drop : ∀ {ds : List PyData} {vs : List V} (n : Nat), Reps K O H ds vs → Reps K O H (ds.drop n) (vs.drop n)
  | ds, vs, 0, h => by simpa using h
  | [], vs, n + 1, h => by simp only [Reps] at h; subst h; simp [Reps]
  | d :: ds, vs, n + 1, h => by
    simp only [Reps] at h
    obtain ⟨v, r, rfl, h1, h2⟩ := h
    simpa using Reps.drop n h2
theorem Reps.take : ∀ {ds : List PyData} {vs : List V} (n : Nat), Reps K O H ds vs → Reps K O H (ds.take n) (vs.take n)
  | ds, vs, 0, h => by simp [Reps]
  | [], vs, n + 1, h => by simp only [Reps] at h; subst h; simp [Reps]
  | d :: ds, vs, n + 1, h => by
    simp only [Reps] at h
    obtain ⟨v, r, rfl, h1, h2⟩ := h
    simp only [List.take_succ_cons, Reps]
    exact ⟨v, r.take n, rfl, h1, Reps.take n h2⟩
theorem Reps.set : ∀ {ds : List PyData} {vs : List V} (n : Nat) {d : PyData} {v : V}, Reps K O H ds vs → Rep K O H d v → Reps K O H (ds.set n d) (vs.set n v)
  | [], vs, n, d, v, h, g => by simp only [Reps] at h; subst h; simp [Reps]
  | d' :: ds, vs, 0, d, v, h, g => by
    simp only [Reps] at h
    obtain ⟨v', r, rfl, h1, h2⟩ := h
    simp only [List.set_cons_zero, Reps]
    exact ⟨v, r, rfl, g, h2⟩
  | d' :: ds, vs, n + 1, d, v, h, g => by
    simp only [Reps] at h
    obtain ⟨v', r, rfl, h1, h2⟩ := h
    simp only [List.set_cons_succ, Reps]
    exact ⟨v', r.set n v, rfl, h1, Reps.set n h2 g⟩
theorem Reps.ints : ∀ {ns : List Int} {vs : List V}, Reps K O H (ns.map PyData.int) vs → vs = ns.map V.int
  | [], vs, h => by simpa [Reps] using h
  | n :: ns, vs, h => by
    simp only [List.map_cons, Reps, Rep] at h
    obtain ⟨v, r, rfl, rfl, h2⟩ := h
    rw [Reps.ints h2]; rfl
theorem Reps.bools : ∀ {ns : List Bool} {vs : List V}, Reps K O H (ns.map PyData.bool) vs → vs = ns.map V.bl
  | [], vs, h => by simpa [Reps] using h
  | n :: ns, vs, h => by
    simp only [List.map_cons, Reps, Rep] at h
    obtain ⟨v, r, rfl, rfl, h2⟩ := h
    rw [Reps.bools h2]; rfl
theorem Reps.of_ints : ∀ (ns : List Int), Reps K O H (ns.map PyData.int) (ns.map V.int)
  | [] => by simp [Reps]
  | n :: ns => by simp only [List.map_cons, Reps, Rep]; exact ⟨_, _, rfl, rfl, Reps.of_ints ns⟩
end
end DL

namespace DL
open PySem L2 PyProof.Rows
/-- what a slot holds: nothing that is known, data, a list of this def's own that may be changed, the well -/
inductive Sl where
  | un | dat (d : PyData) | own (xs : List PyData) | wel
abbrev Rho := List Sl
abbrev SW := List Int
/-- an expression's transformer -/
abbrev FE := Rho → SW → (PyData → SW → Prop) → Prop
/-- rows of arguments -/
abbrev FA := Rho → SW → (List Sl → SW → Prop) → Prop
/-- the addresses that may still be written: the callers', this def's own -/
def OO (Oc : AS) (σ : L2.St) (ρ : Rho) : AS := fun a => Oc a ∨ ∃ (i : Nat) (xs : List PyData), ρ[i]? = some (Sl.own xs) ∧ σ[i]? = some (some (.ref a))
/-- all stands but the well -/
def Gr (w : Option Addr) (H H' : Hp) : Prop := ∀ a u, w ≠ some a → H a = some u → H' a = some u
structure EV (K : Fr_) (Oc : AS) (w : Option Addr) (σ : L2.St) (H : Hp) (ρ : Rho) (S : SW) : Prop where
  len : ρ.length = σ.length
  dat : ∀ (i : Nat) (d : PyData), ρ[i]? = some (Sl.dat d) → ∃ v, σ[i]? = some (some v) ∧ Rep K (OO Oc σ ρ) H d v
  own : ∀ (i : Nat) (xs : List PyData), ρ[i]? = some (Sl.own xs) → ∃ a vs, σ[i]? = some (some (.ref a)) ∧ H a = some (.lst vs) ∧ ¬ Oc a ∧ Reps K (OO Oc σ ρ) H xs vs
  inj : ∀ (i j : Nat) (xs ys : List PyData) (a : Addr), ρ[i]? = some (Sl.own xs) → ρ[j]? = some (Sl.own ys) → σ[i]? = some (some (.ref a)) → σ[j]? = some (some (.ref a)) → i = j
  wel : ∀ (i : Nat), ρ[i]? = some Sl.wel → ∃ a, w = some a ∧ σ[i]? = some (some (.ref a))
  ws : ∀ a, w = some a → Oc a ∧ H a = some (.lst (S.map V.int))
  ol : OL Oc H
section
variable {K : Fr_} {Oc : AS} {w : Option Addr} {H H' H'' : Hp} {σ : L2.St} {ρ : Rho} {S S' : SW}
theorem Gr.refl : Gr w H H := fun _ _ _ h => h
theorem Gr.trans (a : Gr w H H') (b : Gr w H' H'') : Gr w H H'' := fun c u n h => b c u n (a c u n h)
theorem Gr.of (a : Same H H') : Gr w H H' := fun c u _ h => a c u h
theorem EV.Ool (e : EV K Oc w σ H ρ S) : OL (OO Oc σ ρ) H := by
  rintro a (h | ⟨i, xs, h1, h2⟩)
  · exact e.ol a h
  · obtain ⟨b, vs, hb, hl, _⟩ := e.own i xs h1
    rw [h2] at hb
    cases hb
    exact ⟨_, hl, trivial⟩
theorem EV.nw (e : EV K Oc w σ H ρ S) {a : Addr} (h : ¬ Oc a) : w ≠ some a := fun z => h (e.ws a z).1
theorem EV.stepO (e : EV K Oc w σ H ρ S) (g : Gr w H H') : Step (OO Oc σ ρ) H H' := fun a u n h => g a u (fun z => n (.inl (e.ws a z).1)) h
/-- behind an expression -/
theorem EV.go (e : EV K Oc w σ H ρ S) (g : Gr w H H') (hs : ∀ a, w = some a → H' a = some (.lst (S'.map V.int))) : EV K Oc w σ H' ρ S' where
  len := e.len
  dat := fun i d h => by
    obtain ⟨v, hv, r⟩ := e.dat i d h
    exact ⟨v, hv, Rep.step (e.stepO g) e.Ool d v r⟩
  own := fun i xs h => by
    obtain ⟨a, vs, h1, h2, h3, h4⟩ := e.own i xs h
    exact ⟨a, vs, h1, g a _ (e.nw h3) h2, h3, Reps.step (e.stepO g) e.Ool xs vs h4⟩
  inj := e.inj
  wel := e.wel
  ws := fun a h => ⟨(e.ws a h).1, hs a h⟩
  ol := fun a h => by
    by_cases hw : w = some a
    · exact ⟨_, hs a hw, trivial⟩
    · obtain ⟨u, hu, mu⟩ := e.ol a h
      exact ⟨u, g a u hw hu, mu⟩
theorem EV.same (e : EV K Oc w σ H ρ S) (g : Same H H') : EV K Oc w σ H' ρ S := e.go (Gr.of g) fun a h => g a _ (e.ws a h).2
/-- borrowed: data, or the list of one's own in a slot -/
def RepB (K : Fr_) (O : AS) (w : Option Addr) (H : Hp) (d : PyData) (v : V) : Prop :=
  Rep K O H d v ∨ ∃ a vs ds, d = .list ds ∧ v = .ref a ∧ w ≠ some a ∧ H a = some (.lst vs) ∧ Reps K O H ds vs
theorem RepB.go {O : AS} {d : PyData} {v : V} (s : Step O H H') (ol : OL O H) (g : Gr w H H') (h : RepB K O w H d v) : RepB K O w H' d v := by
  rcases h with h | ⟨a, vs, ds, e1, e2, n, h1, h2⟩
  · exact .inl (Rep.step s ol d v h)
  · exact .inr ⟨a, vs, ds, e1, e2, n, g _ _ n h1, Reps.step s ol ds vs h2⟩
theorem RepB.lst {O : AS} {ds : List PyData} {v : V} (h : RepB K O w H (.list ds) v) : ∃ a vs, v = .ref a ∧ SqL K H a vs ∧ Reps K O H ds vs := by
  rcases h with h | ⟨a, vs, ds', e1, e2, n, h1, h2⟩
  · simp only [Rep] at h
    obtain ⟨a, vs, e, q, r⟩ := h
    exact ⟨a, vs, e, q.sq, r⟩
  · cases e1
    exact ⟨a, vs, e2, SqL.of h1, h2⟩
theorem RepB.tup {O : AS} {ds : List PyData} {v : V} (h : RepB K O w H (.tuple ds) v) : ∃ a vs, v = .ref a ∧ SqT K H a vs ∧ Reps K O H ds vs := by
  rcases h with h | ⟨a, vs, ds', e1, e2, n, h1, h2⟩
  · simpa only [Rep] using h
  · cases e1
theorem RepB.int {O : AS} {i : Int} {v : V} (h : RepB K O w H (.int i) v) : v = .int i := by
  rcases h with h | ⟨a, vs, ds', e1, _⟩
  · simpa only [Rep] using h
  · cases e1
theorem RepB.bool {O : AS} {i : Bool} {v : V} (h : RepB K O w H (.bool i) v) : v = .bl i := by
  rcases h with h | ⟨a, vs, ds', e1, _⟩
  · simpa only [Rep] using h
  · cases e1
theorem RepB.str {O : AS} {i : Str} {v : V} (h : RepB K O w H (.str i) v) : v = .str i := by
  rcases h with h | ⟨a, vs, ds', e1, _⟩
  · simpa only [Rep] using h
  · cases e1
theorem RepB.non {O : AS} {v : V} (h : RepB K O w H .none v) : v = .non := by
  rcases h with h | ⟨a, vs, ds', e1, _⟩
  · simpa only [Rep] using h
  · cases e1
end
def asB : PyData → (Bool → Prop) → Prop
  | .bool b, k => k b
  | _, _ => False
def asI : PyData → (Int → Prop) → Prop
  | .int i, k => k i
  | _, _ => False
theorem asB_inv {d : PyData} {k : Bool → Prop} (h : asB d k) : ∃ b, d = .bool b ∧ k b := by
  cases d <;> simp only [asB] at h <;> first | exact h.elim | exact ⟨_, rfl, h⟩
theorem asI_inv {d : PyData} {k : Int → Prop} (h : asI d k) : ∃ b, d = .int b ∧ k b := by
  cases d <;> simp only [asI] at h <;> first | exact h.elim | exact ⟨_, rfl, h⟩
/-! ### readings -/
def rd (K : Fr_) (f : FE) : TE := fun σ H Q => ∃ Oc w ρ S R, EV K Oc w σ H ρ S ∧ f ρ S R ∧
  ∀ d S' v H', EV K Oc w σ H' ρ S' → Gr w H H' → Rep K (OO Oc σ ρ) H' d v → R d S' → Q v H'
/-- .. of an expression whose value is looked at, not kept -/
def rb (K : Fr_) (f : FE) : TE := fun σ H Q => ∃ Oc w ρ S R, EV K Oc w σ H ρ S ∧ f ρ S R ∧
  ∀ d S' v H', EV K Oc w σ H' ρ S' → Gr w H H' → RepB K (OO Oc σ ρ) w H' d v → R d S' → Q v H'
/-- .. of a new list -/
def rn (K : Fr_) (f : FE) : TE := fun σ H Q => ∃ Oc w ρ S R, EV K Oc w σ H ρ S ∧ f ρ S R ∧
  ∀ ds S' p vs H', EV K Oc w σ H' ρ S' → Gr w H H' → H p = none → H' p = some (.lst vs) → Reps K (With (OO Oc σ ρ) p) H' ds vs → R (.list ds) S' → Q (.ref p) H'
/-- .. of a test -/
def rt (K : Fr_) (f : FE) : TT := fun σ H Q => ∃ Oc w ρ S, ∃ R : Bool → SW → Prop, EV K Oc w σ H ρ S ∧ f ρ S (fun d S' => asB d fun b => R b S') ∧
  ∀ b S' H', EV K Oc w σ H' ρ S' → Gr w H H' → R b S' → Q b H'
section
variable {X : Cx} {e a b c : Expr} {pos : Pos} {f fa fb fc : FE}
theorem PE.imp {t t' : TE} (h : PE X e t) (i : ∀ σ H Q, t' σ H Q → t σ H Q) : PE X e t' := ⟨fun pins s σ H Q I q => h.run pins s σ H Q I (i σ H Q q)⟩
theorem PT.imp {t t' : TT} (h : PT X e t) (i : ∀ σ H Q, t' σ H Q → t σ H Q) : PT X e t' := ⟨fun pins s σ H Q I q => h.run pins s σ H Q I (i σ H Q q)⟩
theorem PW.imp {t t' : TT} (h : PW X e t) (i : ∀ σ H Q, t' σ H Q → t σ H Q) : PW X e t' := ⟨fun wh pins s σ H Q I q => h.run wh pins s σ H Q I (i σ H Q q)⟩
theorem PA.imp {es : List Expr} {t t' : TA} (h : PA X es t) (i : ∀ σ H Q, t' σ H Q → t σ H Q) : PA X es t' := ⟨fun ps pins s σ H Q I q => h.run ps pins s σ H Q I (i σ H Q q)⟩
theorem PS.imp {st : Stmt} {t t' : TS} (h : PS X st t) (i : ∀ D σ H, t' D σ H → t D σ H) : PS X st t' := ⟨fun pins s σ H D I q => h.run pins s σ H D I (i D σ H q)⟩
theorem PSs.imp {st : List Stmt} {t t' : TS} (h : PSs X st t) (i : ∀ D σ H, t' D σ H → t D σ H) : PSs X st t' := ⟨fun pins s σ H D I q => h.run pins s σ H D I (i D σ H q)⟩
/-- kept is looked at -/
theorem b_of (h : PE X e (rd X.K f)) : PE X e (rb X.K f) := PE.imp h fun σ H Q ⟨Oc, w, ρ, S, R, ev, hf, k⟩ =>
  ⟨Oc, w, ρ, S, R, ev, hf, fun d S' v H' ev' g r q => k d S' v H' ev' g (.inl r) q⟩
theorem Reps.less' {K : Fr_} {O : AS} {p : Addr} {H : Hp} {ds : List PyData} {vs : List V} (h : Reps K (With O p) H ds vs) : Reps K O H ds vs := Reps.less (fun a z => .inl z) ds vs h
/-- a new list as a value -/
theorem d_of_n (h : PE X e (rn X.K f)) : PE X e (rd X.K f) := PE.imp h fun σ H Q ⟨Oc, w, ρ, S, R, ev, hf, k⟩ =>
  ⟨Oc, w, ρ, S, R, ev, hf, fun ds S' p vs H' ev' g n hp r q => k (.list ds) S' (.ref p) H' ev' g (by
    simp only [Rep]
    refine ⟨p, vs, rfl, .inl ⟨.inl hp, fun z => ?_⟩, Reps.less' r⟩
    obtain ⟨u, hu, _⟩ := ev.Ool p z
    rw [hu] at n
    cases n) q⟩
/-- a value that is a truth, as a test -/
theorem t_val (h : PE X e (rb X.K f)) (he : ∀ whole, isTrue e X.env whole = (do let v ← whole; standAt e.pos; holding [v] (truthy v)) := by intro _; rfl) : PT X e (rt X.K f) :=
  PT.imp (pt_val h he) fun σ H Q ⟨Oc, w, ρ, S, R, ev, hf, k⟩ =>
    ⟨Oc, w, ρ, S, _, ev, hf, fun d S' v H' ev' g r q => by
      obtain ⟨b, rfl, q⟩ := asB_inv q
      exact ⟨b, r.bool, k b S' H' ev' g q⟩⟩
/-! ### names, constants -/
def fVar (i : Nat) : FE := fun ρ S R => match ρ[i]? with
  | some (.dat d) => R d S
  | _ => False
def fVarB (i : Nat) : FE := fun ρ S R => match ρ[i]? with
  | some (.dat d) => R d S
  | some (.own xs) => R (.list xs) S
  | _ => False
def fC (d : PyData) : FE := fun _ S R => R d S
theorem d_var (i : Nat) {x : Str} (hN : X.N[i]? = some x := by rfl) (hv : Vis X.env.scope x := by first | exact Or.inl rfl | exact Or.inr (Or.inl rfl) | exact Or.inr (Or.inr rfl)) (hd : (x == ("__debug__" : Str)) = false := by decide)
    (hcd : (x == ("__classdict__" : Str)) = false := by decide) : PE X (.Name x pos) (rd X.K (fVar i)) := PE.imp (pe_var (i := i) hN hv hd hcd) fun σ H Q ⟨Oc, w, ρ, S, R, ev, hf, k⟩ => by
  unfold fVar at hf
  split at hf
  · rename_i d hd
    obtain ⟨v, hv, r⟩ := ev.dat i d hd
    exact ⟨v, hv, k d S v H ev Gr.refl r hf⟩
  · exact hf.elim
theorem b_var (i : Nat) {x : Str} (hN : X.N[i]? = some x := by rfl) (hv : Vis X.env.scope x := by first | exact Or.inl rfl | exact Or.inr (Or.inl rfl) | exact Or.inr (Or.inr rfl)) (hd : (x == ("__debug__" : Str)) = false := by decide)
    (hcd : (x == ("__classdict__" : Str)) = false := by decide) : PE X (.Name x pos) (rb X.K (fVarB i)) := PE.imp (pe_var (i := i) hN hv hd hcd) fun σ H Q ⟨Oc, w, ρ, S, R, ev, hf, k⟩ => by
  unfold fVarB at hf
  split at hf
  · rename_i d hd
    obtain ⟨v, hv, r⟩ := ev.dat i d hd
    exact ⟨v, hv, k d S v H ev Gr.refl (.inl r) hf⟩
  · rename_i xs hx
    obtain ⟨a, vs, h1, h2, h3, h4⟩ := ev.own i xs hx
    exact ⟨_, h1, k (.list xs) S _ H ev Gr.refl (.inr ⟨a, vs, xs, rfl, rfl, ev.nw h3, h2, h4⟩) hf⟩
  · exact hf.elim
theorem rd_c {v : V} {d : PyData} (h : ∀ O H, Rep X.K O H d v) : ∀ σ H Q, rd X.K (fC d) σ H Q → tC v σ H Q := fun σ H Q ⟨Oc, w, ρ, S, R, ev, hf, k⟩ => k d S v H ev Gr.refl (h _ _) hf
theorem d_int {i : Int} {j : Nat} : PE X (.Constant (.int i) j pos) (rd X.K (fC (.int i))) := PE.imp pe_int (rd_c fun _ _ => by simp only [Rep])
theorem d_bool {i : Bool} {j : Nat} : PE X (.Constant (.bool i) j pos) (rd X.K (fC (.bool i))) := PE.imp pe_bl (rd_c fun _ _ => by simp only [Rep])
theorem d_none {j : Nat} : PE X (.Constant .none j pos) (rd X.K (fC .none)) := PE.imp pe_non (rd_c fun _ _ => by simp only [Rep])
theorem d_str {x : Str} {j : Nat} : PE X (.Constant (.str x) j pos) (rd X.K (fC (.str x))) := PE.imp pe_str (rd_c fun _ _ => by simp only [Rep])
/-- a constant of the module -/
def GlobD (K : Fr_) (mg : Str → Option Value) (x : Str) (d : PyData) : Prop := ∃ v u, mg x = some u ∧ RelV v u ∧ ∀ O H, Rep K O H d v
theorem d_glob {x : Str} {d : PyData} (h : GlobD X.K X.mg x d) (hg : Gl X x := by rfl) (hd : (x == ("__debug__" : Str)) = false := by decide) : PE X (.Name x pos) (rd X.K (fC d)) := by
  obtain ⟨v, u, h1, h2, h3⟩ := h
  exact PE.imp (pe_glob hg h1 h2 hd) (rd_c h3)
end
end DL

namespace DL
open PySem L2 PyProof.Rows
/-! ### operations on data -/
abbrev O1 := PyData → (PyData → Prop) → Prop
abbrev O2 := PyData → PyData → (PyData → Prop) → Prop
def fOp (o : O2) (fa fb : FE) : FE := fun ρ S R => fa ρ S fun x S1 => fb ρ S1 fun y S2 => o x y fun d => R d S2
def fUn (o : O1) (fa : FE) : FE := fun ρ S R => fa ρ S fun x S1 => o x fun d => R d S1
/-- what an operation's rule gives, in data -/
structure OpS (K : Fr_) (r : R2) (o : O2) : Prop where
  run : ∀ {O : AS} {w : Option Addr} {H : Hp} {x y : PyData} {vx vy : V} {R : PyData → Prop} {Q : VK}, OL O H → RepB K O w H x vx → RepB K O w H y vy → o x y R →
    (∀ d v H', Same H H' → Rep K O H' d v → R d → Q v H') → r vx vy H Q
structure UnS (K : Fr_) (r : V → Hp → VK → Prop) (o : O1) : Prop where
  run : ∀ {O : AS} {w : Option Addr} {H : Hp} {x : PyData} {vx : V} {R : PyData → Prop} {Q : VK}, OL O H → RepB K O w H x vx → o x R →
    (∀ d v H', Same H H' → Rep K O H' d v → R d → Q v H') → r vx H Q
/-- .. a new list -/
structure UnN (K : Fr_) (r : V → Hp → VK → Prop) (o : O1) : Prop where
  run : ∀ {O : AS} {w : Option Addr} {H : Hp} {x : PyData} {vx : V} {R : PyData → Prop} {Q : VK}, OL O H → RepB K O w H x vx → o x R →
    (∀ ds p vs H', Same H H' → H p = none → H' p = some (.lst vs) → Reps K (With O p) H' ds vs → R (.list ds) → Q (.ref p) H') → r vx H Q
structure OpN (K : Fr_) (r : R2) (o : O2) : Prop where
  run : ∀ {O : AS} {w : Option Addr} {H : Hp} {x y : PyData} {vx vy : V} {R : PyData → Prop} {Q : VK}, OL O H → RepB K O w H x vx → RepB K O w H y vy → o x y R →
    (∀ ds p vs H', Same H H' → H p = none → H' p = some (.lst vs) → Reps K (With O p) H' ds vs → R (.list ds) → Q (.ref p) H') → r vx vy H Q
section
variable {K : Fr_} {O : AS} {w : Option Addr} {H H' : Hp}
theorem free_of {Oc : AS} {σ : L2.St} {ρ : Rho} {S : SW} {p : Addr} (e : EV K Oc w σ H' ρ S) (g : Gr w H H') (n : H' p = none) : H p = none := by
  cases q : H p with
  | none => rfl
  | some u =>
    by_cases hw : w = some p
    · rw [(e.ws p hw).2] at n
      cases n
    · rw [g p u hw q] at n
      cases n
variable {fa fb fc : FE} {r r' : R2} {o o' : O2} {ru : V → Hp → VK → Prop} {ou : O1}
theorem rd_op (s : OpS K r o) {σ : L2.St} {Q : VK} (h : rd K (fOp o fa fb) σ H Q) : tOp r (rb K fa) (rb K fb) σ H Q := by
  obtain ⟨Oc, w, ρ, S, R, ev, hf, k⟩ := h
  exact ⟨Oc, w, ρ, S, _, ev, hf, fun x S1 vx H1 ev1 g1 rx h1 => ⟨Oc, w, ρ, S1, _, ev1, h1, fun y S2 vy H2 ev2 g2 ry h2 =>
    s.run ev2.Ool (RepB.go (ev1.stepO g2) ev1.Ool g2 rx) ry h2 fun d v H3 sm rv q => k d S2 v H3 (ev2.same sm) ((g1.trans g2).trans (Gr.of sm)) rv q⟩⟩
theorem rn_op (s : OpN K r o) {σ : L2.St} {Q : VK} (h : rn K (fOp o fa fb) σ H Q) : tOp r (rb K fa) (rb K fb) σ H Q := by
  obtain ⟨Oc, w, ρ, S, R, ev, hf, k⟩ := h
  exact ⟨Oc, w, ρ, S, _, ev, hf, fun x S1 vx H1 ev1 g1 rx h1 => ⟨Oc, w, ρ, S1, _, ev1, h1, fun y S2 vy H2 ev2 g2 ry h2 =>
    s.run ev2.Ool (RepB.go (ev1.stepO g2) ev1.Ool g2 rx) ry h2 fun ds p vs H3 sm n hp rv q => k ds S2 p vs H3 (ev2.same sm) ((g1.trans g2).trans (Gr.of sm)) (free_of ev2 (g1.trans g2) n) hp rv q⟩⟩
theorem rd_un (s : UnS K ru ou) {σ : L2.St} {Q : VK} (h : rd K (fUn ou fa) σ H Q) : rb K fa σ H fun x H1 => ru x H1 Q := by
  obtain ⟨Oc, w, ρ, S, R, ev, hf, k⟩ := h
  exact ⟨Oc, w, ρ, S, _, ev, hf, fun x S1 vx H1 ev1 g1 rx h1 =>
    s.run ev1.Ool rx h1 fun d v H3 sm rv q => k d S1 v H3 (ev1.same sm) (g1.trans (Gr.of sm)) rv q⟩
theorem rn_un (s : UnN K ru ou) {σ : L2.St} {Q : VK} (h : rn K (fUn ou fa) σ H Q) : rb K fa σ H fun x H1 => ru x H1 Q := by
  obtain ⟨Oc, w, ρ, S, R, ev, hf, k⟩ := h
  exact ⟨Oc, w, ρ, S, _, ev, hf, fun x S1 vx H1 ev1 g1 rx h1 =>
    s.run ev1.Ool rx h1 fun ds p vs H3 sm n hp rv q => k ds S1 p vs H3 (ev1.same sm) (g1.trans (Gr.of sm)) (free_of ev1 g1 n) hp rv q⟩
/-- a comparison as a test -/
theorem rt_op (s : OpS K r o) {σ : L2.St} {Q : Bool → Hp → Prop} (h : rt K (fOp o fa fb) σ H Q) : tTest (tOp r (rb K fa) (rb K fb)) σ H Q := by
  obtain ⟨Oc, w, ρ, S, R, ev, hf, k⟩ := h
  exact ⟨Oc, w, ρ, S, _, ev, hf, fun x S1 vx H1 ev1 g1 rx h1 => ⟨Oc, w, ρ, S1, _, ev1, h1, fun y S2 vy H2 ev2 g2 ry h2 =>
    s.run (R := fun d => asB d fun b => R b S2) ev2.Ool (RepB.go (ev1.stepO g2) ev1.Ool g2 rx) ry h2 fun d v H3 sm rv q => by
      obtain ⟨b, rfl, q⟩ := asB_inv q
      simp only [Rep] at rv
      exact ⟨b, rv, k b S2 H3 (ev2.same sm) ((g1.trans g2).trans (Gr.of sm)) q⟩⟩⟩
/-- a op b op' c -/
def fChain (o o' : O2) (fa fb fc : FE) : FE := fun ρ S R => fa ρ S fun x S1 => fb ρ S1 fun y S2 => o x y fun z => asB z fun k =>
  if k = true then fc ρ S2 fun u S3 => o' y u fun d => R d S3 else R (.bool false) S2
theorem rd_chain (s : OpS K r o) (s' : OpS K r' o') {σ : L2.St} {Q : VK} (h : rd K (fChain o o' fa fb fc) σ H Q) : tChain r r' (rb K fa) (rb K fb) (rb K fc) σ H Q := by
  obtain ⟨Oc, w, ρ, S, R, ev, hf, k⟩ := h
  refine ⟨Oc, w, ρ, S, _, ev, hf, fun x S1 vx H1 ev1 g1 rx h1 => ⟨Oc, w, ρ, S1, _, ev1, h1, fun y S2 vy H2 ev2 g2 ry h2 =>
    s.run ev2.Ool (RepB.go (ev1.stepO g2) ev1.Ool g2 rx) ry h2 fun d v H3 sm rv q0 => ?_⟩⟩
  obtain ⟨b, rfl, q⟩ := asB_inv q0
  simp only [Rep] at rv
  have ev3 := ev2.same sm
  refine ⟨b, rv, ?_⟩
  cases b with
  | true =>
    rw [if_pos rfl] at q ⊢
    exact ⟨Oc, w, ρ, S2, _, ev3, q, fun u S3 vu H4 ev4 g4 ru h4 =>
      s'.run ev4.Ool (RepB.go (ev2.stepO ((Gr.of sm).trans g4)) ev2.Ool ((Gr.of sm).trans g4) ry) ru h4 fun d v H5 sm5 rv q => k d S3 v H5 (ev4.same sm5) ((((g1.trans g2).trans (Gr.of sm)).trans g4).trans (Gr.of sm5)) rv q⟩
  | false =>
    rw [if_neg Bool.false_ne_true] at q ⊢
    exact k (.bool false) S2 _ H3 ev3 ((g1.trans g2).trans (Gr.of sm)) (by simp only [Rep]) q
end
section
variable {X : Cx} {e a b c : Expr} {pos : Pos} {fa fb fc : FE} {r r' : R2} {o o' : O2} {ru : V → Hp → VK → Prop} {ou : O1}
theorem d_bin {op : Operator} (ho : OpR X (binaryOp op) r) (s : OpS X.K r o) (ha : PE X a (rb X.K fa)) (hb : PE X b (rb X.K fb)) : PE X (.BinOp a op b pos) (rd X.K (fOp o fa fb)) := PE.imp (pe_op ho ha hb) fun _ _ _ h => rd_op s h
theorem n_bin {op : Operator} (ho : OpR X (binaryOp op) r) (s : OpN X.K r o) (ha : PE X a (rb X.K fa)) (hb : PE X b (rb X.K fb)) : PE X (.BinOp a op b pos) (rn X.K (fOp o fa fb)) := PE.imp (pe_op ho ha hb) fun _ _ _ h => rn_op s h
theorem d_un {op : UnaryOp} (ho : UnR X (unaryOp op) ru) (s : UnS X.K ru ou) (ha : PE X a (rb X.K fa)) : PE X (.UnaryOp op a pos) (rd X.K (fUn ou fa)) := PE.imp (pe_un ho ha) fun _ _ _ h => rd_un s h
theorem d_cmp {op : CmpOp} (ho : OpR X (compareOp op) r) (s : OpS X.K r o) (ha : PE X a (rb X.K fa)) (hb : PE X b (rb X.K fb)) (hm : behindInMarks op b = false := by rfl) : PE X (.Compare a [op] [b] pos) (rd X.K (fOp o fa fb)) := PE.imp (pe_cmpR ho ha hb hm) fun _ _ _ h => rd_op s h
theorem t_cmp {op : CmpOp} (ho : OpR X (compareOp op) r) (s : OpS X.K r o) (ha : PE X a (rb X.K fa)) (hb : PE X b (rb X.K fb)) (hm : behindInMarks op b = false := by rfl) : PT X (.Compare a [op] [b] pos) (rt X.K (fOp o fa fb)) := PT.imp (pt_cmpR ho ha hb hm) fun _ _ _ h => rt_op s h
theorem d_chain {op op' : CmpOp} (ho : OpR X (compareOp op) r) (ho' : OpR X (compareOp op') r') (s : OpS X.K r o) (s' : OpS X.K r' o') (ha : PE X a (rb X.K fa)) (hb : PE X b (rb X.K fb)) (hc : PE X c (rb X.K fc))
    (hm : lastMarks [op, op'] [b, c] = false := by with_unfolding_all rfl) : PE X (.Compare a [op, op'] [b, c] pos) (rd X.K (fChain o o' fa fb fc)) := PE.imp (pe_chain ho ho' ha hb hc hm) fun _ _ _ h => rd_chain s s' h
/-- what gives a truth, as a test: over any test's rule by a value's reading -/
theorem rt_of {K : Fr_} {f : FE} {t : TE} (h : ∀ σ H Q, rd K f σ H Q → t σ H Q) : ∀ σ H Q, rt K f σ H Q → tTest t σ H Q := fun σ H Q ⟨Oc, w, ρ, S, R, ev, hf, k⟩ =>
  h σ H _ ⟨Oc, w, ρ, S, _, ev, hf, fun d S' v H' ev' g r q => by
    obtain ⟨b, rfl, q⟩ := asB_inv q
    simp only [Rep] at r
    exact ⟨b, r, k b S' H' ev' g q⟩⟩
theorem t_chain {op op' : CmpOp} (ho : OpR X (compareOp op) r) (ho' : OpR X (compareOp op') r') (s : OpS X.K r o) (s' : OpS X.K r' o') (ha : PE X a (rb X.K fa)) (hb : PE X b (rb X.K fb)) (hc : PE X c (rb X.K fc))
    (hm : lastMarks [op, op'] [b, c] = false := by with_unfolding_all rfl) : PT X (.Compare a [op, op'] [b, c] pos) (rt X.K (fChain o o' fa fb fc)) := PT.imp (pt_chain ho ho' ha hb hc hm) (rt_of fun _ _ _ h => rd_chain s s' h)
/-! ### and, or, not, if -/
def fAnd (fa fb : FE) : FE := fun ρ S R => fa ρ S fun x S1 => asB x fun k => if k = true then fb ρ S1 R else R (.bool false) S1
def fOr (fa fb : FE) : FE := fun ρ S R => fa ρ S fun x S1 => asB x fun k => if k = true then R (.bool true) S1 else fb ρ S1 R
def fNot (fa : FE) : FE := fun ρ S R => fa ρ S fun x S1 => asB x fun k => R (.bool (!k)) S1
def fIf (fc fa fb : FE) : FE := fun ρ S R => fc ρ S fun x S1 => asB x fun k => if k = true then fa ρ S1 R else fb ρ S1 R
variable {rest : List Expr}
theorem d_one {op : BoolOp} {f : FE} (h : PE X a (rd X.K f)) : PE X (.BoolOp op [a] pos) (rd X.K f) := pe_one h
theorem d_and (ha : PE X a (rb X.K fa)) (hb : PE X (.BoolOp .And (b :: rest) pos) (rd X.K fb)) : PE X (.BoolOp .And (a :: b :: rest) pos) (rd X.K (fAnd fa fb)) := PE.imp (pe_and ha hb) fun σ H Q ⟨Oc, w, ρ, S, R, ev, hf, k⟩ =>
  ⟨Oc, w, ρ, S, _, ev, hf, fun x S1 vx H1 ev1 g1 rx h1 => by
    obtain ⟨b, rfl, q⟩ := asB_inv h1
    refine ⟨b, rx.bool, ?_⟩
    cases b with
    | true =>
      rw [if_pos rfl] at q ⊢
      exact ⟨Oc, w, ρ, S1, R, ev1, q, fun d S' v H' ev' g r q => k d S' v H' ev' (g1.trans g) r q⟩
    | false =>
      rw [if_neg Bool.false_ne_true] at q ⊢
      exact k _ S1 _ H1 ev1 g1 (by simp only [Rep]) q⟩
theorem d_or (ha : PE X a (rb X.K fa)) (hb : PE X (.BoolOp .Or (b :: rest) pos) (rd X.K fb)) : PE X (.BoolOp .Or (a :: b :: rest) pos) (rd X.K (fOr fa fb)) := PE.imp (pe_or ha hb) fun σ H Q ⟨Oc, w, ρ, S, R, ev, hf, k⟩ =>
  ⟨Oc, w, ρ, S, _, ev, hf, fun x S1 vx H1 ev1 g1 rx h1 => by
    obtain ⟨b, rfl, q⟩ := asB_inv h1
    refine ⟨b, rx.bool, ?_⟩
    cases b with
    | true =>
      rw [if_pos rfl] at q ⊢
      exact k _ S1 _ H1 ev1 g1 (by simp only [Rep]) q
    | false =>
      rw [if_neg Bool.false_ne_true] at q ⊢
      exact ⟨Oc, w, ρ, S1, R, ev1, q, fun d S' v H' ev' g r q => k d S' v H' ev' (g1.trans g) r q⟩⟩
theorem d_not (ha : PE X a (rb X.K fa)) : PE X (.UnaryOp .Not a pos) (rd X.K (fNot fa)) := PE.imp (pe_not ha) fun σ H Q ⟨Oc, w, ρ, S, R, ev, hf, k⟩ =>
  ⟨Oc, w, ρ, S, _, ev, hf, fun x S1 vx H1 ev1 g1 rx h1 => by
    obtain ⟨b, rfl, q⟩ := asB_inv h1
    exact ⟨b, rx.bool, k _ S1 _ H1 ev1 g1 (by simp only [Rep]) q⟩⟩
theorem w_and1 {f : FE} (h : PT X a (rt X.K f)) : PW X (.BoolOp .And [a] pos) (rt X.K f) := pw_and1 h
theorem w_or1 {f : FE} (h : PT X a (rt X.K f)) : PW X (.BoolOp .Or [a] pos) (rt X.K f) := pw_or1 h
theorem w_and (ha : PT X a (rt X.K fa)) (hb : PW X (.BoolOp .And (b :: rest) pos) (rt X.K fb)) : PW X (.BoolOp .And (a :: b :: rest) pos) (rt X.K (fAnd fa fb)) := PW.imp (pw_and ha hb) fun σ H Q ⟨Oc, w, ρ, S, R, ev, hf, k⟩ =>
  ⟨Oc, w, ρ, S, _, ev, hf, fun b S1 H1 ev1 g1 q => by
    cases b with
    | true =>
      rw [if_pos rfl] at q ⊢
      exact ⟨Oc, w, ρ, S1, R, ev1, q, fun d S' H' ev' g q => k d S' H' ev' (g1.trans g) q⟩
    | false =>
      rw [if_neg Bool.false_ne_true] at q ⊢
      exact k false S1 H1 ev1 g1 q⟩
theorem w_or (ha : PT X a (rt X.K fa)) (hb : PW X (.BoolOp .Or (b :: rest) pos) (rt X.K fb)) : PW X (.BoolOp .Or (a :: b :: rest) pos) (rt X.K (fOr fa fb)) := PW.imp (pw_or ha hb) fun σ H Q ⟨Oc, w, ρ, S, R, ev, hf, k⟩ =>
  ⟨Oc, w, ρ, S, _, ev, hf, fun b S1 H1 ev1 g1 q => by
    cases b with
    | true =>
      rw [if_pos rfl] at q ⊢
      exact k true S1 H1 ev1 g1 q
    | false =>
      rw [if_neg Bool.false_ne_true] at q ⊢
      exact ⟨Oc, w, ρ, S1, R, ev1, q, fun d S' H' ev' g q => k d S' H' ev' (g1.trans g) q⟩⟩
theorem t_not (ha : PT X a (rt X.K fa)) : PT X (.UnaryOp .Not a pos) (rt X.K (fNot fa)) := PT.imp (pt_not ha) fun σ H Q ⟨Oc, w, ρ, S, R, ev, hf, k⟩ =>
  ⟨Oc, w, ρ, S, _, ev, hf, fun b S1 H1 ev1 g1 q => k (!b) S1 H1 ev1 g1 q⟩
theorem d_if (hc : PT X c (rt X.K fc)) (ha : PE X a (rd X.K fa)) (hb : PE X b (rd X.K fb)) : PE X (.IfExp c a b pos) (rd X.K (fIf fc fa fb)) := PE.imp (pe_ifExp hc ha hb) fun σ H Q ⟨Oc, w, ρ, S, R, ev, hf, k⟩ =>
  ⟨Oc, w, ρ, S, _, ev, hf, fun b S1 H1 ev1 g1 q => by
    cases b with
    | true =>
      rw [if_pos rfl] at q ⊢
      exact ⟨Oc, w, ρ, S1, R, ev1, q, fun d S' v H' ev' g r q => k d S' v H' ev' (g1.trans g) r q⟩
    | false =>
      rw [if_neg Bool.false_ne_true] at q ⊢
      exact ⟨Oc, w, ρ, S1, R, ev1, q, fun d S' v H' ev' g r q => k d S' v H' ev' (g1.trans g) r q⟩⟩
theorem b_if (hc : PT X c (rt X.K fc)) (ha : PE X a (rb X.K fa)) (hb : PE X b (rb X.K fb)) : PE X (.IfExp c a b pos) (rb X.K (fIf fc fa fb)) := PE.imp (pe_ifExp hc ha hb) fun σ H Q ⟨Oc, w, ρ, S, R, ev, hf, k⟩ =>
  ⟨Oc, w, ρ, S, _, ev, hf, fun b S1 H1 ev1 g1 q => by
    cases b with
    | true =>
      rw [if_pos rfl] at q ⊢
      exact ⟨Oc, w, ρ, S1, R, ev1, q, fun d S' v H' ev' g r q => k d S' v H' ev' (g1.trans g) r q⟩
    | false =>
      rw [if_neg Bool.false_ne_true] at q ⊢
      exact ⟨Oc, w, ρ, S1, R, ev1, q, fun d S' v H' ev' g r q => k d S' v H' ev' (g1.trans g) r q⟩⟩
end
end DL

namespace DL
open PySem L2 PyProof.Rows
section
variable {K : Fr_} {O : AS} {w : Option Addr} {H H' : Hp}
theorem Same.new {p : Addr} {o : HO} (n : H p = none) : Same H (upd H p o) := fun b u q => by rw [upd_ne (ne_of_none q n)]; exact q
theorem Step.of (s : Same H H') : Step O H H' := fun a u _ h => s a u h
theorem Rep.same (ol : OL O H) (s : Same H H') {d : PyData} {v : V} (h : Rep K O H d v) : Rep K O H' d v := Rep.step (Step.of s) ol d v h
theorem Reps.same (ol : OL O H) (s : Same H H') {d : List PyData} {v : List V} (h : Reps K O H d v) : Reps K O H' d v := Reps.step (Step.of s) ol d v h
theorem OL.away (ol : OL O H) {p : Addr} (n : H p = none) : ¬ O p := fun z => by
  obtain ⟨u, hu, _⟩ := ol p z
  rw [hu] at n
  cases n
/-- a new tuple, a new list -/
theorem rep_tup (ol : OL O H) {p : Addr} {ds : List PyData} {vs : List V} (n : H p = none) (r : Reps K O H ds vs) : Rep K O (upd H p (.tup vs)) (.tuple ds) (.ref p) := by
  simp only [Rep]
  exact ⟨p, vs, rfl, SqT.of upd_same, Reps.same ol (Same.new n) r⟩
theorem rep_lst (ol : OL O H) {p : Addr} {ds : List PyData} {vs : List V} (n : H p = none) (r : Reps K O H ds vs) : Rep K O (upd H p (.lst vs)) (.list ds) (.ref p) := by
  simp only [Rep]
  exact ⟨p, vs, rfl, .inl ⟨.inl upd_same, ol.away n⟩, Reps.same ol (Same.new n) r⟩
theorem reps_new (ol : OL O H) {p : Addr} {ds : List PyData} {vs : List V} (n : H p = none) {o : HO} (r : Reps K O H ds vs) : Reps K (With O p) (upd H p o) ds vs := Reps.fw (fun a z => z.elim .inl fun e => .inr (by rw [e]; exact n)) (Step.of (Same.new n)) ol ds vs r
/-! ### arithmetic -/
def oAdd : O2 := fun x y R => match x, y with
  | .int i, .int j => R (.int (i + j))
  | .str a, .str b => a.length + b.length ≤ sizeLine ∧ R (.str (a ++ b))
  | .tuple a, .tuple b => a.length + b.length ≤ sizeLine ∧ R (.tuple (a ++ b))
  | .list a, .list b => a.length + b.length ≤ sizeLine ∧ R (.list (a ++ b))
  | _, _ => False
def oI (g : Int → Int → PyData) : O2 := fun x y R => match x, y with
  | .int i, .int j => R (g i j)
  | _, _ => False
def oIC (C : Int → Int → Prop) (g : Int → Int → PyData) : O2 := fun x y R => match x, y with
  | .int i, .int j => C i j ∧ R (g i j)
  | _, _ => False
theorem oI_inv {g : Int → Int → PyData} {x y : PyData} {R : PyData → Prop} (h : oI g x y R) : ∃ i j, x = .int i ∧ y = .int j ∧ R (g i j) := by
  unfold oI at h
  split at h <;> first | exact ⟨_, _, rfl, rfl, h⟩ | exact h.elim
theorem oIC_inv {C : Int → Int → Prop} {g : Int → Int → PyData} {x y : PyData} {R : PyData → Prop} (h : oIC C g x y R) : ∃ i j, x = .int i ∧ y = .int j ∧ C i j ∧ R (g i j) := by
  unfold oIC at h
  split at h <;> first | exact ⟨_, _, rfl, rfl, h⟩ | exact h.elim
theorem sI {g : Int → Int → PyData} {gv : Int → Int → V} (hg : ∀ O H i j, Rep K O H (g i j) (gv i j)) : OpS K (rI0 gv) (oI g) := ⟨fun {O w H x y vx vy R Q} ol rx ry h k => by
  obtain ⟨i, j, rfl, rfl, q⟩ := oI_inv h
  exact ⟨i, j, rx.int, ry.int, k _ _ H (Same.refl H) (hg _ _ _ _) q⟩⟩
theorem sIC {C : Int → Int → Prop} {g : Int → Int → PyData} {gv : Int → Int → V} (hg : ∀ O H i j, Rep K O H (g i j) (gv i j)) : OpS K (rI C gv) (oIC C g) := ⟨fun {O w H x y vx vy R Q} ol rx ry h k => by
  obtain ⟨i, j, rfl, rfl, c, q⟩ := oIC_inv h
  exact ⟨i, j, rx.int, ry.int, c, k _ _ H (Same.refl H) (hg _ _ _ _) q⟩⟩
theorem sInt {g : Int → Int → Int} : OpS K (rI0 fun i j => .int (g i j)) (oI fun i j => .int (g i j)) := sI fun _ _ _ _ => by simp only [Rep]
theorem sIntB {g : Int → Int → Bool} : OpS K (rI0 fun i j => .bl (g i j)) (oI fun i j => .bool (g i j)) := sI fun _ _ _ _ => by simp only [Rep]
theorem sIntC {C : Int → Int → Prop} {g : Int → Int → Int} : OpS K (rI C fun i j => .int (g i j)) (oIC C fun i j => .int (g i j)) := sIC fun _ _ _ _ => by simp only [Rep]
def rCatR (K : Fr_) : R2 := fun x y H Q => ∃ l b xs zs, x = .ref l ∧ y = .ref b ∧ SqL K H l xs ∧ SqL K H b zs ∧ xs.length + zs.length ≤ sizeLine ∧ ∀ p, H p = none → Q (.ref p) (upd H p (.lst (xs ++ zs)))
theorem add_any (l : Addr) (o1 : Obj) (items : Array Value) (n : Nat) (b : Addr) (o2 : Obj) (items2 : Array Value) (n2 : Nat) (d1 : o1.data = .seq items n) (d2 : o2.data = .seq items2 n2) (c1 : o1.cls = .type "list") (c2 : o2.cls = .type "list") (hc0 : items.size + items2.size ≤ sizeLine) :
    Meets (Builtin.«list.__add__» ⟨[.ref l, .ref b], []⟩) (fun _ R s => s.heap.get? l = some o1 ∧ s.heap.get? b = some o2 ∧ R (.ok (.ret (Value.ref s.heap.objs.size))) { s with heap := s.heap.push { cls := Value.type "list", data := Data.seq (items ++ items2) } }) := by
  obtain ⟨k1, m1, dd1, s1⟩ := o1
  obtain ⟨k2, m2, dd2, s2⟩ := o2
  cases d1
  cases d2
  cases c1
  cases c2
  refine .of_wp fun prog w A R s h => ?_
  obtain ⟨hp, g, d, tk, os⟩ := s
  obtain ⟨hl, hb, h⟩ := h
  have sub := AutoSeq1.sub_list_list
  wp_walk using wpAny_loadPart' hl, wpAny_loadPart' hb
  exact ⟨_, rfl, h⟩
theorem op_catR {X : Cx} : OpR X (binaryOp .Add) (rCatR X.K) := by
  rintro pins s σ H x y v u Q I rx ry ⟨l, b, xs, zs, rfl, rfl, hl, hb, hz, q⟩
  cases rx
  cases ry
  obtain ⟨i1, r1, ⟨o1, n1, e1, c1, _, d1⟩, _⟩ := I.list hl
  obtain ⟨i2, r2, ⟨o2, n2, e2, c2, _, d2⟩, _⟩ := I.list hb
  have l1 := r1.length
  have l2 := r2.length
  refine concat_meets ⟨_, e1, c1⟩ ⟨_, e2, c2⟩ noFill_list_add seq_list_add F.slot_list_add F.entry_list_add (F.args_list_add_2 _ _) (add_any l o1 _ n1 b o2 _ n2 d1 d2 c1 c2 (by simp only [List.size_toArray]; omega)) ⟨e1, e2, ?_⟩
  rw [show i1.toArray ++ i2.toArray = (i1 ++ i2).toArray by simp]
  exact ⟨.ref _, _, I.lnew (t' := s.toks) (r1.append r2) (by simp only [List.length_append]; exact hz), rfl, q _ I.fresh⟩
def rAddAll (K : Fr_) : R2 := fun x y H Q => rI0 (fun i j => .int (i + j)) x y H Q ∨ ((∃ i j, x = .str i ∧ y = .str j ∧ i.length + j.length ≤ sizeLine ∧ Q (.str (i ++ j)) H) ∨ (rCatA K x y H Q ∨ rCatR K x y H Q))
theorem op_addAll {X : Cx} : OpR X (binaryOp .Add) (rAddAll X.K) := op_add.or (op_add_str.or (op_catA.or op_catR))
theorem sAdd : OpS K (rAddAll K) oAdd := ⟨fun {O w H x y vx vy R Q} ol rx ry h k => by
  unfold oAdd at h
  split at h
  · exact .inl ⟨_, _, rx.int, ry.int, k _ _ H (Same.refl H) (by simp only [Rep]) h⟩
  · exact .inr (.inl ⟨_, _, rx.str, ry.str, h.1, k _ _ H (Same.refl H) (by simp only [Rep]) h.2⟩)
  · rename_i a b
    obtain ⟨p, vs, rfl, q1, r1⟩ := rx.tup
    obtain ⟨q, ws, rfl, q2, r2⟩ := ry.tup
    refine .inr (.inr (.inl ⟨p, q, vs, ws, rfl, rfl, q1, q2, by rw [r1.len, r2.len]; exact h.1, fun e => ?_, fun _ e => ?_, fun _ _ t ht => ?_⟩))
    · subst e
      have e' : a = [] := List.length_eq_zero_iff.mp r1.len.symm
      subst e'
      exact k (.tuple b) _ H (Same.refl H) (by simp only [Rep]; exact ⟨q, ws, rfl, q2, r2⟩) h.2
    · subst e
      have e' : b = [] := List.length_eq_zero_iff.mp r2.len.symm
      subst e'
      refine k (.tuple (a ++ [])) _ H (Same.refl H) ?_ h.2
      rw [List.append_nil]
      simp only [Rep]
      exact ⟨p, vs, rfl, q1, r1⟩
    · exact k _ _ _ (Same.new ht) (rep_tup ol ht (r1.app r2)) h.2
  · rename_i a b
    obtain ⟨p, vs, rfl, q1, r1⟩ := rx.lst
    obtain ⟨q, ws, rfl, q2, r2⟩ := ry.lst
    exact .inr (.inr (.inr ⟨p, q, vs, ws, rfl, rfl, q1, q2, by rw [r1.len, r2.len]; exact h.1, fun t ht => k _ _ _ (Same.new ht) (rep_lst ol ht (r1.app r2)) h.2⟩))
  · exact h.elim⟩
/-- list + list, to be kept as one's own -/
def oCatL : O2 := fun x y R => match x, y with
  | .list a, .list b => a.length + b.length ≤ sizeLine ∧ R (.list (a ++ b))
  | _, _ => False
theorem nCatL : OpN K (rCatR K) oCatL := ⟨fun {O w H x y vx vy R Q} ol rx ry h k => by
  unfold oCatL at h
  split at h
  · rename_i a b
    obtain ⟨p, vs, rfl, q1, r1⟩ := rx.lst
    obtain ⟨q, ws, rfl, q2, r2⟩ := ry.lst
    exact ⟨p, q, vs, ws, rfl, rfl, q1, q2, by rw [r1.len, r2.len]; exact h.1, fun t ht => k _ _ _ _ (Same.new ht) ht upd_same (reps_new ol ht (r1.app r2)) h.2⟩
  · exact h.elim⟩
def oNeg : O1 := fun x R => asI x fun i => R (.int (-i))
theorem sNeg : UnS K (rU fun i => .int (-i)) oNeg := ⟨fun {O w H x vx R Q} ol rx h k => by
  obtain ⟨i, rfl, q⟩ := asI_inv h
  exact ⟨i, rx.int, k _ _ H (Same.refl H) (by simp only [Rep]) q⟩⟩
/-! ### ==, in -/
mutual
theorem Rep.dp : ∀ (d : PyData) (v : V), d.canLay0 = true → Rep K O H d v → Dp K H v d
  | .none, v, _, h => by simp only [Rep] at h; subst h; exact .non
  | .bool b, v, _, h => by simp only [Rep] at h; subst h; exact .bl b
  | .int i, v, _, h => by simp only [Rep] at h; subst h; exact .int i
  | .str x, v, _, h => by simp only [Rep] at h; subst h; exact .str x
  | .list ds, v, c, h => by
    simp only [Rep] at h
    obtain ⟨a, vs, rfl, q, r⟩ := h
    exact .lst q.sq (Reps.dp ds vs (by simpa only [PyData.canLay0] using c) r)
  | .tuple ds, v, c, h => by
    simp only [Rep] at h
    obtain ⟨a, vs, rfl, q, r⟩ := h
    exact .tup q (Reps.dp ds vs (by simpa only [PyData.canLay0] using c) r)
  | .dict kvs, v, c, h => by simp [PyData.canLay0] at c
theorem Reps.dp : ∀ (ds : List PyData) (vs : List V), PyData.canLayAll0 ds = true → Reps K O H ds vs → DpAll K H vs ds
  | [], vs, _, h => by simp only [Reps] at h; subst h; exact .nil
  | d :: ds, vs, c, h => by
    simp only [Reps] at h
    obtain ⟨v, r, rfl, h1, h2⟩ := h
    simp only [PyData.canLayAll0, Bool.and_eq_true] at c
    exact .cons (Rep.dp d v c.1 h1) (Reps.dp ds r c.2 h2)
end
theorem RepB.dp {d : PyData} {v : V} (c : d.canLay0 = true) (h : RepB K O w H d v) : Dp K H v d := by
  rcases h with h | ⟨a, vs, ds, rfl, rfl, n, h1, h2⟩
  · exact Rep.dp d v c h
  · exact .lst (SqL.of h1) (Reps.dp ds vs (by simpa only [PyData.canLay0] using c) h2)
/-- a tuple and the empty one -/
def rEqE (K : Fr_) : R2 := fun x y H Q => ∃ a b vs, x = .ref a ∧ y = .ref b ∧ SqT K H a vs ∧ SqT K H b [] ∧ Q (.bl vs.isEmpty) H
theorem op_eqE {X : Cx} (hu : X.A.units < cLine) : OpR X (compareOp .Eq) (rEqE X.K) := by
  intro pins s σ H x y v u Q I rx ry h
  obtain ⟨a, b, vs, rfl, rfl, ha, hb, q⟩ := h
  cases rx
  cases ry
  obtain ⟨its, r1, p1, _⟩ := I.tuple ha
  obtain ⟨its2, r2, p2, _⟩ := I.tuple hb
  cases r2
  refine SeqAt.eq_tupleAt (e := fun _ => true) p1 p2 hu (fun j h1 h2 => absurd h2 (by simp)) ⟨.bl vs.isEmpty, H, I, ?_, q⟩
  cases r1 <;> simp [L2.RelV]
def rEqAll (K : Fr_) : R2 := fun x y H Q => rEqE K x y H Q ∨ (L2.rEq x y H Q ∨ rEqD K x y H Q)
theorem op_eqAll {X : Cx} {k : Nat} (hr : Room k X.A) : OpR X (compareOp .Eq) (rEqAll X.K) := (op_eqE hr.units0).or (op_eq.or (op_eqD hr.units))
def rNeAll (K : Fr_) : R2 := fun x y H Q => L2.rNe x y H Q ∨ rNeD K x y H Q
theorem op_neAll {X : Cx} {k : Nat} (hr : Room k X.A) : OpR X (compareOp .NotEq) (rNeAll X.K) := op_ne.or (op_neD hr.units)
def oEq : O2 := fun x y R => match x, y with
  | .tuple ds, .tuple [] => R (.bool ds.isEmpty)
  | .int a, .int b => R (.bool (decide (a = b)))
  | .str a, .str b => R (.bool (decide (a = b)))
  | .bool a, .bool b => R (.bool (decide (a = b)))
  | x, y => SeqAt.shaped x = true ∧ SeqAt.shaped y = true ∧ R (.bool (PyData.eqv x y))
def oNe : O2 := fun x y R => match x, y with
  | .int a, .int b => R (.bool (!decide (a = b)))
  | .str a, .str b => R (.bool (!decide (a = b)))
  | .bool a, .bool b => R (.bool (!decide (a = b)))
  | x, y => SeqAt.shaped x = true ∧ SeqAt.shaped y = true ∧ R (.bool (!PyData.eqv x y))
theorem V.int_eq {a b : Int} : decide (V.int a = V.int b) = decide (a = b) := by
  by_cases h : a = b
  · subst h; simp
  · rw [decide_eq_false h, decide_eq_false (fun z => h (V.int.inj z))]
theorem V.str_eq {a b : Str} : decide (V.str a = V.str b) = decide (a = b) := by
  by_cases h : a = b
  · subst h; simp
  · rw [decide_eq_false h, decide_eq_false (fun z => h (V.str.inj z))]
theorem V.bl_eq {a b : Bool} : decide (V.bl a = V.bl b) = decide (a = b) := by
  by_cases h : a = b
  · subst h; simp
  · rw [decide_eq_false h, decide_eq_false (fun z => h (V.bl.inj z))]
theorem sEq : OpS K (rEqAll K) oEq := ⟨fun {O w H x y vx vy R Q} ol rx ry h k => by
  unfold oEq at h
  split at h
  · rename_i ds
    obtain ⟨p, vs, rfl, q1, r1⟩ := rx.tup
    obtain ⟨q, ws, rfl, q2, r2⟩ := ry.tup
    simp only [Reps] at r2
    subst r2
    refine .inl ⟨p, q, vs, rfl, rfl, q1, q2, k _ _ H (Same.refl H) ?_ h⟩
    simp only [Rep]
    have e := r1.len
    cases vs <;> cases ds <;> simp at e ⊢
  · rw [rx.int, ry.int]
    exact .inr (.inl ⟨rfl, by rw [V.int_eq]; exact k _ _ H (Same.refl H) (by simp only [Rep]) h⟩)
  · rw [rx.str, ry.str]
    exact .inr (.inl ⟨rfl, by rw [V.str_eq]; exact k _ _ H (Same.refl H) (by simp only [Rep]) h⟩)
  · rw [rx.bool, ry.bool]
    exact .inr (.inl ⟨rfl, by rw [V.bl_eq]; exact k _ _ H (Same.refl H) (by simp only [Rep]) h⟩)
  · obtain ⟨h1, h2, h3⟩ := h
    exact .inr (.inr ⟨_, _, rx.dp (SeqAt.canLay_of_shaped h1), ry.dp (SeqAt.canLay_of_shaped h2), h1, h2, k _ _ H (Same.refl H) (by simp only [Rep]) h3⟩)⟩
theorem sNe : OpS K (rNeAll K) oNe := ⟨fun {O w H x y vx vy R Q} ol rx ry h k => by
  unfold oNe at h
  split at h
  · rw [rx.int, ry.int]
    exact .inl ⟨rfl, by rw [V.int_eq]; exact k _ _ H (Same.refl H) (by simp only [Rep]) h⟩
  · rw [rx.str, ry.str]
    exact .inl ⟨rfl, by rw [V.str_eq]; exact k _ _ H (Same.refl H) (by simp only [Rep]) h⟩
  · rw [rx.bool, ry.bool]
    exact .inl ⟨rfl, by rw [V.bl_eq]; exact k _ _ H (Same.refl H) (by simp only [Rep]) h⟩
  · obtain ⟨h1, h2, h3⟩ := h
    exact .inr ⟨_, _, rx.dp (SeqAt.canLay_of_shaped h1), ry.dp (SeqAt.canLay_of_shaped h2), h1, h2, k _ _ H (Same.refl H) (by simp only [Rep]) h3⟩⟩
/-- flat data -/
def flatD : PyData → Bool
  | .none => true
  | .bool _ => true
  | .int _ => true
  | .str _ => true
  | _ => false
theorem Rep.flat {d : PyData} {v : V} (h : Rep K O H d v) (f : flatD d = true) : flatV v = true ∧ ∀ {e : PyData} {u : V}, Rep K O H e u → flatD e = true → eqV u v = PyData.eqv e d := by
  cases d <;> simp only [flatD] at f <;> first | cases f | skip
  all_goals simp only [Rep] at h; subst h; refine ⟨rfl, fun {e u} g fe => ?_⟩
  all_goals (cases e <;> simp only [flatD] at fe <;> first | cases fe | skip)
  all_goals simp only [Rep] at g; subst g; simp [eqV, PyData.eqv]
theorem Reps.inV {x : PyData} {v : V} (h : Rep K O H x v) (f : flatD x = true) : ∀ {ds : List PyData} {vs : List V}, Reps K O H ds vs → ds.all flatD = true → vs.all flatV = true ∧ inV v vs = ds.any fun y => PyData.eqv y x
  | [], vs, r, _ => by simp only [Reps] at r; subst r; exact ⟨rfl, rfl⟩
  | d :: ds, vs, r, c => by
    simp only [Reps] at r
    obtain ⟨u, r', rfl, r1, r2⟩ := r
    simp only [List.all_cons, Bool.and_eq_true] at c
    obtain ⟨i1, i2⟩ := Reps.inV h f r2 c.2
    refine ⟨by simp only [List.all_cons, Bool.and_eq_true]; exact ⟨(Rep.flat r1 c.1).1, i1⟩, ?_⟩
    have e := (Rep.flat h f).2 r1 c.1
    unfold L2.inV at i2 ⊢
    simp only [List.any_cons, e, i2]
def rowD : PyData → Option (List PyData)
  | .tuple ds => some ds
  | .list ds => some ds
  | _ => none
def oIn (neg : Bool) : O2 := fun x y R => match rowD y with
  | some ds => flatD x = true ∧ ds.all flatD = true ∧ R (.bool (if neg then !(ds.any fun z => PyData.eqv z x) else ds.any fun z => PyData.eqv z x))
  | none => False
theorem RepB.flat {d : PyData} {v : V} (h : RepB K O w H d v) (f : flatD d = true) : Rep K O H d v := by
  rcases h with h | ⟨a, vs, ds, rfl, _⟩
  · exact h
  · cases f
theorem sIn {neg : Bool} : OpS K (rIn K neg) (oIn neg) := ⟨fun {O w H x y vx vy R Q} ol rx ry h k => by
  unfold oIn at h
  have main : ∀ (p : Addr) (ds : List PyData) (vs : List V), vy = .ref p → (SqL K H p vs ∨ SqT K H p vs) → Reps K O H ds vs → flatD x = true ∧ ds.all flatD = true ∧ R (.bool (if neg then !(ds.any fun z => PyData.eqv z x) else ds.any fun z => PyData.eqv z x)) → rIn K neg vx vy H Q := by
    rintro p ds vs e q r ⟨f1, f2, f3⟩
    have rx' := rx.flat f1
    obtain ⟨i1, i2⟩ := Reps.inV rx' f1 r f2
    exact ⟨p, vs, e, q, (Rep.flat rx' f1).1, i1, k _ _ H (Same.refl H) (by simp only [Rep, i2]) f3⟩
  cases y with
  | tuple ds =>
    obtain ⟨q, ws, e, q2, r2⟩ := ry.tup
    exact main q ds ws e (.inr q2) r2 h
  | list ds =>
    obtain ⟨q, ws, e, q2, r2⟩ := ry.lst
    exact main q ds ws e (.inl q2) r2 h
  | _ => exact h.elim⟩
/-! ### a[i], a[i:j] -/
def oIx : O2 := fun x y R => match x, y with
  | .tuple ds, .int i => match atI ds i with
    | some d => R d
    | none => False
  | .list ds, .int i => match atI ds i with
    | some d => R d
    | none => False
  | .str z, .int i => z.length ≤ sizeLine ∧ match atI z.cps.toList i with
    | some c => R (.str ⟨#[c]⟩)
    | none => False
  | _, _ => False
theorem Reps.atI {ds : List PyData} {vs : List V} (r : Reps K O H ds vs) {i : Int} {d : PyData} (h : L2.atI ds i = some d) : ∃ v, L2.atI vs i = some v ∧ Rep K O H d v := by
  unfold L2.atI at h ⊢
  rw [r.len]
  cases e : ixN ds.length i with
  | none => rw [e] at h; cases h
  | some j =>
    rw [e] at h
    exact Reps.at r h
theorem sIx : OpS K (rIx K) oIx := ⟨fun {O w H x y vx vy R Q} ol rx ry h k => by
  unfold oIx at h
  split at h
  · split at h
    · rename_i d e
      obtain ⟨p, vs, rfl, q1, r1⟩ := rx.tup
      obtain ⟨v, hv, rv⟩ := r1.atI e
      exact .inr (.inl ⟨p, vs, _, v, rfl, ry.int, q1, hv, k _ _ H (Same.refl H) rv h⟩)
    · exact h.elim
  · split at h
    · rename_i d e
      obtain ⟨p, vs, rfl, q1, r1⟩ := rx.lst
      obtain ⟨v, hv, rv⟩ := r1.atI e
      exact .inl ⟨p, vs, _, v, rfl, ry.int, q1, hv, k _ _ H (Same.refl H) rv h⟩
    · exact h.elim
  · obtain ⟨hz, h⟩ := h
    split at h
    · rename_i c e
      exact .inr (.inr ⟨_, _, c, rx.str, ry.int, hz, e, k _ _ H (Same.refl H) (by simp only [Rep]) h⟩)
    · exact h.elim
  · exact h.elim⟩
end
section
variable {X : Cx} {e a b c : Expr} {pos : Pos} {fa fb fc : FE}
theorem d_add (ha : PE X a (rb X.K fa)) (hb : PE X b (rb X.K fb)) : PE X (.BinOp a .Add b pos) (rd X.K (fOp oAdd fa fb)) := d_bin op_addAll sAdd ha hb
theorem n_add (ha : PE X a (rb X.K fa)) (hb : PE X b (rb X.K fb)) : PE X (.BinOp a .Add b pos) (rn X.K (fOp oCatL fa fb)) := n_bin op_catR nCatL ha hb
theorem d_sub (ha : PE X a (rb X.K fa)) (hb : PE X b (rb X.K fb)) : PE X (.BinOp a .Sub b pos) (rd X.K (fOp (oI fun i j => .int (i - j)) fa fb)) := d_bin op_sub sInt ha hb
def CMulA (i j : Int) : Prop := CMul i j ∨ CMulW i j
theorem op_mulA : OpR X (binaryOp .Mult) (rI CMulA fun i j => .int (i * j)) := by
  rintro pins s σ H x y v u Q I rx ry ⟨i, j, rfl, rfl, c | c, q⟩
  · exact op_mul pins s σ H _ _ v u Q I rx ry ⟨i, j, rfl, rfl, c, q⟩
  · exact op_mulW pins s σ H _ _ v u Q I rx ry ⟨i, j, rfl, rfl, c, q⟩
theorem d_mul (ha : PE X a (rb X.K fa)) (hb : PE X b (rb X.K fb)) : PE X (.BinOp a .Mult b pos) (rd X.K (fOp (oIC CMulA fun i j => .int (i * j)) fa fb)) := d_bin op_mulA sIntC ha hb
theorem d_fdiv (ha : PE X a (rb X.K fa)) (hb : PE X b (rb X.K fb)) : PE X (.BinOp a .FloorDiv b pos) (rd X.K (fOp (oIC CDivW fun i j => .int (i / j)) fa fb)) := d_bin op_fdivW sIntC ha hb
theorem d_mod (ha : PE X a (rb X.K fa)) (hb : PE X b (rb X.K fb)) : PE X (.BinOp a .Mod b pos) (rd X.K (fOp (oIC (fun _ j => 0 < j) fun i j => .int (i % j)) fa fb)) := d_bin op_mod sIntC ha hb
theorem d_pow (ha : PE X a (rb X.K fa)) (hb : PE X b (rb X.K fb)) : PE X (.BinOp a .Pow b pos) (rd X.K (fOp (oIC CPow fun i j => .int (i ^ j.toNat)) fa fb)) := d_bin op_pow sIntC ha hb
theorem d_neg (ha : PE X a (rb X.K fa)) : PE X (.UnaryOp .USub a pos) (rd X.K (fUn oNeg fa)) := d_un un_neg sNeg ha
theorem d_ix (ha : PE X a (rb X.K fa)) (hb : PE X b (rb X.K fb)) (hs : PlainIx b := by intro _ _; rfl) : PE X (.Subscript a b pos) (rd X.K (fOp oIx fa fb)) := PE.imp (pe_ix ix_seq ha hb hs) fun _ _ _ h => rd_op sIx h




end
end DL

namespace DL
open PySem L2 PyProof.Rows
/-! ### rows of expressions -/
abbrev FL := Rho → SW → (List PyData → SW → Prop) → Prop
def fNil : FL := fun _ S R => R [] S
def fCons (f : FE) (g : FL) : FL := fun ρ S R => f ρ S fun d S1 => g ρ S1 fun ds S2 => R (d :: ds) S2
def rda (K : Fr_) (n : Nat) (g : FL) : TA := fun σ H Q => ∃ Oc w ρ S R, EV K Oc w σ H ρ S ∧ g ρ S R ∧
  ∀ ds S' vs H', EV K Oc w σ H' ρ S' → Gr w H H' → Reps K (OO Oc σ ρ) H' ds vs → ds.length = n → R ds S' → Q vs H'
section
variable {X : Cx} {e a b c : Expr} {es : List Expr} {pos : Pos} {f fa fb fc : FE} {g : FL} {n : Nat}
theorem a_nil : PA X [] (rda X.K 0 fNil) := PA.imp pa_nil fun σ H Q ⟨Oc, w, ρ, S, R, ev, hf, k⟩ => k [] S [] H ev Gr.refl (by simp only [Reps]) rfl hf
theorem a_cons (he : PE X e (rd X.K f)) (hr : PA X es (rda X.K n g)) (hs : starEach (e :: es) X.env = (false, eval e X.env) :: starEach es X.env := by rfl) : PA X (e :: es) (rda X.K (n + 1) (fCons f g)) := PA.imp (pa_cons he hr hs) fun σ H Q ⟨Oc, w, ρ, S, R, ev, hf, k⟩ =>
  ⟨Oc, w, ρ, S, _, ev, hf, fun d S1 v H1 ev1 g1 r1 h1 => ⟨Oc, w, ρ, S1, _, ev1, h1, fun ds S2 vs H2 ev2 g2 r2 hl h2 =>
    k (d :: ds) S2 (v :: vs) H2 ev2 (g1.trans g2) (by simp only [Reps]; exact ⟨v, vs, rfl, Rep.step (ev1.stepO g2) ev1.Ool d v r1, r2⟩) (by rw [List.length_cons, hl]) h2⟩⟩
def fTup (g : FL) : FE := fun ρ S R => g ρ S fun ds S1 => R (.tuple ds) S1
def fLst (g : FL) : FE := fun ρ S R => g ρ S fun ds S1 => R (.list ds) S1
theorem d_tup {k : Nat} (h : PA X es (rda X.K n g)) (hn : decide (n ≤ 16777216) = true := by rfl) : PE X (.Tuple es k pos) (rd X.K (fTup g)) := PE.imp (pe_tup h) fun σ H Q ⟨Oc, w, ρ, S, R, ev, hf, k⟩ =>
  ⟨Oc, w, ρ, S, _, ev, hf, fun ds S1 vs H1 ev1 g1 r1 hl h1 => ⟨by rw [sizeLine_eq, r1.len, hl]; exact of_decide_eq_true hn, fun p hp =>
    k _ S1 _ _ (ev1.same (Same.new hp)) (g1.trans (Gr.of (Same.new hp))) (rep_tup ev1.Ool hp r1) h1⟩⟩
theorem n_lst (h : PA X es (rda X.K n g)) (hn : decide (n ≤ 16777216) = true := by rfl) : PE X (.List es pos) (rn X.K (fLst g)) := PE.imp (pe_lst h) fun σ H Q ⟨Oc, w, ρ, S, R, ev, hf, k⟩ =>
  ⟨Oc, w, ρ, S, _, ev, hf, fun ds S1 vs H1 ev1 g1 r1 hl h1 => ⟨by rw [sizeLine_eq, r1.len, hl]; exact of_decide_eq_true hn, fun p hp =>
    k ds S1 p vs _ (ev1.same (Same.new hp)) (g1.trans (Gr.of (Same.new hp))) (free_of ev1 g1 hp) upd_same (reps_new ev1.Ool hp r1) h1⟩⟩
theorem d_lst (h : PA X es (rda X.K n g)) (hn : decide (n ≤ 16777216) = true := by rfl) : PE X (.List es pos) (rd X.K (fLst g)) := d_of_n (n_lst h hn)
theorem d_dict0 : PE X (.Dict [] [] pos) (rd X.K (fC (.dict []))) := PE.imp pe_dnewK fun σ H Q ⟨Oc, w, ρ, S, R, ev, hf, k⟩ => fun p hp =>
  k _ S _ _ (ev.same (Same.new hp)) (Gr.of (Same.new hp)) (by simp only [Rep, Repd]; exact ⟨p, [], rfl, ⟨.inl upd_same, ev.Ool.away hp⟩, rfl⟩) hf
/-! ### built-ins by their values -/
/-- one argument, two -/
def t1 (r : List V → Hp → VK → Prop) : V → Hp → VK → Prop := fun x H Q => r [x] H Q
def t2 (r : List V → Hp → VK → Prop) : R2 := fun x y H Q => r [x, y] H Q
variable {r : List V → Hp → VK → Prop} {o1 : O1} {o2 : O2} {x : Str} {id T : String} {p : Pos}
theorem d_callB (hc : CallR X (.builtin id) r) (s : UnS X.K (t1 r) o1) (ha : PE X a (rb X.K fa)) (hm : X.mg x = none) (hv : bootBuiltins x = some (.builtin id)) (hg : Gl X x := by rfl) (hn : x ≠ "__name__" := by decide) (hdb : (x == ("__debug__" : Str)) = false := by decide)
    (he : starEach (a :: []) X.env = (false, eval a X.env) :: starEach [] X.env := by rfl) (hpl : (backTo pos (starEach [] X.env)).any (·.1) = false := by rfl) : PE X (.Call (.Name x p) [a] [] pos) (rd X.K (fUn o1 fa)) :=
  PE.imp (pe_callB hc hg hm hv (pa_cons ha pa_nil he) hn hdb he hpl) fun _ _ _ h => rd_un s h
theorem d_callT (hc : CallR X (.type T) r) (s : UnS X.K (t1 r) o1) (ha : PE X a (rb X.K fa)) (hm : X.mg x = none) (hv : bootBuiltins x = some (.type T)) (hg : Gl X x := by rfl) (hn : x ≠ "__name__" := by decide) (hdb : (x == ("__debug__" : Str)) = false := by decide)
    (he : starEach (a :: []) X.env = (false, eval a X.env) :: starEach [] X.env := by rfl) (hpl : (backTo pos (starEach [] X.env)).any (·.1) = false := by rfl) : PE X (.Call (.Name x p) [a] [] pos) (rd X.K (fUn o1 fa)) :=
  PE.imp (pe_callTy hc hg hm hv (pa_cons ha pa_nil he) hn hdb he hpl) fun _ _ _ h => rd_un s h
theorem n_callT (hc : CallR X (.type T) r) (s : UnN X.K (t1 r) o1) (ha : PE X a (rb X.K fa)) (hm : X.mg x = none) (hv : bootBuiltins x = some (.type T)) (hg : Gl X x := by rfl) (hn : x ≠ "__name__" := by decide) (hdb : (x == ("__debug__" : Str)) = false := by decide)
    (he : starEach (a :: []) X.env = (false, eval a X.env) :: starEach [] X.env := by rfl) (hpl : (backTo pos (starEach [] X.env)).any (·.1) = false := by rfl) : PE X (.Call (.Name x p) [a] [] pos) (rn X.K (fUn o1 fa)) :=
  PE.imp (pe_callTy hc hg hm hv (pa_cons ha pa_nil he) hn hdb he hpl) fun _ _ _ h => rn_un s h
theorem d_callB2 (hc : CallR X (.builtin id) r) (s : OpS X.K (t2 r) o2) (ha : PE X a (rb X.K fa)) (hb : PE X b (rb X.K fb)) (hm : X.mg x = none) (hv : bootBuiltins x = some (.builtin id)) (hg : Gl X x := by rfl) (hn : x ≠ "__name__" := by decide) (hdb : (x == ("__debug__" : Str)) = false := by decide)
    (he : starEach (a :: [b]) X.env = (false, eval a X.env) :: starEach [b] X.env := by rfl) (he2 : starEach (b :: []) X.env = (false, eval b X.env) :: starEach [] X.env := by rfl) (hpl : (backTo pos (starEach [b] X.env)).any (·.1) = false := by rfl) :
    PE X (.Call (.Name x p) [a, b] [] pos) (rd X.K (fOp o2 fa fb)) :=
  PE.imp (pe_callB hc hg hm hv (pa_cons ha (pa_cons hb pa_nil he2) he) hn hdb he hpl) fun _ _ _ h => rd_op s h
/-- a function of a module of the library, by from .. import -/
theorem d_callF2 (hc : CallR X (.builtin id) r) (s : OpS X.K (t2 r) o2) (ha : PE X a (rb X.K fa)) (hb : PE X b (rb X.K fb)) (hm : X.mg x = some (.builtin id)) (hg : Gl X x := by rfl) (hdb : (x == ("__debug__" : Str)) = false := by decide)
    (he : starEach (a :: [b]) X.env = (false, eval a X.env) :: starEach [b] X.env := by rfl) (he2 : starEach (b :: []) X.env = (false, eval b X.env) :: starEach [] X.env := by rfl) (hpl : (backTo pos (starEach [b] X.env)).any (·.1) = false := by rfl) :
    PE X (.Call (.Name x p) [a, b] [] pos) (rd X.K (fOp o2 fa fb)) :=
  PE.imp (pe_callBfun hc hg hm (pa_cons ha (pa_cons hb pa_nil he2) he) hdb he hpl) fun _ _ _ h => rd_op s h
end
section
variable {K : Fr_}
def oLen : O1 := fun x R => match x with
  | .tuple ds => R (.int ds.length)
  | .list ds => R (.int ds.length)
  | .str z => z.length ≤ sizeLine ∧ R (.int z.length)
  | _ => False
theorem sLen : UnS K (t1 (fun xs H Q => ∃ x n, xs = [x] ∧ LenV K x H n ∧ Q (.int n) H)) oLen := ⟨fun {O w H x vx R Q} ol rx h k => by
  unfold oLen at h
  split at h
  · obtain ⟨p, vs, rfl, q1, r1⟩ := rx.tup
    exact ⟨_, _, rfl, .inr ⟨vs, q1, rfl⟩, k _ _ H (Same.refl H) (by simp only [Rep, r1.len]) h⟩
  · obtain ⟨p, vs, rfl, q1, r1⟩ := rx.lst
    exact ⟨_, _, rfl, .inl ⟨vs, q1, rfl⟩, k _ _ H (Same.refl H) (by simp only [Rep, r1.len]) h⟩
  · obtain ⟨hz, h⟩ := h
    have e := rx.str
    subst e
    exact ⟨_, _, rfl, ⟨hz, rfl⟩, k _ _ H (Same.refl H) (by simp only [Rep]) h⟩
  · exact h.elim⟩
def oInt : O1 := fun x R => match x with
  | .int i => R (.int i)
  | .bool b => R (.int (if b then 1 else 0))
  | _ => False
theorem sIntOf : UnS K (t1 (fun xs H Q => (∃ i, xs = [.int i] ∧ Q (.int i) H) ∨ ∃ k, xs = [.bl k] ∧ Q (.int (if k then 1 else 0)) H)) oInt := ⟨fun {O w H x vx R Q} ol rx h k => by
  unfold oInt at h
  split at h
  · have e := rx.int
    subst e
    exact .inl ⟨_, rfl, k _ _ H (Same.refl H) (by simp only [Rep]) h⟩
  · have e := rx.bool
    subst e
    exact .inr ⟨_, rfl, k _ _ H (Same.refl H) (by simp only [Rep]) h⟩
  · exact h.elim⟩
def oAbs : O1 := fun x R => asI x fun i => R (.int (if i < 0 then -i else i))
theorem sAbs : UnS K (t1 (fun xs H Q => ∃ i, xs = [.int i] ∧ Q (.int (if i < 0 then -i else i)) H)) oAbs := ⟨fun {O w H x vx R Q} ol rx h k => by
  obtain ⟨i, rfl, q⟩ := asI_inv h
  have e := rx.int
  subst e
  exact ⟨i, rfl, k _ _ H (Same.refl H) (by simp only [Rep]) q⟩⟩
theorem sMax2 : OpS K (t2 (fun xs H Q => ∃ i j, xs = [.int i, .int j] ∧ Q (.int (if j > i then j else i)) H)) (oI fun i j => .int (if j > i then j else i)) := ⟨fun {O w H x y vx vy R Q} ol rx ry h k => by
  obtain ⟨i, j, rfl, rfl, q⟩ := oI_inv h
  have e := rx.int
  have e' := ry.int
  subst e e'
  exact ⟨i, j, rfl, k _ _ H (Same.refl H) (by simp only [Rep]) q⟩⟩
theorem sMin2 : OpS K (t2 (fun xs H Q => ∃ i j, xs = [.int i, .int j] ∧ Q (.int (if j < i then j else i)) H)) (oI fun i j => .int (if j < i then j else i)) := ⟨fun {O w H x y vx vy R Q} ol rx ry h k => by
  obtain ⟨i, j, rfl, rfl, q⟩ := oI_inv h
  have e := rx.int
  have e' := ry.int
  subst e e'
  exact ⟨i, j, rfl, k _ _ H (Same.refl H) (by simp only [Rep]) q⟩⟩
theorem sGcd : OpS K (t2 rGcd) (oI fun i j => .int ((Nat.gcd i.natAbs j.natAbs : Nat) : Int)) := ⟨fun {O w H x y vx vy R Q} ol rx ry h k => by
  obtain ⟨i, j, rfl, rfl, q⟩ := oI_inv h
  have e := rx.int
  have e' := ry.int
  subst e e'
  exact ⟨i, j, rfl, k _ _ H (Same.refl H) (by simp only [Rep]) q⟩⟩
def oDivmod : O2 := oIC CDiv fun i j => .tuple [.int (i / j), .int (i % j)]
theorem sDivmod : OpS K (t2 (fun xs H Q => ∃ i j, xs = [.int i, .int j] ∧ CDiv i j ∧ ∀ p, H p = none → Q (.ref p) (upd H p (.tup [.int (i / j), .int (i % j)])))) oDivmod := ⟨fun {O w H x y vx vy R Q} ol rx ry h k => by
  obtain ⟨i, j, rfl, rfl, c, q⟩ := oIC_inv h
  have e := rx.int
  have e' := ry.int
  subst e e'
  exact ⟨i, j, rfl, c, fun p hp => k _ _ _ (Same.new hp) (rep_tup ol hp (by simp only [Reps, Rep]; exact ⟨_, _, rfl, rfl, _, _, rfl, rfl, rfl⟩)) q⟩⟩
/-- a list of truths, of ints -/
def oAll : O1 := fun x R => ∃ bs : List Bool, x = .list (bs.map .bool) ∧ R (.bool (bs.all id))
def oAny : O1 := fun x R => ∃ bs : List Bool, x = .list (bs.map .bool) ∧ R (.bool (bs.any id))
theorem sAll : UnS K (t1 (rAll K)) oAll := ⟨fun {O w H x vx R Q} ol rx h k => by
  obtain ⟨bs, rfl, q⟩ := h
  obtain ⟨p, vs, rfl, q1, r1⟩ := rx.lst
  have e := r1.bools
  subst e
  exact ⟨p, bs, rfl, q1, k _ _ H (Same.refl H) (by simp only [Rep]) q⟩⟩
theorem sAny : UnS K (t1 (rAny K)) oAny := ⟨fun {O w H x vx R Q} ol rx h k => by
  obtain ⟨bs, rfl, q⟩ := h
  obtain ⟨p, vs, rfl, q1, r1⟩ := rx.lst
  have e := r1.bools
  subst e
  exact ⟨p, bs, rfl, q1, k _ _ H (Same.refl H) (by simp only [Rep]) q⟩⟩
def oSum : O1 := fun x R => ∃ ns : List Int, x = .list (ns.map .int) ∧ R (.int ns.sum)
theorem sSum : UnS K (t1 (rSum K)) oSum := ⟨fun {O w H x vx R Q} ol rx h k => by
  obtain ⟨bs, rfl, q⟩ := h
  obtain ⟨p, vs, rfl, q1, r1⟩ := rx.lst
  have e := r1.ints
  subst e
  exact ⟨p, bs, rfl, q1, k _ _ H (Same.refl H) (by simp only [Rep]) q⟩⟩
def oMax : O1 := fun x R => ∃ ns : List Int, x = .list (ns.map .int) ∧ 0 < ns.length ∧ ∀ m, m ∈ ns → (∀ y, y ∈ ns → y ≤ m) → R (.int m)
def oMin : O1 := fun x R => ∃ ns : List Int, x = .list (ns.map .int) ∧ 0 < ns.length ∧ ∀ m, m ∈ ns → (∀ y, y ∈ ns → m ≤ y) → R (.int m)
theorem sMax : UnS K (t1 (rMax K)) oMax := ⟨fun {O w H x vx R Q} ol rx h k => by
  obtain ⟨bs, rfl, hl, q⟩ := h
  obtain ⟨p, vs, rfl, q1, r1⟩ := rx.lst
  have e := r1.ints
  subst e
  exact ⟨p, bs, rfl, q1, hl, fun m h1 h2 => k _ _ H (Same.refl H) (by simp only [Rep]) (q m h1 h2)⟩⟩
theorem sMin : UnS K (t1 (rMin K)) oMin := ⟨fun {O w H x vx R Q} ol rx h k => by
  obtain ⟨bs, rfl, hl, q⟩ := h
  obtain ⟨p, vs, rfl, q1, r1⟩ := rx.lst
  have e := r1.ints
  subst e
  exact ⟨p, bs, rfl, q1, hl, fun m h1 h2 => k _ _ H (Same.refl H) (by simp only [Rep]) (q m h1 h2)⟩⟩
def oList : O1 := fun x R => match rowD x with
  | some ds => R (.list ds)
  | none => False
def oTuple : O1 := fun x R => match rowD x with
  | some ds => R (.tuple ds)
  | none => False
theorem nList : UnN K (t1 (fun xs H Q => ∃ p ys, xs = [.ref p] ∧ (SqL K H p ys ∨ SqT K H p ys) ∧ ∀ l, H l = none → Q (.ref l) (upd H l (.lst ys)))) oList := ⟨fun {O w H x vx R Q} ol rx h k => by
  unfold oList at h
  cases x with
  | tuple ds =>
    obtain ⟨p, vs, rfl, q1, r1⟩ := rx.tup
    exact ⟨p, vs, rfl, .inr q1, fun l hl => k ds l vs _ (Same.new hl) hl upd_same (reps_new ol hl r1) h⟩
  | list ds =>
    obtain ⟨p, vs, rfl, q1, r1⟩ := rx.lst
    exact ⟨p, vs, rfl, .inl q1, fun l hl => k ds l vs _ (Same.new hl) hl upd_same (reps_new ol hl r1) h⟩
  | _ => exact h.elim⟩
theorem sTuple : UnS K (t1 (fun xs H Q => ∃ p ys, xs = [.ref p] ∧ ((SqL K H p ys ∧ ∀ l, H l = none → Q (.ref l) (upd H l (.tup ys))) ∨ (SqT K H p ys ∧ Q (.ref p) H)))) oTuple := ⟨fun {O w H x vx R Q} ol rx h k => by
  unfold oTuple at h
  cases x with
  | tuple ds =>
    obtain ⟨p, vs, rfl, q1, r1⟩ := rx.tup
    exact ⟨p, vs, rfl, .inr ⟨q1, k (.tuple ds) _ H (Same.refl H) (by simp only [Rep]; exact ⟨p, vs, rfl, q1, r1⟩) h⟩⟩
  | list ds =>
    obtain ⟨p, vs, rfl, q1, r1⟩ := rx.lst
    exact ⟨p, vs, rfl, .inl ⟨q1, fun l hl => k (.tuple ds) _ _ (Same.new hl) (rep_tup ol hl r1) h⟩⟩
  | _ => exact h.elim⟩
/-! ### isinstance -/
def tyD : PyData → String
  | .none => "NoneType"
  | .bool _ => "bool"
  | .int _ => "int"
  | .str _ => "str"
  | .list _ => "list"
  | .tuple _ => "tuple"
  | .dict _ => "dict"
def isiAll (T : String) : Bool := ["NoneType", "bool", "int", "str", "list", "tuple", "dict"].all fun t => (kitB t T).isSome
def isiD (T : String) (x : PyData) : Bool := (kitB (tyD x) T).getD false
theorem isi_kit {T : String} (h : isiAll T = true) (x : PyData) : PySem.W.kitOne K (.type (tyD x)) (.type T) = some (isiD T x) := by
  refine kit_ty ?_
  unfold isiAll at h
  unfold isiD
  simp only [List.all_cons, List.all_nil, Bool.and_true, Bool.and_eq_true] at h
  obtain ⟨h1, h2, h3, h4, h5, h6, h7⟩ := h
  have g : ∀ {o : Option Bool}, o.isSome = true → o = some (o.getD false) := fun {o} h => by cases o <;> simp at h ⊢
  cases x <;> simp only [tyD] <;> exact g (by assumption)
theorem RepB.tyX {O : AS} {w : Option Addr} {H : Hp} {d : PyData} {v : V} (h : RepB K O w H d v) : TyX K H v (.type (tyD d)) := by
  cases d with
  | none => rw [h.non]; exact .base .non
  | bool b => rw [h.bool]; exact .base (.bl b)
  | int b => rw [h.int]; exact .base (.int b)
  | str b => rw [h.str]; exact .base (.str b)
  | list ds =>
    obtain ⟨a, vs, rfl, q, _⟩ := h.lst
    rcases q with (q | ⟨o, q⟩) | ⟨o, its, n, q1, q2, _⟩
    · exact .base (.lst q)
    · exact .base (.frz q)
    · exact .kList q1 q2
  | tuple ds =>
    obtain ⟨a, vs, rfl, q, _⟩ := h.tup
    rcases q with (q | ⟨o, q⟩) | ⟨o, its, n, q1, q2, _⟩
    · exact .base (.tup q)
    · exact .fTuple q
    · exact .kTuple q1 q2
  | dict kvs =>
    rcases h with h | ⟨a, vs, ds, e, _⟩
    · simp only [Rep] at h
      obtain ⟨a, ps, rfl, ⟨q, n⟩, r⟩ := h
      rcases q with q | ⟨o, q⟩
      · exact .base (.dK q)
      · exact .fDict q
    · cases e
end
section
variable {X : Cx} {e a b c : Expr} {es : List Expr} {pos p p2 : Pos} {f fa fb fc : FE} {T : Str}
theorem d_isi {n : String} (hT : isiAll n = true) (ha : PE X a (rb X.K fa)) (hm : X.mg "isinstance" = none) (hmT : X.mg T = none) (hvT : bootBuiltins T = some (.type n)) (hg : Gl X "isinstance" := by rfl) (hgT : Gl X T := by rfl) (hn : T ≠ "__name__" := by decide) (hdb : (T == ("__debug__" : Str)) = false := by decide)
    (he : starEach (a :: [.Name T p2]) X.env = (false, eval a X.env) :: starEach [.Name T p2] X.env := by rfl) (he2 : starEach (.Name T p2 :: []) X.env = (false, eval (.Name T p2) X.env) :: starEach [] X.env := by rfl) (hpl : (backTo pos (starEach [.Name T p2] X.env)).any (·.1) = false := by rfl) :
    PE X (.Call (.Name "isinstance" p) [a, .Name T p2] [] pos) (rd X.K (fUn (fun x R => R (.bool (isiD n x))) fa)) :=
  PE.imp (pe_callB call_isi hg hm boot_isinstance (pa_cons ha (pa_cons (pe_bltn (v := .ty n) hgT hmT hvT rfl hn hdb) pa_nil he2) he) (by decide) (by decide) he hpl) fun σ H Q ⟨Oc, w, ρ, S, R, ev, hf, k⟩ =>
    ⟨Oc, w, ρ, S, _, ev, hf, fun x S1 vx H1 ev1 g1 rx h1 => ⟨vx, .ty n, _, _, _, rfl, .ty n, rx.tyX, isi_kit hT x, k _ S1 _ H1 ev1 g1 (by simp only [Rep]) h1⟩⟩
end
end DL

namespace DL
open PySem L2 PyProof.Rows
/-! ### slices -/
abbrev FO := Rho → SW → (Option Int → SW → Prop) → Prop
def fNoP : FO := fun _ S R => R none S
def fP (f : FE) : FO := fun ρ S R => f ρ S fun d S1 => asI d fun i => R (some i) S1
def ro (K : Fr_) (g : FO) : TO := fun σ H Q => ∃ Oc w ρ S R, EV K Oc w σ H ρ S ∧ g ρ S R ∧ ∀ o S' H', EV K Oc w σ H' ρ S' → Gr w H H' → R o S' → Q o H'
theorem PO.imp {X : Cx} {e : Option Expr} {t t' : TO} (h : PO X e t) (i : ∀ σ H Q, t' σ H Q → t σ H Q) : PO X e t' := ⟨fun pins s σ H Q I q => h.run pins s σ H Q I (i σ H Q q)⟩
/-- the part of a row from lo to hi -/
def cutD (ds : List PyData) (lo hi : Option Int) : List PyData := (ds.drop (HT.sIx ds.length 0 lo)).take (HT.sIx ds.length ds.length hi - HT.sIx ds.length 0 lo)
def cutZ (z : Str) (lo hi : Option Int) : Str := cutS z lo hi
def oSl : PyData → Option Int → Option Int → (PyData → Prop) → Prop := fun x lo hi R => match x with
  | .tuple ds => R (.tuple (cutD ds lo hi))
  | .list ds => R (.list (cutD ds lo hi))
  | .str z => z.length ≤ sizeLine ∧ R (.str (cutS z lo hi))
  | _ => False
def fSl (f : FE) (gl gh : FO) : FE := fun ρ S R => f ρ S fun x S1 => gl ρ S1 fun lo S2 => gh ρ S2 fun hi S3 => oSl x lo hi fun d => R d S3
def oSlL : PyData → Option Int → Option Int → (PyData → Prop) → Prop := fun x lo hi R => match x with
  | .list ds => R (.list (cutD ds lo hi))
  | _ => False
def fSlL (f : FE) (gl gh : FO) : FE := fun ρ S R => f ρ S fun x S1 => gl ρ S1 fun lo S2 => gh ρ S2 fun hi S3 => oSlL x lo hi fun d => R d S3
section
variable {K : Fr_} {O : AS} {w : Option Addr} {H : Hp}
theorem Reps.cut {ds : List PyData} {vs : List V} (r : Reps K O H ds vs) (lo hi : Option Int) : Reps K O H (cutD ds lo hi) (cutV vs lo hi) := by
  unfold cutD cutV
  rw [r.len]
  exact Reps.take _ (Reps.drop _ r)
theorem sl_all {X : Cx} : SlR X (fun x lo hi H Q => rSlA X.K x lo hi H Q ∨ (rSlL X.K x lo hi H Q ∨ rSlS x lo hi H Q)) := sl_tupA.or (sl_list.or sl_str)
theorem sSl {lo hi : Option Int} {x : PyData} {vx : V} {R : PyData → Prop} {Q : VK} (ol : OL O H) (rx : RepB K O w H x vx) (h : oSl x lo hi R) (k : ∀ d v H', Same H H' → Rep K O H' d v → R d → Q v H') :
    rSlA K vx lo hi H Q ∨ (rSlL K vx lo hi H Q ∨ rSlS vx lo hi H Q) := by
  unfold oSl at h
  split at h
  · rename_i ds
    obtain ⟨p, vs, rfl, q1, r1⟩ := rx.tup
    refine .inl ⟨p, vs, rfl, q1, fun e => ?_, fun _ t ht => k _ _ _ (Same.new ht) (rep_tup ol ht (r1.cut lo hi)) h⟩
    have ec : cutD ds lo hi = ds := by
      unfold cutD
      rw [← r1.len, e.1, e.2]
      simp [r1.len]
    rw [ec] at h
    exact k (.tuple ds) _ H (Same.refl H) (by simp only [Rep]; exact ⟨p, vs, rfl, q1, r1⟩) h
  · rename_i ds
    obtain ⟨p, vs, rfl, q1, r1⟩ := rx.lst
    exact .inr (.inl ⟨p, vs, rfl, q1, fun t ht => k _ _ _ (Same.new ht) (rep_lst ol ht (r1.cut lo hi)) h⟩)
  · obtain ⟨hz, h⟩ := h
    exact .inr (.inr ⟨_, rx.str, hz, k _ _ H (Same.refl H) (by simp only [Rep]) h⟩)
  · exact h.elim
theorem nSl {lo hi : Option Int} {x : PyData} {vx : V} {R : PyData → Prop} {Q : VK} (ol : OL O H) (rx : RepB K O w H x vx) (h : oSlL x lo hi R)
    (k : ∀ ds p vs H', Same H H' → H p = none → H' p = some (.lst vs) → Reps K (With O p) H' ds vs → R (.list ds) → Q (.ref p) H') : rSlL K vx lo hi H Q := by
  unfold oSlL at h
  split at h
  · rename_i ds
    obtain ⟨p, vs, rfl, q1, r1⟩ := rx.lst
    exact ⟨p, vs, rfl, q1, fun t ht => k _ _ _ _ (Same.new ht) ht upd_same (reps_new ol ht (r1.cut lo hi)) h⟩
  · exact h.elim
end
section
variable {X : Cx} {e a b c : Expr} {es : List Expr} {pos p p2 : Pos} {f fa fb fc : FE} {gl gh : FO} {lo hi : Option Expr} {n : Nat} {x : Str}
theorem o_none : PO X none (ro X.K fNoP) := PO.imp po_none fun σ H Q ⟨Oc, w, ρ, S, R, ev, hf, k⟩ => k none S H ev Gr.refl hf
theorem o_some (h : PE X e (rb X.K f)) : PO X (some e) (ro X.K (fP f)) := PO.imp (po_some h) fun σ H Q ⟨Oc, w, ρ, S, R, ev, hf, k⟩ =>
  ⟨Oc, w, ρ, S, _, ev, hf, fun d S1 v H1 ev1 g1 r h1 => by
    obtain ⟨i, rfl, q⟩ := asI_inv h1
    exact ⟨i, r.int, k _ S1 H1 ev1 g1 q⟩⟩
theorem d_slice (he : PE X e (rb X.K f)) (hl : PO X lo (ro X.K gl)) (hu : PO X hi (ro X.K gh)) : PE X (.Subscript e (.Slice lo hi none p2) pos) (rd X.K (fSl f gl gh)) := PE.imp (pe_slice sl_all he hl hu) fun σ H Q ⟨Oc, w, ρ, S, R, ev, hf, k⟩ =>
  ⟨Oc, w, ρ, S, _, ev, hf, fun d S1 v H1 ev1 g1 r1 h1 => ⟨Oc, w, ρ, S1, _, ev1, h1, fun l S2 H2 ev2 g2 h2 => ⟨Oc, w, ρ, S2, _, ev2, h2, fun u S3 H3 ev3 g3 h3 =>
    sSl ev3.Ool (RepB.go (ev1.stepO (g2.trans g3)) ev1.Ool (g2.trans g3) r1) h3 fun d v H4 sm rv q => k d S3 v H4 (ev3.same sm) (((g1.trans g2).trans g3).trans (Gr.of sm)) rv q⟩⟩⟩
theorem n_slice (he : PE X e (rb X.K f)) (hl : PO X lo (ro X.K gl)) (hu : PO X hi (ro X.K gh)) : PE X (.Subscript e (.Slice lo hi none p2) pos) (rn X.K (fSlL f gl gh)) := PE.imp (pe_slice sl_list he hl hu) fun σ H Q ⟨Oc, w, ρ, S, R, ev, hf, k⟩ =>
  ⟨Oc, w, ρ, S, _, ev, hf, fun d S1 v H1 ev1 g1 r1 h1 => ⟨Oc, w, ρ, S1, _, ev1, h1, fun l S2 H2 ev2 g2 h2 => ⟨Oc, w, ρ, S2, _, ev2, h2, fun u S3 H3 ev3 g3 h3 =>
    nSl ev3.Ool (RepB.go (ev1.stepO (g2.trans g3)) ev1.Ool (g2.trans g3) r1) h3 fun ds p vs H4 sm n hp rv q => k ds S3 p vs H4 (ev3.same sm) (((g1.trans g2).trans g3).trans (Gr.of sm)) (free_of ev3 ((g1.trans g2).trans g3) n) hp rv q⟩⟩⟩
end
/-! ### promises in data, calls -/
def ArgRep (K : Fr_) (O : AS) (w : Option Addr) (H : Hp) : Sl → V → Prop
  | .dat d, v => Rep K O H d v
  | .wel, v => ∃ a, w = some a ∧ v = .ref a
  | _, _ => False
def Args (K : Fr_) (O : AS) (w : Option Addr) (H : Hp) : List Sl → List V → Prop
  | [], vs => vs = []
  | d :: ds, vs => ∃ v r, vs = v :: r ∧ ArgRep K O w H d v ∧ Args K O w H ds r
abbrev Ct := List Sl → SW → (PyData → SW → Prop) → Prop
def Wel (w : Option Addr) (H : Hp) (S : SW) : Prop := ∀ a, w = some a → H a = some (.lst (S.map V.int))
def spC (K : Fr_) (n : Nat) (C : Ct) : Sp := fun vs H Q _ => ∃ Oc w S as R, as.length = n ∧ Args K Oc w H as vs ∧ OL Oc H ∧ (∀ a, w = some a → Oc a) ∧ Wel w H S ∧ C as S R ∧
  ∀ d S' v H', Gr w H H' → Wel w H' S' → Rep K Oc H' d v → R d S' → Q v H'
structure Cal (P : Program) (W : World) (K : Fr_) (mg : Str → Option Value) (base : Heap) (x : Str) (k n : Nat) (C : Ct) : Prop where
  ex : ∃ f fd ps, FnOk P W K mg base CX0 k f fd ps (spC K n C) ∧ PySem.W.keepIn K (.ref f) = true ∧ Binds K fd ps [] ∧ mg x = some (.ref f)
/-- .. called by the names of all parameters: pm puts the written ones in the parameters' order -/
structure CalK (P : Program) (W : World) (K : Fr_) (mg : Str → Option Value) (base : Heap) (x : Str) (k n : Nat) (C : Ct) (ks : List Str) (pm : {α : Type} → List α → List α) : Prop where
  ex : ∃ f fd ps, FnOk P W K mg base CX0 k f fd ps (spC K n C) ∧ PySem.W.keepIn K (.ref f) = true ∧ (∀ (s : Shared) (ws : List Value), ws.length = ks.length → BindsTo s fd ⟨[], ks.zip ws⟩ (ps.zip (pm ws))) ∧ mg x = some (.ref f)
  vals : ∀ {vs : List V} {us : List Value}, vs.length = ks.length → Vals vs us → Vals (pm vs) (pm us)
  args : ∀ {O w H} {as : List Sl} {vs : List V}, as.length = ks.length → Args K O w H as vs → Args K O w H (pm as) (pm vs)
  len : ∀ {as : List Sl}, as.length = ks.length → (pm as).length = n
abbrev FR := Rho → SW → (List Sl → SW → Prop) → Prop
def gaNil : FR := fun _ S R => R [] S
def gDat (f : FE) (g : FR) : FR := fun ρ S R => f ρ S fun d S1 => g ρ S1 fun as S2 => R (.dat d :: as) S2
def gWel (i : Nat) (g : FR) : FR := fun ρ S R => match ρ[i]? with
  | some .wel => g ρ S fun as S2 => R (.wel :: as) S2
  | some (.dat d) => g ρ S fun as S2 => R (.dat d :: as) S2
  | _ => False
def rca (K : Fr_) (n : Nat) (g : FR) : TA := fun σ H Q => ∃ Oc w ρ S R, EV K Oc w σ H ρ S ∧ g ρ S R ∧
  ∀ as S' vs H', EV K Oc w σ H' ρ S' → Gr w H H' → Args K (OO Oc σ ρ) w H' as vs → as.length = n → R as S' → Q vs H'
theorem ArgRep.step {K : Fr_} {O : AS} {w : Option Addr} {H H' : Hp} (s : Step O H H') (ol : OL O H) : ∀ {d : Sl} {v : V}, ArgRep K O w H d v → ArgRep K O w H' d v
  | .dat d, v, h => Rep.step s ol d v h
  | .wel, v, h => h
  | .un, _, h => h.elim
  | .own _, _, h => h.elim
theorem Args.len {K : Fr_} {O : AS} {w : Option Addr} {H : Hp} : ∀ {as : List Sl} {vs : List V}, Args K O w H as vs → vs.length = as.length
  | [], _, h => by simp only [Args] at h; subst h; rfl
  | a :: as, _, h => by
    simp only [Args] at h
    obtain ⟨v, r, rfl, _, h⟩ := h
    rw [List.length_cons, List.length_cons, Args.len h]
section
variable {X : Cx} {e a b c : Expr} {es : List Expr} {pos p p2 : Pos} {f fa fb fc : FE} {g : FR} {n : Nat} {x : Str}
theorem c_nil : PA X [] (rca X.K 0 gaNil) := PA.imp pa_nil fun σ H Q ⟨Oc, w, ρ, S, R, ev, hf, k⟩ => k [] S [] H ev Gr.refl (by simp only [Args]) rfl hf
theorem c_dat (he : PE X e (rd X.K f)) (hr : PA X es (rca X.K n g)) (hs : starEach (e :: es) X.env = (false, eval e X.env) :: starEach es X.env := by rfl) : PA X (e :: es) (rca X.K (n + 1) (gDat f g)) := PA.imp (pa_cons he hr hs) fun σ H Q ⟨Oc, w, ρ, S, R, ev, hf, k⟩ =>
  ⟨Oc, w, ρ, S, _, ev, hf, fun d S1 v H1 ev1 g1 r1 h1 => ⟨Oc, w, ρ, S1, _, ev1, h1, fun as S2 vs H2 ev2 g2 r2 hl h2 =>
    k (.dat d :: as) S2 (v :: vs) H2 ev2 (g1.trans g2) (by simp only [Args, ArgRep]; exact ⟨v, vs, rfl, Rep.step (ev1.stepO g2) ev1.Ool d v r1, r2⟩) (by rw [List.length_cons, hl]) h2⟩⟩
theorem c_wel (i : Nat) (hr : PA X es (rca X.K n g)) (hN : X.N[i]? = some x := by rfl) (hv : Vis X.env.scope x := by first | exact Or.inl rfl | exact Or.inr (Or.inl rfl) | exact Or.inr (Or.inr rfl)) (hd : (x == ("__debug__" : Str)) = false := by decide)
    (hcd : (x == ("__classdict__" : Str)) = false := by decide) (hs : starEach (.Name x p :: es) X.env = (false, eval (.Name x p) X.env) :: starEach es X.env := by rfl) : PA X (.Name x p :: es) (rca X.K (n + 1) (gWel i g)) := PA.imp (pa_cons (pe_var (i := i) hN hv hd hcd) hr hs) fun σ H Q ⟨Oc, w, ρ, S, R, ev, hf, k⟩ => by
  unfold gWel at hf
  split at hf
  · rename_i hi
    obtain ⟨a, hw, hs⟩ := ev.wel i hi
    exact ⟨_, hs, Oc, w, ρ, S, _, ev, hf, fun as S2 vs H2 ev2 g2 r2 hl h2 => k (.wel :: as) S2 (_ :: vs) H2 ev2 g2 (by simp only [Args, ArgRep]; exact ⟨_, vs, rfl, ⟨a, hw, rfl⟩, r2⟩) (by rw [List.length_cons, hl]) h2⟩
  · rename_i d hi
    obtain ⟨v, hs, r⟩ := ev.dat i d hi
    exact ⟨_, hs, Oc, w, ρ, S, _, ev, hf, fun as S2 vs H2 ev2 g2 r2 hl h2 => k (.dat d :: as) S2 (_ :: vs) H2 ev2 g2 (by simp only [Args, ArgRep]; exact ⟨_, vs, rfl, Rep.step (ev.stepO g2) ev.Ool d v r, r2⟩) (by rw [List.length_cons, hl]) h2⟩
  · exact hf.elim
def fCall (C : Ct) (g : FR) : FE := fun ρ S R => g ρ S fun as S1 => C as S1 R
theorem d_call {k : Nat} {C : Ct} (c : Cal X.prog X.w X.K X.mg X.base x k n C) (hr : Room k X.A) (ha : PA X (e :: es) (rca X.K n g)) (hg : Gl X x := by rfl) (hdb : (x == ("__debug__" : Str)) = false := by decide)
    (he : starEach (e :: es) X.env = (false, eval e X.env) :: starEach es X.env := by rfl) (hpl : (backTo pos (starEach es X.env)).any (·.1) = false := by rfl) : PE X (.Call (.Name x p) (e :: es) [] pos) (rd X.K (fCall C g)) := by
  obtain ⟨f, fd, ps, F, hk, hb, hm⟩ := c.ex
  exact PE.imp (pe_call F hr hg hm hk hb .nil pass0 ha hdb he hpl) fun σ H Q ⟨Oc, w, ρ, S, R, ev, hf, k⟩ =>
    ⟨Oc, w, ρ, S, _, ev, hf, fun as S1 vs H1 ev1 g1 r1 hl h1 => ⟨OO Oc σ ρ, w, S1, as, _, hl, by rw [List.append_nil]; exact r1, ev1.Ool, fun a z => .inl (ev1.ws a z).1, fun a z => (ev1.ws a z).2, h1,
      fun d S' v H' g w' r q => k d S' v H' (ev1.go g w') (g1.trans g) r q⟩⟩
/-- rows of keywords -/
theorem PK.imp {kws : List Keyword} {t t' : TA} (h : PK X kws t) (i : ∀ σ H Q, t' σ H Q → t σ H Q) : PK X kws t' := ⟨fun ps pins s σ H Q I q => h.run ps pins s σ H Q I (i σ H Q q)⟩
end
end DL

namespace DL
open PySem L2 PyProof.Rows
/-! ### calls by keywords alone -/
section
variable {X : Cx} {e a b c : Expr} {es : List Expr} {kws : List Keyword} {pos p p2 kpos : Pos} {f fa fb fc : FE} {g : FR} {n : Nat} {x : Str} {nm : Option Str}
theorem k_nil : PK X [] (rca X.K 0 gaNil) := PK.imp pk_nil fun σ H Q ⟨Oc, w, ρ, S, R, ev, hf, k⟩ => k [] S [] H ev Gr.refl (by simp only [Args]) rfl hf
theorem k_dat (he : PE X e (rd X.K f)) (hr : PK X kws (rca X.K n g)) : PK X (⟨nm, e, kpos⟩ :: kws) (rca X.K (n + 1) (gDat f g)) := PK.imp (pk_cons he hr) fun σ H Q ⟨Oc, w, ρ, S, R, ev, hf, k⟩ =>
  ⟨Oc, w, ρ, S, _, ev, hf, fun d S1 v H1 ev1 g1 r1 h1 => ⟨Oc, w, ρ, S1, _, ev1, h1, fun as S2 vs H2 ev2 g2 r2 hl h2 =>
    k (.dat d :: as) S2 (v :: vs) H2 ev2 (g1.trans g2) (by simp only [Args, ArgRep]; exact ⟨v, vs, rfl, Rep.step (ev1.stepO g2) ev1.Ool d v r1, r2⟩) (by rw [List.length_cons, hl]) h2⟩⟩
def fCallK (C : Ct) (pm : {α : Type} → List α → List α) (g : FR) : FE := fun ρ S R => g ρ S fun as S1 => C (pm as) S1 R
theorem d_callK {k m : Nat} {C : Ct} {ks : List Str} {pm : {α : Type} → List α → List α} (c : CalK X.prog X.w X.K X.mg X.base x k m C ks pm) (hr : Room k X.A) (ha : PK X kws (rca X.K n g)) (hg : Gl X x := by rfl) (hdb : (x == ("__debug__" : Str)) = false := by decide)
    (hall : (backToKw pos (keywordEach kws X.env)).all (·.1.isSome) = true := by rfl) (hks : (backToKw pos (keywordEach kws X.env)).filterMap (·.1) = ks := by rfl) (hn : ks.length = n := by rfl)
    (hpl : ((backTo pos (starEach [] X.env)).any (·.1) || (backToKw pos (keywordEach kws X.env)).any (·.1.isNone)) = false := by rfl) : PE X (.Call (.Name x p) [] kws pos) (rd X.K (fCallK C pm g)) := by
  obtain ⟨f, fd, ps, F, hk, hb, hm⟩ := c.ex
  refine ⟨fun pins s σ H Q I ⟨Oc, w, ρ, S, R, ev, hf, kk⟩ => ?_⟩
  refine wpAny_Call_Name_kw (ld_glob I hg hm ?_ hdb)
  refine PySem.W.callWith_KW0 (h₀ := X.base) I.ok.mod.kin hk hall ?_ hpl
  refine thn (ha.run pos pins s σ H (fun vs H1 => vs.length = n ∧ spC X.K m C (pm vs) H1 Q E0) I ⟨Oc, w, ρ, S, _, ev, hf, fun as S1 vs H1 ev1 g1 r1 hl h1 => ⟨by rw [r1.len, hl], OO Oc σ ρ, w, S1, pm as, _, c.len (by rw [hl, hn]), c.args (by rw [hl, hn]) r1, ev1.Ool, fun a z => .inl (ev1.ws a z).1, fun a z => (ev1.ws a z).2, h1,
    fun d S' v H' g w' r q => kk d S' v H' (ev1.go g w') (g1.trans g) r q⟩⟩) fun us s1 hq => ?_
  obtain ⟨vs, H1, I1, rv, hl, hsp⟩ := hq
  refine ⟨I1.kIn, ?_⟩
  rw [hks, List.nil_append]
  have rv2 := c.vals (by rw [hl, hn]) rv
  have hlen : us.length = ks.length := by rw [← rv.length, hl, hn]
  refine wpAny_call (codeAny_mono (F.run X.A X.stack s1 H1 ⟨[], ks.zip us⟩ (pm us) (pm vs) Q E0 hr I1.env0 (hb s1 us hlen) rv2 hsp) fun r s' hq => ?_)
  cases r with
  | error e => exact hq.elim
  | ok fl =>
    cases fl with
    | ret u => exact I1.after hq
    | next => exact hq.elim
    | brk => exact hq.elim
    | cont => exact hq.elim
end
/-! ### targets -/
abbrev FG := Rho → PyData → (Rho → Prop) → Prop
abbrev FGs := Rho → List PyData → (Rho → Prop) → Prop
/-- what a target's store leaves: only the slots of is changed, none of them becomes one's own list -/
structure Tgt (is : List Nat) (σ σ' : L2.St) (ρ ρ' : Rho) : Prop where
  len : σ'.length = σ.length
  at' : ∀ j : Nat, j ∉ is → σ'[j]? = σ[j]? ∧ ρ'[j]? = ρ[j]?
  own : ∀ (j : Nat) (xs : List PyData), ρ'[j]? = some (Sl.own xs) → ρ[j]? = some (Sl.own xs) ∧ σ'[j]? = σ[j]?
theorem Tgt.trans {is js : List Nat} {σ σ1 σ2 : L2.St} {ρ ρ1 ρ2 : Rho} (a : Tgt is σ σ1 ρ ρ1) (b : Tgt js σ1 σ2 ρ1 ρ2) : Tgt (is ++ js) σ σ2 ρ ρ2 where
  len := b.len.trans a.len
  at' := fun j h => by
    rw [List.mem_append, not_or] at h
    obtain ⟨b1, b2⟩ := b.at' j h.2
    obtain ⟨a1, a2⟩ := a.at' j h.1
    exact ⟨b1.trans a1, b2.trans a2⟩
  own := fun j xs h => by
    obtain ⟨b1, b2⟩ := b.own j xs h
    obtain ⟨a1, a2⟩ := a.own j xs b1
    exact ⟨a1, b2.trans a2⟩
theorem Tgt.refl {σ : L2.St} {ρ : Rho} : Tgt [] σ σ ρ ρ := ⟨rfl, fun _ _ => ⟨rfl, rfl⟩, fun _ _ h => ⟨h, rfl⟩⟩
theorem Tgt.oo {is : List Nat} {Oc : AS} {σ σ' : L2.St} {ρ ρ' : Rho} (t : Tgt is σ σ' ρ ρ') : ∀ a, OO Oc σ' ρ' a → OO Oc σ ρ a := by
  rintro a (h | ⟨i, xs, h1, h2⟩)
  · exact .inl h
  · obtain ⟨q1, q2⟩ := t.own i xs h1
    exact .inr ⟨i, xs, q1, by rw [← q2]; exact h2⟩
def rg (K : Fr_) (is : List Nat) (fg : FG) : TG := fun v σ H Q => ∃ Oc w ρ S d R, EV K Oc w σ H ρ S ∧ Rep K (OO Oc σ ρ) H d v ∧ fg ρ d R ∧ ∀ σ' ρ', EV K Oc w σ' H ρ' S → Tgt is σ σ' ρ ρ' → R ρ' → Q σ' H
def rgs (K : Fr_) (is : List Nat) (fg : FGs) : TGs := fun vs σ H Q => ∃ Oc w ρ S ds R, EV K Oc w σ H ρ S ∧ Reps K (OO Oc σ ρ) H ds vs ∧ fg ρ ds R ∧ ∀ σ' ρ', EV K Oc w σ' H ρ' S → Tgt is σ σ' ρ ρ' → R ρ' → Q σ' H
theorem EV.less {K : Fr_} {Oc : AS} {w : Option Addr} {σ σ' : L2.St} {H : Hp} {ρ ρ' : Rho} {S : SW} (e : EV K Oc w σ H ρ S) (hl : σ'.length = σ.length) (hl' : ρ'.length = ρ.length)
    (hd : ∀ (i : Nat) (d : PyData), ρ'[i]? = some (Sl.dat d) → ∃ v, σ'[i]? = some (some v) ∧ Rep K (OO Oc σ ρ) H d v)
    (ho : ∀ (j : Nat) (xs : List PyData), ρ'[j]? = some (Sl.own xs) → ρ[j]? = some (Sl.own xs) ∧ σ'[j]? = σ[j]?)
    (hw : ∀ (j : Nat), ρ'[j]? = some Sl.wel → ρ[j]? = some Sl.wel ∧ σ'[j]? = σ[j]?) : EV K Oc w σ' H ρ' S := by
  have oo : ∀ a, OO Oc σ' ρ' a → OO Oc σ ρ a := by
    rintro a (h | ⟨i, xs, h1, h2⟩)
    · exact .inl h
    · obtain ⟨q1, q2⟩ := ho i xs h1
      exact .inr ⟨i, xs, q1, by rw [← q2]; exact h2⟩
  refine ⟨by rw [hl, hl', e.len], fun i d h => ?_, fun i xs h => ?_, fun i j xs ys a h1 h2 h3 h4 => ?_, fun i h => ?_, e.ws, e.ol⟩
  · obtain ⟨v, h1, r⟩ := hd i d h
    exact ⟨v, h1, Rep.less oo d v r⟩
  · obtain ⟨q1, q2⟩ := ho i xs h
    obtain ⟨a, vs, h1, h2, h3, h4⟩ := e.own i xs q1
    exact ⟨a, vs, by rw [q2]; exact h1, h2, h3, Reps.less oo xs vs h4⟩
  · obtain ⟨q1, q2⟩ := ho i xs h1
    obtain ⟨q3, q4⟩ := ho j ys h2
    exact e.inj i j xs ys a q1 q3 (by rw [← q2]; exact h3) (by rw [← q4]; exact h4)
  · obtain ⟨q1, q2⟩ := hw i h
    obtain ⟨a, h1, h2⟩ := e.wel i q1
    exact ⟨a, h1, by rw [q2]; exact h2⟩
theorem EV.put {K : Fr_} {Oc : AS} {w : Option Addr} {σ : L2.St} {H : Hp} {ρ : Rho} {S : SW} (e : EV K Oc w σ H ρ S) (i : Nat) {d : PyData} {v : V} (r : Rep K (OO Oc σ ρ) H d v) :
    EV K Oc w (σ.set i (some v)) H (ρ.set i (.dat d)) S ∧ Tgt [i] σ (σ.set i (some v)) ρ (ρ.set i (.dat d)) := by
  have hlt : ∀ {j : Nat}, i = j → j < ρ.length → j < σ.length := fun _ h => by rw [← e.len]; exact h
  have own : ∀ (j : Nat) (xs : List PyData), (ρ.set i (.dat d))[j]? = some (Sl.own xs) → ρ[j]? = some (Sl.own xs) ∧ (σ.set i (some v))[j]? = σ[j]? := fun j xs h => by
    by_cases hj : i = j
    · subst hj
      by_cases hk : i < ρ.length
      · rw [List.getElem?_set_self hk] at h; cases h
      · rw [List.getElem?_eq_none (by simpa using hk)] at h; cases h
    · rw [List.getElem?_set_ne hj] at h
      exact ⟨h, by rw [List.getElem?_set_ne hj]⟩
  refine ⟨e.less (by simp) (by simp) (fun j d' h => ?_) own (fun j h => ?_), ⟨by simp, fun j hj => ?_, own⟩⟩
  · by_cases hj : i = j
    · subst hj
      by_cases hk : i < ρ.length
      · rw [List.getElem?_set_self hk] at h
        cases h
        exact ⟨v, by rw [List.getElem?_set_self (by rw [← e.len]; exact hk)], r⟩
      · rw [List.getElem?_eq_none (by simpa using hk)] at h; cases h
    · rw [List.getElem?_set_ne hj] at h
      obtain ⟨u, hu, ru⟩ := e.dat j d' h
      exact ⟨u, by rw [List.getElem?_set_ne hj]; exact hu, ru⟩
  · by_cases hj : i = j
    · subst hj
      by_cases hk : i < ρ.length
      · rw [List.getElem?_set_self hk] at h; cases h
      · rw [List.getElem?_eq_none (by simpa using hk)] at h; cases h
    · rw [List.getElem?_set_ne hj] at h
      exact ⟨h, by rw [List.getElem?_set_ne hj]⟩
  · have hj' : i ≠ j := fun z => hj (by simp [z])
    exact ⟨List.getElem?_set_ne hj', List.getElem?_set_ne hj'⟩
def gNm (i : Nat) : FG := fun ρ d R => R (ρ.set i (.dat d))
def gTp (n : Nat) (gs : FGs) : FG := fun ρ d R => match d with
  | .tuple ds => ds.length = n ∧ gs ρ ds R
  | _ => False
def gsNil : FGs := fun ρ ds R => ds = [] ∧ R ρ
def gsCons (fg : FG) (gs : FGs) : FGs := fun ρ ds R => match ds with
  | d :: r => fg ρ d fun ρ' => gs ρ' r R
  | [] => False
section
variable {X : Cx} {e : Expr} {es : List Expr} {pos : Pos} {fg : FG} {gs : FGs} {is js : List Nat} {n : Nat}
theorem PG.imp {t t' : TG} (h : PG X e t) (i : ∀ v σ H Q, t' v σ H Q → t v σ H Q) : PG X e t' := ⟨fun pins s σ H v u Q I r q => h.run pins s σ H v u Q I r (i v σ H Q q)⟩
theorem PGs.imp {t t' : TGs} (h : PGs X es t) (i : ∀ v σ H Q, t' v σ H Q → t v σ H Q) : PGs X es t' := ⟨fun pins s σ H v u Q I r q => h.run pins s σ H v u Q I r (i v σ H Q q)⟩
theorem g_name (i : Nat) {x : Str} (hN : X.N.Nodup) (hi : X.N[i]? = some x := by rfl) (hx : Loc X.env.scope x := by first | exact Or.inl rfl | exact Or.inr rfl) (hf : X.fn x = true ∨ X.env.scope.names.lookup x = some .local := by first | exact .inl rfl | exact .inr rfl) :
    PG X (.Name x pos) (rg X.K [i] (gNm i)) := PG.imp (pg_name (i := i) hN hi hx hf) fun v σ H Q ⟨Oc, w, ρ, S, d, R, ev, r, h, k⟩ => by
  obtain ⟨h1, h2⟩ := ev.put i r
  exact k _ _ h1 h2 h
theorem gs_nil : PGs X [] (rgs X.K [] gsNil) := PGs.imp pgs_nil fun v σ H Q ⟨Oc, w, ρ, S, ds, R, ev, r, h, k⟩ => by
  obtain ⟨rfl, h⟩ := h
  simp only [Reps] at r
  exact ⟨r, k σ ρ ev Tgt.refl h⟩
theorem gs_cons (h1 : PG X e (rg X.K is fg)) (h2 : PGs X es (rgs X.K js gs)) (hs : (assignEach (e :: es) X.env).map (·.2) = assign e X.env :: (assignEach es X.env).map (·.2) := by rfl) :
    PGs X (e :: es) (rgs X.K (is ++ js) (gsCons fg gs)) := PGs.imp (pgs_cons h1 h2 hs) fun v σ H Q ⟨Oc, w, ρ, S, ds, R, ev, r, h, k⟩ => by
  unfold gsCons at h
  split at h
  · rename_i d ds
    simp only [Reps] at r
    obtain ⟨u, us, rfl, r1, r2⟩ := r
    exact ⟨u, us, rfl, Oc, w, ρ, S, d, _, ev, r1, h, fun σ1 ρ1 ev1 t1 q1 => ⟨Oc, w, ρ1, S, ds, R, ev1, Reps.less t1.oo ds us r2, q1, fun σ2 ρ2 ev2 t2 q2 => k σ2 ρ2 ev2 (t1.trans t2) q2⟩⟩
  · exact h.elim
theorem g_tup {kk : Nat} (hc : X.calm = true) (h : PGs X es (rgs X.K is gs)) (hn : (assignEach es X.env).length = n := by rfl) (hst : (assignEach es X.env).findIdx? (·.1) = none := by rfl) :
    PG X (.Tuple es kk pos) (rg X.K is (gTp n gs)) := PG.imp (pg_tup hc h hn hst) fun v σ H Q ⟨Oc, w, ρ, S, d, R, ev, r, h, k⟩ => by
  unfold gTp at h
  split at h
  · rename_i ds
    simp only [Rep] at r
    obtain ⟨a, vs, rfl, q, r⟩ := r
    exact ⟨a, vs, rfl, q, r.len.trans h.1, Oc, w, ρ, S, ds, R, ev, r, h.2, k⟩
  · exact h.elim
end
end DL

namespace DL
open PySem L2 PyProof.Rows
/-! ### what is walked -/
/-- J gives the data ds one by one, as long as the heap goes on by Rl -/
structure Itg (K : Fr_) (Rl : Hp → Prop) (O : AS) (H : Hp) (J : It) (ds : List PyData) : Prop where
  ex : ∃ G Y, Walk J ds.length G Y ∧ ∀ O' H', OL O' H' → (∀ a, O' a → O a ∨ H a = none) → Rl H' → G H' ∧ ∀ i x H3, Y i H' x H3 → i < ds.length → ∃ d, ds[i]? = some d ∧ Same H' H3 ∧ Rep K O' H3 d x
abbrev FI := Rho → SW → (List PyData → SW → Prop) → Prop
/-- for a for; for a comprehension -/
def rif (K : Fr_) (fi : FI) : TI := fun σ H R => ∃ Oc w ρ S T, EV K Oc w σ H ρ S ∧ fi ρ S T ∧ ∀ ds S' J H', EV K Oc w σ H' ρ S' → Gr w H H' → Itg K (Step (OO Oc σ ρ) H') (OO Oc σ ρ) H' J ds → T ds S' → R J H'
def ric (K : Fr_) (fi : FI) : TI := fun σ H R => ∃ Oc w ρ S T, EV K Oc w σ H ρ S ∧ fi ρ S T ∧ ∀ ds S' J H', EV K Oc w σ H' ρ S' → Gr w H H' → Itg K (Gr w H') (OO Oc σ ρ) H' J ds → T ds S' → R J H'
theorem PI.imp {X : Cx} {tg e : Expr} {t t' : TI} (h : PI X tg e t) (i : ∀ σ H R, t' σ H R → t σ H R) : PI X tg e t' := ⟨fun pins s σ H R I q => h.run pins s σ H R I (i σ H R q)⟩
def fiL (f : FE) : FI := fun ρ S T => f ρ S fun d S1 => match d with
  | .list ds => T ds S1
  | _ => False
def fiT (f : FE) : FI := fun ρ S T => f ρ S fun d S1 => match d with
  | .tuple ds => T ds S1
  | _ => False
def fiR1 (f : FE) : FI := fun ρ S T => f ρ S fun d S1 => asI d fun j => -(2 ^ 62) ≤ j ∧ j < 2 ^ 62 ∧ T ((List.range j.toNat).map fun k => .int (k : Nat)) S1
def fiR2 (f g : FE) : FI := fun ρ S T => f ρ S fun d S1 => g ρ S1 fun e S2 => asI d fun i => asI e fun j => (-(2 ^ 62) ≤ i ∧ i < 2 ^ 62 ∧ -(2 ^ 62) ≤ j ∧ j < 2 ^ 62) ∧ T ((List.range (j - i).toNat).map fun k => .int (i + (k : Nat))) S2
section
variable {K : Fr_} {O : AS} {w : Option Addr} {H : Hp} {ds : List PyData} {vs : List V} {a : Addr}
theorem itg_list {Rl : Hp → Prop} (hR : ∀ H', Rl H' → Step O H H') (hk : ∀ H', Rl H' → SqL K H' a vs) (ol : OL O H) (r : Reps K O H ds vs) : Itg K Rl O H (Itl K a) ds := by
  refine ⟨⟨_, _, by rw [← r.len]; exact walk_list (K := K) (a := a) (xs := vs), fun O' H' ol' ho h' => ⟨hk H' h', fun i x H3 y hi => ?_⟩⟩⟩
  obtain ⟨rfl, hx⟩ := y
  have hi' : ds[i]? = some ds[i] := List.getElem?_eq_getElem hi
  obtain ⟨v, hv, rv⟩ := (Reps.fw ho (hR _ h') ol ds vs r).at hi'
  rw [hv] at hx
  cases hx
  exact ⟨_, hi', Same.refl _, rv⟩
theorem itg_tup {Rl : Hp → Prop} (hR : ∀ H', Rl H' → Step O H H') (hq : SqT K H a vs) (ol : OL O H) (r : Reps K O H ds vs) : Itg K Rl O H (Itt K a) ds := by
  refine ⟨⟨_, _, by rw [← r.len]; exact walk_tup (K := K) (a := a) (xs := vs), fun O' H' ol' ho h' => ⟨SqT.step (hR H' h') ol hq, fun i x H3 y hi => ?_⟩⟩⟩
  obtain ⟨rfl, hx⟩ := y
  have hi' : ds[i]? = some ds[i] := List.getElem?_eq_getElem hi
  obtain ⟨v, hv, rv⟩ := (Reps.fw ho (hR _ h') ol ds vs r).at hi'
  rw [hv] at hx
  cases hx
  exact ⟨_, hi', Same.refl _, rv⟩
theorem itg_range {Rl : Hp → Prop} {lo : Int} {n : Nat} : Itg K Rl O H (Itr lo n) ((List.range n).map fun k => .int (lo + (k : Nat))) := by
  refine ⟨⟨_, _, by rw [List.length_map, List.length_range]; exact walk_range, fun O' H' ol' ho h' => ⟨True.intro, fun i x H3 y hi => ?_⟩⟩⟩
  obtain ⟨rfl, rfl⟩ := y
  rw [List.length_map, List.length_range] at hi
  refine ⟨.int (lo + (i : Nat)), by rw [List.getElem?_map, List.getElem?_range hi]; rfl, Same.refl _, by simp only [Rep]⟩
end
section
variable {X : Cx} {tg e a b : Expr} {pos p : Pos} {f fa fb : FE} {fi : FI}
theorem ic_of (h : PI X tg e (rif X.K fi)) : PI X tg e (ric X.K fi) := PI.imp h fun σ H R ⟨Oc, w, ρ, S, T, ev, hf, k⟩ =>
  ⟨Oc, w, ρ, S, T, ev, hf, fun ds S' J H' ev' g it q => k ds S' J H' ev' g ⟨by
    obtain ⟨G, Y, w1, h1⟩ := it.ex
    exact ⟨G, Y, w1, fun O' H2 ol ho gr => h1 O' H2 ol ho (ev'.stepO gr)⟩⟩ q⟩
theorem i_list (h : PE X e (rd X.K f)) : PI X tg e (rif X.K (fiL f)) := PI.imp (pi_list h) fun σ H R ⟨Oc, w, ρ, S, T, ev, hf, k⟩ =>
  ⟨Oc, w, ρ, S, _, ev, hf, fun d S1 v H1 ev1 g1 r h1 => by
    cases d with
    | list ds =>
      simp only [Rep] at r
      obtain ⟨a, vs, rfl, q, r⟩ := r
      exact ⟨a, rfl, ⟨vs, q.sq⟩, k ds S1 _ H1 ev1 g1 (itg_list (fun _ z => z) (fun H' s => (QL.step s q).sq) ev1.Ool r) h1⟩
    | _ => exact h1.elim⟩
theorem i_tup (h : PE X e (rb X.K f)) : PI X tg e (rif X.K (fiT f)) := PI.imp (pi_tup h) fun σ H R ⟨Oc, w, ρ, S, T, ev, hf, k⟩ =>
  ⟨Oc, w, ρ, S, _, ev, hf, fun d S1 v H1 ev1 g1 r h1 => by
    cases d with
    | tuple ds =>
      obtain ⟨a, vs, rfl, q, r⟩ := r.tup
      exact ⟨a, rfl, ⟨vs, q⟩, k ds S1 _ H1 ev1 g1 (itg_tup (fun _ z => z) q ev1.Ool r) h1⟩
    | _ => exact h1.elim⟩
/-- a comprehension over a list, also one of one's own -/
theorem ib_list (h : PE X e (rb X.K f)) : PI X tg e (ric X.K (fiL f)) := PI.imp (pi_list h) fun σ H R ⟨Oc, w, ρ, S, T, ev, hf, k⟩ =>
  ⟨Oc, w, ρ, S, _, ev, hf, fun d S1 v H1 ev1 g1 r h1 => by
    cases d with
    | list ds =>
      rcases r with r | ⟨a, vs, ds', e1, rfl, n, q, r⟩
      · simp only [Rep] at r
        obtain ⟨a, vs, rfl, q, r⟩ := r
        exact ⟨a, rfl, ⟨vs, q.sq⟩, k ds S1 _ H1 ev1 g1 (itg_list (fun _ z => ev1.stepO z) (fun H' s => (QL.step (ev1.stepO s) q).sq) ev1.Ool r) h1⟩
      · cases e1
        exact ⟨a, rfl, ⟨vs, SqL.of q⟩, k ds S1 _ H1 ev1 g1 (itg_list (fun _ z => ev1.stepO z) (fun H' s => SqL.of (s _ _ n q)) ev1.Ool r) h1⟩
    | _ => exact h1.elim⟩
theorem i_range1 (ha : PE X a (rb X.K f)) (hm : X.mg "range" = none) (hg : Gl X "range" := by rfl) (hs : starEach [a] X.env = [(false, eval a X.env)] := by rfl) (hs' : starEach (a :: []) X.env = (false, eval a X.env) :: starEach [] X.env := by rfl) : PI X tg (.Call (.Name "range" p) [a] [] pos) (rif X.K (fiR1 f)) :=
  PI.imp (pi_range1 hg hm (pa_cons ha pa_nil hs') hs) fun σ H R ⟨Oc, w, ρ, S, T, ev, hf, k⟩ => ⟨Oc, w, ρ, S, _, ev, hf, fun d S1 v H1 ev1 g1 r h1 => by
    obtain ⟨j, rfl, q1, q2, q3⟩ := asI_inv h1
    refine ⟨j, by rw [r.int], q1, q2, k _ S1 _ H1 ev1 g1 itg_range (by
      simp only [Int.zero_add]
      exact q3)⟩⟩
theorem i_range2 (ha : PE X a (rb X.K fa)) (hb : PE X b (rb X.K fb)) (hm : X.mg "range" = none) (hg : Gl X "range" := by rfl) (hs : starEach [a, b] X.env = [(false, eval a X.env), (false, eval b X.env)] := by rfl) (hs2 : starEach [b] X.env = [(false, eval b X.env)] := by rfl)
    (hs' : starEach (a :: [b]) X.env = (false, eval a X.env) :: starEach [b] X.env := by rfl) (hs2' : starEach (b :: []) X.env = (false, eval b X.env) :: starEach [] X.env := by rfl) : PI X tg (.Call (.Name "range" p) [a, b] [] pos) (rif X.K (fiR2 fa fb)) :=
  PI.imp (pi_range2 hg hm (pa_cons ha (pa_cons hb pa_nil hs2') hs') hs hs2) fun σ H R ⟨Oc, w, ρ, S, T, ev, hf, k⟩ => ⟨Oc, w, ρ, S, _, ev, hf, fun d S1 v H1 ev1 g1 r h1 => ⟨Oc, w, ρ, S1, _, ev1, h1, fun e S2 u H2 ev2 g2 r2 h2 => by
    obtain ⟨i, rfl, h3⟩ := asI_inv h2
    obtain ⟨j, rfl, q1, q3⟩ := asI_inv h3
    exact ⟨i, j, by rw [r.int, r2.int], q1, k _ S2 _ H2 ev2 (g1.trans g2) itg_range q3⟩⟩⟩
end
/-! ### list comprehensions -/
def rwipe (ρ : Rho) : List Nat → Rho
  | [] => ρ
  | v :: vs => (rwipe ρ vs).set v .un
def notOwn (ρ : Rho) (vs : List Nat) : Prop := ∀ v ∈ vs, ∀ xs, ρ[v]? ≠ some (Sl.own xs)
def lcGo (fg : FG) (ft fe : FE) (ρ : Rho) : List PyData → List PyData → SW → (List PyData → SW → Prop) → Prop
  | [], acc, S, T => T acc S
  | d :: ds, acc, S, T => fg ρ d fun ρ' => ft ρ' S fun x S1 => asB x fun k => if k = true then fe ρ' S1 fun y S2 => lcGo fg ft fe ρ ds (acc ++ [y]) S2 T else lcGo fg ft fe ρ ds acc S1 T
def fLc (fi : FI) (vs : List Nat) (fg : FG) (ft fe : FE) : FE := fun ρ S R => fi ρ S fun ds S1 => notOwn ρ vs ∧ ds.length ≤ sizeLine ∧ lcGo fg ft fe (rwipe ρ vs) ds [] S1 fun out S2 => R (.list out) S2
theorem rwipe_len (ρ : Rho) : ∀ vs : List Nat, (rwipe ρ vs).length = ρ.length
  | [] => rfl
  | v :: vs => by unfold rwipe; rw [List.length_set, rwipe_len ρ vs]
theorem rwipe_out {ρ : Rho} {i : Nat} : ∀ {vs : List Nat}, i ∉ vs → (rwipe ρ vs)[i]? = ρ[i]?
  | [], _ => rfl
  | v :: vs, h => by
    simp only [List.mem_cons, not_or] at h
    unfold rwipe
    rw [List.getElem?_set_ne (fun z => h.1 z.symm), rwipe_out h.2]
theorem rwipe_in {ρ : Rho} {i : Nat} : ∀ {vs : List Nat}, i ∈ vs → (rwipe ρ vs)[i]? = some Sl.un ∨ (rwipe ρ vs)[i]? = none
  | v :: vs, h => by
    unfold rwipe
    by_cases e : v = i
    · subst e
      by_cases hl : v < (rwipe ρ vs).length
      · exact .inl (List.getElem?_set_self hl)
      · exact .inr (List.getElem?_eq_none (by simpa using hl))
    · rw [List.getElem?_set_ne e]
      rcases List.mem_cons.mp h with z | z
      · exact absurd z.symm e
      · exact rwipe_in z
theorem wipe_in {σ : L2.St} {i : Nat} : ∀ {vs : List Nat}, i ∈ vs → (wipe σ vs)[i]? = some none ∨ (wipe σ vs)[i]? = none
  | v :: vs, h => by
    unfold wipe
    by_cases e : v = i
    · subst e
      by_cases hl : v < (wipe σ vs).length
      · exact .inl (List.getElem?_set_self hl)
      · exact .inr (List.getElem?_eq_none (by simpa using hl))
    · rw [List.getElem?_set_ne e]
      rcases List.mem_cons.mp h with z | z
      · exact absurd z.symm e
      · exact wipe_in z
theorem wipe_eq {σ σ' : L2.St} {vs : List Nat} (hl : σ'.length = σ.length) (h : ∀ j, j ∉ vs → σ'[j]? = σ[j]?) : wipe σ' vs = wipe σ vs := by
  refine List.ext_getElem? fun j => ?_
  by_cases hj : j ∈ vs
  · by_cases hk : j < σ.length
    · rcases wipe_in (σ := σ) hj with z | z
      · rcases wipe_in (σ := σ') hj with z' | z'
        · rw [z, z']
        · rw [List.getElem?_eq_none_iff, wipe_length] at z'
          omega
      · rw [List.getElem?_eq_none_iff, wipe_length] at z
        omega
    · rw [List.getElem?_eq_none (by rw [wipe_length]; omega), List.getElem?_eq_none (by rw [wipe_length]; omega)]
  · rw [wipe_out hj, wipe_out hj, h j hj]
/-- an object that only the callers may change has changed -/
theorem EV.mut {K : Fr_} {Oc : AS} {w : Option Addr} {σ : L2.St} {H : Hp} {ρ : Rho} {S : SW} {p : Addr} {o : HO} (e : EV K Oc w σ H ρ S) (hp : Oc p) (hw : w ≠ some p) (m : Mu o) : EV K Oc w σ (upd H p o) ρ S := by
  have st : Step (OO Oc σ ρ) H (upd H p o) := fun a u n h => by rw [upd_ne (fun z => n (.inl (by rw [z]; exact hp)))]; exact h
  refine ⟨e.len, fun i d h => ?_, fun i xs h => ?_, e.inj, e.wel, fun a h => ?_, fun a h => ?_⟩
  · obtain ⟨v, h1, r⟩ := e.dat i d h
    exact ⟨v, h1, Rep.step st e.Ool d v r⟩
  · obtain ⟨a, vs, h1, h2, h3, h4⟩ := e.own i xs h
    exact ⟨a, vs, h1, by rw [upd_ne (fun z => h3 (by rw [z]; exact hp))]; exact h2, h3, Reps.step st e.Ool xs vs h4⟩
  · obtain ⟨h1, h2⟩ := e.ws a h
    exact ⟨h1, by rw [upd_ne (fun z => hw (by rw [h, z]))]; exact h2⟩
  · by_cases hap : a = p
    · subst hap
      exact ⟨o, upd_same, m⟩
    · obtain ⟨u, hu, mu⟩ := e.ol a h
      exact ⟨u, by rw [upd_ne hap]; exact hu, mu⟩
theorem notOwn.oo {Oc : AS} {σ σ' : L2.St} {ρ ρ' : Rho} {vs : List Nat} {D : Addr} (no : notOwn ρ vs) (h : ∀ j, j ∉ vs → σ'[j]? = σ[j]? ∧ ρ'[j]? = ρ[j]?) : ∀ a, With (OO Oc σ ρ) D a → OO (With Oc D) σ' ρ' a := by
  rintro a ((h1 | ⟨i, xs, h1, h2⟩) | h1)
  · exact .inl (.inl h1)
  · have hi : i ∉ vs := fun z => no i z xs h1
    obtain ⟨q1, q2⟩ := h i hi
    exact .inr ⟨i, xs, q2.trans h1, q1.trans h2⟩
  · exact .inl (.inr h1)
/-- into a comprehension's block -/
theorem EV.block {K : Fr_} {Oc : AS} {w : Option Addr} {σ : L2.St} {H : Hp} {ρ : Rho} {S : SW} {vs : List Nat} {D : Addr} (e : EV K Oc w σ H ρ S) (hD : H D = none) :
    EV K (With Oc D) w (wipe σ vs) (upd H D (.lst [])) (rwipe ρ vs) S := by
  have inn : ∀ {i : Nat} {x : Sl}, x ≠ .un → (rwipe ρ vs)[i]? = some x → i ∉ vs ∧ ρ[i]? = some x := fun {i x} hx h => by
    by_cases hi : i ∈ vs
    · rcases rwipe_in (ρ := ρ) hi with z | z
      · rw [z] at h; cases h; exact absurd rfl hx
      · rw [z] at h; cases h
    · exact ⟨hi, by rw [← rwipe_out hi]; exact h⟩
  have oo : ∀ a, OO (With Oc D) (wipe σ vs) (rwipe ρ vs) a → OO Oc σ ρ a ∨ H a = none := by
    rintro a ((h1 | h1) | ⟨i, xs, h1, h2⟩)
    · exact .inl (.inl h1)
    · exact .inr (by rw [h1]; exact hD)
    · obtain ⟨q1, q2⟩ := inn (by intro z; cases z) h1
      exact .inl (.inr ⟨i, xs, q2, by rw [← wipe_out (σ := σ) q1]; exact h2⟩)
  have st : Step (OO Oc σ ρ) H (upd H D (.lst [])) := Step.of (Same.new hD)
  refine ⟨by rw [rwipe_len, wipe_length, e.len], fun i d h => ?_, fun i xs h => ?_, fun i j xs ys a h1 h2 h3 h4 => ?_, fun i h => ?_, fun a h => ?_, fun a h => ?_⟩
  · obtain ⟨q1, q2⟩ := inn (by intro z; cases z) h
    obtain ⟨v, hv, r⟩ := e.dat i d q2
    exact ⟨v, by rw [wipe_out q1]; exact hv, Rep.fw oo st e.Ool d v r⟩
  · obtain ⟨q1, q2⟩ := inn (by intro z; cases z) h
    obtain ⟨a, us, h1, h2, h3, h4⟩ := e.own i xs q2
    have hne : a ≠ D := fun z => by rw [z, hD] at h2; cases h2
    exact ⟨a, us, by rw [wipe_out q1]; exact h1, by rw [upd_ne hne]; exact h2, fun z => z.elim h3 hne, Reps.fw oo st e.Ool xs us h4⟩
  · obtain ⟨q1, q2⟩ := inn (by intro z; cases z) h1
    obtain ⟨q3, q4⟩ := inn (by intro z; cases z) h2
    rw [wipe_out q1] at h3
    rw [wipe_out q3] at h4
    exact e.inj i j xs ys a q2 q4 h3 h4
  · obtain ⟨q1, q2⟩ := inn (by intro z; cases z) h
    obtain ⟨a, h1, h2⟩ := e.wel i q2
    exact ⟨a, h1, by rw [wipe_out q1]; exact h2⟩
  · obtain ⟨h1, h2⟩ := e.ws a h
    exact ⟨.inl h1, by rw [upd_ne (fun z => by rw [z, hD] at h2; cases h2)]; exact h2⟩
  · by_cases hap : a = D
    · subst hap
      exact ⟨_, upd_same, trivial⟩
    · rcases h with h | h
      · obtain ⟨u, hu, mu⟩ := e.ol a h
        exact ⟨u, by rw [upd_ne hap]; exact hu, mu⟩
      · exact absurd h hap
theorem rd_lc {K : Fr_} {fi : FI} {vs is : List Nat} {fg : FG} {ft fe : FE} (his : ∀ j ∈ is, j ∈ vs) : ∀ σ H Q, rn K (fLc fi vs fg ft fe) σ H Q → tLc (ric K fi) (rg K is fg) (rt K ft) (rd K fe) vs σ H Q := by
  rintro σ H Q ⟨Oc, w, ρ, S, R, ev, hf, k⟩
  refine ⟨Oc, w, ρ, S, _, ev, hf, fun ds S1 J H1 ev1 g1 it ⟨no, hz, h1⟩ D hD => ?_⟩
  obtain ⟨G, Y, wk, hG⟩ := it.ex
  have hwD : w ≠ some D := fun z => by
    have := (ev1.ws D z).2
    rw [hD] at this
    cases this
  have same0 : ∀ j, j ∉ vs → (wipe σ vs)[j]? = σ[j]? ∧ (rwipe ρ vs)[j]? = ρ[j]? := fun j hj => ⟨wipe_out hj, rwipe_out hj⟩
  have oo2 : ∀ a, OO (With Oc D) (wipe σ vs) (rwipe ρ vs) a → OO Oc σ ρ a ∨ H1 a = none := by
    rintro a ((h1 | h1) | ⟨i, xs, h1, h2⟩)
    · exact .inl (.inl h1)
    · exact .inr (by rw [h1]; exact hD)
    · by_cases hi : i ∈ vs
      · rcases rwipe_in (ρ := ρ) hi with z | z <;> (rw [z] at h1; cases h1)
      · rw [rwipe_out hi] at h1
        rw [wipe_out hi] at h2
        exact .inl (.inr ⟨i, xs, h1, h2⟩)
  refine lc_it wk (fun i H' => ∃ acc va S2, EV K (With Oc D) w (wipe σ vs) H' (rwipe ρ vs) S2 ∧ Gr w H1 H' ∧ H' D = some (.lst va) ∧ Reps K (With (OO Oc σ ρ) D) H' acc va ∧ acc.length ≤ i ∧ lcGo fg ft fe (rwipe ρ vs) (ds.drop i) acc S2 fun out S3 => R (.list out) S3)
    ⟨[], [], S1, ev1.block hD, Gr.of (Same.new hD), upd_same, by simp only [Reps], Nat.le_refl _, h1⟩ (fun i H' _ ⟨acc, va, S2, ev2, g2, _⟩ => (hG _ H' ev2.Ool oo2 g2).1) (fun i x H' H3 hi ⟨acc, va, S2, ev2, g2, hDv, ra, hl, hgo⟩ hy => ?_) (fun H' ⟨acc, va, S2, ev2, g2, hDv, ra, hl, hgo⟩ => ?_)
  · obtain ⟨d, hd, sm, rx⟩ := (hG _ H' ev2.Ool oo2 g2).2 i x H3 hy hi
    rw [List.drop_eq_getElem_cons hi] at hgo
    rw [List.getElem?_eq_getElem hi] at hd
    cases hd
    have ev3 := ev2.same sm
    refine ⟨_, w, _, S2, _, _, ev3, rx, hgo, fun σ' ρ' ev4 tg q4 => ?_⟩
    have agree : ∀ j, j ∉ vs → σ'[j]? = σ[j]? ∧ ρ'[j]? = ρ[j]? := fun j hj => by
      obtain ⟨t1, t2⟩ := tg.at' j fun z => hj (his j z)
      obtain ⟨s1, s2⟩ := same0 j hj
      exact ⟨t1.trans s1, t2.trans s2⟩
    refine ⟨wipe_eq (by rw [tg.len, wipe_length]) fun j hj => (agree j hj).1, _, w, ρ', S2, _, ev4, q4, fun b S3 H4 ev5 g4 q5 => ?_⟩
    -- behind the turn, the slots as they were
    have back : ∀ {H5 : Hp} {S5 : SW}, EV K (With Oc D) w σ' H5 ρ' S5 → EV K (With Oc D) w (wipe σ vs) H5 (rwipe ρ vs) S5 := fun {H5 S5} e5 => by
      have inn : ∀ {j : Nat} {x : Sl}, x ≠ .un → (rwipe ρ vs)[j]? = some x → ρ'[j]? = some x ∧ (wipe σ vs)[j]? = σ'[j]? := fun {j x} hx h => by
        by_cases hj : j ∈ vs
        · rcases rwipe_in (ρ := ρ) hj with z | z
          · rw [z] at h; cases h; exact absurd rfl hx
          · rw [z] at h; cases h
        · obtain ⟨t1, t2⟩ := agree j hj
          exact ⟨by rw [t2, ← rwipe_out hj]; exact h, by rw [t1, wipe_out hj]⟩
      refine e5.less (by rw [tg.len]) (by rw [rwipe_len, e5.len, tg.len, wipe_length, ev.len]) (fun j d h => ?_) (fun j xs h => inn (by intro z; cases z) h) (fun j h => inn (by intro z; cases z) h)
      obtain ⟨t1, t2⟩ := inn (by intro z; cases z) h
      obtain ⟨v, hv, r⟩ := e5.dat j d t1
      exact ⟨v, t2.trans hv, r⟩
    have gA := (g2.trans (Gr.of sm)).trans g4
    cases b with
    | false =>
      rw [if_neg Bool.false_ne_true] at q5
      refine iteF ?_
      have stp : Step (With (OO Oc σ ρ) D) H' H4 := fun a u n h => ((Gr.of sm).trans g4) a u (fun z => n (.inl (.inl (ev1.ws a z).1))) h
      have ol' : OL (With (OO Oc σ ρ) D) H' := fun a z => ev2.Ool a (notOwn.oo no same0 a z)
      exact ⟨acc, va, S3, back ev5, gA, g4 _ _ hwD (sm _ _ hDv), Reps.step stp ol' acc va ra, Nat.le_succ_of_le hl, q5⟩
    | true =>
      rw [if_pos rfl] at q5
      refine iteT ?_
      refine ⟨_, w, ρ', S3, _, ev5, q5, fun y S5 vy H5 ev6 g5 ry q6 => ?_⟩
      have hD5 : H5 D = some (.lst va) := g5 _ _ hwD (g4 _ _ hwD (sm _ _ hDv))
      have stp : Step (With (OO Oc σ ρ) D) H' H5 := fun a u n h => (((Gr.of sm).trans g4).trans g5) a u (fun z => n (.inl (.inl (ev1.ws a z).1))) h
      have ol' : OL (With (OO Oc σ ρ) D) H' := fun a z => ev2.Ool a (notOwn.oo no same0 a z)
      have ra5 := Reps.step stp ol' acc va ra
      have ry5 : Rep K (With (OO Oc σ ρ) D) H5 y vy := Rep.less (notOwn.oo no agree) y vy ry
      have ol5 : OL (With (OO Oc σ ρ) D) H5 := fun a z => ev6.Ool a (notOwn.oo no agree a z)
      have st5 : Step (With (OO Oc σ ρ) D) H5 (upd H5 D (.lst (va ++ [vy]))) := fun a u n h => by rw [upd_ne (fun z => n (.inr z))]; exact h
      refine ⟨va, hD5, by rw [ra5.len]; omega, acc ++ [y], va ++ [vy], S5, (back ev6).mut (.inr rfl) hwD trivial, fun a u n h => ?_, upd_same, ?_, by rw [List.length_append]; simp; omega, q6⟩
      · have hne : a ≠ D := fun z => by rw [z, hD] at h; cases h
        rw [upd_ne hne]
        exact (gA.trans g5) a u n h
      · exact Reps.step st5 ol5 _ _ (ra5.app (by simp only [Reps]; exact ⟨vy, [], rfl, ry5, rfl⟩))
  · rw [List.drop_eq_nil_of_le (Nat.le_refl _)] at hgo
    exact k acc S2 D va H' (ev1.go g2 fun a h => (ev2.ws a h).2) (g1.trans g2) (free_of ev1 g1 hD) hDv ra hgo
section
variable {X : Cx} {elt tg iter : Expr} {ifs : List Expr} {scope : Scope} {own : List (Str × Nat)} {pos : Pos} {fi : FI} {fg : FG} {ft fe : FE} {is : List Nat} {c : Expr}
theorem p_nil : PTs X [] (rt X.K (fC (.bool true))) := ⟨fun pins s σ H Q I ⟨Oc, w, ρ, S, R, ev, hf, k⟩ => pts_nil.run pins s σ H Q I (k true S H ev Gr.refl hf)⟩
theorem p_one {f : FE} (h : PT X c (rt X.K f)) : PTs X [c] (rt X.K f) := pts_one h
theorem n_lc (hc : X.calm = true) (hN : X.N.Nodup) (hi : PI X tg iter (ric X.K fi)) (ok : BlkOk X.N X.env.scope scope own) (his : ∀ j ∈ is, j ∈ own.map (·.2))
    (hg : ∀ (s : Shared) (H : Hp) (C : Addr) (cl : List (Str × Addr)) (fp : List Addr), PG (X.blk s H scope (compEnvC scope cl C X.env) fp) tg (rg X.K is fg)) (ht : ∀ (s : Shared) (H : Hp) (C : Addr) (cl : List (Str × Addr)) (fp : List Addr), PTs (X.blk s H scope (compEnvC scope cl C X.env) fp) ifs (rt X.K ft))
    (he : ∀ (s : Shared) (H : Hp) (C : Addr) (cl : List (Str × Addr)) (fp : List Addr), PE (X.blk s H scope (compEnvC scope cl C X.env) fp) elt (rd X.K fe)) (hs : ∀ x, foldedSetIterable iter X.env x = pure x := by intro _; rfl) :
    PE X (.ListComp elt [⟨tg, iter, ifs, 0⟩] scope pos) (rn X.K (fLc fi (own.map (·.2)) fg ft fe)) := PE.imp (pe_lc hc hN hi ok hg ht he hs) (rd_lc his)
end
end DL

namespace DL
open PySem L2 PyProof.Rows
/-! ### statements -/
structure Out where
  nx : Rho → SW → Prop
  rt : PyData → SW → Prop
  bk : Rho → SW → Prop := fun _ _ => False
  ct : Rho → SW → Prop := fun _ _ => False
  rn : List PyData → SW → Prop := fun _ _ => False
abbrev FS := Rho → SW → Out → Prop
/-- H0: the heap at the def's entry -/
structure Fz (w : Option Addr) (H0 : Hp) (σ : L2.St) (H : Hp) (ρ : Rho) : Prop where
  gr : Gr w H0 H
  own : ∀ (i : Nat) (xs : List PyData) (a : Addr), ρ[i]? = some (Sl.own xs) → σ[i]? = some (some (.ref a)) → H0 a = none
/-- from one statement to the next -/
structure Fw (Oc : AS) (σ : L2.St) (ρ : Rho) (H : Hp) (σ' : L2.St) (ρ' : Rho) (H' : Hp) : Prop where
  keep : Step (OO Oc σ ρ) H H'
  own : ∀ a, OO Oc σ' ρ' a → OO Oc σ ρ a ∨ H a = none
theorem Fw.refl {Oc : AS} {σ : L2.St} {ρ : Rho} {H : Hp} : Fw Oc σ ρ H σ ρ H := ⟨fun _ _ _ h => h, fun _ h => .inl h⟩
theorem Fw.trans {Oc : AS} {σ σ1 σ2 : L2.St} {ρ ρ1 ρ2 : Rho} {H H1 H2 : Hp} (a : Fw Oc σ ρ H σ1 ρ1 H1) (b : Fw Oc σ1 ρ1 H1 σ2 ρ2 H2) : Fw Oc σ ρ H σ2 ρ2 H2 where
  keep := fun c u n h => b.keep c u (fun z => (a.own c z).elim n fun e => by rw [h] at e; cases e) (a.keep c u n h)
  own := fun c z => by
    rcases b.own c z with z | z
    · exact a.own c z
    · by_cases n : OO Oc σ ρ c
      · exact .inl n
      · cases e : H c with
        | none => exact .inr rfl
        | some u =>
          rw [a.keep c u n e] at z
          cases z
def Nx (K : Fr_) (Oc : AS) (w : Option Addr) (H0 : Hp) (σ : L2.St) (ρ : Rho) (H : Hp) (P : Rho → SW → Prop) (Dn : L2.St → Hp → Prop) : Prop :=
  ∀ σ' H' ρ' S', EV K Oc w σ' H' ρ' S' → Fz w H0 σ' H' ρ' → Fw Oc σ ρ H σ' ρ' H' → P ρ' S' → Dn σ' H'
/-- what a def hands back: data; or a new list (rn) -/
def Rx (K : Fr_) (Oc : AS) (w : Option Addr) (H0 : Hp) (P : PyData → SW → Prop) (Pn : List PyData → SW → Prop) (Dr : VK) : Prop := (∀ H' d v S', Gr w H0 H' → Wel w H' S' → Rep K Oc H' d v → P d S' → Dr v H') ∧
  ∀ H' ds p vs S', Gr w H0 H' → Wel w H' S' → H0 p = none → H' p = some (.lst vs) → Reps K (With Oc p) H' ds vs → Pn ds S' → Dr (.ref p) H'
def rs (K : Fr_) (g : FS) : TS := fun D σ H => ∃ Oc w H0 ρ S, ∃ B : Out, EV K Oc w σ H ρ S ∧ Fz w H0 σ H ρ ∧ g ρ S B ∧ Nx K Oc w H0 σ ρ H B.nx D.nx ∧ Rx K Oc w H0 B.rt B.rn D.rt ∧ Nx K Oc w H0 σ ρ H B.bk D.bk ∧ Nx K Oc w H0 σ ρ H B.ct D.ct
section
variable {K : Fr_} {Oc : AS} {w : Option Addr} {H0 H H' : Hp} {σ σ' : L2.St} {ρ ρ' : Rho} {S S' : SW} {P : Rho → SW → Prop} {Dn : L2.St → Hp → Prop}
theorem Nx.go (n : Nx K Oc w H0 σ ρ H P Dn) (f : Fw Oc σ ρ H σ' ρ' H') : Nx K Oc w H0 σ' ρ' H' P Dn := fun σ2 H2 ρ2 S2 ev fz fw q => n σ2 H2 ρ2 S2 ev fz (f.trans fw) q
/-- behind an expression -/
theorem Fz.go (f : Fz w H0 σ H ρ) (g : Gr w H H') : Fz w H0 σ H' ρ := ⟨f.gr.trans g, f.own⟩
theorem EV.fw (e : EV K Oc w σ H ρ S) (g : Gr w H H') : Fw Oc σ ρ H σ ρ H' := ⟨e.stepO g, fun _ h => .inl h⟩
theorem Tgt.fz {is : List Nat} (t : Tgt is σ σ' ρ ρ') (f : Fz w H0 σ H ρ) : Fz w H0 σ' H ρ' := ⟨f.gr, fun i xs a h1 h2 => by
  obtain ⟨q1, q2⟩ := t.own i xs h1
  exact f.own i xs a q1 (by rw [← q2]; exact h2)⟩
theorem Tgt.fw {is : List Nat} (t : Tgt is σ σ' ρ ρ') : Fw Oc σ ρ H σ' ρ' H := ⟨fun _ _ _ h => h, fun a h => .inl (t.oo a h)⟩
end
/-! the transformers -/
def sNext : FS := fun ρ S B => B.nx ρ S
def sSeq (g h : FS) : FS := fun ρ S B => g ρ S { B with nx := fun ρ' S' => h ρ' S' B }
def sRet (f : FE) : FS := fun ρ S B => f ρ S B.rt
def sRetN : FS := fun _ S B => B.rt .none S
def sRetV (i : Nat) : FS := fun ρ S B => match ρ[i]? with
  | some (.dat d) => B.rt d S
  | some (.own xs) => B.rt (.list xs) S
  | _ => False
def sDrop (f : FE) : FS := fun ρ S B => f ρ S fun _ S1 => B.nx ρ S1
def sSet (i : Nat) (f : FE) : FS := fun ρ S B => f ρ S fun d S1 => B.nx (ρ.set i (.dat d)) S1
def sOwn (i : Nat) (f : FE) : FS := fun ρ S B => f ρ S fun d S1 => match d with
  | .list ds => B.nx (ρ.set i (.own ds)) S1
  | _ => False
def sAsg (f : FE) (fg : FG) : FS := fun ρ S B => f ρ S fun d S1 => fg ρ d fun ρ' => B.nx ρ' S1
def sPar (i j : Nat) (g : FL) : FS := fun ρ S B => g ρ S fun ds S1 => match ds with
  | [a, b] => B.nx ((ρ.set i (.dat a)).set j (.dat b)) S1
  | _ => False
def sPar3 (i j l : Nat) (g : FL) : FS := fun ρ S B => g ρ S fun ds S1 => match ds with
  | [a, b, c] => B.nx (((ρ.set i (.dat a)).set j (.dat b)).set l (.dat c)) S1
  | _ => False
def sIf (fc : FE) (g h : FS) : FS := fun ρ S B => fc ρ S fun x S1 => asB x fun k => if k = true then g ρ S1 B else h ρ S1 B
def sBrk : FS := fun ρ S B => B.bk ρ S
def sCnt : FS := fun ρ S B => B.ct ρ S
def sNever : FS := fun _ _ _ => False
def forGo (fg : FG) (gb : FS) : List PyData → Rho → SW → Out → Prop
  | [], ρ, S, B => B.nx ρ S
  | d :: ds, ρ, S, B => fg ρ d fun ρ' => gb ρ' S { nx := fun ρ2 S2 => forGo fg gb ds ρ2 S2 B, rt := B.rt, rn := B.rn, bk := B.nx, ct := fun ρ2 S2 => forGo fg gb ds ρ2 S2 B }
def sFor (fi : FI) (fg : FG) (gb : FS) : FS := fun ρ S B => fi ρ S fun ds S1 => forGo fg gb ds ρ S1 B
def sWhile (fc : FE) (gb : FS) : FS := fun ρ S B => ∃ (I : Rho → SW → Prop) (μ : Rho → SW → Nat), I ρ S ∧ ∀ ρ S, I ρ S →
  fc ρ S fun x S1 => asB x fun k => if k = true then gb ρ S1 { nx := fun ρ2 S2 => I ρ2 S2 ∧ μ ρ2 S2 < μ ρ S, ct := fun ρ2 S2 => I ρ2 S2 ∧ μ ρ2 S2 < μ ρ S, bk := B.nx, rt := B.rt, rn := B.rn } else B.nx ρ S1
def sApp (i : Nat) (f : FE) : FS := fun ρ S B => match ρ[i]? with
  | some (.own xs) => xs.length < sizeLine ∧ f ρ S fun d S1 => B.nx (ρ.set i (.own (xs ++ [d]))) S1
  | _ => False
def sIns (i : Nat) (fa f : FE) : FS := fun ρ S B => match ρ[i]? with
  | some (.own xs) => xs.length < sizeLine ∧ fa ρ S fun x S1 => f ρ S1 fun d S2 => asI x fun k => (0 ≤ k ∧ k < 2 ^ 63) ∧ B.nx (ρ.set i (.own (xs.take k.toNat ++ [d] ++ xs.drop k.toNat))) S2
  | _ => False
def sPut (i : Nat) (fk f : FE) : FS := fun ρ S B => match ρ[i]? with
  | some (.own xs) => f ρ S fun d S1 => fk ρ S1 fun x S2 => asI x fun k => match ixN xs.length k with
    | some j => B.nx (ρ.set i (.own (xs.set j d))) S2
    | none => False
  | _ => False
section
variable {X : Cx} {st : Stmt} {rest : List Stmt} {e c : Expr} {pos : Pos} {f fc : FE} {g h : FS} {fg : FG} {is : List Nat} {x : Str}
theorem s_nil : PSs X [] (rs X.K sNext) := PSs.imp pss_nil fun D σ H ⟨Oc, w, H0, ρ, S, B, ev, fz, hf, k1, _⟩ => k1 σ H ρ S ev fz Fw.refl hf
theorem s_one (a : PS X st (rs X.K g)) : PSs X [st] (rs X.K g) := pss_one a
theorem s_cons (a : PS X st (rs X.K g)) (b : PSs X rest (rs X.K h)) : PSs X (st :: rest) (rs X.K (sSeq g h)) := PSs.imp (pss_cons a b) fun D σ H ⟨Oc, w, H0, ρ, S, B, ev, fz, hf, k1, k2, k3, k4⟩ =>
  ⟨Oc, w, H0, ρ, S, _, ev, fz, hf, fun σ' H' ρ' S' ev' fz' fw q => ⟨Oc, w, H0, ρ', S', B, ev', fz', q, k1.go fw, k2, k3.go fw, k4.go fw⟩, k2, k3, k4⟩
theorem s_pass : PS X (.Pass pos) (rs X.K sNext) := PS.imp ps_pass fun D σ H ⟨Oc, w, H0, ρ, S, B, ev, fz, hf, k1, _⟩ => k1 σ H ρ S ev fz Fw.refl hf
theorem s_brk : PS X (.Break pos) (rs X.K sBrk) := PS.imp ps_break fun D σ H ⟨Oc, w, H0, ρ, S, B, ev, fz, hf, k1, k2, k3, k4⟩ => k3 σ H ρ S ev fz Fw.refl hf
theorem s_cnt : PS X (.Continue pos) (rs X.K sCnt) := PS.imp ps_continue fun D σ H ⟨Oc, w, H0, ρ, S, B, ev, fz, hf, k1, k2, k3, k4⟩ => k4 σ H ρ S ev fz Fw.refl hf
theorem s_never : PS X st (rs X.K sNever) := PS.imp ps_never fun D σ H ⟨Oc, w, H0, ρ, S, B, ev, fz, hf, _⟩ => hf
theorem s_ret (he : PE X e (rd X.K f)) : PS X (.Return (some e) pos) (rs X.K (sRet f)) := PS.imp (ps_ret he) fun D σ H ⟨Oc, w, H0, ρ, S, B, ev, fz, hf, k1, k2, k3, k4⟩ =>
  ⟨Oc, w, ρ, S, _, ev, hf, fun d S' v H' ev' g r q => k2.1 H' d v S' (fz.gr.trans g) (fun a z => (ev'.ws a z).2) (Rep.less (fun a z => .inl z) d v r) q⟩
def sRetNew (f : FE) : FS := fun ρ S B => f ρ S fun d S1 => match d with
  | .list ds => B.rn ds S1
  | _ => False
theorem s_retNew (he : PE X e (rn X.K f)) : PS X (.Return (some e) pos) (rs X.K (sRetNew f)) := PS.imp (ps_ret he) fun D σ H ⟨Oc, w, H0, ρ, S, B, ev, fz, hf, k1, k2, k3, k4⟩ =>
  ⟨Oc, w, ρ, S, _, ev, hf, fun ds S' p vs H' ev' g n hp r q => k2.2 H' ds p vs S' (fz.gr.trans g) (fun a z => (ev'.ws a z).2) (free_of ev fz.gr n) hp (Reps.less (fun a z => z.elim (fun z => .inl (.inl z)) .inr) ds vs r) q⟩
theorem s_retN : PS X (.Return none pos) (rs X.K sRetN) := PS.imp ps_retN fun D σ H ⟨Oc, w, H0, ρ, S, B, ev, fz, hf, k1, k2, k3, k4⟩ => k2.1 H _ _ S fz.gr (fun a z => (ev.ws a z).2) (by simp only [Rep]) hf
theorem s_retV (i : Nat) {p : Pos} (hN : X.N[i]? = some x := by rfl) (hv : Vis X.env.scope x := by first | exact Or.inl rfl | exact Or.inr (Or.inl rfl) | exact Or.inr (Or.inr rfl)) (hd : (x == ("__debug__" : Str)) = false := by decide)
    (hcd : (x == ("__classdict__" : Str)) = false := by decide) : PS X (.Return (some (.Name x p)) pos) (rs X.K (sRetV i)) := PS.imp (ps_ret (pe_var (i := i) hN hv hd hcd)) fun D σ H ⟨Oc, w, H0, ρ, S, B, ev, fz, hf, k1, k2, k3, k4⟩ => by
  unfold sRetV at hf
  split at hf
  · rename_i d hd
    obtain ⟨v, hv, r⟩ := ev.dat i d hd
    exact ⟨v, hv, k2.1 H d v S fz.gr (fun a z => (ev.ws a z).2) (Rep.less (fun a z => .inl z) d v r) hf⟩
  · rename_i xs hx
    obtain ⟨a, vs, h1, h2, h3, h4⟩ := ev.own i xs hx
    refine ⟨_, h1, k2.1 H (.list xs) _ S fz.gr (fun a z => (ev.ws a z).2) ?_ hf⟩
    simp only [Rep]
    exact ⟨a, vs, rfl, .inl ⟨.inl h2, h3⟩, Reps.less (fun a z => .inl z) xs vs h4⟩
  · exact hf.elim
theorem s_drop (he : PE X e (rb X.K f)) (hs : swapsWith e none pos.line X.env = pure false := by rfl) : PS X (.Expr e pos) (rs X.K (sDrop f)) := PS.imp (ps_expr he hs) fun D σ H ⟨Oc, w, H0, ρ, S, B, ev, fz, hf, k1, k2, k3, k4⟩ =>
  ⟨Oc, w, ρ, S, _, ev, hf, fun d S' v H' ev' g r q => k1 σ H' ρ S' ev' (fz.go g) (ev.fw g) q⟩
theorem s_if {a b : List Stmt} (hc : PT X c (rt X.K fc)) (ha : PSs X a (rs X.K g)) (hb : PSs X b (rs X.K h)) : PS X (.If c a b pos) (rs X.K (sIf fc g h)) := PS.imp (ps_if hc ha hb) fun D σ H ⟨Oc, w, H0, ρ, S, B, ev, fz, hf, k1, k2, k3, k4⟩ =>
  ⟨Oc, w, ρ, S, _, ev, hf, fun b S1 H1 ev1 g1 q => by
    have fw := ev.fw g1
    cases b with
    | true =>
      rw [if_pos rfl] at q
      exact iteT ⟨Oc, w, H0, ρ, S1, B, ev1, fz.go g1, q, k1.go fw, k2, k3.go fw, k4.go fw⟩
    | false =>
      rw [if_neg Bool.false_ne_true] at q
      exact iteF ⟨Oc, w, H0, ρ, S1, B, ev1, fz.go g1, q, k1.go fw, k2, k3.go fw, k4.go fw⟩⟩
/-! stores -/
theorem tAsg_set {i : Nat} : ∀ D σ H, rs X.K (sSet i f) D σ H → tAsg (rd X.K f) (gName i) D σ H := fun D σ H ⟨Oc, w, H0, ρ, S, B, ev, fz, hf, k1, k2, k3, k4⟩ =>
  ⟨Oc, w, ρ, S, _, ev, hf, fun d S1 v H1 ev1 g1 r q => by
    obtain ⟨ev2, t⟩ := ev1.put i r
    exact k1 _ H1 _ S1 ev2 (t.fz (fz.go g1)) ((ev.fw g1).trans t.fw) q⟩
theorem s_set (i : Nat) {p : Pos} (hN : X.N.Nodup) (he : PE X e (rd X.K f)) (hi : X.N[i]? = some x := by rfl) (hx : Loc X.env.scope x := by first | exact Or.inl rfl | exact Or.inr rfl) (hs : swapsWith e (some (.Name x p)) pos.line X.env = pure false := by rfl)
    (hf : X.fn x = true ∨ X.env.scope.names.lookup x = some .local := by first | exact .inl rfl | exact .inr rfl) : PS X (.Assign [.Name x p] e pos) (rs X.K (sSet i f)) := PS.imp (ps_set (i := i) hN hi hx he hs hf) tAsg_set
/-- a new list comes to a slot: it is one's own -/
theorem EV.putOwn {K : Fr_} {Oc : AS} {w : Option Addr} {σ : L2.St} {H H1 : Hp} {ρ : Rho} {S S1 : SW} {p : Addr} {vs : List V} {ds : List PyData} (e : EV K Oc w σ H ρ S) (e1 : EV K Oc w σ H1 ρ S1) (g : Gr w H H1) (i : Nat) (n : H p = none) (hp : H1 p = some (.lst vs))
    (r : Reps K (With (OO Oc σ ρ) p) H1 ds vs) : EV K Oc w (σ.set i (some (.ref p))) H1 (ρ.set i (.own ds)) S1 ∧ ∀ a, OO Oc (σ.set i (some (.ref p))) (ρ.set i (.own ds)) a → With (OO Oc σ ρ) p a := by
  have old : ∀ {j : Nat} {y : Sl}, i ≠ j → (ρ.set i (.own ds))[j]? = some y → ρ[j]? = some y ∧ (σ.set i (some (.ref p)))[j]? = σ[j]? := fun {j y} hj h => by
    rw [List.getElem?_set_ne hj] at h
    exact ⟨h, by rw [List.getElem?_set_ne hj]⟩
  have new : ∀ {y : Sl}, (ρ.set i (.own ds))[i]? = some y → y = .own ds ∧ (σ.set i (some (.ref p)))[i]? = some (some (.ref p)) := fun {y} h => by
    by_cases hk : i < ρ.length
    · rw [List.getElem?_set_self hk] at h
      cases h
      exact ⟨rfl, by rw [List.getElem?_set_self (by rw [← e.len]; exact hk)]⟩
    · rw [List.getElem?_eq_none (by simpa using hk)] at h; cases h
  have oo : ∀ a, OO Oc (σ.set i (some (.ref p))) (ρ.set i (.own ds)) a → With (OO Oc σ ρ) p a := by
    rintro a (h | ⟨j, xs, h1, h2⟩)
    · exact .inl (.inl h)
    · by_cases hj : i = j
      · subst hj
        obtain ⟨_, q2⟩ := new h1
        rw [q2] at h2
        cases h2
        exact .inr rfl
      · obtain ⟨q1, q2⟩ := old hj h1
        exact .inl (.inr ⟨j, xs, q1, by rw [← q2]; exact h2⟩)
  have oo' : ∀ a, OO Oc (σ.set i (some (.ref p))) (ρ.set i (.own ds)) a → OO Oc σ ρ a ∨ H a = none := fun a z => (oo a z).elim .inl fun z => .inr (by rw [z]; exact n)
  have np : ¬ Oc p := fun z => by
    obtain ⟨u, hu, _⟩ := e.ol p z
    rw [hu] at n
    cases n
  refine ⟨⟨by simp [e.len], fun j d h => ?_, fun j xs h => ?_, fun j l xs ys a h1 h2 h3 h4 => ?_, fun j h => ?_, e1.ws, e1.ol⟩, oo⟩
  · by_cases hj : i = j
    · subst hj
      obtain ⟨q, _⟩ := new h
      cases q
    · obtain ⟨q1, q2⟩ := old hj h
      obtain ⟨v, hv, rv⟩ := e.dat j d q1
      exact ⟨v, by rw [q2]; exact hv, Rep.fw oo' (e.stepO g) e.Ool d v rv⟩
  · by_cases hj : i = j
    · subst hj
      obtain ⟨q1, q2⟩ := new h
      cases q1
      exact ⟨p, vs, q2, hp, np, Reps.less oo ds vs r⟩
    · obtain ⟨q1, q2⟩ := old hj h
      obtain ⟨a, us, h1, h2, h3, h4⟩ := e.own j xs q1
      exact ⟨a, us, by rw [q2]; exact h1, g a _ (e.nw h3) h2, h3, Reps.fw oo' (e.stepO g) e.Ool xs us h4⟩
  · have ne : ∀ {j : Nat} {xs : List PyData}, i ≠ j → (ρ.set i (.own ds))[j]? = some (.own xs) → (σ.set i (some (.ref p)))[j]? ≠ some (some (.ref p)) := fun {j xs} hj h z => by
      obtain ⟨q1, q2⟩ := old hj h
      obtain ⟨b, us, h1, h2, _⟩ := e.own j xs q1
      rw [q2, h1] at z
      cases z
      rw [h2] at n
      cases n
    by_cases hj : i = j
    · subst hj
      by_cases hl : i = l
      · exact hl
      · obtain ⟨_, q2⟩ := new h1
        rw [q2] at h3
        cases h3
        exact absurd h4 (ne hl h2)
    · by_cases hl : i = l
      · subst hl
        obtain ⟨_, q2⟩ := new h2
        rw [q2] at h4
        cases h4
        exact absurd h3 (ne hj h1)
      · obtain ⟨q1, q2⟩ := old hj h1
        obtain ⟨q3, q4⟩ := old hl h2
        exact e.inj j l xs ys a q1 q3 (by rw [← q2]; exact h3) (by rw [← q4]; exact h4)
  · by_cases hj : i = j
    · subst hj
      obtain ⟨q, _⟩ := new h
      cases q
    · obtain ⟨q1, q2⟩ := old hj h
      obtain ⟨a, h1, h2⟩ := e.wel j q1
      exact ⟨a, h1, by rw [q2]; exact h2⟩
theorem tAsg_own {i : Nat} : ∀ D σ H, rs X.K (sOwn i f) D σ H → tAsg (rn X.K f) (gName i) D σ H := fun D σ H ⟨Oc, w, H0, ρ, S, B, ev, fz, hf, k1, k2, k3, k4⟩ =>
  ⟨Oc, w, ρ, S, _, ev, hf, fun ds S1 p vs H1 ev1 g1 n hp r q => by
    obtain ⟨ev2, oo⟩ := EV.putOwn ev ev1 g1 i n hp r
    refine k1 _ H1 _ S1 ev2 ⟨fz.gr.trans g1, fun j xs a h1 h2 => ?_⟩ ⟨ev.stepO g1, fun a z => (oo a z).elim .inl fun z => .inr (by rw [z]; exact n)⟩ q
    by_cases hj : i = j
    · subst hj
      by_cases hk : i < σ.length
      · rw [List.getElem?_set_self hk] at h2
        cases h2
        cases e : H0 p with
        | none => rfl
        | some u =>
          by_cases hw : w = some p
          · have z := (ev.ws p hw).2
            rw [z] at n
            cases n
          · rw [fz.gr p u hw e] at n
            cases n
      · rw [List.getElem?_eq_none (by simpa using hk)] at h2; cases h2
    · rw [List.getElem?_set_ne hj] at h1 h2
      exact fz.own j xs a h1 h2⟩
theorem s_own (i : Nat) {p : Pos} (hN : X.N.Nodup) (he : PE X e (rn X.K f)) (hi : X.N[i]? = some x := by rfl) (hx : Loc X.env.scope x := by first | exact Or.inl rfl | exact Or.inr rfl) (hs : swapsWith e (some (.Name x p)) pos.line X.env = pure false := by rfl)
    (hf : X.fn x = true ∨ X.env.scope.names.lookup x = some .local := by first | exact .inl rfl | exact .inr rfl) : PS X (.Assign [.Name x p] e pos) (rs X.K (sOwn i f)) := PS.imp (ps_set (i := i) hN hi hx he hs hf) tAsg_own
theorem s_asg {tg : Expr} (he : PE X e (rd X.K f)) (hg : PG X tg (rg X.K is fg)) (hs : swapsWithSole [tg] e pos.line X.env = pure false := by rfl) (hw : swappedStores [tg] e X.env = pure none := by rfl)
    (h1 : (assignEach [tg] X.env).map (·.2) = [assign tg X.env] := by rfl) : PS X (.Assign [tg] e pos) (rs X.K (sAsg f fg)) := PS.imp (ps_asg he hg hs hw h1) fun D σ H ⟨Oc, w, H0, ρ, S, B, ev, fz, hf, k1, k2, k3, k4⟩ =>
  ⟨Oc, w, ρ, S, _, ev, hf, fun d S1 v H1 ev1 g1 r q => ⟨Oc, w, ρ, S1, d, _, ev1, r, q, fun σ' ρ' ev2 t q2 => k1 σ' H1 ρ' S1 ev2 (t.fz (fz.go g1)) ((ev.fw g1).trans t.fw) q2⟩⟩
end
end DL

namespace DL
open PySem L2 PyProof.Rows
section
variable {X : Cx} {st : Stmt} {rest : List Stmt} {e c a b : Expr} {pos : Pos} {f fc fa : FE} {g h : FS} {fg : FG} {is : List Nat} {x y z : Str} {fi : FI} {gl : FL}
theorem set2 {K : Fr_} {Oc : AS} {w : Option Addr} {H0 H : Hp} {σ : L2.St} {ρ : Rho} {S : SW} {d e : PyData} {v u : V} (ev : EV K Oc w σ H ρ S) (i j : Nat) (r1 : Rep K (OO Oc σ ρ) H d v) (r2 : Rep K (OO Oc σ ρ) H e u) :
    EV K Oc w ((σ.set i (some v)).set j (some u)) H ((ρ.set i (.dat d)).set j (.dat e)) S ∧ Tgt [i, j] σ ((σ.set i (some v)).set j (some u)) ρ ((ρ.set i (.dat d)).set j (.dat e)) := by
  obtain ⟨ev2, t2⟩ := ev.put i r1
  obtain ⟨ev3, t3⟩ := ev2.put j (Rep.less t2.oo e u r2)
  exact ⟨ev3, t2.trans t3⟩
theorem s_par (i j : Nat) {px py pt : Pos} {kt k2 pt2} (hc : X.calm = true) (hN : X.N.Nodup) (ha : PA X [a, b] (rda X.K 2 gl)) (hi : X.N[i]? = some x := by rfl) (hj : X.N[j]? = some y := by rfl) (hij : i ≠ j := by decide)
    (hx : X.env.scope.names.lookup x = some .local := by rfl) (hy : X.env.scope.names.lookup y = some .local := by rfl)
    (hw : swappedStores [.Tuple [.Name x px, .Name y py] kt pt] (.Tuple [a, b] k2 pt2) X.env = pure (some [x, y]) := by rfl)
    (hs : swapsWithSole [.Tuple [.Name x px, .Name y py] kt pt] (.Tuple [a, b] k2 pt2) pos.line X.env = pure false := by rfl) :
    PS X (.Assign [.Tuple [.Name x px, .Name y py] kt pt] (.Tuple [a, b] k2 pt2) pos) (rs X.K (sPar i j gl)) := PS.imp (ps_par hc hN hi hj hij hx hy ha hw hs) fun D σ H ⟨Oc, w, H0, ρ, S, B, ev, fz, hf, k1, k2, k3, k4⟩ =>
  ⟨Oc, w, ρ, S, _, ev, hf, fun ds S1 vs H1 ev1 g1 r hl q => by
    split at q
    · rename_i d e
      simp only [Reps] at r
      obtain ⟨v, _, rfl, r1, u, _, rfl, r2, rfl⟩ := r
      obtain ⟨ev3, t⟩ := set2 (H0 := H0) ev1 i j r1 r2
      exact ⟨v, u, rfl, k1 _ H1 _ S1 ev3 (t.fz (fz.go g1)) ((ev.fw g1).trans t.fw) q⟩
    · exact q.elim⟩
theorem s_par3 (i j l : Nat) {px py pz pt : Pos} {kt k2 pt2} (hc : X.calm = true) (hN : X.N.Nodup) (ha : PA X [a, b, c] (rda X.K 3 gl)) (hi : X.N[i]? = some x := by rfl) (hj : X.N[j]? = some y := by rfl) (hl : X.N[l]? = some z := by rfl) (hij : i ≠ j := by decide) (hil : i ≠ l := by decide) (hjl : j ≠ l := by decide)
    (hx : X.env.scope.names.lookup x = some .local := by rfl) (hy : X.env.scope.names.lookup y = some .local := by rfl) (hz : X.env.scope.names.lookup z = some .local := by rfl)
    (hw : swappedStores [.Tuple [.Name x px, .Name y py, .Name z pz] kt pt] (.Tuple [a, b, c] k2 pt2) X.env = pure (some [x, y, z]) := by rfl)
    (hs : swapsWithSole [.Tuple [.Name x px, .Name y py, .Name z pz] kt pt] (.Tuple [a, b, c] k2 pt2) pos.line X.env = pure false := by rfl) :
    PS X (.Assign [.Tuple [.Name x px, .Name y py, .Name z pz] kt pt] (.Tuple [a, b, c] k2 pt2) pos) (rs X.K (sPar3 i j l gl)) := PS.imp (ps_par3 hc hN hi hj hl hij hil hjl hx hy hz ha hw hs) fun D σ H ⟨Oc, w, H0, ρ, S, B, ev, fz, hf, k1, k2, k3, k4⟩ =>
  ⟨Oc, w, ρ, S, _, ev, hf, fun ds S1 vs H1 ev1 g1 r hl q => by
    split at q
    · rename_i d e f
      simp only [Reps] at r
      obtain ⟨v, _, rfl, r1, u, _, rfl, r2, t, _, rfl, r3, rfl⟩ := r
      obtain ⟨ev3, t3⟩ := set2 (H0 := H0) ev1 i j r1 r2
      obtain ⟨ev4, t4⟩ := ev3.put l (Rep.less t3.oo f t r3)
      have tt := t3.trans t4
      exact ⟨v, u, t, rfl, k1 _ H1 _ S1 ev4 (tt.fz (fz.go g1)) ((ev.fw g1).trans tt.fw) q⟩
    · exact q.elim⟩
/-- name = [..] on one line, the name a local -/
theorem s_setLc (i : Nat) {py : Pos} {elt tg iter : Expr} {ifs : List Expr} {scope : Scope} {own : List (Str × Nat)} {spos : Pos} {ft fe : FE} (hc : X.calm = true) (hN : X.N.Nodup) (hi : PI X tg iter (ric X.K fi)) (ok : BlkOk X.N X.env.scope scope own) (his : ∀ j ∈ is, j ∈ own.map (·.2))
    (hg : ∀ (s : Shared) (H : Hp) (C : Addr) (cl : List (Str × Addr)) (fp : List Addr), PG (X.blk s H scope (compEnvC scope cl C X.env) fp) tg (rg X.K is fg)) (ht : ∀ (s : Shared) (H : Hp) (C : Addr) (cl : List (Str × Addr)) (fp : List Addr), PTs (X.blk s H scope (compEnvC scope cl C X.env) fp) ifs (rt X.K ft))
    (he : ∀ (s : Shared) (H : Hp) (C : Addr) (cl : List (Str × Addr)) (fp : List Addr), PE (X.blk s H scope (compEnvC scope cl C X.env) fp) elt (rd X.K fe)) (hsw : swapsWith (.ListComp elt [⟨tg, iter, ifs, 0⟩] scope pos) (some (.Name y py)) spos.line X.env = pure true)
    (hy : X.N[i]? = some y := by rfl) (hyl : X.env.scope.names.lookup y = some .local := by rfl) (hs : ∀ x, foldedSetIterable iter X.env x = pure x := by intro _; rfl) :
    PS X (.Assign [.Name y py] (.ListComp elt [⟨tg, iter, ifs, 0⟩] scope pos) spos) (rs X.K (sOwn i (fLc fi (own.map (·.2)) fg ft fe))) := PS.imp (ps_setLc hc hN hy hyl hsw hi ok hg ht he hs) fun D σ H q => by
  obtain ⟨Oc, w, ρ, S, R, ev, hf, k⟩ := tAsg_own (X := X) D σ H q
  exact rd_lc (K := X.K) his σ H _ ⟨Oc, w, ρ, S, R, ev, hf, k⟩
theorem s_setLcD (i : Nat) {py : Pos} {elt tg iter : Expr} {ifs : List Expr} {scope : Scope} {own : List (Str × Nat)} {spos : Pos} {ft fe : FE} (hc : X.calm = true) (hN : X.N.Nodup) (hi : PI X tg iter (ric X.K fi)) (ok : BlkOk X.N X.env.scope scope own) (his : ∀ j ∈ is, j ∈ own.map (·.2))
    (hg : ∀ (s : Shared) (H : Hp) (C : Addr) (cl : List (Str × Addr)) (fp : List Addr), PG (X.blk s H scope (compEnvC scope cl C X.env) fp) tg (rg X.K is fg)) (ht : ∀ (s : Shared) (H : Hp) (C : Addr) (cl : List (Str × Addr)) (fp : List Addr), PTs (X.blk s H scope (compEnvC scope cl C X.env) fp) ifs (rt X.K ft))
    (he : ∀ (s : Shared) (H : Hp) (C : Addr) (cl : List (Str × Addr)) (fp : List Addr), PE (X.blk s H scope (compEnvC scope cl C X.env) fp) elt (rd X.K fe)) (hsw : swapsWith (.ListComp elt [⟨tg, iter, ifs, 0⟩] scope pos) (some (.Name y py)) spos.line X.env = pure true)
    (hy : X.N[i]? = some y := by rfl) (hyl : X.env.scope.names.lookup y = some .local := by rfl) (hs : ∀ x, foldedSetIterable iter X.env x = pure x := by intro _; rfl) :
    PS X (.Assign [.Name y py] (.ListComp elt [⟨tg, iter, ifs, 0⟩] scope pos) spos) (rs X.K (sSet i (fLc fi (own.map (·.2)) fg ft fe))) := PS.imp (ps_setLc hc hN hy hyl hsw hi ok hg ht he hs) fun D σ H q => by
  obtain ⟨Oc, w, ρ, S, R, ev, hf, k⟩ := tAsg_set (X := X) D σ H q
  refine rd_lc (K := X.K) his σ H _ ⟨Oc, w, ρ, S, R, ev, hf, fun ds S' p vs H' ev' g n hp r q => k (.list ds) S' (.ref p) H' ev' g ?_ q⟩
  simp only [Rep]
  refine ⟨p, vs, rfl, .inl ⟨.inl hp, fun z => ?_⟩, Reps.less' r⟩
  obtain ⟨u, hu, _⟩ := ev.Ool p z
  rw [hu] at n
  cases n
/-! ### loops -/
theorem s_for {tg iter : Expr} {body : List Stmt} (hp : PassesOwn (model X.prog X.w) X.A X.env X.xe) (hc : X.calm = true) (hi : PI X tg iter (rif X.K fi)) (hg : PG X tg (rg X.K is fg)) (hb : PSs X body (rs X.K g))
    (hs : ∀ x, foldedSetIterable iter X.env x = pure x := by intro _; rfl) : PS X (.For tg iter body [] pos) (rs X.K (sFor fi fg g)) := PS.imp (ps_for hp hc hi hg hb hs) fun D σ H ⟨Oc, w, H0, ρ, S, B, ev, fz, hf, k1, k2, k3, k4⟩ => by
  refine ⟨Oc, w, ρ, S, _, ev, hf, fun ds S1 J H1 ev1 g1 it hgo => ?_⟩
  obtain ⟨G, Y, wk, hG⟩ := it.ex
  refine for_it wk (fun i σ' H' => ∃ ρ' S', EV X.K Oc w σ' H' ρ' S' ∧ Fz w H0 σ' H' ρ' ∧ Fw Oc σ ρ H1 σ' ρ' H' ∧ forGo fg g (ds.drop i) ρ' S' B) ⟨ρ, S1, ev1, fz.go g1, Fw.refl, hgo⟩
    (fun i σ' H' _ ⟨ρ', S', ev', _, fw, _⟩ => (hG _ H' ev'.Ool fw.own fw.keep).1) (fun i x σ' H' H3 hlt ⟨ρ', S', ev', fz', fw, hgo'⟩ hy => ?_) (fun σ' H' ⟨ρ', S', ev', fz', fw, hgo'⟩ => ?_)
  · obtain ⟨d, hd, sm, rx⟩ := (hG _ H' ev'.Ool fw.own fw.keep).2 i x H3 hy hlt
    rw [List.drop_eq_getElem_cons hlt] at hgo'
    rw [List.getElem?_eq_getElem hlt] at hd
    cases hd
    have ev3 := ev'.same sm
    have fw3 : Fw Oc σ ρ H1 σ' ρ' H3 := fw.trans (ev'.fw (Gr.of sm))
    refine ⟨Oc, w, ρ', S', _, _, ev3, rx, hgo', fun σ2 ρ2 ev4 t q => ?_⟩
    have fz4 := t.fz (fz'.go (Gr.of sm))
    have fw4 : Fw Oc σ ρ H1 σ2 ρ2 H3 := fw3.trans t.fw
    exact ⟨Oc, w, H0, ρ2, S', _, ev4, fz4, q, fun σ5 H5 ρ5 S5 ev5 fz5 fw5 q5 => ⟨ρ5, S5, ev5, fz5, fw4.trans fw5, q5⟩, k2, fun σ5 H5 ρ5 S5 ev5 fz5 fw5 q5 => k1 σ5 H5 ρ5 S5 ev5 fz5 (((ev.fw g1).trans fw4).trans fw5) q5,
      fun σ5 H5 ρ5 S5 ev5 fz5 fw5 q5 => ⟨ρ5, S5, ev5, fz5, fw4.trans fw5, q5⟩⟩
  · rw [List.drop_eq_nil_of_le (Nat.le_refl _)] at hgo'
    exact k1 σ' H' ρ' S' ev' fz' ((ev.fw g1).trans fw) hgo'
theorem s_while {body : List Stmt} (hp : PassesOwn (model X.prog X.w) X.A X.env X.xe) (ht : PT X c (rt X.K fc)) (hb : PSs X body (rs X.K g)) : PS X (.While c body [] pos) (rs X.K (sWhile fc g)) := PS.imp (ps_while hp ht hb) fun D σ H ⟨Oc, w, H0, ρ, S, B, ev, fz, ⟨I, μ, i0, hI⟩, k1, k2, k3, k4⟩ => by
  refine ⟨fun m σ' H' => ∃ ρ' S', EV X.K Oc w σ' H' ρ' S' ∧ Fz w H0 σ' H' ρ' ∧ Fw Oc σ ρ H σ' ρ' H' ∧ I ρ' S' ∧ m = μ ρ' S', ⟨_, ρ, S, ev, fz, Fw.refl, i0, rfl⟩, ?_⟩
  rintro m σ' H' ⟨ρ', S', ev', fz', fw', i', rfl⟩
  refine ⟨Oc, w, ρ', S', _, ev', hI ρ' S' i', fun b S1 H1 ev1 g1 q => ?_⟩
  have fw1 := fw'.trans (ev'.fw g1)
  cases b with
  | true =>
    rw [if_pos rfl] at q
    refine iteT ⟨fun σ2 H2 => ∃ ρ2 S2, EV X.K Oc w σ2 H2 ρ2 S2 ∧ Fz w H0 σ2 H2 ρ2 ∧ Fw Oc σ ρ H σ2 ρ2 H2 ∧ I ρ2 S2 ∧ μ ρ2 S2 < μ ρ' S', fun σ2 H2 ⟨ρ2, S2, e2, z2, f2, i2, l2⟩ => ⟨_, l2, ρ2, S2, e2, z2, f2, i2, rfl⟩, ?_⟩
    exact ⟨Oc, w, H0, ρ', S1, _, ev1, fz'.go g1, q, fun σ5 H5 ρ5 S5 ev5 fz5 fw5 ⟨q5, l5⟩ => ⟨ρ5, S5, ev5, fz5, fw1.trans fw5, q5, l5⟩, k2, fun σ5 H5 ρ5 S5 ev5 fz5 fw5 q5 => k1 σ5 H5 ρ5 S5 ev5 fz5 (fw1.trans fw5) q5,
      fun σ5 H5 ρ5 S5 ev5 fz5 fw5 ⟨q5, l5⟩ => ⟨ρ5, S5, ev5, fz5, fw1.trans fw5, q5, l5⟩⟩
  | false =>
    rw [if_neg Bool.false_ne_true] at q
    exact iteF (k1 σ' H1 ρ' S1 ev1 (fz'.go g1) fw1 q)
/-! ### lists of one's own, changed -/
theorem EV.ownSet {K : Fr_} {Oc : AS} {w : Option Addr} {H0 : Hp} {σ : L2.St} {H : Hp} {ρ : Rho} {S : SW} {i : Nat} {xs ds : List PyData} {p : Addr} {vs : List V} (e : EV K Oc w σ H ρ S) (fz : Fz w H0 σ H ρ) (hx : ρ[i]? = some (.own xs)) (hp : σ[i]? = some (some (.ref p))) (r : Reps K (OO Oc σ ρ) H ds vs) :
    EV K Oc w σ (upd H p (.lst vs)) (ρ.set i (.own ds)) S ∧ Fz w H0 σ (upd H p (.lst vs)) (ρ.set i (.own ds)) ∧ Fw Oc σ ρ H σ (ρ.set i (.own ds)) (upd H p (.lst vs)) := by
  have hi : i < ρ.length := (List.getElem?_eq_some_iff.mp hx).1
  have op : OO Oc σ ρ p := .inr ⟨i, xs, hx, hp⟩
  obtain ⟨p', us, hp', hl, np, _⟩ := e.own i xs hx
  rw [hp] at hp'
  cases hp'
  have old : ∀ {j : Nat} {y : Sl}, i ≠ j → (ρ.set i (.own ds))[j]? = some y → ρ[j]? = some y := fun {j y} hj h => by
    rw [List.getElem?_set_ne hj] at h
    exact h
  have oo : ∀ a, OO Oc σ (ρ.set i (.own ds)) a → OO Oc σ ρ a := by
    rintro a (h | ⟨j, ys, h1, h2⟩)
    · exact .inl h
    · by_cases hj : i = j
      · subst hj
        exact .inr ⟨i, xs, hx, h2⟩
      · exact .inr ⟨j, ys, old hj h1, h2⟩
  have st : Step (OO Oc σ ρ) H (upd H p (.lst vs)) := fun a u n h => by rw [upd_ne (fun z => n (by rw [z]; exact op))]; exact h
  have hw : w ≠ some p := e.nw np
  refine ⟨⟨by simp [e.len], fun j d h => ?_, fun j ys h => ?_, fun j l ys zs a h1 h2 h3 h4 => ?_, fun j h => ?_, fun a h => ?_, fun a h => ?_⟩, ⟨fun a u n h => ?_, fun j ys a h1 h2 => ?_⟩, ⟨st, fun a z => .inl (oo a z)⟩⟩
  · by_cases hj : i = j
    · subst hj
      rw [List.getElem?_set_self hi] at h
      cases h
    · obtain ⟨v, hv, rv⟩ := e.dat j d (old hj h)
      exact ⟨v, hv, Rep.less oo d v (Rep.step st e.Ool d v rv)⟩
  · by_cases hj : i = j
    · subst hj
      rw [List.getElem?_set_self hi] at h
      cases h
      exact ⟨p, vs, hp, upd_same, np, Reps.less oo _ vs (Reps.step st e.Ool _ vs r)⟩
    · obtain ⟨a, us, h1, h2, h3, h4⟩ := e.own j ys (old hj h)
      have hne : a ≠ p := fun z => hj (e.inj i j xs ys p hx (old hj h) hp (by rw [← z]; exact h1))
      exact ⟨a, us, h1, by rw [upd_ne hne]; exact h2, h3, Reps.less oo ys us (Reps.step st e.Ool ys us h4)⟩
  · have up : ∀ {j : Nat} {ys : List PyData}, (ρ.set i (.own ds))[j]? = some (Sl.own ys) → ∃ zs, ρ[j]? = some (Sl.own zs) := fun {j ys} h => by
      by_cases hj : i = j
      · subst hj
        exact ⟨xs, hx⟩
      · exact ⟨ys, old hj h⟩
    obtain ⟨y', e1⟩ := up h1
    obtain ⟨z', e2⟩ := up h2
    exact e.inj j l y' z' a e1 e2 h3 h4
  · by_cases hj : i = j
    · subst hj
      rw [List.getElem?_set_self hi] at h
      cases h
    · exact e.wel j (old hj h)
  · obtain ⟨h1, h2⟩ := e.ws a h
    exact ⟨h1, by rw [upd_ne (fun z => hw (by rw [h, z]))]; exact h2⟩
  · obtain ⟨u, hu, mu⟩ := e.ol a h
    exact ⟨u, by rw [upd_ne (fun z => np (by rw [← z]; exact h))]; exact hu, mu⟩
  · have hne : a ≠ p := fun z => by
      have q := fz.own i xs p hx hp
      rw [z, q] at h
      cases h
    rw [upd_ne hne]
    exact fz.gr a u n h
  · by_cases hj : i = j
    · subst hj
      exact fz.own i xs a hx h2
    · exact fz.own j ys a (old hj h1) h2
theorem s_app (i : Nat) {p apos cpos : Pos} (he : PE X e (rd X.K f)) (hN : X.N[i]? = some x := by rfl) (hv : Vis X.env.scope x := by first | exact Or.inl rfl | exact Or.inr (Or.inl rfl) | exact Or.inr (Or.inr rfl)) (hd : (x == ("__debug__" : Str)) = false := by decide)
    (hcd : (x == ("__classdict__" : Str)) = false := by decide) (hbase : attributeBase (.Name x p) "append" X.env (eval (.Name x p) X.env) = eval (.Name x p) X.env := by rfl)
    (hfew : ((backTo cpos (starEach (e :: []) X.env)).all (fun x => !x.1) && (backToKw cpos (keywordEach [] X.env)).all (fun x => x.1.isSome)
      && decide ((e :: []).length + ([] : List Keyword).length + (if ([] : List Keyword).isEmpty then 0 else 1) < 30)) = true := by rfl)
    (hline : (apos.endLine == cpos.line) = true := by rfl) (hst : starEach (e :: []) X.env = (false, eval e X.env) :: starEach [] X.env := by rfl) (hpl : (backTo cpos (starEach [] X.env)).any (·.1) = false := by rfl)
    (hs : swapsWith (.Call (.Attribute (.Name x p) "append" apos) [e] [] cpos) none pos.line X.env = pure false := by rfl) :
    PS X (.Expr (.Call (.Attribute (.Name x p) "append" apos) [e] [] cpos) pos) (rs X.K (sApp i f)) :=
  PS.imp (ps_expr (pe_bm PySem.F.plainAttrs_list PySem.F.slot_list_append PySem.F.type_list_append mt_append (pe_var (i := i) hN hv hd hcd) (pa_cons he pa_nil hst) hbase hfew hline hst hpl) hs) fun D σ H ⟨Oc, w, H0, ρ, S, B, ev, fz, hf, k1, k2, k3, k4⟩ => by
    unfold sApp at hf
    split at hf
    · rename_i xs hx
      obtain ⟨hz, hf⟩ := hf
      obtain ⟨a, vs, h1, h2, h3, h4⟩ := ev.own i xs hx
      refine ⟨_, h1, .inl ⟨rfl, vs, SqL.of h2⟩, Oc, w, ρ, S, _, ev, hf, fun d S1 v H1 ev1 g1 r q => ?_⟩
      have h2' := g1 a _ (ev.nw h3) h2
      have r4 := Reps.step (ev.stepO g1) ev.Ool xs vs h4
      obtain ⟨e2, z2, f2⟩ := EV.ownSet (ds := xs ++ [d]) (vs := vs ++ [v]) ev1 (fz.go g1) hx h1 (r4.app (by simp only [Reps]; exact ⟨v, [], rfl, r, rfl⟩))
      exact ⟨a, vs, v, rfl, rfl, h2', by rw [h4.len]; exact hz, k1 _ _ _ S1 e2 z2 ((ev.fw g1).trans f2) q⟩
    · exact hf.elim
theorem s_put (i : Nat) {p spos : Pos} {ki : Expr} {fk : FE} (he : PE X e (rd X.K f)) (hk : PE X ki (rb X.K fk)) (hN : X.N[i]? = some x := by rfl) (hv : Vis X.env.scope x := by first | exact Or.inl rfl | exact Or.inr (Or.inl rfl) | exact Or.inr (Or.inr rfl)) (hd : (x == ("__debug__" : Str)) = false := by decide)
    (hcd : (x == ("__classdict__" : Str)) = false := by decide) (hsub : ∀ v, assign (.Subscript (.Name x p) ki spos) X.env v = (do
      let ov ← holding [v] (eval (.Name x p) X.env)
      let iv ← holding [v, ov] (eval ki X.env)
      standAt spos
      holding [v, ov, iv] (setItem ov iv v)
      release [v, ov, iv] []) := by intro _; rfl) (hs : swapsWithSole [.Subscript (.Name x p) ki spos] e pos.line X.env = pure false := by rfl) (hw : swappedStores [.Subscript (.Name x p) ki spos] e X.env = pure none := by rfl)
    (h1 : (assignEach [.Subscript (.Name x p) ki spos] X.env).map (·.2) = [assign (.Subscript (.Name x p) ki spos) X.env] := by rfl) : PS X (.Assign [.Subscript (.Name x p) ki spos] e pos) (rs X.K (sPut i fk f)) :=
  PS.imp (ps_asg he (pg_sub (pe_var (i := i) hN hv hd hcd) hk set_list hsub) hs hw h1) fun D σ H ⟨Oc, w, H0, ρ, S, B, ev, fz, hf, k1, k2, k3, k4⟩ => by
    unfold sPut at hf
    split at hf
    · rename_i xs hx
      refine ⟨Oc, w, ρ, S, _, ev, hf, fun d S1 v H1 ev1 g1 r q => ?_⟩
      obtain ⟨a, vs, h1, h2, h3, h4⟩ := ev1.own i xs hx
      refine ⟨_, h1, Oc, w, ρ, S1, _, ev1, q, fun kd S2 kv H2 ev2 g2 rk q2 => ?_⟩
      obtain ⟨k, rfl, q3⟩ := asI_inv q2
      split at q3
      · rename_i j hj
        have h2' := g2 a _ (ev1.nw h3) h2
        have r4 := Reps.step (ev1.stepO g2) ev1.Ool xs vs h4
        have rr := Rep.step (ev1.stepO g2) ev1.Ool d v r
        obtain ⟨e2, z2, f2⟩ := EV.ownSet (ds := xs.set j d) (vs := vs.set j v) ev2 (fz.go (g1.trans g2)) hx h1 (r4.set j rr)
        exact ⟨a, vs, k, j, rfl, rk.int, h2', by rw [h4.len]; exact hj, k1 _ _ _ S2 e2 z2 ((ev.fw (g1.trans g2)).trans f2) q3⟩
      · exact q3.elim
    · exact hf.elim
theorem s_ins (i : Nat) {p apos cpos : Pos} (ha : PE X a (rb X.K fa)) (he : PE X e (rd X.K f)) (hN : X.N[i]? = some x := by rfl) (hv : Vis X.env.scope x := by first | exact Or.inl rfl | exact Or.inr (Or.inl rfl) | exact Or.inr (Or.inr rfl)) (hd : (x == ("__debug__" : Str)) = false := by decide)
    (hcd : (x == ("__classdict__" : Str)) = false := by decide) (hbase : attributeBase (.Name x p) "insert" X.env (eval (.Name x p) X.env) = eval (.Name x p) X.env := by rfl)
    (hfew : ((backTo cpos (starEach (a :: [e]) X.env)).all (fun x => !x.1) && (backToKw cpos (keywordEach [] X.env)).all (fun x => x.1.isSome)
      && decide ((a :: [e]).length + ([] : List Keyword).length + (if ([] : List Keyword).isEmpty then 0 else 1) < 30)) = true := by rfl)
    (hline : (apos.endLine == cpos.line) = true := by rfl) (hst : starEach (a :: [e]) X.env = (false, eval a X.env) :: starEach [e] X.env := by rfl) (hst2 : starEach (e :: []) X.env = (false, eval e X.env) :: starEach [] X.env := by rfl) (hpl : (backTo cpos (starEach [e] X.env)).any (·.1) = false := by rfl)
    (hs : swapsWith (.Call (.Attribute (.Name x p) "insert" apos) [a, e] [] cpos) none pos.line X.env = pure false := by rfl) :
    PS X (.Expr (.Call (.Attribute (.Name x p) "insert" apos) [a, e] [] cpos) pos) (rs X.K (sIns i fa f)) :=
  PS.imp (ps_expr (pe_bm PySem.F.plainAttrs_list PySem.F.slot_list_insert PySem.F.type_list_insert mt_insert (pe_var (i := i) hN hv hd hcd) (pa_cons ha (pa_cons he pa_nil hst2) hst) hbase hfew hline hst hpl) hs) fun D σ H ⟨Oc, w, H0, ρ, S, B, ev, fz, hf, k1, k2, k3, k4⟩ => by
    unfold sIns at hf
    split at hf
    · rename_i xs hx
      obtain ⟨hz, hf⟩ := hf
      obtain ⟨p, vs, h1, h2, h3, h4⟩ := ev.own i xs hx
      refine ⟨_, h1, .inl ⟨rfl, vs, SqL.of h2⟩, Oc, w, ρ, S, _, ev, hf, fun kd S1 kv H1 ev1 g1 rk q => ⟨Oc, w, ρ, S1, _, ev1, q, fun d S2 v H2 ev2 g2 r q2 => ?_⟩⟩
      obtain ⟨k, rfl, ⟨k0, k63⟩, q3⟩ := asI_inv q2
      have h2' := (g1.trans g2) p _ (ev.nw h3) h2
      have r4 := Reps.step (ev.stepO (g1.trans g2)) ev.Ool xs vs h4
      obtain ⟨e2, z2, f2⟩ := EV.ownSet (ds := xs.take k.toNat ++ [d] ++ xs.drop k.toNat) (vs := vs.take k.toNat ++ [v] ++ vs.drop k.toNat) ev2 (fz.go (g1.trans g2)) hx h1 (((r4.take _).app (by simp only [Reps]; exact ⟨v, [], rfl, r, rfl⟩)).app (r4.drop _))
      exact ⟨p, vs, k, v, rfl, by rw [rk.int], h2', by rw [h4.len]; exact hz, k0, k63, k1 _ _ _ S2 e2 z2 ((ev.fw (g1.trans g2)).trans f2) q3⟩
    · exact hf.elim
end
end DL

namespace DL
open PySem L2 PyProof.Rows
/-! ### a def -/
theorem Args.at {K : Fr_} {O : AS} {w : Option Addr} {H : Hp} : ∀ {as : List Sl} {vs : List V} {i : Nat} {d : Sl}, Args K O w H as vs → as[i]? = some d → ∃ v, vs[i]? = some v ∧ ArgRep K O w H d v
  | [], _, i, d, h, e => by simp at e
  | d' :: ds, _, 0, d, h, e => by
    simp only [Args] at h
    obtain ⟨v, r, rfl, h1, h2⟩ := h
    simp at e; subst e
    exact ⟨v, rfl, h1⟩
  | d' :: ds, _, i + 1, d, h, e => by
    simp only [Args] at h
    obtain ⟨v, r, rfl, h1, h2⟩ := h
    simp at e
    obtain ⟨v', e', h'⟩ := Args.at h2 e
    exact ⟨v', by simpa using e', h'⟩
theorem start_at {N : List Str} {vs : List V} {i : Nat} {v : V} (h : vs[i]? = some v) : (L2.start N vs)[i]? = some (some v) := by
  unfold L2.start
  have hi : i < vs.length := (List.getElem?_eq_some_iff.mp h).1
  rw [List.getElem?_append_left (by rw [List.length_map]; exact hi), List.getElem?_map, h]
  rfl
/-- the slots at a def's entry -/
def ent (N : List Str) (as : List Sl) : Rho := as ++ List.replicate (N.length - as.length) Sl.un
theorem ent_at {N : List Str} {as : List Sl} {i : Nat} {d : Sl} (h : (ent N as)[i]? = some d) : d = .un ∨ as[i]? = some d := by
  unfold ent at h
  by_cases hi : i < as.length
  · rw [List.getElem?_append_left hi] at h
    exact .inr h
  · rw [List.getElem?_append_right (by omega)] at h
    left
    rw [List.getElem?_replicate] at h
    split at h
    · exact (Option.some.inj h).symm
    · cases h
theorem ent_ev {K : Fr_} {Oc : AS} {w : Option Addr} {H : Hp} {S : SW} {N : List Str} {as : List Sl} {vs : List V} (hl : as.length ≤ N.length) (r : Args K Oc w H as vs) (ol : OL Oc H) (ow : ∀ a, w = some a → Oc a) (hw : Wel w H S) :
    EV K Oc w (L2.start N vs) H (ent N as) S ∧ Fz w H (L2.start N vs) H (ent N as) := by
  have no : ∀ (i : Nat) (xs : List PyData), (ent N as)[i]? ≠ some (Sl.own xs) := fun i xs h => by
    rcases ent_at h with z | z
    · cases z
    · obtain ⟨v, _, q⟩ := Args.at r z
      exact q
  have oo : ∀ a, OO Oc (L2.start N vs) (ent N as) a → Oc a := by
    rintro a (h | ⟨i, xs, h1, h2⟩)
    · exact h
    · exact absurd h1 (no i xs)
  have lv := r.len
  refine ⟨⟨?_, fun i d h => ?_, fun i xs h => absurd h (no i xs), fun i j xs ys a h => absurd h (no i xs), fun i h => ?_, fun a h => ⟨ow a h, hw a h⟩, ol⟩, ⟨Gr.refl, fun i xs a h => absurd h (no i xs)⟩⟩
  · unfold ent L2.start
    simp only [List.length_append, List.length_replicate, List.length_map]
    omega
  · rcases ent_at h with z | z
    · cases z
    · obtain ⟨v, hv, q⟩ := Args.at r z
      exact ⟨v, start_at hv, Rep.less oo d v q⟩
  · rcases ent_at h with z | z
    · cases z
    · obtain ⟨v, hv, a, q1, q2⟩ := Args.at r z
      subst q2
      exact ⟨a, q1, start_at hv⟩
section
variable {P : Program} {W : World} {K : Fr_} {mg : Str → Option Value} {base : Heap}
/-- THE RULE for a def: its body as a term, then data alone -/
theorem dfn_ok {x qual : Str} {st : Stmt} {f : Addr} {fd : FuncData} {N ps : List Str} {k n : Nat} {C : Ct} {g : FS} (F : Fun K x qual st f fd) (S : FnScope N ps (defScope st)) (hn : ps.length = n) (hN : n ≤ N.length)
    (hbody : ∀ (cdv : Value) (A : Around) (outer : List Env) (s : Shared) (H : Hp) (E : XK), Room k (A.deeper (envOfC qual (defScope st) s.heap.objs.size f cdv)) →
      PSs (cxOf CX0 P W K mg base N qual (defScope st) f cdv A outer s H E).nox (defBody st) (rs K g))
    (hC : ∀ as S R, as.length = n → C as S R → g (ent N as) S { nx := fun _ S' => R .none S', rt := R }) : FnOk P W K mg base CX0 (k + 1) f fd ps (spC K n C) := by
  refine F.ok S (fun vs H Q E h => ?_) (fun cdv A outer s H vs Q E hr h => ⟨rs K g, hbody cdv A outer s H E hr, ?_⟩)
  · obtain ⟨Oc, w, SS, as, R, hl, r, _⟩ := h
    rw [r.len, hl, hn]
  · obtain ⟨Oc, w, SS, as, R, hl, r, ol, ow, hw, hc, k⟩ := h
    obtain ⟨ev, fz⟩ := ent_ev (N := N) (by rw [hl]; exact hN) r ol ow hw
    exact ⟨Oc, w, H, _, SS, _, ev, fz, hC as SS R hl hc, fun σ' H' ρ' S' ev' fz' fw q => k .none S' .non H' fz'.gr (fun a z => (ev'.ws a z).2) (by simp only [Rep]) q, ⟨fun H' d v S' g w' rr q => k d S' v H' g w' rr q, fun _ _ _ _ _ _ _ _ _ _ q => q.elim⟩,
      fun _ _ _ _ _ _ _ q => q.elim, fun _ _ _ _ _ _ _ q => q.elim⟩
theorem dfn {x qual : Str} {st : Stmt} {f : Addr} {fd : FuncData} {N ps : List Str} {k n : Nat} {C : Ct} {g : FS} (F : Fun K x qual st f fd) (S : FnScope N ps (defScope st)) (hm : mg x = some (.ref f)) (hb : Binds K fd ps []) (hn : ps.length = n) (hN : n ≤ N.length)
    (hbody : ∀ (cdv : Value) (A : Around) (outer : List Env) (s : Shared) (H : Hp) (E : XK), Room k (A.deeper (envOfC qual (defScope st) s.heap.objs.size f cdv)) →
      PSs (cxOf CX0 P W K mg base N qual (defScope st) f cdv A outer s H E).nox (defBody st) (rs K g))
    (hC : ∀ as S R, as.length = n → C as S R → g (ent N as) S { nx := fun _ S' => R .none S', rt := R }) : Cal P W K mg base x (k + 1) n C :=
  ⟨f, fd, ps, dfn_ok F S hn hN hbody hC, F.kp, hb, hm⟩
/-- a weaker promise -/
theorem spC_imp {n : Nat} {C C' : Ct} (h : ∀ as S R, C' as S R → C as S R) {vs : List V} {H : Hp} {Q : VK} {E : XK} (q : spC K n C' vs H Q E) : spC K n C vs H Q E := by
  obtain ⟨Oc, w, SS, as, R, hl, r, ol, ow, hw, hc, k⟩ := q
  exact ⟨Oc, w, SS, as, R, hl, r, ol, ow, hw, h as SS R hc, k⟩
theorem Cal.imp {x : Str} {k n : Nat} {C C' : Ct} (c : Cal P W K mg base x k n C) (h : ∀ as S R, C' as S R → C as S R) : Cal P W K mg base x k n C' := by
  obtain ⟨f, fd, ps, F, a, b, d⟩ := c.ex
  exact ⟨f, fd, ps, F.imp fun vs H Q E q => spC_imp h q, a, b, d⟩
theorem Cal.mono {x : Str} {k k' n : Nat} {C : Ct} (c : Cal P W K mg base x k n C) (h : k ≤ k') : Cal P W K mg base x k' n C := by
  obtain ⟨f, fd, ps, F, a, b, d⟩ := c.ex
  exact ⟨f, fd, ps, F.mono h, a, b, d⟩
/-- a promise that asks for what can't be is kept -/
theorem Cal.void {x : Str} {n : Nat} {C : Ct} {f : Addr} {fd : FuncData} {ps : List Str} (hk : PySem.W.keepIn K (.ref f) = true) (hm : mg x = some (.ref f)) (hb : Binds K fd ps []) (no : ∀ as S R, ¬ C as S R) : Cal P W K mg base x 0 n C := by
  have no' : ∀ vs H Q E, ¬ spC K n C vs H Q E := fun vs H Q E ⟨_, _, SS, as, R, _, _, _, _, _, hc, _⟩ => no as SS R hc
  exact ⟨f, fd, ps, ⟨fun vs H Q E h => absurd h (no' vs H Q E), fun A outer s H args us vs Q E _ _ _ _ h => absurd h (no' vs H Q E)⟩, hk, hb, hm⟩
end
/-! ### the well: a list of ints that the callers hold, too -/
def fWix (i : Nat) (fk : FE) : FE := fun ρ S R => match ρ[i]? with
  | some .wel => fk ρ S fun x S1 => asI x fun k => match atI S1 k with
    | some z => R (.int z) S1
    | none => False
  | _ => False
def sWput (i : Nat) (fk f : FE) : FS := fun ρ S B => match ρ[i]? with
  | some .wel => f ρ S fun d S1 => asI d fun z => fk ρ S1 fun x S2 => asI x fun k => match ixN S2.length k with
    | some j => B.nx ρ (S2.set j z)
    | none => False
  | _ => False
/-- well[k], name = a pair of ints -/
def sWdiv (i j : Nat) (fk f : FE) : FS := fun ρ S B => match ρ[i]? with
  | some .wel => i ≠ j ∧ f ρ S fun d S1 => match d with
    | .tuple [.int q, .int r] => fk ρ S1 fun x S2 => asI x fun k => match ixN S2.length k with
      | some l => B.nx (ρ.set j (.dat (.int r))) (S2.set l q)
      | none => False
    | _ => False
  | _ => False
section
variable {K : Fr_} {Oc : AS} {w : Option Addr} {H : Hp} {σ : L2.St} {ρ : Rho} {S : SW}
/-- the well has changed -/
theorem EV.wellSet {a : Addr} {S' : SW} (e : EV K Oc w σ H ρ S) (hw : w = some a) : EV K Oc w σ (upd H a (.lst (S'.map V.int))) ρ S' ∧ Gr w H (upd H a (.lst (S'.map V.int))) := by
  have g : Gr w H (upd H a (.lst (S'.map V.int))) := fun b u n h => by rw [upd_ne (fun z => n (by rw [hw, z]))]; exact h
  refine ⟨e.go g fun b h => ?_, g⟩
  rw [hw] at h
  cases h
  exact upd_same
end
section
variable {X : Cx} {e : Expr} {pos : Pos} {f fk : FE} {x y : Str} {ki : Expr}
theorem atI_map {α β : Type} (g : α → β) {xs : List α} {i : Int} {v : α} (h : atI xs i = some v) : atI (xs.map g) i = some (g v) := by
  unfold atI at h ⊢
  rw [List.length_map]
  cases e : ixN xs.length i with
  | none => rw [e] at h; cases h
  | some j =>
    rw [e] at h
    show (xs.map g)[j]? = some (g v)
    rw [List.getElem?_map, show xs[j]? = some v from h]
    rfl
theorem d_wix (i : Nat) {p : Pos} (hk : PE X ki (rb X.K fk)) (hN : X.N[i]? = some x := by rfl) (hv : Vis X.env.scope x := by first | exact Or.inl rfl | exact Or.inr (Or.inl rfl) | exact Or.inr (Or.inr rfl)) (hd : (x == ("__debug__" : Str)) = false := by decide)
    (hcd : (x == ("__classdict__" : Str)) = false := by decide) (hs : PlainIx ki := by intro _ _; rfl) : PE X (.Subscript (.Name x p) ki pos) (rd X.K (fWix i fk)) := PE.imp (pe_ix ix_list (pe_var (i := i) hN hv hd hcd) hk hs) fun σ H Q ⟨Oc, w, ρ, S, R, ev, hf, k⟩ => by
  unfold fWix at hf
  split at hf
  · rename_i hx
    obtain ⟨a, hw, hσ⟩ := ev.wel i hx
    refine ⟨_, hσ, Oc, w, ρ, S, _, ev, hf, fun kd S1 kv H1 ev1 g1 rk q => ?_⟩
    obtain ⟨j, rfl, q1⟩ := asI_inv q
    split at q1
    · rename_i z hz
      exact ⟨a, _, j, _, rfl, rk.int, SqL.of (ev1.ws a hw).2, atI_map V.int hz, k _ S1 _ H1 ev1 g1 (by simp only [Rep]) q1⟩
    · exact q1.elim
  · exact hf.elim
theorem s_wput (i : Nat) {p spos : Pos} (he : PE X e (rb X.K f)) (hk : PE X ki (rb X.K fk)) (hN : X.N[i]? = some x := by rfl) (hv : Vis X.env.scope x := by first | exact Or.inl rfl | exact Or.inr (Or.inl rfl) | exact Or.inr (Or.inr rfl)) (hd : (x == ("__debug__" : Str)) = false := by decide)
    (hcd : (x == ("__classdict__" : Str)) = false := by decide) (hsub : ∀ v, assign (.Subscript (.Name x p) ki spos) X.env v = (do
      let ov ← holding [v] (eval (.Name x p) X.env)
      let iv ← holding [v, ov] (eval ki X.env)
      standAt spos
      holding [v, ov, iv] (setItem ov iv v)
      release [v, ov, iv] []) := by intro _; rfl) (hs : swapsWithSole [.Subscript (.Name x p) ki spos] e pos.line X.env = pure false := by rfl) (hw : swappedStores [.Subscript (.Name x p) ki spos] e X.env = pure none := by rfl)
    (h1 : (assignEach [.Subscript (.Name x p) ki spos] X.env).map (·.2) = [assign (.Subscript (.Name x p) ki spos) X.env] := by rfl) : PS X (.Assign [.Subscript (.Name x p) ki spos] e pos) (rs X.K (sWput i fk f)) :=
  PS.imp (ps_asg he (pg_sub (pe_var (i := i) hN hv hd hcd) hk set_list hsub) hs hw h1) fun D σ H ⟨Oc, w, H0, ρ, S, B, ev, fz, hf, k1, k2, k3, k4⟩ => by
    unfold sWput at hf
    split at hf
    · rename_i hx
      refine ⟨Oc, w, ρ, S, _, ev, hf, fun d S1 v H1 ev1 g1 r q => ?_⟩
      obtain ⟨z, rfl, q1⟩ := asI_inv q
      have rz := r.int
      subst rz
      obtain ⟨a, hw, hσ⟩ := ev1.wel i hx
      refine ⟨_, hσ, Oc, w, ρ, S1, _, ev1, q1, fun kd S2 kv H2 ev2 g2 rk q2 => ?_⟩
      obtain ⟨k, rfl, q3⟩ := asI_inv q2
      split at q3
      · rename_i j hj
        obtain ⟨ev3, g3⟩ := ev2.wellSet (S' := S2.set j z) hw
        rw [List.map_set] at ev3 g3
        have gg := (g1.trans g2).trans g3
        exact ⟨a, _, k, j, rfl, rk.int, (ev2.ws a hw).2, by rw [List.length_map]; exact hj, k1 _ _ _ _ ev3 (fz.go gg) (ev.fw gg) q3⟩
      · exact q3.elim
    · exact hf.elim
theorem s_wdiv (i j : Nat) {p py spos pt : Pos} {kt : Nat} (hN : X.N.Nodup) (hc : X.calm = true) (he : PE X e (rb X.K f)) (hk : PE X ki (rb X.K fk)) (hi : X.N[i]? = some x := by rfl) (hj : X.N[j]? = some y := by rfl) (hv : Vis X.env.scope x := by first | exact Or.inl rfl | exact Or.inr (Or.inl rfl) | exact Or.inr (Or.inr rfl)) (hy : Loc X.env.scope y := by first | exact Or.inl rfl | exact Or.inr rfl)
    (hyf : X.fn y = true ∨ X.env.scope.names.lookup y = some .local := by first | exact .inl rfl | exact .inr rfl) (hd : (x == ("__debug__" : Str)) = false := by decide)
    (hcd : (x == ("__classdict__" : Str)) = false := by decide) (hsub : ∀ v, assign (.Subscript (.Name x p) ki spos) X.env v = (do
      let ov ← holding [v] (eval (.Name x p) X.env)
      let iv ← holding [v, ov] (eval ki X.env)
      standAt spos
      holding [v, ov, iv] (setItem ov iv v)
      release [v, ov, iv] []) := by intro _; rfl)
    (hs1 : (assignEach (.Subscript (.Name x p) ki spos :: [.Name y py]) X.env).map (·.2) = assign (.Subscript (.Name x p) ki spos) X.env :: (assignEach [.Name y py] X.env).map (·.2) := by rfl) (hs2 : (assignEach (.Name y py :: []) X.env).map (·.2) = assign (.Name y py) X.env :: (assignEach [] X.env).map (·.2) := by rfl)
    (hn : (assignEach [.Subscript (.Name x p) ki spos, .Name y py] X.env).length = 2 := by rfl) (hst : (assignEach [.Subscript (.Name x p) ki spos, .Name y py] X.env).findIdx? (·.1) = none := by rfl)
    (hs : swapsWithSole [.Tuple [.Subscript (.Name x p) ki spos, .Name y py] kt pt] e pos.line X.env = pure false := by rfl) (hw : swappedStores [.Tuple [.Subscript (.Name x p) ki spos, .Name y py] kt pt] e X.env = pure none := by rfl)
    (h1 : (assignEach [.Tuple [.Subscript (.Name x p) ki spos, .Name y py] kt pt] X.env).map (·.2) = [assign (.Tuple [.Subscript (.Name x p) ki spos, .Name y py] kt pt) X.env] := by rfl) : PS X (.Assign [.Tuple [.Subscript (.Name x p) ki spos, .Name y py] kt pt] e pos) (rs X.K (sWdiv i j fk f)) :=
  PS.imp (ps_asg he (pg_tup hc (pgs_cons (pg_sub (pe_var (i := i) hi hv hd hcd) hk set_list hsub) (pgs_cons (pg_name (i := j) hN hj hy hyf) pgs_nil hs2) hs1) hn hst) hs hw h1) fun D σ H ⟨Oc, w, H0, ρ, S, B, ev, fz, hf, k1, k2, k3, k4⟩ => by
    unfold sWdiv at hf
    split at hf
    · rename_i hx
      obtain ⟨hij, hf⟩ := hf
      refine ⟨Oc, w, ρ, S, _, ev, hf, fun d S1 v H1 ev1 g1 r q => ?_⟩
      split at q
      · rename_i qq rr
        obtain ⟨t, vs, rfl, ht, r2⟩ := r.tup
        simp only [Reps, Rep] at r2
        obtain ⟨_, _, rfl, rfl, _, _, rfl, rfl, rfl⟩ := r2
        obtain ⟨a, hw, hσ⟩ := ev1.wel i hx
        refine ⟨t, _, rfl, ht, rfl, _, _, rfl, _, hσ, Oc, w, ρ, S1, _, ev1, q, fun kd S2 kv H2 ev2 g2 rk q2 => ?_⟩
        obtain ⟨k, rfl, q3⟩ := asI_inv q2
        split at q3
        · rename_i l hl
          obtain ⟨ev3, g3⟩ := ev2.wellSet (S' := S2.set l qq) hw
          rw [List.map_set] at ev3 g3
          have gg := (g1.trans g2).trans g3
          obtain ⟨ev4, t4⟩ := ev3.put j (d := .int rr) (v := .int rr) (by simp only [Rep])
          exact ⟨a, _, k, l, rfl, rk.int, (ev2.ws a hw).2, by rw [List.length_map]; exact hl, _, _, rfl, rfl, k1 _ _ _ _ ev4 (t4.fz (fz.go gg)) ((ev.fw gg).trans t4.fw) q3⟩
        · exact q3.elim
      · exact q.elim
    · exact hf.elim
end
end DL

namespace DL
open PySem L2 PyProof.Rows
/-! ### a def that hands back a new list -/
def spN (K : Fr_) (n : Nat) (C : Ct) : Sp := fun vs H Q _ => ∃ Oc w S as R, as.length = n ∧ Args K Oc w H as vs ∧ OL Oc H ∧ (∀ a, w = some a → Oc a) ∧ Wel w H S ∧ C as S R ∧
  ∀ ds S' p us H', Gr w H H' → Wel w H' S' → H p = none → H' p = some (.lst us) → Reps K (With Oc p) H' ds us → R (.list ds) S' → Q (.ref p) H'
structure CalN (P : Program) (W : World) (K : Fr_) (mg : Str → Option Value) (base : Heap) (x : Str) (k n : Nat) (C : Ct) : Prop where
  ex : ∃ f fd ps, FnOk P W K mg base CX0 k f fd ps (spN K n C) ∧ PySem.W.keepIn K (.ref f) = true ∧ Binds K fd ps [] ∧ mg x = some (.ref f)
theorem dfnN {P : Program} {W : World} {K : Fr_} {mg : Str → Option Value} {base : Heap} {x qual : Str} {st : Stmt} {f : Addr} {fd : FuncData} {N ps : List Str} {k n : Nat} {C : Ct} {g : FS} (F : Fun K x qual st f fd) (S : FnScope N ps (defScope st)) (hm : mg x = some (.ref f)) (hb : Binds K fd ps []) (hn : ps.length = n) (hN : n ≤ N.length)
    (hbody : ∀ (cdv : Value) (A : Around) (outer : List Env) (s : Shared) (H : Hp) (E : XK), Room k (A.deeper (envOfC qual (defScope st) s.heap.objs.size f cdv)) →
      PSs (cxOf CX0 P W K mg base N qual (defScope st) f cdv A outer s H E).nox (defBody st) (rs K g))
    (hC : ∀ as S R, as.length = n → C as S R → g (ent N as) S { nx := fun _ _ => False, rt := fun _ _ => False, rn := fun ds S' => R (.list ds) S' }) : CalN P W K mg base x (k + 1) n C := by
  refine ⟨f, fd, ps, F.ok S (fun vs H Q E h => ?_) (fun cdv A outer s H vs Q E hr h => ⟨rs K g, hbody cdv A outer s H E hr, ?_⟩), F.kp, hb, hm⟩
  · obtain ⟨Oc, w, SS, as, R, hl, r, _⟩ := h
    rw [r.len, hl, hn]
  · obtain ⟨Oc, w, SS, as, R, hl, r, ol, ow, hw, hc, k⟩ := h
    obtain ⟨ev, fz⟩ := ent_ev (N := N) (by rw [hl]; exact hN) r ol ow hw
    exact ⟨Oc, w, H, _, SS, _, ev, fz, hC as SS R hl hc, fun _ _ _ _ _ _ _ q => q.elim, ⟨fun _ _ _ _ _ _ _ q => q.elim, fun H' ds p us S' g w' n hp rr q => k ds S' p us H' g w' n hp rr q⟩, fun _ _ _ _ _ _ _ q => q.elim, fun _ _ _ _ _ _ _ q => q.elim⟩
section
variable {X : Cx} {e e2 : Expr} {es : List Expr} {rest : List Stmt} {pos p spos : Pos} {f f2 : FE} {g : FR} {h : FS} {n k : Nat} {x y : Str} {C : Ct}
theorem n_call (c : CalN X.prog X.w X.K X.mg X.base x k n C) (hr : Room k X.A) (ha : PA X (e :: es) (rca X.K n g)) (hg : Gl X x := by rfl) (hdb : (x == ("__debug__" : Str)) = false := by decide)
    (he : starEach (e :: es) X.env = (false, eval e X.env) :: starEach es X.env := by rfl) (hpl : (backTo pos (starEach es X.env)).any (·.1) = false := by rfl) : PE X (.Call (.Name x p) (e :: es) [] pos) (rn X.K (fCall C g)) := by
  obtain ⟨f, fd, ps, F, hk, hb, hm⟩ := c.ex
  exact PE.imp (pe_call F hr hg hm hk hb .nil pass0 ha hdb he hpl) fun σ H Q ⟨Oc, w, ρ, S, R, ev, hf, k⟩ =>
    ⟨Oc, w, ρ, S, _, ev, hf, fun as S1 vs H1 ev1 g1 r1 hl h1 => ⟨OO Oc σ ρ, w, S1, as, _, hl, by rw [List.append_nil]; exact r1, ev1.Ool, fun a z => .inl (ev1.ws a z).1, fun a z => (ev1.ws a z).2, h1,
      fun ds S' p us H' g w' n hp r q => k ds S' p us H' (ev1.go g w') (g1.trans g) (free_of ev1 g1 n) hp r q⟩⟩
/-- f(e), e a new list of ints: f's well -/
def fCallW (C : Ct) (f : FE) : FE := fun ρ S R => f ρ S fun d S1 => ∃ ns : List Int, d = .list (ns.map .int) ∧ C [.wel] ns fun d' _ => R d' S1
theorem d_callW (c : Cal X.prog X.w X.K X.mg X.base x k 1 C) (hr : Room k X.A) (ha : PE X e (rn X.K f)) (hg : Gl X x := by rfl) (hdb : (x == ("__debug__" : Str)) = false := by decide)
    (he : starEach (e :: []) X.env = (false, eval e X.env) :: starEach [] X.env := by rfl) (hpl : (backTo pos (starEach [] X.env)).any (·.1) = false := by rfl) : PE X (.Call (.Name x p) [e] [] pos) (rd X.K (fCallW C f)) := by
  obtain ⟨f, fd, ps, F, hk, hb, hm⟩ := c.ex
  refine PE.imp (pe_call F hr hg hm hk hb .nil pass0 (pa_cons ha pa_nil he) hdb he hpl) fun σ H Q ⟨Oc, w, ρ, S, R, ev, hf, k⟩ =>
    ⟨Oc, w, ρ, S, _, ev, hf, fun ds S1 p vs H1 ev1 g1 n hp r ⟨ns, e, hc⟩ => ?_⟩
  cases e
  have ev' := r.ints
  subst ev'
  have ol : OL (With (OO Oc σ ρ) p) H1 := fun a z => z.elim (ev1.Ool a) fun z => by rw [z]; exact ⟨_, hp, trivial⟩
  refine ⟨With (OO Oc σ ρ) p, some p, ns, [.wel], _, rfl, by simp only [Args, ArgRep]; exact ⟨_, [], rfl, ⟨p, rfl, rfl⟩, rfl⟩, ol, fun a z => by cases z; exact .inr rfl, fun a z => by cases z; exact hp, hc, fun d S' v H' g w' r q => ?_⟩
  have np : ∀ a u, H a = some u → some p ≠ some a := fun a u h z => by cases z; rw [n] at h; cases h
  have gg : Gr w H H' := fun a u na h => g a u (np a u h) (g1 a u na h)
  exact k d S1 v H' (ev.go gg fun a z => g a _ (np a _ (ev.ws a z).2) (ev1.ws a z).2) gg (Rep.less (fun a z => .inl z) d v r) q
/-- f(e, e2) likewise -/
def fCallW2 (C : Ct) (f f2 : FE) : FE := fun ρ S R => f ρ S fun d S1 => f2 ρ S1 fun d2 S2 => ∃ ns : List Int, d = .list (ns.map .int) ∧ C [.wel, .dat d2] ns fun d' _ => R d' S2
end
section
variable {X : Cx} {e : Expr} {rest : List Stmt} {pos p : Pos} {f : FE} {h : FS} {x : Str}
/-- x = e, e a new list of ints: from here on the well; the rest hands back -/
def sWell (i : Nat) (f : FE) (h : FS) : FS := fun ρ S B => (∀ (j : Nat) (d : Sl), ρ[j]? = some d → d = .un ∨ ∃ e, d = .dat e) ∧ f ρ S fun d S1 => ∃ ns : List Int, d = .list (ns.map .int) ∧
  h (ρ.set i .wel) ns { nx := fun _ _ => False, rt := fun d _ => B.rt d S1 }
theorem s_well (i : Nat) (hN : X.N.Nodup) (he : PE X e (rn X.K f)) (hrest : PSs X rest (rs X.K h)) (hi : X.N[i]? = some x := by rfl) (hx : Loc X.env.scope x := by first | exact Or.inl rfl | exact Or.inr rfl) (hs : swapsWith e (some (.Name x p)) pos.line X.env = pure false := by rfl)
    (hf : X.fn x = true ∨ X.env.scope.names.lookup x = some .local := by first | exact .inl rfl | exact .inr rfl) : PSs X (.Assign [.Name x p] e pos :: rest) (rs X.K (sWell i f h)) := PSs.imp (pss_cons (ps_set (i := i) hN hi hx he hs hf) hrest) fun D σ H ⟨Oc, w, H0, ρ, S, B, ev, fz, ⟨no, hf⟩, k1, k2, k3, k4⟩ => by
  refine ⟨Oc, w, ρ, S, _, ev, hf, fun ds S1 p vs H1 ev1 g1 n hp r ⟨ns, e, hc⟩ => ?_⟩
  cases e
  have evs := r.ints
  subst evs
  have old : ∀ {j : Nat} {d : Sl}, (ρ.set i .wel)[j]? = some d → (d = .wel ∧ (σ.set i (some (.ref p)))[j]? = some (some (.ref p))) ∨ d = .un ∨ ∃ e, d = .dat e ∧ ρ[j]? = some (.dat e) ∧ (σ.set i (some (.ref p)))[j]? = σ[j]? := fun {j d} h => by
    by_cases hj : i = j
    · subst hj
      by_cases hk : i < ρ.length
      · rw [List.getElem?_set_self hk] at h
        cases h
        exact .inl ⟨rfl, by rw [List.getElem?_set_self (by rw [← ev.len]; exact hk)]⟩
      · rw [List.getElem?_eq_none (by simpa using hk)] at h; cases h
    · rw [List.getElem?_set_ne hj] at h ⊢
      rcases no j d h with z | ⟨e, z⟩
      · exact .inr (.inl z)
      · subst z
        exact .inr (.inr ⟨e, rfl, h, rfl⟩)
  have noOwn : ∀ (j : Nat) (xs : List PyData), (ρ.set i .wel)[j]? ≠ some (Sl.own xs) := fun j xs h => by
    rcases old h with ⟨z, _⟩ | z | ⟨e, z, _⟩ <;> cases z
  have oo : ∀ a, OO (With Oc p) (σ.set i (some (.ref p))) (ρ.set i .wel) a → OO Oc σ ρ a ∨ H a = none := by
    rintro a ((z | z) | ⟨j, xs, h1, _⟩)
    · exact .inl (.inl z)
    · exact .inr (by rw [z]; exact n)
    · exact absurd h1 (noOwn j xs)
  have evN : EV X.K (With Oc p) (some p) (σ.set i (some (.ref p))) H1 (ρ.set i .wel) ns := by
    refine ⟨by simp [ev.len], fun j d h => ?_, fun j xs h => absurd h (noOwn j xs), fun j l xs ys a h => absurd h (noOwn j xs), fun j h => ?_, fun a z => ?_, fun a z => ?_⟩
    · rcases old h with ⟨z, _⟩ | z | ⟨e, z, q1, q2⟩
      · cases z
      · cases z
      · cases z
        obtain ⟨v, hv, rv⟩ := ev.dat j d q1
        exact ⟨v, by rw [q2]; exact hv, Rep.fw oo (ev.stepO g1) ev.Ool d v rv⟩
    · rcases old h with ⟨_, q⟩ | z | ⟨e, z, _⟩
      · exact ⟨p, rfl, q⟩
      · cases z
      · cases z
    · cases z
      exact ⟨.inr rfl, hp⟩
    · rcases z with z | z
      · exact ev1.ol a z
      · rw [z]; exact ⟨_, hp, trivial⟩
  have p0 : H0 p = none := by
    cases e : H0 p with
    | none => rfl
    | some u =>
      by_cases hw : w = some p
      · have z := (ev.ws p hw).2
        rw [z] at n
        cases n
      · rw [fz.gr p u hw e] at n
        cases n
  refine ⟨With Oc p, some p, H1, _, ns, _, evN, ⟨Gr.refl, fun j xs a h => absurd h (noOwn j xs)⟩, hc, fun _ _ _ _ _ _ _ q => q.elim, ⟨fun H' d v S' g w' r q => ?_, fun _ _ _ _ _ _ _ _ _ _ q => q.elim⟩, fun _ _ _ _ _ _ _ q => q.elim, fun _ _ _ _ _ _ _ q => q.elim⟩
  have np : ∀ a u, H0 a = some u → some p ≠ some a := fun a u h z => by cases z; rw [p0] at h; cases h
  have npH : ∀ a u, H a = some u → some p ≠ some a := fun a u h z => by cases z; rw [n] at h; cases h
  exact k2.1 H' d v S1 (fun a u na h => g a u (np a u h) ((fz.gr.trans g1) a u na h)) (fun a z => g a _ (npH a _ (ev.ws a z).2) (ev1.ws a z).2) (Rep.less (fun a z => .inl z) d v r) q
end
end DL

namespace DL
open PySem L2 PyProof.Rows
/-! ### the operators as the printed terms name them -/
section
variable {X : Cx} {e a b c : Expr} {pos p : Pos} {f fa fb fc : FE} {k : Nat}
theorem isi_tuple : isiAll "tuple" = true := by decide +kernel
theorem isi_str : isiAll "str" = true := by decide +kernel
theorem isi_int : isiAll "int" = true := by decide +kernel
theorem isi_bool : isiAll "bool" = true := by decide +kernel
theorem isi_list : isiAll "list" = true := by decide +kernel
/-- order: ints, texts -/
def rLtA : R2 := fun x y H Q => rI0 (fun i j => .bl (decide (i < j))) x y H Q ∨ ∃ i j, x = .str i ∧ y = .str j ∧ Q (.bl (decide (i.cps.toList < j.cps.toList))) H
theorem op_ltA : OpR X (compareOp .Lt) rLtA := op_lt.or op_lt_str
def oLt : O2 := fun x y R => match x, y with
  | .int i, .int j => R (.bool (decide (i < j)))
  | .str i, .str j => R (.bool (decide (i.cps.toList < j.cps.toList)))
  | _, _ => False
theorem sLt {K : Fr_} : OpS K rLtA oLt := ⟨fun {O w H x y vx vy R Q} ol rx ry h k => by
  unfold oLt at h
  split at h
  · exact .inl ⟨_, _, rx.int, ry.int, k _ _ H (Same.refl H) (by simp only [Rep]) h⟩
  · exact .inr ⟨_, _, rx.str, ry.str, k _ _ H (Same.refl H) (by simp only [Rep]) h⟩
  · exact h.elim⟩
abbrev oLe : O2 := oI fun i j => .bool (decide (i ≤ j))
abbrev oGt : O2 := oI fun i j => .bool (decide (j < i))
abbrev oGe : O2 := oI fun i j => .bool (decide (j ≤ i))
theorem op_eqH (hr : Room k X.A) : OpR X (compareOp .Eq) (rEqAll X.K) := op_eqAll hr
theorem op_neH (hr : Room k X.A) : OpR X (compareOp .NotEq) (rNeAll X.K) := op_neAll hr
def isNonD : PyData → Bool
  | .none => true
  | _ => false
/-- is None -/
def oIsN : O2 := fun x y R => match y with
  | .none => R (.bool (isNonD x))
  | _ => False
def oNotN : O2 := fun x y R => match y with
  | .none => R (.bool (!isNonD x))
  | _ => False
theorem RepB.isN {K : Fr_} {O : AS} {w : Option Addr} {H : Hp} {d : PyData} {v : V} (h : RepB K O w H d v) : decide (v = .non) = isNonD d := by
  cases d with
  | none => rw [h.non]; rfl
  | bool b => rw [h.bool]; rfl
  | int b => rw [h.int]; rfl
  | str b => rw [h.str]; rfl
  | list ds =>
    obtain ⟨a, vs, rfl, _⟩ := h.lst
    rfl
  | tuple ds =>
    obtain ⟨a, vs, rfl, _⟩ := h.tup
    rfl
  | dict kvs =>
    rcases h with h | ⟨a, vs, ds, e, _⟩
    · simp only [Rep] at h
      obtain ⟨a, ps, rfl, _⟩ := h
      rfl
    · cases e
theorem sIsN {K : Fr_} : OpS K (fun x y H Q => y = .non ∧ Q (.bl (decide (x = .non))) H) oIsN := ⟨fun {O w H x y vx vy R Q} ol rx ry h k => by
  unfold oIsN at h
  split at h
  · exact ⟨ry.non, k _ _ H (Same.refl H) (by rw [rx.isN]; simp only [Rep]) h⟩
  · exact h.elim⟩
theorem sNotN {K : Fr_} : OpS K (fun x y H Q => y = .non ∧ Q (.bl (!decide (x = .non))) H) oNotN := ⟨fun {O w H x y vx vy R Q} ol rx ry h k => by
  unfold oNotN at h
  split at h
  · refine ⟨ry.non, k _ _ H (Same.refl H) ?_ h⟩
    rw [rx.isN]
    simp only [Rep]
  · exact h.elim⟩
/-- repr of a truth, of None, of an int -/
def rReprS : List V → Hp → VK → Prop := fun xs H Q => (∃ b, xs = [.bl b] ∧ Q (.str (PyData.bool b).shown) H) ∨ (xs = [.non] ∧ Q (.str PyData.none.shown) H) ∨ ∃ i, xs = [.int i] ∧ i.natAbs.log2 < 1920 ∧ Q (.str (toString i)) H
theorem call_reprD : CallR X (.builtin "repr") rReprS := by
  rintro pins s σ H xs us Q I r (⟨b, rfl, q⟩ | ⟨rfl, q⟩ | ⟨i, rfl, hz, q⟩)
  · obtain ⟨u, rfl, ru⟩ := vals1 r
    cases ru
    refine PySem.P.repr_of_bool ⟨.str _, H, I.tok _, ⟨_, rfl⟩, ?_⟩
    simpa only [PyData.shown] using q
  · obtain ⟨u, rfl, ru⟩ := vals1 r
    cases ru
    refine PySem.P.repr_of_none ⟨.str _, H, I.tok _, ⟨_, rfl⟩, ?_⟩
    simpa only [PyData.shown] using q
  · obtain ⟨u, rfl, t, rfl⟩ := vals1 r
    exact PySem.P.repr_of_int hz ⟨.str _, H, I.tok _, ⟨_, rfl⟩, q⟩
def oRepr : O1 := fun x R => match x with
  | .bool b => R (.str (PyData.bool b).shown)
  | .none => R (.str PyData.none.shown)
  | .int i => i.natAbs.log2 < 1920 ∧ R (.str (toString i))
  | _ => False
theorem sRepr {K : Fr_} : UnS K (t1 rReprS) oRepr := ⟨fun {O w H x vx R Q} ol rx h k => by
  unfold oRepr at h
  split at h
  · have e := rx.bool
    subst e
    exact .inl ⟨_, rfl, k _ _ H (Same.refl H) (by simp only [Rep]) h⟩
  · have e := rx.non
    subst e
    exact .inr (.inl ⟨rfl, k _ _ H (Same.refl H) (by simp only [Rep]) h⟩)
  · have e := rx.int
    subst e
    exact .inr (.inr ⟨_, rfl, h.1, k _ _ H (Same.refl H) (by simp only [Rep]) h.2⟩)
  · exact h.elim⟩
def pmId {α : Type} (l : List α) : List α := l
end
end DL

namespace DL
open PySem L2 PyProof.Rows
/-! ### how transformers are reduced -/
theorem asB_bool (b : Bool) (k : Bool → Prop) : asB (.bool b) k = k b := rfl
theorem asI_int (i : Int) (k : Int → Prop) : asI (.int i) k = k i := rfl
theorem if_tt {A B : Prop} : (if true = true then A else B) = A := if_pos rfl
theorem if_ff {A B : Prop} : (if false = true then A else B) = B := if_neg Bool.false_ne_true
def isTup : PyData → Bool
  | .tuple _ => true
  | _ => false
def isStr : PyData → Bool
  | .str _ => true
  | _ => false
def isBoo : PyData → Bool
  | .bool _ => true
  | _ => false
def isNum : PyData → Bool
  | .int _ => true
  | .bool _ => true
  | _ => false
def isLst : PyData → Bool
  | .list _ => true
  | _ => false
theorem isi_tup (d : PyData) : isiD "tuple" d = isTup d := by cases d <;> simp only [isiD, tyD, isTup] <;> decide +kernel
theorem isi_strD (d : PyData) : isiD "str" d = isStr d := by cases d <;> simp only [isiD, tyD, isStr] <;> decide +kernel
theorem isi_intD (d : PyData) : isiD "int" d = isNum d := by cases d <;> simp only [isiD, tyD, isNum] <;> decide +kernel
theorem isi_boolD (d : PyData) : isiD "bool" d = isBoo d := by cases d <;> simp only [isiD, tyD, isBoo] <;> decide +kernel
theorem isi_listD (d : PyData) : isiD "list" d = isLst d := by cases d <;> simp only [isiD, tyD, isLst] <;> decide +kernel
theorem atI_zero {α : Type} (x : α) (xs : List α) : atI (x :: xs) (0 : Int) = some x := atI_nat (j := 0) rfl
theorem atI_one {α : Type} (x y : α) (xs : List α) : atI (x :: y :: xs) (1 : Int) = some y := atI_nat (j := 1) rfl
theorem atI_two {α : Type} (x y z : α) (xs : List α) : atI (x :: y :: z :: xs) (2 : Int) = some z := atI_nat (j := 2) rfl
theorem atI_three {α : Type} (x y z u : α) (xs : List α) : atI (x :: y :: z :: u :: xs) (3 : Int) = some u := atI_nat (j := 3) rfl
theorem atI_four {α : Type} (x y z u v : α) (xs : List α) : atI (x :: y :: z :: u :: v :: xs) (4 : Int) = some v := atI_nat (j := 4) rfl
theorem oIx_tup (ds : List PyData) (i : Int) (R : PyData → Prop) : oIx (.tuple ds) (.int i) R = match atI ds i with | some d => R d | none => False := rfl
theorem oIx_lst (ds : List PyData) (i : Int) (R : PyData → Prop) : oIx (.list ds) (.int i) R = match atI ds i with | some d => R d | none => False := rfl
theorem oEq_int (a b : Int) (R : PyData → Prop) : oEq (.int a) (.int b) R = R (.bool (decide (a = b))) := rfl
theorem oEq_str (a b : Str) (R : PyData → Prop) : oEq (.str a) (.str b) R = R (.bool (decide (a = b))) := rfl
theorem oEq_bool (a b : Bool) (R : PyData → Prop) : oEq (.bool a) (.bool b) R = R (.bool (decide (a = b))) := rfl
theorem oEq_nil (ds : List PyData) (R : PyData → Prop) : oEq (.tuple ds) (.tuple []) R = R (.bool ds.isEmpty) := rfl
theorem oNe_int (a b : Int) (R : PyData → Prop) : oNe (.int a) (.int b) R = R (.bool (!decide (a = b))) := rfl
theorem oNe_str (a b : Str) (R : PyData → Prop) : oNe (.str a) (.str b) R = R (.bool (!decide (a = b))) := rfl
theorem oNe_bool (a b : Bool) (R : PyData → Prop) : oNe (.bool a) (.bool b) R = R (.bool (!decide (a = b))) := rfl
theorem oLen_tup (ds : List PyData) (R : PyData → Prop) : oLen (.tuple ds) R = R (.int ds.length) := rfl
theorem oLen_lst (ds : List PyData) (R : PyData → Prop) : oLen (.list ds) R = R (.int ds.length) := rfl
theorem oI_int (g : Int → Int → PyData) (i j : Int) (R : PyData → Prop) : oI g (.int i) (.int j) R = R (g i j) := rfl
theorem oIC_int (C : Int → Int → Prop) (g : Int → Int → PyData) (i j : Int) (R : PyData → Prop) : oIC C g (.int i) (.int j) R = (C i j ∧ R (g i j)) := rfl
theorem oAdd_int (i j : Int) (R : PyData → Prop) : oAdd (.int i) (.int j) R = R (.int (i + j)) := rfl
theorem oAdd_tup (a b : List PyData) (R : PyData → Prop) : oAdd (.tuple a) (.tuple b) R = (a.length + b.length ≤ sizeLine ∧ R (.tuple (a ++ b))) := rfl
theorem oAdd_lst (a b : List PyData) (R : PyData → Prop) : oAdd (.list a) (.list b) R = (a.length + b.length ≤ sizeLine ∧ R (.list (a ++ b))) := rfl
theorem oAdd_str (a b : Str) (R : PyData → Prop) : oAdd (.str a) (.str b) R = (a.length + b.length ≤ sizeLine ∧ R (.str (a ++ b))) := rfl
theorem oLt_int (i j : Int) (R : PyData → Prop) : oLt (.int i) (.int j) R = R (.bool (decide (i < j))) := rfl
theorem oInt_int (i : Int) (R : PyData → Prop) : oInt (.int i) R = R (.int i) := rfl
theorem oInt_bool (b : Bool) (R : PyData → Prop) : oInt (.bool b) R = R (.int (if b then 1 else 0)) := rfl
theorem oIn_tup (neg : Bool) (x : PyData) (ds : List PyData) (R : PyData → Prop) : oIn neg x (.tuple ds) R = (flatD x = true ∧ ds.all flatD = true ∧ R (.bool (if neg then !(ds.any fun z => PyData.eqv z x) else ds.any fun z => PyData.eqv z x))) := rfl
theorem oIn_lst (neg : Bool) (x : PyData) (ds : List PyData) (R : PyData → Prop) : oIn neg x (.list ds) R = (flatD x = true ∧ ds.all flatD = true ∧ R (.bool (if neg then !(ds.any fun z => PyData.eqv z x) else ds.any fun z => PyData.eqv z x))) := rfl
theorem oSl_tup (ds : List PyData) (lo hi : Option Int) (R : PyData → Prop) : oSl (.tuple ds) lo hi R = R (.tuple (cutD ds lo hi)) := rfl
theorem oSl_lst (ds : List PyData) (lo hi : Option Int) (R : PyData → Prop) : oSl (.list ds) lo hi R = R (.list (cutD ds lo hi)) := rfl
theorem cut_from1 (d : PyData) (ds : List PyData) : cutD (d :: ds) (some 1) none = ds := by
  unfold cutD
  have e : HT.sIx (d :: ds).length 0 (some 1) = 1 := by
    have := HT.sIx_nat (d :: ds).length 0 1
    simp only [List.length_cons] at this ⊢
    rw [show (1 : Int) = ((1 : Nat) : Int) from rfl, this]
    omega
  rw [e, HT.sIx_none]
  simp
theorem cut_to (ds : List PyData) (k : Nat) : cutD ds none (some (k : Int)) = ds.take k := by
  unfold cutD
  rw [HT.sIx_none, HT.sIx_nat, List.drop_zero, Nat.sub_zero]
  by_cases h : k ≤ ds.length
  · rw [Nat.min_eq_left h]
  · rw [Nat.min_eq_right (by omega), List.take_of_length_le (Nat.le_refl _), List.take_of_length_le (by omega)]
theorem cut_from (ds : List PyData) (k : Nat) : cutD ds (some (k : Int)) none = ds.drop k := by
  unfold cutD
  rw [HT.sIx_none, HT.sIx_nat]
  by_cases h : k ≤ ds.length
  · rw [Nat.min_eq_left h, List.take_of_length_le (by rw [List.length_drop]; omega)]
  · rw [Nat.min_eq_right (by omega), List.drop_eq_nil_of_le (Nat.le_refl _), List.drop_eq_nil_of_le (by omega)]
    simp
/-- a comprehension without draws: its elements one by one -/
theorem lcGo_map {i : Nat} {fe : FE} {ρ : Rho} {S : SW} {g : PyData → PyData} {T : List PyData → SW → Prop} : ∀ {ds acc : List PyData}, (∀ d ∈ ds, ∀ R : PyData → SW → Prop, R (g d) S → fe (ρ.set i (.dat d)) S R) → T (acc ++ ds.map g) S →
    lcGo (gNm i) (fC (.bool true)) fe ρ ds acc S T
  | [], acc, _, h => by simpa [lcGo] using h
  | d :: ds, acc, he, h => by
    simp only [lcGo, gNm, fC, asB_bool, if_tt]
    refine he d (by simp) _ ?_
    refine lcGo_map (fun d' hd' => he d' (by simp [hd'])) ?_
    simpa using h
theorem map_bool (f : PyData → Bool) (ds : List PyData) : (ds.map fun d => PyData.bool (f d)) = (ds.map f).map PyData.bool := by rw [List.map_map]; rfl
theorem map_int (f : PyData → Int) (ds : List PyData) : (ds.map fun d => PyData.int (f d)) = (ds.map f).map PyData.int := by rw [List.map_map]; rfl
end DL

namespace DL
open PySem L2 PyProof.Rows
/-! ### the end: the defs as the top leaves them, the constants, the script -/
structure Has (K : Fr_) (mg : Str → Option Value) (x : Str) (st : Stmt) (ps : List Str) : Prop where
  ex : ∃ f fd, Fun K x x st f fd ∧ mg x = some (.ref f) ∧ Binds K fd ps [] ∧ (∀ (s : Shared) (ws : List Value), ws.length = ps.length → BindsTo s fd ⟨ws, []⟩ (ps.zip ws)) ∧
    ∀ (s : Shared) (ws : List Value), ws.length = ps.length → BindsTo s fd ⟨[], ps.zip ws⟩ (ps.zip ws)
section
variable {K : Fr_} {h : Heap} {mg : Str → Option Value} {x : Str} {st : Stmt} {ps : List Str}
theorem Has.mk' {f : Addr} {oc : Value} {od an : Option Addr} {osl : Array (Option Value)} {kV doc pm cdv ct : Value} (X : K.In h) (G : h.Ns mainGlobals mg)
    (hb : ∀ (kV doc pm : Value) (an : Option Addr) (cdv ct : Value) (us : List Value), us.length = ps.length → bindArgs (PySem.W.fnOf x x (defArgs st) (defBody st) (defScope st) .none kV doc pm an cdv ct) ⟨us, []⟩ = pure (ps.zip us))
    (hk : ∀ (kV doc pm : Value) (an : Option Addr) (cdv ct : Value) (us : List Value), us.length = ps.length → bindArgs (PySem.W.fnOf x x (defArgs st) (defBody st) (defScope st) .none kV doc pm an cdv ct) ⟨[], ps.zip us⟩ = pure (ps.zip us))
    (a : PySem.W.nsIn K mainGlobals x = some (some (.ref f))) (l : K.lookup f = some ⟨oc, od, .func (PySem.W.fnOf x x (defArgs st) (defBody st) (defScope st) .none kV doc pm an cdv ct), osl⟩) (c : PySem.W.codeIn K cdv x = true) (k : PySem.W.keepIn K (.ref f) = true) : Has K mg x st ps :=
  ⟨f, _, fun_mk l c k, PySem.W.mg_of X G a, (fun_mk l c k).binds hb, fun _ ws e => .of_eq (hb _ _ _ _ _ _ ws e), fun _ ws e => .of_eq (hk _ _ _ _ _ _ ws e)⟩
theorem glob_int {i : Int} {t : Nat} (X : K.In h) (G : h.Ns mainGlobals mg) (a : PySem.W.nsIn K mainGlobals x = some (some (.int i t))) : GlobD K mg x (.int i) :=
  ⟨.int i, _, PySem.W.mg_of X G a, ⟨t, rfl⟩, fun _ _ => by simp only [Rep]⟩
/-- a value of the module that shows data whatever the heap -/
def Fix (K : Fr_) (d : PyData) (u : Value) : Prop := ∃ v, RelV v u ∧ ∀ O H, Rep K O H d v
def Fixs (K : Fr_) (ds : List PyData) (us : List Value) : Prop := ∃ vs, Vals vs us ∧ ∀ O H, Reps K O H ds vs
theorem fix_str {s : Str} {t : Nat} : Fix K (.str s) (.str s t) := ⟨.str s, ⟨t, rfl⟩, fun _ _ => by simp only [Rep]⟩
theorem fix_int {s : Int} {t : Nat} : Fix K (.int s) (.int s t) := ⟨.int s, ⟨t, rfl⟩, fun _ _ => by simp only [Rep]⟩
theorem fixs_nil : Fixs K [] [] := ⟨[], .nil, fun _ _ => by simp only [Reps]⟩
theorem fixs_cons {d : PyData} {ds : List PyData} {u : Value} {us : List Value} (a : Fix K d u) (b : Fixs K ds us) : Fixs K (d :: ds) (u :: us) := by
  obtain ⟨v, h1, h2⟩ := a
  obtain ⟨vs, h3, h4⟩ := b
  exact ⟨v :: vs, .cons h1 h3, fun O H => by simp only [Reps]; exact ⟨v, vs, rfl, h2 O H, h4 O H⟩⟩
theorem fix_tup {p : Addr} {ds : List PyData} {od : Option Addr} {us : List Value} {n : Nat} {sl : Array (Option Value)} (l : K.lookup p = some ⟨.type "tuple", od, .seq us.toArray n, sl⟩) (hs : ds.length ≤ 1000) (hv : Fixs K ds us) : Fix K (.tuple ds) (.ref p) := by
  obtain ⟨vs, h1, h2⟩ := hv
  have e : us.length = ds.length := by rw [← h1.length, (h2 (fun _ => False) fun _ => none).len]
  have z : us.length ≤ sizeLine := by rw [e, sizeLine_eq]; omega
  exact ⟨.ref p, rfl, fun O H => by simp only [Rep]; exact ⟨p, vs, rfl, .inr ⟨_, us.toArray, n, l, rfl, rfl, by simpa using z, by simpa using h1⟩, h2 O H⟩⟩
theorem glob_fix {d : PyData} {u : Value} (X : K.In h) (G : h.Ns mainGlobals mg) (a : PySem.W.nsIn K mainGlobals x = some (some u)) (f : Fix K d u) : GlobD K mg x d := by
  obtain ⟨v, h1, h2⟩ := f
  exact ⟨v, u, PySem.W.mg_of X G a, h1, h2⟩
theorem script_of {O : AS} {H : Hp} {a : Addr} {ns : List Int} (no : ∀ a, ¬ O a) (h : SqL K H a (ns.map V.int)) : Rep K O H (.list (ns.map .int)) (.ref a) := by
  simp only [Rep]
  refine ⟨a, _, rfl, ?_, Reps.of_ints ns⟩
  rcases h with h | h
  · exact .inl ⟨h, no a⟩
  · exact .inr (.inr h)
theorem CalK.of {P : Program} {W : World} {base : Heap} {k n : Nat} {C : Ct} {f : Addr} {fd : FuncData} (F : FnOk P W K mg base CX0 k f fd ps (spC K n C)) (hk : PySem.W.keepIn K (.ref f) = true) (hm : mg x = some (.ref f)) (hn : ps.length = n)
    (b : ∀ (s : Shared) (ws : List Value), ws.length = ps.length → BindsTo s fd ⟨[], ps.zip ws⟩ (ps.zip ws)) : CalK P W K mg base x k n C ps pmId :=
  ⟨⟨f, fd, ps, F, hk, b, hm⟩, fun _ h => h, fun _ h => h, fun h => by rw [← hn]; exact h⟩
/-- the promise of a law's def: given its script, True -/
def C_true : Ct := fun as S R => ∃ ns : List Int, as = [.dat (.list (ns.map .int))] ∧ ns.length ≤ 63 ∧ R (.bool true) S
theorem law_sp {H : Hp} {a : Addr} {ns : List Int} {E : XK} (hl : ns.length ≤ 63) (h : SqL K H a (ns.map V.int)) : spC K 1 C_true [.ref a] H (fun v _ => v = .bl true) E := by
  refine ⟨fun _ => False, none, [], [.dat (.list (ns.map .int))], fun d _ => d = .bool true, rfl, ?_, fun a z => z.elim, (fun a z => by cases z), (fun a z => by cases z), ⟨ns, rfl, hl, rfl⟩, fun d S' v H' _ _ r e => ?_⟩
  · simp only [Args, ArgRep]
    exact ⟨_, [], rfl, script_of (fun _ z => z) h, rfl⟩
  · subst e
    simpa only [Rep] using r
/-- the goal that the head leaves -/
theorem law_walk {l : PySem.W.OpenLaw} {q : Program} {loose : List Str} {XP : (Str → Option Value) → Heap → Prop} {YP : World → Heap → Prop} {d : DefRec} {K : Params → PySem.W.Frag} {x : Str} (k : Nat) (hn : l.most = some 63) (hdf : d.params.defaults = []) (hr : Room k callerA)
    (hY : ∀ (w : World) (h : Heap), YP w h → (K w.params).In h) (hst : d.name = "law")
    (F : ∀ (w : World) (mg : Str → Option Value) (fa : Addr) (h : Heap), (K w.params).In h → h.Ns mainGlobals mg → mg "law" = some (.ref fa) →
      ∃ f fd, mg "law" = some (.ref f) ∧ (∀ (s : Shared) (ws : List Value), ws.length = [x].length → BindsTo s fd ⟨ws, []⟩ ([x].zip ws)) ∧ ∀ base : Heap, (K w.params).In base → base.Ns mainGlobals mg → FnOk l.prog w (K w.params) mg base CX0 k f fd [x] (spC (K w.params) 1 C_true)) :
    PySem.W.WalkO q loose XP YP l.row.toRowW d [] (fun f vs => PySem.call f vs) :=
  L2.walk_of (n := 63) (k := k) (x := x) (CX := fun _ => CX0) (sp := fun w => spC (K w.params) 1 C_true) hn (by decide) hdf hr hY (fun w mg fa h KX G hmg => by
    rw [hst] at hmg
    obtain ⟨f, fd, e, b, ok⟩ := F w mg fa h KX G hmg
    cases hmg.symm.trans e
    exact ⟨fd, fun s u => b s [u] rfl, ok⟩) (fun _ H a ns hl _ hS => law_sp hl hS) fun _ _ _ _ _ z => z
end
end DL

namespace K42
open PySem L2 DL
def top (i : Nat) : Stmt := PySem.Challenge.pw_bentalike_k42_whole_picks_of_anything.main.body.getD i (.Pass ⟨0, 0, 0, 0⟩)
/-- what the top has written: built-ins as they were, constants -/
structure Txt (K : Fr_) (mg : Str → Option Value) : Prop where
  g_MOST_DEEP : GlobD K mg "MOST_DEEP" (.int 6)
  g_NAMES : GlobD K mg "NAMES" (.tuple [.str (PySem.Str.ofString "A"), .str (PySem.Str.ofString "B"), .str (PySem.Str.ofString "C"), .str (PySem.Str.ofString "D")])
  g_ONES : GlobD K mg "ONES" (.tuple [.str (PySem.Str.ofString "not"), .str (PySem.Str.ofString "rim"), .str (PySem.Str.ofString "inner"), .str (PySem.Str.ofString "closure")])
  g_TWOS : GlobD K mg "TWOS" (.tuple [.str (PySem.Str.ofString "both"), .str (PySem.Str.ofString "either"), .str (PySem.Str.ofString "less")])
  z_abs : mg "abs" = none
  z_all : mg "all" = none
  z_divmod : mg "divmod" = none
  z_int : mg "int" = none
  z_isinstance : mg "isinstance" = none
  z_len : mg "len" = none
  z_list : mg "list" = none
  z_max : mg "max" = none
  z_min : mg "min" = none
  z_range : mg "range" = none
  z_repr : mg "repr" = none
  z_str : mg "str" = none
  z_tuple : mg "tuple" = none
section
variable {P : Program} {W : World} {K : Fr_} {mg : Str → Option Value} {base : Heap}
/-! is_picked -/
abbrev s_is_picked : Stmt := top 5
abbrev N_is_picked : List Str := ["value", "deep", "word", "many", "each"]
theorem sc_is_picked : FnScope N_is_picked ["value", "deep"] (defScope s_is_picked) := ⟨rfl, rfl, rfl, by decide +kernel, rfl, by decide +kernel, by decide +kernel⟩
def G_is_picked (C_is_picked : Ct) : FS :=
    (sSeq (sIf (fOr (fOp oEq (fVarB 1) (fC (.int 0))) (fOr (fNot (fUn (fun x R => R (.bool (isiD "tuple" x))) (fVarB 0))) (fOr (fOp oEq (fVarB 0) (fTup fNil)) (fNot (fUn (fun x R => R (.bool (isiD "str" x))) (fOp oIx (fVarB 0) (fC (.int 0))))))))
    (sRet (fC (.bool false)))
    sNext)
    (sSeq (sPar 2 3 (fCons (fOp oIx (fVarB 0) (fC (.int 0))) (fCons (fUn oLen (fVarB 0)) fNil)))
    (sSeq (sIf (fOp oEq (fVarB 2) (fC (.str (PySem.Str.ofString "all"))))
    (sRet (fOp oEq (fVarB 3) (fC (.int 1))))
    sNext)
    (sSeq (sIf (fOp oEq (fVarB 2) (fC (.str (PySem.Str.ofString "name"))))
    (sRet (fAnd (fOp oEq (fVarB 3) (fC (.int 2))) (fAnd (fUn (fun x R => R (.bool (isiD "str" x))) (fOp oIx (fVarB 0) (fC (.int 1)))) (fOp (oIn false) (fOp oIx (fVarB 0) (fC (.int 1))) (fC (.tuple [.str (PySem.Str.ofString "A"), .str (PySem.Str.ofString "B"), .str (PySem.Str.ofString "C"), .str (PySem.Str.ofString "D")]))))))
    sNext)
    (sSeq (sIf (fOr (fAnd (fOp (oIn false) (fVarB 2) (fC (.tuple [.str (PySem.Str.ofString "not"), .str (PySem.Str.ofString "rim"), .str (PySem.Str.ofString "inner"), .str (PySem.Str.ofString "closure")]))) (fOp oEq (fVarB 3) (fC (.int 2)))) (fAnd (fOp (oIn false) (fVarB 2) (fC (.tuple [.str (PySem.Str.ofString "both"), .str (PySem.Str.ofString "either"), .str (PySem.Str.ofString "less")]))) (fOp oEq (fVarB 3) (fC (.int 3)))))
    (sRet (fUn oAll (fLc (fiT (fSl (fVarB 0) (fP (fC (.int 1))) fNoP)) [4] (gNm 4) (fC (.bool true)) (fCall C_is_picked (gDat (fVar 4) (gDat (fOp (oI fun i j => .int (i - j)) (fVarB 1) (fC (.int 1))) gaNil))))))
    sNext)
    (sRet (fC (.bool false))))))))
theorem ok_is_picked {k : Nat} {C_is_picked : Ct} {C : Ct} (T : Txt K mg) {f : Addr} {fd : FuncData} (F : Fun K "is_picked" "is_picked" s_is_picked f fd) (hm : mg "is_picked" = some (.ref f)) (hb : Binds K fd ["value", "deep"] []) (c_is_picked : Cal P W K mg base "is_picked" k 2 C_is_picked) (hC : ∀ as S R, as.length = 2 → C as S R → (G_is_picked C_is_picked) (ent N_is_picked as) S { nx := fun _ S' => R .none S', rt := R }) : FnOk P W K mg base CX0 (k + 1) f fd ["value", "deep"] (spC K 2 C) := by
  have nd := sc_is_picked.nd
  exact dfn_ok F sc_is_picked rfl (by decide) (fun cdv A outer s H E hr =>
    (s_cons (s_if (PW.pt (w_or (t_cmp (op_eqH hr) sEq (b_var 1) (b_of d_int)) (w_or (t_not (t_val (b_of (d_isi isi_tuple (b_var 0) T.z_isinstance T.z_tuple PyProof.Rows.boot_tuple)))) (w_or (t_cmp (op_eqH hr) sEq (b_var 0) (b_of (d_tup a_nil))) (w_or1 (t_not (t_val (b_of (d_isi isi_str (b_of (d_ix (b_var 0) (b_of d_int))) T.z_isinstance T.z_str PyProof.Rows.boot_str)))))))))
    (s_one (s_ret d_bool))
    s_nil)
    (s_cons (s_par 2 3 rfl nd (a_cons (d_ix (b_var 0) (b_of d_int)) (a_cons (d_callB call_len sLen (b_var 0) T.z_len PySem.boot_len) a_nil)))
    (s_cons (s_if (t_cmp (op_eqH hr) sEq (b_var 2) (b_of d_str))
    (s_one (s_ret (d_cmp (op_eqH hr) sEq (b_var 3) (b_of d_int))))
    s_nil)
    (s_cons (s_if (t_cmp (op_eqH hr) sEq (b_var 2) (b_of d_str))
    (s_one (s_ret (d_and (b_of (d_cmp (op_eqH hr) sEq (b_var 3) (b_of d_int))) (d_and (b_of (d_isi isi_str (b_of (d_ix (b_var 0) (b_of d_int))) T.z_isinstance T.z_str PyProof.Rows.boot_str)) (d_one (d_cmp op_in_seq sIn (b_of (d_ix (b_var 0) (b_of d_int))) (b_of (d_glob T.g_NAMES))))))))
    s_nil)
    (s_cons (s_if (PW.pt (w_or (PW.pt (w_and (t_cmp op_in_seq sIn (b_var 2) (b_of (d_glob T.g_ONES))) (w_and1 (t_cmp (op_eqH hr) sEq (b_var 3) (b_of d_int))))) (w_or1 (PW.pt (w_and (t_cmp op_in_seq sIn (b_var 2) (b_of (d_glob T.g_TWOS))) (w_and1 (t_cmp (op_eqH hr) sEq (b_var 3) (b_of d_int))))))))
    (s_one (s_ret (d_callB (cr_all rfl) sAll (b_of (d_of_n (n_lc rfl nd (ic_of (i_tup (b_of (d_slice (b_var 0) (o_some (b_of d_int)) o_none)))) (blkOk_by (own := [("each", 4)]) (N := N_is_picked) (sc := defScope s_is_picked) (by decide +kernel)) (by decide) (fun _ _ _ _ _ => (g_name 4 nd)) (fun _ _ _ _ _ => p_nil) (fun _ _ _ _ _ => (d_call c_is_picked (hr.mono (by omega)) (c_dat (d_var 4) (c_dat (d_sub (b_var 1) (b_of d_int)) c_nil))))))) T.z_all PyProof.Rows.boot_all)))
    s_nil)
    (s_one (s_ret d_bool)))))))) hC
theorem bd_is_picked {k : Nat} {C_is_picked : Ct} {C : Ct} (T : Txt K mg) {f : Addr} {fd : FuncData} (F : Fun K "is_picked" "is_picked" s_is_picked f fd) (hm : mg "is_picked" = some (.ref f)) (hb : Binds K fd ["value", "deep"] []) (c_is_picked : Cal P W K mg base "is_picked" k 2 C_is_picked) (hC : ∀ as S R, as.length = 2 → C as S R → (G_is_picked C_is_picked) (ent N_is_picked as) S { nx := fun _ S' => R .none S', rt := R }) : Cal P W K mg base "is_picked" (k + 1) 2 C := ⟨f, fd, _, ok_is_picked T F hm hb c_is_picked hC, F.kp, hb, hm⟩
/-! is_pick_by -/
abbrev s_is_pick_by : Stmt := top 6
abbrev N_is_pick_by : List Str := ["value"]
theorem sc_is_pick_by : FnScope N_is_pick_by ["value"] (defScope s_is_pick_by) := ⟨rfl, rfl, rfl, by decide +kernel, rfl, by decide +kernel, by decide +kernel⟩
def G_is_pick_by (C_is_picked : Ct) : FS :=
    (sRet (fCall C_is_picked (gDat (fVar 0) (gDat (fC (.int 6)) gaNil))))
theorem ok_is_pick_by {k : Nat} {C_is_picked : Ct} {C : Ct} (T : Txt K mg) {f : Addr} {fd : FuncData} (F : Fun K "is_pick_by" "is_pick_by" s_is_pick_by f fd) (hm : mg "is_pick_by" = some (.ref f)) (hb : Binds K fd ["value"] []) (c_is_picked : Cal P W K mg base "is_picked" k 2 C_is_picked) (hC : ∀ as S R, as.length = 1 → C as S R → (G_is_pick_by C_is_picked) (ent N_is_pick_by as) S { nx := fun _ S' => R .none S', rt := R }) : FnOk P W K mg base CX0 (k + 1) f fd ["value"] (spC K 1 C) := by
  have nd := sc_is_pick_by.nd
  exact dfn_ok F sc_is_pick_by rfl (by decide) (fun cdv A outer s H E hr =>
    (s_one (s_ret (d_call c_is_picked (hr.mono (by omega)) (c_dat (d_var 0) (c_dat (d_glob T.g_MOST_DEEP) c_nil)))))) hC
theorem bd_is_pick_by {k : Nat} {C_is_picked : Ct} {C : Ct} (T : Txt K mg) {f : Addr} {fd : FuncData} (F : Fun K "is_pick_by" "is_pick_by" s_is_pick_by f fd) (hm : mg "is_pick_by" = some (.ref f)) (hb : Binds K fd ["value"] []) (c_is_picked : Cal P W K mg base "is_picked" k 2 C_is_picked) (hC : ∀ as S R, as.length = 1 → C as S R → (G_is_pick_by C_is_picked) (ent N_is_pick_by as) S { nx := fun _ S' => R .none S', rt := R }) : Cal P W K mg base "is_pick_by" (k + 1) 1 C := ⟨f, fd, _, ok_is_pick_by T F hm hb c_is_picked hC, F.kp, hb, hm⟩
/-! is_pick -/
abbrev s_is_pick : Stmt := top 8
abbrev N_is_pick : List Str := ["value"]
theorem sc_is_pick : FnScope N_is_pick ["value"] (defScope s_is_pick) := ⟨rfl, rfl, rfl, by decide +kernel, rfl, by decide +kernel, by decide +kernel⟩
def G_is_pick (C_is_pick_by : Ct) : FS :=
    (sRet (fCall C_is_pick_by (gDat (fVar 0) gaNil)))
theorem ok_is_pick {k : Nat} {C_is_pick_by : Ct} {C : Ct} (T : Txt K mg) {f : Addr} {fd : FuncData} (F : Fun K "is_pick" "is_pick" s_is_pick f fd) (hm : mg "is_pick" = some (.ref f)) (hb : Binds K fd ["value"] []) (c_is_pick_by : Cal P W K mg base "is_pick_by" k 1 C_is_pick_by) (hC : ∀ as S R, as.length = 1 → C as S R → (G_is_pick C_is_pick_by) (ent N_is_pick as) S { nx := fun _ S' => R .none S', rt := R }) : FnOk P W K mg base CX0 (k + 1) f fd ["value"] (spC K 1 C) := by
  have nd := sc_is_pick.nd
  exact dfn_ok F sc_is_pick rfl (by decide) (fun cdv A outer s H E hr =>
    (s_one (s_ret (d_call c_is_pick_by (hr.mono (by omega)) (c_dat (d_var 0) c_nil))))) hC
theorem bd_is_pick {k : Nat} {C_is_pick_by : Ct} {C : Ct} (T : Txt K mg) {f : Addr} {fd : FuncData} (F : Fun K "is_pick" "is_pick" s_is_pick f fd) (hm : mg "is_pick" = some (.ref f)) (hb : Binds K fd ["value"] []) (c_is_pick_by : Cal P W K mg base "is_pick_by" k 1 C_is_pick_by) (hC : ∀ as S R, as.length = 1 → C as S R → (G_is_pick C_is_pick_by) (ent N_is_pick as) S { nx := fun _ S' => R .none S', rt := R }) : Cal P W K mg base "is_pick" (k + 1) 1 C := ⟨f, fd, _, ok_is_pick T F hm hb c_is_pick_by hC, F.kp, hb, hm⟩
/-! _law_spring -/
abbrev s_law_spring : Stmt := top 10
abbrev N_law_spring : List Str := ["_law_script", "_law_mixed", "_law_cell", "_law_own"]
theorem sc_law_spring : FnScope N_law_spring ["_law_script"] (defScope s_law_spring) := ⟨rfl, rfl, rfl, by decide +kernel, rfl, by decide +kernel, by decide +kernel⟩
def G_law_spring : FS :=
    (sSeq (sSet 1 (fC (.int 7121)))
    (sSeq (sFor (fiL (fSl (fVarB 0) fNoP (fP (fC (.int 63))))) (gNm 2)
    (sSet 1 (fOp (oIC (fun _ j => 0 < j) fun i j => .int (i % j)) (fUn oInt (fOp oAdd (fOp oAdd (fOp (oIC CMulA fun i j => .int (i * j)) (fVarB 1) (fC (.int 48611))) (fOp (oIC (fun _ j => 0 < j) fun i j => .int (i % j)) (fUn oInt (fVarB 2)) (fC (.int 2147483587)))) (fC (.int 11)))) (fC (.int 2147483579)))))
    (sSeq (sSet 3 (fIf (fOp oGt (fUn oLen (fVarB 0)) (fC (.int 0))) (fUn oInt (fOp oIx (fVarB 0) (fC (.int 0)))) (fC (.int 0))))
    (sRetNew (fLst (fCons (fIf (fOr (fOp oLt (fVarB 3) (fC (.int 0))) (fOp oGe (fVarB 3) (fOp (oIC CPow fun i j => .int (i ^ j.toNat)) (fC (.int 10)) (fC (.int 14))))) (fUn oAbs (fVarB 3)) (fC (.int 0))) (fCons (fVar 1) (fCons (fC (.int 0)) fNil))))))))
theorem bd_law_spring {k : Nat} {C : Ct} (T : Txt K mg) {f : Addr} {fd : FuncData} (F : Fun K "_law_spring" "_law_spring" s_law_spring f fd) (hm : mg "_law_spring" = some (.ref f)) (hb : Binds K fd ["_law_script"] []) (hC : ∀ as S R, as.length = 1 → C as S R → G_law_spring (ent N_law_spring as) S { nx := fun _ _ => False, rt := fun _ _ => False, rn := fun ds S' => R (.list ds) S' }) : CalN P W K mg base "_law_spring" (k + 1) 1 C := by
  have nd := sc_law_spring.nd
  exact dfnN F sc_law_spring hm hb rfl (by decide) (fun cdv A outer s H E hr =>
    (s_cons (s_set 1 nd d_int)
    (s_cons (s_for PassesOwn.never rfl (i_list (d_slice (b_var 0) o_none (o_some (b_of d_int)))) (g_name 2 nd)
    (s_one (s_set 1 nd (d_mod (b_of (d_callT call_int1 sIntOf (b_of (d_add (b_of (d_add (b_of (d_mul (b_var 1) (b_of d_int))) (b_of (d_mod (b_of (d_callT call_int1 sIntOf (b_var 2) T.z_int PyProof.Rows.boot_int)) (b_of d_int))))) (b_of d_int))) T.z_int PyProof.Rows.boot_int)) (b_of d_int)))))
    (s_cons (s_set 3 nd (d_if (t_cmp op_gt sIntB (b_of (d_callB call_len sLen (b_var 0) T.z_len PySem.boot_len)) (b_of d_int)) (d_callT call_int1 sIntOf (b_of (d_ix (b_var 0) (b_of d_int))) T.z_int PyProof.Rows.boot_int) d_int))
    (s_one (s_retNew (n_lst (a_cons (d_if (PW.pt (w_or (t_cmp op_ltA sLt (b_var 3) (b_of d_int)) (w_or1 (t_cmp op_ge sIntB (b_var 3) (b_of (d_pow (b_of d_int) (b_of d_int))))))) (d_callB call_abs sAbs (b_var 3) T.z_abs PyProof.Rows.boot_abs) d_int) (a_cons (d_var 1) (a_cons d_int a_nil)))))))))) hC
/-! _law_dip -/
abbrev s_law_dip : Stmt := top 11
abbrev N_law_dip : List Str := ["_law_well", "_law_many", "_law_figure", "_law_seed"]
theorem sc_law_dip : FnScope N_law_dip ["_law_well", "_law_many"] (defScope s_law_dip) := ⟨rfl, rfl, rfl, by decide +kernel, rfl, by decide +kernel, by decide +kernel⟩
def G_law_dip : FS :=
    (sSeq (sIf (fOp oGt (fWix 0 (fC (.int 0))) (fC (.int 0)))
    (sSeq (sWdiv 0 2 (fC (.int 0)) (fOp oDivmod (fWix 0 (fC (.int 0))) (fVarB 1)))
    (sRetV 2))
    sNext)
    (sSeq (sWput 0 (fC (.int 2)) (fOp oAdd (fWix 0 (fC (.int 2))) (fC (.int 1))))
    (sSeq (sSet 3 (fOp (oIC (fun _ j => 0 < j) fun i j => .int (i % j)) (fUn oInt (fOp oAdd (fWix 0 (fC (.int 1))) (fOp (oIC CMulA fun i j => .int (i * j)) (fC (.int 52361)) (fWix 0 (fC (.int 2)))))) (fC (.int 2147483579))))
    (sSeq (sWput 0 (fC (.int 1)) (fOp (oIC (fun _ j => 0 < j) fun i j => .int (i % j)) (fUn oInt (fOp oAdd (fOp (oIC CMulA fun i j => .int (i * j)) (fVarB 3) (fOp oAdd (fOp (oIC (fun _ j => 0 < j) fun i j => .int (i % j)) (fUn oInt (fVarB 3)) (fC (.int 4999))) (fC (.int 43013)))) (fOp (oIC CMulA fun i j => .int (i * j)) (fC (.int 37)) (fWix 0 (fC (.int 2)))))) (fC (.int 2147483579))))
    (sRet (fOp (oIC (fun _ j => 0 < j) fun i j => .int (i % j)) (fUn oInt (fOp (oIC CDivW fun i j => .int (i / j)) (fWix 0 (fC (.int 1))) (fC (.int 613)))) (fVarB 1)))))))
theorem ok_law_dip {k : Nat} {C : Ct} (T : Txt K mg) {f : Addr} {fd : FuncData} (F : Fun K "_law_dip" "_law_dip" s_law_dip f fd) (hm : mg "_law_dip" = some (.ref f)) (hb : Binds K fd ["_law_well", "_law_many"] []) (hC : ∀ as S R, as.length = 2 → C as S R → G_law_dip (ent N_law_dip as) S { nx := fun _ S' => R .none S', rt := R }) : FnOk P W K mg base CX0 (k + 1) f fd ["_law_well", "_law_many"] (spC K 2 C) := by
  have nd := sc_law_dip.nd
  exact dfn_ok F sc_law_dip rfl (by decide) (fun cdv A outer s H E hr =>
    (s_cons (s_if (t_cmp op_gt sIntB (b_of (d_wix 0 (b_of d_int))) (b_of d_int))
    (s_cons (s_wdiv 0 2 nd rfl (b_of (d_callB2 call_divmod sDivmod (b_of (d_wix 0 (b_of d_int))) (b_var 1) T.z_divmod PyProof.Rows.boot_divmod)) (b_of d_int))
    (s_one (s_retV 2)))
    s_nil)
    (s_cons (s_wput 0 (b_of (d_add (b_of (d_wix 0 (b_of d_int))) (b_of d_int))) (b_of d_int))
    (s_cons (s_set 3 nd (d_mod (b_of (d_callT call_int1 sIntOf (b_of (d_add (b_of (d_wix 0 (b_of d_int))) (b_of (d_mul (b_of d_int) (b_of (d_wix 0 (b_of d_int))))))) T.z_int PyProof.Rows.boot_int)) (b_of d_int)))
    (s_cons (s_wput 0 (b_of (d_mod (b_of (d_callT call_int1 sIntOf (b_of (d_add (b_of (d_mul (b_var 3) (b_of (d_add (b_of (d_mod (b_of (d_callT call_int1 sIntOf (b_var 3) T.z_int PyProof.Rows.boot_int)) (b_of d_int))) (b_of d_int))))) (b_of (d_mul (b_of d_int) (b_of (d_wix 0 (b_of d_int))))))) T.z_int PyProof.Rows.boot_int)) (b_of d_int))) (b_of d_int))
    (s_one (s_ret (d_mod (b_of (d_callT call_int1 sIntOf (b_of (d_fdiv (b_of (d_wix 0 (b_of d_int))) (b_of d_int))) T.z_int PyProof.Rows.boot_int)) (b_var 1))))))))) hC
theorem bd_law_dip {k : Nat} {C : Ct} (T : Txt K mg) {f : Addr} {fd : FuncData} (F : Fun K "_law_dip" "_law_dip" s_law_dip f fd) (hm : mg "_law_dip" = some (.ref f)) (hb : Binds K fd ["_law_well", "_law_many"] []) (hC : ∀ as S R, as.length = 2 → C as S R → G_law_dip (ent N_law_dip as) S { nx := fun _ S' => R .none S', rt := R }) : Cal P W K mg base "_law_dip" (k + 1) 2 C := ⟨f, fd, _, ok_law_dip T F hm hb hC, F.kp, hb, hm⟩
/-! _law_any -/
abbrev s_law_any : Stmt := top 12
abbrev N_law_any : List Str := ["_law_well", "_law_some"]
theorem sc_law_any : FnScope N_law_any ["_law_well", "_law_some"] (defScope s_law_any) := ⟨rfl, rfl, rfl, by decide +kernel, rfl, by decide +kernel, by decide +kernel⟩
def G_law_any (C_law_dip : Ct) : FS :=
    (sRet (fOp oIx (fVarB 1) (fCall C_law_dip (gWel 0 (gDat (fUn oLen (fVarB 1)) gaNil)))))
theorem ok_law_any {k : Nat} {C_law_dip : Ct} {C : Ct} (T : Txt K mg) {f : Addr} {fd : FuncData} (F : Fun K "_law_any" "_law_any" s_law_any f fd) (hm : mg "_law_any" = some (.ref f)) (hb : Binds K fd ["_law_well", "_law_some"] []) (c_law_dip : Cal P W K mg base "_law_dip" k 2 C_law_dip) (hC : ∀ as S R, as.length = 2 → C as S R → (G_law_any C_law_dip) (ent N_law_any as) S { nx := fun _ S' => R .none S', rt := R }) : FnOk P W K mg base CX0 (k + 1) f fd ["_law_well", "_law_some"] (spC K 2 C) := by
  have nd := sc_law_any.nd
  exact dfn_ok F sc_law_any rfl (by decide) (fun cdv A outer s H E hr =>
    (s_one (s_ret (d_ix (b_var 1) (b_of (d_call c_law_dip (hr.mono (by omega)) (c_wel 0 (c_dat (d_callB call_len sLen (b_var 1) T.z_len PySem.boot_len) c_nil)))))))) hC
theorem bd_law_any {k : Nat} {C_law_dip : Ct} {C : Ct} (T : Txt K mg) {f : Addr} {fd : FuncData} (F : Fun K "_law_any" "_law_any" s_law_any f fd) (hm : mg "_law_any" = some (.ref f)) (hb : Binds K fd ["_law_well", "_law_some"] []) (c_law_dip : Cal P W K mg base "_law_dip" k 2 C_law_dip) (hC : ∀ as S R, as.length = 2 → C as S R → (G_law_any C_law_dip) (ent N_law_any as) S { nx := fun _ S' => R .none S', rt := R }) : Cal P W K mg base "_law_any" (k + 1) 2 C := ⟨f, fd, _, ok_law_any T F hm hb c_law_dip hC, F.kp, hb, hm⟩
/-! _law_deep -/
abbrev s_law_deep : Stmt := top 13
abbrev N_law_deep : List Str := ["_law_thing_here", "_law_word", "_law_rest", "_law_many", "_law_below", "_law_part"]
theorem sc_law_deep : FnScope N_law_deep ["_law_thing_here"] (defScope s_law_deep) := ⟨rfl, rfl, rfl, by decide +kernel, rfl, by decide +kernel, by decide +kernel⟩
def G_law_deep (C_law_deep : Ct) : FS :=
    (sSeq (sIf (fOr (fNot (fUn (fun x R => R (.bool (isiD "tuple" x))) (fVarB 0))) (fOr (fOp oEq (fUn oLen (fVarB 0)) (fC (.int 0))) (fNot (fUn (fun x R => R (.bool (isiD "str" x))) (fOp oIx (fVarB 0) (fC (.int 0)))))))
    (sRet (fC (.int 0)))
    sNext)
    (sSeq (sPar 1 2 (fCons (fOp oIx (fVarB 0) (fC (.int 0))) (fCons (fSl (fVarB 0) (fP (fC (.int 1))) fNoP) fNil)))
    (sSeq (sIf (fOp oEq (fVarB 1) (fC (.str (PySem.Str.ofString "name"))))
    (sRet (fUn oInt (fAnd (fOp oEq (fUn oLen (fVarB 2)) (fC (.int 1))) (fAnd (fUn (fun x R => R (.bool (isiD "str" x))) (fOp oIx (fVarB 2) (fC (.int 0)))) (fOp (oIn false) (fOp oIx (fVarB 2) (fC (.int 0))) (fTup (fCons (fC (.str (PySem.Str.ofString "A"))) (fCons (fC (.str (PySem.Str.ofString "B"))) (fCons (fC (.str (PySem.Str.ofString "C"))) (fCons (fC (.str (PySem.Str.ofString "D"))) fNil))))))))))
    sNext)
    (sSeq (sIf (fOp oEq (fVarB 1) (fC (.str (PySem.Str.ofString "all"))))
    (sRet (fUn oInt (fOp oEq (fUn oLen (fVarB 2)) (fC (.int 0)))))
    sNext)
    (sSeq (sSet 3 (fIf (fOp (oIn false) (fVarB 1) (fTup (fCons (fC (.str (PySem.Str.ofString "not"))) (fCons (fC (.str (PySem.Str.ofString "rim"))) (fCons (fC (.str (PySem.Str.ofString "inner"))) (fCons (fC (.str (PySem.Str.ofString "closure"))) fNil)))))) (fC (.int 1)) (fIf (fOp (oIn false) (fVarB 1) (fTup (fCons (fC (.str (PySem.Str.ofString "both"))) (fCons (fC (.str (PySem.Str.ofString "either"))) (fCons (fC (.str (PySem.Str.ofString "less"))) fNil))))) (fC (.int 2)) (fC (.int 0)))))
    (sSeq (sIf (fOr (fOp oEq (fVarB 3) (fC (.int 0))) (fOp oNe (fUn oLen (fVarB 2)) (fVarB 3)))
    (sRet (fC (.int 0)))
    sNext)
    (sSeq (sSet 4 (fLc (fiT (fVarB 2)) [5] (gNm 5) (fC (.bool true)) (fCall C_law_deep (gDat (fVar 5) gaNil))))
    (sRet (fIf (fOp (oIn false) (fC (.int 0)) (fVarB 4)) (fC (.int 0)) (fOp oAdd (fC (.int 1)) (fUn oMax (fVarB 4))))))))))))
theorem ok_law_deep {k : Nat} {C_law_deep : Ct} {C : Ct} (T : Txt K mg) {f : Addr} {fd : FuncData} (F : Fun K "_law_deep" "_law_deep" s_law_deep f fd) (hm : mg "_law_deep" = some (.ref f)) (hb : Binds K fd ["_law_thing_here"] []) (c_law_deep : Cal P W K mg base "_law_deep" k 1 C_law_deep) (hC : ∀ as S R, as.length = 1 → C as S R → (G_law_deep C_law_deep) (ent N_law_deep as) S { nx := fun _ S' => R .none S', rt := R }) : FnOk P W K mg base CX0 (k + 1) f fd ["_law_thing_here"] (spC K 1 C) := by
  have nd := sc_law_deep.nd
  exact dfn_ok F sc_law_deep rfl (by decide) (fun cdv A outer s H E hr =>
    (s_cons (s_if (PW.pt (w_or (t_not (t_val (b_of (d_isi isi_tuple (b_var 0) T.z_isinstance T.z_tuple PyProof.Rows.boot_tuple)))) (w_or (t_cmp (op_eqH hr) sEq (b_of (d_callB call_len sLen (b_var 0) T.z_len PySem.boot_len)) (b_of d_int)) (w_or1 (t_not (t_val (b_of (d_isi isi_str (b_of (d_ix (b_var 0) (b_of d_int))) T.z_isinstance T.z_str PyProof.Rows.boot_str))))))))
    (s_one (s_ret d_int))
    s_nil)
    (s_cons (s_par 1 2 rfl nd (a_cons (d_ix (b_var 0) (b_of d_int)) (a_cons (d_slice (b_var 0) (o_some (b_of d_int)) o_none) a_nil)))
    (s_cons (s_if (t_cmp (op_eqH hr) sEq (b_var 1) (b_of d_str))
    (s_one (s_ret (d_callT call_int1 sIntOf (b_of (d_and (b_of (d_cmp (op_eqH hr) sEq (b_of (d_callB call_len sLen (b_var 2) T.z_len PySem.boot_len)) (b_of d_int))) (d_and (b_of (d_isi isi_str (b_of (d_ix (b_var 2) (b_of d_int))) T.z_isinstance T.z_str PyProof.Rows.boot_str)) (d_one (d_cmp op_in_seq sIn (b_of (d_ix (b_var 2) (b_of d_int))) (b_of (d_tup (a_cons d_str (a_cons d_str (a_cons d_str (a_cons d_str a_nil))))))))))) T.z_int PyProof.Rows.boot_int)))
    s_nil)
    (s_cons (s_if (t_cmp (op_eqH hr) sEq (b_var 1) (b_of d_str))
    (s_one (s_ret (d_callT call_int1 sIntOf (b_of (d_cmp (op_eqH hr) sEq (b_of (d_callB call_len sLen (b_var 2) T.z_len PySem.boot_len)) (b_of d_int))) T.z_int PyProof.Rows.boot_int)))
    s_nil)
    (s_cons (s_set 3 nd (d_if (t_cmp op_in_seq sIn (b_var 1) (b_of (d_tup (a_cons d_str (a_cons d_str (a_cons d_str (a_cons d_str a_nil))))))) d_int (d_if (t_cmp op_in_seq sIn (b_var 1) (b_of (d_tup (a_cons d_str (a_cons d_str (a_cons d_str a_nil)))))) d_int d_int)))
    (s_cons (s_if (PW.pt (w_or (t_cmp (op_eqH hr) sEq (b_var 3) (b_of d_int)) (w_or1 (t_cmp (op_neH hr) sNe (b_of (d_callB call_len sLen (b_var 2) T.z_len PySem.boot_len)) (b_var 3)))))
    (s_one (s_ret d_int))
    s_nil)
    (s_cons (s_setLcD 4 rfl nd (ic_of (i_tup (b_var 2))) (blkOk_by (own := [("_law_part", 5)]) (N := N_law_deep) (sc := defScope s_law_deep) (by decide +kernel)) (by decide) (fun _ _ _ _ _ => (g_name 5 nd)) (fun _ _ _ _ _ => p_nil) (fun _ _ _ _ _ => (d_call c_law_deep (hr.mono (by omega)) (c_dat (d_var 5) c_nil))) (sw_true rfl rfl rfl (by decide +kernel)))
    (s_one (s_ret (d_if (t_cmp op_in_seq sIn (b_of d_int) (b_var 4)) d_int (d_add (b_of d_int) (b_of (d_callB (cr_max rfl) sMax (b_var 4) T.z_max PyProof.Rows.boot_max)))))))))))))) hC
theorem bd_law_deep {k : Nat} {C_law_deep : Ct} {C : Ct} (T : Txt K mg) {f : Addr} {fd : FuncData} (F : Fun K "_law_deep" "_law_deep" s_law_deep f fd) (hm : mg "_law_deep" = some (.ref f)) (hb : Binds K fd ["_law_thing_here"] []) (c_law_deep : Cal P W K mg base "_law_deep" k 1 C_law_deep) (hC : ∀ as S R, as.length = 1 → C as S R → (G_law_deep C_law_deep) (ent N_law_deep as) S { nx := fun _ S' => R .none S', rt := R }) : Cal P W K mg base "_law_deep" (k + 1) 1 C := ⟨f, fd, _, ok_law_deep T F hm hb c_law_deep hC, F.kp, hb, hm⟩
/-! _law_pick -/
abbrev s_law_pick : Stmt := top 14
abbrev N_law_pick : List Str := ["_law_well", "_law_deep_here", "_law_one", "_law_two", "_law_word"]
theorem sc_law_pick : FnScope N_law_pick ["_law_well", "_law_deep_here"] (defScope s_law_pick) := ⟨rfl, rfl, rfl, by decide +kernel, rfl, by decide +kernel, by decide +kernel⟩
def G_law_pick (C_law_dip C_law_any C_law_pick : Ct) : FS :=
    (sSeq (sIf (fOp oLt (fVarB 1) (fC (.int 2)))
    (sRet (fIf (fOp oGt (fCall C_law_dip (gWel 0 (gDat (fC (.int 4)) gaNil))) (fC (.int 0))) (fTup (fCons (fC (.str (PySem.Str.ofString "name"))) (fCons (fCall C_law_any (gWel 0 (gDat (fTup (fCons (fC (.str (PySem.Str.ofString "A"))) (fCons (fC (.str (PySem.Str.ofString "B"))) (fCons (fC (.str (PySem.Str.ofString "C"))) (fCons (fC (.str (PySem.Str.ofString "D"))) fNil))))) gaNil))) fNil))) (fTup (fCons (fC (.str (PySem.Str.ofString "all"))) fNil))))
    sNext)
    (sSeq (sSet 2 (fCall C_law_pick (gWel 0 (gDat (fOp (oI fun i j => .int (i - j)) (fVarB 1) (fC (.int 1))) gaNil))))
    (sSeq (sIf (fOp oEq (fCall C_law_dip (gWel 0 (gDat (fC (.int 2)) gaNil))) (fC (.int 0)))
    (sRet (fTup (fCons (fCall C_law_any (gWel 0 (gDat (fTup (fCons (fC (.str (PySem.Str.ofString "not"))) (fCons (fC (.str (PySem.Str.ofString "rim"))) (fCons (fC (.str (PySem.Str.ofString "inner"))) (fCons (fC (.str (PySem.Str.ofString "closure"))) fNil))))) gaNil))) (fCons (fVar 2) fNil))))
    sNext)
    (sSeq (sSet 3 (fCall C_law_pick (gWel 0 (gDat (fOp oAdd (fC (.int 1)) (fCall C_law_dip (gWel 0 (gDat (fOp (oI fun i j => .int (if j < i then j else i)) (fOp (oI fun i j => .int (i - j)) (fVarB 1) (fC (.int 1))) (fC (.int 3))) gaNil)))) gaNil))))
    (sSeq (sSet 4 (fCall C_law_any (gWel 0 (gDat (fTup (fCons (fC (.str (PySem.Str.ofString "both"))) (fCons (fC (.str (PySem.Str.ofString "either"))) (fCons (fC (.str (PySem.Str.ofString "less"))) fNil)))) gaNil))))
    (sRet (fIf (fOp oEq (fCall C_law_dip (gWel 0 (gDat (fC (.int 2)) gaNil))) (fC (.int 0))) (fTup (fCons (fVar 4) (fCons (fVar 2) (fCons (fVar 3) fNil)))) (fTup (fCons (fVar 4) (fCons (fVar 3) (fCons (fVar 2) fNil)))))))))))
theorem ok_law_pick {k : Nat} {C_law_dip C_law_any C_law_pick : Ct} {C : Ct} (T : Txt K mg) {f : Addr} {fd : FuncData} (F : Fun K "_law_pick" "_law_pick" s_law_pick f fd) (hm : mg "_law_pick" = some (.ref f)) (hb : Binds K fd ["_law_well", "_law_deep_here"] []) (c_law_dip : Cal P W K mg base "_law_dip" k 2 C_law_dip) (c_law_any : Cal P W K mg base "_law_any" k 2 C_law_any) (c_law_pick : Cal P W K mg base "_law_pick" k 2 C_law_pick) (hC : ∀ as S R, as.length = 2 → C as S R → (G_law_pick C_law_dip C_law_any C_law_pick) (ent N_law_pick as) S { nx := fun _ S' => R .none S', rt := R }) : FnOk P W K mg base CX0 (k + 1) f fd ["_law_well", "_law_deep_here"] (spC K 2 C) := by
  have nd := sc_law_pick.nd
  exact dfn_ok F sc_law_pick rfl (by decide) (fun cdv A outer s H E hr =>
    (s_cons (s_if (t_cmp op_ltA sLt (b_var 1) (b_of d_int))
    (s_one (s_ret (d_if (t_cmp op_gt sIntB (b_of (d_call c_law_dip (hr.mono (by omega)) (c_wel 0 (c_dat d_int c_nil)))) (b_of d_int)) (d_tup (a_cons d_str (a_cons (d_call c_law_any (hr.mono (by omega)) (c_wel 0 (c_dat (d_tup (a_cons d_str (a_cons d_str (a_cons d_str (a_cons d_str a_nil))))) c_nil))) a_nil))) (d_tup (a_cons d_str a_nil)))))
    s_nil)
    (s_cons (s_set 2 nd (d_call c_law_pick (hr.mono (by omega)) (c_wel 0 (c_dat (d_sub (b_var 1) (b_of d_int)) c_nil))))
    (s_cons (s_if (t_cmp (op_eqH hr) sEq (b_of (d_call c_law_dip (hr.mono (by omega)) (c_wel 0 (c_dat d_int c_nil)))) (b_of d_int))
    (s_one (s_ret (d_tup (a_cons (d_call c_law_any (hr.mono (by omega)) (c_wel 0 (c_dat (d_tup (a_cons d_str (a_cons d_str (a_cons d_str (a_cons d_str a_nil))))) c_nil))) (a_cons (d_var 2) a_nil)))))
    s_nil)
    (s_cons (s_set 3 nd (d_call c_law_pick (hr.mono (by omega)) (c_wel 0 (c_dat (d_add (b_of d_int) (b_of (d_call c_law_dip (hr.mono (by omega)) (c_wel 0 (c_dat (d_callB2 (call_min2 rfl) sMin2 (b_of (d_sub (b_var 1) (b_of d_int))) (b_of d_int) T.z_min PyProof.Rows.boot_min) c_nil))))) c_nil))))
    (s_cons (s_set 4 nd (d_call c_law_any (hr.mono (by omega)) (c_wel 0 (c_dat (d_tup (a_cons d_str (a_cons d_str (a_cons d_str a_nil)))) c_nil))))
    (s_one (s_ret (d_if (t_cmp (op_eqH hr) sEq (b_of (d_call c_law_dip (hr.mono (by omega)) (c_wel 0 (c_dat d_int c_nil)))) (b_of d_int)) (d_tup (a_cons (d_var 4) (a_cons (d_var 2) (a_cons (d_var 3) a_nil)))) (d_tup (a_cons (d_var 4) (a_cons (d_var 3) (a_cons (d_var 2) a_nil))))))))))))) hC
theorem bd_law_pick {k : Nat} {C_law_dip C_law_any C_law_pick : Ct} {C : Ct} (T : Txt K mg) {f : Addr} {fd : FuncData} (F : Fun K "_law_pick" "_law_pick" s_law_pick f fd) (hm : mg "_law_pick" = some (.ref f)) (hb : Binds K fd ["_law_well", "_law_deep_here"] []) (c_law_dip : Cal P W K mg base "_law_dip" k 2 C_law_dip) (c_law_any : Cal P W K mg base "_law_any" k 2 C_law_any) (c_law_pick : Cal P W K mg base "_law_pick" k 2 C_law_pick) (hC : ∀ as S R, as.length = 2 → C as S R → (G_law_pick C_law_dip C_law_any C_law_pick) (ent N_law_pick as) S { nx := fun _ S' => R .none S', rt := R }) : Cal P W K mg base "_law_pick" (k + 1) 2 C := ⟨f, fd, _, ok_law_pick T F hm hb c_law_dip c_law_any c_law_pick hC, F.kp, hb, hm⟩
/-! _law_odd -/
abbrev s_law_odd : Stmt := top 15
abbrev N_law_odd : List Str := ["_law_well", "_law_some", "_law_more", "_law_last", "_law_far"]
theorem sc_law_odd : FnScope N_law_odd ["_law_well"] (defScope s_law_odd) := ⟨rfl, rfl, rfl, by decide +kernel, rfl, by decide +kernel, by decide +kernel⟩
def G_law_odd (C_law_any : Ct) : FS :=
    (sSeq (sSet 1 (fTup (fCons (fTup (fCons (fC (.str (PySem.Str.ofString "all"))) fNil)) (fCons (fTup (fCons (fC (.str (PySem.Str.ofString "name"))) (fCons (fC (.str (PySem.Str.ofString "D"))) fNil))) (fCons (fC .none) (fCons (fC (.int 0)) (fCons (fC (.bool true)) (fCons (fC (.bool false)) (fCons (fC (.str (PySem.Str.ofString ""))) (fCons (fC (.str (PySem.Str.ofString "A"))) (fCons (fC (.str (PySem.Str.ofString "all"))) (fCons (fC (.str (PySem.Str.ofString "name"))) (fCons (fTup fNil) (fCons (fLst fNil) (fCons (fC (.dict [])) (fCons (fTup (fCons (fC (.str (PySem.Str.ofString "all"))) (fCons (fTup fNil) fNil))) (fCons (fLst (fCons (fC (.str (PySem.Str.ofString "all"))) fNil)) fNil)))))))))))))))))
    (sSeq (sSet 2 (fTup (fCons (fTup (fCons (fC (.str (PySem.Str.ofString "name"))) fNil)) (fCons (fTup (fCons (fC (.str (PySem.Str.ofString "name"))) (fCons (fC (.str (PySem.Str.ofString "E"))) fNil))) (fCons (fTup (fCons (fC (.str (PySem.Str.ofString "name"))) (fCons (fC (.str (PySem.Str.ofString "a"))) fNil))) (fCons (fTup (fCons (fC (.str (PySem.Str.ofString "name"))) (fCons (fC (.str (PySem.Str.ofString ""))) fNil))) (fCons (fTup (fCons (fC (.str (PySem.Str.ofString "name"))) (fCons (fC (.str (PySem.Str.ofString "AB"))) fNil))) (fCons (fTup (fCons (fC (.str (PySem.Str.ofString "name"))) (fCons (fC (.str (PySem.Str.ofString "A"))) (fCons (fC (.str (PySem.Str.ofString "B"))) fNil)))) (fCons (fTup (fCons (fC (.str (PySem.Str.ofString "A"))) fNil)) fNil)))))))))
    (sSeq (sSet 3 (fTup (fCons (fTup (fCons (fC (.str (PySem.Str.ofString "name"))) (fCons (fTup (fCons (fC (.str (PySem.Str.ofString "A"))) fNil)) fNil))) (fCons (fTup (fCons (fC (.str (PySem.Str.ofString "name"))) (fCons (fLst (fCons (fC (.str (PySem.Str.ofString "A"))) fNil)) fNil))) (fCons (fTup (fCons (fLst (fCons (fC (.str (PySem.Str.ofString "name"))) fNil)) (fCons (fC (.str (PySem.Str.ofString "A"))) fNil))) (fCons (fTup (fCons (fC (.dict [])) (fCons (fC (.str (PySem.Str.ofString "A"))) fNil))) (fCons (fTup (fCons (fC (.str (PySem.Str.ofString "All"))) fNil)) (fCons (fTup (fCons (fTup (fCons (fC (.str (PySem.Str.ofString "all"))) fNil)) fNil)) (fCons (fTup (fCons (fC (.str (PySem.Str.ofString "not"))) fNil)) (fCons (fTup (fCons (fC (.str (PySem.Str.ofString "both"))) fNil)) fNil))))))))))
    (sSeq (sSet 4 (fTup (fCons (fTup (fCons (fC (.str (PySem.Str.ofString "name"))) (fCons (fC (.int 1)) fNil))) (fCons (fTup (fCons (fC (.str (PySem.Str.ofString "name"))) (fCons (fC .none) fNil))) (fCons (fTup (fCons (fC (.str (PySem.Str.ofString "name"))) (fCons (fC (.bool true)) fNil))) (fCons (fTup (fCons (fC (.int 1)) (fCons (fC (.str (PySem.Str.ofString "A"))) fNil))) (fCons (fTup (fCons (fC .none) fNil)) (fCons (fTup (fCons (fC (.str (PySem.Str.ofString "rim"))) (fCons (fC (.str (PySem.Str.ofString "A"))) fNil))) (fCons (fTup (fCons (fC (.str (PySem.Str.ofString "not"))) (fCons (fC (.str (PySem.Str.ofString "all"))) fNil))) (fCons (fTup (fCons (fC (.str (PySem.Str.ofString "less"))) (fCons (fC (.int 0)) fNil))) fNil))))))))))
    (sRet (fCall C_law_any (gWel 0 (gDat (fOp oAdd (fOp oAdd (fOp oAdd (fVarB 1) (fVarB 2)) (fVarB 3)) (fVarB 4)) gaNil))))))))
theorem ok_law_odd {k : Nat} {C_law_any : Ct} {C : Ct} (T : Txt K mg) {f : Addr} {fd : FuncData} (F : Fun K "_law_odd" "_law_odd" s_law_odd f fd) (hm : mg "_law_odd" = some (.ref f)) (hb : Binds K fd ["_law_well"] []) (c_law_any : Cal P W K mg base "_law_any" k 2 C_law_any) (hC : ∀ as S R, as.length = 1 → C as S R → (G_law_odd C_law_any) (ent N_law_odd as) S { nx := fun _ S' => R .none S', rt := R }) : FnOk P W K mg base CX0 (k + 1) f fd ["_law_well"] (spC K 1 C) := by
  have nd := sc_law_odd.nd
  exact dfn_ok F sc_law_odd rfl (by decide) (fun cdv A outer s H E hr =>
    (s_cons (s_set 1 nd (d_tup (a_cons (d_tup (a_cons d_str a_nil)) (a_cons (d_tup (a_cons d_str (a_cons d_str a_nil))) (a_cons d_none (a_cons d_int (a_cons d_bool (a_cons d_bool (a_cons d_str (a_cons d_str (a_cons d_str (a_cons d_str (a_cons (d_tup a_nil) (a_cons (d_lst a_nil) (a_cons d_dict0 (a_cons (d_tup (a_cons d_str (a_cons (d_tup a_nil) a_nil))) (a_cons (d_lst (a_cons d_str a_nil)) a_nil)))))))))))))))))
    (s_cons (s_set 2 nd (d_tup (a_cons (d_tup (a_cons d_str a_nil)) (a_cons (d_tup (a_cons d_str (a_cons d_str a_nil))) (a_cons (d_tup (a_cons d_str (a_cons d_str a_nil))) (a_cons (d_tup (a_cons d_str (a_cons d_str a_nil))) (a_cons (d_tup (a_cons d_str (a_cons d_str a_nil))) (a_cons (d_tup (a_cons d_str (a_cons d_str (a_cons d_str a_nil)))) (a_cons (d_tup (a_cons d_str a_nil)) a_nil)))))))))
    (s_cons (s_set 3 nd (d_tup (a_cons (d_tup (a_cons d_str (a_cons (d_tup (a_cons d_str a_nil)) a_nil))) (a_cons (d_tup (a_cons d_str (a_cons (d_lst (a_cons d_str a_nil)) a_nil))) (a_cons (d_tup (a_cons (d_lst (a_cons d_str a_nil)) (a_cons d_str a_nil))) (a_cons (d_tup (a_cons d_dict0 (a_cons d_str a_nil))) (a_cons (d_tup (a_cons d_str a_nil)) (a_cons (d_tup (a_cons (d_tup (a_cons d_str a_nil)) a_nil)) (a_cons (d_tup (a_cons d_str a_nil)) (a_cons (d_tup (a_cons d_str a_nil)) a_nil))))))))))
    (s_cons (s_set 4 nd (d_tup (a_cons (d_tup (a_cons d_str (a_cons d_int a_nil))) (a_cons (d_tup (a_cons d_str (a_cons d_none a_nil))) (a_cons (d_tup (a_cons d_str (a_cons d_bool a_nil))) (a_cons (d_tup (a_cons d_int (a_cons d_str a_nil))) (a_cons (d_tup (a_cons d_none a_nil)) (a_cons (d_tup (a_cons d_str (a_cons d_str a_nil))) (a_cons (d_tup (a_cons d_str (a_cons d_str a_nil))) (a_cons (d_tup (a_cons d_str (a_cons d_int a_nil))) a_nil))))))))))
    (s_one (s_ret (d_call c_law_any (hr.mono (by omega)) (c_wel 0 (c_dat (d_add (b_of (d_add (b_of (d_add (b_var 1) (b_var 2))) (b_var 3))) (b_var 4)) c_nil)))))))))) hC
theorem bd_law_odd {k : Nat} {C_law_any : Ct} {C : Ct} (T : Txt K mg) {f : Addr} {fd : FuncData} (F : Fun K "_law_odd" "_law_odd" s_law_odd f fd) (hm : mg "_law_odd" = some (.ref f)) (hb : Binds K fd ["_law_well"] []) (c_law_any : Cal P W K mg base "_law_any" k 2 C_law_any) (hC : ∀ as S R, as.length = 1 → C as S R → (G_law_odd C_law_any) (ent N_law_odd as) S { nx := fun _ S' => R .none S', rt := R }) : Cal P W K mg base "_law_odd" (k + 1) 1 C := ⟨f, fd, _, ok_law_odd T F hm hb c_law_any hC, F.kp, hb, hm⟩
/-! _law_bent -/
abbrev s_law_bent : Stmt := top 16
abbrev N_law_bent : List Str := ["_law_well", "_law_thing_here", "_law_at", "_law_kind", "_law_words"]
theorem sc_law_bent : FnScope N_law_bent ["_law_well", "_law_thing_here"] (defScope s_law_bent) := ⟨rfl, rfl, rfl, by decide +kernel, rfl, by decide +kernel, by decide +kernel⟩
def G_law_bent (C_law_dip C_law_bent C_law_any C_law_odd : Ct) : FS :=
    (sSeq (sIf (fAnd (fOp oNe (fOp oIx (fVarB 1) (fC (.int 0))) (fC (.str (PySem.Str.ofString "name")))) (fAnd (fOp oGt (fUn oLen (fVarB 1)) (fC (.int 1))) (fOp oGt (fCall C_law_dip (gWel 0 (gDat (fC (.int 3)) gaNil))) (fC (.int 0)))))
    (sSeq (sSet 2 (fOp oAdd (fC (.int 1)) (fCall C_law_dip (gWel 0 (gDat (fOp (oI fun i j => .int (i - j)) (fUn oLen (fVarB 1)) (fC (.int 1))) gaNil)))))
    (sRet (fOp oAdd (fOp oAdd (fSl (fVarB 1) fNoP (fP (fVarB 2))) (fTup (fCons (fCall C_law_bent (gWel 0 (gDat (fOp oIx (fVarB 1) (fVarB 2)) gaNil))) fNil))) (fSl (fVarB 1) (fP (fOp oAdd (fVarB 2) (fC (.int 1)))) fNoP))))
    sNext)
    (sSeq (sSet 3 (fCall C_law_dip (gWel 0 (gDat (fC (.int 9)) gaNil))))
    (sSeq (sIf (fOp oEq (fVarB 3) (fC (.int 0)))
    (sRet (fUn oList (fVarB 1)))
    sNext)
    (sSeq (sIf (fOp oEq (fVarB 3) (fC (.int 1)))
    (sRet (fSl (fVarB 1) fNoP (fP (fUn oNeg (fC (.int 1))))))
    sNext)
    (sSeq (sIf (fOp oEq (fVarB 3) (fC (.int 2)))
    (sRet (fOp oAdd (fVarB 1) (fSl (fVarB 1) (fP (fUn oNeg (fC (.int 1)))) fNoP)))
    sNext)
    (sSeq (sIf (fOp oEq (fVarB 3) (fC (.int 3)))
    (sRet (fOp oAdd (fVarB 1) (fTup (fCons (fTup (fCons (fC (.str (PySem.Str.ofString "all"))) fNil)) fNil))))
    sNext)
    (sSeq (sIf (fOp oEq (fVarB 3) (fC (.int 4)))
    (sRet (fTup (fCons (fVar 1) fNil)))
    sNext)
    (sSeq (sIf (fOp oLt (fVarB 3) (fC (.int 7)))
    (sSeq (sSet 4 (fTup (fCons (fC (.str (PySem.Str.ofString "not"))) (fCons (fC (.str (PySem.Str.ofString "rim"))) (fCons (fC (.str (PySem.Str.ofString "inner"))) (fCons (fC (.str (PySem.Str.ofString "closure"))) (fCons (fC (.str (PySem.Str.ofString "both"))) (fCons (fC (.str (PySem.Str.ofString "either"))) (fCons (fC (.str (PySem.Str.ofString "less"))) (fCons (fC (.str (PySem.Str.ofString "all"))) (fCons (fC (.str (PySem.Str.ofString "name"))) (fCons (fC (.str (PySem.Str.ofString "Not"))) (fCons (fC (.str (PySem.Str.ofString "pick"))) (fCons (fC (.str (PySem.Str.ofString ""))) fNil))))))))))))))
    (sRet (fOp oAdd (fTup (fCons (fCall C_law_any (gWel 0 (gDat (fVar 4) gaNil))) fNil)) (fSl (fVarB 1) (fP (fC (.int 1))) fNoP))))
    sNext)
    (sRet (fCall C_law_odd (gWel 0 gaNil)))))))))))
theorem ok_law_bent {k : Nat} {C_law_dip C_law_bent C_law_any C_law_odd : Ct} {C : Ct} (T : Txt K mg) {f : Addr} {fd : FuncData} (F : Fun K "_law_bent" "_law_bent" s_law_bent f fd) (hm : mg "_law_bent" = some (.ref f)) (hb : Binds K fd ["_law_well", "_law_thing_here"] []) (c_law_dip : Cal P W K mg base "_law_dip" k 2 C_law_dip) (c_law_bent : Cal P W K mg base "_law_bent" k 2 C_law_bent) (c_law_any : Cal P W K mg base "_law_any" k 2 C_law_any) (c_law_odd : Cal P W K mg base "_law_odd" k 1 C_law_odd) (hC : ∀ as S R, as.length = 2 → C as S R → (G_law_bent C_law_dip C_law_bent C_law_any C_law_odd) (ent N_law_bent as) S { nx := fun _ S' => R .none S', rt := R }) : FnOk P W K mg base CX0 (k + 1) f fd ["_law_well", "_law_thing_here"] (spC K 2 C) := by
  have nd := sc_law_bent.nd
  exact dfn_ok F sc_law_bent rfl (by decide) (fun cdv A outer s H E hr =>
    (s_cons (s_if (PW.pt (w_and (t_cmp (op_neH hr) sNe (b_of (d_ix (b_var 1) (b_of d_int))) (b_of d_str)) (w_and (t_cmp op_gt sIntB (b_of (d_callB call_len sLen (b_var 1) T.z_len PySem.boot_len)) (b_of d_int)) (w_and1 (t_cmp op_gt sIntB (b_of (d_call c_law_dip (hr.mono (by omega)) (c_wel 0 (c_dat d_int c_nil)))) (b_of d_int))))))
    (s_cons (s_set 2 nd (d_add (b_of d_int) (b_of (d_call c_law_dip (hr.mono (by omega)) (c_wel 0 (c_dat (d_sub (b_of (d_callB call_len sLen (b_var 1) T.z_len PySem.boot_len)) (b_of d_int)) c_nil))))))
    (s_one (s_ret (d_add (b_of (d_add (b_of (d_slice (b_var 1) o_none (o_some (b_var 2)))) (b_of (d_tup (a_cons (d_call c_law_bent (hr.mono (by omega)) (c_wel 0 (c_dat (d_ix (b_var 1) (b_var 2)) c_nil))) a_nil))))) (b_of (d_slice (b_var 1) (o_some (b_of (d_add (b_var 2) (b_of d_int)))) o_none))))))
    s_nil)
    (s_cons (s_set 3 nd (d_call c_law_dip (hr.mono (by omega)) (c_wel 0 (c_dat d_int c_nil))))
    (s_cons (s_if (t_cmp (op_eqH hr) sEq (b_var 3) (b_of d_int))
    (s_one (s_ret (d_of_n (n_callT call_list_of nList (b_var 1) T.z_list PyProof.Rows.boot_list))))
    s_nil)
    (s_cons (s_if (t_cmp (op_eqH hr) sEq (b_var 3) (b_of d_int))
    (s_one (s_ret (d_slice (b_var 1) o_none (o_some (b_of (d_neg (b_of d_int)))))))
    s_nil)
    (s_cons (s_if (t_cmp (op_eqH hr) sEq (b_var 3) (b_of d_int))
    (s_one (s_ret (d_add (b_var 1) (b_of (d_slice (b_var 1) (o_some (b_of (d_neg (b_of d_int)))) o_none)))))
    s_nil)
    (s_cons (s_if (t_cmp (op_eqH hr) sEq (b_var 3) (b_of d_int))
    (s_one (s_ret (d_add (b_var 1) (b_of (d_tup (a_cons (d_tup (a_cons d_str a_nil)) a_nil))))))
    s_nil)
    (s_cons (s_if (t_cmp (op_eqH hr) sEq (b_var 3) (b_of d_int))
    (s_one (s_ret (d_tup (a_cons (d_var 1) a_nil))))
    s_nil)
    (s_cons (s_if (t_cmp op_ltA sLt (b_var 3) (b_of d_int))
    (s_cons (s_set 4 nd (d_tup (a_cons d_str (a_cons d_str (a_cons d_str (a_cons d_str (a_cons d_str (a_cons d_str (a_cons d_str (a_cons d_str (a_cons d_str (a_cons d_str (a_cons d_str (a_cons d_str a_nil))))))))))))))
    (s_one (s_ret (d_add (b_of (d_tup (a_cons (d_call c_law_any (hr.mono (by omega)) (c_wel 0 (c_dat (d_var 4) c_nil))) a_nil))) (b_of (d_slice (b_var 1) (o_some (b_of d_int)) o_none))))))
    s_nil)
    (s_one (s_ret (d_call c_law_odd (hr.mono (by omega)) (c_wel 0 c_nil))))))))))))) hC
theorem bd_law_bent {k : Nat} {C_law_dip C_law_bent C_law_any C_law_odd : Ct} {C : Ct} (T : Txt K mg) {f : Addr} {fd : FuncData} (F : Fun K "_law_bent" "_law_bent" s_law_bent f fd) (hm : mg "_law_bent" = some (.ref f)) (hb : Binds K fd ["_law_well", "_law_thing_here"] []) (c_law_dip : Cal P W K mg base "_law_dip" k 2 C_law_dip) (c_law_bent : Cal P W K mg base "_law_bent" k 2 C_law_bent) (c_law_any : Cal P W K mg base "_law_any" k 2 C_law_any) (c_law_odd : Cal P W K mg base "_law_odd" k 1 C_law_odd) (hC : ∀ as S R, as.length = 2 → C as S R → (G_law_bent C_law_dip C_law_bent C_law_any C_law_odd) (ent N_law_bent as) S { nx := fun _ S' => R .none S', rt := R }) : Cal P W K mg base "_law_bent" (k + 1) 2 C := ⟨f, fd, _, ok_law_bent T F hm hb c_law_dip c_law_bent c_law_any c_law_odd hC, F.kp, hb, hm⟩
/-! _law_thing -/
abbrev s_law_thing : Stmt := top 17
abbrev N_law_thing : List Str := ["_law_well", "_law_kind", "_law_thing_here"]
theorem sc_law_thing : FnScope N_law_thing ["_law_well"] (defScope s_law_thing) := ⟨rfl, rfl, rfl, by decide +kernel, rfl, by decide +kernel, by decide +kernel⟩
def G_law_thing (C_law_dip C_law_odd C_law_pick C_law_any C_law_bent : Ct) : FS :=
    (sSeq (sSet 1 (fCall C_law_dip (gWel 0 (gDat (fC (.int 10)) gaNil))))
    (sSeq (sIf (fOp oEq (fVarB 1) (fC (.int 0)))
    (sRet (fCall C_law_odd (gWel 0 gaNil)))
    sNext)
    (sSeq (sSet 2 (fCall C_law_pick (gWel 0 (gDat (fCall C_law_any (gWel 0 (gDat (fTup (fCons (fC (.int 1)) (fCons (fC (.int 2)) (fCons (fC (.int 3)) (fCons (fC (.int 4)) (fCons (fC (.int 5)) (fCons (fC (.int 6)) (fCons (fC (.int 6)) (fCons (fC (.int 6)) (fCons (fC (.int 7)) (fCons (fC (.int 7)) (fCons (fC (.int 8)) fNil)))))))))))) gaNil))) gaNil))))
    (sRet (fIf (fOp oLt (fVarB 1) (fC (.int 4))) (fVar 2) (fCall C_law_bent (gWel 0 (gDat (fVar 2) gaNil))))))))
theorem ok_law_thing {k : Nat} {C_law_dip C_law_odd C_law_pick C_law_any C_law_bent : Ct} {C : Ct} (T : Txt K mg) {f : Addr} {fd : FuncData} (F : Fun K "_law_thing" "_law_thing" s_law_thing f fd) (hm : mg "_law_thing" = some (.ref f)) (hb : Binds K fd ["_law_well"] []) (c_law_dip : Cal P W K mg base "_law_dip" k 2 C_law_dip) (c_law_odd : Cal P W K mg base "_law_odd" k 1 C_law_odd) (c_law_pick : Cal P W K mg base "_law_pick" k 2 C_law_pick) (c_law_any : Cal P W K mg base "_law_any" k 2 C_law_any) (c_law_bent : Cal P W K mg base "_law_bent" k 2 C_law_bent) (hC : ∀ as S R, as.length = 1 → C as S R → (G_law_thing C_law_dip C_law_odd C_law_pick C_law_any C_law_bent) (ent N_law_thing as) S { nx := fun _ S' => R .none S', rt := R }) : FnOk P W K mg base CX0 (k + 1) f fd ["_law_well"] (spC K 1 C) := by
  have nd := sc_law_thing.nd
  exact dfn_ok F sc_law_thing rfl (by decide) (fun cdv A outer s H E hr =>
    (s_cons (s_set 1 nd (d_call c_law_dip (hr.mono (by omega)) (c_wel 0 (c_dat d_int c_nil))))
    (s_cons (s_if (t_cmp (op_eqH hr) sEq (b_var 1) (b_of d_int))
    (s_one (s_ret (d_call c_law_odd (hr.mono (by omega)) (c_wel 0 c_nil))))
    s_nil)
    (s_cons (s_set 2 nd (d_call c_law_pick (hr.mono (by omega)) (c_wel 0 (c_dat (d_call c_law_any (hr.mono (by omega)) (c_wel 0 (c_dat (d_tup (a_cons d_int (a_cons d_int (a_cons d_int (a_cons d_int (a_cons d_int (a_cons d_int (a_cons d_int (a_cons d_int (a_cons d_int (a_cons d_int (a_cons d_int a_nil)))))))))))) c_nil))) c_nil))))
    (s_one (s_ret (d_if (t_cmp op_ltA sLt (b_var 1) (b_of d_int)) (d_var 2) (d_call c_law_bent (hr.mono (by omega)) (c_wel 0 (c_dat (d_var 2) c_nil)))))))))) hC
theorem bd_law_thing {k : Nat} {C_law_dip C_law_odd C_law_pick C_law_any C_law_bent : Ct} {C : Ct} (T : Txt K mg) {f : Addr} {fd : FuncData} (F : Fun K "_law_thing" "_law_thing" s_law_thing f fd) (hm : mg "_law_thing" = some (.ref f)) (hb : Binds K fd ["_law_well"] []) (c_law_dip : Cal P W K mg base "_law_dip" k 2 C_law_dip) (c_law_odd : Cal P W K mg base "_law_odd" k 1 C_law_odd) (c_law_pick : Cal P W K mg base "_law_pick" k 2 C_law_pick) (c_law_any : Cal P W K mg base "_law_any" k 2 C_law_any) (c_law_bent : Cal P W K mg base "_law_bent" k 2 C_law_bent) (hC : ∀ as S R, as.length = 1 → C as S R → (G_law_thing C_law_dip C_law_odd C_law_pick C_law_any C_law_bent) (ent N_law_thing as) S { nx := fun _ S' => R .none S', rt := R }) : Cal P W K mg base "_law_thing" (k + 1) 1 C := ⟨f, fd, _, ok_law_thing T F hm hb c_law_dip c_law_odd c_law_pick c_law_any c_law_bent hC, F.kp, hb, hm⟩
/-! law -/
abbrev s_law : Stmt := top 18
abbrev N_law : List Str := ["_law_script", "_law_well", "_law_lap", "_law_thing_here", "_law_due", "_law_told"]
theorem sc_law : FnScope N_law ["_law_script"] (defScope s_law) := ⟨rfl, rfl, rfl, by decide +kernel, rfl, by decide +kernel, by decide +kernel⟩
def G_law (C_law_spring C_law_thing C_law_deep C_law_dip C_is_pick : Ct) : FS :=
    (sWell 1 (fCall C_law_spring (gDat (fVar 0) gaNil))
    (sSeq (sFor (fiR1 (fC (.int 3))) (gNm 2)
    (sSeq (sSet 3 (fCall C_law_thing (gWel 1 gaNil)))
    (sSeq (sSet 4 (fChain oLt oLe (fC (.int 0)) (fCall C_law_deep (gDat (fVar 3) gaNil)) (fC (.int 6))))
    (sSeq (sSet 5 (fIf (fOp oEq (fCall C_law_dip (gWel 1 (gDat (fC (.int 4)) gaNil))) (fC (.int 0))) (fCallK C_is_pick pmId (gDat (fVar 3) gaNil)) (fCall C_is_pick (gDat (fVar 3) gaNil))))
    (sIf (fOp oNe (fUn oRepr (fVarB 5)) (fUn oRepr (fVarB 4)))
    (sRet (fC (.bool false)))
    sNext)))))
    (sRet (fC (.bool true)))))
theorem ok_law {k : Nat} {C_law_spring C_law_thing C_law_deep C_law_dip C_is_pick : Ct} {C : Ct} (T : Txt K mg) {f : Addr} {fd : FuncData} (F : Fun K "law" "law" s_law f fd) (hm : mg "law" = some (.ref f)) (hb : Binds K fd ["_law_script"] []) (c_law_spring : CalN P W K mg base "_law_spring" k 1 C_law_spring) (c_law_thing : Cal P W K mg base "_law_thing" k 1 C_law_thing) (c_law_deep : Cal P W K mg base "_law_deep" k 1 C_law_deep) (c_law_dip : Cal P W K mg base "_law_dip" k 2 C_law_dip) (c_is_pick : Cal P W K mg base "is_pick" k 1 C_is_pick) (k_is_pick__value : CalK P W K mg base "is_pick" k 1 C_is_pick [PySem.Str.ofString "value"] pmId) (hC : ∀ as S R, as.length = 1 → C as S R → (G_law C_law_spring C_law_thing C_law_deep C_law_dip C_is_pick) (ent N_law as) S { nx := fun _ S' => R .none S', rt := R }) : FnOk P W K mg base CX0 (k + 1) f fd ["_law_script"] (spC K 1 C) := by
  have nd := sc_law.nd
  exact dfn_ok F sc_law rfl (by decide) (fun cdv A outer s H E hr =>
    (s_well 1 nd (n_call c_law_spring (hr.mono (by omega)) (c_dat (d_var 0) c_nil)) (s_cons (s_for PassesOwn.never rfl (i_range1 (b_of d_int) T.z_range) (g_name 2 nd)
    (s_cons (s_set 3 nd (d_call c_law_thing (hr.mono (by omega)) (c_wel 1 c_nil)))
    (s_cons (s_set 4 nd (d_chain op_ltA op_le sLt sIntB (b_of d_int) (b_of (d_call c_law_deep (hr.mono (by omega)) (c_dat (d_var 3) c_nil))) (b_of d_int)))
    (s_cons (s_set 5 nd (d_if (t_cmp (op_eqH hr) sEq (b_of (d_call c_law_dip (hr.mono (by omega)) (c_wel 1 (c_dat d_int c_nil)))) (b_of d_int)) (d_callK k_is_pick__value (hr.mono (by omega)) (k_dat (d_var 3) k_nil)) (d_call c_is_pick (hr.mono (by omega)) (c_dat (d_var 3) c_nil))))
    (s_one (s_if (t_cmp (op_neH hr) sNe (b_of (d_callB call_reprD sRepr (b_var 5) T.z_repr PyProof.Rows.boot_repr)) (b_of (d_callB call_reprD sRepr (b_var 4) T.z_repr PyProof.Rows.boot_repr)))
    (s_one (s_ret d_bool))
    s_nil))))))
    (s_one (s_ret d_bool))))) hC
theorem bd_law {k : Nat} {C_law_spring C_law_thing C_law_deep C_law_dip C_is_pick : Ct} {C : Ct} (T : Txt K mg) {f : Addr} {fd : FuncData} (F : Fun K "law" "law" s_law f fd) (hm : mg "law" = some (.ref f)) (hb : Binds K fd ["_law_script"] []) (c_law_spring : CalN P W K mg base "_law_spring" k 1 C_law_spring) (c_law_thing : Cal P W K mg base "_law_thing" k 1 C_law_thing) (c_law_deep : Cal P W K mg base "_law_deep" k 1 C_law_deep) (c_law_dip : Cal P W K mg base "_law_dip" k 2 C_law_dip) (c_is_pick : Cal P W K mg base "is_pick" k 1 C_is_pick) (k_is_pick__value : CalK P W K mg base "is_pick" k 1 C_is_pick [PySem.Str.ofString "value"] pmId) (hC : ∀ as S R, as.length = 1 → C as S R → (G_law C_law_spring C_law_thing C_law_deep C_law_dip C_is_pick) (ent N_law as) S { nx := fun _ S' => R .none S', rt := R }) : Cal P W K mg base "law" (k + 1) 1 C := ⟨f, fd, _, ok_law T F hm hb c_law_spring c_law_thing c_law_deep c_law_dip c_is_pick k_is_pick__value hC, F.kp, hb, hm⟩
end
/-- the defs, as the top leaves them -/
structure Defs (K : Fr_) (mg : Str → Option Value) : Prop where
  d_is_picked : Has K mg "is_picked" s_is_picked ["value", "deep"]
  d_is_pick_by : Has K mg "is_pick_by" s_is_pick_by ["value"]
  d_is_pick : Has K mg "is_pick" s_is_pick ["value"]
  d_law_spring : Has K mg "_law_spring" s_law_spring ["_law_script"]
  d_law_dip : Has K mg "_law_dip" s_law_dip ["_law_well", "_law_many"]
  d_law_any : Has K mg "_law_any" s_law_any ["_law_well", "_law_some"]
  d_law_deep : Has K mg "_law_deep" s_law_deep ["_law_thing_here"]
  d_law_pick : Has K mg "_law_pick" s_law_pick ["_law_well", "_law_deep_here"]
  d_law_odd : Has K mg "_law_odd" s_law_odd ["_law_well"]
  d_law_bent : Has K mg "_law_bent" s_law_bent ["_law_well", "_law_thing_here"]
  d_law_thing : Has K mg "_law_thing" s_law_thing ["_law_well"]
  d_law : Has K mg "law" s_law ["_law_script"]
end K42

namespace K42
open PySem L2 DL
local macro_rules | `(tactic| walk_at "dx") => `(tactic| try simp only [sSeq, sIf, sRet, sRetN, sRetV, sSet, sNext, sPar, sPar3, sAsg, sDrop, sOwn, sApp, sIns, sPut, sNever, fOr, fAnd, fNot, fIf, fOp, fUn, fVar, fVarB, fC, fCons, fNil, fTup, fLst, fSl, fP, fNoP, fCall, fCallK, gDat, gaNil, gWel, fChain, fWix, sWput, sWdiv, gNm, gTp, gsNil, gsCons, fiL, fiT, fiR1, sFor, ent, asB_bool, asI_int, if_tt, if_ff,
  List.getElem?_cons_zero, List.getElem?_cons_succ, List.set_cons_zero, List.set_cons_succ, List.cons_append, List.nil_append, List.length_cons, List.length_nil, List.replicate, Nat.zero_add, Nat.reduceAdd, Nat.reduceSub,
  isi_tup, isi_strD, isi_intD, isi_boolD, isi_listD, isTup.eq_1, isTup.eq_2, isStr.eq_1, isStr.eq_2, Bool.not_true, Bool.not_false, oIx_tup, oIx_lst, oEq_int, oEq_str, oEq_bool, oEq_nil, oNe_int, oNe_str, oNe_bool, oLen_tup, oLen_lst, oI_int, oIC_int, oAdd_int, oAdd_tup, oAdd_lst, oLt_int, oInt_int, oInt_bool, oIn_tup, oIn_lst, oSl_tup, oSl_lst,
  atI_zero, atI_one, atI_two, cut_from1, Bool.false_eq_true, if_false, if_true])
/-- is_picked -/
def lN : List PyData := [PyData.str (PySem.Str.ofString "A"), .str (PySem.Str.ofString "B"), .str (PySem.Str.ofString "C"), .str (PySem.Str.ofString "D")]
def inN (s : Str) : Bool := [PyData.str (PySem.Str.ofString "A"), .str (PySem.Str.ofString "B"), .str (PySem.Str.ofString "C"), .str (PySem.Str.ofString "D")].any fun z => PyData.eqv z (.str s)
def inO (s : Str) : Bool := [PyData.str (PySem.Str.ofString "not"), .str (PySem.Str.ofString "rim"), .str (PySem.Str.ofString "inner"), .str (PySem.Str.ofString "closure")].any fun z => PyData.eqv z (.str s)
def inT (s : Str) : Bool := [PyData.str (PySem.Str.ofString "both"), .str (PySem.Str.ofString "either"), .str (PySem.Str.ofString "less")].any fun z => PyData.eqv z (.str s)
def isPk : Nat → PyData → Bool
  | 0, _ => false
  | n + 1, .tuple (.str w :: r) => if w = Str.ofString "all" then decide (r.length = 0) else if w = Str.ofString "name" then (match r with | [.str s] => inN s | _ => false)
      else if (inO w && decide (r.length = 1)) || (inT w && decide (r.length = 2)) then r.all (isPk n) else false
  | _ + 1, _ => false
def C_isp (n : Nat) : Ct := fun as S R => ∃ (d : PyData) (m : Nat), as = [.dat d, .dat (.int m)] ∧ m < n ∧ R (.bool (isPk m d)) S
theorem small_le (n : Nat) (h : n ≤ 1000) : n ≤ sizeLine := by rw [sizeLine_eq]; omega
theorem flatN : (∀ s, flatD (.str s) = true) ∧ lN.all flatD = true := ⟨fun _ => rfl, rfl⟩
theorem c_isp (k : Nat) : ∀ as S R, as.length = 2 → C_isp (k + 1) as S R → (G_is_picked (C_isp k)) (ent N_is_picked as) S { nx := fun _ S' => R .none S', rt := R } := by
  rintro as S R _ ⟨d, n, rfl, hnk, h⟩
  rcases n with _ | n
  · unfold G_is_picked
    walk_at "dx"
    exact h
  have hk : n < k := by omega
  have e0 : decide (((n + 1 : Nat) : Int) = 0) = false := decide_eq_false (by omega)
  unfold G_is_picked
  cases d with
  | tuple ds =>
    rcases ds with _ | ⟨x, r⟩
    · walk_at "dx"
      simp only [e0, List.isEmpty, Bool.false_eq_true, if_false, if_true]
      simpa [isPk] using h
    · cases x with
      | str w =>
        have lc : ∀ (a b : Sl) (T : PyData → SW → Prop), r.length ≤ 1000 → T (.list ((r.map (isPk n)).map .bool)) S → fLc (fiT (fSl (fVarB 0) (fP (fC (.int 1))) fNoP)) [4] (gNm 4) (fC (.bool true)) (fCall (C_isp k) (gDat (fVar 4) (gDat (fOp (oI fun i j => .int (i - j)) (fVarB 1) (fC (.int 1))) gaNil)))
            [.dat (.tuple (.str w :: r)), .dat (.int (n + 1 : Nat)), a, b, .un] S T := fun a b T hl hT => by
          unfold fLc
          walk_at "dx"
          refine ⟨fun v hv xs => by simp at hv; subst hv; simp, small_le _ hl, ?_⟩
          refine lcGo_map (g := fun d => .bool (isPk n d)) (fun d hd R hR => ?_) (by rw [map_bool, List.nil_append]; exact hT)
          simp only [rwipe]
          walk_at "dx"
          exact ⟨d, n, by rw [show ((n + 1 : Nat) : Int) - 1 = (n : Int) by omega], hk, hR⟩
        walk_at "dx"
        simp only [e0, List.isEmpty, Bool.false_eq_true, if_false, if_true]
        simp only [isPk] at h
        by_cases h1 : w = Str.ofString "all"
        · rw [if_pos h1] at h
          rw [decide_eq_true h1, if_pos rfl]
          rwa [show decide (((r.length + 1 : Nat) : Int) = 1) = decide (r.length = 0) from decide_eq_decide.mpr (by omega)]
        rw [if_neg h1] at h
        rw [decide_eq_false h1, if_neg Bool.false_ne_true]
        by_cases h2 : w = Str.ofString "name"
        · rw [if_pos h2] at h
          rw [decide_eq_true h2, if_pos rfl]
          rcases r with _ | ⟨y, r⟩
          · exact h
          rcases r with _ | ⟨z, r⟩
          · walk_at "dx"
            cases y with
            | str s =>
              walk_at "dx"
              exact ⟨rfl, rfl, h⟩
            | _ => exact h
          · have e : decide ((((y :: z :: r).length + 1 : Nat) : Int) = 2) = false := decide_eq_false (by simp only [List.length_cons]; omega)
            rw [e, if_neg Bool.false_ne_true]
            cases y <;> exact h
        rw [if_neg h2] at h
        rw [decide_eq_false h2, if_neg Bool.false_ne_true]
        have eO : ([PyData.str (PySem.Str.ofString "not"), .str (PySem.Str.ofString "rim"), .str (PySem.Str.ofString "inner"), .str (PySem.Str.ofString "closure")].any fun z => PyData.eqv z (.str w)) = inO w := rfl
        have eT : ([PyData.str (PySem.Str.ofString "both"), .str (PySem.Str.ofString "either"), .str (PySem.Str.ofString "less")].any fun z => PyData.eqv z (.str w)) = inT w := rfl
        have e1 : decide (((r.length + 1 : Nat) : Int) = 2) = decide (r.length = 1) := decide_eq_decide.mpr (by omega)
        have e2 : decide (((r.length + 1 : Nat) : Int) = 3) = decide (r.length = 2) := decide_eq_decide.mpr (by omega)
        simp only [eO, eT, e1, e2]
        have fin : r.length ≤ 1000 → R (.bool (r.all (isPk n))) S → fLc (fiT (fSl (fVarB 0) (fP (fC (.int 1))) fNoP)) [4] (gNm 4) (fC (.bool true)) (fCall (C_isp k) (gDat (fVar 4) (gDat (fOp (oI fun i j => .int (i - j)) (fVarB 1) (fC (.int 1))) gaNil)))
            [.dat (.tuple (.str w :: r)), .dat (.int (n + 1 : Nat)), .dat (.str w), .dat (.int (r.length + 1 : Nat)), .un] S (fun x S1 => oAll x fun d => R d S1) := fun hl q => by
          refine lc _ _ _ hl ⟨_, rfl, ?_⟩
          simpa [List.all_map] using q
        refine ⟨rfl, rfl, ?_⟩
        cases hO : inO w <;> cases hT : inT w <;> simp only [hO, hT, Bool.false_and, Bool.true_and, Bool.or_false, Bool.false_or, Bool.false_eq_true, if_false, if_true] at h ⊢
        · exact ⟨rfl, rfl, h⟩
        · refine ⟨rfl, rfl, ?_⟩
          by_cases hl : r.length = 2
          · simp only [hl, decide_true, if_true] at h ⊢
            have := fin (by omega) h
            rwa [hl] at this
          · simp only [hl, decide_false, Bool.false_eq_true, if_false] at h ⊢
            exact h
        · by_cases hl : r.length = 1
          · simp only [hl, decide_true, if_true] at h ⊢
            have := fin (by omega) h
            rwa [hl] at this
          · simp only [hl, decide_false, Bool.false_eq_true, if_false] at h ⊢
            exact ⟨rfl, rfl, h⟩
        · by_cases hl : r.length = 1
          · simp only [hl, decide_true, Bool.true_or, if_true] at h ⊢
            have := fin (by omega) h
            rwa [hl] at this
          · by_cases hl2 : r.length = 2
            · simp only [hl, hl2, decide_false, decide_true, Bool.or_true, Bool.false_eq_true, if_false, if_true] at h ⊢
              refine ⟨rfl, rfl, ?_⟩
              have := fin (by omega) h
              rwa [hl2] at this
            · simp only [hl, hl2, decide_false, Bool.or_self, Bool.false_eq_true, if_false] at h ⊢
              exact ⟨rfl, rfl, h⟩
      | _ =>
        walk_at "dx"
        simp only [e0, List.isEmpty, Bool.false_eq_true, if_false, if_true]
        simpa [isPk] using h
  | _ =>
    walk_at "dx"
    simp only [e0, List.isEmpty, Bool.false_eq_true, if_false, if_true]
    simpa [isPk] using h
/-! the law's own depth -/
def lmax (ns : List Nat) : Nat := ns.foldr max 0
theorem lmax_ge : ∀ {ns : List Nat} {x : Nat}, x ∈ ns → x ≤ lmax ns
  | n :: ns, x, h => by
    simp only [lmax, List.foldr_cons]
    rcases List.mem_cons.mp h with e | h
    · omega
    · have := lmax_ge h
      simp only [lmax] at this
      omega
theorem lmax_mem : ∀ {ns : List Nat}, ns ≠ [] → lmax ns ∈ ns
  | [n], _ => by simp [lmax]
  | n :: m :: ns, _ => by
    have ih := lmax_mem (ns := m :: ns) (by simp)
    have e : lmax (n :: m :: ns) = max n (lmax (m :: ns)) := rfl
    rw [e]
    by_cases h : n ≤ lmax (m :: ns)
    · rw [Nat.max_eq_right h]
      exact List.mem_cons_of_mem _ ih
    · rw [Nat.max_eq_left (by omega)]
      exact List.mem_cons_self
def want (w : Str) : Nat := if inO w then 1 else if inT w then 2 else 0
def ld : Nat → PyData → Nat
  | 0, _ => 0
  | n + 1, .tuple (.str w :: r) => if w = Str.ofString "name" then (match r with | [.str s] => (inN s).toNat | _ => 0) else if w = Str.ofString "all" then (decide (r.length = 0)).toNat
      else if want w = 0 ∨ r.length ≠ want w then 0 else if (0 : Nat) ∈ r.map (ld n) then 0 else 1 + lmax (r.map (ld n))
  | _ + 1, _ => 0
def C_deep (n : Nat) : Ct := fun as S R => ∃ d, as = [.dat d] ∧ d.depth < n ∧ R (.int (ld n d : Nat)) S
theorem depth_in : ∀ {ds : List PyData} {d : PyData}, d ∈ ds → d.depth ≤ PyData.depthAll ds
  | x :: ds, d, h => by
    simp only [PyData.depthAll]
    rcases List.mem_cons.mp h with e | h
    · subst e
      omega
    · have := depth_in h
      omega
theorem c_deep (k : Nat) : ∀ as S R, as.length = 1 → C_deep (k + 1) as S R → (G_law_deep (C_deep k)) (ent N_law_deep as) S { nx := fun _ S' => R .none S', rt := R } := by
  rintro as S R _ ⟨d, rfl, hd, h⟩
  unfold G_law_deep
  cases d with
  | tuple ds =>
    rcases ds with _ | ⟨x, r⟩
    · walk_at "dx"
      simpa [ld] using h
    · cases x with
      | str w =>
        walk_at "dx"
        have e0 : decide (((r.length + 1 : Nat) : Int) = 0) = false := decide_eq_false (by omega)
        simp only [e0, Bool.false_eq_true, if_false]
        simp only [ld] at h
        by_cases h1 : w = Str.ofString "name"
        · simp only [h1, decide_true, if_true] at h ⊢
          rcases r with _ | ⟨y, r⟩
          · exact h
          rcases r with _ | ⟨z, r⟩
          · walk_at "dx"
            try simp only [List.length_singleton, decide_true, if_true]
            cases y with
            | str s =>
              walk_at "dx"
              refine ⟨rfl, rfl, ?_⟩
              have e : (if inN s = true then (1 : Int) else 0) = ((inN s).toNat : Nat) := by cases inN s <;> rfl
              have eN : ([PyData.str (PySem.Str.ofString "A"), .str (PySem.Str.ofString "B"), .str (PySem.Str.ofString "C"), .str (PySem.Str.ofString "D")].any fun z => PyData.eqv z (.str s)) = inN s := rfl
              rw [eN, e]
              exact h
            | _ => exact h
          · have e : decide ((((y :: z :: r).length : Nat) : Int) = 1) = false := decide_eq_false (by simp only [List.length_cons]; omega)
            simp only [e, Bool.false_eq_true, if_false]
            walk_at "dx"
            cases y <;> exact h
        simp only [h1, decide_false, Bool.false_eq_true, if_false] at h ⊢
        by_cases h2 : w = Str.ofString "all"
        · simp only [h2, decide_true, if_true] at h ⊢
          walk_at "dx"
          have e : (if decide ((r.length : Int) = 0) = true then (1 : Int) else 0) = ((decide (r.length = 0)).toNat : Nat) := by
            by_cases z : r.length = 0
            · simp [z]
            · rw [decide_eq_false (show ¬ ((r.length : Int) = 0) by omega), decide_eq_false z]; rfl
          rw [e]
          exact h
        simp only [h2, decide_false, Bool.false_eq_true, if_false] at h ⊢
        have eO : ([PyData.str (PySem.Str.ofString "not"), .str (PySem.Str.ofString "rim"), .str (PySem.Str.ofString "inner"), .str (PySem.Str.ofString "closure")].any fun z => PyData.eqv z (.str w)) = inO w := rfl
        have eT : ([PyData.str (PySem.Str.ofString "both"), .str (PySem.Str.ofString "either"), .str (PySem.Str.ofString "less")].any fun z => PyData.eqv z (.str w)) = inT w := rfl
        simp only [eO, eT]
        refine ⟨rfl, rfl, ?_⟩
        -- behind the wanted number
        have tail : ∀ m : Nat, m = want w → m ≤ 2 → (sIf (fOr (fOp oEq (fVarB 3) (fC (.int 0))) (fOp oNe (fUn oLen (fVarB 2)) (fVarB 3))) (sRet (fC (.int 0))) sNext)
            [.dat (.tuple (.str w :: r)), .dat (.str w), .dat (.tuple r), .dat (.int (m : Nat)), .un, .un] S { nx := fun ρ' S' => (sSeq (sSet 4 (fLc (fiT (fVarB 2)) [5] (gNm 5) (fC (.bool true)) (fCall (C_deep k) (gDat (fVar 5) gaNil))))
    (sRet (fIf (fOp (oIn false) (fC (.int 0)) (fVarB 4)) (fC (.int 0)) (fOp oAdd (fC (.int 1)) (fUn oMax (fVarB 4)))))) ρ' S' { nx := fun _ S' => R .none S', rt := R }, rt := R } := by
          rintro m hm hm2
          walk_at "dx"
          rw [← hm] at h
          by_cases hm0 : m = 0
          · simp only [hm0, Int.ofNat_zero, decide_true, if_true, true_or] at h ⊢
            exact h
          have e1 : decide ((m : Int) = 0) = false := decide_eq_false (by omega)
          simp only [e1, Bool.false_eq_true, if_false]
          by_cases hl : r.length = m
          · have e2 : decide ((r.length : Int) = (m : Int)) = true := decide_eq_true (by omega)
            simp only [e2, Bool.not_true, Bool.false_eq_true, if_false]
            rw [if_neg (by omega)] at h
            unfold fLc
            walk_at "dx"
            refine ⟨fun v hv xs => by simp at hv; subst hv; simp, small_le _ (by omega), ?_⟩
            refine lcGo_map (g := fun d => .int (ld k d : Nat)) (fun d hd' T hT => ?_) ?_
            · simp only [rwipe]
              walk_at "dx"
              refine ⟨d, rfl, ?_, hT⟩
              have z := depth_in hd'
              simp only [PyData.depth, PyData.depthAll] at hd
              omega
            · walk_at "dx"
              have eL : r.map (fun d => PyData.int (ld k d : Nat)) = (r.map fun d => ((ld k d : Nat) : Int)).map PyData.int := map_int _ _
              have ef : (r.map fun d => PyData.int (ld k d : Nat)).all flatD = true := by
                rw [List.all_map]
                exact List.all_eq_true.mpr fun _ _ => rfl
              refine ⟨rfl, ef, ?_⟩
              have ez : ((r.map fun d => PyData.int (ld k d : Nat)).any fun z => PyData.eqv z (.int 0)) = decide ((0 : Nat) ∈ r.map (ld k)) := by
                rw [Bool.eq_iff_iff, List.any_eq_true, decide_eq_true_eq]
                constructor
                · rintro ⟨z, hz, e⟩
                  obtain ⟨d, hd, rfl⟩ := List.mem_map.mp hz
                  simp only [PyData.eqv, beq_iff_eq] at e
                  exact List.mem_map.mpr ⟨d, hd, by omega⟩
                · intro hz
                  obtain ⟨d, hd, e⟩ := List.mem_map.mp hz
                  exact ⟨_, List.mem_map.mpr ⟨d, hd, rfl⟩, by simp [PyData.eqv, e]⟩
              rw [ez]
              by_cases hz : (0 : Nat) ∈ r.map (ld k)
              · simp only [hz, decide_true, if_true] at h ⊢
                exact h
              · simp only [hz, decide_false, Bool.false_eq_true, if_false] at h ⊢
                refine ⟨r.map fun d => ((ld k d : Nat) : Int), by rw [eL], by rw [List.length_map]; omega, fun M h1 h2 => ?_⟩
                have hM : M = (lmax (r.map (ld k)) : Nat) := by
                  obtain ⟨d, hd, rfl⟩ := List.mem_map.mp h1
                  have q1 := lmax_ge (List.mem_map.mpr ⟨d, hd, rfl⟩ : ld k d ∈ r.map (ld k))
                  have ne : r.map (ld k) ≠ [] := fun z => by rw [List.map_eq_nil_iff] at z; subst z; cases hd
                  obtain ⟨d', hd', e'⟩ := List.mem_map.mp (lmax_mem ne)
                  have q2 := h2 _ (List.mem_map.mpr ⟨d', hd', rfl⟩)
                  omega
                walk_at "dx"
                rw [hM]
                have e : (1 : Int) + (lmax (r.map (ld k)) : Nat) = ((1 + lmax (r.map (ld k)) : Nat) : Int) := by omega
                rw [e]
                exact h
          · have e2 : decide ((r.length : Int) = (m : Int)) = false := decide_eq_false (by omega)
            simp only [e2, Bool.not_false, if_true]
            rw [if_pos (by omega)] at h
            exact h
        cases hO : inO w
        · simp only [Bool.false_eq_true, if_false]
          refine ⟨rfl, rfl, ?_⟩
          cases hT : inT w
          · simp only [Bool.false_eq_true, if_false]
            exact tail 0 (by simp [want, hO, hT]) (by omega)
          · simp only [if_true]
            exact tail 2 (by simp [want, hO, hT]) (by omega)
        · simp only [if_true]
          exact tail 1 (by simp [want, hO]) (by omega)
      | _ =>
        walk_at "dx"
        simpa [ld] using h
  | _ =>
    walk_at "dx"
    simpa [ld] using h
end K42

namespace K42
open PySem L2 DL
local macro_rules | `(tactic| walk_at "dx") => `(tactic| try simp only [sSeq, sIf, sRet, sRetN, sRetV, sSet, sNext, sPar, sPar3, sAsg, sDrop, sOwn, sApp, sIns, sPut, sNever, fOr, fAnd, fNot, fIf, fOp, fUn, fVar, fVarB, fC, fCons, fNil, fTup, fLst, fSl, fP, fNoP, fCall, fCallK, gDat, gaNil, gWel, fChain, fWix, sWput, sWdiv, gNm, gTp, gsNil, gsCons, fiL, fiT, fiR1, sFor, ent, asB_bool, asI_int, if_tt, if_ff,
  List.getElem?_cons_zero, List.getElem?_cons_succ, List.set_cons_zero, List.set_cons_succ, List.cons_append, List.nil_append, List.length_cons, List.length_nil, List.replicate, Nat.zero_add, Nat.reduceAdd, Nat.reduceSub,
  isi_tup, isi_strD, isi_intD, isi_boolD, isi_listD, isTup.eq_1, isTup.eq_2, isStr.eq_1, isStr.eq_2, Bool.not_true, Bool.not_false, oIx_tup, oIx_lst, oEq_int, oEq_str, oEq_bool, oEq_nil, oNe_int, oNe_str, oNe_bool, oLen_tup, oLen_lst, oI_int, oIC_int, oAdd_int, oAdd_tup, oAdd_lst, oLt_int, oInt_int, oInt_bool, oIn_tup, oIn_lst, oSl_tup, oSl_lst,
  atI_zero, atI_one, atI_two, cut_from1, Bool.false_eq_true, if_false, if_true])
theorem ixN_30 : ixN 3 (0 : Int) = some 0 := by decide
theorem ixN_31 : ixN 3 (1 : Int) = some 1 := by decide
theorem ixN_32 : ixN 3 (2 : Int) = some 2 := by decide
def WOk (S : SW) : Prop := ∃ a b c, S = [a, b, c] ∧ 0 ≤ a ∧ 0 ≤ b ∧ b < 2147483579 ∧ 0 ≤ c
def C_spring : Ct := fun as S R => ∃ ns : List Int, as = [.dat (.list (ns.map .int))] ∧ ∀ ms : List Int, WOk ms → R (.list (ms.map .int)) S
theorem c_spring : ∀ as S R, as.length = 1 → C_spring as S R → G_law_spring (ent N_law_spring as) S { nx := fun _ _ => False, rt := fun _ _ => False, rn := fun ds S' => R (.list ds) S' } := by
  rintro as S R _ ⟨ns, rfl, h⟩
  unfold G_law_spring
  walk_at "dx"
  have go : ∀ (ds : List Int) (x : Sl) (b : Int), 0 ≤ b → b < 2147483579 → ∀ (B : Out), (∀ x b, 0 ≤ b → b < 2147483579 → B.nx [.dat (.list (ns.map .int)), .dat (.int b), x, .un] S) →
      forGo (gNm 2) (fun ρ S B => sSet 1 (fOp (oIC (fun _ j => 0 < j) fun i j => .int (i % j)) (fUn oInt (fOp oAdd (fOp oAdd (fOp (oIC CMulA fun i j => .int (i * j)) (fVarB 1) (fC (.int 48611))) (fOp (oIC (fun _ j => 0 < j) fun i j => .int (i % j)) (fUn oInt (fVarB 2)) (fC (.int 2147483587)))) (fC (.int 11)))) (fC (.int 2147483579))) ρ S B) (ds.map .int) [.dat (.list (ns.map .int)), .dat (.int b), x, .un] S B := by
    intro ds
    induction ds with
    | nil => exact fun x b h1 h2 B k => k x b h1 h2
    | cons d ds ih =>
      intro x b h1 h2 B k
      simp only [List.map_cons, forGo]
      walk_at "dx"
      refine ⟨.inl (.inr ⟨by omega, by omega⟩), by omega, by omega, ?_⟩
      exact ih _ _ (by omega) (by omega) _ k
  have ec : cutD (ns.map PyData.int) none (some 63) = (ns.take 63).map .int := by rw [show (63 : Int) = ((63 : Nat) : Int) from rfl, cut_to, List.map_take]
  rw [ec]
  refine go _ _ _ (by omega) (by omega) _ fun x b h1 h2 => ?_
  walk_at "dx"
  have fin : ∀ o : Int, (sRetNew (fLst (fCons (fIf (fOr (fOp oLt (fVarB 3) (fC (.int 0))) (fOp oGe (fVarB 3) (fOp (oIC CPow fun i j => .int (i ^ j.toNat)) (fC (.int 10)) (fC (.int 14))))) (fUn oAbs (fVarB 3)) (fC (.int 0))) (fCons (fVar 1) (fCons (fC (.int 0)) fNil)))))
      [.dat (.list (ns.map .int)), .dat (.int b), x, .dat (.int o)] S { nx := fun _ _ => False, rt := fun _ _ => False, rn := fun ds S' => R (.list ds) S' } := by
    intro o
    unfold sRetNew
    walk_at "dx"
    simp only [oAbs, asI_int]
    have out : ∀ a : Int, 0 ≤ a → R (.list [.int a, .int b, .int 0]) S := fun a ha => h [a, b, 0] ⟨a, b, 0, rfl, ha, h1, h2, by omega⟩
    have ab : ∀ z : Int, 0 ≤ (if z < 0 then -z else z) := fun z => by split <;> omega
    split
    · exact out _ (ab o)
    · refine ⟨⟨by decide, by decide, by decide⟩, ?_⟩
      split
      · exact out _ (ab o)
      · exact out _ (by omega)
  cases ns with
  | nil =>
    walk_at "dx"
    exact fin 0
  | cons n ns =>
    walk_at "dx"
    rw [if_pos (decide_eq_true (by simp only [List.length_map, List.length_cons]; omega))]
    simp only [List.map_cons]
    walk_at "dx"
    exact fin n
def C_dip : Ct := fun as S R => ∃ m : Int, as = [.wel, .dat (.int m)] ∧ 0 < m ∧ m < 1000000 ∧ WOk S ∧ ∀ r S', 0 ≤ r → r < m → WOk S' → R (.int r) S'
theorem dip_gen (c1 p c2 c3 c4 c5 : Int) (h1 : 0 < p) (h1' : p ≤ 2147483579) (h2 : -(2 ^ 64) < c1 ∧ c1 < 2 ^ 64) (h3 : 0 < c2) (h4 : -(2 ^ 64) < c4 ∧ c4 < 2 ^ 64) (h5 : 0 < c5) (h6 : c5.natAbs.log2 < 9000)
    {m a b c : Int} {R : PyData → SW → Prop} (hm : 0 < m) (hm2 : m < 1000000) (ha : 0 ≤ a) (hb : 0 ≤ b) (hb2 : b < 2147483579) (hc : 0 ≤ c) (h : ∀ r S', 0 ≤ r → r < m → WOk S' → R (.int r) S') :
    (sSeq (sIf (fOp oGt (fWix 0 (fC (.int 0))) (fC (.int 0)))
    (sSeq (sWdiv 0 2 (fC (.int 0)) (fOp oDivmod (fWix 0 (fC (.int 0))) (fVarB 1)))
    (sRetV 2))
    sNext)
    (sSeq (sWput 0 (fC (.int 2)) (fOp oAdd (fWix 0 (fC (.int 2))) (fC (.int 1))))
    (sSeq (sSet 3 (fOp (oIC (fun _ j => 0 < j) fun i j => .int (i % j)) (fUn oInt (fOp oAdd (fWix 0 (fC (.int 1))) (fOp (oIC CMulA fun i j => .int (i * j)) (fC (.int c1)) (fWix 0 (fC (.int 2)))))) (fC (.int p))))
    (sSeq (sWput 0 (fC (.int 1)) (fOp (oIC (fun _ j => 0 < j) fun i j => .int (i % j)) (fUn oInt (fOp oAdd (fOp (oIC CMulA fun i j => .int (i * j)) (fVarB 3) (fOp oAdd (fOp (oIC (fun _ j => 0 < j) fun i j => .int (i % j)) (fUn oInt (fVarB 3)) (fC (.int c2))) (fC (.int c3)))) (fOp (oIC CMulA fun i j => .int (i * j)) (fC (.int c4)) (fWix 0 (fC (.int 2)))))) (fC (.int p))))
    (sRet (fOp (oIC (fun _ j => 0 < j) fun i j => .int (i % j)) (fUn oInt (fOp (oIC CDivW fun i j => .int (i / j)) (fWix 0 (fC (.int 1))) (fC (.int c5)))) (fVarB 1)))))))
    [.wel, .dat (.int m), .un, .un] [a, b, c] { nx := fun _ S' => R .none S', rt := R } := by
  walk_at "dx"
  simp only [oDivmod]
  walk_at "dx"
  split
  · refine ⟨by decide, ⟨hm, by omega⟩, ?_⟩
    simp only [ixN_30]
    walk_at "dx"
    exact h _ _ (Int.emod_nonneg _ (by omega)) (Int.emod_lt_of_pos _ hm) ⟨_, _, _, rfl, Int.ediv_nonneg ha (by omega), hb, hb2, hc⟩
  · simp only [ixN_32]
    walk_at "dx"
    simp only [ixN_31]
    walk_at "dx"
    have cm : ∀ x y : Int, 0 ≤ x → x < 2147483579 → CMulA x y := fun x y q1 q2 => .inl (.inl ⟨by omega, by omega⟩)
    have m1 : ∀ x : Int, 0 ≤ x % p := fun x => Int.emod_nonneg _ (by omega)
    have m2 : ∀ x : Int, x % p < 2147483579 := fun x => Int.lt_of_lt_of_le (Int.emod_lt_of_pos _ h1) h1'
    refine ⟨.inl (.inl h2), h1, h3, cm _ _ (m1 _) (m2 _), .inl (.inl h4), h1, ⟨h5, h6⟩, hm, ?_⟩
    exact h _ _ (Int.emod_nonneg _ (by omega)) (Int.emod_lt_of_pos _ hm) ⟨_, _, _, rfl, ha, m1 _, m2 _, by omega⟩
theorem c_dip : ∀ as S R, as.length = 2 → C_dip as S R → G_law_dip (ent N_law_dip as) S { nx := fun _ S' => R .none S', rt := R } := by
  rintro as S R _ ⟨m, rfl, hm, hm2, ⟨a, b, c, rfl, ha, hb, hb2, hc⟩, h⟩
  exact dip_gen 52361 2147483579 4999 43013 37 613 (by decide) (by decide) (by decide) (by decide) (by decide) (by decide) (by decide) hm hm2 ha hb hb2 hc h
def C_any : Ct := fun as S R => ∃ ds, as = [.wel, .dat (.tuple ds)] ∧ 0 < ds.length ∧ ds.length < 1000000 ∧ WOk S ∧ ∀ d S', d ∈ ds → WOk S' → R d S'
theorem c_any : ∀ as S R, as.length = 2 → C_any as S R → G_law_any C_dip (ent N_law_any as) S { nx := fun _ S' => R .none S', rt := R } := by
  rintro as S R _ ⟨ds, rfl, h1, h2, hw, h⟩
  unfold G_law_any
  walk_at "dx"
  refine ⟨_, rfl, by omega, by omega, hw, fun r S' q1 q2 w' => ?_⟩
  walk_at "dx"
  obtain ⟨j, rfl⟩ := Int.eq_ofNat_of_zero_le q1
  have hj : j < ds.length := by omega
  rw [atI_nat (List.getElem?_eq_getElem hj)]
  exact h _ _ (List.getElem_mem hj) w'
end K42

namespace K42
open PySem L2 DL
local macro_rules | `(tactic| walk_at "dx") => `(tactic| try simp only [sSeq, sIf, sRet, sRetN, sRetV, sSet, sNext, sPar, sPar3, sAsg, sDrop, sOwn, sApp, sIns, sPut, sNever, fOr, fAnd, fNot, fIf, fOp, fUn, fVar, fVarB, fC, fCons, fNil, fTup, fLst, fSl, fP, fNoP, fCall, fCallK, gDat, gaNil, gWel, fChain, fWix, sWput, sWdiv, gNm, gTp, gsNil, gsCons, fiL, fiT, fiR1, sFor, ent, asB_bool, asI_int, if_tt, if_ff,
  List.getElem?_cons_zero, List.getElem?_cons_succ, List.set_cons_zero, List.set_cons_succ, List.cons_append, List.nil_append, List.length_cons, List.length_nil, List.replicate, Nat.zero_add, Nat.reduceAdd, Nat.reduceSub,
  isi_tup, isi_strD, isi_intD, isi_boolD, isi_listD, isTup.eq_1, isTup.eq_2, isStr.eq_1, isStr.eq_2, Bool.not_true, Bool.not_false, oIx_tup, oIx_lst, oEq_int, oEq_str, oEq_bool, oEq_nil, oNe_int, oNe_str, oNe_bool, oLen_tup, oLen_lst, oI_int, oIC_int, oAdd_int, oAdd_tup, oAdd_lst, oLt_int, oInt_int, oInt_bool, oIn_tup, oIn_lst, oSl_tup, oSl_lst,
  atI_zero, atI_one, atI_two, cut_from1, Bool.false_eq_true, if_false, if_true])
inductive PT : Nat → PyData → Prop
  | all (n : Nat) : PT n (.tuple [.str (Str.ofString "all")])
  | name (n : Nat) (s : Str) : PT n (.tuple [.str (Str.ofString "name"), .str s])
  | one {n : Nat} {w : Str} {p : PyData} : w ≠ Str.ofString "name" → PT n p → PT (n + 1) (.tuple [.str w, p])
  | two {n : Nat} {w : Str} {p q : PyData} : w ≠ Str.ofString "name" → PT n p → PT n q → PT (n + 1) (.tuple [.str w, p, q])
theorem PT.step {n : Nat} {d : PyData} (h : PT n d) : PT (n + 1) d := by
  induction h with
  | all n => exact .all _
  | name n s => exact .name _ _
  | one h _ ih => exact .one h ih
  | two h _ _ ih ih' => exact .two h ih ih'
theorem PT.mono {n m : Nat} {d : PyData} (h : PT n d) (hm : n ≤ m) : PT m d := by
  obtain ⟨e, rfl⟩ := Nat.le.dest hm
  induction e with
  | zero => exact h
  | succ e ih => exact (ih (by omega)).step
def C_pick (n : Nat) : Ct := fun as S R => ∃ m : Nat, as = [.wel, .dat (.int m)] ∧ m < n ∧ m ≤ 1000 ∧ WOk S ∧ ∀ d S', PT m d → WOk S' → R d S'
theorem any_of {ds : List PyData} {S : SW} {R : PyData → SW → Prop} {x : PyData} {r : List PyData} (e : ds = x :: r) (hl : r.length < 1000) (w : WOk S) (h : ∀ d S', d ∈ ds → WOk S' → R d S') : C_any [.wel, .dat (.tuple ds)] S R :=
  ⟨ds, rfl, by rw [e]; exact Nat.succ_pos _, by rw [e, List.length_cons]; omega, w, h⟩
theorem c_pick (k : Nat) : ∀ as S R, as.length = 2 → C_pick (k + 1) as S R → G_law_pick C_dip C_any (C_pick k) (ent N_law_pick as) S { nx := fun _ S' => R .none S', rt := R } := by
  rintro as S R _ ⟨m, rfl, hm, hb, w, h⟩
  unfold G_law_pick
  walk_at "dx"
  by_cases h1 : (m : Int) < 2
  · simp only [h1, decide_true, if_true]
    refine ⟨4, rfl, by omega, by omega, w, fun r S1 r1 r2 w1 => ?_⟩
    walk_at "dx"
    split
    · refine any_of rfl (by decide) w1 fun d S2 hd w2 => ?_
      have : ∃ s, d = .str s := by
        simp only [List.mem_cons, List.not_mem_nil, or_false] at hd
        rcases hd with e | e | e | e <;> exact ⟨_, e⟩
      obtain ⟨s, rfl⟩ := this
      exact h _ _ (.name _ _) w2
    · exact h _ _ (.all _) w1
  simp only [h1, decide_false, Bool.false_eq_true, if_false]
  obtain ⟨m, rfl⟩ : ∃ m', m = m' + 1 := ⟨m - 1, by omega⟩
  refine ⟨m, by rw [show (((m + 1 : Nat) : Int) - 1) = (m : Int) by omega], by omega, by omega, w, fun d1 S1 p1 w1 => ?_⟩
  walk_at "dx"
  refine ⟨2, rfl, by omega, by omega, w1, fun r S2 r1 r2 w2 => ?_⟩
  walk_at "dx"
  split
  · refine any_of rfl (by decide) w2 fun d S3 hd w3 => ?_
    have : ∃ s, d = .str s ∧ s ≠ Str.ofString "name" := by
      simp only [List.mem_cons, List.not_mem_nil, or_false] at hd
      rcases hd with e | e | e | e <;> exact ⟨_, e, by decide⟩
    obtain ⟨s, rfl, hs⟩ := this
    exact h _ _ (.one hs p1) w3
  · refine ⟨_, rfl, by split <;> omega, by split <;> omega, w2, fun r' S3 r1' r2' w3 => ?_⟩
    walk_at "dx"
    obtain ⟨j, rfl⟩ := Int.eq_ofNat_of_zero_le r1'
    have hj : 1 + j ≤ m := by split at r2' <;> omega
    refine ⟨1 + j, by rw [show ((1 : Int) + (j : Int)) = ((1 + j : Nat) : Int) by omega], by omega, by omega, w3, fun d2 S4 p2 w4 => ?_⟩
    walk_at "dx"
    refine any_of rfl (by decide) w4 fun d S5 hd w5 => ?_
    have : ∃ s, d = .str s ∧ s ≠ Str.ofString "name" := by
      simp only [List.mem_cons, List.not_mem_nil, or_false] at hd
      rcases hd with e | e | e <;> exact ⟨_, e, by decide⟩
    obtain ⟨s, rfl, hs⟩ := this
    walk_at "dx"
    refine ⟨2, rfl, by omega, by omega, w5, fun r S6 r1 r2 w6 => ?_⟩
    walk_at "dx"
    split
    · exact h _ _ (.two hs p1 (p2.mono hj)) w6
    · exact h _ _ (.two hs (p2.mono hj) p1) w6
def C_odd : Ct := fun as S R => as = [.wel] ∧ WOk S ∧ ∀ d S', d.depth ≤ 3 → WOk S' → R d S'
theorem dep_tup {ds : List PyData} {k : Nat} (h : ∀ x ∈ ds, x.depth ≤ k) : (PyData.tuple ds).depth ≤ k + 1 := by
  have : ∀ ds : List PyData, (∀ x ∈ ds, x.depth ≤ k) → PyData.depthAll ds ≤ k := fun ds => by
    induction ds with
    | nil => intro _; simp only [PyData.depthAll]; omega
    | cons x ds ih =>
      intro h
      have a := h x List.mem_cons_self
      have b := ih fun y hy => h y (List.mem_cons_of_mem _ hy)
      simp only [PyData.depthAll]
      omega
  have := this ds h
  simp only [PyData.depth]
  omega
theorem dep_lst (ds : List PyData) : (PyData.list ds).depth = (PyData.tuple ds).depth := by simp only [PyData.depth]
theorem dep_of {ds : List PyData} {k : Nat} (h : (PyData.tuple ds).depth ≤ k + 1) : ∀ x ∈ ds, x.depth ≤ k := fun x hx => by
  have a := depth_in hx
  simp only [PyData.depth] at h
  omega
theorem c_odd : ∀ as S R, as.length = 1 → C_odd as S R → G_law_odd C_any (ent N_law_odd as) S { nx := fun _ S' => R .none S', rt := R } := by
  rintro as S R _ ⟨rfl, w, h⟩
  unfold G_law_odd
  walk_at "dx"
  refine ⟨small_le _ (by decide), small_le _ (by decide), small_le _ (by decide), ?_⟩
  refine any_of rfl (by decide) w fun d S' hd w' => h _ _ ?_ w'
  revert d
  decide
end K42

namespace K42
open PySem L2 DL
local macro_rules | `(tactic| walk_at "dx") => `(tactic| try simp only [sSeq, sIf, sRet, sRetN, sRetV, sSet, sNext, sPar, sPar3, sAsg, sDrop, sOwn, sApp, sIns, sPut, sNever, fOr, fAnd, fNot, fIf, fOp, fUn, fVar, fVarB, fC, fCons, fNil, fTup, fLst, fSl, fP, fNoP, fCall, fCallK, gDat, gaNil, gWel, fChain, fWix, sWput, sWdiv, gNm, gTp, gsNil, gsCons, fiL, fiT, fiR1, sFor, ent, asB_bool, asI_int, if_tt, if_ff,
  List.getElem?_cons_zero, List.getElem?_cons_succ, List.set_cons_zero, List.set_cons_succ, List.cons_append, List.nil_append, List.length_cons, List.length_nil, List.replicate, Nat.zero_add, Nat.reduceAdd, Nat.reduceSub,
  isi_tup, isi_strD, isi_intD, isi_boolD, isi_listD, isTup.eq_1, isTup.eq_2, isStr.eq_1, isStr.eq_2, Bool.not_true, Bool.not_false, oIx_tup, oIx_lst, oEq_int, oEq_str, oEq_bool, oEq_nil, oNe_int, oNe_str, oNe_bool, oLen_tup, oLen_lst, oI_int, oIC_int, oAdd_int, oAdd_tup, oAdd_lst, oLt_int, oInt_int, oInt_bool, oIn_tup, oIn_lst, oSl_tup, oSl_lst,
  atI_zero, atI_one, atI_two, cut_from1, Bool.false_eq_true, if_false, if_true])
theorem mem_cut {ds : List PyData} {lo hi : Option Int} {x : PyData} (h : x ∈ cutD ds lo hi) : x ∈ ds := List.mem_of_mem_drop (List.mem_of_mem_take h)
theorem len_cut (ds : List PyData) (lo hi : Option Int) : (cutD ds lo hi).length ≤ ds.length := by
  simp only [cutD, List.length_take, List.length_drop]
  omega
/-- of a pick's rows -/
def row (m : Nat) (d : PyData) : Prop := ∃ w ds, d = .tuple (.str w :: ds) ∧ ds.length ≤ 2 ∧ d.depth ≤ m + 2 ∧ (w ≠ Str.ofString "name" → 0 < ds.length → 0 < m ∧ ∀ x ∈ ds, PT (m - 1) x)
theorem PT.row {m : Nat} {d : PyData} (h : PT m d) : row m d := by
  induction h with
  | all n => exact ⟨_, [], rfl, by decide, by simp only [PyData.depth, PyData.depthAll]; omega, fun _ z => absurd z (by decide)⟩
  | name n s => exact ⟨_, [_], rfl, by simp, by simp only [PyData.depth, PyData.depthAll]; omega, fun z => absurd rfl z⟩
  | one hw p ih =>
    obtain ⟨_, _, rfl, _, dd, _⟩ := ih
    refine ⟨_, [_], rfl, by simp, dep_tup fun x hx => ?_, fun _ _ => ⟨by omega, fun x hx => ?_⟩⟩
    · simp only [List.mem_cons, List.not_mem_nil, or_false] at hx
      rcases hx with e | e <;> subst e
      · simp only [PyData.depth]; omega
      · exact dd
    · simp only [List.mem_cons, List.not_mem_nil, or_false] at hx
      subst hx
      exact p
  | two hw p q ih ih' =>
    obtain ⟨_, _, rfl, _, dd, _⟩ := ih
    obtain ⟨_, _, rfl, _, dd', _⟩ := ih'
    refine ⟨_, [_, _], rfl, by simp, dep_tup fun x hx => ?_, fun _ _ => ⟨by omega, fun x hx => ?_⟩⟩
    · simp only [List.mem_cons, List.not_mem_nil, or_false] at hx
      rcases hx with e | e | e <;> subst e
      · simp only [PyData.depth]; omega
      · exact dd
      · exact dd'
    · simp only [List.mem_cons, List.not_mem_nil, or_false] at hx
      rcases hx with e | e <;> subst e
      · exact p
      · exact q
def C_bent (n : Nat) : Ct := fun as S R => ∃ m d, as = [.wel, .dat d] ∧ m < n ∧ PT m d ∧ WOk S ∧ ∀ e S', e.depth ≤ m + 3 → WOk S' → R e S'
theorem c_bent (k : Nat) : ∀ as S R, as.length = 2 → C_bent (k + 1) as S R → G_law_bent C_dip (C_bent k) C_any C_odd (ent N_law_bent as) S { nx := fun _ S' => R .none S', rt := R } := by
  rintro as S R _ ⟨m, d, rfl, hm, p, w, h⟩
  obtain ⟨s, ds, rfl, hl, dd, hp⟩ := p.row
  have de := dep_of dd
  unfold G_law_bent
  walk_at "dx"
  have tail : ∀ S, WOk S → (sSeq (sSet 3 (fCall C_dip (gWel 0 (gDat (fC (.int 9)) gaNil))))
    (sSeq (sIf (fOp oEq (fVarB 3) (fC (.int 0)))
    (sRet (fUn oList (fVarB 1)))
    sNext)
    (sSeq (sIf (fOp oEq (fVarB 3) (fC (.int 1)))
    (sRet (fSl (fVarB 1) fNoP (fP (fUn oNeg (fC (.int 1))))))
    sNext)
    (sSeq (sIf (fOp oEq (fVarB 3) (fC (.int 2)))
    (sRet (fOp oAdd (fVarB 1) (fSl (fVarB 1) (fP (fUn oNeg (fC (.int 1)))) fNoP)))
    sNext)
    (sSeq (sIf (fOp oEq (fVarB 3) (fC (.int 3)))
    (sRet (fOp oAdd (fVarB 1) (fTup (fCons (fTup (fCons (fC (.str (PySem.Str.ofString "all"))) fNil)) fNil))))
    sNext)
    (sSeq (sIf (fOp oEq (fVarB 3) (fC (.int 4)))
    (sRet (fTup (fCons (fVar 1) fNil)))
    sNext)
    (sSeq (sIf (fOp oLt (fVarB 3) (fC (.int 7)))
    (sSeq (sSet 4 (fTup (fCons (fC (.str (PySem.Str.ofString "not"))) (fCons (fC (.str (PySem.Str.ofString "rim"))) (fCons (fC (.str (PySem.Str.ofString "inner"))) (fCons (fC (.str (PySem.Str.ofString "closure"))) (fCons (fC (.str (PySem.Str.ofString "both"))) (fCons (fC (.str (PySem.Str.ofString "either"))) (fCons (fC (.str (PySem.Str.ofString "less"))) (fCons (fC (.str (PySem.Str.ofString "all"))) (fCons (fC (.str (PySem.Str.ofString "name"))) (fCons (fC (.str (PySem.Str.ofString "Not"))) (fCons (fC (.str (PySem.Str.ofString "pick"))) (fCons (fC (.str (PySem.Str.ofString ""))) fNil))))))))))))))
    (sRet (fOp oAdd (fTup (fCons (fCall C_any (gWel 0 (gDat (fVar 4) gaNil))) fNil)) (fSl (fVarB 1) (fP (fC (.int 1))) fNoP))))
    sNext)
    (sRet (fCall C_odd (gWel 0 gaNil)))))))))) [.wel, .dat (.tuple (.str s :: ds)), .un, .un, .un] S { nx := fun _ S' => R .none S', rt := R } := by
    intro S w
    walk_at "dx"
    refine ⟨9, rfl, by omega, by omega, w, fun r S1 r1 r2 w1 => ?_⟩
    walk_at "dx"
    by_cases k0 : r = 0
    · rw [decide_eq_true k0, if_pos rfl]
      simp only [oList, rowD]
      exact h _ _ (by rw [dep_lst]; omega) w1
    rw [decide_eq_false k0, if_neg Bool.false_ne_true]
    walk_at "dx"
    by_cases k1 : r = 1
    · rw [decide_eq_true k1, if_pos rfl]
      walk_at "dx"
      simp only [oNeg]
      walk_at "dx"
      exact h _ _ (Nat.le_succ_of_le (dep_tup fun x hx => de x (mem_cut hx))) w1
    rw [decide_eq_false k1, if_neg Bool.false_ne_true]
    walk_at "dx"
    by_cases k2 : r = 2
    · rw [decide_eq_true k2, if_pos rfl]
      walk_at "dx"
      simp only [oNeg]
      walk_at "dx"
      have z := len_cut (.str s :: ds) (some (-1)) none
      simp only [List.length_cons] at z
      refine ⟨small_le _ (by omega), h _ _ (Nat.le_succ_of_le (dep_tup fun x hx => ?_)) w1⟩
      rcases List.mem_cons.mp hx with e | hx
      · subst e
        exact de _ List.mem_cons_self
      rcases List.mem_append.mp hx with hx | hx
      · exact de x (List.mem_cons_of_mem _ hx)
      · exact de x (mem_cut hx)
    rw [decide_eq_false k2, if_neg Bool.false_ne_true]
    walk_at "dx"
    by_cases k3 : r = 3
    · rw [decide_eq_true k3, if_pos rfl]
      walk_at "dx"
      refine ⟨small_le _ (by omega), h _ _ (Nat.le_succ_of_le (dep_tup fun x hx => ?_)) w1⟩
      rcases List.mem_cons.mp hx with e | hx
      · subst e
        exact de _ List.mem_cons_self
      rcases List.mem_append.mp hx with hx | hx
      · exact de x (List.mem_cons_of_mem _ hx)
      · rw [List.mem_singleton.mp hx]
        simp only [PyData.depth, PyData.depthAll]
        omega
    rw [decide_eq_false k3, if_neg Bool.false_ne_true]
    walk_at "dx"
    by_cases k4 : r = 4
    · rw [decide_eq_true k4, if_pos rfl]
      walk_at "dx"
      exact h _ _ (dep_tup fun x hx => by rw [List.mem_singleton.mp hx]; exact dd) w1
    rw [decide_eq_false k4, if_neg Bool.false_ne_true]
    walk_at "dx"
    split
    · walk_at "dx"
      refine any_of rfl (by decide) w1 fun d S2 hd w2 => ?_
      walk_at "dx"
      refine ⟨small_le _ (by omega), h _ _ (Nat.le_succ_of_le (dep_tup fun x hx => ?_)) w2⟩
      rcases List.mem_cons.mp hx with e | hx
      · subst e
        have : ∃ s, x = .str s := by
          simp only [List.mem_cons, List.not_mem_nil, or_false] at hd
          rcases hd with e | e | e | e | e | e | e | e | e | e | e | e <;> exact ⟨_, e⟩
        obtain ⟨s, rfl⟩ := this
        simp only [PyData.depth]
        omega
      · exact de x (List.mem_cons_of_mem _ hx)
    · walk_at "dx"
      exact ⟨rfl, w1, fun d S' hd w' => h _ _ (by omega) w'⟩
  by_cases hn : s = Str.ofString "name"
  · rw [decide_eq_true hn]
    simp only [Bool.not_true, Bool.false_eq_true, if_false]
    have t := tail _ w
    revert t
    walk_at "dx"
    exact fun t => t
  simp only [hn, decide_false, Bool.not_false, if_true]
  by_cases hz : ds.length = 0
  · have e : decide ((1 : Int) < ((ds.length + 1 : Nat) : Int)) = false := decide_eq_false (by omega)
    simp only [e, Bool.false_eq_true, if_false]
    have t := tail _ w
    revert t
    walk_at "dx"
    exact fun t => t
  have e : decide ((1 : Int) < ((ds.length + 1 : Nat) : Int)) = true := decide_eq_true (by omega)
  simp only [e, if_true]
  walk_at "dx"
  obtain ⟨m0, hx⟩ := hp hn (by omega)
  refine ⟨3, rfl, by omega, by omega, w, fun r S1 r1 r2 w1 => ?_⟩
  walk_at "dx"
  split
  · walk_at "dx"
    refine ⟨_, rfl, by omega, by omega, w1, fun r' S2 r1' r2' w2 => ?_⟩
    walk_at "dx"
    obtain ⟨j, rfl⟩ := Int.eq_ofNat_of_zero_le r1'
    have hj : j < ds.length := by omega
    rw [show (1 : Int) + (j : Int) = ((j + 1 : Nat) : Int) by omega, atI_nat (j := j + 1) (show (PyData.str s :: ds)[j + 1]? = some ds[j] from by rw [List.getElem?_cons_succ]; exact List.getElem?_eq_getElem hj)]
    refine ⟨m - 1, _, rfl, by omega, hx _ (List.getElem_mem hj), w2, fun e S3 he w3 => ?_⟩
    have z1 := len_cut (.str s :: ds) none (some ((j + 1 : Nat) : Int))
    have z2 := len_cut (.str s :: ds) (some (((j + 1 : Nat) : Int) + 1)) none
    simp only [List.length_cons] at z1 z2
    refine ⟨small_le _ (by omega), small_le _ (by rw [List.length_append, List.length_singleton]; omega), h _ _ (dep_tup (k := m + 2) fun x hx => ?_) w3⟩
    rcases List.mem_append.mp hx with hx | hx
    · rcases List.mem_append.mp hx with hx | hx
      · exact Nat.le_succ_of_le (de x (mem_cut hx))
      · rw [List.mem_singleton.mp hx]
        omega
    · exact Nat.le_succ_of_le (de x (mem_cut hx))
  · have t := tail _ w1
    revert t
    walk_at "dx"
    exact fun t => t
def C_thing : Ct := fun as S R => as = [.wel] ∧ WOk S ∧ ∀ d S', d.depth ≤ 11 → WOk S' → R d S'
theorem c_thing (k : Nat) (hk : 9 ≤ k) : ∀ as S R, as.length = 1 → C_thing as S R → G_law_thing C_dip C_odd (C_pick k) C_any (C_bent k) (ent N_law_thing as) S { nx := fun _ S' => R .none S', rt := R } := by
  rintro as S R _ ⟨rfl, w, h⟩
  unfold G_law_thing
  walk_at "dx"
  refine ⟨10, rfl, by omega, by omega, w, fun r S1 r1 r2 w1 => ?_⟩
  walk_at "dx"
  split
  · exact ⟨rfl, w1, fun d S' hd w' => h _ _ (by omega) w'⟩
  · refine any_of rfl (by decide) w1 fun d S2 hd w2 => ?_
    have : ∃ m : Nat, m ≤ 8 ∧ d = .int m := by
      simp only [List.mem_cons, List.not_mem_nil, or_false] at hd
      rcases hd with e | e | e | e | e | e | e | e | e | e | e <;> subst e
      · exact ⟨1, by omega, rfl⟩
      · exact ⟨2, by omega, rfl⟩
      · exact ⟨3, by omega, rfl⟩
      · exact ⟨4, by omega, rfl⟩
      · exact ⟨5, by omega, rfl⟩
      · exact ⟨6, by omega, rfl⟩
      · exact ⟨6, by omega, rfl⟩
      · exact ⟨6, by omega, rfl⟩
      · exact ⟨7, by omega, rfl⟩
      · exact ⟨7, by omega, rfl⟩
      · exact ⟨8, by omega, rfl⟩
    obtain ⟨m, hm, rfl⟩ := this
    refine ⟨m, rfl, by omega, by omega, w2, fun d S3 p w3 => ?_⟩
    walk_at "dx"
    split
    · obtain ⟨_, _, _, _, dd, _⟩ := p.row
      exact h _ _ (by omega) w3
    · exact ⟨m, d, rfl, by omega, p, w3, fun e S4 he w4 => h _ _ (by omega) w4⟩
def C_pk : Ct := fun as S R => ∃ d, as = [.dat d] ∧ R (.bool (isPk 6 d)) S
theorem c_pk_by (k : Nat) (hk : 7 ≤ k) : ∀ as S R, as.length = 1 → C_pk as S R → G_is_pick_by (C_isp k) (ent N_is_pick_by as) S { nx := fun _ S' => R .none S', rt := R } := by
  rintro as S R _ ⟨d, rfl, h⟩
  unfold G_is_pick_by
  walk_at "dx"
  exact ⟨d, 6, rfl, by omega, h⟩
theorem c_pk : ∀ as S R, as.length = 1 → C_pk as S R → G_is_pick C_pk (ent N_is_pick as) S { nx := fun _ S' => R .none S', rt := R } := by
  rintro as S R _ ⟨d, rfl, h⟩
  unfold G_is_pick
  walk_at "dx"
  exact ⟨d, rfl, h⟩
/-! the plain law -/
theorem in_of {z : Str} {ws : List Str} (h : ((ws.map PyData.str).any fun y => PyData.eqv y (.str z)) = true) : z ∈ ws := by
  obtain ⟨y, hy, e⟩ := List.any_eq_true.mp h
  obtain ⟨x, hx, rfl⟩ := List.mem_map.mp hy
  simp only [PyData.eqv, beq_iff_eq] at e
  exact e ▸ hx
theorem apart {w : Str} (h : inO w = true) : inT w = false := by
  have := in_of (ws := [Str.ofString "not", Str.ofString "rim", Str.ofString "inner", Str.ofString "closure"]) h
  simp only [List.mem_cons, List.not_mem_nil, or_false] at this
  rcases this with e | e | e | e <;> subst e <;> decide
theorem lmax_le {ns : List Nat} {n : Nat} (h : ∀ x ∈ ns, x ≤ n) : lmax ns ≤ n := by
  cases ns with
  | nil => simp [lmax]
  | cons a ns => exact h _ (lmax_mem (by simp))
theorem pk_deep : ∀ (k n : Nat) (d : PyData), d.depth < k → (isPk n d = true ↔ 0 < ld k d ∧ ld k d ≤ n) := by
  intro k
  induction k with
  | zero => intro n d h; omega
  | succ k ih =>
    intro n d hd
    cases n with
    | zero => exact ⟨fun h => by simp [isPk] at h, fun h => by omega⟩
    | succ n =>
      cases d with
      | tuple ds =>
        rcases ds with _ | ⟨x, r⟩
        · simp [isPk, ld]
        cases x with
        | str w =>
          simp only [isPk, ld]
          by_cases h1 : w = Str.ofString "name"
          · have h2 : w ≠ Str.ofString "all" := by rw [h1]; decide
            rw [if_neg h2, if_pos h1, if_pos h1]
            rcases r with _ | ⟨y, _ | ⟨z, r⟩⟩
            · simp
            · cases y with
              | str s => cases hs : inN s <;> simp [hs]
              | _ => simp
            · cases y <;> simp
          rw [if_neg h1, if_neg h1]
          by_cases h2 : w = Str.ofString "all"
          · rw [if_pos h2, if_pos h2]
            by_cases z : r.length = 0
            · simp [z]
            · rw [decide_eq_false z]; simp
          rw [if_neg h2, if_neg h2]
          have hx : ∀ x ∈ r, x.depth < k := fun x hx => by
            have a := depth_in hx
            simp only [PyData.depth, PyData.depthAll] at hd
            omega
          have core : 0 < r.length → (r.all (isPk n) = true ↔ 0 < (if (0 : Nat) ∈ r.map (ld k) then 0 else 1 + lmax (r.map (ld k))) ∧ (if (0 : Nat) ∈ r.map (ld k) then 0 else 1 + lmax (r.map (ld k))) ≤ n + 1) := fun hr => by
            rw [List.all_eq_true]
            constructor
            · intro h
              have z : (0 : Nat) ∉ r.map (ld k) := fun z => by
                obtain ⟨x, q, e⟩ := List.mem_map.mp z
                have := ((ih n x (hx x q)).mp (h x q)).1
                omega
              rw [if_neg z]
              refine ⟨by omega, ?_⟩
              have := lmax_le (n := n) (ns := r.map (ld k)) fun y hy => by
                obtain ⟨x, q, e⟩ := List.mem_map.mp hy
                have := ((ih n x (hx x q)).mp (h x q)).2
                omega
              omega
            · intro h x q
              by_cases z : (0 : Nat) ∈ r.map (ld k)
              · rw [if_pos z] at h
                omega
              · rw [if_neg z] at h
                have a := lmax_ge (List.mem_map_of_mem (f := ld k) q)
                have b : ld k x ≠ 0 := fun e => z (e ▸ List.mem_map_of_mem (f := ld k) q)
                exact (ih n x (hx x q)).mpr ⟨by omega, by omega⟩
          cases hO : inO w
          · cases hT : inT w
            · simp [want, hO, hT]
            · simp only [want, hO, hT, Bool.false_and, Bool.true_and, Bool.false_or, Bool.false_eq_true, if_false, if_true]
              by_cases hl : r.length = 2
              · rw [if_pos (decide_eq_true hl), if_neg (by omega)]
                exact core (by omega)
              · rw [if_neg (by simpa using hl), if_pos (.inr hl)]
                simp
          · have hT := apart hO
            simp only [want, hO, hT, Bool.false_and, Bool.true_and, Bool.or_false, Bool.false_eq_true, if_false, if_true]
            by_cases hl : r.length = 1
            · rw [if_pos (decide_eq_true hl), if_neg (by omega)]
              exact core (by omega)
            · rw [if_neg (by simpa using hl), if_pos (.inr hl)]
              simp
        | _ => simp [isPk, ld]
      | _ => simp [isPk, ld]
end K42

namespace K42
open PySem L2 DL
local macro_rules | `(tactic| walk_at "dx") => `(tactic| try simp only [sSeq, sIf, sRet, sRetN, sRetV, sSet, sNext, sPar, sPar3, sAsg, sDrop, sOwn, sApp, sIns, sPut, sNever, fOr, fAnd, fNot, fIf, fOp, fUn, fVar, fVarB, fC, fCons, fNil, fTup, fLst, fSl, fP, fNoP, fCall, fCallK, gDat, gaNil, gWel, fChain, fWix, sWput, sWdiv, gNm, gTp, gsNil, gsCons, fiL, fiT, fiR1, sFor, ent, asB_bool, asI_int, if_tt, if_ff,
  List.getElem?_cons_zero, List.getElem?_cons_succ, List.set_cons_zero, List.set_cons_succ, List.cons_append, List.nil_append, List.length_cons, List.length_nil, List.replicate, Nat.zero_add, Nat.reduceAdd, Nat.reduceSub,
  isi_tup, isi_strD, isi_intD, isi_boolD, isi_listD, isTup.eq_1, isTup.eq_2, isStr.eq_1, isStr.eq_2, Bool.not_true, Bool.not_false, oIx_tup, oIx_lst, oEq_int, oEq_str, oEq_bool, oEq_nil, oNe_int, oNe_str, oNe_bool, oLen_tup, oLen_lst, oI_int, oIC_int, oAdd_int, oAdd_tup, oAdd_lst, oLt_int, oInt_int, oInt_bool, oIn_tup, oIn_lst, oSl_tup, oSl_lst,
  atI_zero, atI_one, atI_two, cut_from1, Bool.false_eq_true, if_false, if_true])
theorem oRepr_bool (b : Bool) (R : PyData → Prop) : oRepr (.bool b) R = R (.str (PyData.bool b).shown) := rfl
theorem oGt_int (i j : Int) (R : PyData → Prop) : oGt (.int i) (.int j) R = R (.bool (decide (j < i))) := rfl
theorem oLe_int (i j : Int) (R : PyData → Prop) : oLe (.int i) (.int j) R = R (.bool (decide (i ≤ j))) := rfl
theorem c_law (k : Nat) (hk : 12 ≤ k) : ∀ as S R, as.length = 1 → C_true as S R → G_law C_spring C_thing (C_deep k) C_dip C_pk (ent N_law as) S { nx := fun _ S' => R .none S', rt := R } := by
  rintro as S R _ ⟨ns, rfl, _, h⟩
  unfold G_law
  unfold sWell
  walk_at "dx"
  refine ⟨fun j d e => ?_, ns, rfl, fun ms w => ⟨ms, rfl, ?_⟩⟩
  · rcases j with _ | _ | _ | _ | _ | _ | j <;> simp at e <;> subst e <;> simp
  have lap : ∀ (ds : List PyData) (S' : SW) (a b c d : Sl), WOk S' → ∀ (B : Out), (∀ S' a b c d, WOk S' → B.nx [.dat (.list (ns.map .int)), .wel, a, b, c, d] S') →
      forGo (gNm 2) (sSeq (sSet 3 (fCall C_thing (gWel 1 gaNil)))
    (sSeq (sSet 4 (fChain oLt oLe (fC (.int 0)) (fCall (C_deep k) (gDat (fVar 3) gaNil)) (fC (.int 6))))
    (sSeq (sSet 5 (fIf (fOp oEq (fCall C_dip (gWel 1 (gDat (fC (.int 4)) gaNil))) (fC (.int 0))) (fCallK C_pk pmId (gDat (fVar 3) gaNil)) (fCall C_pk (gDat (fVar 3) gaNil))))
    (sIf (fOp oNe (fUn oRepr (fVarB 5)) (fUn oRepr (fVarB 4)))
    (sRet (fC (.bool false)))
    sNext)))) ds [.dat (.list (ns.map .int)), .wel, a, b, c, d] S' B := by
    intro ds
    induction ds with
    | nil => exact fun S' a b c d w B k => k S' a b c d w
    | cons x ds ih =>
      intro S' a b c d w B kB
      simp only [forGo]
      walk_at "dx"
      refine ⟨rfl, w, fun d S1 hd w1 => ?_⟩
      walk_at "dx"
      refine ⟨d, rfl, by omega, ?_⟩
      walk_at "dx"
      have pk := pk_deep k 6 d (by omega)
      split
      · rename_i z
        have z := of_decide_eq_true z
        have e : decide (((ld k d : Nat) : Int) ≤ 6) = isPk 6 d := by
          rw [Bool.eq_iff_iff, pk, decide_eq_true_eq]
          omega
        rw [e]
        refine ⟨4, rfl, by omega, by omega, w1, fun r S2 r1 r2 w2 => ?_⟩
        walk_at "dx"
        split <;>
        · refine ⟨d, rfl, ?_⟩
          simp only [oRepr_bool]
          walk_at "dx"
          simp only [decide_true, Bool.not_true, Bool.false_eq_true, if_false]
          exact ih _ _ _ _ _ w2 _ kB
      · rename_i z
        have e : isPk 6 d = false := by
          cases y : isPk 6 d
          · rfl
          · exact absurd (decide_eq_true (by have := (pk.mp y).1; omega)) z
        refine ⟨4, rfl, by omega, by omega, w1, fun r S2 r1 r2 w2 => ?_⟩
        walk_at "dx"
        split <;>
        · refine ⟨d, rfl, ?_⟩
          rw [e]
          simp only [oRepr_bool]
          walk_at "dx"
          simp only [decide_true, Bool.not_true, Bool.false_eq_true, if_false]
          exact ih _ _ _ _ _ w2 _ kB
  refine ⟨by decide, by decide, lap _ _ _ _ _ _ (by assumption) _ fun S' a b c d w => ?_⟩
  walk_at "dx"
  exact h
section
variable {P : Program} {W : World} {K : Fr_} {mg : Str → Option Value} {base : Heap}
theorem CalN_mono {x : Str} {k k' n : Nat} {C : Ct} (c : CalN P W K mg base x k n C) (h : k ≤ k') : CalN P W K mg base x k' n C := by
  obtain ⟨f, fd, ps, F, a, b, d⟩ := c.ex
  exact ⟨f, fd, ps, F.mono h, a, b, d⟩
theorem all_isp (T : Txt K mg) (D : Defs K mg) : ∀ n, Cal P W K mg base "is_picked" n 2 (C_isp n)
  | 0 => by
    obtain ⟨f, fd, F, hm, hb, _⟩ := D.d_is_picked.ex
    exact Cal.void F.kp hm hb fun as S R ⟨d, m, _, h, _⟩ => by omega
  | n + 1 => by
    obtain ⟨f, fd, F, hm, hb, _⟩ := D.d_is_picked.ex
    exact bd_is_picked T F hm hb (all_isp T D n) (c_isp n)
theorem all_deep (T : Txt K mg) (D : Defs K mg) : ∀ n, Cal P W K mg base "_law_deep" n 1 (C_deep n)
  | 0 => by
    obtain ⟨f, fd, F, hm, hb, _⟩ := D.d_law_deep.ex
    exact Cal.void F.kp hm hb fun as S R ⟨d, _, h, _⟩ => by omega
  | n + 1 => by
    obtain ⟨f, fd, F, hm, hb, _⟩ := D.d_law_deep.ex
    exact bd_law_deep T F hm hb (all_deep T D n) (c_deep n)
theorem all_dip (T : Txt K mg) (D : Defs K mg) : Cal P W K mg base "_law_dip" 1 2 C_dip := by
  obtain ⟨f, fd, F, hm, hb, _⟩ := D.d_law_dip.ex
  exact bd_law_dip T F hm hb c_dip
theorem all_any (T : Txt K mg) (D : Defs K mg) : Cal P W K mg base "_law_any" 2 2 C_any := by
  obtain ⟨f, fd, F, hm, hb, _⟩ := D.d_law_any.ex
  exact bd_law_any T F hm hb (all_dip T D) c_any
theorem all_odd (T : Txt K mg) (D : Defs K mg) : Cal P W K mg base "_law_odd" 3 1 C_odd := by
  obtain ⟨f, fd, F, hm, hb, _⟩ := D.d_law_odd.ex
  exact bd_law_odd T F hm hb (all_any T D) c_odd
theorem all_pick (T : Txt K mg) (D : Defs K mg) : ∀ n, Cal P W K mg base "_law_pick" (n + 2) 2 (C_pick n)
  | 0 => by
    obtain ⟨f, fd, F, hm, hb, _⟩ := D.d_law_pick.ex
    exact (Cal.void F.kp hm hb fun as S R ⟨d, _, h, _⟩ => by omega).mono (by omega)
  | n + 1 => by
    obtain ⟨f, fd, F, hm, hb, _⟩ := D.d_law_pick.ex
    exact bd_law_pick T F hm hb ((all_dip T D).mono (by omega)) ((all_any T D).mono (by omega)) (all_pick T D n) (c_pick n)
theorem all_bent (T : Txt K mg) (D : Defs K mg) : ∀ n, Cal P W K mg base "_law_bent" (n + 3) 2 (C_bent n)
  | 0 => by
    obtain ⟨f, fd, F, hm, hb, _⟩ := D.d_law_bent.ex
    exact (Cal.void F.kp hm hb fun as S R ⟨m, d, _, h, _⟩ => by omega).mono (by omega)
  | n + 1 => by
    obtain ⟨f, fd, F, hm, hb, _⟩ := D.d_law_bent.ex
    exact bd_law_bent T F hm hb ((all_dip T D).mono (by omega)) (all_bent T D n) ((all_any T D).mono (by omega)) ((all_odd T D).mono (by omega)) (c_bent n)
theorem all_thing (T : Txt K mg) (D : Defs K mg) : Cal P W K mg base "_law_thing" 16 1 C_thing := by
  obtain ⟨f, fd, F, hm, hb, _⟩ := D.d_law_thing.ex
  exact bd_law_thing T F hm hb ((all_dip T D).mono (by omega)) ((all_odd T D).mono (by omega)) ((all_pick T D 12).mono (by omega)) ((all_any T D).mono (by omega)) (all_bent T D 12) (c_thing 12 (by omega))
theorem all_by (T : Txt K mg) (D : Defs K mg) : Cal P W K mg base "is_pick_by" 11 1 C_pk := by
  obtain ⟨f, fd, F, hm, hb, _⟩ := D.d_is_pick_by.ex
  exact bd_is_pick_by T F hm hb (all_isp T D 10) (c_pk_by 10 (by omega))
abbrev levels : Nat := 21
theorem law_end (T : Txt K mg) (D : Defs K mg) : ∃ f fd, mg "law" = some (.ref f) ∧ (∀ (s : Shared) (ws : List Value), ws.length = ["_law_script"].length → BindsTo s fd ⟨ws, []⟩ ((["_law_script"] : List Str).zip ws)) ∧
    ∀ base : Heap, K.In base → base.Ns mainGlobals mg → FnOk P W K mg base CX0 levels f fd ["_law_script"] (spC K 1 C_true) := by
  obtain ⟨f, fd, F, hm, hb, hp, _⟩ := D.d_law.ex
  refine ⟨f, fd, hm, hp, fun base _ _ => ?_⟩
  obtain ⟨f1, fd1, F1, hm1, hb1, _⟩ := D.d_law_spring.ex
  obtain ⟨f2, fd2, F2, hm2, hb2, _, hk2⟩ := D.d_is_pick.ex
  exact ok_law T F hm hb (CalN_mono (k := 1) (bd_law_spring (k := 0) T F1 hm1 hb1 c_spring) (by omega)) ((all_thing T D).mono (by omega)) (all_deep T D 20) ((all_dip T D).mono (by omega)) (bd_is_pick (k := 19) T F2 hm2 hb2 ((all_by T D).mono (by omega)) c_pk)
    (CalK.of (ok_is_pick (k := 19) T F2 hm2 hb2 ((all_by T D).mono (by omega)) c_pk) F2.kp hm2 rfl hk2) (c_law 20 (by omega))
end
end K42

open PySem PySem.W PyProof.Rows
set_option maxRecDepth 100000 in
set_option maxHeartbeats 0 in
theorem PySem.Challenge.cw_bentalike_k42_whole_picks_of_anything_holds : PySem.Challenge.rw_bentalike_k42_whole_picks_of_anything.Holds := by
  w_on; o_law; k_head; (case hw => w_witness2)
  k_fill
  refine DL.law_walk (l := PySem.Challenge.rw_bentalike_k42_whole_picks_of_anything) (x := "_law_script") K42.levels rfl rfl ⟨rfl, by decide, by decide⟩ (fun w h Y => PySem.W.kIn_of Y) rfl ?F
  case F =>
    intro w mg fa h KX G hmg
    refine K42.law_end ?T ?D
    case T =>
      refine ⟨?qg0, ?qg1, ?qg2, ?qg3, ?qg4, ?qg5, ?qg6, ?qg7, ?qg8, ?qg9, ?qg10, ?qg11, ?qg12, ?qg13, ?qg14, ?qg15, ?qg16⟩
      case qg0 =>
        refine' DL.glob_fix KX G ?qa DL.fix_int
        (case qa => k_is)
      case qg1 =>
        refine' DL.glob_fix KX G ?qa (DL.fix_tup ?ql0 (by decide) (DL.fixs_cons DL.fix_str (DL.fixs_cons DL.fix_str (DL.fixs_cons DL.fix_str (DL.fixs_cons DL.fix_str DL.fixs_nil)))))
        (case qa => k_is); (case ql0 => k_is)
      case qg2 =>
        refine' DL.glob_fix KX G ?qa (DL.fix_tup ?ql0 (by decide) (DL.fixs_cons DL.fix_str (DL.fixs_cons DL.fix_str (DL.fixs_cons DL.fix_str (DL.fixs_cons DL.fix_str DL.fixs_nil)))))
        (case qa => k_is); (case ql0 => k_is)
      case qg3 =>
        refine' DL.glob_fix KX G ?qa (DL.fix_tup ?ql0 (by decide) (DL.fixs_cons DL.fix_str (DL.fixs_cons DL.fix_str (DL.fixs_cons DL.fix_str DL.fixs_nil))))
        (case qa => k_is); (case ql0 => k_is)
      case qg4 => exact PySem.W.mg_none_of KX G (by k_is)
      case qg5 => exact PySem.W.mg_none_of KX G (by k_is)
      case qg6 => exact PySem.W.mg_none_of KX G (by k_is)
      case qg7 => exact PySem.W.mg_none_of KX G (by k_is)
      case qg8 => exact PySem.W.mg_none_of KX G (by k_is)
      case qg9 => exact PySem.W.mg_none_of KX G (by k_is)
      case qg10 => exact PySem.W.mg_none_of KX G (by k_is)
      case qg11 => exact PySem.W.mg_none_of KX G (by k_is)
      case qg12 => exact PySem.W.mg_none_of KX G (by k_is)
      case qg13 => exact PySem.W.mg_none_of KX G (by k_is)
      case qg14 => exact PySem.W.mg_none_of KX G (by k_is)
      case qg15 => exact PySem.W.mg_none_of KX G (by k_is)
      case qg16 => exact PySem.W.mg_none_of KX G (by k_is)
    case D =>
      refine ⟨?qd0, ?qd1, ?qd2, ?qd3, ?qd4, ?qd5, ?qd6, ?qd7, ?qd8, ?qd9, ?qd10, ?qd11⟩
      case qd0 =>
        refine' DL.Has.mk' KX G (fun _ _ _ _ _ _ us hl => match us, hl with | [_, _], _ => rfl) (fun _ _ _ _ _ _ us hl => match us, hl with | [_, _], _ => rfl) ?qa ?ql ?qc ?qk
        (case qa => k_is); (case ql => k_is); (case qc => k_is); (case qk => k_is)
      case qd1 =>
        refine' DL.Has.mk' KX G (fun _ _ _ _ _ _ us hl => match us, hl with | [_], _ => rfl) (fun _ _ _ _ _ _ us hl => match us, hl with | [_], _ => rfl) ?qa ?ql ?qc ?qk
        (case qa => k_is); (case ql => k_is); (case qc => k_is); (case qk => k_is)
      case qd2 =>
        refine' DL.Has.mk' KX G (fun _ _ _ _ _ _ us hl => match us, hl with | [_], _ => rfl) (fun _ _ _ _ _ _ us hl => match us, hl with | [_], _ => rfl) ?qa ?ql ?qc ?qk
        (case qa => k_is); (case ql => k_is); (case qc => k_is); (case qk => k_is)
      case qd3 =>
        refine' DL.Has.mk' KX G (fun _ _ _ _ _ _ us hl => match us, hl with | [_], _ => rfl) (fun _ _ _ _ _ _ us hl => match us, hl with | [_], _ => rfl) ?qa ?ql ?qc ?qk
        (case qa => k_is); (case ql => k_is); (case qc => k_is); (case qk => k_is)
      case qd4 =>
        refine' DL.Has.mk' KX G (fun _ _ _ _ _ _ us hl => match us, hl with | [_, _], _ => rfl) (fun _ _ _ _ _ _ us hl => match us, hl with | [_, _], _ => rfl) ?qa ?ql ?qc ?qk
        (case qa => k_is); (case ql => k_is); (case qc => k_is); (case qk => k_is)
      case qd5 =>
        refine' DL.Has.mk' KX G (fun _ _ _ _ _ _ us hl => match us, hl with | [_, _], _ => rfl) (fun _ _ _ _ _ _ us hl => match us, hl with | [_, _], _ => rfl) ?qa ?ql ?qc ?qk
        (case qa => k_is); (case ql => k_is); (case qc => k_is); (case qk => k_is)
      case qd6 =>
        refine' DL.Has.mk' KX G (fun _ _ _ _ _ _ us hl => match us, hl with | [_], _ => rfl) (fun _ _ _ _ _ _ us hl => match us, hl with | [_], _ => rfl) ?qa ?ql ?qc ?qk
        (case qa => k_is); (case ql => k_is); (case qc => k_is); (case qk => k_is)
      case qd7 =>
        refine' DL.Has.mk' KX G (fun _ _ _ _ _ _ us hl => match us, hl with | [_, _], _ => rfl) (fun _ _ _ _ _ _ us hl => match us, hl with | [_, _], _ => rfl) ?qa ?ql ?qc ?qk
        (case qa => k_is); (case ql => k_is); (case qc => k_is); (case qk => k_is)
      case qd8 =>
        refine' DL.Has.mk' KX G (fun _ _ _ _ _ _ us hl => match us, hl with | [_], _ => rfl) (fun _ _ _ _ _ _ us hl => match us, hl with | [_], _ => rfl) ?qa ?ql ?qc ?qk
        (case qa => k_is); (case ql => k_is); (case qc => k_is); (case qk => k_is)
      case qd9 =>
        refine' DL.Has.mk' KX G (fun _ _ _ _ _ _ us hl => match us, hl with | [_, _], _ => rfl) (fun _ _ _ _ _ _ us hl => match us, hl with | [_, _], _ => rfl) ?qa ?ql ?qc ?qk
        (case qa => k_is); (case ql => k_is); (case qc => k_is); (case qk => k_is)
      case qd10 =>
        refine' DL.Has.mk' KX G (fun _ _ _ _ _ _ us hl => match us, hl with | [_], _ => rfl) (fun _ _ _ _ _ _ us hl => match us, hl with | [_], _ => rfl) ?qa ?ql ?qc ?qk
        (case qa => k_is); (case ql => k_is); (case qc => k_is); (case qk => k_is)
      case qd11 =>
        refine' DL.Has.mk' KX G (fun _ _ _ _ _ _ us hl => match us, hl with | [_], _ => rfl) (fun _ _ _ _ _ _ us hl => match us, hl with | [_], _ => rfl) ?qa ?ql ?qc ?qk
        (case qa => k_is); (case ql => k_is); (case qc => k_is); (case qk => k_is)

