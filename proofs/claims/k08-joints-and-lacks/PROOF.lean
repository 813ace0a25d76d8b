import PyProof.Rows.All
import HandS.Conv
import HandS.Deep
import HandS.ExcIs
import HandS.ForExc
import HandS.ForMost
import HandS.IsInst
import HandS.Iter
import HandS.More
import HandS.SetKeys
import HandS.SortKw
import HandS.Style
import HandS.Text
import KE.DataMinMax
import KE.KDictDisplayH
import KE.KRevSl
import KE.SortData
import OpenK.AllK
import PyProof.DictMoreH
import Wide.All
import Wide.FinOn
import PySem.Challenge.RW_fullring_k08_joints_and_lacks
set_option Elab.async false
set_option linter.all false
set_option maxRecDepth 100000
set_option maxHeartbeats 4000000
/-! The data layer: heap-free data, what a value represents, the state between statements. -/
namespace DL
open PySem PySem.Spec L2

/-! ### data -/
inductive D where
  | non
  | bl (b : Bool)
  | int (i : Int)
  | str (x : Str)
  | lst (xs : List D)
  | tup (xs : List D)
  | dT (kvs : List (List Int × V))
  | dK (kvs : List (Int × V))
  | scr (ns : List Int)
  | any
  | exc (a : Addr)
def encT (p : List Int × V) : List Key × V := (p.1.map Sum.inl, p.2)
def encK (p : Int × V) : Key × V := (.inl p.1, p.2)
def toV : D → Option V
  | .non => some .non
  | .bl b => some (.bl b)
  | .int i => some (.int i)
  | _ => none
def ofV : V → D
  | .non => .non
  | .bl b => .bl b
  | .int i => .int i
  | _ => .any
mutual
def toPy : D → PyData
  | .non => .none
  | .bl b => .bool b
  | .int i => .int i
  | .str x => .str x
  | .lst xs => .list (toPys xs)
  | .tup xs => .tuple (toPys xs)
  | .dT _ => .dict []
  | .dK _ => .dict []
  | .scr _ => .dict []
  | .any => .dict []
  | .exc _ => .dict []
def toPys : List D → List PyData
  | [] => []
  | x :: xs => toPy x :: toPys xs
end
mutual
inductive Rp (K : PySem.W.Frag) (H : Hp) : V → D → Prop
  | non : Rp K H .non .non
  | bl (b : Bool) : Rp K H (.bl b) (.bl b)
  | int (i : Int) : Rp K H (.int i) (.int i)
  | str (x : Str) : Rp K H (.str x) (.str x)
  | lst {a : Addr} {xs : List V} {ds : List D} : H a = some (.lst xs) → RpL K H xs ds → Rp K H (.ref a) (.lst ds)
  | tup {a : Addr} {xs : List V} {ds : List D} : H a = some (.tup xs) → RpL K H xs ds → Rp K H (.ref a) (.tup ds)
  | dT {a : Addr} {kvs : List (List Int × V)} : H a = some (.dT (kvs.map encT)) → Rp K H (.ref a) (.dT kvs)
  | dK {a : Addr} {kvs : List (Int × V)} : H a = some (.dK (kvs.map encK)) → Rp K H (.ref a) (.dK kvs)
  | scr {a : Addr} {ns : List Int} : SqL K H a (ns.map V.int) → Rp K H (.ref a) (.scr ns)
  | any (v : V) : Rp K H v .any
  | exc (a : Addr) : Rp K H (.ref a) (.exc a)
inductive RpL (K : PySem.W.Frag) (H : Hp) : List V → List D → Prop
  | nil : RpL K H [] []
  | cons {v : V} {vs : List V} {d : D} {ds : List D} : Rp K H v d → RpL K H vs ds → RpL K H (v :: vs) (d :: ds)
end
section
variable {K : PySem.W.Frag} {R R' : Hp}
mutual
theorem Rp.mono (e : Same R R') : ∀ {v : V} {d : D}, Rp K R v d → Rp K R' v d
  | _, _, .non => .non
  | _, _, .bl b => .bl b
  | _, _, .int b => .int b
  | _, _, .str b => .str b
  | _, _, .lst h r => .lst (e _ _ h) (RpL.mono e r)
  | _, _, .tup h r => .tup (e _ _ h) (RpL.mono e r)
  | _, _, .dT h => .dT (e _ _ h)
  | _, _, .dK h => .dK (e _ _ h)
  | _, _, .scr h => .scr (e.seq h)
  | _, _, .any v => .any v
  | _, _, .exc a => .exc a
theorem RpL.mono (e : Same R R') : ∀ {vs : List V} {ds : List D}, RpL K R vs ds → RpL K R' vs ds
  | _, _, .nil => .nil
  | _, _, .cons h r => .cons (Rp.mono e h) (RpL.mono e r)
end
theorem RpL.length : ∀ {vs : List V} {ds : List D}, RpL K R vs ds → vs.length = ds.length
  | _, _, .nil => rfl
  | _, _, .cons _ r => by simp [RpL.length r]
theorem RpL.get : ∀ {vs : List V} {ds : List D} {i : Nat} {d : D}, RpL K R vs ds → ds[i]? = some d → ∃ v, vs[i]? = some v ∧ Rp K R v d
  | _, _, _, _, .nil, h => by simp at h
  | _, _, 0, _, .cons h _, e => by simp at e; subst e; exact ⟨_, rfl, h⟩
  | _, _, i + 1, _, .cons _ r, e => by
    obtain ⟨v, h1, h2⟩ := RpL.get (i := i) r (by simpa using e)
    exact ⟨v, by simpa using h1, h2⟩
theorem RpL.getV : ∀ {vs : List V} {ds : List D} {i : Nat} {v : V}, RpL K R vs ds → vs[i]? = some v → ∃ d, ds[i]? = some d ∧ Rp K R v d
  | _, _, _, _, .nil, h => by simp at h
  | _, _, 0, _, .cons h _, e => by simp at e; subst e; exact ⟨_, rfl, h⟩
  | _, _, i + 1, _, .cons _ r, e => by
    obtain ⟨v, h1, h2⟩ := RpL.getV (i := i) r (by simpa using e)
    exact ⟨v, by simpa using h1, h2⟩
theorem RpL.app : ∀ {vs ws : List V} {ds es : List D}, RpL K R vs ds → RpL K R ws es → RpL K R (vs ++ ws) (ds ++ es)
  | _, _, _, _, .nil, s => s
  | _, _, _, _, .cons h r, s => .cons h (r.app s)
theorem RpL.take : ∀ {vs : List V} {ds : List D} (n : Nat), RpL K R vs ds → RpL K R (vs.take n) (ds.take n)
  | _, _, 0, _ => .nil
  | _, _, _ + 1, .nil => .nil
  | _, _, n + 1, .cons h r => .cons h (r.take n)
theorem RpL.drop : ∀ {vs : List V} {ds : List D} (n : Nat), RpL K R vs ds → RpL K R (vs.drop n) (ds.drop n)
  | _, _, 0, r => r
  | _, _, _ + 1, .nil => .nil
  | _, _, n + 1, .cons _ r => r.drop n
theorem RpL.set {v : V} {d : D} (h : Rp K R v d) : ∀ {vs : List V} {ds : List D} (i : Nat), RpL K R vs ds → RpL K R (vs.set i v) (ds.set i d)
  | _, _, _, .nil => .nil
  | _, _, 0, .cons _ r => .cons h r
  | _, _, i + 1, .cons h' r => .cons h' (RpL.set h i r)
theorem RpL.rev : ∀ {vs : List V} {ds : List D}, RpL K R vs ds → RpL K R vs.reverse ds.reverse
  | _, _, .nil => .nil
  | _, _, .cons h r => by
    rw [List.reverse_cons, List.reverse_cons]
    exact r.rev.app (.cons h .nil)
theorem RpL.dropLast {vs : List V} {ds : List D} (r : RpL K R vs ds) : RpL K R vs.dropLast ds.dropLast := by
  rw [List.dropLast_eq_take, List.dropLast_eq_take, r.length]
  exact r.take _
theorem RpL.ints : ∀ {ns : List Int}, RpL K R (ns.map V.int) (ns.map D.int)
  | [] => .nil
  | n :: ns => .cons (.int n) RpL.ints
theorem RpL.of_ints : ∀ {vs : List V} {ns : List Int}, RpL K R vs (ns.map D.int) → vs = ns.map V.int
  | _, [], h => by cases h; rfl
  | _, n :: ns, h => by
    cases h with
    | cons h r =>
      cases h
      rw [RpL.of_ints r]
      rfl
theorem RpL.of_bls : ∀ {vs : List V} {ns : List Bool}, RpL K R vs (ns.map D.bl) → vs = ns.map V.bl
  | _, [], h => by cases h; rfl
  | _, n :: ns, h => by
    cases h with
    | cons h r =>
      cases h
      rw [RpL.of_bls r]
      rfl
theorem RpL.two {vs : List V} {a b : D} (h : RpL K R vs [a, b]) : ∃ v w, vs = [v, w] ∧ Rp K R v a ∧ Rp K R w b := by
  cases h with
  | cons h1 r =>
    cases r with
    | cons h2 r =>
      cases r
      exact ⟨_, _, rfl, h1, h2⟩
theorem RpL.one {vs : List V} {a : D} (h : RpL K R vs [a]) : ∃ v, vs = [v] ∧ Rp K R v a := by
  cases h with
  | cons h1 r =>
    cases r
    exact ⟨_, rfl, h1⟩
theorem toV_rp {v : V} {d : D} {x : V} (h : toV d = some x) (r : Rp K R v d) : v = x := by
  cases r <;> simp [toV] at h <;> exact h
theorem ofV_rp {x : V} : Rp K R x (ofV x) := by
  cases x <;> simp only [ofV] <;> constructor
mutual
theorem Rp.dp : ∀ {d : D} {v : V}, Rp K R v d → (toPy d).canLay0 = true → Dp K R v (toPy d)
  | _, _, .non, _ => .non
  | _, _, .bl b, _ => .bl b
  | _, _, .int b, _ => .int b
  | _, _, .str b, _ => .str b
  | _, _, .lst h r, q => .lst (SqL.of h) (RpL.dp r (by simpa [toPy, PyData.canLay0] using q))
  | _, _, .tup h r, q => .tup (SqT.of h) (RpL.dp r (by simpa [toPy, PyData.canLay0] using q))
  | _, _, .dT h, q => by simp [toPy, PyData.canLay0] at q
  | _, _, .dK h, q => by simp [toPy, PyData.canLay0] at q
  | _, _, .scr h, q => by simp [toPy, PyData.canLay0] at q
  | _, _, .any v, q => by simp [toPy, PyData.canLay0] at q
  | _, _, .exc v, q => by simp [toPy, PyData.canLay0] at q
theorem RpL.dp : ∀ {ds : List D} {vs : List V}, RpL K R vs ds → PyData.canLayAll0 (toPys ds) = true → DpAll K R vs (toPys ds)
  | _, _, .nil, _ => .nil
  | _, _, .cons h r, q => by
    simp only [toPys, PyData.canLayAll0, Bool.and_eq_true] at q
    exact .cons (Rp.dp h q.1) (RpL.dp r q.2)
end
end

/-! ### the state -/
/-- a slot: unknown, a shared value, an object of its own (a list, a dict) -/
inductive Sl where
  | un
  | sh (d : D)
  | ow (d : D)
  | as (d : D)
  | pn (v : V) (d : D)
  | dl (kvs : List (List Int × List D))
  | tr (d : D)
abbrev Ev := List Sl
/-- a tuple of whole numbers: it is never hidden -/
def IT (H : Hp) (a : Addr) : Prop := ∃ w : List Int, H a = some (.tup (w.map V.int))
theorem IT.mono {H H' : Hp} {a : Addr} (h : IT H a) (e : Same H H') : IT H' a := let ⟨w, q⟩ := h; ⟨w, e _ _ q⟩
theorem IT.down {H H' : Hp} {a : Addr} (h : IT H' a) (e : Same H H') (n : H a ≠ none) : IT H a := by
  obtain ⟨w, q⟩ := h
  cases y : H a with
  | none => exact absurd y n
  | some o => rw [e _ _ y] at q; cases q; exact ⟨w, y⟩
open Classical in
noncomputable def hide (P : Addr → Prop) (H : Hp) : Hp := fun a => if P a ∧ ¬ IT H a then none else H a
theorem hide_no {P : Addr → Prop} {H : Hp} {a : Addr} (h : ¬ P a) : hide P H a = H a := if_neg fun z => h z.1
theorem hide_it {P : Addr → Prop} {H : Hp} {a : Addr} (h : IT H a) : hide P H a = H a := if_neg fun z => z.2 h
theorem hide_yes {P : Addr → Prop} {H : Hp} {a : Addr} (h : P a) (n : ¬ IT H a) : hide P H a = none := if_pos ⟨h, n⟩
theorem hide_some {P : Addr → Prop} {H : Hp} {a : Addr} {o : HO} (h : hide P H a = some o) : (¬ P a ∨ IT H a) ∧ H a = some o := by
  by_cases p : P a
  · by_cases q : IT H a
    · rw [hide_it q] at h; exact ⟨.inr q, h⟩
    · rw [hide_yes p q] at h; cases h
  · rw [hide_no p] at h; exact ⟨.inl p, h⟩
theorem hide_none {P : Addr → Prop} {H : Hp} {a : Addr} (h : hide P H a = none) : ¬ IT H a := fun z => by
  rw [hide_it z] at h
  obtain ⟨w, q⟩ := z
  rw [q] at h; cases h
theorem not_it {H : Hp} {a : Addr} {o : HO} (h : H a = some o) (n : ∀ w : List Int, o ≠ .tup (w.map V.int)) : ¬ IT H a := fun ⟨w, q⟩ => by
  rw [h] at q; cases q; exact n w rfl
theorem hide_lst {P : Addr → Prop} {H : Hp} {a : Addr} {o : HO} (h : hide P H a = some o) (n : ∀ w : List Int, o ≠ .tup (w.map V.int)) : ¬ P a :=
  (hide_some h).1.elim id fun z => absurd z (not_it (hide_some h).2 n)
theorem hide_le {P : Addr → Prop} {H : Hp} : Same (hide P H) H := fun _ _ h => (hide_some h).2
theorem hide_mono {P Q : Addr → Prop} {H H' : Hp} (e : Same H H') (q : ∀ a, H a ≠ none → ¬ IT H a → Q a → P a) : Same (hide P H) (hide Q H') := fun a o h => by
  obtain ⟨p, h1⟩ := hide_some h
  by_cases z : IT H a
  · rw [hide_it (z.mono e)]; exact e _ _ h1
  · rw [hide_no (fun y => p.elim (fun p => p (q a (by rw [h1]; simp) z y)) z)]
    exact e _ _ h1
theorem hide_upd {P Q : Addr → Prop} {H : Hp} {p : Addr} {o : HO} (n : ¬ IT H p) (hp : P p) (q : ∀ a, Q a → P a) : Same (hide P H) (hide Q (upd H p o)) := fun a u h => by
  obtain ⟨m, h1⟩ := hide_some h
  have na : a ≠ p := fun z => m.elim (fun m => m (by rw [z]; exact hp)) (fun m => n (by rw [← z]; exact m))
  have e : upd H p o a = some u := by rw [upd_ne na]; exact h1
  by_cases y : Q a
  · have : IT H a := m.elim (fun m => absurd (q a y) m) id
    obtain ⟨w, hw⟩ := this
    exact (hide_it ⟨w, by rw [upd_ne na]; exact hw⟩).trans e
  · exact (hide_no y).trans e
def priv (s : Ev) (σ : St) (p : Addr) : Prop := ∃ (i : Nat) (d : D), s[i]? = some (Sl.ow d) ∧ σ[i]? = some (some (V.ref p))
/-- what shared values may reach -/
noncomputable abbrev Rg (Z : Addr → Prop) (s : Ev) (σ : St) (H : Hp) : Hp := hide (fun a => Z a ∨ priv s σ a) H
def Own (K : PySem.W.Frag) (R H : Hp) (p : Addr) : D → Prop
  | .lst ds => ∃ xs, H p = some (.lst xs) ∧ RpL K R xs ds
  | .dT kvs => H p = some (.dT (kvs.map encT))
  | .dK kvs => H p = some (.dK (kvs.map encK))
  | _ => False
theorem Own.mono {K : PySem.W.Frag} {R R' H H' : Hp} {p : Addr} {d : D} (h : Own K R H p d) (e : Same R R') (e2 : Same H H') : Own K R' H' p d := by
  cases d with
  | lst ds => obtain ⟨xs, h1, h2⟩ := h; exact ⟨xs, e2 _ _ h1, h2.mono e⟩
  | dT kvs => exact e2 _ _ h
  | dK kvs => exact e2 _ _ h
  | _ => exact h.elim
theorem Own.there {K : PySem.W.Frag} {R H : Hp} {p : Addr} {d : D} (h : Own K R H p d) : H p ≠ none := by
  cases d with
  | lst ds => obtain ⟨xs, h1, _⟩ := h; rw [h1]; simp
  | dT kvs => have h' : H p = _ := h; rw [h']; simp
  | dK kvs => have h' : H p = _ := h; rw [h']; simp
  | _ => exact h.elim
theorem Own.notIT {K : PySem.W.Frag} {R H : Hp} {p : Addr} {d : D} (h : Own K R H p d) : ¬ IT H p := by
  cases d with
  | lst ds => obtain ⟨xs, h1, _⟩ := h; exact not_it h1 fun _ z => nomatch z
  | dT kvs => exact not_it h fun _ z => nomatch z
  | dK kvs => exact not_it h fun _ z => nomatch z
  | _ => exact h.elim
/-- an own object among the shared ones -/
theorem Own.rp {K : PySem.W.Frag} {R H : Hp} {p : Addr} {d : D} (h : Own K R H p d) (e : R p = H p) : Rp K R (.ref p) d := by
  cases d with
  | lst ds => obtain ⟨xs, h1, h2⟩ := h; exact .lst (e.trans h1) h2
  | dT kvs => exact .dT (e.trans h)
  | dK kvs => exact .dK (e.trans h)
  | _ => exact h.elim
/-- a deep own object: all that it reaches is hidden, and not of the ground -/
def AsP (K : PySem.W.Frag) (Hin : Hp) (Z : Addr → Prop) (H : Hp) (p : Addr) (d : D) : Prop := (Z p ∧ Hin p = none) ∧ Own K (hide (fun a => ¬ ((Z a ∧ Hin a = none) ∧ a ≠ p)) H) H p d
theorem AsP.mono {K : PySem.W.Frag} {Hin Hin' H H' : Hp} {Z Z' : Addr → Prop} {p : Addr} {d : D} (h : AsP K Hin Z H p d) (hz : ∀ a, ¬ IT H a → Z a → Hin a = none → Z' a ∧ Hin' a = none) (e : Same H H') : AsP K Hin' Z' H' p d :=
  ⟨hz p h.2.notIT h.1.1 h.1.2, h.2.mono (hide_mono e fun a _ m n y => n ⟨hz a m y.1.1 y.1.2, y.2⟩) e⟩
/-- an own dict of own lists of shared items -/
def DlP (K : PySem.W.Frag) (Hin : Hp) (Z : Addr → Prop) (R H : Hp) (p : Addr) (kvs : List (List Int × List D)) : Prop :=
  (Z p ∧ Hin p = none) ∧ ∃ l : List (List Int × Addr × List D), l.map (fun t => (t.1, t.2.2)) = kvs ∧ H p = some (.dT ((l.map fun t => (t.1, V.ref t.2.1)).map encT)) ∧ (p :: l.map (·.2.1)).Nodup ∧
    ∀ t ∈ l, (Z t.2.1 ∧ Hin t.2.1 = none) ∧ ∃ vs, H t.2.1 = some (.lst vs) ∧ RpL K R vs t.2.2
theorem DlP.mono {K : PySem.W.Frag} {Hin Hin' R R' H H' : Hp} {Z Z' : Addr → Prop} {p : Addr} {kvs : List (List Int × List D)} (h : DlP K Hin Z R H p kvs) (hz : ∀ a, ¬ IT H a → Z a → Hin a = none → Z' a ∧ Hin' a = none) (e : Same H H') (g : Same R R') : DlP K Hin' Z' R' H' p kvs := by
  obtain ⟨h1, l, h2, h3, h4, h5⟩ := h
  exact ⟨hz p (not_it h3 fun _ z => nomatch z) h1.1 h1.2, l, h2, e _ _ h3, h4, fun t ht => let ⟨a, vs, b, c⟩ := h5 t ht; ⟨hz _ (not_it b fun _ z => nomatch z) a.1 a.2, vs, e _ _ b, c.mono g⟩⟩
/-! a tree: each list in it is its own, and stands in it once -/
def leafy : D → Bool
  | .non => true
  | .bl _ => true
  | .int _ => true
  | .str _ => true
  | .any => true
  | _ => false
mutual
inductive OT (K : PySem.W.Frag) (H : Hp) : V → D → List Addr → Prop
  | leaf {v : V} {d : D} : leafy d = true → Rp K (fun _ => none) v d → OT K H v d []
  | it {a : Addr} {w : List Int} : H a = some (.tup (w.map V.int)) → OT K H (.ref a) (.tup (w.map D.int)) []
  | lst {a : Addr} {xs : List V} {ds : List D} {l : List Addr} : H a = some (.lst xs) → OTL K H xs ds l → OT K H (.ref a) (.lst ds) (a :: l)
  | tup {a : Addr} {xs : List V} {ds : List D} {l : List Addr} : H a = some (.tup xs) → (∀ w : List Int, xs ≠ w.map V.int) → OTL K H xs ds l → OT K H (.ref a) (.tup ds) (a :: l)
inductive OTL (K : PySem.W.Frag) (H : Hp) : List V → List D → List Addr → Prop
  | nil : OTL K H [] [] []
  | cons {v : V} {vs : List V} {d : D} {ds : List D} {l m : List Addr} : OT K H v d l → OTL K H vs ds m → OTL K H (v :: vs) (d :: ds) (l ++ m)
end
section
variable {K : PySem.W.Frag} {H H' : Hp}
mutual
theorem OT.mono (e : Same H H') : ∀ {v : V} {d : D} {l : List Addr}, OT K H v d l → OT K H' v d l
  | _, _, _, .leaf h r => .leaf h r
  | _, _, _, .it h => .it (e _ _ h)
  | _, _, _, .lst h r => .lst (e _ _ h) (OTL.mono e r)
  | _, _, _, .tup h n r => .tup (e _ _ h) n (OTL.mono e r)
theorem OTL.mono (e : Same H H') : ∀ {vs : List V} {ds : List D} {l : List Addr}, OTL K H vs ds l → OTL K H' vs ds l
  | _, _, _, .nil => .nil
  | _, _, _, .cons h r => .cons (OT.mono e h) (OTL.mono e r)
end
mutual
/-- another object is changed -/
theorem OT.away {dead : List Addr} (e : ∀ a o, H a = some o → a ∉ dead → H' a = some o) (n : ∀ a ∈ dead, ¬ IT H a) : ∀ {v : V} {d : D} {l : List Addr}, OT K H v d l → (∀ a ∈ dead, a ∉ l) → OT K H' v d l
  | _, _, _, .leaf h r, _ => .leaf h r
  | _, _, _, .it h, _ => .it (e _ _ h fun z => n _ z ⟨_, h⟩)
  | _, _, _, .lst h r, q => .lst (e _ _ h fun z => q _ z List.mem_cons_self) (OTL.away e n r fun a ha z => q a ha (List.mem_cons_of_mem _ z))
  | _, _, _, .tup h m r, q => .tup (e _ _ h fun z => q _ z List.mem_cons_self) m (OTL.away e n r fun a ha z => q a ha (List.mem_cons_of_mem _ z))
theorem OTL.away {dead : List Addr} (e : ∀ a o, H a = some o → a ∉ dead → H' a = some o) (n : ∀ a ∈ dead, ¬ IT H a) : ∀ {vs : List V} {ds : List D} {l : List Addr}, OTL K H vs ds l → (∀ a ∈ dead, a ∉ l) → OTL K H' vs ds l
  | _, _, _, .nil, _ => .nil
  | _, _, _, .cons h r, q => .cons (OT.away e n h fun a ha z => q a ha (List.mem_append_left _ z)) (OTL.away e n r fun a ha z => q a ha (List.mem_append_right _ z))
end
mutual
theorem OT.own : ∀ {v : V} {d : D} {l : List Addr}, OT K H v d l → ∀ a ∈ l, H a ≠ none ∧ ¬ IT H a
  | _, _, _, .leaf h r, a, q => by cases q
  | _, _, _, .it h, a, q => by cases q
  | _, _, _, .lst h r, a, q => by
    rcases List.mem_cons.mp q with rfl | q
    · exact ⟨by rw [h]; simp, not_it h fun _ z => nomatch z⟩
    · exact OTL.own r a q
  | _, _, _, .tup h m r, a, q => by
    rcases List.mem_cons.mp q with rfl | q
    · exact ⟨by rw [h]; simp, not_it h fun w z => by cases z; exact m w rfl⟩
    · exact OTL.own r a q
theorem OTL.own : ∀ {vs : List V} {ds : List D} {l : List Addr}, OTL K H vs ds l → ∀ a ∈ l, H a ≠ none ∧ ¬ IT H a
  | _, _, _, .nil, a, q => by cases q
  | _, _, _, .cons h r, a, q => by
    rcases List.mem_append.mp q with q | q
    · exact OT.own h a q
    · exact OTL.own r a q
end
mutual
/-- a tree, read -/
theorem OT.rp {R : Hp} (e : ∀ a, IT H a → R a = H a) : ∀ {v : V} {d : D} {l : List Addr}, OT K H v d l → (∀ a ∈ l, R a = H a) → Rp K R v d
  | _, _, _, .leaf h r, _ => by
    cases r with
    | non => exact .non
    | bl b => exact .bl b
    | int b => exact .int b
    | str b => exact .str b
    | any => exact .any _
    | lst _ _ => cases h
    | tup _ _ => cases h
    | dT _ => cases h
    | dK _ => cases h
    | scr _ => cases h
    | exc _ => cases h
  | _, _, _, .it h, _ => .tup ((e _ ⟨_, h⟩).trans h) RpL.ints
  | _, _, _, .lst h r, q => .lst ((q _ List.mem_cons_self).trans h) (OTL.rp e r fun a z => q a (List.mem_cons_of_mem _ z))
  | _, _, _, .tup h m r, q => .tup ((q _ List.mem_cons_self).trans h) (OTL.rp e r fun a z => q a (List.mem_cons_of_mem _ z))
theorem OTL.rp {R : Hp} (e : ∀ a, IT H a → R a = H a) : ∀ {vs : List V} {ds : List D} {l : List Addr}, OTL K H vs ds l → (∀ a ∈ l, R a = H a) → RpL K R vs ds
  | _, _, _, .nil, _ => .nil
  | _, _, _, .cons h r, q => .cons (OT.rp e h fun a z => q a (List.mem_append_left _ z)) (OTL.rp e r fun a z => q a (List.mem_append_right _ z))
end
end
def TrP (K : PySem.W.Frag) (Hin : Hp) (Z : Addr → Prop) (s : Ev) (σ : St) (H : Hp) : Prop :=
  ∃ fp : Nat → List Addr, (∀ (i : Nat) (d : D), s[i]? = some (Sl.tr d) → ∃ v, σ[i]? = some (some v) ∧ OT K H v d (fp i) ∧ (fp i).Nodup ∧ ∀ a ∈ fp i, Z a ∧ Hin a = none) ∧
    ∀ (i j : Nat) (d e : D), i ≠ j → s[i]? = some (Sl.tr d) → s[j]? = some (Sl.tr e) → ∀ a ∈ fp i, a ∉ fp j
theorem TrP.mono {K : PySem.W.Frag} {Hin Hin' H H' : Hp} {Z Z' : Addr → Prop} {s : Ev} {σ : St} (h : TrP K Hin Z s σ H) (hz : ∀ a, ¬ IT H a → Z a → Hin a = none → Z' a ∧ Hin' a = none) (e : Same H H') : TrP K Hin' Z' s σ H' := by
  obtain ⟨fp, h1, h2⟩ := h
  refine ⟨fp, fun i d q => ?_, h2⟩
  obtain ⟨v, a, b, c, f⟩ := h1 i d q
  exact ⟨v, a, b.mono e, c, fun x hx => hz x (b.own x hx).2 (f x hx).1 (f x hx).2⟩
theorem TrP.sub {K : PySem.W.Frag} {Hin H : Hp} {Z : Addr → Prop} {s s' : Ev} {σ σ' : St} (h : TrP K Hin Z s σ H) (hs : ∀ (i : Nat) (d : D), s'[i]? = some (Sl.tr d) → s[i]? = some (Sl.tr d) ∧ σ'[i]? = σ[i]?) : TrP K Hin Z s' σ' H := by
  obtain ⟨fp, h1, h2⟩ := h
  refine ⟨fp, fun i d q => ?_, fun i j d e n q1 q2 => h2 i j d e n (hs i d q1).1 (hs j e q2).1⟩
  obtain ⟨a, b⟩ := hs i d q
  obtain ⟨v, c, f⟩ := h1 i d a
  exact ⟨v, b.trans c, f⟩
theorem TrP.none {K : PySem.W.Frag} {Hin H : Hp} {Z : Addr → Prop} {s : Ev} {σ : St} (hs : ∀ (i : Nat) (d : D), s[i]? ≠ some (Sl.tr d)) : TrP K Hin Z s σ H :=
  ⟨fun _ => [], fun i d q => absurd q (hs i d), fun i j d e _ q => absurd q (hs i d)⟩
theorem TrP.upd {K : PySem.W.Frag} {Hin H : Hp} {Z : Addr → Prop} {s : Ev} {σ : St} {p : Addr} {o : HO} (h : TrP K Hin Z s σ H) (hz : ¬ Z p) (hn : ¬ IT H p) : TrP K Hin Z s σ (upd H p o) := by
  obtain ⟨fp, h1, h2⟩ := h
  refine ⟨fp, fun i d q => ?_, h2⟩
  obtain ⟨v, a, b, c, f⟩ := h1 i d q
  refine ⟨v, a, b.away (dead := [p]) (fun a o h n => by rw [upd_ne (fun z => n (by rw [z]; exact List.mem_singleton.mpr rfl))]; exact h) (fun a ha => by rw [List.mem_singleton.mp ha]; exact hn) (fun a ha z => hz (by rw [← List.mem_singleton.mp ha]; exact (f a z).1)), c, f⟩
structure Rel (K : PySem.W.Frag) (Hin : Hp) (Z : Addr → Prop) (s : Ev) (σ : St) (H : Hp) : Prop where
  len : s.length = σ.length
  base : Same Hin H
  zin : ∀ a, Z a → H a ≠ none
  sh : ∀ (i : Nat) (d : D), s[i]? = some (Sl.sh d) → ∃ v, σ[i]? = some (some v) ∧ Rp K (Rg Z s σ H) v d
  ow : ∀ (i : Nat) (d : D), s[i]? = some (Sl.ow d) → ∃ p, σ[i]? = some (some (V.ref p)) ∧ ¬ Z p ∧ Hin p = none ∧ Own K (Rg Z s σ H) H p d
  inj : ∀ (i j : Nat) (d e : D) (p : Addr), s[i]? = some (Sl.ow d) → s[j]? = some (Sl.ow e) → σ[i]? = some (some (V.ref p)) → σ[j]? = some (some (V.ref p)) → i = j
  as : ∀ (i : Nat) (d : D), s[i]? = some (Sl.as d) → ∃ p, σ[i]? = some (some (V.ref p)) ∧ AsP K Hin Z H p d
  pn : ∀ (i : Nat) (v : V) (d : D), s[i]? = some (Sl.pn v d) → σ[i]? = some (some v) ∧ Rp K (Rg Z s σ H) v d
  dl : ∀ (i : Nat) (kvs : List (List Int × List D)), s[i]? = some (Sl.dl kvs) → ∃ p, σ[i]? = some (some (V.ref p)) ∧ DlP K Hin Z (Rg Z s σ H) H p kvs
  tr : TrP K Hin Z s σ H
theorem rg_mono {Z : Addr → Prop} {s : Ev} {σ : St} {H H' : Hp} (e : Same H H') : Same (Rg Z s σ H) (Rg Z s σ H') := hide_mono e fun _ _ _ q => q
section
variable {K : PySem.W.Frag} {Hin Hin' H H' : Hp} {Z : Addr → Prop} {s : Ev} {σ : St} {p : Addr}
theorem Rel.mono (r : Rel K Hin Z s σ H) (e : Same H H') : Rel K Hin Z s σ H' where
  len := r.len
  base := r.base.trans e
  zin := fun a z q => r.zin a z (e.free q)
  sh := fun i d h => let ⟨v, h1, h2⟩ := r.sh i d h; ⟨v, h1, h2.mono (rg_mono e)⟩
  ow := fun i d h => let ⟨p, h1, h2, h3, h4⟩ := r.ow i d h; ⟨p, h1, h2, h3, h4.mono (rg_mono e) e⟩
  inj := r.inj
  as := fun i d h => let ⟨p, h1, h2⟩ := r.as i d h; ⟨p, h1, h2.mono (fun _ _ a b => ⟨a, b⟩) e⟩
  pn := fun i v d h => let ⟨h1, h2⟩ := r.pn i v d h; ⟨h1, h2.mono (rg_mono e)⟩
  dl := fun i k h => let ⟨p, h1, h2⟩ := r.dl i k h; ⟨p, h1, h2.mono (fun _ _ a b => ⟨a, b⟩) e (rg_mono e)⟩
  tr := r.tr.mono (fun _ _ a b => ⟨a, b⟩) e
theorem Rel.privH (r : Rel K Hin Z s σ H) (h : priv s σ p) : H p ≠ none ∧ ¬ Z p ∧ Hin p = none := by
  obtain ⟨i, d, h1, h2⟩ := h
  obtain ⟨q, h3, h4, h5, h6⟩ := r.ow i d h1
  rw [h2] at h3
  cases h3
  exact ⟨h6.there, h4, h5⟩
/-- another ground -/
theorem Rel.down (r : Rel K Hin' Z s σ H) (e : Same Hin Hin') : Rel K Hin Z s σ H :=
  ⟨r.len, e.trans r.base, r.zin, r.sh, fun i d h => let ⟨p, h1, h2, h3, h4⟩ := r.ow i d h; ⟨p, h1, h2, e.free h3, h4⟩, r.inj, fun i d h => let ⟨p, h1, h2⟩ := r.as i d h; ⟨p, h1, h2.mono (fun _ _ a b => ⟨a, e.free b⟩) (Same.refl _)⟩, r.pn, fun i k h => let ⟨p, h1, h2⟩ := r.dl i k h; ⟨p, h1, h2.mono (fun _ _ a b => ⟨a, e.free b⟩) (Same.refl _) (Same.refl _)⟩, r.tr.mono (fun _ _ a b => ⟨a, e.free b⟩) (Same.refl _)⟩
/-- all that is not a slot's own, as the ground -/
theorem Rel.up (r : Rel K Hin Z s σ H) : Rel K (hide (fun a => priv s σ a ∨ (Z a ∧ Hin a = none)) H) Z s σ H :=
  ⟨r.len, hide_le, r.zin, r.sh, fun i d h => let ⟨p, h1, h2, h3, h4⟩ := r.ow i d h; ⟨p, h1, h2, hide_yes (.inl ⟨i, d, h, h1⟩) h4.notIT, h4⟩, r.inj, fun i d h => let ⟨p, h1, h2⟩ := r.as i d h; ⟨p, h1, h2.mono (fun _ m a b => ⟨a, hide_yes (.inr ⟨a, b⟩) m⟩) (Same.refl _)⟩, r.pn, fun i k h => let ⟨p, h1, h2⟩ := r.dl i k h; ⟨p, h1, h2.mono (fun _ m a b => ⟨a, hide_yes (.inr ⟨a, b⟩) m⟩) (Same.refl _) (Same.refl _)⟩, r.tr.mono (fun _ m a b => ⟨a, hide_yes (.inr ⟨a, b⟩) m⟩) (Same.refl _)⟩
theorem Rel.upS (r : Rel K Hin Z s σ H) : Same Hin (hide (fun a => priv s σ a ∨ (Z a ∧ Hin a = none)) H) := fun a o h => by
  rw [hide_no (fun q => by rcases q with q | q; · rw [(r.privH q).2.2] at h; cases h
                           · rw [q.2] at h; cases h)]
  exact r.base _ _ h
/-- more is hidden -/
theorem Rel.hideMore (r : Rel K Hin Z s σ H) {D : Addr} {o : HO} (hD : H D = none) : Rel K Hin (fun a => Z a ∨ a = D) s σ (upd H D o) := by
  have nD : ∀ a, H a ≠ none → a ≠ D := fun a h z => h (by rw [z]; exact hD)
  have e : Same H (upd H D o) := fun a u h => by rw [upd_ne (nD a (by rw [h]; simp))]; exact h
  have g : Same (Rg Z s σ H) (Rg (fun a => Z a ∨ a = D) s σ (upd H D o)) := hide_mono e fun a h _ q => by
    rcases q with (q | q) | q
    · exact .inl q
    · exact absurd q (nD a h)
    · exact .inr q
  refine ⟨r.len, r.base.trans e, fun a z => ?_, fun i d h => ?_, fun i d h => ?_, r.inj, fun i d h => let ⟨p, h1, h2⟩ := r.as i d h; ⟨p, h1, h2.mono (fun _ _ a b => ⟨.inl a, b⟩) e⟩, fun i v d h => let ⟨h1, h2⟩ := r.pn i v d h; ⟨h1, h2.mono g⟩, fun i k h => let ⟨p, h1, h2⟩ := r.dl i k h; ⟨p, h1, h2.mono (fun _ _ a b => ⟨.inl a, b⟩) e g⟩, r.tr.mono (fun _ _ a b => ⟨.inl a, b⟩) e⟩
  · rcases z with z | z
    · intro q; exact r.zin a z (e.free q)
    · rw [z, upd_same]; simp
  · obtain ⟨v, h1, h2⟩ := r.sh i d h
    exact ⟨v, h1, h2.mono g⟩
  · obtain ⟨p, h1, h2, h3, h4⟩ := r.ow i d h
    exact ⟨p, h1, fun z => z.elim h2 (nD p h4.there), h3, h4.mono g e⟩
end
end DL
/-! Expressions: each computes a pure function of the slots' data. -/
namespace DL
open PySem PySem.Spec L2

inductive Kd where | sh | fr | ow
  deriving DecidableEq
structure Rv where
  k : Kd
  d : D
inductive Res (α : Type) where
  | ok (a : α)
  | exc (c : Nat)
  | stuck
def bnd {α β : Type} : Res α → (α → Res β) → Res β
  | .ok a, f => f a
  | .exc c, _ => .exc c
  | .stuck, _ => .stuck
@[simp] def Res.sat {α : Type} (p : α → Prop) (q : Nat → Prop) : Res α → Prop
  | .ok a => p a
  | .exc c => q c
  | .stuck => False
@[simp] theorem bnd_ok {α β : Type} {a : α} {f : α → Res β} : bnd (.ok a) f = f a := rfl
@[simp] theorem bnd_exc {α β : Type} {c : Nat} {f : α → Res β} : bnd (.exc c) f = .exc c := rfl
@[simp] theorem bnd_stuck {α β : Type} {f : α → Res β} : bnd .stuck f = .stuck := rfl
@[simp] theorem bnd_ite {α β : Type} {c : Prop} [Decidable c] {x y : Res α} {f : α → Res β} : bnd (if c then x else y) f = if c then bnd x f else bnd y f := by split <;> rfl
theorem sat_bnd {α β : Type} {p : β → Prop} {q : Nat → Prop} {x : Res α} {f : α → Res β} : (bnd x f).sat p q ↔ x.sat (fun a => (f a).sat p q) q := by cases x <;> rfl
theorem sat_mono {α : Type} {p p' : α → Prop} {q q' : Nat → Prop} {x : Res α} (h : x.sat p q) (hp : ∀ a, p a → p' a) (hq : ∀ c, q c → q' c) : x.sat p' q' := by
  cases x with
  | ok a => exact hp a h
  | exc c => exact hq c h
  | stuck => exact h
def lft {α : Type} : Option α → Res α
  | some a => .ok a
  | none => .stuck
@[simp] theorem lft_some {α : Type} {a : α} : lft (some a) = .ok a := rfl
@[simp] theorem lft_none {α : Type} : lft (none : Option α) = .stuck := rfl
@[simp] theorem lft_ite {α : Type} {c : Prop} [Decidable c] {x y : Option α} : lft (if c then x else y) = if c then lft x else lft y := by split <;> rfl
@[simp] def gt : Ev → Nat → Sl
  | [], _ => .un
  | x :: _, 0 => x
  | _ :: r, n + 1 => gt r n
@[simp] def st : Ev → Nat → Sl → Ev
  | [], _, _ => []
  | _ :: r, 0, v => v :: r
  | x :: r, n + 1, v => x :: st r n v
theorem st_eq : ∀ (s : Ev) (i : Nat) (v : Sl), st s i v = s.set i v
  | [], _, _ => by simp
  | _ :: _, 0, _ => by simp
  | x :: r, n + 1, v => by simp [st_eq r n v]
theorem gt_eq : ∀ (s : Ev) (i : Nat) (x : Sl), x ≠ .un → gt s i = x → s[i]? = some x
  | [], _, x, n, h => absurd h.symm (by simpa using n)
  | y :: _, 0, x, n, h => by simp at h; simp [h]
  | _ :: r, i + 1, x, n, h => by
    have := gt_eq r i x n (by simpa using h)
    simpa using this

def ResOk (K : PySem.W.Frag) (Z : Addr → Prop) (s : Ev) (σ : L2.St) (H H' : Hp) (v : V) (r : Rv) : Prop := match r.k with
  | .sh => Rp K (Rg Z s σ H') v r.d
  | .fr => ∃ p, v = V.ref p ∧ H p = none ∧ Own K (hide (fun a => (Z a ∨ priv s σ a) ∨ a = p) H') H' p r.d
  | .ow => ∃ p, v = V.ref p ∧ priv s σ p ∧ Own K (Rg Z s σ H') H' p r.d
section
variable {K : PySem.W.Frag} {Hin H0 H1 H H' : Hp} {Z : Addr → Prop} {s : Ev} {σ : L2.St} {v : V} {r : Rv}
theorem ResOk.mono (h : ResOk K Z s σ H0 H v r) (e : Same H H') : ResOk K Z s σ H0 H' v r := by
  obtain ⟨k, d⟩ := r
  cases k with
  | sh => exact Rp.mono (rg_mono e) h
  | fr =>
    obtain ⟨p, h1, h2, h3⟩ := h
    exact ⟨p, h1, h2, h3.mono (hide_mono e fun _ _ _ q => q) e⟩
  | ow =>
    obtain ⟨p, h1, h2, h3⟩ := h
    exact ⟨p, h1, h2, h3.mono (rg_mono e) e⟩
theorem ResOk.start (h : ResOk K Z s σ H1 H v r) (e : Same H0 H1) : ResOk K Z s σ H0 H v r := by
  obtain ⟨k, d⟩ := r
  cases k with
  | fr =>
    obtain ⟨p, h1, h2, h3⟩ := h
    exact ⟨p, h1, e.free h2, h3⟩
  | _ => exact h
/-- what may be read of it -/
theorem ResOk.full (h : ResOk K Z s σ H0 H v r) : Rp K H v r.d := by
  obtain ⟨k, d⟩ := r
  cases k with
  | sh => exact Rp.mono hide_le h
  | fr =>
    obtain ⟨p, rfl, h2, h3⟩ := h
    exact (h3.mono hide_le (Same.refl _)).rp rfl
  | ow =>
    obtain ⟨p, rfl, h2, h3⟩ := h
    exact (h3.mono hide_le (Same.refl _)).rp rfl
/-- a list is read: its items are shared -/
theorem ResOk.list {ds : List D} (h : ResOk K Z s σ H0 H v r) (e : r.d = .lst ds) : ∃ p xs, v = V.ref p ∧ H p = some (.lst xs) ∧ RpL K (Rg Z s σ H) xs ds := by
  obtain ⟨k, d⟩ := r
  dsimp only at e
  subst e
  cases k with
  | sh =>
    have h' : Rp K (Rg Z s σ H) v (.lst ds) := h
    cases h' with
    | lst a b => exact ⟨_, _, rfl, hide_le _ _ a, b⟩
  | fr =>
    obtain ⟨p, h1, h2, xs, h3, h4⟩ := h
    exact ⟨p, xs, h1, h3, h4.mono (hide_mono (Same.refl _) fun a _ _ q => .inl q)⟩
  | ow =>
    obtain ⟨p, h1, h2, xs, h3, h4⟩ := h
    exact ⟨p, xs, h1, h3, h4⟩
theorem ResOk.tuple {ds : List D} (h : ResOk K Z s σ H0 H v r) (e : r.d = .tup ds) : ∃ p xs, v = V.ref p ∧ H p = some (.tup xs) ∧ RpL K (Rg Z s σ H) xs ds := by
  obtain ⟨k, d⟩ := r
  dsimp only at e
  subst e
  cases k with
  | sh =>
    have h' : Rp K (Rg Z s σ H) v (.tup ds) := h
    cases h' with
    | tup a b => exact ⟨_, _, rfl, hide_le _ _ a, b⟩
  | fr => obtain ⟨p, h1, h2, h3⟩ := h; exact h3.elim
  | ow => obtain ⟨p, h1, h2, h3⟩ := h; exact h3.elim
theorem ResOk.int {i : Int} (h : ResOk K Z s σ H0 H v r) (e : r.d = .int i) : v = .int i := by
  have := h.full; rw [e] at this; cases this; rfl
theorem ResOk.bl {i : Bool} (h : ResOk K Z s σ H0 H v r) (e : r.d = .bl i) : v = .bl i := by
  have := h.full; rw [e] at this; cases this; rfl
theorem ResOk.non (h : ResOk K Z s σ H0 H v r) (e : r.d = .non) : v = .non := by
  have := h.full; rw [e] at this; cases this; rfl
/-- it goes among the shared -/
theorem ResOk.shared (h : ResOk K Z s σ H0 H v r) (hk : r.k ≠ .ow) (R : Rel K Hin Z s σ H0) (e : Same H0 H) : Rp K (Rg Z s σ H) v r.d := by
  obtain ⟨k, d⟩ := r
  cases k with
  | sh => exact h
  | fr =>
    obtain ⟨p, rfl, h2, h3⟩ := h
    have np : ¬ (Z p ∨ priv s σ p) := fun q => q.elim (fun z => R.zin p z h2) fun z => (R.privH z).1 h2
    exact (h3.mono (hide_mono (Same.refl _) fun a _ _ q => .inl q) (Same.refl _)).rp (hide_no np)
  | ow => exact absurd rfl hk
/-- a new list -/
theorem resNewL {p : Addr} {xs : List V} {ds : List D} (h : H p = none) (r : RpL K (Rg Z s σ H) xs ds) : ResOk K Z s σ H (upd H p (.lst xs)) (.ref p) ⟨.fr, .lst ds⟩ := by
  have ne : ∀ a, H a ≠ none → a ≠ p := fun a q z => q (by rw [z]; exact h)
  refine ⟨p, rfl, h, xs, upd_same, r.mono (hide_mono (fun a o q => ?_) fun a q _ z => ?_)⟩
  · rw [upd_ne (ne a (by rw [q]; simp))]; exact q
  · exact z.elim (fun y => y) fun y => absurd y (ne a q)
theorem same_new {p : Addr} {o : HO} (h : H p = none) : Same H (upd H p o) := fun a u q => by
  rw [upd_ne (ne_of_none q h)]; exact q
/-- a new tuple: shared at once -/
theorem resNewT {p : Addr} {xs : List V} {ds : List D} (R : Rel K Hin Z s σ H) (h : H p = none) (r : RpL K (Rg Z s σ H) xs ds) : ResOk K Z s σ H (upd H p (.tup xs)) (.ref p) ⟨.sh, .tup ds⟩ := by
  have np : ¬ (Z p ∨ priv s σ p) := fun q => q.elim (fun z => R.zin p z h) fun z => (R.privH z).1 h
  exact .tup ((hide_no np).trans upd_same) (r.mono (rg_mono (same_new h)))
end

/-! ### readings -/
/-- an exception of class c leaves -/
abbrev Exq (ca : Nat → Addr) (W : WX) (σ : L2.St) (H : Hp) (c : Nat) : Prop := ∀ H', Same H H' → W (.ref (ca c)) none σ H'
section
variable (K : PySem.W.Frag) (ca : Nat → Addr) (W : WX)
/-- an expression that computes f -/
def tE (f : Ev → Res Rv) : TE := fun σ H Q => ∃ Hin Z s, Rel K Hin Z s σ H ∧ (f s).sat (fun r => ∀ v H', Same H H' → ResOk K Z s σ H H' v r → Q v H') (Exq ca W σ H)
def tT (f : Ev → Res Bool) : TT := fun σ H Q => ∃ Hin Z s, Rel K Hin Z s σ H ∧ (f s).sat (fun b => ∀ H', Same H H' → Q b H') (Exq ca W σ H)
/-- arguments -/
inductive ResA (Z : Addr → Prop) (s : Ev) (σ : L2.St) (H H' : Hp) : List V → List Rv → Prop where
  | nil : ResA Z s σ H H' [] []
  | cons {v : V} {r : Rv} {vs : List V} {rs : List Rv} : ResOk K Z s σ H H' v r → ResA Z s σ H H' vs rs → ResA Z s σ H H' (v :: vs) (r :: rs)
def tA (f : Ev → Res (List Rv)) : TA := fun σ H Q => ∃ Hin Z s, Rel K Hin Z s σ H ∧ (f s).sat (fun rs => ∀ vs H', Same H H' → ResA K Z s σ H H' vs rs → Q vs H') (Exq ca W σ H)
end
theorem ResA.mono {K : PySem.W.Frag} {Z : Addr → Prop} {s : Ev} {σ : L2.St} {H0 H H' : Hp} (e : Same H H') : ∀ {vs : List V} {rs : List Rv}, ResA K Z s σ H0 H vs rs → ResA K Z s σ H0 H' vs rs
  | _, _, .nil => .nil
  | _, _, .cons h r => .cons (h.mono e) (r.mono e)
theorem ResA.start {K : PySem.W.Frag} {Z : Addr → Prop} {s : Ev} {σ : L2.St} {H0 H1 H : Hp} (e : Same H0 H1) : ∀ {vs : List V} {rs : List Rv}, ResA K Z s σ H1 H vs rs → ResA K Z s σ H0 H vs rs
  | _, _, .nil => .nil
  | _, _, .cons h r => .cons (h.start e) (r.start e)
theorem _root_.L2.PE.imp {X : Cx} {e : Expr} {t t' : TE} (h : PE X e t) (i : ∀ σ H Q, t' σ H Q → t σ H Q) : PE X e t' := ⟨fun pins s σ H Q I q => h.run pins s σ H Q I (i σ H Q q)⟩
theorem _root_.L2.PT.imp {X : Cx} {e : Expr} {t t' : TT} (h : PT X e t) (i : ∀ σ H Q, t' σ H Q → t σ H Q) : PT X e t' := ⟨fun pins s σ H Q I q => h.run pins s σ H Q I (i σ H Q q)⟩
theorem _root_.L2.PW.imp {X : Cx} {e : Expr} {t t' : TT} (h : PW X e t) (i : ∀ σ H Q, t' σ H Q → t σ H Q) : PW X e t' := ⟨fun wh pins s σ H Q I q => h.run wh pins s σ H Q I (i σ H Q q)⟩
theorem _root_.L2.PA.imp {X : Cx} {e : List Expr} {t t' : TA} (h : PA X e t) (i : ∀ σ H Q, t' σ H Q → t σ H Q) : PA X e t' := ⟨fun pos pins s σ H Q I q => h.run pos pins s σ H Q I (i σ H Q q)⟩
theorem _root_.L2.PS.imp {X : Cx} {e : Stmt} {t t' : TS} (h : PS X e t) (i : ∀ D σ H, t' D σ H → t D σ H) : PS X e t' := ⟨fun pins s σ H D I q => h.run pins s σ H D I (i D σ H q)⟩
theorem _root_.L2.PSs.imp {X : Cx} {e : List Stmt} {t t' : TS} (h : PSs X e t) (i : ∀ D σ H, t' D σ H → t D σ H) : PSs X e t' := ⟨fun pins s σ H D I q => h.run pins s σ H D I (i D σ H q)⟩

section
variable {K : PySem.W.Frag} {ca : Nat → Addr} {W : WX} {σ : L2.St} {H H1 : Hp} {Hin : Hp} {Z : Addr → Prop} {s : Ev}
theorem exq_go {c : Nat} (k : Same H H1) (h : Exq ca W σ H c) : Exq ca W σ H1 c := fun H' k' => h H' (k.trans k')
/-- one part, then what follows from its value -/
theorem tE_go {f : Ev → Res Rv} {Q : VK} (R : Rel K Hin Z s σ H) (h : (f s).sat (fun r => ∀ v H', Same H H' → Rel K Hin Z s σ H' → ResOk K Z s σ H H' v r → Q v H') (Exq ca W σ H)) : tE K ca W f σ H Q :=
  ⟨Hin, Z, s, R, sat_mono h (fun _ h v H' k q => h v H' k (R.mono k) q) fun _ h => h⟩
theorem tA_go {f : Ev → Res (List Rv)} {Q : List V → Hp → Prop} (R : Rel K Hin Z s σ H) (h : (f s).sat (fun r => ∀ v H', Same H H' → Rel K Hin Z s σ H' → ResA K Z s σ H H' v r → Q v H') (Exq ca W σ H)) : tA K ca W f σ H Q :=
  ⟨Hin, Z, s, R, sat_mono h (fun _ h v H' k q => h v H' k (R.mono k) q) fun _ h => h⟩
theorem tT_go {f : Ev → Res Bool} {Q : Bool → Hp → Prop} (R : Rel K Hin Z s σ H) (h : (f s).sat (fun r => ∀ H', Same H H' → Rel K Hin Z s σ H' → Q r H') (Exq ca W σ H)) : tT K ca W f σ H Q :=
  ⟨Hin, Z, s, R, sat_mono h (fun _ h H' k => h H' k (R.mono k)) fun _ h => h⟩
theorem satE_start {f : Res Rv} {Q : VK} (k : Same H H1) (h : f.sat (fun r => ∀ v H', Same H H' → ResOk K Z s σ H H' v r → Q v H') (Exq ca W σ H)) :
    f.sat (fun r => ∀ v H', Same H1 H' → ResOk K Z s σ H1 H' v r → Q v H') (Exq ca W σ H1) := sat_mono h (fun _ h v H' k' q => h v H' (k.trans k') (q.start k)) fun _ h => exq_go k h
theorem satT_start {f : Res Bool} {Q : Bool → Hp → Prop} (k : Same H H1) (h : f.sat (fun r => ∀ H', Same H H' → Q r H') (Exq ca W σ H)) :
    f.sat (fun r => ∀ H', Same H1 H' → Q r H') (Exq ca W σ H1) := sat_mono h (fun _ h H' k' => h H' (k.trans k')) fun _ h => exq_go k h
theorem sat_lft {α : Type} {o : Option α} {p : α → Prop} {q : Nat → Prop} (h : (lft o).sat p q) : ∃ a, o = some a ∧ p a := by
  cases o with
  | none => exact h.elim
  | some a => exact ⟨a, rfl, h⟩
end

section
variable {X : Cx} {ca : Nat → Addr} {W : WX} {a b c e : Expr} {es : List Expr} {fa fb fc : Ev → Res Rv} {pos : Pos}
abbrev DE (X : Cx) (ca : Nat → Addr) (W : WX) (e : Expr) (f : Ev → Res Rv) : Prop := PE X e (tE X.K ca W f)
abbrev DT (X : Cx) (ca : Nat → Addr) (W : WX) (e : Expr) (f : Ev → Res Bool) : Prop := PT X e (tT X.K ca W f)
abbrev DW (X : Cx) (ca : Nat → Addr) (W : WX) (e : Expr) (f : Ev → Res Bool) : Prop := PW X e (tT X.K ca W f)
abbrev DA (X : Cx) (ca : Nat → Addr) (W : WX) (e : List Expr) (f : Ev → Res (List Rv)) : Prop := PA X e (tA X.K ca W f)

/-! ### names, constants -/
@[simp] def fVar (i : Nat) : Ev → Res Rv := fun s => match gt s i with
  | .sh d => .ok ⟨.sh, d⟩
  | .ow d => .ok ⟨.ow, d⟩
  | .pn _ d => .ok ⟨.sh, d⟩
  | _ => .stuck
theorem de_var (i : Nat) {x : Str} {pos : Pos} (hN : X.N[i]? = some x := by rfl) (hv : Vis X.env.scope x := by first | exact Or.inl rfl | exact Or.inr (Or.inl rfl) | exact Or.inr (Or.inr rfl)) (hd : (x == ("__debug__" : Str)) = false := by decide)
    (hcd : (x == ("__classdict__" : Str)) = false := by decide) : DE X ca W (.Name x pos) (fVar i) := by
  refine (pe_var (i := i) hN hv hd hcd).imp fun σ H Q h => ?_
  obtain ⟨Hin, Z, s, R, h⟩ := h
  cases e : gt s i with
  | un => simp only [fVar, e] at h; exact h.elim
  | as d => simp only [fVar, e] at h; exact h.elim
  | dl k => simp only [fVar, e] at h; exact h.elim
  | tr k => simp only [fVar, e] at h; exact h.elim
  | pn v d =>
    simp only [fVar, e] at h
    obtain ⟨h1, h2⟩ := R.pn i v d (gt_eq s i _ (by simp) e)
    exact ⟨v, h1, h v H (Same.refl _) h2⟩
  | sh d =>
    simp only [fVar, e] at h
    obtain ⟨v, h1, h2⟩ := R.sh i d (gt_eq s i _ (by simp) e)
    exact ⟨v, h1, h v H (Same.refl _) h2⟩
  | ow d =>
    simp only [fVar, e] at h
    have e' := gt_eq s i _ (by simp) e
    obtain ⟨p, h1, h2, h3, h4⟩ := R.ow i d e'
    exact ⟨.ref p, h1, h _ H (Same.refl _) ⟨p, rfl, ⟨i, d, e', h1⟩, h4⟩⟩
@[simp] def fC (d : D) : Ev → Res Rv := fun _ => .ok ⟨.sh, d⟩
theorem de_c {v : V} {d : D} (h : PE X e (tC v)) (r : ∀ R, Rp X.K R v d) : DE X ca W e (fC d) := h.imp fun σ H Q ⟨Hin, Z, s, R, q⟩ => q v H (Same.refl _) (r _)
theorem de_int {i : Int} {j : Nat} : DE X ca W (.Constant (.int i) j pos) (fC (.int i)) := de_c pe_int fun _ => .int i
theorem de_bl {i : Bool} {j : Nat} : DE X ca W (.Constant (.bool i) j pos) (fC (.bl i)) := de_c pe_bl fun _ => .bl i
theorem de_non {j : Nat} : DE X ca W (.Constant .none j pos) (fC .non) := de_c pe_non fun _ => .non
theorem de_str {x : Str} {j : Nat} : DE X ca W (.Constant (.str x) j pos) (fC (.str x)) := de_c pe_str fun _ => .str x
theorem de_gint {x : Str} {i : Int} (hg : Gl X x) (hm : ∃ t, X.mg x = some (.int i t)) (hd : (x == ("__debug__" : Str)) = false := by decide) : DE X ca W (.Name x pos) (fC (.int i)) := by
  obtain ⟨t, hm⟩ := hm
  exact de_c (pe_glob (v := .int i) hg hm ⟨t, rfl⟩ hd) fun _ => .int i

/-! ### operators by values -/
/-- a two-place rule computes g -/
def OpD (K : PySem.W.Frag) (r : R2) (g : Rv → Rv → Option Rv) : Prop :=
  ∀ (Hin : Hp) (Z : Addr → Prop) (s : Ev) (σ : L2.St) (H0 H : Hp) (x y : V) (a b c : Rv) (Q : VK), Rel K Hin Z s σ H → ResOk K Z s σ H0 H x a → ResOk K Z s σ H0 H y b → g a b = some c →
    (∀ v H', Same H H' → ResOk K Z s σ H H' v c → Q v H') → r x y H Q
@[simp] def fOp (g : Rv → Rv → Option Rv) (fa fb : Ev → Res Rv) : Ev → Res Rv := fun s => bnd (fa s) fun x => bnd (fb s) fun y => lft (g x y)
theorem tOp_of {K : PySem.W.Frag} {r : R2} {g : Rv → Rv → Option Rv} (hr : OpD K r g) {σ : L2.St} {H : Hp} {Q : VK} (h : tE K ca W (fOp g fa fb) σ H Q) : tOp r (tE K ca W fa) (tE K ca W fb) σ H Q := by
  obtain ⟨Hin, Z, s, R, h⟩ := h
  refine tE_go R ?_
  simp only [fOp, sat_bnd] at h
  refine sat_mono h (fun x h v H1 k1 R1 q1 => tE_go R1 (sat_mono h (fun y h w H2 k2 R2 q2 => ?_) fun _ h => exq_go k1 h)) fun _ h => h
  obtain ⟨z, e3, h⟩ := sat_lft h
  exact hr Hin Z s σ H H2 v w x y z Q R2 (q1.mono k2) (q2.start k1) e3 fun u H' k q => h u H' (k1.trans (k2.trans k)) (q.start (k1.trans k2))
theorem de_op {op : Operator} {r : R2} {g : Rv → Rv → Option Rv} (ho : OpR X (binaryOp op) r ∧ OpD X.K r g) (ha : DE X ca W a fa) (hb : DE X ca W b fb) : DE X ca W (.BinOp a op b pos) (fOp g fa fb) :=
  (pe_op ho.1 ha hb).imp fun _ _ _ h => tOp_of ho.2 h
theorem de_cmp {op : CmpOp} {r : R2} {g : Rv → Rv → Option Rv} (ho : OpR X (compareOp op) r ∧ OpD X.K r g) (ha : DE X ca W a fa) (hb : DE X ca W b fb) (hm : behindInMarks op b = false := by first | exact nomark _ | rfl) : DE X ca W (.Compare a [op] [b] pos) (fOp g fa fb) :=
  (pe_cmpR ho.1 ha hb hm).imp fun _ _ _ h => tOp_of ho.2 h
/-- a value that is a truth -/
@[simp] def asB (r : Rv) : Res Bool := match r.d with
  | .bl b => .ok b
  | _ => .stuck
theorem sat_asB {r : Rv} {p : Bool → Prop} {q : Nat → Prop} (h : (asB r).sat p q) : ∃ b, r.d = .bl b ∧ p b := by
  obtain ⟨k, d⟩ := r
  cases d with
  | bl b => exact ⟨b, rfl, h⟩
  | _ => exact h.elim
@[simp] def fB (f : Ev → Res Rv) : Ev → Res Bool := fun s => bnd (f s) asB
theorem tE_test {K : PySem.W.Frag} {f : Ev → Res Rv} {σ : L2.St} {H : Hp} {Q : Bool → Hp → Prop} (h : tT K ca W (fB f) σ H Q) : tE K ca W f σ H fun x H' => ∃ k, x = .bl k ∧ Q k H' := by
  obtain ⟨Hin, Z, s, R, h⟩ := h
  simp only [fB, sat_bnd] at h
  refine tE_go R (sat_mono h (fun x h v H1 k1 R1 q1 => ?_) fun _ h => h)
  obtain ⟨b, e, h⟩ := sat_asB h
  exact ⟨b, q1.bl e, h H1 k1⟩
theorem dt_cmp {op : CmpOp} {r : R2} {g : Rv → Rv → Option Rv} (ho : OpR X (compareOp op) r ∧ OpD X.K r g) (ha : DE X ca W a fa) (hb : DE X ca W b fb) (hm : behindInMarks op b = false := by first | exact nomark _ | rfl) : DT X ca W (.Compare a [op] [b] pos) (fB (fOp g fa fb)) :=
  (pt_cmpR ho.1 ha hb hm).imp fun σ H Q h => by
    obtain ⟨Hin, Z, s, R, h⟩ := h
    refine tOp_of (Q := fun x H' => ∃ k, x = .bl k ∧ Q k H') ho.2 (tE_test ⟨Hin, Z, s, R, h⟩)
theorem dt_val {f : Ev → Res Rv} (h : DE X ca W e f) (he : ∀ whole, isTrue e X.env whole = (do let v ← whole; standAt e.pos; holding [v] (truthy v)) := by intro _; rfl) : DT X ca W e (fB f) :=
  (pt_val h he).imp fun _ _ _ h => tE_test h
@[simp] def tNotF (t : Ev → Res Bool) : Ev → Res Bool := fun s => bnd (t s) fun b => .ok (!b)
theorem dt_not {t : Ev → Res Bool} (h : DT X ca W a t) : DT X ca W (.UnaryOp .Not a pos) (tNotF t) :=
  (pt_not h).imp fun σ H Q h => by
    obtain ⟨Hin, Z, s, R, h⟩ := h
    simp only [tNotF, sat_bnd] at h
    exact tT_go R (sat_mono h (fun x h H1 k1 _ => h H1 k1) fun _ h => h)
@[simp] def fNot (f : Ev → Res Rv) : Ev → Res Rv := fun s => bnd (f s) fun r => bnd (asB r) fun b => .ok ⟨.sh, .bl (!b)⟩
theorem de_not (h : DE X ca W a fa) : DE X ca W (.UnaryOp .Not a pos) (fNot fa) :=
  (pe_not h).imp fun σ H Q h => by
    obtain ⟨Hin, Z, s, R, h⟩ := h
    simp only [fNot, sat_bnd] at h
    refine tE_go R (sat_mono h (fun x h v H1 k1 R1 q1 => ?_) fun _ h => h)
    obtain ⟨b, e, h⟩ := sat_asB h
    exact ⟨b, q1.bl e, h _ H1 k1 (Rp.bl _)⟩
@[simp] def fAnd (f g : Ev → Res Rv) : Ev → Res Rv := fun s => bnd (f s) fun r => bnd (asB r) fun b => if b then g s else .ok ⟨.sh, .bl false⟩
@[simp] def fOr (f g : Ev → Res Rv) : Ev → Res Rv := fun s => bnd (f s) fun r => bnd (asB r) fun b => if b then .ok ⟨.sh, .bl true⟩ else g s
theorem de_one {op : BoolOp} {f : Ev → Res Rv} (h : DE X ca W a f) : DE X ca W (.BoolOp op [a] pos) f := pe_one h
theorem de_and {rest : List Expr} (ha : DE X ca W a fa) (hb : DE X ca W (.BoolOp .And (b :: rest) pos) fb) : DE X ca W (.BoolOp .And (a :: b :: rest) pos) (fAnd fa fb) :=
  (pe_and ha hb).imp fun σ H Q h => by
    obtain ⟨Hin, Z, s, R, h⟩ := h
    simp only [fAnd, sat_bnd] at h
    refine tE_go R (sat_mono h (fun x h v H1 k1 R1 q1 => ?_) fun _ h => h)
    obtain ⟨b, e, h⟩ := sat_asB h
    refine ⟨b, q1.bl e, ?_⟩
    cases b with
    | true => exact iteT ⟨Hin, Z, s, R1, satE_start k1 h⟩
    | false => exact iteF (h _ H1 k1 (Rp.bl _))
theorem de_or {rest : List Expr} (ha : DE X ca W a fa) (hb : DE X ca W (.BoolOp .Or (b :: rest) pos) fb) : DE X ca W (.BoolOp .Or (a :: b :: rest) pos) (fOr fa fb) :=
  (pe_or ha hb).imp fun σ H Q h => by
    obtain ⟨Hin, Z, s, R, h⟩ := h
    simp only [fOr, sat_bnd] at h
    refine tE_go R (sat_mono h (fun x h v H1 k1 R1 q1 => ?_) fun _ h => h)
    obtain ⟨b, e, h⟩ := sat_asB h
    refine ⟨b, q1.bl e, ?_⟩
    cases b with
    | true => exact iteT (h _ H1 k1 (Rp.bl _))
    | false => exact iteF ⟨Hin, Z, s, R1, satE_start k1 h⟩
@[simp] def tAndF (f g : Ev → Res Bool) : Ev → Res Bool := fun s => bnd (f s) fun b => if b then g s else .ok false
@[simp] def tOrF (f g : Ev → Res Bool) : Ev → Res Bool := fun s => bnd (f s) fun b => if b then .ok true else g s
theorem dw_and1 {t : Ev → Res Bool} (h : DT X ca W a t) : DW X ca W (.BoolOp .And [a] pos) t := pw_and1 h
theorem dw_or1 {t : Ev → Res Bool} (h : DT X ca W a t) : DW X ca W (.BoolOp .Or [a] pos) t := pw_or1 h
theorem dw_and {rest : List Expr} {t u : Ev → Res Bool} (ha : DT X ca W a t) (hb : DW X ca W (.BoolOp .And (b :: rest) pos) u) : DW X ca W (.BoolOp .And (a :: b :: rest) pos) (tAndF t u) :=
  (pw_and ha hb).imp fun σ H Q h => by
    obtain ⟨Hin, Z, s, R, h⟩ := h
    simp only [tAndF, sat_bnd] at h
    refine tT_go R (sat_mono h (fun x h H1 k1 R1 => ?_) fun _ h => h)
    cases x with
    | true => exact iteT ⟨Hin, Z, s, R1, satT_start k1 h⟩
    | false => exact iteF (h H1 k1)
theorem dw_or {rest : List Expr} {t u : Ev → Res Bool} (ha : DT X ca W a t) (hb : DW X ca W (.BoolOp .Or (b :: rest) pos) u) : DW X ca W (.BoolOp .Or (a :: b :: rest) pos) (tOrF t u) :=
  (pw_or ha hb).imp fun σ H Q h => by
    obtain ⟨Hin, Z, s, R, h⟩ := h
    simp only [tOrF, sat_bnd] at h
    refine tT_go R (sat_mono h (fun x h H1 k1 R1 => ?_) fun _ h => h)
    cases x with
    | true => exact iteT (h H1 k1)
    | false => exact iteF ⟨Hin, Z, s, R1, satT_start k1 h⟩
theorem dt_w {t : Ev → Res Bool} (h : DW X ca W a t) : DT X ca W a t := PW.pt h
@[simp] def fIf (t : Ev → Res Bool) (f g : Ev → Res Rv) : Ev → Res Rv := fun s => bnd (t s) fun b => if b then f s else g s
theorem de_if {t : Ev → Res Bool} (hc : DT X ca W c t) (ha : DE X ca W a fa) (hb : DE X ca W b fb) : DE X ca W (.IfExp c a b pos) (fIf t fa fb) :=
  (pe_ifExp hc ha hb).imp fun σ H Q h => by
    obtain ⟨Hin, Z, s, R, h⟩ := h
    simp only [fIf, sat_bnd] at h
    refine tT_go R (sat_mono h (fun x h H1 k1 R1 => ?_) fun _ h => h)
    cases x with
    | true => exact iteT ⟨Hin, Z, s, R1, satE_start k1 h⟩
    | false => exact iteF ⟨Hin, Z, s, R1, satE_start k1 h⟩
/-- a op b op' c -/
@[simp] def fCh (g g' : Rv → Rv → Option Rv) (fa fb fc : Ev → Res Rv) : Ev → Res Rv := fun s => bnd (fa s) fun x => bnd (fb s) fun y => bnd (lft (g x y)) fun t => bnd (asB t) fun k => if k then bnd (fc s) fun z => lft (g' y z) else .ok ⟨.sh, .bl false⟩
theorem tChain_of {K : PySem.W.Frag} {r r' : R2} {g g' : Rv → Rv → Option Rv} (hr : OpD K r g) (hr' : OpD K r' g') {σ : L2.St} {H : Hp} {Q : VK} (h : tE K ca W (fCh g g' fa fb fc) σ H Q) : tChain r r' (tE K ca W fa) (tE K ca W fb) (tE K ca W fc) σ H Q := by
  obtain ⟨Hin, Z, s, R, h⟩ := h
  simp only [fCh, sat_bnd] at h
  refine tE_go R (sat_mono h (fun x h v H1 k1 R1 q1 => tE_go R1 (sat_mono h (fun y h w H2 k2 R2 q2 => ?_) fun _ h => exq_go k1 h)) fun _ h => h)
  obtain ⟨z, e3, h⟩ := sat_lft h
  refine hr Hin Z s σ H H2 v w x y z _ R2 (q1.mono k2) (q2.start k1) e3 fun u H3 k3 q3 => ?_
  obtain ⟨t, ed, h⟩ := sat_asB h
  refine ⟨t, q3.bl ed, ?_⟩
  cases t with
  | false => exact iteF (h _ H3 (k1.trans (k2.trans k3)) (Rp.bl _))
  | true =>
    rw [if_pos rfl] at h
    simp only [sat_bnd] at h
    refine iteT (tE_go (R2.mono k3) (sat_mono h (fun z' h w' H4 k4 R4 q4 => ?_) fun _ h => exq_go (k1.trans (k2.trans k3)) h))
    obtain ⟨y', e5, h⟩ := sat_lft h
    exact hr' Hin Z s σ H H4 w w' y z' y' Q R4 ((q2.mono (k3.trans k4)).start k1) (q4.start (k1.trans (k2.trans k3))) e5 fun u' H' k q => h u' H' (k1.trans (k2.trans (k3.trans (k4.trans k)))) (q.start (k1.trans (k2.trans (k3.trans k4))))
theorem de_chain {op op' : CmpOp} {r r' : R2} {g g' : Rv → Rv → Option Rv} (ho : OpR X (compareOp op) r ∧ OpD X.K r g) (ho' : OpR X (compareOp op') r' ∧ OpD X.K r' g') (ha : DE X ca W a fa) (hb : DE X ca W b fb) (hc : DE X ca W c fc)
    (hm : lastMarks [op, op'] [b, c] = false := by with_unfolding_all rfl) : DE X ca W (.Compare a [op, op'] [b, c] pos) (fCh g g' fa fb fc) :=
  (pe_chain ho.1 ho'.1 ha hb hc hm).imp fun _ _ _ h => tChain_of ho.2 ho'.2 h
theorem dt_chain {op op' : CmpOp} {r r' : R2} {g g' : Rv → Rv → Option Rv} (ho : OpR X (compareOp op) r ∧ OpD X.K r g) (ho' : OpR X (compareOp op') r' ∧ OpD X.K r' g') (ha : DE X ca W a fa) (hb : DE X ca W b fb) (hc : DE X ca W c fc)
    (hm : lastMarks [op, op'] [b, c] = false := by with_unfolding_all rfl) : DT X ca W (.Compare a [op, op'] [b, c] pos) (fB (fCh g g' fa fb fc)) :=
  (pt_chain ho.1 ho'.1 ha hb hc hm).imp fun σ H Q h => by
    obtain ⟨Hin, Z, s, R, h⟩ := h
    exact tChain_of (Q := fun x H' => ∃ k, x = .bl k ∧ Q k H') ho.2 ho'.2 (tE_test ⟨Hin, Z, s, R, h⟩)

/-! ### arguments, displays -/
theorem da_nil : DA X ca W [] (fun _ => .ok []) := pa_nil.imp fun σ H Q ⟨Hin, Z, s, R, q⟩ => q [] H (Same.refl _) .nil
@[simp] def fCons (f : Ev → Res Rv) (g : Ev → Res (List Rv)) : Ev → Res (List Rv) := fun s => bnd (f s) fun x => bnd (g s) fun xs => .ok (x :: xs)
theorem da_cons {fs : Ev → Res (List Rv)} (ha : DE X ca W e fa) (hr : DA X ca W es fs) (hs : starEach (e :: es) X.env = (false, eval e X.env) :: starEach es X.env := by rfl) : DA X ca W (e :: es) (fCons fa fs) :=
  (pa_cons ha hr hs).imp fun σ H Q h => by
    obtain ⟨Hin, Z, s, R, h⟩ := h
    simp only [fCons, sat_bnd] at h
    refine tE_go R (sat_mono h (fun x h v H1 k1 R1 q1 => tA_go R1 (sat_mono h (fun y h w H2 k2 R2 q2 => ?_) fun _ h => exq_go k1 h)) fun _ h => h)
    exact h _ H2 (k1.trans k2) (.cons (q1.mono k2) (q2.start k1))
/-- all may be shared -/
@[simp] def shs : List Rv → Option (List D)
  | [] => some []
  | ⟨.ow, _⟩ :: _ => none
  | ⟨_, d⟩ :: r => (shs r).map (d :: ·)
theorem ResA.shared {K : PySem.W.Frag} {Hin : Hp} {Z : Addr → Prop} {s : Ev} {σ : L2.St} {H0 H : Hp} (R : Rel K Hin Z s σ H0) (e : Same H0 H) : ∀ {vs : List V} {rs : List Rv} {ds : List D}, ResA K Z s σ H0 H vs rs → shs rs = some ds → RpL K (Rg Z s σ H) vs ds
  | _, _, ds, .nil, h => by
    simp only [shs, Option.some.injEq] at h
    subst h
    exact .nil
  | _, _, ds, @ResA.cons _ _ _ _ _ _ v ⟨k, d⟩ vs rs h r, q => by
    cases k with
    | ow => simp [shs] at q
    | sh =>
      simp only [shs] at q
      cases e2 : shs rs with
      | none => rw [e2] at q; cases q
      | some es =>
        rw [e2] at q
        cases q
        exact .cons (h.shared (by simp) R e) (ResA.shared R e r e2)
    | fr =>
      simp only [shs] at q
      cases e2 : shs rs with
      | none => rw [e2] at q; cases q
      | some es =>
        rw [e2] at q
        cases q
        exact .cons (h.shared (by simp) R e) (ResA.shared R e r e2)
/-- the longest list -/
abbrev lim : Nat := 16777216
theorem le_line {n : Nat} (h : n ≤ lim) : n ≤ sizeLine := by rw [sizeLine_eq]; exact h
@[simp] def fLst (f : Ev → Res (List Rv)) : Ev → Res Rv := fun s => bnd (f s) fun rs => bnd (lft (shs rs)) fun ds => if ds.length ≤ lim then .ok ⟨.fr, .lst ds⟩ else .stuck
@[simp] def fTup (f : Ev → Res (List Rv)) : Ev → Res Rv := fun s => bnd (f s) fun rs => bnd (lft (shs rs)) fun ds => if ds.length ≤ lim then .ok ⟨.sh, .tup ds⟩ else .stuck
theorem sat_if {α : Type} {c : Prop} [Decidable c] {x : Res α} {p : α → Prop} {q : Nat → Prop} (h : (if c then x else .stuck).sat p q) : c ∧ x.sat p q := by
  by_cases k : c
  · rw [if_pos k] at h; exact ⟨k, h⟩
  · rw [if_neg k] at h; exact h.elim
theorem de_lst {fs : Ev → Res (List Rv)} (h : DA X ca W es fs) : DE X ca W (.List es pos) (fLst fs) :=
  (pe_lst h).imp fun σ H Q h => by
    obtain ⟨Hin, Z, s, R, h⟩ := h
    simp only [fLst, sat_bnd] at h
    refine tA_go R (sat_mono h (fun rs h vs H1 k1 R1 q1 => ?_) fun _ h => h)
    obtain ⟨ds, e2, h⟩ := sat_lft h
    obtain ⟨hl, h⟩ := sat_if h
    have q2 := q1.shared R k1 e2
    exact ⟨by rw [q2.length]; exact le_line hl, fun p hp => h _ _ (k1.trans (same_new hp)) ((resNewL hp q2).start k1)⟩
theorem de_tup {k : Nat} {fs : Ev → Res (List Rv)} (h : DA X ca W es fs) : DE X ca W (.Tuple es k pos) (fTup fs) :=
  (pe_tup h).imp fun σ H Q h => by
    obtain ⟨Hin, Z, s, R, h⟩ := h
    simp only [fTup, sat_bnd] at h
    refine tA_go R (sat_mono h (fun rs h vs H1 k1 R1 q1 => ?_) fun _ h => h)
    obtain ⟨ds, e2, h⟩ := sat_lft h
    obtain ⟨hl, h⟩ := sat_if h
    have q2 := q1.shared R k1 e2
    exact ⟨by rw [q2.length]; exact le_line hl, fun p hp => h _ _ (k1.trans (same_new hp)) ((resNewT R1 hp q2).start k1)⟩
end
end DL
/-! Operators, subscripts, slices, built-ins by values. -/
namespace DL
open PySem PySem.Spec L2

section
variable {X : Cx} {ca : Nat → Addr} {W : WX}
theorem rvI {K : PySem.W.Frag} {Z : Addr → Prop} {s : Ev} {σ : L2.St} {H H' : Hp} {i : Int} : ResOk K Z s σ H H' (.int i) ⟨.sh, .int i⟩ := Rp.int i
theorem rvB {K : PySem.W.Frag} {Z : Addr → Prop} {s : Ev} {σ : L2.St} {H H' : Hp} {i : Bool} : ResOk K Z s σ H H' (.bl i) ⟨.sh, .bl i⟩ := Rp.bl i
/-- two ints in, an int out -/
@[simp] def iiO (C : Int → Int → Prop) [∀ i j, Decidable (C i j)] (h : Int → Int → D) : Rv → Rv → Option Rv
  | ⟨_, .int i⟩, ⟨_, .int j⟩ => if C i j then some ⟨.sh, h i j⟩ else none
  | _, _ => none
theorem opD_I {C : Int → Int → Prop} [∀ i j, Decidable (C i j)] {C' : Int → Int → Prop} {h : Int → Int → V} {h' : Int → Int → D} (hc : ∀ i j, C i j → C' i j) (hh : ∀ R i j, Rp X.K R (h i j) (h' i j)) : OpD X.K (rI C' h) (iiO C h') := by
  intro Hin Z s σ H0 H x y a b c Q R qa qb e q
  obtain ⟨ka, da⟩ := a
  obtain ⟨kb, db⟩ := b
  cases da with
  | int i =>
    cases db with
    | int j =>
      simp only [iiO] at e
      split at e
      · rename_i hC
        cases e
        exact ⟨i, j, qa.int rfl, qb.int rfl, hc i j hC, q _ H (Same.refl _) (hh _ i j)⟩
      · cases e
    | _ => simp [iiO] at e
  | _ => simp [iiO] at e
theorem opD_I0 {h : Int → Int → V} {h' : Int → Int → D} (hh : ∀ R i j, Rp X.K R (h i j) (h' i j)) : OpD X.K (rI0 h) (iiO (fun _ _ => True) h') := by
  intro Hin Z s σ H0 H x y a b c Q R qa qb e q
  obtain ⟨ka, da⟩ := a
  obtain ⟨kb, db⟩ := b
  cases da with
  | int i =>
    cases db with
    | int j =>
      simp only [iiO, if_true] at e
      cases e
      exact ⟨i, j, qa.int rfl, qb.int rfl, q _ H (Same.refl _) (hh _ i j)⟩
    | _ => simp [iiO] at e
  | _ => simp [iiO] at e
@[simp] abbrev subO : Rv → Rv → Option Rv := iiO (fun _ _ => True) fun i j => .int (i - j)
@[simp] abbrev modO : Rv → Rv → Option Rv := iiO (fun _ j => 0 < j) fun i j => .int (i % j)
@[simp] abbrev fdivO : Rv → Rv → Option Rv := iiO (fun _ j => 0 < j ∧ j < 1073741824) fun i j => .int (i / j)
@[simp] abbrev powO : Rv → Rv → Option Rv := iiO (fun i j => 0 ≤ j ∧ j ≤ 1000000 ∧ i.natAbs < 2 ^ 64) fun i j => .int (i ^ j.toNat)
theorem od_sub : OpR X (binaryOp .Sub) (rI0 fun i j => .int (i - j)) ∧ OpD X.K (rI0 fun i j => .int (i - j)) subO := ⟨op_sub, opD_I0 fun _ _ _ => .int _⟩
theorem od_mod : OpR X (binaryOp .Mod) (rI (fun _ j => 0 < j) fun i j => .int (i % j)) ∧ OpD X.K (rI (fun _ j => 0 < j) fun i j => .int (i % j)) modO := ⟨op_mod, opD_I (fun _ _ h => h) fun _ _ _ => .int _⟩
theorem od_fdiv : OpR X (binaryOp .FloorDiv) (rI CDiv fun i j => .int (i / j)) ∧ OpD X.K (rI CDiv fun i j => .int (i / j)) fdivO := ⟨op_fdiv, opD_I (fun _ _ h => h) fun _ _ _ => .int _⟩
theorem od_pow : OpR X (binaryOp .Pow) (rI CPow fun i j => .int (i ^ j.toNat)) ∧ OpD X.K (rI CPow fun i j => .int (i ^ j.toNat)) powO := ⟨op_pow, opD_I (fun _ _ h => h) fun _ _ _ => .int _⟩
@[simp] abbrev ltO : Rv → Rv → Option Rv := iiO (fun _ _ => True) fun i j => .bl (decide (i < j))
@[simp] abbrev leO : Rv → Rv → Option Rv := iiO (fun _ _ => True) fun i j => .bl (decide (i ≤ j))
@[simp] abbrev gtO : Rv → Rv → Option Rv := iiO (fun _ _ => True) fun i j => .bl (decide (j < i))
@[simp] abbrev geO : Rv → Rv → Option Rv := iiO (fun _ _ => True) fun i j => .bl (decide (j ≤ i))
theorem od_lt : OpR X (compareOp .Lt) (rI0 fun i j => .bl (decide (i < j))) ∧ OpD X.K (rI0 fun i j => .bl (decide (i < j))) ltO := ⟨op_lt, opD_I0 fun _ _ _ => .bl _⟩
theorem od_le : OpR X (compareOp .LtE) (rI0 fun i j => .bl (decide (i ≤ j))) ∧ OpD X.K (rI0 fun i j => .bl (decide (i ≤ j))) leO := ⟨op_le, opD_I0 fun _ _ _ => .bl _⟩
theorem od_gt : OpR X (compareOp .Gt) (rI0 fun i j => .bl (decide (j < i))) ∧ OpD X.K (rI0 fun i j => .bl (decide (j < i))) gtO := ⟨op_gt, opD_I0 fun _ _ _ => .bl _⟩
theorem od_ge : OpR X (compareOp .GtE) (rI0 fun i j => .bl (decide (j ≤ i))) ∧ OpD X.K (rI0 fun i j => .bl (decide (j ≤ i))) geO := ⟨op_ge, opD_I0 fun _ _ _ => .bl _⟩
/-! + : ints, lists; * : ints, a list and an int -/
@[simp] def addO : Rv → Rv → Option Rv
  | ⟨_, .int i⟩, ⟨_, .int j⟩ => some ⟨.sh, .int (i + j)⟩
  | ⟨_, .lst xs⟩, ⟨_, .lst ys⟩ => if xs.length + ys.length ≤ lim then some ⟨.fr, .lst (xs ++ ys)⟩ else none
  | _, _ => none
theorem od_add : OpR X (binaryOp .Add) (fun x y H Q => rI0 (fun i j => .int (i + j)) x y H Q ∨ rCat x y H Q) ∧ OpD X.K (fun x y H Q => rI0 (fun i j => .int (i + j)) x y H Q ∨ rCat x y H Q) addO := by
  refine ⟨op_add.or op_cat, ?_⟩
  intro Hin Z s σ H0 H x y a b c Q R qa qb e q
  obtain ⟨ka, da⟩ := a
  obtain ⟨kb, db⟩ := b
  cases da with
  | int i =>
    cases db with
    | int j =>
      simp only [addO] at e
      cases e
      exact .inl ⟨i, j, qa.int rfl, qb.int rfl, q _ H (Same.refl _) rvI⟩
    | _ => simp [addO] at e
  | lst xs =>
    cases db with
    | lst ys =>
      simp only [addO] at e
      split at e
      · rename_i hl
        cases e
        obtain ⟨p, vs, rfl, hp, r1⟩ := qa.list rfl
        obtain ⟨p', ws, rfl, hp', r2⟩ := qb.list rfl
        refine .inr ⟨p, p', vs, ws, rfl, rfl, hp, hp', by rw [r1.length, r2.length]; exact le_line hl, fun n hn => q _ _ (same_new hn) (resNewL hn (r1.app r2))⟩
      · cases e
    | _ => simp [addO] at e
  | _ => simp [addO] at e
theorem RpL.rep {K : PySem.W.Frag} {R : Hp} {vs : List V} {ds : List D} (h : RpL K R vs ds) : ∀ k : Nat, RpL K R (List.replicate k vs).flatten (List.replicate k ds).flatten
  | 0 => .nil
  | k + 1 => by
    rw [List.replicate_succ, List.replicate_succ, List.flatten_cons, List.flatten_cons]
    exact h.app (RpL.rep h k)
@[simp] def mulO : Rv → Rv → Option Rv
  | ⟨_, .int i⟩, ⟨_, .int j⟩ => if (-(2 ^ 64) < i ∧ i < 2 ^ 64) ∨ (-(2 ^ 64) < j ∧ j < 2 ^ 64) then some ⟨.sh, .int (i * j)⟩ else none
  | ⟨_, .lst xs⟩, ⟨_, .int k⟩ => if -(2 ^ 63) ≤ k ∧ k < 2 ^ 63 ∧ xs.length * k.toNat ≤ lim then some ⟨.fr, .lst (List.replicate k.toNat xs).flatten⟩ else none
  | _, _ => none
theorem od_mul : OpR X (binaryOp .Mult) (fun x y H Q => rI CMul (fun i j => .int (i * j)) x y H Q ∨ rRep x y H Q) ∧ OpD X.K (fun x y H Q => rI CMul (fun i j => .int (i * j)) x y H Q ∨ rRep x y H Q) mulO := by
  refine ⟨op_mul.or op_rep, ?_⟩
  intro Hin Z s σ H0 H x y a b c Q R qa qb e q
  obtain ⟨ka, da⟩ := a
  obtain ⟨kb, db⟩ := b
  cases da with
  | int i =>
    cases db with
    | int j =>
      simp only [mulO] at e
      split at e
      · rename_i hC
        cases e
        exact .inl ⟨i, j, qa.int rfl, qb.int rfl, hC, q _ H (Same.refl _) rvI⟩
      · cases e
    | _ => simp [mulO] at e
  | lst xs =>
    cases db with
    | int k =>
      simp only [mulO] at e
      split at e
      · rename_i hC
        cases e
        obtain ⟨p, vs, rfl, hp, r1⟩ := qa.list rfl
        refine .inr ⟨p, k, vs, rfl, qb.int rfl, hp, hC.1, hC.2.1, by rw [r1.length]; exact le_line hC.2.2, fun n hn => q _ _ (same_new hn) (resNewL hn (r1.rep _))⟩
      · cases e
    | _ => simp [mulO] at e
  | _ => simp [mulO] at e

/-! ### == and != of data -/
def eqD (a b : D) : Bool := PyData.eqv (toPy a) (toPy b)
def okEq (a : D) : Bool := SeqAt.shaped (toPy a)
@[simp] def eqO : Rv → Rv → Option Rv := fun a b => if okEq a.d = true ∧ okEq b.d = true then some ⟨.sh, .bl (eqD a.d b.d)⟩ else none
@[simp] def neO : Rv → Rv → Option Rv := fun a b => if okEq a.d = true ∧ okEq b.d = true then some ⟨.sh, .bl (!eqD a.d b.d)⟩ else none
theorem ResOk.dp {K : PySem.W.Frag} {Z : Addr → Prop} {s : Ev} {σ : L2.St} {H0 H : Hp} {v : V} {r : Rv} (h : ResOk K Z s σ H0 H v r) (e : okEq r.d = true) : Dp K H v (toPy r.d) := Rp.dp h.full (SeqAt.canLay_of_shaped e)
theorem od_eq (hu : X.A.units + 64 < cLine) : OpR X (compareOp .Eq) (rEqD X.K) ∧ OpD X.K (rEqD X.K) eqO := by
  refine ⟨op_eqD hu, ?_⟩
  intro Hin Z s σ H0 H x y a b c Q R qa qb e q
  simp only [eqO] at e
  split at e
  · rename_i h
    cases e
    exact ⟨_, _, qa.dp h.1, qb.dp h.2, h.1, h.2, q _ H (Same.refl _) rvB⟩
  · cases e
theorem od_ne (hu : X.A.units + 64 < cLine) : OpR X (compareOp .NotEq) (rNeD X.K) ∧ OpD X.K (rNeD X.K) neO := by
  refine ⟨op_neD hu, ?_⟩
  intro Hin Z s σ H0 H x y a b c Q R qa qb e q
  simp only [neO] at e
  split at e
  · rename_i h
    cases e
    exact ⟨_, _, qa.dp h.1, qb.dp h.2, h.1, h.2, q _ H (Same.refl _) rvB⟩
  · cases e
/-! in a list -/
@[simp] def inO (neg : Bool) : Rv → Rv → Option Rv
  | a, ⟨_, .lst ds⟩ => if okEq a.d = true ∧ okEq (.lst ds) = true then some ⟨.sh, .bl (if neg then !ds.any fun z => eqD z a.d else ds.any fun z => eqD z a.d)⟩ else none
  | _, _ => none
theorem toPys_map : ∀ ds : List D, toPys ds = ds.map toPy
  | [] => rfl
  | d :: ds => by rw [toPys, toPys_map ds]; rfl
theorem any_toPys {ds : List D} {d : D} : ((toPys ds).any fun z => PyData.eqv z (toPy d)) = ds.any fun z => eqD z d := by
  rw [toPys_map, List.any_map]; rfl
theorem od_in (hu : X.A.units + 65 < cLine) : OpR X (compareOp .In) (rInD X.K) ∧ OpD X.K (rInD X.K) (inO false) := by
  refine ⟨op_inD hu, ?_⟩
  intro Hin Z s σ H0 H x y a b c Q R qa qb e q
  obtain ⟨kb, db⟩ := b
  cases db with
  | lst ds =>
    simp only [inO] at e
    split at e
    · rename_i h
      cases e
      refine ⟨_, toPys ds, qa.dp h.1, qb.dp h.2, h.1, h.2, q _ H (Same.refl _) ?_⟩
      rw [any_toPys]
      exact rvB
    · cases e
  | _ => simp [inO] at e
theorem od_notin (hu : X.A.units + 65 < cLine) : OpR X (compareOp .NotIn) (rNotInD X.K) ∧ OpD X.K (rNotInD X.K) (inO true) := by
  refine ⟨op_notInD hu, ?_⟩
  intro Hin Z s σ H0 H x y a b c Q R qa qb e q
  obtain ⟨kb, db⟩ := b
  cases db with
  | lst ds =>
    simp only [inO] at e
    split at e
    · rename_i h
      cases e
      refine ⟨_, toPys ds, qa.dp h.1, qb.dp h.2, h.1, h.2, q _ H (Same.refl _) ?_⟩
      rw [any_toPys]
      exact rvB
    · cases e
  | _ => simp [inO] at e
/-! is None -/
@[simp] def isNon : D → Bool
  | .non => true
  | _ => false
@[simp] def isO (neg : Bool) : Rv → Rv → Option Rv
  | ⟨_, .any⟩, _ => none
  | ⟨_, .exc _⟩, _ => none
  | a, ⟨_, .non⟩ => some ⟨.sh, .bl (if neg then !isNon a.d else isNon a.d)⟩
  | _, _ => none
theorem isNon_of {K : PySem.W.Frag} {R : Hp} {v : V} {d : D} (h : Rp K R v d) (n : d ≠ .any) : decide (v = .non) = isNon d := by
  cases h <;> first | rfl | exact absurd rfl n
theorem od_is : OpR X (compareOp .Is) (fun x y H Q => y = .non ∧ Q (.bl (decide (x = .non))) H) ∧ OpD X.K (fun x y H Q => y = .non ∧ Q (.bl (decide (x = .non))) H) (isO false) := by
  refine ⟨op_isN, ?_⟩
  intro Hin Z s σ H0 H x y a b c Q R qa qb e q
  obtain ⟨kb, db⟩ := b
  obtain ⟨ka, da⟩ := a
  cases db with
  | non =>
    have n : da ≠ .any := fun z => by subst z; simp [isO] at e
    have e' : c = ⟨.sh, .bl (isNon da)⟩ := by
      cases da <;> simp [isO] at e <;> exact e.symm
    subst e'
    refine ⟨qb.non rfl, q _ H (Same.refl _) ?_⟩
    rw [isNon_of qa.full n]
    exact rvB
  | _ => cases da <;> simp [isO] at e
theorem od_isnot : OpR X (compareOp .IsNot) (fun x y H Q => y = .non ∧ Q (.bl (!decide (x = .non))) H) ∧ OpD X.K (fun x y H Q => y = .non ∧ Q (.bl (!decide (x = .non))) H) (isO true) := by
  refine ⟨op_notN, ?_⟩
  intro Hin Z s σ H0 H x y a b c Q R qa qb e q
  obtain ⟨kb, db⟩ := b
  obtain ⟨ka, da⟩ := a
  cases db with
  | non =>
    have n : da ≠ .any := fun z => by subst z; simp [isO] at e
    have e' : c = ⟨.sh, .bl (!isNon da)⟩ := by
      cases da <;> simp [isO] at e <;> exact e.symm
    subst e'
    refine ⟨qb.non rfl, q _ H (Same.refl _) ?_⟩
    rw [isNon_of qa.full n]
    exact rvB
  | _ => cases da <;> simp [isO] at e

/-! ### subscripts by an int -/
/-- xs[i]: a list, a tuple, the script -/
@[simp] def ixO : Rv → Rv → Option Rv
  | ⟨_, .lst ds⟩, ⟨_, .int i⟩ => (atI ds i).map fun d => ⟨.sh, d⟩
  | ⟨_, .tup ds⟩, ⟨_, .int i⟩ => (atI ds i).map fun d => ⟨.sh, d⟩
  | ⟨_, .scr ns⟩, ⟨_, .int i⟩ => (atI ns i).map fun n => ⟨.sh, .int n⟩
  | _, _ => none
theorem RpL.atI {K : PySem.W.Frag} {R : Hp} {vs : List V} {ds : List D} {i : Int} {d : D} (h : RpL K R vs ds) (e : L2.atI ds i = some d) : ∃ v, L2.atI vs i = some v ∧ Rp K R v d := by
  unfold L2.atI at e ⊢
  rw [h.length]
  cases q : ixN ds.length i with
  | none => rw [q] at e; cases e
  | some j =>
    rw [q] at e
    exact h.get (i := j) e
theorem atI_map {α β : Type} (f : α → β) (xs : List α) (i : Int) : L2.atI (xs.map f) i = (L2.atI xs i).map f := by
  unfold L2.atI
  rw [List.length_map]
  cases ixN xs.length i with
  | none => rfl
  | some j => simp
theorem od_ix : IxR X (rIx X.K) ∧ OpD X.K (rIx X.K) ixO := by
  refine ⟨ix_seq, ?_⟩
  intro Hin Z s σ H0 H x y a b c Q R qa qb e q
  obtain ⟨kb, db⟩ := b
  obtain ⟨ka, da⟩ := a
  cases db with
  | int i =>
    cases da with
    | lst ds =>
      simp only [ixO, Option.map_eq_some_iff] at e
      obtain ⟨d, e, rfl⟩ := e
      obtain ⟨p, vs, rfl, hp, r1⟩ := qa.list rfl
      obtain ⟨v, e2, r2⟩ := r1.atI e
      exact .inl ⟨p, vs, i, v, rfl, qb.int rfl, SqL.of hp, e2, q _ H (Same.refl _) r2⟩
    | tup ds =>
      simp only [ixO, Option.map_eq_some_iff] at e
      obtain ⟨d, e, rfl⟩ := e
      obtain ⟨p, vs, rfl, hp, r1⟩ := qa.tuple rfl
      obtain ⟨v, e2, r2⟩ := r1.atI e
      exact .inr (.inl ⟨p, vs, i, v, rfl, qb.int rfl, SqT.of hp, e2, q _ H (Same.refl _) r2⟩)
    | scr ns =>
      simp only [ixO, Option.map_eq_some_iff] at e
      obtain ⟨d, e, rfl⟩ := e
      have h := qa.full
      cases h with
      | scr h => exact .inl ⟨_, _, i, .int d, rfl, qb.int rfl, h, by rw [atI_map, e]; rfl, q _ H (Same.refl _) rvI⟩
    | _ => simp [ixO] at e
  | _ => cases da <;> simp [ixO] at e
theorem de_ix {a b : Expr} {fa fb : Ev → Res Rv} {pos : Pos} (ha : DE X ca W a fa) (hb : DE X ca W b fb) (hs : PlainIx b := by intro _ _; rfl) : DE X ca W (.Subscript a b pos) (fOp ixO fa fb) :=
  (pe_ix od_ix.1 ha hb hs).imp fun _ _ _ h => tOp_of od_ix.2 h

/-! ### slices of lists -/
def cut {α : Type} (xs : List α) (lo hi : Option Int) : List α := (xs.drop (HT.sIx xs.length 0 lo)).take (HT.sIx xs.length xs.length hi - HT.sIx xs.length 0 lo)
theorem RpL.cut {K : PySem.W.Frag} {R : Hp} {vs : List V} {ds : List D} {lo hi : Option Int} (h : RpL K R vs ds) : RpL K R (cutV vs lo hi) (DL.cut ds lo hi) := by
  unfold DL.cut cutV
  rw [h.length]
  exact (h.drop _).take _
theorem cut_map {α β : Type} (f : α → β) (xs : List α) (lo hi : Option Int) : DL.cut (xs.map f) lo hi = (DL.cut xs lo hi).map f := by
  unfold DL.cut
  rw [List.length_map, List.map_take, List.map_drop]
/-- a part of a slice -/
def tOI (K : PySem.W.Frag) (ca : Nat → Addr) (W : WX) (f : Ev → Res (Option Int)) : TO := fun σ H Q => ∃ Hin Z s, Rel K Hin Z s σ H ∧ (f s).sat (fun b => ∀ H', Same H H' → Q b H') (Exq ca W σ H)
abbrev DO (X : Cx) (ca : Nat → Addr) (W : WX) (e : Option Expr) (f : Ev → Res (Option Int)) : Prop := PO X e (tOI X.K ca W f)
theorem _root_.L2.PO.imp {X : Cx} {e : Option Expr} {t t' : TO} (h : PO X e t) (i : ∀ σ H Q, t' σ H Q → t σ H Q) : PO X e t' := ⟨fun pins s σ H Q I q => h.run pins s σ H Q I (i σ H Q q)⟩
@[simp] def fNoP : Ev → Res (Option Int) := fun _ => .ok none
@[simp] def fP (f : Ev → Res Rv) : Ev → Res (Option Int) := fun s => bnd (f s) fun r => match r.d with
  | .int i => .ok (some i)
  | _ => .stuck
theorem do_none : DO X ca W none fNoP := po_none.imp fun σ H Q ⟨Hin, Z, s, R, q⟩ => q H (Same.refl _)
theorem do_some {e : Expr} {f : Ev → Res Rv} (h : DE X ca W e f) : DO X ca W (some e) (fP f) := (po_some h).imp fun σ H Q h => by
  obtain ⟨Hin, Z, s, R, h⟩ := h
  simp only [fP, sat_bnd] at h
  refine tE_go R (sat_mono h (fun x h v H1 k1 R1 q1 => ?_) fun _ h => h)
  obtain ⟨k, d⟩ := x
  cases d with
  | int i => exact ⟨i, q1.int rfl, h H1 k1⟩
  | _ => exact h.elim
theorem tO_go {K : PySem.W.Frag} {σ : L2.St} {H : Hp} {Hin : Hp} {Z : Addr → Prop} {s : Ev} {f : Ev → Res (Option Int)} {Q : Option Int → Hp → Prop} (R : Rel K Hin Z s σ H) (h : (f s).sat (fun r => ∀ H', Same H H' → Rel K Hin Z s σ H' → Q r H') (Exq ca W σ H)) : tOI K ca W f σ H Q :=
  ⟨Hin, Z, s, R, sat_mono h (fun _ h H' k => h H' k (R.mono k)) fun _ h => h⟩
@[simp] def slO : Rv → Option Int → Option Int → Option Rv
  | ⟨_, .lst ds⟩, lo, hi => some ⟨.fr, .lst (DL.cut ds lo hi)⟩
  | ⟨_, .scr ns⟩, lo, hi => some ⟨.fr, .lst ((DL.cut ns lo hi).map .int)⟩
  | _, _, _ => none
@[simp] def fSl (f : Ev → Res Rv) (g h : Ev → Res (Option Int)) : Ev → Res Rv := fun s => bnd (f s) fun x => bnd (g s) fun lo => bnd (h s) fun hi => lft (slO x lo hi)
theorem de_sl {e : Expr} {lo hi : Option Expr} {p2 pos : Pos} {f : Ev → Res Rv} {g h : Ev → Res (Option Int)} (he : DE X ca W e f) (hl : DO X ca W lo g) (hh : DO X ca W hi h) : DE X ca W (.Subscript e (.Slice lo hi none p2) pos) (fSl f g h) :=
  (pe_slice sl_list he hl hh).imp fun σ H Q h => by
    obtain ⟨Hin, Z, s, R, h⟩ := h
    simp only [fSl, sat_bnd] at h
    refine tE_go R (sat_mono h (fun x h v H1 k1 R1 q1 => tO_go R1 (sat_mono h (fun l h H2 k2 R2 => tO_go R2 (sat_mono h (fun u h H3 k3 R3 => ?_) fun _ h => exq_go (k1.trans k2) h)) fun _ h => exq_go k1 h)) fun _ h => h)
    obtain ⟨z, e3, h⟩ := sat_lft h
    have q3 := q1.mono (k2.trans k3)
    obtain ⟨k, d⟩ := x
    cases d with
    | lst ds =>
      simp only [slO] at e3
      cases e3
      obtain ⟨p, vs, rfl, hp, r1⟩ := q3.list rfl
      exact ⟨p, vs, rfl, SqL.of hp, fun n hn => h _ _ (k1.trans (k2.trans (k3.trans (same_new hn)))) ((resNewL hn r1.cut).start (k1.trans (k2.trans k3)))⟩
    | scr ns =>
      simp only [slO] at e3
      cases e3
      have hf := q3.full
      cases hf with
      | scr hp =>
        refine ⟨_, _, rfl, hp, fun n hn => h _ _ (k1.trans (k2.trans (k3.trans (same_new hn)))) ((resNewL hn ?_).start (k1.trans (k2.trans k3)))⟩
        rw [show cutV (ns.map V.int) l u = (DL.cut ns l u).map V.int from cut_map V.int ns l u]
        exact RpL.ints
    | _ => simp [slO] at e3

/-! ### calls of built-ins by values -/
def CallD (K : PySem.W.Frag) (r : List V → Hp → VK → Prop) (g : List Rv → Option Rv) : Prop :=
  ∀ (Hin : Hp) (Z : Addr → Prop) (s : Ev) (σ : L2.St) (H0 H : Hp) (xs : List V) (rs : List Rv) (c : Rv) (Q : VK), Rel K Hin Z s σ H → Same H0 H → ResA K Z s σ H0 H xs rs → g rs = some c →
    (∀ v H', Same H H' → ResOk K Z s σ H H' v c → Q v H') → r xs H Q
@[simp] def fCall (g : List Rv → Option Rv) (f : Ev → Res (List Rv)) : Ev → Res Rv := fun s => bnd (f s) fun rs => lft (g rs)
theorem tCB_of {K : PySem.W.Frag} {r : List V → Hp → VK → Prop} {g : List Rv → Option Rv} (hr : CallD K r g) {f : Ev → Res (List Rv)} {σ : L2.St} {H : Hp} {Q : VK} (h : tE K ca W (fCall g f) σ H Q) : tCB r (tA K ca W f) σ H Q := by
  obtain ⟨Hin, Z, s, R, h⟩ := h
  simp only [fCall, sat_bnd] at h
  refine tA_go R (sat_mono h (fun rs h vs H1 k1 R1 q1 => ?_) fun _ h => h)
  obtain ⟨z, e3, h⟩ := sat_lft h
  exact hr Hin Z s σ H H1 vs rs z Q R1 k1 q1 e3 fun v H' k q => h v H' (k1.trans k) (q.start k1)
theorem de_callB {x : Str} {p pos : Pos} {e : Expr} {es : List Expr} {id : String} {r : List V → Hp → VK → Prop} {g : List Rv → Option Rv} {f : Ev → Res (List Rv)} (hc : CallR X (.builtin id) r ∧ CallD X.K r g) (hm : X.mg x = none) (ha : DA X ca W (e :: es) f) (hg : Gl X x := by rfl) (hv : bootBuiltins x = some (.builtin id) := by decide +kernel) (hn : x ≠ "__name__" := by decide) (hdb : (x == ("__debug__" : Str)) = false := by decide)
    (he : starEach (e :: es) X.env = (false, eval e X.env) :: starEach es X.env := by rfl) (hpl : (backTo pos (starEach es X.env)).any (·.1) = false := by rfl) : DE X ca W (.Call (.Name x p) (e :: es) [] pos) (fCall g f) :=
  (pe_callB hc.1 hg hm hv ha hn hdb he hpl).imp fun _ _ _ h => tCB_of hc.2 h
theorem de_callTy {x : Str} {p pos : Pos} {e : Expr} {es : List Expr} {T : String} {r : List V → Hp → VK → Prop} {g : List Rv → Option Rv} {f : Ev → Res (List Rv)} (hc : CallR X (.type T) r ∧ CallD X.K r g) (hm : X.mg x = none) (ha : DA X ca W (e :: es) f) (hg : Gl X x := by rfl) (hv : bootBuiltins x = some (.type T) := by decide +kernel) (hn : x ≠ "__name__" := by decide) (hdb : (x == ("__debug__" : Str)) = false := by decide)
    (he : starEach (e :: es) X.env = (false, eval e X.env) :: starEach es X.env := by rfl) (hpl : (backTo pos (starEach es X.env)).any (·.1) = false := by rfl) : DE X ca W (.Call (.Name x p) (e :: es) [] pos) (fCall g f) :=
  (pe_callTy hc.1 hg hm hv ha hn hdb he hpl).imp fun _ _ _ h => tCB_of hc.2 h
theorem ResA.one {K : PySem.W.Frag} {Z : Addr → Prop} {s : Ev} {σ : L2.St} {H H' : Hp} {vs : List V} {r : Rv} (h : ResA K Z s σ H H' vs [r]) : ∃ v, vs = [v] ∧ ResOk K Z s σ H H' v r := by
  cases h with
  | cons h t => cases t; exact ⟨_, rfl, h⟩
theorem ResA.two {K : PySem.W.Frag} {Z : Addr → Prop} {s : Ev} {σ : L2.St} {H H' : Hp} {vs : List V} {r r' : Rv} (h : ResA K Z s σ H H' vs [r, r']) : ∃ v w, vs = [v, w] ∧ ResOk K Z s σ H H' v r ∧ ResOk K Z s σ H H' w r' := by
  cases h with
  | cons h t =>
    cases t with
    | cons h' t => cases t; exact ⟨_, _, rfl, h, h'⟩
/-! len -/
@[simp] def lenO : List Rv → Option Rv
  | [⟨_, .lst ds⟩] => some ⟨.sh, .int ds.length⟩
  | [⟨_, .tup ds⟩] => some ⟨.sh, .int ds.length⟩
  | [⟨_, .scr ns⟩] => some ⟨.sh, .int ns.length⟩
  | _ => none
theorem cd_len : CallR X (.builtin "len") (fun xs H Q => ∃ p ys, xs = [.ref p] ∧ (SqL X.K H p ys ∨ SqT X.K H p ys) ∧ Q (.int ys.length) H) ∧ CallD X.K (fun xs H Q => ∃ p ys, xs = [.ref p] ∧ (SqL X.K H p ys ∨ SqT X.K H p ys) ∧ Q (.int ys.length) H) lenO := by
  refine ⟨call_len_seq, ?_⟩
  intro Hin Z s σ H0 H xs rs c Q R k q e h
  match rs, e, q with
  | [⟨k, .lst ds⟩], e, q =>
    simp only [lenO] at e
    cases e
    obtain ⟨v, rfl, q1⟩ := q.one
    clear q
    have q := q1
    obtain ⟨p, vs, rfl, hp, r1⟩ := q.list rfl
    exact ⟨p, vs, rfl, .inl (SqL.of hp), h _ H (Same.refl _) (by rw [r1.length]; exact rvI)⟩
  | [⟨k, .tup ds⟩], e, q =>
    simp only [lenO] at e
    cases e
    obtain ⟨v, rfl, q1⟩ := q.one
    clear q
    have q := q1
    obtain ⟨p, vs, rfl, hp, r1⟩ := q.tuple rfl
    exact ⟨p, vs, rfl, .inr (SqT.of hp), h _ H (Same.refl _) (by rw [r1.length]; exact rvI)⟩
  | [⟨k, .scr ns⟩], e, q =>
    simp only [lenO] at e
    cases e
    obtain ⟨v, rfl, q1⟩ := q.one
    clear q
    have q := q1
    have hf := q.full
    cases hf with
    | scr hp => exact ⟨_, _, rfl, .inl hp, h _ H (Same.refl _) (by rw [List.length_map]; exact rvI)⟩
  | [], e, _ => simp [lenO] at e
  | _ :: _ :: _, e, _ => simp [lenO] at e
  | [⟨_, .non⟩], e, _ => simp [lenO] at e
  | [⟨_, .bl _⟩], e, _ => simp [lenO] at e
  | [⟨_, .int _⟩], e, _ => simp [lenO] at e
  | [⟨_, .str _⟩], e, _ => simp [lenO] at e
  | [⟨_, .dT _⟩], e, _ => simp [lenO] at e
  | [⟨_, .dK _⟩], e, _ => simp [lenO] at e
  | [⟨_, .any⟩], e, _ => simp [lenO] at e
  | [⟨_, .exc _⟩], e, _ => simp [lenO] at e
/-! list(xs), tuple(xs) -/
@[simp] def listO : List Rv → Option Rv
  | [⟨_, .lst ds⟩] => some ⟨.fr, .lst ds⟩
  | [⟨_, .tup ds⟩] => some ⟨.fr, .lst ds⟩
  | _ => none
theorem cd_list : CallR X (.type "list") (fun xs H Q => ∃ p ys, xs = [.ref p] ∧ (SqL X.K H p ys ∨ SqT X.K H p ys) ∧ ∀ l, H l = none → Q (.ref l) (upd H l (.lst ys))) ∧ CallD X.K (fun xs H Q => ∃ p ys, xs = [.ref p] ∧ (SqL X.K H p ys ∨ SqT X.K H p ys) ∧ ∀ l, H l = none → Q (.ref l) (upd H l (.lst ys))) listO := by
  refine ⟨call_list_of, ?_⟩
  intro Hin Z s σ H0 H xs rs c Q R k q e h
  match rs, e, q with
  | [⟨k, .lst ds⟩], e, q =>
    simp only [listO] at e
    cases e
    obtain ⟨v, rfl, q1⟩ := q.one
    clear q
    have q := q1
    obtain ⟨p, vs, rfl, hp, r1⟩ := q.list rfl
    exact ⟨p, vs, rfl, .inl (SqL.of hp), fun n hn => h _ _ (same_new hn) (resNewL hn r1)⟩
  | [⟨k, .tup ds⟩], e, q =>
    simp only [listO] at e
    cases e
    obtain ⟨v, rfl, q1⟩ := q.one
    clear q
    have q := q1
    obtain ⟨p, vs, rfl, hp, r1⟩ := q.tuple rfl
    exact ⟨p, vs, rfl, .inr (SqT.of hp), fun n hn => h _ _ (same_new hn) (resNewL hn r1)⟩
  | [⟨_, .scr _⟩], e, _ => simp [listO] at e
  | [], e, _ => simp [listO] at e
  | _ :: _ :: _, e, _ => simp [listO] at e
  | [⟨_, .non⟩], e, _ => simp [listO] at e
  | [⟨_, .bl _⟩], e, _ => simp [listO] at e
  | [⟨_, .int _⟩], e, _ => simp [listO] at e
  | [⟨_, .str _⟩], e, _ => simp [listO] at e
  | [⟨_, .dT _⟩], e, _ => simp [listO] at e
  | [⟨_, .dK _⟩], e, _ => simp [listO] at e
  | [⟨_, .any⟩], e, _ => simp [listO] at e
  | [⟨_, .exc _⟩], e, _ => simp [listO] at e
@[simp] def tupO : List Rv → Option Rv
  | [⟨_, .lst ds⟩] => some ⟨.sh, .tup ds⟩
  | _ => none
abbrev rTupL (K : PySem.W.Frag) : List V → Hp → VK → Prop := fun xs H Q => ∃ p ys, xs = [.ref p] ∧ ((SqL K H p ys ∧ ∀ l, H l = none → Q (.ref l) (upd H l (.tup ys))) ∨ (SqT K H p ys ∧ Q (.ref p) H))
theorem cd_tup : CallR X (.type "tuple") (rTupL X.K) ∧ CallD X.K (rTupL X.K) tupO := by
  refine ⟨call_tuple_of, ?_⟩
  intro Hin Z s σ H0 H xs rs c Q R k q e h
  match rs, e, q with
  | [⟨k, .lst ds⟩], e, q =>
    simp only [tupO] at e
    cases e
    obtain ⟨v, rfl, q1⟩ := q.one
    clear q
    have q := q1
    obtain ⟨p, vs, rfl, hp, r1⟩ := q.list rfl
    exact ⟨p, vs, rfl, .inl ⟨SqL.of hp, fun n hn => h _ _ (same_new hn) (resNewT R hn r1)⟩⟩
  | [⟨k, .tup ds⟩], e, _ => simp [tupO] at e
  | [⟨_, .scr _⟩], e, _ => simp [tupO] at e
  | [], e, _ => simp [tupO] at e
  | _ :: _ :: _, e, _ => simp [tupO] at e
  | [⟨_, .non⟩], e, _ => simp [tupO] at e
  | [⟨_, .bl _⟩], e, _ => simp [tupO] at e
  | [⟨_, .int _⟩], e, _ => simp [tupO] at e
  | [⟨_, .str _⟩], e, _ => simp [tupO] at e
  | [⟨_, .dT _⟩], e, _ => simp [tupO] at e
  | [⟨_, .dK _⟩], e, _ => simp [tupO] at e
  | [⟨_, .any⟩], e, _ => simp [tupO] at e
  | [⟨_, .exc _⟩], e, _ => simp [tupO] at e
/-! int(x) -/
@[simp] def intO : List Rv → Option Rv
  | [⟨_, .int i⟩] => some ⟨.sh, .int i⟩
  | [⟨_, .bl b⟩] => some ⟨.sh, .int (if b then 1 else 0)⟩
  | _ => none
abbrev rInt1 : List V → Hp → VK → Prop := fun xs H Q => (∃ i, xs = [.int i] ∧ Q (.int i) H) ∨ ∃ k, xs = [.bl k] ∧ Q (.int (if k then 1 else 0)) H
theorem cd_int : CallR X (.type "int") rInt1 ∧ CallD X.K rInt1 intO := by
  refine ⟨call_int1, ?_⟩
  intro Hin Z s σ H0 H xs rs c Q R k q e h
  match rs, e, q with
  | [⟨k, .int i⟩], e, q =>
    simp only [intO] at e
    cases e
    obtain ⟨v, rfl, q1⟩ := q.one
    clear q
    have q := q1
    exact .inl ⟨i, by rw [q.int rfl], h _ H (Same.refl _) rvI⟩
  | [⟨k, .bl b⟩], e, q =>
    simp only [intO] at e
    cases e
    obtain ⟨v, rfl, q1⟩ := q.one
    clear q
    have q := q1
    exact .inr ⟨b, by rw [q.bl rfl], h _ H (Same.refl _) rvI⟩
  | [⟨k, .lst _⟩], e, _ => simp [intO] at e
  | [⟨k, .tup ds⟩], e, _ => simp [intO] at e
  | [⟨_, .scr _⟩], e, _ => simp [intO] at e
  | [], e, _ => simp [intO] at e
  | _ :: _ :: _, e, _ => simp [intO] at e
  | [⟨_, .non⟩], e, _ => simp [intO] at e
  | [⟨_, .str _⟩], e, _ => simp [intO] at e
  | [⟨_, .dT _⟩], e, _ => simp [intO] at e
  | [⟨_, .dK _⟩], e, _ => simp [intO] at e
  | [⟨_, .any⟩], e, _ => simp [intO] at e
  | [⟨_, .exc _⟩], e, _ => simp [intO] at e
/-! all, any of truths; sum of ints -/
@[simp] def blsOf : List D → Option (List Bool)
  | [] => some []
  | .bl b :: r => (blsOf r).map (b :: ·)
  | _ => none
@[simp] def intsOf : List D → Option (List Int)
  | [] => some []
  | .int b :: r => (intsOf r).map (b :: ·)
  | _ => none
theorem blsOf_eq : ∀ {ds : List D} {bs : List Bool}, blsOf ds = some bs → ds = bs.map .bl
  | [], bs, h => by simp at h; rw [h]; rfl
  | .bl b :: r, bs, h => by
    simp only [blsOf, Option.map_eq_some_iff] at h
    obtain ⟨cs, h1, rfl⟩ := h
    rw [blsOf_eq h1]; rfl
  | .non :: _, _, h => by simp at h
  | .int _ :: _, _, h => by simp at h
  | .str _ :: _, _, h => by simp at h
  | .lst _ :: _, _, h => by simp at h
  | .tup _ :: _, _, h => by simp at h
  | .dT _ :: _, _, h => by simp at h
  | .dK _ :: _, _, h => by simp at h
  | .scr _ :: _, _, h => by simp at h
  | .any :: _, _, h => by simp at h
  | .exc _ :: _, _, h => by simp at h
theorem intsOf_eq : ∀ {ds : List D} {bs : List Int}, intsOf ds = some bs → ds = bs.map .int
  | [], bs, h => by simp at h; rw [h]; rfl
  | .int b :: r, bs, h => by
    simp only [intsOf, Option.map_eq_some_iff] at h
    obtain ⟨cs, h1, rfl⟩ := h
    rw [intsOf_eq h1]; rfl
  | .non :: _, _, h => by simp at h
  | .bl _ :: _, _, h => by simp at h
  | .str _ :: _, _, h => by simp at h
  | .lst _ :: _, _, h => by simp at h
  | .tup _ :: _, _, h => by simp at h
  | .dT _ :: _, _, h => by simp at h
  | .dK _ :: _, _, h => by simp at h
  | .scr _ :: _, _, h => by simp at h
  | .any :: _, _, h => by simp at h
  | .exc _ :: _, _, h => by simp at h
@[simp] theorem blsOf_map : ∀ bs : List Bool, blsOf (bs.map .bl) = some bs
  | [] => rfl
  | b :: bs => by simp [blsOf_map bs]
@[simp] theorem intsOf_map : ∀ bs : List Int, intsOf (bs.map .int) = some bs
  | [] => rfl
  | b :: bs => by simp [intsOf_map bs]
@[simp] def lstArg (g : List D → Option Rv) : List Rv → Option Rv
  | [⟨_, .lst ds⟩] => g ds
  | _ => none
theorem cd_lst {r : List V → Hp → VK → Prop} {g : List D → Option Rv}
    (h : ∀ (Hin : Hp) (Z : Addr → Prop) (s : Ev) (σ : L2.St) (H : Hp) (p : Addr) (vs : List V) (ds : List D) (c : Rv) (Q : VK), Rel X.K Hin Z s σ H → H p = some (.lst vs) → RpL X.K (Rg Z s σ H) vs ds → g ds = some c → (∀ v H', Same H H' → ResOk X.K Z s σ H H' v c → Q v H') → r [.ref p] H Q) :
    CallD X.K r (lstArg g) := by
  intro Hin Z s σ H0 H xs rs c Q R k q e hq
  match rs, e, q with
  | [⟨k, .lst ds⟩], e, q =>
    obtain ⟨v, rfl, q1⟩ := q.one
    clear q
    have q := q1
    obtain ⟨p, vs, rfl, hp, r1⟩ := q.list rfl
    exact h Hin Z s σ H p vs ds c Q R hp r1 e hq
  | [⟨k, .tup ds⟩], e, _ => simp [lstArg] at e
  | [⟨_, .scr _⟩], e, _ => simp [lstArg] at e
  | [], e, _ => simp [lstArg] at e
  | _ :: _ :: _, e, _ => simp [lstArg] at e
  | [⟨_, .non⟩], e, _ => simp [lstArg] at e
  | [⟨_, .bl _⟩], e, _ => simp [lstArg] at e
  | [⟨_, .int _⟩], e, _ => simp [lstArg] at e
  | [⟨_, .str _⟩], e, _ => simp [lstArg] at e
  | [⟨_, .dT _⟩], e, _ => simp [lstArg] at e
  | [⟨_, .dK _⟩], e, _ => simp [lstArg] at e
  | [⟨_, .any⟩], e, _ => simp [lstArg] at e
  | [⟨_, .exc _⟩], e, _ => simp [lstArg] at e
@[simp] def allL (ds : List D) : Option Rv := (blsOf ds).map fun bs => ⟨.sh, .bl (bs.all id)⟩
@[simp] def anyL (ds : List D) : Option Rv := (blsOf ds).map fun bs => ⟨.sh, .bl (bs.any id)⟩
@[simp] def sumL (ds : List D) : Option Rv := (intsOf ds).map fun bs => ⟨.sh, .int bs.sum⟩
theorem cd_all (hc : X.calm = true) : CallR X (.builtin "all") (rAll X.K) ∧ CallD X.K (rAll X.K) (lstArg allL) := by
  refine ⟨cr_all hc, cd_lst fun Hin Z s σ H p vs ds c Q R hp r e q => ?_⟩
  simp only [allL, Option.map_eq_some_iff] at e
  obtain ⟨bs, e, rfl⟩ := e
  rw [blsOf_eq e] at r
  exact ⟨p, bs, rfl, by rw [← r.of_bls]; exact SqL.of hp, q _ H (Same.refl _) rvB⟩
theorem cd_any (hc : X.calm = true) : CallR X (.builtin "any") (rAny X.K) ∧ CallD X.K (rAny X.K) (lstArg anyL) := by
  refine ⟨cr_any hc, cd_lst fun Hin Z s σ H p vs ds c Q R hp r e q => ?_⟩
  simp only [anyL, Option.map_eq_some_iff] at e
  obtain ⟨bs, e, rfl⟩ := e
  rw [blsOf_eq e] at r
  exact ⟨p, bs, rfl, by rw [← r.of_bls]; exact SqL.of hp, q _ H (Same.refl _) rvB⟩
theorem cd_sum (hc : X.calm = true) : CallR X (.builtin "sum") (rSum X.K) ∧ CallD X.K (rSum X.K) (lstArg sumL) := by
  refine ⟨cr_sum hc, cd_lst fun Hin Z s σ H p vs ds c Q R hp r e q => ?_⟩
  simp only [sumL, Option.map_eq_some_iff] at e
  obtain ⟨bs, e, rfl⟩ := e
  rw [intsOf_eq e] at r
  exact ⟨p, bs, rfl, by rw [← r.of_ints]; exact SqL.of hp, q _ H (Same.refl _) rvI⟩
/-! isinstance(x, T) -/
def tyD : D → Option String
  | .non => some "NoneType"
  | .bl _ => some "bool"
  | .int _ => some "int"
  | .str _ => some "str"
  | .lst _ => some "list"
  | .tup _ => some "tuple"
  | .dT _ => some "dict"
  | .dK _ => some "dict"
  | .scr _ => none
  | .any => none
  | .exc _ => none
theorem tyD_of {K : PySem.W.Frag} {H : Hp} {v : V} {d : D} {t : String} (h : Rp K H v d) (e : tyD d = some t) : TyX K H v (.type t) := by
  cases h with
  | non => simp only [tyD, Option.some.injEq] at e; subst e; exact .base .non
  | bl b => simp only [tyD, Option.some.injEq] at e; subst e; exact .base (.bl b)
  | int b => simp only [tyD, Option.some.injEq] at e; subst e; exact .base (.int b)
  | str b => simp only [tyD, Option.some.injEq] at e; subst e; exact .base (.str b)
  | lst h r => simp only [tyD, Option.some.injEq] at e; subst e; exact .base (.lst h)
  | tup h r => simp only [tyD, Option.some.injEq] at e; subst e; exact .base (.tup h)
  | dT h => simp only [tyD, Option.some.injEq] at e; subst e; exact .base (.dT h)
  | dK h => simp only [tyD, Option.some.injEq] at e; subst e; exact .base (.dK h)
  | scr h => simp [tyD] at e
  | any v => simp [tyD] at e
  | exc v => simp [tyD] at e
inductive Ty where | int | bool | list | tuple | dict | str
def Ty.name : Ty → String
  | .int => "int" | .bool => "bool" | .list => "list" | .tuple => "tuple" | .dict => "dict" | .str => "str"
@[simp] def isD : Ty → D → Option Bool
  | _, .scr _ => none
  | _, .any => none
  | _, .exc _ => none
  | .int, .int _ => some true
  | .int, .bl _ => some true
  | .bool, .bl _ => some true
  | .list, .lst _ => some true
  | .tuple, .tup _ => some true
  | .dict, .dT _ => some true
  | .dict, .dK _ => some true
  | .str, .str _ => some true
  | _, _ => some false
theorem isD_of {K : PySem.W.Frag} {T : Ty} {d : D} {b : Bool} (e : isD T d = some b) : ∃ t, tyD d = some t ∧ PySem.W.kitOne K (.type t) (.type T.name) = some b := by
  cases d with
  | scr _ => cases T <;> simp [isD] at e
  | any => cases T <;> simp [isD] at e
  | exc v => cases T <;> simp [isD] at e
  | non => cases T <;> simp [isD] at e <;> subst e <;> exact ⟨_, rfl, kit_ty (by decide +kernel)⟩
  | bl _ => cases T <;> simp [isD] at e <;> subst e <;> exact ⟨_, rfl, kit_ty (by decide +kernel)⟩
  | int _ => cases T <;> simp [isD] at e <;> subst e <;> exact ⟨_, rfl, kit_ty (by decide +kernel)⟩
  | str _ => cases T <;> simp [isD] at e <;> subst e <;> exact ⟨_, rfl, kit_ty (by decide +kernel)⟩
  | lst _ => cases T <;> simp [isD] at e <;> subst e <;> exact ⟨_, rfl, kit_ty (by decide +kernel)⟩
  | tup _ => cases T <;> simp [isD] at e <;> subst e <;> exact ⟨_, rfl, kit_ty (by decide +kernel)⟩
  | dT _ => cases T <;> simp [isD] at e <;> subst e <;> exact ⟨_, rfl, kit_ty (by decide +kernel)⟩
  | dK _ => cases T <;> simp [isD] at e <;> subst e <;> exact ⟨_, rfl, kit_ty (by decide +kernel)⟩
@[simp] def fIs (T : Ty) (f : Ev → Res Rv) : Ev → Res Rv := fun s => bnd (f s) fun r => bnd (lft (isD T r.d)) fun b => .ok ⟨.sh, .bl b⟩
theorem de_isi {x : Str} {p p2 pos : Pos} {e : Expr} {f : Ev → Res Rv} (T : Ty) (hm : X.mg "isinstance" = none) (hmT : X.mg x = none) (he : DE X ca W e f) (hv : bootBuiltins x = some (.type T.name) := by decide +kernel)
    (hg : Gl X "isinstance" := by rfl) (hgT : Gl X x := by rfl) (hn : x ≠ "__name__" := by decide) (hd : (x == ("__debug__" : Str)) = false := by decide)
    (hs : starEach (e :: [.Name x p2]) X.env = (false, eval e X.env) :: starEach [.Name x p2] X.env := by rfl) (hs2 : starEach [.Name x p2] X.env = (false, eval (.Name x p2) X.env) :: starEach [] X.env := by rfl) (hpl : (backTo pos (starEach [.Name x p2] X.env)).any (·.1) = false := by rfl) :
    DE X ca W (.Call (.Name "isinstance" p) [e, .Name x p2] [] pos) (fIs T f) :=
  (pe_callB call_isi hg hm (by decide +kernel) (pa_cons he (pa_cons (pe_bltn (v := .ty T.name) hgT hmT hv rfl hn hd) pa_nil hs2) hs) (by decide) (by decide) hs hpl).imp fun σ H Q h => by
    obtain ⟨Hin, Z, s, R, h⟩ := h
    simp only [fIs, sat_bnd] at h
    refine tE_go R (sat_mono h (fun x h v H1 k1 R1 q1 => ?_) fun _ h => h)
    obtain ⟨b, e3, h⟩ := sat_lft h
    obtain ⟨t, h1, h2⟩ := isD_of (K := X.K) e3
    exact ⟨v, .ty T.name, _, _, b, rfl, .ty _, tyD_of q1.full h1, h2, h _ H1 k1 rvB⟩
end
end DL
/-! Statements, loops, comprehensions, calls of defs, defs. -/
namespace DL
open PySem PySem.Spec L2

/-! ### the state's changes -/
section
variable {K : PySem.W.Frag} {Hin Hin' H H' : Hp} {Z : Addr → Prop} {s : Ev} {σ : L2.St} {p : Addr}
theorem as_set {x : Sl} {w : Option V} {i : Nat} (h : ∀ (i : Nat) (d : D), s[i]? = some (Sl.as d) → ∃ p, σ[i]? = some (some (V.ref p)) ∧ AsP K Hin Z H p d) (e : Same H H') (hx : ∀ d, x ≠ .as d) :
    ∀ (j : Nat) (d : D), (s.set i x)[j]? = some (Sl.as d) → ∃ p, (σ.set i w)[j]? = some (some (V.ref p)) ∧ AsP K Hin Z H' p d := fun j d q => by
  rw [List.getElem?_set] at q
  by_cases z : i = j
  · rw [if_pos z] at q
    split at q
    · exact absurd (Option.some.inj q) (hx d)
    · cases q
  · rw [if_neg z] at q
    obtain ⟨p, h1, h2⟩ := h j d q
    exact ⟨p, by rw [List.getElem?_set, if_neg z]; exact h1, h2.mono (fun _ _ a b => ⟨a, b⟩) e⟩
theorem dl_set {x : Sl} {w : Option V} {i : Nat} {R0 R1 : Hp} (h : ∀ (i : Nat) (k : List (List Int × List D)), s[i]? = some (Sl.dl k) → ∃ p, σ[i]? = some (some (V.ref p)) ∧ DlP K Hin Z R0 H p k) (e : Same H H') (g : Same R0 R1) (hx : ∀ k, x ≠ .dl k) :
    ∀ (j : Nat) (k : List (List Int × List D)), (s.set i x)[j]? = some (Sl.dl k) → ∃ p, (σ.set i w)[j]? = some (some (V.ref p)) ∧ DlP K Hin Z R1 H' p k := fun j d q => by
  rw [List.getElem?_set] at q
  by_cases z : i = j
  · rw [if_pos z] at q
    split at q
    · exact absurd (Option.some.inj q) (hx d)
    · cases q
  · rw [if_neg z] at q
    obtain ⟨p, h1, h2⟩ := h j d q
    exact ⟨p, by rw [List.getElem?_set, if_neg z]; exact h1, h2.mono (fun _ _ a b => ⟨a, b⟩) e g⟩
theorem dl_set0 {x : Sl} {i : Nat} {R0 R1 : Hp} (h : ∀ (i : Nat) (k : List (List Int × List D)), s[i]? = some (Sl.dl k) → ∃ p, σ[i]? = some (some (V.ref p)) ∧ DlP K Hin Z R0 H p k) (g : Same R0 R1) (hx : ∀ k, x ≠ .dl k) :
    ∀ (j : Nat) (k : List (List Int × List D)), (s.set i x)[j]? = some (Sl.dl k) → ∃ p, σ[j]? = some (some (V.ref p)) ∧ DlP K Hin Z R1 H p k := fun j d q => by
  rw [List.getElem?_set] at q
  by_cases z : i = j
  · rw [if_pos z] at q
    split at q
    · exact absurd (Option.some.inj q) (hx d)
    · cases q
  · rw [if_neg z] at q
    obtain ⟨p, h1, h2⟩ := h j d q
    exact ⟨p, h1, h2.mono (fun _ _ a b => ⟨a, b⟩) (Same.refl _) g⟩
theorem dl_upd {o : HO} {R0 : Hp} (h : ∀ (i : Nat) (k : List (List Int × List D)), s[i]? = some (Sl.dl k) → ∃ p, σ[i]? = some (some (V.ref p)) ∧ DlP K Hin Z R0 H p k) (hz : ¬ Z p) :
    ∀ (i : Nat) (k : List (List Int × List D)), s[i]? = some (Sl.dl k) → ∃ q, σ[i]? = some (some (V.ref q)) ∧ DlP K Hin Z R0 (upd H p o) q k := fun j d y => by
  obtain ⟨q, h1, h2, l, h3, h4, h5, h6⟩ := h j d y
  refine ⟨q, h1, h2, l, h3, by rw [upd_ne (fun z => hz (by rw [← z]; exact h2.1))]; exact h4, h5, fun t ht => ?_⟩
  obtain ⟨a, vs, b, c⟩ := h6 t ht
  exact ⟨a, vs, by rw [upd_ne (fun z => hz (by rw [← z]; exact a.1))]; exact b, c⟩
theorem tr_set {x : Sl} {w : Option V} {i : Nat} (h : TrP K Hin Z s σ H) (e : Same H H') (hx : ∀ d, x ≠ .tr d) : TrP K Hin Z (s.set i x) (σ.set i w) H' :=
  (h.sub fun j d q => by
    rw [List.getElem?_set] at q
    by_cases z : i = j
    · rw [if_pos z] at q
      split at q
      · exact absurd (Option.some.inj q) (hx d)
      · cases q
    · rw [if_neg z] at q
      exact ⟨q, by rw [List.getElem?_set, if_neg z]⟩).mono (fun _ _ a b => ⟨a, b⟩) e
theorem tr_set0 {x : Sl} {i : Nat} (h : TrP K Hin Z s σ H) (hx : ∀ d, x ≠ .tr d) : TrP K Hin Z (s.set i x) σ H :=
  h.sub fun j d q => by
    rw [List.getElem?_set] at q
    by_cases z : i = j
    · rw [if_pos z] at q
      split at q
      · exact absurd (Option.some.inj q) (hx d)
      · cases q
    · rw [if_neg z] at q
      exact ⟨q, rfl⟩
theorem pn_set {x : Sl} {w : Option V} {i : Nat} {R0 R1 : Hp} (h : ∀ (i : Nat) (v : V) (d : D), s[i]? = some (Sl.pn v d) → σ[i]? = some (some v) ∧ Rp K R0 v d) (g : Same R0 R1) (hx : ∀ v d, x ≠ .pn v d) :
    ∀ (j : Nat) (v : V) (d : D), (s.set i x)[j]? = some (Sl.pn v d) → (σ.set i w)[j]? = some (some v) ∧ Rp K R1 v d := fun j v d q => by
  rw [List.getElem?_set] at q
  by_cases z : i = j
  · rw [if_pos z] at q
    split at q
    · exact absurd (Option.some.inj q) (hx v d)
    · cases q
  · rw [if_neg z] at q
    obtain ⟨h1, h2⟩ := h j v d q
    exact ⟨by rw [List.getElem?_set, if_neg z]; exact h1, h2.mono g⟩
theorem pn_set0 {x : Sl} {i : Nat} {R0 R1 : Hp} (h : ∀ (i : Nat) (v : V) (d : D), s[i]? = some (Sl.pn v d) → σ[i]? = some (some v) ∧ Rp K R0 v d) (g : Same R0 R1) (hx : ∀ v d, x ≠ .pn v d) :
    ∀ (j : Nat) (v : V) (d : D), (s.set i x)[j]? = some (Sl.pn v d) → σ[j]? = some (some v) ∧ Rp K R1 v d := fun j v d q => by
  rw [List.getElem?_set] at q
  by_cases z : i = j
  · rw [if_pos z] at q
    split at q
    · exact absurd (Option.some.inj q) (hx v d)
    · cases q
  · rw [if_neg z] at q
    obtain ⟨h1, h2⟩ := h j v d q
    exact ⟨h1, h2.mono g⟩
theorem as_set0 {x : Sl} {i : Nat} (h : ∀ (i : Nat) (d : D), s[i]? = some (Sl.as d) → ∃ p, σ[i]? = some (some (V.ref p)) ∧ AsP K Hin Z H p d) (hx : ∀ d, x ≠ .as d) :
    ∀ (j : Nat) (d : D), (s.set i x)[j]? = some (Sl.as d) → ∃ p, σ[j]? = some (some (V.ref p)) ∧ AsP K Hin Z H p d := fun j d q => by
  rw [List.getElem?_set] at q
  by_cases z : i = j
  · rw [if_pos z] at q
    split at q
    · exact absurd (Option.some.inj q) (hx d)
    · cases q
  · rw [if_neg z] at q
    exact h j d q
theorem own_upd {R R' : Hp} {a : Addr} {d : D} {o : HO} (h : Own K R H a d) (g : Same R R') (na : a ≠ p) : Own K R' (upd H p o) a d := by
  cases d with
  | lst ds => obtain ⟨xs, h1, h2⟩ := h; exact ⟨xs, by rw [upd_ne na]; exact h1, h2.mono g⟩
  | dT kvs => show upd H p o a = _; rw [upd_ne na]; exact h
  | dK kvs => show upd H p o a = _; rw [upd_ne na]; exact h
  | _ => exact h.elim
theorem as_upd {o : HO} (h : ∀ (i : Nat) (d : D), s[i]? = some (Sl.as d) → ∃ p, σ[i]? = some (some (V.ref p)) ∧ AsP K Hin Z H p d) (hz : ¬ Z p) (hn : ¬ IT H p) :
    ∀ (j : Nat) (d : D), s[j]? = some (Sl.as d) → ∃ q, σ[j]? = some (some (V.ref q)) ∧ AsP K Hin Z (upd H p o) q d := fun j d y => by
  obtain ⟨q, h1, h2, h3⟩ := h j d y
  exact ⟨q, h1, h2, own_upd h3 (hide_upd hn (fun y => hz y.1.1) fun _ y => y) (fun z => hz (by rw [← z]; exact h2.1))⟩
theorem Rel.setSh (R : Rel K Hin Z s σ H) {v : V} {d : D} (r : Rp K (Rg Z s σ H) v d) (i : Nat) : Rel K Hin Z (st s i (.sh d)) (σ.set i (some v)) H := by
  rw [st_eq]
  have pv : ∀ a, priv (s.set i (.sh d)) (σ.set i (some v)) a → priv s σ a := fun a ⟨j, e, h1, h2⟩ => by
    rw [List.getElem?_set] at h1 h2
    by_cases q : i = j
    · rw [if_pos q] at h1
      split at h1 <;> cases h1
    · rw [if_neg q] at h1 h2
      exact ⟨j, e, h1, h2⟩
  have g : Same (Rg Z s σ H) (Rg Z (s.set i (.sh d)) (σ.set i (some v)) H) := hide_mono (Same.refl _) fun a _ _ q => q.imp id (pv a)
  refine ⟨by simpa using R.len, R.base, R.zin, fun j e h => ?_, fun j e h => ?_, fun j k e f q h1 h2 h3 h4 => ?_, as_set R.as (Same.refl _) (fun _ y => nomatch y), pn_set R.pn g (fun _ _ y => nomatch y), dl_set R.dl (Same.refl _) g (fun _ y => nomatch y), tr_set R.tr (Same.refl _) (fun _ y => nomatch y)⟩
  · rw [List.getElem?_set] at h
    by_cases q : i = j
    · rw [if_pos q] at h
      split at h
      · rename_i hl
        cases h
        exact ⟨v, by rw [List.getElem?_set, if_pos q, if_pos (by rw [← R.len]; exact hl)], r.mono g⟩
      · cases h
    · rw [if_neg q] at h
      obtain ⟨w, h1, h2⟩ := R.sh j e h
      exact ⟨w, by rw [List.getElem?_set, if_neg q]; exact h1, h2.mono g⟩
  · rw [List.getElem?_set] at h
    by_cases q : i = j
    · rw [if_pos q] at h
      split at h <;> cases h
    · rw [if_neg q] at h
      obtain ⟨w, h1, h2, h3, h4⟩ := R.ow j e h
      exact ⟨w, by rw [List.getElem?_set, if_neg q]; exact h1, h2, h3, h4.mono g (Same.refl _)⟩
  · rw [List.getElem?_set] at h1 h2 h3 h4
    by_cases q1 : i = j
    · rw [if_pos q1] at h1; split at h1 <;> cases h1
    · by_cases q2 : i = k
      · rw [if_pos q2] at h2; split at h2 <;> cases h2
      · rw [if_neg q1] at h1 h3
        rw [if_neg q2] at h2 h4
        exact R.inj j k e f q h1 h2 h3 h4
theorem Rel.setOw (R : Rel K Hin Z s σ H) {d : D} (e : Same H H') (hp : H p = none) (o : Own K (hide (fun a => (Z a ∨ priv s σ a) ∨ a = p) H') H' p d) (i : Nat) : Rel K Hin Z (st s i (.ow d)) (σ.set i (some (.ref p))) H' := by
  rw [st_eq]
  have pv : ∀ a, priv (s.set i (.ow d)) (σ.set i (some (.ref p))) a → priv s σ a ∨ a = p := fun a ⟨j, f, h1, h2⟩ => by
    rw [List.getElem?_set] at h1 h2
    by_cases q : i = j
    · rw [if_pos q] at h2
      split at h2
      · cases h2; exact .inr rfl
      · cases h2
    · rw [if_neg q] at h1 h2
      exact .inl ⟨j, f, h1, h2⟩
  have g : Same (Rg Z s σ H) (Rg Z (s.set i (.ow d)) (σ.set i (some (.ref p))) H') := hide_mono e fun a na _ q => by
    rcases q with q | q
    · exact .inl q
    · rcases pv a q with q | q
      · exact .inr q
      · rw [q] at na; exact absurd hp na
  have g2 : Same (hide (fun a => (Z a ∨ priv s σ a) ∨ a = p) H') (Rg Z (s.set i (.ow d)) (σ.set i (some (.ref p))) H') := hide_mono (Same.refl _) fun a na _ q => by
    rcases q with q | q
    · exact .inl (.inl q)
    · rcases pv a q with q | q
      · exact .inl (.inr q)
      · exact .inr q
  refine ⟨by simpa using R.len, R.base.trans e, fun a z q => R.zin a z (e.free q), fun j f h => ?_, fun j f h => ?_, fun j k f f' q h1 h2 h3 h4 => ?_, as_set R.as e (fun _ y => nomatch y), pn_set R.pn g (fun _ _ y => nomatch y), dl_set R.dl e g (fun _ y => nomatch y), tr_set R.tr e (fun _ y => nomatch y)⟩
  · rw [List.getElem?_set] at h
    by_cases q : i = j
    · rw [if_pos q] at h
      split at h <;> cases h
    · rw [if_neg q] at h
      obtain ⟨w, h1, h2⟩ := R.sh j f h
      exact ⟨w, by rw [List.getElem?_set, if_neg q]; exact h1, h2.mono g⟩
  · rw [List.getElem?_set] at h
    by_cases q : i = j
    · rw [if_pos q] at h
      split at h
      · rename_i hl
        cases h
        exact ⟨p, by rw [List.getElem?_set, if_pos q, if_pos (by rw [← R.len]; exact hl)], fun z => R.zin p z hp, R.base.free hp, o.mono g2 (Same.refl _)⟩
      · cases h
    · rw [if_neg q] at h
      obtain ⟨w, h1, h2, h3, h4⟩ := R.ow j f h
      exact ⟨w, by rw [List.getElem?_set, if_neg q]; exact h1, h2, h3, h4.mono g e⟩
  · have fr : ∀ (j : Nat) (f : D), s[j]? = some (Sl.ow f) → σ[j]? = some (some (V.ref p)) → False := fun j f a b => by
      obtain ⟨w, h1, _, _, h4⟩ := R.ow j f a
      rw [b] at h1
      cases h1
      exact h4.there hp
    rw [List.getElem?_set] at h1 h2 h3 h4
    by_cases q1 : i = j
    · by_cases q2 : i = k
      · rw [← q1, ← q2]
      · rw [if_neg q2] at h2 h4
        rw [if_pos q1] at h3
        split at h3
        · cases h3; exact (fr k f' h2 h4).elim
        · cases h3
    · by_cases q2 : i = k
      · rw [if_neg q1] at h1 h3
        rw [if_pos q2] at h4
        split at h4
        · cases h4; exact (fr j f h1 h3).elim
        · cases h4
      · rw [if_neg q1] at h1 h3
        rw [if_neg q2] at h2 h4
        exact R.inj j k f f' q h1 h2 h3 h4
/-- an object of its own goes among the shared -/
@[simp] def rel1 (i : Nat) (s : Ev) : Ev := match gt s i with
  | .ow d => st s i (.sh d)
  | _ => s
theorem Rel.rel1 (R : Rel K Hin Z s σ H) (i : Nat) : Rel K Hin Z (DL.rel1 i s) σ H := by
  unfold DL.rel1
  cases hg : gt s i with
  | un => exact R
  | sh d => exact R
  | as d => exact R
  | pn v d => exact R
  | dl k => exact R
  | tr k => exact R
  | ow d =>
    have h0 := gt_eq s i _ (by simp) hg
    obtain ⟨p, hp, hz, hin, ho⟩ := R.ow i d h0
    show Rel K Hin Z (st s i (.sh d)) σ H
    have pv : ∀ a, priv (st s i (.sh d)) σ a → priv s σ a ∧ a ≠ p := fun a ⟨j, f, h1, h2⟩ => by
      rw [st_eq, List.getElem?_set] at h1
      by_cases q : i = j
      · rw [if_pos q] at h1
        split at h1 <;> cases h1
      · rw [if_neg q] at h1
        refine ⟨⟨j, f, h1, h2⟩, fun z => q ?_⟩
        subst z
        exact R.inj i j d f a h0 h1 hp h2
    have g : Same (Rg Z s σ H) (Rg Z (st s i (.sh d)) σ H) := hide_mono (Same.refl _) fun a _ _ q => q.imp id fun y => (pv a y).1
    refine ⟨by rw [st_eq]; simpa using R.len, R.base, R.zin, fun j e h => ?_, fun j e h => ?_, fun j k e f q h1 h2 h3 h4 => ?_, by rw [st_eq]; exact as_set0 R.as (fun _ y => nomatch y), by rw [st_eq] at g ⊢; exact pn_set0 R.pn g (fun _ _ y => nomatch y), by rw [st_eq] at g ⊢; exact dl_set0 R.dl g (fun _ y => nomatch y), by rw [st_eq]; exact tr_set0 R.tr (fun _ y => nomatch y)⟩
    · rw [st_eq, List.getElem?_set] at h
      by_cases q : i = j
      · rw [if_pos q] at h
        split at h
        · cases h
          subst q
          refine ⟨_, hp, (ho.mono g (Same.refl _)).rp (hide_no fun y => y.elim hz fun y => (pv p y).2 rfl)⟩
        · cases h
      · rw [if_neg q] at h
        obtain ⟨w, h1, h2⟩ := R.sh j e h
        exact ⟨w, h1, h2.mono g⟩
    · rw [st_eq, List.getElem?_set] at h
      by_cases q : i = j
      · rw [if_pos q] at h
        split at h <;> cases h
      · rw [if_neg q] at h
        obtain ⟨w, h1, h2, h3, h4⟩ := R.ow j e h
        exact ⟨w, h1, h2, h3, h4.mono g (Same.refl _)⟩
    · rw [st_eq, List.getElem?_set] at h1 h2
      by_cases q1 : i = j
      · rw [if_pos q1] at h1; split at h1 <;> cases h1
      · by_cases q2 : i = k
        · rw [if_pos q2] at h2; split at h2 <;> cases h2
        · rw [if_neg q1] at h1
          rw [if_neg q2] at h2
          exact R.inj j k e f q h1 h2 h3 h4
/-- an object of its own is changed -/
theorem Rel.mut (R : Rel K Hin Z s σ H) {i : Nat} {d0 d : D} {o : HO} (h0 : s[i]? = some (.ow d0)) (hp : σ[i]? = some (some (.ref p))) (hw : Own K (Rg Z s σ H) (upd H p o) p d) : Rel K Hin Z (st s i (.ow d)) σ (upd H p o) := by
  obtain ⟨p', hp', hz, hin, ho⟩ := R.ow i d0 h0
  rw [hp] at hp'
  cases hp'
  have hpr : priv s σ p := ⟨i, d0, h0, hp⟩
  have pe : ∀ a, priv (st s i (.ow d)) σ a ↔ priv s σ a := fun a => by
    rw [st_eq]
    constructor
    · rintro ⟨j, f, h1, h2⟩
      rw [List.getElem?_set] at h1
      by_cases q : i = j
      · subst q; exact ⟨i, d0, h0, h2⟩
      · rw [if_neg q] at h1; exact ⟨j, f, h1, h2⟩
    · rintro ⟨j, f, h1, h2⟩
      by_cases q : i = j
      · subst q
        refine ⟨i, d, ?_, h2⟩
        rw [List.getElem?_set, if_pos rfl, if_pos (List.getElem?_eq_some_iff.mp h0).1]
      · exact ⟨j, f, by rw [List.getElem?_set, if_neg q]; exact h1, h2⟩
  have g : Same (Rg Z s σ H) (Rg Z (st s i (.ow d)) σ (upd H p o)) := hide_upd ho.notIT (.inr hpr) fun a y => y.imp id (pe a).mp
  have keep : ∀ {a : Addr} {e : D}, a ≠ p → Own K (Rg Z s σ H) H a e → Own K (Rg Z (st s i (.ow d)) σ (upd H p o)) (upd H p o) a e := fun {a e} na h => by
    cases e with
    | lst ds => obtain ⟨xs, h1, h2⟩ := h; exact ⟨xs, by rw [upd_ne na]; exact h1, h2.mono g⟩
    | dT kvs => show upd H p o a = _; rw [upd_ne na]; exact h
    | dK kvs => show upd H p o a = _; rw [upd_ne na]; exact h
    | _ => exact h.elim
  refine ⟨by rw [st_eq]; simpa using R.len, fun a u h => ?_, fun a z => ?_, fun j e h => ?_, fun j e h => ?_, fun j k e f q h1 h2 h3 h4 => ?_, by rw [st_eq]; exact as_set0 (as_upd R.as hz ho.notIT) (fun _ y => nomatch y), by rw [st_eq] at g ⊢; exact pn_set0 R.pn g (fun _ _ y => nomatch y), by rw [st_eq] at g ⊢; exact dl_set0 (dl_upd R.dl hz) g (fun _ y => nomatch y), by rw [st_eq]; exact tr_set0 (R.tr.upd hz ho.notIT) (fun _ y => nomatch y)⟩
  · rw [upd_ne (ne_of_none h hin)]; exact R.base _ _ h
  · rw [upd_ne (fun y => hz (by rw [← y]; exact z))]; exact R.zin a z
  · rw [st_eq, List.getElem?_set] at h
    by_cases q : i = j
    · rw [if_pos q] at h; split at h <;> cases h
    · rw [if_neg q] at h
      obtain ⟨w, h1, h2⟩ := R.sh j e h
      exact ⟨w, h1, h2.mono g⟩
  · rw [st_eq, List.getElem?_set] at h
    by_cases q : i = j
    · rw [if_pos q] at h
      split at h
      · cases h
        subst q
        exact ⟨p, hp, hz, hin, hw.mono g (Same.refl _)⟩
      · cases h
    · rw [if_neg q] at h
      obtain ⟨w, h1, h2, h3, h4⟩ := R.ow j e h
      refine ⟨w, h1, h2, h3, keep (fun z => q ?_) h4⟩
      subst z
      exact R.inj i j d0 e w h0 h hp h1
  · have h1' : ∀ {j : Nat} {e : D}, (st s i (.ow d))[j]? = some (Sl.ow e) → ∃ e', s[j]? = some (Sl.ow e') := fun {j e} h => by
      rw [st_eq, List.getElem?_set] at h
      by_cases q : i = j
      · subst q; exact ⟨d0, h0⟩
      · rw [if_neg q] at h; exact ⟨e, h⟩
    obtain ⟨e', h1⟩ := h1' h1
    obtain ⟨f', h2⟩ := h1' h2
    exact R.inj j k e' f' q h1 h2 h3 h4
/-- more is hidden: what the ground does not know -/
theorem Rel.hideMore' (R : Rel K Hin Z s σ H) {Dd : Addr} (e : Same H H') (hD : H Dd = none) (hD' : H' Dd ≠ none) : Rel K Hin (fun a => Z a ∨ a = Dd) s σ H' := by
  have nD : ∀ a, H a ≠ none → a ≠ Dd := fun a h z => h (by rw [z]; exact hD)
  have g : Same (Rg Z s σ H) (Rg (fun a => Z a ∨ a = Dd) s σ H') := hide_mono e fun a h _ q => by
    rcases q with (q | q) | q
    · exact .inl q
    · exact absurd q (nD a h)
    · exact .inr q
  refine ⟨R.len, R.base.trans e, fun a z => ?_, fun i d h => ?_, fun i d h => ?_, R.inj, fun i d h => let ⟨p, h1, h2⟩ := R.as i d h; ⟨p, h1, h2.mono (fun _ _ a b => ⟨.inl a, b⟩) e⟩, fun i v d h => let ⟨h1, h2⟩ := R.pn i v d h; ⟨h1, h2.mono g⟩, fun i k h => let ⟨p, h1, h2⟩ := R.dl i k h; ⟨p, h1, h2.mono (fun _ _ a b => ⟨.inl a, b⟩) e g⟩, R.tr.mono (fun _ _ a b => ⟨.inl a, b⟩) e⟩
  · rcases z with z | z
    · intro q; exact R.zin a z (e.free q)
    · rw [z]; exact hD'
  · obtain ⟨v, h1, h2⟩ := R.sh i d h
    exact ⟨v, h1, h2.mono g⟩
  · obtain ⟨p, h1, h2, h3, h4⟩ := R.ow i d h
    exact ⟨p, h1, fun z => z.elim h2 (nD p h4.there), h3, h4.mono g e⟩
/-- a comprehension's own name is forgotten -/
@[simp] def okW (i : Nat) (s : Ev) : Bool := match gt s i with
  | .ow _ => false
  | _ => true
theorem okW_no {i : Nat} {s : Ev} (h : okW i s = true) {d : D} : s[i]? ≠ some (.ow d) := fun q => by
  have : gt s i = .ow d := by
    clear h
    induction s generalizing i with
    | nil => simp at q
    | cons x r ih =>
      cases i with
      | zero => simp at q; simp [q]
      | succ n => exact ih (i := n) (by simpa using q)
  simp [okW, this] at h
theorem Rel.wipe (R : Rel K Hin Z s σ H) {i : Nat} (h : okW i s = true) : Rel K Hin Z (st s i .un) (L2.wipe σ [i]) H ∧ ∀ a, priv (st s i .un) (L2.wipe σ [i]) a ↔ priv s σ a := by
  have pe : ∀ a, priv (st s i .un) (L2.wipe σ [i]) a ↔ priv s σ a := fun a => by
    rw [st_eq]
    show priv (s.set i .un) (σ.set i none) a ↔ _
    constructor
    · rintro ⟨j, f, h1, h2⟩
      rw [List.getElem?_set] at h1 h2
      by_cases q : i = j
      · rw [if_pos q] at h1; split at h1 <;> cases h1
      · rw [if_neg q] at h1 h2; exact ⟨j, f, h1, h2⟩
    · rintro ⟨j, f, h1, h2⟩
      have q : i ≠ j := fun q => okW_no h (by rw [q]; exact h1)
      exact ⟨j, f, by rw [List.getElem?_set, if_neg q]; exact h1, by rw [List.getElem?_set, if_neg q]; exact h2⟩
  have g : Same (Rg Z s σ H) (Rg Z (st s i .un) (L2.wipe σ [i]) H) := hide_mono (Same.refl _) fun a _ _ q => q.imp id (pe a).mp
  refine ⟨⟨?_, R.base, R.zin, fun j e q => ?_, fun j e q => ?_, fun j k e f q h1 h2 h3 h4 => ?_, by rw [st_eq]; exact as_set R.as (Same.refl _) (fun _ y => nomatch y), by rw [st_eq] at g ⊢; exact pn_set R.pn g (fun _ _ y => nomatch y), by rw [st_eq] at g ⊢; exact dl_set R.dl (Same.refl _) g (fun _ y => nomatch y), by rw [st_eq]; exact tr_set R.tr (Same.refl _) (fun _ y => nomatch y)⟩, pe⟩
  · rw [st_eq]; show (s.set i .un).length = (σ.set i none).length; simpa using R.len
  · rw [st_eq, List.getElem?_set] at q
    by_cases z : i = j
    · rw [if_pos z] at q; split at q <;> cases q
    · rw [if_neg z] at q
      obtain ⟨w, h1, h2⟩ := R.sh j e q
      exact ⟨w, by show (σ.set i none)[j]? = _; rw [List.getElem?_set, if_neg z]; exact h1, h2.mono g⟩
  · rw [st_eq, List.getElem?_set] at q
    by_cases z : i = j
    · rw [if_pos z] at q; split at q <;> cases q
    · rw [if_neg z] at q
      obtain ⟨w, h1, h2, h3, h4⟩ := R.ow j e q
      exact ⟨w, by show (σ.set i none)[j]? = _; rw [List.getElem?_set, if_neg z]; exact h1, h2, h3, h4.mono g (Same.refl _)⟩
  · have h1' : ∀ {j : Nat} {e : D} {q : Addr}, (st s i .un)[j]? = some (Sl.ow e) → (L2.wipe σ [i])[j]? = some (some (V.ref q)) → s[j]? = some (Sl.ow e) ∧ σ[j]? = some (some (V.ref q)) := fun {j e q} a b => by
      have b' : (σ.set i none)[j]? = some (some (V.ref q)) := b
      rw [st_eq, List.getElem?_set] at a
      rw [List.getElem?_set] at b'
      by_cases z : i = j
      · rw [if_pos z] at a; split at a <;> cases a
      · rw [if_neg z] at a b'; exact ⟨a, b'⟩
    obtain ⟨a1, a2⟩ := h1' h1 h3
    obtain ⟨b1, b2⟩ := h1' h2 h4
    exact R.inj j k e f q a1 b1 a2 b2
end

/-! ### statements -/
inductive Out where
  | nx (s : Ev) | rt (r : Rv) | bk (s : Ev) | ct (s : Ev) | exc (c : Nat) | stuck
/-- a pair: a new list of plain items, and what doesn't reach it; or a new tree -/
def RetX (K : PySem.W.Frag) (Hin : Hp) (Z : Addr → Prop) (H' : Hp) (v : V) : D → Prop
  | .tup [.lst ds, d] => ∃ q p vs w, v = V.ref q ∧ H' q = some (.tup [.ref p, w]) ∧ ¬ (Z q ∨ q = p) ∧ Hin p = none ∧ H' p = some (.lst vs) ∧ RpL K (fun _ => none) vs ds ∧ Rp K (hide (fun a => Z a ∨ a = p) H') w d
  | .tup [.non, d] => ∃ l, OT K H' v d l ∧ l.Nodup ∧ ∀ a ∈ l, Hin a = none
  | _ => False
theorem RetX.imp {K : PySem.W.Frag} {Hin Hin2 : Hp} {Z Z2 : Addr → Prop} {H' : Hp} {v : V} {d : D} (h : RetX K Hin Z H' v d) (e : Same Hin2 Hin) (z : ∀ a, Z2 a → Z a) : RetX K Hin2 Z2 H' v d := by
  unfold RetX at h ⊢
  split at h
  · obtain ⟨q, p, vs, w, h1, h2, h3, h4, h5, h6, h7⟩ := h
    exact ⟨q, p, vs, w, h1, h2, fun y => h3 (y.imp (z q) id), e.free h4, h5, h6, h7.mono (hide_mono (Same.refl _) fun a _ _ y => y.imp (z a) id)⟩
  · obtain ⟨l, h1, h2, h3⟩ := h
    exact ⟨l, h1, h2, fun a ha => e.free (h3 a ha)⟩
  · exact h.elim
def RetOk (K : PySem.W.Frag) (Hin : Hp) (Z : Addr → Prop) (H' : Hp) (v : V) (r : Rv) : Prop := match r.k with
  | .sh => Rp K (hide Z H') v r.d
  | .fr => ∃ p, v = V.ref p ∧ Hin p = none ∧ Own K (hide (fun a => Z a ∨ a = p) H') H' p r.d
  | .ow => RetX K Hin Z H' v r.d
def bndO : Out → (Ev → Out) → Out
  | .nx s, f => f s
  | o, _ => o
def bndR {α : Type} : Res α → (α → Out) → Out
  | .ok a, f => f a
  | .exc c, _ => .exc c
  | .stuck, _ => .stuck
@[simp] theorem bndO_nx {s : Ev} {f : Ev → Out} : bndO (.nx s) f = f s := rfl
@[simp] theorem bndO_rt {r : Rv} {f : Ev → Out} : bndO (.rt r) f = .rt r := rfl
@[simp] theorem bndO_bk {s : Ev} {f : Ev → Out} : bndO (.bk s) f = .bk s := rfl
@[simp] theorem bndO_ct {s : Ev} {f : Ev → Out} : bndO (.ct s) f = .ct s := rfl
@[simp] theorem bndO_exc {c : Nat} {f : Ev → Out} : bndO (.exc c) f = .exc c := rfl
@[simp] theorem bndO_stuck {f : Ev → Out} : bndO .stuck f = .stuck := rfl
@[simp] theorem bndO_ite {c : Prop} [Decidable c] {x y : Out} {f : Ev → Out} : bndO (if c then x else y) f = if c then bndO x f else bndO y f := by split <;> rfl
@[simp] theorem bndR_ok {α : Type} {a : α} {f : α → Out} : bndR (.ok a) f = f a := rfl
@[simp] theorem bndR_exc {α : Type} {c : Nat} {f : α → Out} : bndR (.exc c) f = .exc c := rfl
@[simp] theorem bndR_stuck {α : Type} {f : α → Out} : bndR .stuck f = .stuck := rfl
@[simp] theorem bndR_ite {α : Type} {c : Prop} [Decidable c] {x y : Res α} {f : α → Out} : bndR (if c then x else y) f = if c then bndR x f else bndR y f := by split <;> rfl
section
variable (K : PySem.W.Frag) (ca : Nat → Addr) (W : WX)
def SatS (Hin : Hp) (Z : Addr → Prop) (Dn : Ends) : Out → Prop
  | .nx s => ∀ σ' H', Rel K Hin Z s σ' H' → Dn.nx σ' H'
  | .rt r => ∀ v H', Same Hin H' → RetOk K Hin Z H' v r → Dn.rt v H'
  | .bk s => ∀ σ' H', Rel K Hin Z s σ' H' → Dn.bk σ' H'
  | .ct s => ∀ σ' H', Rel K Hin Z s σ' H' → Dn.ct σ' H'
  | .exc c => ∀ σ' H', Same Hin H' → W (.ref (ca c)) none σ' H'
  | .stuck => False
def tS (f : Ev → Out) : TS := fun Dn σ H => ∃ Hin Z s, Rel K Hin Z s σ H ∧ SatS K ca W Hin Z Dn (f s)
end
section
variable {K : PySem.W.Frag} {ca : Nat → Addr} {W : WX} {σ : L2.St} {H H1 : Hp} {Hin : Hp} {Z : Addr → Prop} {s : Ev} {Dn : Ends}
theorem satS_bnd {α : Type} {x : Res α} {f : α → Out} (R : Rel K Hin Z s σ H) (h : SatS K ca W Hin Z Dn (bndR x f)) : x.sat (fun a => SatS K ca W Hin Z Dn (f a)) (Exq ca W σ H) := by
  cases x with
  | ok a => exact h
  | exc c => exact fun H' k => h σ H' (R.base.trans k)
  | stuck => exact h
end
section
variable {X : Cx} {ca : Nat → Addr} {W : WX} {a b c e : Expr} {es : List Expr} {fe fa fb fc : Ev → Res Rv} {pos : Pos} {q : Stmt} {rest : List Stmt} {f g : Ev → Out}
abbrev DS (X : Cx) (ca : Nat → Addr) (W : WX) (e : Stmt) (f : Ev → Out) : Prop := PS X e (tS X.K ca W f)
abbrev DSs (X : Cx) (ca : Nat → Addr) (W : WX) (e : List Stmt) (f : Ev → Out) : Prop := PSs X e (tS X.K ca W f)
theorem dss_nil : DSs X ca W [] .nx := pss_nil.imp fun Dn σ H ⟨Hin, Z, s, R, h⟩ => h σ H R
theorem dss_one (h : DS X ca W q f) : DSs X ca W [q] f := pss_one h
@[simp] def fSeq (f g : Ev → Out) : Ev → Out := fun s => bndO (f s) g
theorem dss_cons (h1 : DS X ca W q f) (h2 : DSs X ca W rest g) : DSs X ca W (q :: rest) (fSeq f g) := (pss_cons h1 h2).imp fun Dn σ H h => by
  obtain ⟨Hin, Z, s, R, h⟩ := h
  refine ⟨Hin, Z, s, R, ?_⟩
  simp only [fSeq] at h
  cases ef : f s with
  | nx s' => rw [ef] at h; exact fun σ' H' R' => ⟨Hin, Z, s', R', h⟩
  | rt r => rw [ef] at h; exact h
  | bk s' => rw [ef] at h; exact h
  | ct s' => rw [ef] at h; exact h
  | exc c => rw [ef] at h; exact h
  | stuck => rw [ef] at h; exact h
theorem ds_rel (i : Nat) (h : DS X ca W q f) : DS X ca W q (fun s => f (rel1 i s)) := PS.imp h fun Dn σ H ⟨Hin, Z, s, R, h⟩ => ⟨Hin, Z, rel1 i s, R.rel1 i, h⟩
/-- a value into a slot -/
def putR (i : Nat) (s : Ev) : Rv → Out
  | ⟨.sh, d⟩ => .nx (st s i (.sh d))
  | ⟨.fr, d⟩ => .nx (st s i (.ow d))
  | ⟨.ow, _⟩ => .stuck
@[simp] theorem putR_sh {i : Nat} {s : Ev} {d : D} : putR i s ⟨.sh, d⟩ = .nx (st s i (.sh d)) := rfl
@[simp] theorem putR_fr {i : Nat} {s : Ev} {d : D} : putR i s ⟨.fr, d⟩ = .nx (st s i (.ow d)) := rfl
theorem satS_put {i : Nat} {r : Rv} {v : V} {K : PySem.W.Frag} {σ : L2.St} {H H1 : Hp} {Hin : Hp} {Z : Addr → Prop} {s : Ev} {Dn : Ends} (R : Rel K Hin Z s σ H) (k : Same H H1) (q : ResOk K Z s σ H H1 v r) (h : SatS K ca W Hin Z Dn (putR i s r)) : Dn.nx (σ.set i (some v)) H1 := by
  obtain ⟨kd, d⟩ := r
  cases kd with
  | sh => exact h _ _ ((R.mono k).setSh q i)
  | fr =>
    obtain ⟨p, rfl, hp, ho⟩ := q
    exact h _ _ (R.setOw k hp ho i)
  | ow => exact h.elim
@[simp] def fSet (i : Nat) (fe : Ev → Res Rv) : Ev → Out := fun s => bndR (fe s) (putR i s)
theorem tAsg_of {i : Nat} {K : PySem.W.Frag} {te : TE} (ht : ∀ σ H Q, tE K ca W fe σ H Q → te σ H Q) {Dn : Ends} {σ : L2.St} {H : Hp} (h : tS K ca W (fSet i fe) Dn σ H) : tAsg te (gName i) Dn σ H := by
  obtain ⟨Hin, Z, s, R, h⟩ := h
  exact ht _ _ _ ⟨Hin, Z, s, R, sat_mono (satS_bnd R h) (fun r h v H1 k q => satS_put R k q h) fun _ h => h⟩
theorem ds_set (i : Nat) {x : Str} {pos' : Pos} (he : DE X ca W e fe) (hN : X.N.Nodup) (hi : X.N[i]? = some x := by rfl) (hx : Loc X.env.scope x := by first | exact Or.inl rfl | exact Or.inr rfl) (hs : swapsWith e (some (.Name x pos')) pos.line X.env = pure false := by rfl) (hf : X.fn x = true ∨ X.env.scope.names.lookup x = some .local := by first | exact .inl rfl | exact .inr rfl | assumption) :
    DS X ca W (.Assign [.Name x pos'] e pos) (fSet i fe) := (ps_set hN hi hx he hs hf).imp fun _ _ _ h => tAsg_of (fun _ _ _ h => h) h
@[simp] def fDrop (fe : Ev → Res Rv) : Ev → Out := fun s => bndR (fe s) fun _ => .nx s
theorem ds_expr (he : DE X ca W e fe) (hs : swapsWith e none pos.line X.env = pure false := by rfl) : DS X ca W (.Expr e pos) (fDrop fe) := (ps_expr he hs).imp fun Dn σ H h => by
  obtain ⟨Hin, Z, s, R, h⟩ := h
  exact ⟨Hin, Z, s, R, sat_mono (satS_bnd R h) (fun r h v H1 k q => h σ H1 (R.mono k)) fun _ h => h⟩
def retR : Rv → Out
  | ⟨.ow, d⟩ => .rt ⟨.fr, d⟩
  | r => .rt r
@[simp] theorem retR_sh {d : D} : retR ⟨.sh, d⟩ = .rt ⟨.sh, d⟩ := rfl
@[simp] theorem retR_fr {d : D} : retR ⟨.fr, d⟩ = .rt ⟨.fr, d⟩ := rfl
@[simp] theorem retR_ow {d : D} : retR ⟨.ow, d⟩ = .rt ⟨.fr, d⟩ := rfl
@[simp] def fRet (fe : Ev → Res Rv) : Ev → Out := fun s => bndR (fe s) retR
theorem ds_ret (he : DE X ca W e fe) : DS X ca W (.Return (some e) pos) (fRet fe) := (ps_ret he).imp fun Dn σ H h => by
  obtain ⟨Hin, Z, s, R, h⟩ := h
  refine ⟨Hin, Z, s, R, sat_mono (satS_bnd R h) (fun r h v H1 k q => ?_) fun _ h => h⟩
  have R1 := R.mono k
  obtain ⟨kd, d⟩ := r
  cases kd with
  | sh => exact h v H1 R1.base (Rp.mono (hide_mono (Same.refl _) fun a _ _ y => .inl y) q)
  | fr =>
    obtain ⟨p, rfl, hp, ho⟩ := q
    exact h _ H1 R1.base ⟨p, rfl, R.base.free hp, ho.mono (hide_mono (Same.refl _) fun a _ _ y => y.imp .inl id) (Same.refl _)⟩
  | ow =>
    obtain ⟨p, rfl, hp, ho⟩ := q
    exact h _ H1 R1.base ⟨p, rfl, (R1.privH hp).2.2, ho.mono (hide_mono (Same.refl _) fun a _ _ y => y.imp id fun z => by rw [z]; exact hp) (Same.refl _)⟩
theorem ds_retN : DS X ca W (.Return none pos) (fun _ => .rt ⟨.sh, .non⟩) := ps_retN.imp fun Dn σ H ⟨Hin, Z, s, R, h⟩ => h .non H R.base (Rp.non)
@[simp] def fIte (t : Ev → Res Bool) (f g : Ev → Out) : Ev → Out := fun s => bndR (t s) fun b => if b then f s else g s
theorem ds_if {t : Ev → Res Bool} {u v : List Stmt} (hc : DT X ca W c t) (ha : DSs X ca W u f) (hb : DSs X ca W v g) : DS X ca W (.If c u v pos) (fIte t f g) := (ps_if hc ha hb).imp fun Dn σ H h => by
  obtain ⟨Hin, Z, s, R, h⟩ := h
  refine ⟨Hin, Z, s, R, sat_mono (satS_bnd R h) (fun b h H1 k => ?_) fun _ h => h⟩
  cases b with
  | true => exact iteT ⟨Hin, Z, s, R.mono k, h⟩
  | false => exact iteF ⟨Hin, Z, s, R.mono k, h⟩
theorem ds_pass : DS X ca W (.Pass pos) .nx := ps_pass.imp fun Dn σ H ⟨Hin, Z, s, R, h⟩ => h σ H R
theorem ds_break : DS X ca W (.Break pos) .bk := ps_break.imp fun Dn σ H ⟨Hin, Z, s, R, h⟩ => h σ H R
theorem ds_continue : DS X ca W (.Continue pos) .ct := ps_continue.imp fun Dn σ H ⟨Hin, Z, s, R, h⟩ => h σ H R
/-- raise C('..') -/
theorem ds_raise (c : Nat) {x m : Str} {j : Nat} {p p2 pos2 : Pos} {bmB : List Value} {B newId initId : String} (F : ExcBaseFacts B newId initId bmB) (tk : Takes X W) (hC : PySem.W.excIn X.K (ca c) bmB newId = true) (gC : X.mg x = some (.ref (ca c))) (kC : PySem.W.keepIn X.K (.ref (ca c)) = true)
    (h1 : PySem.W.subIn X.K (.ref (ca c)) (.type "BaseException") = some true) (h2 : PySem.W.typeIn X.K (.ref (ca c)) = some (.type "type")) (hc : X.calm = true := by rfl) (hg : Gl X x := by rfl) (hdb : (x == ("__debug__" : Str)) = false := by decide) :
    DS X ca W (.Raise (some (.Call (.Name x p) [.Constant (.str m) j p2] [] pos)) none pos2) (fun _ => .exc c) :=
  (ps_raise hc tk (pmk_own F hC gC kC (raises_own h1 h2) hg hdb)).imp fun Dn σ H ⟨Hin, Z, s, R, h⟩ => h σ H R.base
/-- a, b, .. = a tuple, into plain slots -/
@[simp] def putAll : List Nat → List D → Ev → Out
  | [], [], s => .nx s
  | i :: is, d :: ds, s => putAll is ds (st s i (.sh d))
  | _, _, _ => .stuck
def gNames : List Nat → TGs
  | [] => gNil
  | i :: is => gCons (gName i) (gNames is)
theorem gNames_ok {K : PySem.W.Frag} {Hin : Hp} {Z : Addr → Prop} {Dn : Ends} {H : Hp} : ∀ (is : List Nat) {ds : List D} {vs : List V} {s : Ev} {σ : L2.St}, Rel K Hin Z s σ H → RpL K (Rg Z s σ H) vs ds → SatS K ca W Hin Z Dn (putAll is ds s) → gNames is vs σ H Dn.nx
  | [], [], vs, s, σ, R, r, h => by
    cases r
    exact ⟨rfl, h σ H R⟩
  | [], d :: ds, _, _, _, R, r, h => h.elim
  | i :: is, [], _, _, _, R, r, h => h.elim
  | i :: is, d :: ds, vs, s, σ, R, r, h => by
    cases r with
    | cons r1 r2 =>
      have R' := R.setSh r1 i
      refine ⟨_, _, rfl, gNames_ok is R' (r2.mono (hide_mono (Same.refl _) fun a _ _ y => y.imp id fun ⟨j, f, h1, h2⟩ => ?_)) h⟩
      rw [st_eq, List.getElem?_set] at h1
      rw [List.getElem?_set] at h2
      by_cases q : i = j
      · rw [if_pos q] at h1
        split at h1 <;> cases h1
      · rw [if_neg q] at h1 h2
        exact ⟨j, f, h1, h2⟩
@[simp] def fUnp (is : List Nat) (fe : Ev → Res Rv) : Ev → Out := fun s => bndR (fe s) fun r => match r.d with
  | .tup ds => if ds.length = is.length then putAll is ds s else .stuck
  | _ => .stuck
theorem ds_unp (is : List Nat) {ts : List Expr} {k : Nat} {tpos : Pos} {n : Nat} (he : DE X ca W e fe) (hg : PGs X ts (gNames is)) (hl : n = is.length := by rfl) (hc : X.calm = true := by rfl)
    (hn : (assignEach ts X.env).length = n := by rfl) (hst : (assignEach ts X.env).findIdx? (·.1) = none := by rfl)
    (hs : swapsWithSole [.Tuple ts k tpos] e pos.line X.env = pure false := by rfl) (hw : swappedStores [.Tuple ts k tpos] e X.env = pure none := by rfl) (h1 : (assignEach [.Tuple ts k tpos] X.env).map (·.2) = [assign (.Tuple ts k tpos) X.env] := by rfl) :
    DS X ca W (.Assign [.Tuple ts k tpos] e pos) (fUnp is fe) := (ps_asg he (pg_tup hc hg hn hst) hs hw h1).imp fun Dn σ H h => by
  obtain ⟨Hin, Z, s, R, h⟩ := h
  refine ⟨Hin, Z, s, R, sat_mono (satS_bnd R h) (fun r h v H1 k1 q => ?_) fun _ h => h⟩
  obtain ⟨kd, d⟩ := r
  cases d with
  | tup ds =>
    simp only at h
    split at h
    · rename_i hl2
      obtain ⟨p, xs, rfl, hp, r1⟩ := q.tuple rfl
      exact ⟨p, xs, rfl, SqT.of hp, by rw [r1.length, hl2, hl], gNames_ok is (R.mono k1) r1 h⟩
    · exact h.elim
  | _ => exact h.elim

/-! ### changes of an object of its own -/
/-- x.m(e, ..): the list at slot i is changed -/
def MutD (K : PySem.W.Frag) (r : V → List V → Hp → VK → Prop) (g : List D → List Rv → Option (List D)) : Prop :=
  ∀ (Hin : Hp) (Z : Addr → Prop) (s : Ev) (σ : L2.St) (H0 H : Hp) (p : Addr) (xs vs : List V) (rs : List Rv) (ds ds' : List D) (Q : VK), Rel K Hin Z s σ H0 → Same H0 H → ResA K Z s σ H0 H vs rs → H p = some (.lst xs) → RpL K (Rg Z s σ H) xs ds → g ds rs = some ds' →
    (∀ v xs', RpL K (Rg Z s σ H) xs' ds' → Q v (upd H p (.lst xs'))) → r (.ref p) vs H Q
@[simp] def fMut (i : Nat) (g : List D → List Rv → Option (List D)) (fs : Ev → Res (List Rv)) : Ev → Out := fun s => match gt s i with
  | .ow (.lst ds) => bndR (fs s) fun rs => bndR (lft (g ds rs)) fun ds' => .nx (st s i (.ow (.lst ds')))
  | _ => .stuck
theorem gt_ow {i : Nat} {s : Ev} {d : D} (h : gt s i = .ow d) : s[i]? = some (.ow d) := gt_eq s i _ (by simp) h
theorem mut_ok {K : PySem.W.Frag} {r : V → List V → Hp → VK → Prop} {g : List D → List Rv → Option (List D)} (hr : MutD K r g) {i : Nat} {fs : Ev → Res (List Rv)} {Dn : Ends} {σ : L2.St} {H : Hp} (h : tS K ca W (fMut i g fs) Dn σ H) :
    ∃ v, σ[i]? = some (some v) ∧ tyV K "list" v H ∧ tA K ca W fs σ H fun vs H1 => r v vs H1 fun _ H2 => Dn.nx σ H2 := by
  obtain ⟨Hin, Z, s, R, h⟩ := h
  simp only [fMut] at h
  cases eg : gt s i with
  | un => rw [eg] at h; exact h.elim
  | sh d => rw [eg] at h; exact h.elim
  | as d => rw [eg] at h; exact h.elim
  | pn v d => rw [eg] at h; exact h.elim
  | dl k => rw [eg] at h; exact h.elim
  | tr k => rw [eg] at h; exact h.elim
  | ow d =>
    rw [eg] at h
    cases d with
    | lst ds =>
      have e1 := gt_ow eg
      obtain ⟨p, hp, hz, hin, xs, h1, h2⟩ := R.ow i _ e1
      refine ⟨.ref p, hp, .inl ⟨rfl, xs, SqL.of h1⟩, tA_go R (sat_mono (satS_bnd R h) (fun rs h vs H1 k1 R1 q1 => ?_) fun _ h => h)⟩
      obtain ⟨ds', e3, h⟩ := sat_lft (satS_bnd R h)
      refine hr Hin Z s σ H H1 p xs vs rs ds ds' _ R k1 q1 (k1 _ _ h1) (h2.mono (rg_mono k1)) e3 fun v xs' r' => ?_
      exact h σ _ (R1.mut e1 hp ⟨xs', upd_same, r'⟩)
    | _ => exact h.elim
theorem ds_mut (i : Nat) {x name : Str} {p1 apos cpos spos : Pos} {id : String} {r : V → List V → Hp → VK → Prop} {g : List D → List Rv → Option (List D)} {fs : Ev → Res (List Rv)} (hr : MtR X id r ∧ MutD X.K r g) (pa : PlainAttrs "list") (slot : Slot "list" name id) (hty : typeOf (.builtin id) = pure (.type "method_descriptor")) (ha : DA X ca W (e :: es) fs)
    (hN : X.N[i]? = some x := by rfl) (hv : Vis X.env.scope x := by first | exact Or.inl rfl | exact Or.inr (Or.inl rfl) | exact Or.inr (Or.inr rfl)) (hd : (x == ("__debug__" : Str)) = false := by decide) (hcd : (x == ("__classdict__" : Str)) = false := by decide)
    (hbase : attributeBase (.Name x p1) name X.env (eval (.Name x p1) X.env) = eval (.Name x p1) X.env := by rfl)
    (hfew : ((backTo cpos (starEach (e :: es) X.env)).all (fun x => !x.1) && (backToKw cpos (keywordEach [] X.env)).all (fun x => x.1.isSome)
      && decide ((e :: es).length + ([] : List Keyword).length + (if ([] : List Keyword).isEmpty then 0 else 1) < 30)) = true := by rfl)
    (hline : (apos.endLine == cpos.line) = true := by rfl) (hst : starEach (e :: es) X.env = (false, eval e X.env) :: starEach es X.env := by rfl) (hplain : (backTo cpos (starEach es X.env)).any (·.1) = false := by rfl)
    (hs : swapsWith (.Call (.Attribute (.Name x p1) name apos) (e :: es) [] cpos) none spos.line X.env = pure false := by rfl) : DS X ca W (.Expr (.Call (.Attribute (.Name x p1) name apos) (e :: es) [] cpos) spos) (fMut i g fs) :=
  (ps_expr (pe_bm pa slot hty hr.1 (pe_var hN hv hd hcd) ha hbase hfew hline hst hplain) hs).imp fun Dn σ H h => by
    obtain ⟨v, h1, h2, h3⟩ := mut_ok hr.2 h
    exact ⟨v, h1, h2, h3⟩
theorem ds_mut0 (i : Nat) {x name : Str} {p1 apos cpos spos : Pos} {id : String} {r : V → List V → Hp → VK → Prop} {g : List D → List Rv → Option (List D)} (hr : MtR X id r ∧ MutD X.K r g) (pa : PlainAttrs "list") (slot : Slot "list" name id) (hty : typeOf (.builtin id) = pure (.type "method_descriptor"))
    (hN : X.N[i]? = some x := by rfl) (hv : Vis X.env.scope x := by first | exact Or.inl rfl | exact Or.inr (Or.inl rfl) | exact Or.inr (Or.inr rfl)) (hd : (x == ("__debug__" : Str)) = false := by decide) (hcd : (x == ("__classdict__" : Str)) = false := by decide)
    (hbase : attributeBase (.Name x p1) name X.env (eval (.Name x p1) X.env) = eval (.Name x p1) X.env := by rfl) (hline : (apos.endLine == cpos.line) = true := by rfl)
    (hs : swapsWith (.Call (.Attribute (.Name x p1) name apos) [] [] cpos) none spos.line X.env = pure false := by rfl) : DS X ca W (.Expr (.Call (.Attribute (.Name x p1) name apos) [] [] cpos) spos) (fMut i g fun _ => .ok []) :=
  (ps_expr (pe_bm0 pa slot hty hr.1 (pe_var hN hv hd hcd) hbase hline) hs).imp fun Dn σ H h => by
    obtain ⟨v, h1, h2, Hin, Z, s, R, h3⟩ := mut_ok hr.2 h
    exact ⟨v, h1, h2, h3 [] H (Same.refl _) .nil⟩
@[simp] def appG (ds : List D) : List Rv → Option (List D)
  | [⟨.ow, _⟩] => none
  | [⟨_, d⟩] => if ds.length < lim then some (ds ++ [d]) else none
  | _ => none
theorem lt_line {n : Nat} (h : n < lim) : n < sizeLine := by rw [sizeLine_eq]; exact h
theorem shared1 {K : PySem.W.Frag} {Hin : Hp} {Z : Addr → Prop} {s : Ev} {σ : L2.St} {H0 H : Hp} {v : V} {k : Kd} {d : D} (R : Rel K Hin Z s σ H0) (e : Same H0 H) (h : ResOk K Z s σ H0 H v ⟨k, d⟩) (hk : k ≠ .ow) : Rp K (Rg Z s σ H) v d := h.shared hk R e
theorem md_append : MtR X "list.append" rAppend ∧ MutD X.K rAppend appG := by
  refine ⟨mt_append, ?_⟩
  intro Hin Z s σ H0 H p xs vs rs ds ds' Q R k q hp r e h
  have key : ∀ (kd : Kd) (d : D), kd ≠ .ow → rs = [⟨kd, d⟩] → (if ds.length < lim then some (ds ++ [d]) else none) = some ds' → rAppend (.ref p) vs H Q := fun kd d hk er e' => by
    subst er
    clear e
    have e := e'
    obtain ⟨v, rfl, q1⟩ := q.one
    split at e
    · rename_i hl
      cases e
      exact ⟨p, xs, v, rfl, rfl, hp, by rw [r.length]; exact lt_line hl, h _ _ (r.app (.cons (shared1 R k q1 hk) .nil))⟩
    · cases e
  match rs, e with
  | [⟨.sh, d⟩], e => exact key .sh d (by simp) rfl e
  | [⟨.fr, d⟩], e => exact key .fr d (by simp) rfl e
  | [⟨.ow, d⟩], e => simp [appG] at e
  | [], e => simp [appG] at e
  | _ :: _ :: _, e => simp [appG] at e
@[simp] def insG (ds : List D) : List Rv → Option (List D)
  | [_, ⟨.ow, _⟩] => none
  | [⟨_, .int i⟩, ⟨_, d⟩] => if ds.length < lim ∧ 0 ≤ i ∧ i < 2 ^ 63 then some (ds.take i.toNat ++ [d] ++ ds.drop i.toNat) else none
  | _ => none
abbrev rInsert : V → List V → Hp → VK → Prop := fun x vs H Q => ∃ (l : Addr) (xs : List V) (i : Int) (y : V), x = .ref l ∧ vs = [.int i, y] ∧ H l = some (.lst xs) ∧ xs.length < sizeLine ∧ 0 ≤ i ∧ i < 2 ^ 63 ∧
    Q .non (upd H l (.lst (xs.take i.toNat ++ [y] ++ xs.drop i.toNat)))
theorem md_insert : MtR X "list.insert" rInsert ∧ MutD X.K rInsert insG := by
  refine ⟨mt_insert, ?_⟩
  intro Hin Z s σ H0 H p xs vs rs ds ds' Q R k q hp r e h
  have key : ∀ (k1 kd : Kd) (i : Int) (d : D), kd ≠ .ow → rs = [⟨k1, .int i⟩, ⟨kd, d⟩] → (if ds.length < lim ∧ 0 ≤ i ∧ i < 2 ^ 63 then some (ds.take i.toNat ++ [d] ++ ds.drop i.toNat) else none) = some ds' → rInsert (.ref p) vs H Q := fun k1 kd i d hk er e' => by
    subst er
    clear e
    have e := e'
    obtain ⟨v, w, rfl, q1, q2⟩ := q.two
    split at e
    · rename_i hl
      cases e
      exact ⟨p, xs, i, w, rfl, by rw [q1.int rfl], hp, by rw [r.length]; exact lt_line hl.1, hl.2.1, hl.2.2, h _ _ (((r.take _).app (.cons (shared1 R k q2 hk) .nil)).app (r.drop _))⟩
    · cases e
  match rs, e with
  | [⟨k1, .int i⟩, ⟨.sh, d⟩], e => exact key k1 .sh i d (by simp) rfl e
  | [⟨k1, .int i⟩, ⟨.fr, d⟩], e => exact key k1 .fr i d (by simp) rfl e
  | [⟨k1, d1⟩, ⟨.ow, d⟩], e => cases d1 <;> simp [insG] at e
  | [], e => simp [insG] at e
  | [_], e => simp [insG] at e
  | _ :: _ :: _ :: _, e => simp [insG] at e
  | [⟨_, .non⟩, ⟨.sh, _⟩], e => simp [insG] at e
  | [⟨_, .bl _⟩, ⟨.sh, _⟩], e => simp [insG] at e
  | [⟨_, .str _⟩, ⟨.sh, _⟩], e => simp [insG] at e
  | [⟨_, .lst _⟩, ⟨.sh, _⟩], e => simp [insG] at e
  | [⟨_, .tup _⟩, ⟨.sh, _⟩], e => simp [insG] at e
  | [⟨_, .dT _⟩, ⟨.sh, _⟩], e => simp [insG] at e
  | [⟨_, .dK _⟩, ⟨.sh, _⟩], e => simp [insG] at e
  | [⟨_, .scr _⟩, ⟨.sh, _⟩], e => simp [insG] at e
  | [⟨_, .any⟩, ⟨.sh, _⟩], e => simp [insG] at e
  | [⟨_, .exc _⟩, ⟨.sh, _⟩], e => simp [insG] at e
  | [⟨_, .non⟩, ⟨.fr, _⟩], e => simp [insG] at e
  | [⟨_, .bl _⟩, ⟨.fr, _⟩], e => simp [insG] at e
  | [⟨_, .str _⟩, ⟨.fr, _⟩], e => simp [insG] at e
  | [⟨_, .lst _⟩, ⟨.fr, _⟩], e => simp [insG] at e
  | [⟨_, .tup _⟩, ⟨.fr, _⟩], e => simp [insG] at e
  | [⟨_, .dT _⟩, ⟨.fr, _⟩], e => simp [insG] at e
  | [⟨_, .dK _⟩, ⟨.fr, _⟩], e => simp [insG] at e
  | [⟨_, .scr _⟩, ⟨.fr, _⟩], e => simp [insG] at e
  | [⟨_, .any⟩, ⟨.fr, _⟩], e => simp [insG] at e
  | [⟨_, .exc _⟩, ⟨.fr, _⟩], e => simp [insG] at e
end
end DL
/-! What is walked; for, while, comprehensions; calls of defs; defs. -/
namespace DL
open PySem PySem.Spec L2

/-- the iterator J yields vs, as long as keep stands -/
structure Itd (K : PySem.W.Frag) (R H1 keep : Hp) (J : It) (ds : List D) : Prop where
  here : Same keep H1
  vals : ∃ vs, RpL K R vs ds ∧ ∀ H2, Same keep H2 → ∀ i, (∀ x, vs[i]? = some x → J.go i H2 ∧ ∀ y H3, J.yld i H2 y H3 → H3 = H2 ∧ y = x) ∧ (vs.length ≤ i → J.stop i H2)
def tI (K : PySem.W.Frag) (ca : Nat → Addr) (W : WX) (f : Ev → Res (Bool × List D)) : TI := fun σ H Rk => ∃ Hin Z s, Rel K Hin Z s σ H ∧ (f s).sat (fun p => ∀ J H1 keep, Same H H1 → Itd K (Rg Z s σ H1) H1 keep J p.2 → (p.1 = false → ∀ a, keep a ≠ none → ¬ IT H1 a → ¬ (Z a ∨ priv s σ a)) → Rk J H1) (Exq ca W σ H)
abbrev DI (X : Cx) (ca : Nat → Addr) (W : WX) (tg e : Expr) (f : Ev → Res (Bool × List D)) : Prop := PI X tg e (tI X.K ca W f)
theorem _root_.L2.PI.imp {X : Cx} {tg e : Expr} {t t' : TI} (h : PI X tg e t) (i : ∀ σ H Q, t' σ H Q → t σ H Q) : PI X tg e t' := ⟨fun pins s σ H Q I q => h.run pins s σ H Q I (i σ H Q q)⟩
section
variable {X : Cx} {ca : Nat → Addr} {W : WX} {tg a b c e : Expr} {es : List Expr} {fe : Ev → Res Rv} {fs : Ev → Res (List Rv)} {pos : Pos}
@[simp] def itL : Rv → Res (Bool × List D)
  | ⟨.ow, .lst ds⟩ => .ok (true, ds)
  | ⟨_, .lst ds⟩ => .ok (false, ds)
  | ⟨.sh, .tup ds⟩ => .ok (false, ds)
  | _ => .stuck
def iSeq (K : PySem.W.Frag) (tl : TE) : TI := fun σ H R => tl σ H fun x H1 => ∃ a, x = .ref a ∧ (((∃ xs, SqL K H1 a xs) ∧ R (Itl K a) H1) ∨ ((∃ xs, SqT K H1 a xs) ∧ R (Itt K a) H1))
theorem pi_seq {l : Expr} {tl : TE} (hl : PE X l tl) : PI X tg l (iSeq X.K tl) := by
  refine ⟨fun pins s σ H R I h => ?_⟩
  refine thn (hl.run pins s σ H _ I h) fun v s1 ⟨x, H1, I1, r1, q1⟩ => ?_
  obtain ⟨a, e, q⟩ := q1
  subst e
  cases r1
  rcases q with ⟨⟨xs, hq⟩, q⟩ | ⟨⟨xs, hq⟩, q⟩
  · obtain ⟨its, rv, p, hz⟩ := I1.list hq
    refine wpAny_pyIter_list p.isList ?_
    refine ⟨s1.heap.objs.size, [s1.heap.objs.size], _, _, H1, rfl, I1.kept (t' := s1.toks) fun b o e => Heap.get?_push_of_some _ e, turn_list a _, ⟨_, Heap.get?_push_size _ rfl, rfl, rfl⟩, fun b hb => ?_, q⟩
    have e : b = s1.heap.objs.size := by simpa using hb
    subst e
    exact I1.fpOk (Nat.le_refl _) (I1.hok.fresh (Nat.le_refl _))
  · obtain ⟨its, rv, p, hz⟩ := I1.tuple hq
    refine wpAny_pyIter_tuple (show s1.heap.IsTuple a its.toArray from p) ?_
    refine ⟨s1.heap.objs.size, [s1.heap.objs.size], _, _, H1, rfl, I1.kept (t' := s1.toks) fun b o e => Heap.get?_push_of_some _ e, turn_tuple a _, ⟨_, Heap.get?_push_size _ rfl, rfl, rfl⟩, fun b hb => ?_, q⟩
    have e : b = s1.heap.objs.size := by simpa using hb
    subst e
    exact I1.fpOk (Nat.le_refl _) (I1.hok.fresh (Nat.le_refl _))
@[simp] def fItL (fe : Ev → Res Rv) : Ev → Res (Bool × List D) := fun s => bnd (fe s) itL
theorem itd_list {K : PySem.W.Frag} {R H1 : Hp} {p : Addr} {vs : List V} {ds : List D} (hp : H1 p = some (.lst vs)) (r : RpL K R vs ds) : Itd K R H1 (fun a => if a = p then some (.lst vs) else none) (Itl K p) ds := by
  refine ⟨fun a o h => ?_, vs, r, fun H2 k i => ?_⟩
  · by_cases q : a = p
    · rw [if_pos q] at h; cases h; rw [q]; exact hp
    · rw [if_neg q] at h; cases h
  · have h2 : H2 p = some (.lst vs) := k p _ (if_pos rfl)
    refine ⟨fun x hx => ⟨⟨vs, x, SqL.of h2, hx⟩, fun y H3 hy => ⟨hy.1, ?_⟩⟩, fun hl => ⟨vs, SqL.of h2, hl⟩⟩
    have := hy.2 vs (SqL.of h2)
    rw [hx] at this
    exact (Option.some.inj this).symm
theorem itd_tup {K : PySem.W.Frag} {R H1 : Hp} {p : Addr} {vs : List V} {ds : List D} (hp : H1 p = some (.tup vs)) (r : RpL K R vs ds) : Itd K R H1 (fun a => if a = p then some (.tup vs) else none) (Itt K p) ds := by
  refine ⟨fun a o h => ?_, vs, r, fun H2 k i => ?_⟩
  · by_cases q : a = p
    · rw [if_pos q] at h; cases h; rw [q]; exact hp
    · rw [if_neg q] at h; cases h
  · have h2 : H2 p = some (.tup vs) := k p _ (if_pos rfl)
    refine ⟨fun x hx => ⟨⟨vs, x, SqT.of h2, hx⟩, fun y H3 hy => ⟨hy.1, ?_⟩⟩, fun hl => ⟨vs, SqT.of h2, hl⟩⟩
    have := hy.2 vs (SqT.of h2)
    rw [hx] at this
    exact (Option.some.inj this).symm
theorem di_list (h : DE X ca W e fe) : DI X ca W tg e (fItL fe) := (pi_seq h).imp fun σ H Q h => by
  obtain ⟨Hin, Z, s, R, h⟩ := h
  simp only [fItL, sat_bnd] at h
  refine tE_go R (sat_mono h (fun x h v H1 k1 R1 q1 => ?_) fun _ h => h)
  obtain ⟨kd, d⟩ := x
  cases d with
  | lst ds =>
    obtain ⟨p, vs, rfl, hp, r⟩ := q1.list rfl
    refine ⟨p, rfl, .inl ⟨⟨vs, SqL.of hp⟩, ?_⟩⟩
    cases kd with
    | ow => exact h _ H1 _ k1 (itd_list hp r) (fun z => by cases z)
    | sh =>
      refine h _ H1 _ k1 (itd_list hp r) (fun _ a ha nit hpr => ?_)
      by_cases qa : a = p
      · have q2 : Rp X.K (Rg Z s σ H1) (.ref p) (.lst ds) := q1
        cases q2 with
        | lst h1 _ => exact hide_lst h1 (fun _ z => nomatch z) (by rw [← qa]; exact hpr)
      · exact ha (if_neg qa)
    | fr =>
      refine h _ H1 _ k1 (itd_list hp r) (fun _ a ha nit hpr => ?_)
      by_cases qa : a = p
      · obtain ⟨p', e1, e2, _⟩ := q1
        cases e1
        rw [qa] at hpr
        exact hpr.elim (fun z => R.zin _ z e2) fun z => (R.privH z).1 e2
      · exact ha (if_neg qa)
  | tup ds =>
    cases kd with
    | ow => exact h.elim
    | fr => exact h.elim
    | sh =>
      obtain ⟨p, vs, rfl, hp, r⟩ := q1.tuple rfl
      refine ⟨p, rfl, .inr ⟨⟨vs, SqT.of hp⟩, h _ H1 _ k1 (itd_tup hp r) (fun _ a ha nit hpr => ?_)⟩⟩
      by_cases qa : a = p
      · have q2 : Rp X.K (Rg Z s σ H1) (.ref p) (.tup ds) := q1
        cases q2 with
        | tup h1 _ => exact (hide_some h1).1.elim (fun z => z (by rw [← qa]; exact hpr)) (fun z => nit (by rw [qa]; exact z))
      · exact ha (if_neg qa)
  | _ => cases kd <;> exact h.elim
/-- range -/
def rngD (lo : Int) (n : Nat) : List D := (List.range n).map fun k : Nat => D.int (lo + (k : Int))
def rngC (lo c : Int) (n : Nat) : List D := (List.range n).map fun k : Nat => D.int (lo + (k : Int) * c)
@[simp] def rng1 : List Rv → Res (Bool × List D)
  | [⟨_, .int j⟩] => if -(2 ^ 62) ≤ j ∧ j < 2 ^ 62 then .ok (false, rngD 0 j.toNat) else .stuck
  | _ => .stuck
@[simp] def rng2 : List Rv → Res (Bool × List D)
  | [⟨_, .int i⟩, ⟨_, .int j⟩] => if -(2 ^ 62) ≤ i ∧ i < 2 ^ 62 ∧ -(2 ^ 62) ≤ j ∧ j < 2 ^ 62 then .ok (false, rngD i (j - i).toNat) else .stuck
  | _ => .stuck
theorem itd_range {K : PySem.W.Frag} {R H1 : Hp} (lo : Int) (n : Nat) : Itd K R H1 (fun _ => none) (Itr lo n) (rngD lo n) := by
  refine ⟨fun a o h => (nomatch h), (List.range n).map (fun k : Nat => V.int (lo + (k : Int))), ?_, fun H2 k i => ⟨fun x hx => ?_, fun hl => ?_⟩⟩
  · have e1 : ((List.range n).map fun k : Nat => V.int (lo + (k : Int))) = ((List.range n).map fun k : Nat => lo + (k : Int)).map V.int := by rw [List.map_map]; rfl
    have e2 : rngD lo n = ((List.range n).map fun k : Nat => lo + (k : Int)).map D.int := by rw [List.map_map]; rfl
    rw [e1, e2]
    exact RpL.ints
  · rw [List.getElem?_map, Option.map_eq_some_iff] at hx
    obtain ⟨j, hj, rfl⟩ := hx
    by_cases q : i < n
    · rw [List.getElem?_range q] at hj
      cases hj
      exact ⟨q, fun y H3 hy => hy⟩
    · rw [List.getElem?_eq_none (by simpa using q)] at hj; cases hj
  · exact (show n ≤ i by simpa using hl)
theorem itd_rangeC {K : PySem.W.Frag} {R H1 : Hp} (lo c : Int) (n : Nat) : Itd K R H1 (fun _ => none) (Itc lo c n) (rngC lo c n) := by
  refine ⟨fun a o h => (nomatch h), (List.range n).map (fun k : Nat => V.int (lo + (k : Int) * c)), ?_, fun H2 k i => ⟨fun x hx => ?_, fun hl => ?_⟩⟩
  · have e1 : ((List.range n).map fun k : Nat => V.int (lo + (k : Int) * c)) = ((List.range n).map fun k : Nat => lo + (k : Int) * c).map V.int := by rw [List.map_map]; rfl
    have e2 : rngC lo c n = ((List.range n).map fun k : Nat => lo + (k : Int) * c).map D.int := by rw [List.map_map]; rfl
    rw [e1, e2]
    exact RpL.ints
  · rw [List.getElem?_map, Option.map_eq_some_iff] at hx
    obtain ⟨j, hj, rfl⟩ := hx
    by_cases q : i < n
    · rw [List.getElem?_range q] at hj
      cases hj
      exact ⟨q, fun y H3 hy => hy⟩
    · rw [List.getElem?_eq_none (by simpa using q)] at hj; cases hj
  · exact (show n ≤ i by simpa using hl)
@[simp] def fRng (g : List Rv → Res (Bool × List D)) (fs : Ev → Res (List Rv)) : Ev → Res (Bool × List D) := fun s => bnd (fs s) g
theorem di_range1 {p : Pos} (hm : X.mg "range" = none) (ha : DA X ca W [a] fs) (hg : Gl X "range" := by rfl) (hs : starEach [a] X.env = [(false, eval a X.env)] := by rfl) : DI X ca W tg (.Call (.Name "range" p) [a] [] pos) (fRng rng1 fs) := (pi_range1 hg hm ha hs).imp fun σ H Q h => by
  obtain ⟨Hin, Z, s, R, h⟩ := h
  simp only [fRng, sat_bnd] at h
  refine tA_go R (sat_mono h (fun rs h vs H1 k1 R1 q1 => ?_) fun _ h => h)
  match rs, h, q1 with
  | [⟨k, .int j⟩], h, q1 =>
    obtain ⟨v, rfl, q2⟩ := q1.one
    obtain ⟨hb, h⟩ := sat_if h
    exact ⟨j, by rw [q2.int rfl], hb.1, hb.2, h _ H1 _ k1 (itd_range 0 j.toNat) fun _ a ha => absurd rfl ha⟩
  | [], h, _ => exact h.elim
  | _ :: _ :: _, h, _ => simp [rng1] at h
  | [⟨_, .non⟩], h, _ => exact h.elim
  | [⟨_, .bl _⟩], h, _ => exact h.elim
  | [⟨_, .str _⟩], h, _ => exact h.elim
  | [⟨_, .lst _⟩], h, _ => exact h.elim
  | [⟨_, .tup _⟩], h, _ => exact h.elim
  | [⟨_, .dT _⟩], h, _ => exact h.elim
  | [⟨_, .dK _⟩], h, _ => exact h.elim
  | [⟨_, .scr _⟩], h, _ => exact h.elim
  | [⟨_, .any⟩], h, _ => exact h.elim
  | [⟨_, .exc _⟩], h, _ => exact h.elim
theorem rng2_sat {rs : List Rv} {p : Bool × List D → Prop} {q : Nat → Prop} (h : (rng2 rs).sat p q) : ∃ k1 k2 i j, rs = [⟨k1, .int i⟩, ⟨k2, .int j⟩] ∧ (-(2 ^ 62) ≤ i ∧ i < 2 ^ 62 ∧ -(2 ^ 62) ≤ j ∧ j < 2 ^ 62) ∧ p (false, rngD i (j - i).toNat) := by
  unfold rng2 at h
  split at h
  · rename_i k1 i k2 j
    obtain ⟨hb, h⟩ := sat_if h
    exact ⟨k1, k2, i, j, rfl, hb, h⟩
  · exact h.elim
theorem di_range2 {p : Pos} (hm : X.mg "range" = none) (ha : DA X ca W [a, b] fs) (hg : Gl X "range" := by rfl) (hs : starEach [a, b] X.env = [(false, eval a X.env), (false, eval b X.env)] := by rfl) (hs2 : starEach [b] X.env = [(false, eval b X.env)] := by rfl) : DI X ca W tg (.Call (.Name "range" p) [a, b] [] pos) (fRng rng2 fs) := (pi_range2 hg hm ha hs hs2).imp fun σ H Q h => by
  obtain ⟨Hin, Z, s, R, h⟩ := h
  simp only [fRng, sat_bnd] at h
  refine tA_go R (sat_mono h (fun rs h vs H1 k1 R1 q1 => ?_) fun _ h => h)
  obtain ⟨ka, kb, i, j, rfl, hb, h⟩ := rng2_sat h
  obtain ⟨v, w, rfl, q2, q3⟩ := q1.two
  exact ⟨i, j, by rw [q2.int rfl, q3.int rfl], hb, h _ H1 _ k1 (itd_range i (j - i).toNat) fun _ a ha => absurd rfl ha⟩
/-- range with a step: the number of turns -/
@[simp] def rng3 : List Rv → Res (Bool × List D)
  | [⟨_, .int i⟩, ⟨_, .int j⟩, ⟨_, .int c⟩] => if c ≠ 0 ∧ c.natAbs < 1073741824 ∧ Builtin.Range.small i j c = true ∧ 0 ≤ Builtin.Range.rangeSize i j c then .ok (false, rngC i c (Builtin.Range.rangeSize i j c).toNat) else .stuck
  | _ => .stuck
theorem rng3_sat {rs : List Rv} {p : Bool × List D → Prop} {q : Nat → Prop} (h : (rng3 rs).sat p q) : ∃ k1 k2 k3 i j c, rs = [⟨k1, .int i⟩, ⟨k2, .int j⟩, ⟨k3, .int c⟩] ∧ (c ≠ 0 ∧ c.natAbs < 1073741824 ∧ Builtin.Range.small i j c = true ∧ 0 ≤ Builtin.Range.rangeSize i j c) ∧ p (false, rngC i c (Builtin.Range.rangeSize i j c).toNat) := by
  unfold rng3 at h
  split at h
  · rename_i k1 i k2 j k3 c
    obtain ⟨hb, h⟩ := sat_if h
    exact ⟨k1, k2, k3, i, j, c, rfl, hb, h⟩
  · exact h.elim
theorem di_range3 {p : Pos} (hm : X.mg "range" = none) (ha : DA X ca W [a, b, c] fs) (hg : Gl X "range" := by rfl) (hs : starEach [a, b, c] X.env = (false, eval a X.env) :: starEach [b, c] X.env := by rfl) (hpl : (backTo pos (starEach [b, c] X.env)).any (·.1) = false := by rfl) : DI X ca W tg (.Call (.Name "range" p) [a, b, c] [] pos) (fRng rng3 fs) := (pi_range3 hg hm ha hs hpl).imp fun σ H Q h => by
  obtain ⟨Hin, Z, s, R, h⟩ := h
  simp only [fRng, sat_bnd] at h
  refine tA_go R (sat_mono h (fun rs h vs H1 k1 R1 q1 => ?_) fun _ h => h)
  obtain ⟨ka, kb, kc, i, j, c, rfl, hb, h⟩ := rng3_sat h
  cases q1 with
  | cons qa t =>
    obtain ⟨v, w, rfl, q2, q3⟩ := t.two
    exact ⟨i, j, c, (Builtin.Range.rangeSize i j c).toNat, by rw [qa.int rfl, q2.int rfl, q3.int rfl], ⟨hb.1, hb.2.1, hb.2.2.1, (Int.toNat_of_nonneg hb.2.2.2).symm⟩, h _ H1 _ k1 (itd_rangeC i c _) fun _ a ha => absurd rfl ha⟩

/-! ### for -/
@[simp] def loopF (g : Ev → Out) (i : Nat) : List D → Ev → Out
  | [], s => .nx s
  | d :: ds, s => match g (st s i (.sh d)) with
    | .nx s' => loopF g i ds s'
    | .ct s' => loopF g i ds s'
    | .bk s' => .nx s'
    | o => o
@[simp] def fFor (fi : Ev → Res (Bool × List D)) (i : Nat) (g : Ev → Out) : Ev → Out := fun s => bndR (fi s) fun p => if p.1 = false then loopF g i p.2 s else .stuck
theorem satS_down {K : PySem.W.Frag} {Hin Hin' : Hp} {Z : Addr → Prop} {Dn : Ends} (e : Same Hin Hin') : ∀ {o : Out}, SatS K ca W Hin Z Dn o → SatS K ca W Hin' Z Dn o := fun {o} h => by
  cases o with
  | nx s => exact fun σ' H' R => h σ' H' (R.down e)
  | bk s => exact fun σ' H' R => h σ' H' (R.down e)
  | ct s => exact fun σ' H' R => h σ' H' (R.down e)
  | exc c => exact fun σ' H' k => h σ' H' (e.trans k)
  | stuck => exact h
  | rt r =>
    obtain ⟨k, d⟩ := r
    cases k with
    | sh => exact fun v H' k q => h v H' (e.trans k) q
    | fr => exact fun v H' k q => h v H' (e.trans k) (by obtain ⟨p, h1, h2, h3⟩ := q; exact ⟨p, h1, e.free h2, h3⟩)
    | ow => exact fun v H' k q => h v H' (e.trans k) (RetX.imp q e fun _ y => y)
theorem ds_for (i : Nat) {x : Str} {tpos : Pos} {iter : Expr} {body : List Stmt} {fi : Ev → Res (Bool × List D)} {g : Ev → Out} (hi : DI X ca W (.Name x tpos) iter fi) (hb : DSs X ca W body g) (hp : PassesOwn (model X.prog X.w) X.A X.env X.xe) (hN : X.N.Nodup)
    (hx : X.N[i]? = some x := by rfl) (hl : Loc X.env.scope x := by first | exact Or.inl rfl | exact Or.inr rfl) (hc : X.calm = true := by rfl) (hf : X.fn x = true ∨ X.env.scope.names.lookup x = some .local := by first | exact .inl rfl | exact .inr rfl | assumption)
    (hs : ∀ x, foldedSetIterable iter X.env x = pure x := by intro _; rfl) : DS X ca W (.For (.Name x tpos) iter body [] pos) (fFor fi i g) :=
  (ps_for hp hc hi (pg_name (i := i) hN hx hl hf) hb hs).imp fun Dn σ H h => by
    obtain ⟨Hin, Z, s, R, h⟩ := h
    refine ⟨Hin, Z, s, R, sat_mono (satS_bnd R h) (fun p h J H1 keep k1 it hk => ?_) fun _ h => h⟩
    obtain ⟨ow, ds⟩ := p
    cases ow with
    | true => exact h.elim
    | false =>
      replace h : SatS X.K ca W Hin Z Dn (loopF g i ds s) := h
      replace hk := hk rfl
      have R1 := R.mono k1
      -- the ground within the loop
      have R2 := R1.up
      have e2 := R1.upS
      have h2 := satS_down e2 h
      obtain ⟨vs, rv, hv⟩ := it.vals
      have kb : Same keep (hide (fun a => priv s σ a ∨ (Z a ∧ Hin a = none)) H1) := fun a o q => by
        by_cases y : IT H1 a
        · rw [hide_it y]; exact it.here _ _ q
        · rw [hide_no (fun z => hk a (by rw [q]; simp) y (z.elim .inr fun z => .inl z.1))]
          exact it.here _ _ q
      have rv2 : ∀ {H2 : Hp} {s2 : Ev} {σ2 : L2.St}, Rel X.K (hide (fun a => priv s σ a ∨ (Z a ∧ Hin a = none)) H1) Z s2 σ2 H2 → RpL X.K (Rg Z s2 σ2 H2) vs ds := fun {H2 s2 σ2} R' => rv.mono fun a o q => by
        obtain ⟨n, q1⟩ := hide_some q
        by_cases y : IT H1 a
        · have q2 : hide (fun a => priv s σ a ∨ (Z a ∧ Hin a = none)) H1 a = some o := by rw [hide_it y]; exact q1
          have q3 := R'.base _ _ q2
          obtain ⟨w, hw⟩ := y
          rw [q1] at hw
          cases hw
          exact (hide_it ⟨w, q3⟩).trans q3
        have n := n.resolve_right y
        have q2 : hide (fun a => priv s σ a ∨ (Z a ∧ Hin a = none)) H1 a = some o := by rw [hide_no (fun z => n (z.elim .inr fun z => .inl z.1))]; exact q1
        have n2 : ¬ (Z a ∨ priv s2 σ2 a) := fun z => z.elim (fun z => n (.inl z)) fun z => by
          have := (R'.privH z).2.2
          rw [this] at q2; cases q2
        exact (hide_no n2).trans (R'.base _ _ q2)
      have hlen : vs.length = ds.length := rv.length
      refine ⟨fun j m σ' H' => m = ds.length - j ∧ j ≤ ds.length ∧ ∃ s', Rel X.K (hide (fun a => priv s σ a ∨ (Z a ∧ Hin a = none)) H1) Z s' σ' H' ∧ SatS X.K ca W (hide (fun a => priv s σ a ∨ (Z a ∧ Hin a = none)) H1) Z Dn (loopF g i (ds.drop j) s'), ⟨ds.length, by simp, Nat.zero_le _, s, R2, h2⟩, ?_⟩
      rintro j m σ' H' ⟨rfl, hj, s', R', hs'⟩
      have hv' := hv H' (kb.trans R'.base) j
      by_cases hlt : j < ds.length
      · obtain ⟨d, hd⟩ : ∃ d, ds[j]? = some d := ⟨ds[j], by simp [hlt]⟩
        obtain ⟨v, hvj, rd⟩ := (rv2 R').get hd
        obtain ⟨g1, g2⟩ := hv'.1 v hvj
        have ed : ds.drop j = d :: ds.drop (j + 1) := by
          rw [List.drop_eq_getElem_cons hlt]
          rw [List.getElem?_eq_getElem hlt] at hd
          rw [Option.some.inj hd]
        rw [ed] at hs'
        refine .inr ⟨g1, fun σ2 H2 => ∃ s2, Rel X.K (hide (fun a => priv s σ a ∨ (Z a ∧ Hin a = none)) H1) Z s2 σ2 H2 ∧ SatS X.K ca W (hide (fun a => priv s σ a ∨ (Z a ∧ Hin a = none)) H1) Z Dn (loopF g i (ds.drop (j + 1)) s2), fun σ2 H2 ⟨s2, a1, a2⟩ => ⟨ds.length - (j + 1), by omega, rfl, hlt, s2, a1, a2⟩, fun y H3 hy => ?_⟩
        obtain ⟨rfl, rfl⟩ := g2 y H3 hy
        refine ⟨hide (fun a => priv s σ a ∨ (Z a ∧ Hin a = none)) H1, Z, st s' i (.sh d), R'.setSh rd i, ?_⟩
        simp only [loopF] at hs'
        cases eg : g (st s' i (.sh d)) with
        | nx s2 => rw [eg] at hs'; exact fun σ2 H2 a => ⟨s2, a, hs'⟩
        | ct s2 => rw [eg] at hs'; exact fun σ2 H2 a => ⟨s2, a, hs'⟩
        | bk s2 => rw [eg] at hs'; exact hs'
        | rt r => rw [eg] at hs'; exact hs'
        | exc c => rw [eg] at hs'; exact hs'
        | stuck => rw [eg] at hs'; exact hs'
      · have e : j = ds.length := by omega
        subst e
        rw [List.drop_length] at hs'
        exact .inl ⟨hv'.2 (by omega), hs' σ' H' R'⟩

/-! ### while -/
@[simp] def whF (t : Ev → Res Bool) (g : Ev → Out) : Nat → Ev → Out
  | 0, _ => .stuck
  | n + 1, s => bndR (t s) fun b => if b then (match g s with
    | .nx s' => whF t g n s'
    | .ct s' => whF t g n s'
    | .bk s' => .nx s'
    | o => o) else .nx s
/-- more turns than any loop here takes -/
def many : Nat := 100000
def fWhile (t : Ev → Res Bool) (g : Ev → Out) : Ev → Out := fun s => whF t g many s
theorem ds_while {body : List Stmt} {t : Ev → Res Bool} {g : Ev → Out} (hc : DT X ca W c t) (hb : DSs X ca W body g) (hp : PassesOwn (model X.prog X.w) X.A X.env X.xe) : DS X ca W (.While c body [] pos) (fWhile t g) :=
  (ps_while hp hc hb).imp fun Dn σ H h => by
    obtain ⟨Hin, Z, s, R, h⟩ := h
    refine ⟨fun m σ' H' => ∃ s', Rel X.K Hin Z s' σ' H' ∧ SatS X.K ca W Hin Z Dn (whF t g m s'), ⟨many, s, R, h⟩, ?_⟩
    rintro m σ' H' ⟨s', R', hs'⟩
    cases m with
    | zero => exact hs'.elim
    | succ m =>
      refine ⟨Hin, Z, s', R', sat_mono (satS_bnd R' hs') (fun b h H1 k1 => ?_) fun _ h => h⟩
      cases b with
      | false => exact iteF (h σ' H1 (R'.mono k1))
      | true =>
        refine iteT ⟨fun σ2 H2 => ∃ s2, Rel X.K Hin Z s2 σ2 H2 ∧ SatS X.K ca W Hin Z Dn (whF t g m s2), fun σ2 H2 ⟨s2, a1, a2⟩ => ⟨m, Nat.lt_succ_self m, s2, a1, a2⟩, ?_⟩
        refine ⟨Hin, Z, s', R'.mono k1, ?_⟩
        simp only [if_true] at h
        cases eg : g s' with
        | nx s2 => rw [eg] at h; exact fun σ2 H2 a => ⟨s2, a, h⟩
        | ct s2 => rw [eg] at h; exact fun σ2 H2 a => ⟨s2, a, h⟩
        | bk s2 => rw [eg] at h; exact h
        | rt r => rw [eg] at h; exact h
        | exc c => rw [eg] at h; exact h
        | stuck => rw [eg] at h; exact h

/-! ### comprehensions -/
def nox {α : Type} : Res α → Res α
  | .exc _ => .stuck
  | r => r
@[simp] theorem nox_ok {α : Type} {a : α} : nox (.ok a) = .ok a := rfl
@[simp] theorem nox_exc {α : Type} {c : Nat} : nox (.exc c : Res α) = .stuck := rfl
@[simp] theorem nox_stuck {α : Type} : nox (.stuck : Res α) = .stuck := rfl
@[simp] theorem nox_ite {α : Type} {c : Prop} [Decidable c] {x y : Res α} : nox (if c then x else y) = if c then nox x else nox y := by split <;> rfl
theorem sat_nox {α : Type} {r : Res α} {p : α → Prop} {q q' : Nat → Prop} (h : (nox r).sat p q) : r.sat p q' := by
  cases r with
  | ok a => exact h
  | exc c => exact h.elim
  | stuck => exact h
def shOne : Rv → Res D
  | ⟨.ow, _⟩ => .stuck
  | ⟨_, d⟩ => .ok d
@[simp] theorem shOne_sh {d : D} : shOne ⟨.sh, d⟩ = .ok d := rfl
@[simp] theorem shOne_fr {d : D} : shOne ⟨.fr, d⟩ = .ok d := rfl
@[simp] theorem shOne_ow {d : D} : shOne ⟨.ow, d⟩ = .stuck := rfl
@[simp] def lcF (ft : Ev → Res Bool) (fe : Ev → Res Rv) (i : Nat) (s : Ev) : List D → Res (List D)
  | [] => .ok []
  | d :: ds => bnd (nox (ft (st s i (.sh d)))) fun b => if b then bnd (nox (fe (st s i (.sh d)))) fun r => bnd (shOne r) fun e => bnd (lcF ft fe i s ds) fun es => .ok (e :: es) else lcF ft fe i s ds
@[simp] def fLc (fi : Ev → Res (Bool × List D)) (i : Nat) (ft : Ev → Res Bool) (fe : Ev → Res Rv) : Ev → Res Rv := fun s => bnd (fi s) fun p => if okW i s = true then bnd (lcF ft fe i (st s i .un) p.2) fun ds => if ds.length ≤ lim then .ok ⟨.fr, .lst ds⟩ else .stuck else .stuck
abbrev W0 : WX := fun _ _ _ _ => False
theorem lcF_noexc (ft : Ev → Res Bool) (fe : Ev → Res Rv) (i : Nat) (s : Ev) : ∀ (ds : List D) (c : Nat), lcF ft fe i s ds ≠ .exc c
  | [], c => by simp
  | d :: ds, c => by
    have ih := lcF_noexc ft fe i s ds
    simp only [lcF]
    cases ft (st s i (.sh d)) with
    | exc c' => simp
    | stuck => simp
    | ok b =>
      cases b with
      | false => simpa using ih c
      | true =>
        simp only [nox, bnd, if_true]
        cases fe (st s i (.sh d)) with
        | exc c' => simp
        | stuck => simp
        | ok r =>
          obtain ⟨k, e⟩ := r
          cases k <;> simp only [nox, bnd, shOne] <;> first
            | (intro h; cases h; done)
            | (cases e2 : lcF ft fe i s ds with
               | ok es => simp
               | exc c' => exact absurd e2 (ih c')
               | stuck => simp)
theorem tLc_of {fi : Ev → Res (Bool × List D)} {i : Nat} {ft : Ev → Res Bool} {fe : Ev → Res Rv} {K : PySem.W.Frag} {σ : L2.St} {H : Hp} {Q : VK} (h : tE K ca W (fLc fi i ft fe) σ H Q) : tLc (tI K ca W fi) (gName i) (tT K ca W0 ft) (tE K ca W0 fe) [i] σ H Q := by
  obtain ⟨Hin, Z, s, R, h⟩ := h
  simp only [fLc, sat_bnd] at h
  refine ⟨Hin, Z, s, R, sat_mono h (fun p h J H1 keep k1 it hk Dd hD => ?_) fun _ h => h⟩
  obtain ⟨ow, ds⟩ := p
  obtain ⟨hw, h⟩ := sat_if h
  rw [sat_bnd] at h
  obtain ⟨vs, rv, hv⟩ := it.vals
  have hlen : vs.length = ds.length := rv.length
  have R1 := R.mono k1
  cases eo : lcF ft fe i (st s i .un) ds with
  | exc c => exact absurd eo (lcF_noexc _ _ _ _ _ _)
  | stuck => rw [eo] at h; exact h.elim
  | ok out =>
    rw [eo] at h
    obtain ⟨hl, h⟩ := sat_if (show ((if out.length ≤ lim then Res.ok (Rv.mk .fr (.lst out)) else .stuck).sat _ _) from h)
    have h : ∀ v H', Same H H' → ResOk K Z s σ H H' v ⟨.fr, .lst out⟩ → Q v H' := h
    refine ⟨fun j m H' => m = ds.length - j ∧ j ≤ ds.length ∧ ∃ acc done rest, H' Dd = some (.lst acc) ∧ Same H1 H' ∧ RpL K (hide (fun a => (Z a ∨ priv s σ a) ∨ a = Dd) H') acc done ∧ lcF ft fe i (st s i .un) (ds.drop j) = .ok rest ∧ done ++ rest = out,
      ⟨ds.length, by simp, Nat.zero_le _, [], [], out, upd_same, same_new hD, .nil, eo, rfl⟩, ?_⟩
    rintro j m H' ⟨rfl, hj, acc, done, rest, hacc, kH, rd, er, eout⟩
    have hv' := hv H' (it.here.trans kH) j
    by_cases hlt : j < ds.length
    · obtain ⟨d, hd⟩ : ∃ d, ds[j]? = some d := ⟨ds[j], by simp [hlt]⟩
      obtain ⟨v, hvj, rdv⟩ := rv.get hd
      obtain ⟨g1, g2⟩ := hv'.1 v hvj
      have ed : ds.drop j = d :: ds.drop (j + 1) := by
        rw [List.drop_eq_getElem_cons hlt]
        rw [List.getElem?_eq_getElem hlt] at hd
        rw [Option.some.inj hd]
      rw [ed] at er
      refine .inr ⟨g1, fun H'' => ∃ acc done rest, H'' Dd = some (.lst acc) ∧ Same H1 H'' ∧ RpL K (hide (fun a => (Z a ∨ priv s σ a) ∨ a = Dd) H'') acc done ∧ lcF ft fe i (st s i .un) (ds.drop (j + 1)) = .ok rest ∧ done ++ rest = out, fun H'' q => ⟨ds.length - (j + 1), by omega, rfl, hlt, q⟩, fun y H3 hy => ?_⟩
      obtain ⟨rfl, rfl⟩ := g2 y H3 hy
      -- the inner state
      have RD : Rel K Hin (fun a => Z a ∨ a = Dd) s σ H3 := R1.hideMore' kH hD (by rw [hacc]; simp)
      obtain ⟨RW, pw⟩ := RD.wipe hw
      have rdv2 : Rp K (Rg (fun a => Z a ∨ a = Dd) (st s i .un) (wipe σ [i]) H3) y d := rdv.mono (hide_mono kH fun a na _ q => by
        rcases q with (q | q) | q
        · exact .inl q
        · rw [q] at na; exact absurd hD na
        · exact .inr ((pw a).mp q))
      have RS := RW.setSh rdv2 i
      have est : st (st s i .un) i (.sh d) = st s i (.sh d) := by simp only [st_eq, List.set_set]
      have ps : ∀ a, priv s σ a → priv (st (st s i .un) i (.sh d)) ((wipe σ [i]).set i (some y)) a := fun a q => by
        obtain ⟨jj, f, h1, h2⟩ := (pw a).mpr q
        have ne : i ≠ jj := fun z => by
          subst z
          rw [st_eq, List.getElem?_set, if_pos rfl] at h1
          split at h1 <;> cases h1
        refine ⟨jj, f, ?_, ?_⟩
        · rw [st_eq, List.getElem?_set, if_neg ne]; exact h1
        · rw [List.getElem?_set, if_neg ne]; exact h2
      show wipe ((wipe σ [i]).set i (some y)) [i] = wipe σ [i] ∧ _
      refine ⟨by show ((σ.set i none).set i (some y)).set i none = σ.set i none; simp only [List.set_set], ?_⟩
      simp only [lcF] at er
      refine tT_go RS ?_
      cases et : ft (st (st s i .un) i (.sh d)) with
      | exc c => rw [et] at er; cases er
      | stuck => rw [et] at er; cases er
      | ok b =>
        rw [et] at er
        intro H4 k4 R4
        cases b with
        | false =>
          refine iteF ?_
          simp only [nox, bnd, Bool.false_eq_true, if_false] at er
          exact ⟨acc, done, rest, k4 _ _ hacc, kH.trans k4, rd.mono (hide_mono k4 fun _ _ _ q => q), er, eout⟩
        | true =>
          refine iteT (tE_go R4 ?_)
          simp only [nox, bnd, if_true] at er
          cases ee : fe (st (st s i .un) i (.sh d)) with
          | exc c => rw [ee] at er; cases er
          | stuck => rw [ee] at er; cases er
          | ok r =>
            rw [ee] at er
            intro w H5 k5 R5 q5
            simp only [nox, bnd] at er
            obtain ⟨kd, dd⟩ := r
            have fin : kd ≠ .ow → bnd (lcF ft fe i (st s i .un) (ds.drop (j + 1))) (fun es => Res.ok (dd :: es)) = .ok rest →
                ∃ acc, H5 Dd = some (.lst acc) ∧ acc.length < sizeLine ∧ ∃ acc' done rest, (upd H5 Dd (.lst (acc ++ [w]))) Dd = some (.lst acc') ∧ Same H1 (upd H5 Dd (.lst (acc ++ [w]))) ∧ RpL K (hide (fun a => (Z a ∨ priv s σ a) ∨ a = Dd) (upd H5 Dd (.lst (acc ++ [w])))) acc' done ∧ lcF ft fe i (st s i .un) (ds.drop (j + 1)) = .ok rest ∧ done ++ rest = out := fun hk2 er => by
              cases er2 : lcF ft fe i (st s i .un) (ds.drop (j + 1)) with
              | exc c => rw [er2] at er; cases er
              | stuck => rw [er2] at er; cases er
              | ok rest' =>
                rw [er2] at er
                simp only [bnd, Res.ok.injEq] at er
                subst er
                have hsh := q5.shared hk2 R4 k5
                have hl2 : acc.length < lim := by
                  have := congrArg List.length eout
                  rw [List.length_append, List.length_cons, ← rd.length] at this
                  omega
                have up : Same (hide (fun a => (Z a ∨ priv s σ a) ∨ a = Dd) H5) (hide (fun a => (Z a ∨ priv s σ a) ∨ a = Dd) (upd H5 Dd (.lst (acc ++ [w])))) := hide_upd (not_it (k5 _ _ (k4 _ _ hacc)) fun _ z => nomatch z) (.inr rfl) fun _ y => y
                refine ⟨acc, k5 _ _ (k4 _ _ hacc), lt_line hl2, acc ++ [w], done ++ [dd], rest', upd_same, fun a o q => ?_, ?_, rfl, by rw [List.append_assoc]; exact eout⟩
                · rw [upd_ne (ne_of_none q hD)]
                  exact k5 _ _ (k4 _ _ (kH _ _ q))
                · refine ((rd.mono (hide_mono (k4.trans k5) fun _ _ _ q => q)).app (.cons (hsh.mono ?_) .nil)).mono up
                  refine hide_mono (Same.refl _) fun a _ _ q => ?_
                  rcases q with (q | q) | q
                  · exact .inl (.inl q)
                  · exact .inr (ps a q)
                  · exact .inl (.inr q)
            cases kd with
            | ow => cases er
            | sh => exact fin (by simp) er
            | fr => exact fin (by simp) er
    · have e : j = ds.length := by omega
      subst e
      rw [List.drop_length] at er
      simp only [lcF, Res.ok.injEq] at er
      subst er
      rw [List.append_nil] at eout
      subst eout
      refine .inl ⟨hv'.2 (by omega), h _ H' (k1.trans kH) ⟨Dd, rfl, k1.free hD, acc, hacc, rd⟩⟩
theorem de_lc (i : Nat) {x : Str} {tpos : Pos} {elt iter : Expr} {ifs : List Expr} {scope : Scope} {fi : Ev → Res (Bool × List D)} {ft : Ev → Res Bool} {fe : Ev → Res Rv} (hN : X.N.Nodup) (hi : DI X ca W (.Name x tpos) iter fi) (ok : blkC X.N X.env.scope scope [(x, i)] = true)
    (hg : ∀ (s : Shared) (H : Hp) (C : Addr) (cl : List (Str × Addr)) (fp : List Addr), PG (X.blk s H scope (compEnvC scope cl C X.env) fp) (.Name x tpos) (gName i)) (ht : ∀ (s : Shared) (H : Hp) (C : Addr) (cl : List (Str × Addr)) (fp : List Addr), PTs (X.blk s H scope (compEnvC scope cl C X.env) fp) ifs (tT X.K ca W0 ft))
    (he : ∀ (s : Shared) (H : Hp) (C : Addr) (cl : List (Str × Addr)) (fp : List Addr), DE (X.blk s H scope (compEnvC scope cl C X.env) fp) ca W0 elt fe) (hc : X.calm = true := by rfl) (hs : ∀ x, foldedSetIterable iter X.env x = pure x := by intro _; rfl) :
    DE X ca W (.ListComp elt [⟨.Name x tpos, iter, ifs, 0⟩] scope pos) (fLc fi i ft fe) :=
  (pe_lc (own := [(x, i)]) hc hN hi (blkOk_by ok) hg ht he hs).imp fun σ H Q h => tLc_of h
theorem ds_setLc (j : Nat) (i : Nat) {y : Str} {py spos : Pos} {x : Str} {tpos : Pos} {elt iter : Expr} {ifs : List Expr} {scope : Scope} {fi : Ev → Res (Bool × List D)} {ft : Ev → Res Bool} {fe : Ev → Res Rv} (hN : X.N.Nodup) (hi : DI X ca W (.Name x tpos) iter fi) (ok : blkC X.N X.env.scope scope [(x, i)] = true)
    (hg : ∀ (s : Shared) (H : Hp) (C : Addr) (cl : List (Str × Addr)) (fp : List Addr), PG (X.blk s H scope (compEnvC scope cl C X.env) fp) (.Name x tpos) (gName i)) (ht : ∀ (s : Shared) (H : Hp) (C : Addr) (cl : List (Str × Addr)) (fp : List Addr), PTs (X.blk s H scope (compEnvC scope cl C X.env) fp) ifs (tT X.K ca W0 ft))
    (he : ∀ (s : Shared) (H : Hp) (C : Addr) (cl : List (Str × Addr)) (fp : List Addr), DE (X.blk s H scope (compEnvC scope cl C X.env) fp) ca W0 elt fe)
    (hsw : swapsWith (.ListComp elt [⟨.Name x tpos, iter, ifs, 0⟩] scope pos) (some (.Name y py)) spos.line X.env = pure true) (hy : X.N[j]? = some y := by rfl) (hyl : X.env.scope.names.lookup y = some .local := by rfl) (hc : X.calm = true := by rfl) (hs : ∀ x, foldedSetIterable iter X.env x = pure x := by intro _; rfl) :
    DS X ca W (.Assign [.Name y py] (.ListComp elt [⟨.Name x tpos, iter, ifs, 0⟩] scope pos) spos) (fSet j (fLc fi i ft fe)) :=
  (ps_setLc (own := [(x, i)]) hc hN hy hyl hsw hi (blkOk_by ok) hg ht he hs).imp fun Dn σ H h => tAsg_of (fun σ H Q h => tLc_of h) h
theorem dts_nil {X : Cx} : PTs X [] (tT X.K ca W (fun _ => .ok true)) := ⟨fun pins s σ H Q I h => pts_nil.run pins s σ H Q I (by
  obtain ⟨Hin, Z, s, R, h⟩ := h
  exact h H (Same.refl _))⟩
theorem dts_one {X : Cx} {t : Ev → Res Bool} (h : DT X ca W c t) : PTs X [c] (tT X.K ca W t) := pts_one h

/-! ### calls of defs -/
/-- a def computes F: n parameters -/
def spF (K : PySem.W.Frag) (ca : Nat → Addr) (F : List D → Res Rv) (n : Nat) : Sp := fun vs H Q E => ∃ (B : Hp) (ds : List D), Same B H ∧ RpL K B vs ds ∧ ds.length = n ∧
  (F ds).sat (fun r => ∀ v H', Same H H' → RetOk K H (fun a => H a ≠ none ∧ B a = none) H' v r → Q v H') (fun c => ∀ H', Same H H' → E (.ref (ca c)) none H')
@[simp] def scalar : D → Bool
  | .non => true
  | .bl _ => true
  | .int _ => true
  | .str _ => true
  | .any => true
  | _ => false
theorem scalar_rp {K : PySem.W.Frag} {R R' : Hp} {v : V} {d : D} (h : Rp K R v d) (e : scalar d = true) : Rp K R' v d := by
  cases h with
  | non => exact .non
  | bl b => exact .bl b
  | int b => exact .int b
  | str b => exact .str b
  | any v => exact .any v
  | exc v => exact .exc v
  | lst _ _ => cases e
  | tup _ _ => cases e
  | dT _ => cases e
  | dK _ => cases e
  | scr _ => cases e
theorem scalars_rp {K : PySem.W.Frag} {R R' : Hp} : ∀ {vs : List V} {ds : List D}, RpL K R vs ds → ds.all scalar = true → RpL K R' vs ds
  | _, _, .nil, _ => .nil
  | _, _, .cons h r, e => by
    simp only [List.all_cons, Bool.and_eq_true] at e
    exact .cons (scalar_rp h e.1) (scalars_rp r e.2)
@[simp] def anyOw : List Rv → Bool
  | [] => false
  | ⟨.ow, _⟩ :: _ => true
  | _ :: r => anyOw r
/-- a tuple of whole numbers -/
def isIn : D → Bool
  | .int _ => true
  | _ => false
@[simp] theorem isIn_int {i : Int} : isIn (.int i) = true := rfl
def isIT : D → Bool
  | .tup ds => ds.all isIn
  | _ => false
@[simp] theorem isIT_tup {ds : List D} : isIT (.tup ds) = ds.all isIn := rfl
@[simp] theorem isIT_lst {ds : List D} : isIT (.lst ds) = false := rfl
theorem ins_rp {K : PySem.W.Frag} {R : Hp} : ∀ {vs : List V} {ds : List D}, RpL K R vs ds → ds.all isIn = true → ∃ w : List Int, vs = w.map V.int ∧ ds = w.map D.int
  | _, _, .nil, _ => ⟨[], rfl, rfl⟩
  | _, _, .cons h r, e => by
    simp only [List.all_cons, Bool.and_eq_true] at e
    obtain ⟨w, h1, h2⟩ := ins_rp r e.2
    cases h <;> first | (exact ⟨_ :: w, by rw [h1]; rfl, by rw [h2]; rfl⟩) | (have e1 := e.1; simp [isIn] at e1)
theorem it_rp {K : PySem.W.Frag} {R : Hp} {v : V} {d : D} (h : Rp K R v d) (e : isIT d = true) : ∃ (a : Addr) (w : List Int), v = .ref a ∧ R a = some (.tup (w.map V.int)) ∧ d = .tup (w.map D.int) := by
  cases h with
  | tup h1 h2 =>
    obtain ⟨w, rfl, rfl⟩ := ins_rp h2 e
    exact ⟨_, w, rfl, h1, rfl⟩
  | _ => simp [isIT] at e
/-- what is known of a result where an argument was an object of the caller's own -/
@[simp] def adjR : Rv → Option Rv
  | ⟨.sh, d⟩ => if scalar d = true ∨ isIT d = true then some ⟨.sh, d⟩ else none
  | ⟨.ow, .tup [.non, d]⟩ => some ⟨.sh, d⟩
  | ⟨.fr, .lst ds⟩ => if ds.all scalar = true then some ⟨.fr, .lst ds⟩ else none
  | _ => none
def noOw : Rv → Res Rv
  | ⟨.ow, .tup [.non, d]⟩ => .ok ⟨.sh, d⟩
  | ⟨.ow, _⟩ => .stuck
  | r => .ok r
@[simp] theorem noOw_sh {d : D} : noOw ⟨.sh, d⟩ = .ok ⟨.sh, d⟩ := rfl
@[simp] theorem noOw_fr {d : D} : noOw ⟨.fr, d⟩ = .ok ⟨.fr, d⟩ := rfl
@[simp] theorem noOw_tr {d : D} : noOw ⟨.ow, .tup [.non, d]⟩ = .ok ⟨.sh, d⟩ := rfl
theorem noOw_inv {d : D} (h : noOw ⟨.ow, d⟩ ≠ .stuck) : ∃ d', d = .tup [.non, d'] := by
  unfold noOw at h
  split at h
  · rename_i e; cases e; exact ⟨_, rfl⟩
  · exact absurd rfl h
  · rename_i e1 e2; exact absurd rfl (e2 _)
theorem adjR_inv {d : D} {z : Rv} (h : adjR ⟨.ow, d⟩ = some z) : ∃ d', d = .tup [.non, d'] ∧ z = ⟨.sh, d'⟩ := by
  unfold adjR at h
  split at h
  · rename_i e; cases e
  · rename_i e; cases e; cases h; exact ⟨_, rfl, rfl⟩
  · rename_i e; cases e
  · cases h
@[simp] def fFn (F : List D → Res Rv) (fs : Ev → Res (List Rv)) : Ev → Res Rv := fun s => bnd (fs s) fun rs => bnd (F (rs.map (·.d))) fun r => if anyOw rs = true then lft (adjR r) else noOw r
theorem shs_of : ∀ {rs : List Rv}, anyOw rs = false → shs rs = some (rs.map (·.d))
  | [], _ => rfl
  | ⟨.ow, _⟩ :: _, h => by simp at h
  | ⟨.sh, d⟩ :: r, h => by simp only [shs, shs_of (rs := r) (by simpa using h)]; rfl
  | ⟨.fr, d⟩ :: r, h => by simp only [shs, shs_of (rs := r) (by simpa using h)]; rfl
theorem ResA.full {K : PySem.W.Frag} {Z : Addr → Prop} {s : Ev} {σ : L2.St} {H0 H : Hp} : ∀ {vs : List V} {rs : List Rv}, ResA K Z s σ H0 H vs rs → RpL K H vs (rs.map (·.d))
  | _, _, .nil => .nil
  | _, _, .cons h r => .cons h.full r.full
theorem fn_ok {K : PySem.W.Frag} {F : List D → Res Rv} {n : Nat} {fs : Ev → Res (List Rv)} {σ : L2.St} {H : Hp} {Q : VK} (hn : ∀ s rs, fs s = .ok rs → rs.length = n) (h : tE K ca W (fFn F fs) σ H Q) : tA K ca W fs σ H fun vs H1 => spF K ca F n vs H1 Q (WE W σ) := by
  obtain ⟨Hin, Z, s, R, h⟩ := h
  simp only [fFn, sat_bnd] at h
  cases efs : fs s with
  | exc c => rw [efs] at h; exact ⟨Hin, Z, s, R, by rw [efs]; exact h⟩
  | stuck => rw [efs] at h; exact h.elim
  | ok rs =>
    rw [efs] at h
    refine tA_go R ?_
    rw [efs]
    intro vs H1 k1 R1 q1
    replace h : (F (rs.map (·.d))).sat _ _ := h
    have hlen : (rs.map (·.d)).length = n := by rw [List.length_map]; exact hn s rs efs
    cases eo : anyOw rs with
    | false =>
      have qs := q1.shared R k1 (shs_of eo)
      refine ⟨Rg Z s σ H1, rs.map (·.d), hide_le, qs, hlen, sat_mono h (fun r h v H' k q => ?_) fun c h H' k => h H' (k1.trans k)⟩
      rw [eo, if_neg (by simp)] at h
      have g : ∀ {P : Addr → Prop}, Same (hide (fun a => (H1 a ≠ none ∧ Rg Z s σ H1 a = none) ∨ P a) H') (hide (fun a => (Z a ∨ priv s σ a) ∨ P a) H') := fun {P} => hide_mono (Same.refl _) fun a na nit q => by
        rcases q with (q | q) | q
        · exact .inl ⟨R1.zin a q, hide_yes (.inl q) (fun z => nit (z.mono k))⟩
        · exact .inl ⟨(R1.privH q).1, hide_yes (.inr q) (fun z => nit (z.mono k))⟩
        · exact .inr q
      have g0 : Same (hide (fun a => H1 a ≠ none ∧ Rg Z s σ H1 a = none) H') (Rg Z s σ H') := hide_mono (Same.refl _) fun a na nit q => by
        rcases q with q | q
        · exact ⟨R1.zin a q, hide_yes (.inl q) (fun z => nit (z.mono k))⟩
        · exact ⟨(R1.privH q).1, hide_yes (.inr q) (fun z => nit (z.mono k))⟩
      obtain ⟨kd, d⟩ := r
      cases kd with
      | sh => exact (show ∀ v H', Same H H' → ResOk K Z s σ H H' v ⟨.sh, d⟩ → Q v H' from h) v H' (k1.trans k) (Rp.mono g0 q)
      | fr =>
        obtain ⟨p, e1, e2, e3⟩ := q
        exact (show ∀ v H', Same H H' → ResOk K Z s σ H H' v ⟨.fr, d⟩ → Q v H' from h) v H' (k1.trans k) ⟨p, e1, k1.free e2, e3.mono g (Same.refl _)⟩
      | ow =>
        obtain ⟨d', rfl⟩ := noOw_inv (d := d) fun z => by rw [z] at h; exact h
        obtain ⟨l, o1, o2, o3⟩ := (show ∃ l, OT K H' v d' l ∧ l.Nodup ∧ ∀ a ∈ l, H1 a = none from q)
        exact (show ∀ v H', Same H H' → ResOk K Z s σ H H' v ⟨.sh, d'⟩ → Q v H' from h) v H' (k1.trans k) (o1.rp (fun a z => hide_it z) fun a ha => hide_no fun z => z.elim (fun z => R1.zin a z (o3 a ha)) fun z => (R1.privH z).1 (o3 a ha))
    | true =>
      refine ⟨H1, rs.map (·.d), Same.refl _, q1.full, hlen, sat_mono h (fun r h v H' k q => ?_) fun c h H' k => h H' (k1.trans k)⟩
      rw [eo, if_pos rfl] at h
      obtain ⟨z, ez, h⟩ := sat_lft h
      obtain ⟨kd, d⟩ := r
      cases kd with
      | sh =>
        simp only [adjR] at ez
        split at ez
        · rename_i hsc
          cases ez
          rcases hsc with hsc | hsc
          · exact h v H' (k1.trans k) (scalar_rp (R := hide _ H') q hsc)
          · obtain ⟨a, w, rfl, e1, rfl⟩ := it_rp (R := hide _ H') q hsc
            have e2 := hide_le _ _ e1
            exact h _ H' (k1.trans k) (.tup ((hide_it ⟨w, e2⟩).trans e2) RpL.ints)
        · cases ez
      | fr =>
        cases d with
        | lst es =>
          simp only [adjR] at ez
          split at ez
          · rename_i hsc
            cases ez
            obtain ⟨p, e1, e2, xs, e3, e4⟩ := q
            exact h v H' (k1.trans k) ⟨p, e1, k1.free e2, xs, e3, scalars_rp e4 hsc⟩
          · cases ez
        | _ => simp [adjR] at ez
      | ow =>
        obtain ⟨d', rfl, rfl⟩ := adjR_inv ez
        obtain ⟨l, o1, o2, o3⟩ := (show ∃ l, OT K H' v d' l ∧ l.Nodup ∧ ∀ a ∈ l, H1 a = none from q)
        exact h v H' (k1.trans k) (o1.rp (fun a z => hide_it z) fun a ha => hide_no fun z => z.elim (fun z => R1.zin a z (o3 a ha)) fun z => (R1.privH z).1 (o3 a ha))
/-- a def of the module that may be called -/
def Cal (P : Program) (w : World) (K : PySem.W.Frag) (mg : Str → Option Value) (base : Heap) (ca : Nat → Addr) (lvl : Nat) (name : Str) (ps : List Str) (F : List D → Res Rv) : Prop :=
  ∃ (f : Addr) (fd : FuncData), mg name = some (.ref f) ∧ PySem.W.keepIn K (.ref f) = true ∧ Binds K fd ps [] ∧ FnOk P w K mg base (L2.CX P w) lvl f fd ps (spF K ca F ps.length)
theorem de_fn {x : Str} {p : Pos} {ps : List Str} {F : List D → Res Rv} {fs : Ev → Res (List Rv)} {lvl k : Nat} (C : Cal X.prog X.w X.K X.mg X.base ca lvl x ps F) (hr : Room k X.A) (hW : ∀ σ, PassesAt (L2.CX X.prog X.w) X σ (WE W σ)) (ha : DA X ca W (e :: es) fs) (hn : ∀ s rs, fs s = .ok rs → rs.length = ps.length) (hk : lvl ≤ k := by decide)
    (hg : Gl X x := by rfl) (hdb : (x == ("__debug__" : Str)) = false := by decide) (he : starEach (e :: es) X.env = (false, eval e X.env) :: starEach es X.env := by rfl) (hpl : (backTo pos (starEach es X.env)).any (·.1) = false := by rfl) :
    DE X ca W (.Call (.Name x p) (e :: es) [] pos) (fFn F fs) := by
  obtain ⟨f, fd, hm, kp, hb, G⟩ := C
  exact (pe_callS (E := WE W) G (hr.mono hk) hg hm kp hb hW ha hdb he hpl).imp fun σ H Q h => fn_ok hn h
theorem len_cons {fe : Ev → Res Rv} {fs : Ev → Res (List Rv)} {n : Nat} (h : ∀ s rs, fs s = .ok rs → rs.length = n) : ∀ s rs, fCons fe fs s = .ok rs → rs.length = n + 1 := fun s rs q => by
  simp only [fCons] at q
  cases e1 : fe s with
  | exc c => rw [e1] at q; cases q
  | stuck => rw [e1] at q; cases q
  | ok r =>
    rw [e1] at q
    simp only [bnd] at q
    cases e2 : fs s with
    | exc c => rw [e2] at q; cases q
    | stuck => rw [e2] at q; cases q
    | ok rs' =>
      rw [e2] at q
      simp only [bnd, Res.ok.injEq] at q
      rw [← q, List.length_cons, h s rs' e2]
theorem len_nil : ∀ (s : Ev) (rs : List Rv), (fun _ => Res.ok []) s = Res.ok rs → rs.length = 0 := fun s rs q => by
  cases q
  rfl

/-! ### defs -/
def fin : Out → Res Rv
  | .nx _ => .ok ⟨.sh, .non⟩
  | .rt r => .ok r
  | .exc c => .exc c
  | _ => .stuck
@[simp] theorem fin_nx {s : Ev} : fin (.nx s) = .ok ⟨.sh, .non⟩ := rfl
@[simp] theorem fin_rt {r : Rv} : fin (.rt r) = .ok r := rfl
@[simp] theorem fin_exc {c : Nat} : fin (.exc c) = .exc c := rfl
@[simp] theorem fin_bk {s : Ev} : fin (.bk s) = .stuck := rfl
@[simp] theorem fin_ct {s : Ev} : fin (.ct s) = .stuck := rfl
@[simp] theorem fin_stuck : fin .stuck = .stuck := rfl
@[simp] theorem fin_ite {c : Prop} [Decidable c] {x y : Out} : fin (if c then x else y) = if c then fin x else fin y := by split <;> rfl
@[simp] def start0 (n : Nat) (ds : List D) : Ev := ds.map Sl.sh ++ List.replicate (n - ds.length) .un
theorem rel_start {K : PySem.W.Frag} {B H : Hp} {vs : List V} {ds : List D} {N : List Str} (hB : Same B H) (r : RpL K B vs ds) : Rel K H (fun a => H a ≠ none ∧ B a = none) (start0 N.length ds) (L2.start N vs) H := by
  have hl := r.length
  have npr : ∀ a, ¬ priv (start0 N.length ds) (L2.start N vs) a := fun a ⟨i, d, h1, _⟩ => by
    unfold start0 at h1
    by_cases q : i < ds.length
    · rw [List.getElem?_append_left (by simpa using q), List.getElem?_map] at h1
      cases e : ds[i]? with
      | none => rw [e] at h1; cases h1
      | some d => rw [e] at h1; cases h1
    · rw [List.getElem?_append_right (by simpa using q), List.getElem?_replicate] at h1
      split at h1 <;> cases h1
  have now : ∀ (i : Nat) (d : D), (start0 N.length ds)[i]? ≠ some (Sl.ow d) := fun i d h1 => by
    unfold start0 at h1
    by_cases q : i < ds.length
    · rw [List.getElem?_append_left (by simpa using q), List.getElem?_map] at h1
      cases e : ds[i]? with
      | none => rw [e] at h1; cases h1
      | some d => rw [e] at h1; cases h1
    · rw [List.getElem?_append_right (by simpa using q), List.getElem?_replicate] at h1
      split at h1 <;> cases h1
  have noas : ∀ (i : Nat) (d : D), (start0 N.length ds)[i]? ≠ some (Sl.as d) := fun i d h1 => by
    unfold start0 at h1
    by_cases q : i < ds.length
    · rw [List.getElem?_append_left (by simpa using q), List.getElem?_map] at h1
      cases e : ds[i]? with
      | none => rw [e] at h1; cases h1
      | some d => rw [e] at h1; cases h1
    · rw [List.getElem?_append_right (by simpa using q), List.getElem?_replicate] at h1
      split at h1 <;> cases h1
  have nopn : ∀ (i : Nat) (v : V) (d : D), (start0 N.length ds)[i]? ≠ some (Sl.pn v d) := fun i v d h1 => by
    unfold start0 at h1
    by_cases q : i < ds.length
    · rw [List.getElem?_append_left (by simpa using q), List.getElem?_map] at h1
      cases e : ds[i]? with
      | none => rw [e] at h1; cases h1
      | some d => rw [e] at h1; cases h1
    · rw [List.getElem?_append_right (by simpa using q), List.getElem?_replicate] at h1
      split at h1 <;> cases h1
  have nodl : ∀ (i : Nat) (k : List (List Int × List D)), (start0 N.length ds)[i]? ≠ some (Sl.dl k) := fun i k h1 => by
    unfold start0 at h1
    by_cases q : i < ds.length
    · rw [List.getElem?_append_left (by simpa using q), List.getElem?_map] at h1
      cases e : ds[i]? with
      | none => rw [e] at h1; cases h1
      | some d => rw [e] at h1; cases h1
    · rw [List.getElem?_append_right (by simpa using q), List.getElem?_replicate] at h1
      split at h1 <;> cases h1
  have notr : ∀ (i : Nat) (d : D), (start0 N.length ds)[i]? ≠ some (Sl.tr d) := fun i d h1 => by
    unfold start0 at h1
    by_cases q : i < ds.length
    · rw [List.getElem?_append_left (by simpa using q), List.getElem?_map] at h1
      cases e : ds[i]? with
      | none => rw [e] at h1; cases h1
      | some d => rw [e] at h1; cases h1
    · rw [List.getElem?_append_right (by simpa using q), List.getElem?_replicate] at h1
      split at h1 <;> cases h1
  refine ⟨?_, Same.refl _, fun a z => z.1, fun i d h => ?_, fun i d h => absurd h (now i d), fun i j d e p h => absurd h (now i d), fun i d h => absurd h (noas i d), fun i v d h => absurd h (nopn i v d), fun i k h => absurd h (nodl i k), .none notr⟩
  · unfold start0 L2.start; simp [hl]
  · unfold start0 at h
    by_cases q : i < ds.length
    · rw [List.getElem?_append_left (by simpa using q), List.getElem?_map] at h
      cases e : ds[i]? with
      | none => rw [e] at h; cases h
      | some d' =>
        rw [e] at h
        cases h
        obtain ⟨v, h1, h2⟩ := r.get e
        refine ⟨v, ?_, h2.mono fun a o q => ?_⟩
        · unfold L2.start
          rw [List.getElem?_append_left (by simpa using (by omega : i < vs.length)), List.getElem?_map, h1]
          rfl
        · have n : ¬ ((H a ≠ none ∧ B a = none) ∨ priv (start0 N.length ds) (L2.start N vs) a) := fun z => z.elim (fun z => by rw [z.2] at q; cases q) (npr a)
          exact (hide_no n).trans (hB _ _ q)
    · rw [List.getElem?_append_right (by simpa using q), List.getElem?_replicate] at h
      split at h <;> cases h
theorem cal_of {P : Program} {w : World} {K : PySem.W.Frag} {mg : Str → Option Value} {base : Heap} {ca : Nat → Addr} {name : Str} {st : Stmt} {f : Addr} {fd : FuncData} {N ps : List Str} {k : Nat} {F : List D → Res Rv} (Fn : L2.Fun K name name st f fd) (hm : mg name = some (.ref f)) (hb : Binds K fd ps []) (S : FnScope N ps (defScope st))
    (g : Ev → Out) (hg : ∀ (cdv : Value) (A : Around) (outer : List Env) (s : Shared) (H : Hp) (E : XK), Room k (A.deeper (PyProof.Rows.envOfC name (defScope st) s.heap.objs.size f cdv)) →
      Takes (cxOf (L2.CX P w) P w K mg base N name (defScope st) f cdv A outer s H E) (fun cls d _ H => E cls d H) →
      PassesOwn (model P w) (A.deeper (PyProof.Rows.envOfC name (defScope st) s.heap.objs.size f cdv)) (PyProof.Rows.envOfC name (defScope st) s.heap.objs.size f cdv) (cxOf (L2.CX P w) P w K mg base N name (defScope st) f cdv A outer s H E).xe →
      DSs (cxOf (L2.CX P w) P w K mg base N name (defScope st) f cdv A outer s H E) ca (fun cls d _ H => E cls d H) (defBody st) g)
    (hF : ∀ ds r, F ds = r → r ≠ .stuck → fin (g (start0 N.length ds)) = r) : Cal P w K mg base ca (k + 1) name ps F := by
  refine ⟨f, fd, hm, Fn.kp, hb, Fn.okX S (fun vs H Q E h => ?_) (fun cdv A outer s H vs Q E hr h => ⟨_, hg cdv A outer s H E hr (takes_of rfl rfl rfl rfl) (passes_of rfl), ?_⟩)⟩
  · obtain ⟨B, ds, _, r, e, _⟩ := h
    rw [r.length, e]
  · obtain ⟨B, ds, hB, r, en, h⟩ := h
    have nst : F ds ≠ .stuck := fun z => by rw [z] at h; exact h
    have ef := hF ds _ rfl nst
    refine ⟨H, _, start0 N.length ds, rel_start hB r, ?_⟩
    cases eg : g (start0 N.length ds) with
    | nx s' =>
      rw [eg] at ef
      simp only [fin] at ef
      rw [← ef] at h
      exact fun σ' H' R => h .non H' R.base Rp.non
    | rt r' =>
      rw [eg] at ef
      simp only [fin] at ef
      rw [← ef] at h
      exact h
    | exc c =>
      rw [eg] at ef
      simp only [fin] at ef
      rw [← ef] at h
      exact fun σ' H' k => h H' k
    | bk s' => rw [eg] at ef; exact (nst ef.symm).elim
    | ct s' => rw [eg] at ef; exact (nst ef.symm).elim
    | stuck => rw [eg] at ef; exact (nst ef.symm).elim
end
end DL
/-! Further rules. -/
namespace DL
open PySem PySem.Spec L2
theorem hu65 {k : Nat} {A : Around} (r : Room k A) : A.units + 65 < cLine := by have := r.un; omega
section
variable {X : Cx} {ca : Nat → Addr} {W : WX} {a b c e : Expr} {es : List Expr} {fa fb fe : Ev → Res Rv} {fs : Ev → Res (List Rv)} {pos : Pos}
theorem passW0 {X : Cx} (σ : L2.St) : PassesAt (L2.CX X.prog X.w) X σ (WE W0 σ) := fun _ _ _ _ _ _ h => by
  obtain ⟨_, _, _, _, _, _, _, _, _, _, _, _, z⟩ := h
  exact z.elim
@[simp] def fNeg (f : Ev → Res Rv) : Ev → Res Rv := fun s => bnd (f s) fun r => match r.d with
  | .int i => .ok ⟨.sh, .int (-i)⟩
  | _ => .stuck
theorem de_neg (h : DE X ca W a fa) : DE X ca W (.UnaryOp .USub a pos) (fNeg fa) := (pe_un un_neg h).imp fun σ H Q h => by
  obtain ⟨Hin, Z, s, R, h⟩ := h
  simp only [fNeg, sat_bnd] at h
  refine tE_go R (sat_mono h (fun x h v H1 k1 R1 q1 => ?_) fun _ h => h)
  obtain ⟨k, d⟩ := x
  cases d with
  | int i => exact ⟨i, q1.int rfl, h _ H1 k1 rvI⟩
  | _ => exact h.elim
/-- {} -/
theorem de_dK : DE X ca W (.Dict [] [] pos) (fun _ => .ok ⟨.fr, .dK []⟩) := pe_dnewK.imp fun σ H Q ⟨Hin, Z, s, R, h⟩ p hp => h _ _ (same_new hp) ⟨p, rfl, hp, upd_same⟩
theorem de_dT : DE X ca W (.Dict [] [] pos) (fun _ => .ok ⟨.fr, .dT []⟩) := pe_dnewT.imp fun σ H Q ⟨Hin, Z, s, R, h⟩ p hp => h _ _ (same_new hp) ⟨p, rfl, hp, upd_same⟩
/-! more changes of a list -/
@[simp] def popG (ds : List D) : List Rv → Option (List D)
  | [] => match ds with
    | [] => none
    | _ :: _ => some ds.dropLast
  | _ => none
@[simp] def clrG (ds : List D) : List Rv → Option (List D)
  | [] => some []
  | _ => none
theorem md_pop : MtR X "list.pop" rPop ∧ MutD X.K rPop popG := by
  refine ⟨mt_pop, ?_⟩
  intro Hin Z s σ H0 H p xs vs rs ds ds' Q R k q hp r e h
  match rs, e, q with
  | [], e, q =>
    cases q
    cases ds with
    | nil => cases e
    | cons d dr =>
      have hl := r.length
      obtain ⟨y, hy⟩ : ∃ y, xs[xs.length - 1]? = some y := ⟨xs[xs.length - 1]'(by simp at hl; omega), by simp⟩
      replace e : some (d :: dr).dropLast = some ds' := e
      cases e
      exact ⟨p, xs, y, rfl, rfl, hp, hy, h _ _ r.dropLast⟩
  | _ :: _, e, q => cases e
theorem md_clear : MtR X "list.clear" rClear ∧ MutD X.K rClear clrG := by
  refine ⟨mt_clear, ?_⟩
  intro Hin Z s σ H0 H p xs vs rs ds ds' Q R k q hp r e h
  match rs, e, q with
  | [], e, q =>
    cases q
    simp only [clrG, Option.some.injEq] at e
    subst e
    exact ⟨p, xs, rfl, rfl, hp, h _ _ .nil⟩
  | _ :: _, e, q => simp [clrG] at e
@[simp] def extG (ds : List D) : List Rv → Option (List D)
  | [⟨_, .lst es⟩] => if ds.length + es.length ≤ lim then some (ds ++ es) else none
  | _ => none
theorem md_extend : MtR X "list.extend" rExtend ∧ MutD X.K rExtend extG := by
  refine ⟨mt_extend, ?_⟩
  intro Hin Z s σ H0 H p xs vs rs ds ds' Q R k q hp r e h
  unfold extG at e
  split at e
  · rename_i kd es
    split at e
    · rename_i hl
      cases e
      obtain ⟨v, rfl, q1⟩ := q.one
      obtain ⟨p2, ys, rfl, hp2, r2⟩ := q1.list rfl
      exact ⟨p, p2, xs, ys, rfl, rfl, hp, hp2, by rw [r.length, r2.length]; exact le_line hl, h _ _ (r.app r2)⟩
    · cases e
  · cases e
end
end DL
/-! try .. except .. as e: the classes of a caught refusal, by a def that is called within the suite. -/
namespace DL
open PySem PySem.Spec PyProof.Rows L2
/-! ### a def called within an except suite, its argument the caught one -/
structure RoomP (k : Nat) (A : Around) : Prop where
  dp : A.depth + 3 * k + 5 < recursionLimit
  un : A.units + 16 * k + 200 < cLine
theorem roomP_of {k : Nat} {A : Around} (r : Room k A) (v : Option Value) : RoomP k (A.mark v) := ⟨r.dp, r.un⟩
structure PinP (outer : List Env) (H : Hp) (s : Shared) (p : Addr × Obj) : Prop where
  get : s.heap.get? p.1 = some p.2
  free : H p.1 = none
  nofs : p.1 ∉ frs outer
  nocell : ∀ v, p.2.data ≠ .cell v
structure FnP (P : Program) (w : World) (K : PySem.W.Frag) (mg : Str → Option Value) (base : Heap) (k : Nat) (f : Addr) (fd : FuncData) (ps : List Str) (sp : Sp) (p : Addr × Obj) : Prop where
  len : ∀ vs H Q E, sp vs H Q E → vs.length = ps.length
  run : ∀ (A : Around) (outer : List Env) (s : Shared) (H : Hp) (args : Args) (us : List Value) (vs : List V) (Q : VK), RoomP k A → PinP outer H s p → Env0 P w K mg base A outer s H → BindsTo s fd args (ps.zip us) → Vals vs us → sp vs H Q (fun _ _ _ => False) →
    codeAny (model P w) A (.call (.ref f) args) (CR (L2.CX P w) outer P w H s Q (fun _ _ _ => False)) s
abbrev A0 (A : Around) : Around := { A with handled := none }
/-- the context of such a def's body -/
abbrev cxP (P : Program) (w : World) (K : PySem.W.Frag) (mg : Str → Option Value) (base : Heap) (N : List Str) (qual : Str) (scope : Scope) (f : Addr) (cd : Value) (A : Around) (outer : List Env) (s : Shared) (H : Hp) (p : Addr × Obj) : Cx :=
  { cxOf (L2.CX P w) P w K mg base N qual scope f cd A outer s H (fun _ _ _ => False) with calm := false, pn := [p] }
theorem ok_pin {X : Cx} (ok : X.Ok) {A : Around} (e : A.frames = X.A.frames) (pn : List (Addr × Obj)) (xe : Value → Shared → Prop) : Cx.Ok { X with A := A, calm := false, pn := pn, xe := xe } :=
  ⟨ok.mod, ok.kind, ok.glob, ok.blt, ok.above, ok.inj, ok.has, ok.cab, (fun z => absurd (show false = true from z) Bool.false_ne_true), e.trans ok.frames, ok.stk, ok.exf, ok.bs, ok.bsz, ok.noex, ok.exfs, ok.funs, ok.frf⟩
theorem inv_pin {X : Cx} {σ : L2.St} {H : Hp} {s : Shared} (I : Inv X [] σ H s) {A : Around} (e : A.frames = X.A.frames) {p : Addr × Obj} (xe : Value → Shared → Prop)
    (hp : s.heap.get? p.1 = some p.2 ∧ H p.1 = none ∧ p.1 ≠ X.env.locals ∧ p.1 ∉ X.fs ∧ ∀ v, p.2.data ≠ .cell v) : Inv { X with A := A, calm := false, pn := [p], xe := xe } [] σ H s :=
  ⟨ok_pin I.ok e _ xe, I.os, I.bare, I.base, I.loc, I.cell, I.free, I.freeC, fun q hq => by
    have hq' : q ∈ [p] ++ ([] : List (Addr × Obj)) := hq
    have eq : q = p := by simpa using hq'
    rw [eq]
    exact hp, I.hok, I.len⟩
theorem fn_ofP {P : Program} {w : World} {K : PySem.W.Frag} {mg : Str → Option Value} {base : Heap} {k : Nat} {f : Addr} {name qual : Str} {params : Arguments} {body : List Stmt} {scope : Scope} {dV kV doc pm cdv ct oc : Value} {an od : Option Addr}
    {osl : Array (Option Value)} {N ps : List Str} {sp : Sp} {p : Addr × Obj} (lk : K.lookup f = some ⟨oc, od, .func (PySem.W.fnOf name qual params body scope dV kV doc pm an cdv ct), osl⟩) (hcd : PySem.W.codeIn K cdv qual = true) (S : FnScope N ps scope)
    (len : ∀ vs H Q E, sp vs H Q E → vs.length = ps.length)
    (hbody : ∀ (A : Around) (outer : List Env) (s : Shared) (H : Hp) (vs : List V) (Q : VK), sp vs H Q (fun _ _ _ => False) →
      ∃ t, PSs (cxP P w K mg base N qual scope f cdv A outer s H p) body t ∧ t { nx := fun _ H' => Q .non H', rt := Q } (L2.start N vs) H) :
    FnP P w K mg base (k + 1) f (PySem.W.fnOf name qual params body scope dV kV doc pm an cdv ct) ps sp p := by
  refine ⟨len, fun A outer s H args us vs Q hr hpin e0 hb r hsp => ?_⟩
  have hl := len _ _ _ _ hsp
  have KX : K.In s.heap := e0.mod.kin.keeps fun b o e => (e0.bs b o e).1
  have lim : s.heap.NoLimit := e0.mod.nolimit.keeps fun b o e => (e0.bs b o e).1
  have hdep : A.depth < recursionLimit := by have := hr.dp; omega
  have hkind : ∀ y ∈ ps.zip us, scope.names.lookup y.1 = some .local ∨ (scope.names.lookup y.1 = some .cell ∧ ((cellsFrom (s.heap.objs.size + 1) scope.names []).lookup y.1).isSome = true) := fun ⟨n, v⟩ hy =>
    (S.par n (List.of_mem_zip hy).1).imp id fun q => ⟨q, PySem.W.cellsFrom_some _ _ _ (.inl q)⟩
  refine codeAny_call_function hdep (KX _ _ lk) rfl S.co S.gen rfl (PySem.W.codeRec_of KX hcd) (hb _ _ _ _ (wpAny_newFunctionEnv_cells S.kind hkind fun env he s1 x => ?_))
  subst he
  refine ⟨lim.keeps x.toInCall.keep, codeAny_func ?_⟩
  obtain ⟨t, ht, hq⟩ := hbody A outer s H vs Q hsp
  have e00 : Env0 P w K mg base (A0 A) outer s H := { e0 with frames := e0.frames }
  have I0 := inv_start (CX := L2.CX P w) (E := fun _ _ _ => False) (A := A0 A) (cd := cdv) (f := f) (qual := qual) S rfl e00 hl r x
  obtain ⟨h1, tk, es, hk⟩ := x.done
  have I : Inv (cxP P w K mg base N qual scope f cdv A outer s H p) [] (L2.start N vs) H s1 := inv_pin (A := A.deeper (envOfC qual scope s.heap.objs.size f cdv)) (p := p) I0 rfl (cxP P w K mg base N qual scope f cdv A outer s H p).xe ⟨by rw [es]; exact hk p.1 p.2 hpin.get, hpin.free, Nat.ne_of_lt (Heap.lt_size hpin.get), hpin.nofs, hpin.nocell⟩
  refine wpAny_mono (ht.run [] s1 (L2.start N vs) H _ I hq) (fun fl s' hs => ?_) fun e s' hs => hs
  have fin : ∀ {σ' : L2.St} {H' : Hp} {v : V} {u : Value}, Inv (cxP P w K mg base N qual scope f cdv A outer s H p) [] σ' H' s' → RelV v u → Q v H' → CE outer P w H s Q u s' :=
    fun {σ' H' v u} J rv q => ⟨v, H', J.os, J.bare, J.base, J.hok, rv, q⟩
  cases fl with
  | ret u => exact let ⟨v, σ', H', J, rv, q⟩ := hs; fin J rv q
  | next => exact let ⟨σ', H', J, q⟩ := hs; fin (v := V.non) (u := Value.none) J rfl q
  | brk => exact let ⟨_, _, _, q⟩ := hs; False.elim q
  | cont => exact let ⟨_, _, _, q⟩ := hs; False.elim q
theorem funP {P : Program} {w : World} {K : PySem.W.Frag} {mg : Str → Option Value} {base : Heap} {x qual : Str} {st : Stmt} {f : Addr} {fd : FuncData} {N ps : List Str} {k : Nat} {sp : Sp} {p : Addr × Obj} (F : L2.Fun K x qual st f fd) (S : FnScope N ps (defScope st)) (len : ∀ vs H Q E, sp vs H Q E → vs.length = ps.length)
    (hbody : ∀ (cdv : Value) (A : Around) (outer : List Env) (s : Shared) (H : Hp) (vs : List V) (Q : VK), sp vs H Q (fun _ _ _ => False) →
      ∃ t, PSs (cxP P w K mg base N qual (defScope st) f cdv A outer s H p) (defBody st) t ∧ t { nx := fun _ H' => Q .non H', rt := Q } (L2.start N vs) H) : FnP P w K mg base (k + 1) f fd ps sp p := by
  obtain ⟨oc, od, kV, doc, pm, an, cdv, ct, osl, rfl, lk, hcd⟩ := F.ex
  exact fn_ofP lk hcd S len fun A outer s H vs Q hsp => hbody cdv A outer s H vs Q hsp
section
variable {X : Cx} {k : Nat} {f : Addr} {fd : FuncData} {ps : List Str} {sp : Sp} {x : Str} {q pos apos : Pos} {e : Expr} {es : List Expr} {t : TA} {p : Addr × Obj}
theorem pe_callP (F : FnP X.prog X.w X.K X.mg X.base k f fd ps sp p) (hr : RoomP k X.A) (hp : p ∈ X.pn) (hg : Gl X x) (hm : X.mg x = some (.ref f)) (hk : PySem.W.keepIn X.K (.ref f) = true) (hb : Binds X.K fd ps [])
    (ha : PA X (e :: es) t) (hdb : (x == ("__debug__" : Str)) = false := by decide) (he : starEach (e :: es) X.env = (false, eval e X.env) :: starEach es X.env := by rfl) (hpl : (backTo pos (starEach es X.env)).any (·.1) = false := by rfl) :
    PE X (.Call (.Name x q) (e :: es) [] pos) (tCallS sp (fun _ _ _ _ => False) t) := by
  refine ⟨fun pins s σ H Q I h => wpAny_Call_Name_kw (ld_glob I hg hm (PySem.W.callWith_K (h₀ := X.base) I.ok.mod.kin hk (thn (ha.run pos pins s σ H _ I h) fun us s1 ⟨vs, H1, I1, r, q⟩ => ⟨I1.kIn, ?_⟩) he hpl) hdb)⟩
  have hl : us.length = ps.length := by rw [← r.length]; exact F.len _ _ _ _ q
  have b := hb s1 us I1.kIn (by rw [List.append_nil]; exact hl)
  rw [List.append_nil] at b
  have P1 := I1.pin p (List.mem_append_left _ hp)
  have hpin : PinP X.stack H1 s1 p := ⟨P1.1, P1.2.1, fun hm => (List.mem_cons.mp (I1.stkSub p.1 hm)).elim P1.2.2.1 P1.2.2.2.1, P1.2.2.2.2⟩
  refine wpAny_call (codeAny_mono (F.run X.A X.stack s1 H1 ⟨us, []⟩ us vs Q hr hpin I1.env0 b r q) fun r s' hq => ?_)
  cases r with
  | error e =>
    obtain ⟨_, _, _, _, _, _, _, _, _, _, _, _, z⟩ := hq
    exact z.elim
  | ok fl =>
    cases fl with
    | ret u => exact I1.after hq
    | next => exact False.elim hq
    | brk => exact False.elim hq
    | cont => exact False.elim hq
end
/-! ### isinstance of the caught one -/
def rIsP (K : PySem.W.Frag) (D a : Addr) : List V → Hp → VK → Prop := fun xs H Q => ∃ (c : V) (cv : Value) (b : Bool), xs = [.ref a, c] ∧ (∀ u, RelV c u → u = cv) ∧ PySem.W.kitOne K (.ref D) cv = some b ∧ Q (.bl b) H
theorem call_isP {X : Cx} {a D : Addr} {oe : Obj} (hp : (a, oe) ∈ X.pn) (C : ExcC X.K D) (hz : Zc (.ref D) none oe) (hf : ∃ vs, oe.data = .fields vs) : CallR X (.builtin "isinstance") (rIsP X.K D a) := by
  intro pins s σ H xs us Q I r h
  obtain ⟨c, cv, b, rfl, hcv, e, q⟩ := h
  cases r with
  | cons rx rr =>
    cases rr with
    | cons rt rr =>
      cases rr
      cases rx
      have ec := hcv _ rt
      subst ec
      obtain ⟨hget, _⟩ := I.pin (a, oe) (List.mem_append_left _ hp)
      obtain ⟨vs, hv⟩ := hf
      have J : PySem.W.InstAt s.heap a oe D none := by
        obtain ⟨oc, od, oda, osl⟩ := oe
        obtain ⟨h1, h2⟩ := hz
        dsimp only at h1 h2 hv
        subst h1 h2 hv
        exact ⟨hget, rfl, rfl, trivial⟩
      exact PySem.W.kia_one (PySem.W.handS_kitx_exc C.hg C.hk C.hs C.hd C.ha C.hn C.ht C.hm) I.kIn J e (fun z => nomatch z) fun tk => ⟨.bl b, H, I.kept (t' := tk) fun _ _ z => z, rfl, q⟩
/-- what a caught one of the class c is -/
structure Caught (X : Cx) (ca : Nat → Addr) (a : Addr) (c : Nat) : Prop where
  pin : ∃ oe : Obj, (a, oe) ∈ X.pn ∧ Zc (.ref (ca c)) none oe ∧ ∃ vs, oe.data = .fields vs
  cls : ExcC X.K (ca c)
@[simp] def fIsE (a : Addr) (b : Bool) (f : Ev → Res Rv) : Ev → Res Rv := fun s => bnd (f s) fun r => match r.d with
  | .exc a' => if a' = a then .ok ⟨.sh, .bl b⟩ else .stuck
  | _ => .stuck
section
variable {X : Cx} {ca : Nat → Addr} {W : WX} {e : Expr} {f : Ev → Res Rv}
theorem isE_go {K : PySem.W.Frag} {a D : Addr} {cv : Value} {v : V} {b : Bool} (hv : ∀ u, RelV v u → u = cv) (hk : PySem.W.kitOne K (.ref D) cv = some b) {σ : L2.St} {H : Hp} {Q : VK} (h : tE K ca W (fIsE a b f) σ H Q) : tE K ca W f σ H fun x H1 => rIsP K D a [x, v] H1 Q := by
  obtain ⟨Hin, Z, s, R, h⟩ := h
  simp only [fIsE, sat_bnd] at h
  refine tE_go R (sat_mono h (fun x h v' H1 k1 R1 q1 => ?_) fun _ h => h)
  obtain ⟨kd, d⟩ := x
  cases d with
  | exc a' =>
    dsimp only at h
    obtain ⟨ea, h3⟩ := sat_if h
    have q2 := q1.full
    cases q2
    rw [ea]
    exact ⟨_, cv, b, rfl, hv, hk, h3 _ H1 k1 rvB⟩
  | _ => exact h.elim
theorem de_isE {x : Str} {p p2 pos : Pos} {a : Addr} {c : Nat} {b : Bool} {C : Addr} (ht : Caught X ca a c) (hm : X.mg "isinstance" = none) (hmC : X.mg x = some (.ref C)) (hk : PySem.W.kitOne X.K (.ref (ca c)) (.ref C) = some b) (he : DE X ca W e f)
    (hg : Gl X "isinstance" := by rfl) (hgT : Gl X x := by rfl) (hd : (x == ("__debug__" : Str)) = false := by decide)
    (hs : starEach (e :: [.Name x p2]) X.env = (false, eval e X.env) :: starEach [.Name x p2] X.env := by rfl) (hs2 : starEach [.Name x p2] X.env = (false, eval (.Name x p2) X.env) :: starEach [] X.env := by rfl) (hpl : (backTo pos (starEach [.Name x p2] X.env)).any (·.1) = false := by rfl) :
    DE X ca W (.Call (.Name "isinstance" p) [e, .Name x p2] [] pos) (fIsE a b f) := by
  obtain ⟨⟨oe, hp, hz, hf⟩, hC⟩ := ht
  exact (pe_callB (call_isP hp hC hz hf) hg hm (by decide +kernel) (pa_cons he (pa_cons (pe_glob (v := .ref C) hgT hmC rfl hd) pa_nil hs2) hs) (by decide) (by decide) hs hpl).imp fun σ H Q h => isE_go (v := .ref C) (cv := .ref C) (fun _ h => h) hk h
theorem de_isEV {x : Str} {p p2 pos : Pos} {a : Addr} {c : Nat} {b : Bool} {n : String} (ht : Caught X ca a c) (hm : X.mg "isinstance" = none) (hmC : X.mg x = none) (hk : PySem.W.kitOne X.K (.ref (ca c)) (.type n) = some b) (he : DE X ca W e f) (hv : bootBuiltins x = some (.type n) := by decide +kernel)
    (hg : Gl X "isinstance" := by rfl) (hgT : Gl X x := by rfl) (hn : x ≠ "__name__" := by decide) (hd : (x == ("__debug__" : Str)) = false := by decide)
    (hs : starEach (e :: [.Name x p2]) X.env = (false, eval e X.env) :: starEach [.Name x p2] X.env := by rfl) (hs2 : starEach [.Name x p2] X.env = (false, eval (.Name x p2) X.env) :: starEach [] X.env := by rfl) (hpl : (backTo pos (starEach [.Name x p2] X.env)).any (·.1) = false := by rfl) :
    DE X ca W (.Call (.Name "isinstance" p) [e, .Name x p2] [] pos) (fIsE a b f) := by
  obtain ⟨⟨oe, hp, hz, hf⟩, hC⟩ := ht
  exact (pe_callB (call_isP hp hC hz hf) hg hm (by decide +kernel) (pa_cons he (pa_cons (pe_bltn (v := .ty n) hgT hmC hv rfl hn hd) pa_nil hs2) hs) (by decide) (by decide) hs hpl).imp fun σ H Q h => isE_go (v := .ty n) (cv := .type n) (fun _ h => h) hk h
end
/-! ### the def that tells the classes -/
@[simp] def Fcls (a : Addr) (c : Nat) : List D → Res Rv := fun ds => match ds with
  | [.exc b] => if b = a then .ok ⟨.sh, .tup [.int c]⟩ else .stuck
  | _ => .stuck
def CalP (P : Program) (w : World) (K : PySem.W.Frag) (mg : Str → Option Value) (base : Heap) (ca : Nat → Addr) (lvl m : Nat) (name : Str) : Prop :=
  ∃ (f : Addr) (fd : FuncData) (x : Str), mg name = some (.ref f) ∧ PySem.W.keepIn K (.ref f) = true ∧ Binds K fd [x] [] ∧
    ∀ (a : Addr) (oe : Obj) (c : Nat), c < m → Zc (.ref (ca c)) none oe → (∃ vs, oe.data = .fields vs) → FnP P w K mg base lvl f fd [x] (spF K ca (Fcls a c) 1) (a, oe)
theorem calP_of {P : Program} {w : World} {K : PySem.W.Frag} {mg : Str → Option Value} {base : Heap} {ca : Nat → Addr} {name x : Str} {st : Stmt} {f : Addr} {fd : FuncData} {N : List Str} {k m : Nat} (Fn : L2.Fun K name name st f fd) (hm : mg name = some (.ref f)) (hb : Binds K fd [x] []) (S : FnScope N [x] (defScope st))
    (g : Addr → Nat → Ev → Out) (hC : ∀ c, c < m → ExcC K (ca c)) (hg : ∀ (cdv : Value) (A : Around) (outer : List Env) (s : Shared) (H : Hp) (p : Addr × Obj) (c : Nat), c < m → Caught (cxP P w K mg base N name (defScope st) f cdv A outer s H p) ca p.1 c →
      DSs (cxP P w K mg base N name (defScope st) f cdv A outer s H p) ca (fun _ _ _ _ => False) (defBody st) (g p.1 c))
    (hF : ∀ a c, c < m → g a c (start0 N.length [.exc a]) = .rt ⟨.sh, .tup [.int c]⟩) : CalP P w K mg base ca (k + 1) m name := by
  refine ⟨f, fd, x, hm, Fn.kp, hb, fun a oe c hc hz hf => funP Fn S (fun vs H Q E h => ?_) fun cdv A outer s H vs Q h => ⟨_, hg cdv A outer s H (a, oe) c hc ⟨⟨oe, List.mem_cons_self, hz, hf⟩, hC c hc⟩, ?_⟩⟩
  · obtain ⟨B, ds, _, r, e, _⟩ := h
    rw [r.length, e]; rfl
  · obtain ⟨B, ds, hB, r, en, h⟩ := h
    have eds : ds = [.exc a] := by
      match ds, en, h with
      | [.exc b], _, h =>
        simp only [Fcls] at h
        rw [(sat_if h).1]
    subst eds
    simp only [Fcls, if_true] at h
    refine ⟨H, _, start0 N.length [.exc a], rel_start hB r, ?_⟩
    show SatS K ca _ H _ _ (g a c (start0 N.length [.exc a]))
    rw [hF a c hc]
    exact h
theorem de_fnP {X : Cx} {ca : Nat → Addr} {W : WX} {x : Str} {p pos : Pos} {e : Expr} {fs : Ev → Res (List Rv)} {lvl k m c : Nat} {a : Addr} {oe : Obj} (C : CalP X.prog X.w X.K X.mg X.base ca lvl m x) (hr : RoomP k X.A) (hc : c < m) (hp : (a, oe) ∈ X.pn) (hz : Zc (.ref (ca c)) none oe) (hf : ∃ vs, oe.data = .fields vs)
    (ha : DA X ca W [e] fs) (hn : ∀ s rs, fs s = .ok rs → rs.length = 1) (hk : lvl ≤ k := by decide)
    (hg : Gl X x := by rfl) (hdb : (x == ("__debug__" : Str)) = false := by decide) (he : starEach [e] X.env = (false, eval e X.env) :: starEach [] X.env := by rfl) (hpl : (backTo pos (starEach [] X.env)).any (·.1) = false := by rfl) :
    DE X ca W (.Call (.Name x p) [e] [] pos) (fFn (Fcls a c) fs) := by
  obtain ⟨f, fd, y, hm, kp, hb, G⟩ := C
  refine (pe_callP (G a oe c hc hz hf) ⟨by have := hr.dp; omega, by have := hr.un; omega⟩ hp hg hm kp hb ha hdb he hpl).imp fun σ H Q h => ?_
  have h2 := fn_ok (ca := ca) (W := W) (Q := Q) hn h
  obtain ⟨Hin, Z, s, R, h2⟩ := h2
  refine ⟨Hin, Z, s, R, sat_mono h2 (fun rs h vs H' k1 q => ?_) fun _ h => h⟩
  obtain ⟨B, ds, hB, r, en, h⟩ := h vs H' k1 q
  refine ⟨B, ds, hB, r, en, ?_⟩
  match ds, en, h with
  | [.exc b], _, h =>
    simp only [Fcls] at h ⊢
    obtain ⟨z, h⟩ := sat_if h
    rw [if_pos z]
    exact h
/-! ### try -/
def tS0 (K : PySem.W.Frag) (ca : Nat → Addr) (W : WX) (f : Ev → Out) : TS := fun Dn σ H => ∃ Z s, Rel K H Z s σ H ∧ SatS K ca W H Z Dn (f s)
theorem tS0_tS {K : PySem.W.Frag} {ca : Nat → Addr} {W : WX} {f : Ev → Out} {Dn : Ends} {σ : L2.St} {H : Hp} (h : tS0 K ca W f Dn σ H) : tS K ca W f Dn σ H := ⟨H, h⟩
@[simp] def fTry (m : Nat) (fb : Ev → Out) (gs : Nat → Out) : Ev → Out := fun s => match fb s with
  | .exc c => if c < m then gs c else .stuck
  | o => o
@[simp] def catch0 (n i : Nat) (a : Addr) : Ev := st (List.replicate n .un) i (.sh (.exc a))
theorem rel_catch {K : PySem.W.Frag} {Hin Hin' : Hp} {Z : Addr → Prop} {H' : Hp} {σ : L2.St} {n i : Nat} {a : Addr} (hl : σ.length = n) (hi : i < n) (hb : Same Hin H') (hz : ∀ a, Z a → H' a ≠ none) : Rel K Hin Z (catch0 n i a) (σ.set i (some (.ref a))) H' := by
  have g : ∀ (j : Nat) (x : Sl), (catch0 n i a)[j]? = some x → (j = i ∧ x = .sh (.exc a)) ∨ x = .un := fun j x h => by
    simp only [catch0, st_eq, List.getElem?_set] at h
    by_cases z : i = j
    · rw [if_pos z, List.length_replicate] at h
      rw [if_pos hi] at h
      cases h
      exact .inl ⟨z.symm, rfl⟩
    · rw [if_neg z, List.getElem?_replicate] at h
      split at h
      · cases h; exact .inr rfl
      · cases h
  have now : ∀ (j : Nat) (d : D), (catch0 n i a)[j]? ≠ some (Sl.ow d) := fun j d h => by
    rcases g j _ h with ⟨_, q⟩ | q <;> cases q
  have noas : ∀ (j : Nat) (d : D), (catch0 n i a)[j]? ≠ some (Sl.as d) := fun j d h => by
    rcases g j _ h with ⟨_, q⟩ | q <;> cases q
  have nopn : ∀ (j : Nat) (v : V) (d : D), (catch0 n i a)[j]? ≠ some (Sl.pn v d) := fun j v d h => by
    rcases g j _ h with ⟨_, q⟩ | q <;> cases q
  have nodl : ∀ (j : Nat) (k : List (List Int × List D)), (catch0 n i a)[j]? ≠ some (Sl.dl k) := fun j k h => by
    rcases g j _ h with ⟨_, q⟩ | q <;> cases q
  have notr : ∀ (j : Nat) (d : D), (catch0 n i a)[j]? ≠ some (Sl.tr d) := fun j d h => by
    rcases g j _ h with ⟨_, q⟩ | q <;> cases q
  refine ⟨by simp [catch0, st_eq, hl], hb, hz, fun j d h => ?_, fun j d h => absurd h (now j d), fun j k d e p h => absurd h (now j d), fun j d h => absurd h (noas j d), fun j v d h => absurd h (nopn j v d), fun j k h => absurd h (nodl j k), .none notr⟩
  rcases g j _ h with ⟨q1, q2⟩ | q
  · cases q2
    subst q1
    exact ⟨_, by rw [List.getElem?_set]; simp [hl, hi], .exc a⟩
  · cases q
theorem ds_try {X : Cx} {ca : Nat → Addr} {W : WX} {x n : Str} {cR : Addr} {i m : Nat} {body suite : List Stmt} {b₀ : Stmt} {np pos pos' : Pos} {fb : Ev → Out} {gs : Nat → Out} {fs : Addr → Nat → Ev → Out} (hN : X.N.Nodup) (tk : Takes X W)
    (hc : X.mg x = some (.ref cR)) (hex : ∀ c, c < m → PySem.W.exmOne X.K (.ref (ca c)) (.ref cR) = some true)
    (hb : ∀ (W' : WX) (pn : List (Addr × Obj)) (xe : Value → Shared → Prop), Takes (X.tr pn xe) W' → DSs (X.tr pn xe) ca W' body fb)
    (hsu : ∀ (a : Addr) (oe : Obj) (c : Nat) (pn : List (Addr × Obj)), c < m → Zc (.ref (ca c)) none oe → (∃ vs, oe.data = .fields vs) → DSs (X.suite a ((a, oe) :: pn)) ca W0 (b₀ :: suite) (fs a c))
    (hgs : ∀ a c, c < m → fs a c (catch0 X.N.length i a) = gs c) (hrt : ∀ c, c < m → ∃ r, gs c = .rt r)
    (hi : X.N[i]? = some n := by rfl) (hs : X.stack = X.env :: X.outer := by rfl) (hf : X.env.frame = some X.env.locals := by rfl) (hln : X.env.kindOf n = some .local := by rfl) (hg : Gl X x := by rfl) (hd : (x == ("__debug__" : Str)) = false := by decide) :
    PS X (.Try body [.ExceptHandler (some (.Name x np)) (some n) (b₀ :: suite) pos'] [] [] pos) (tS0 X.K ca W (fTry m fb gs)) := by
  have hPS := ps_try_as (X := X) (x := x) (n := n) (c := .ref cR) (i := i) (np := np) (pos := pos) (pos' := pos') (body := body) (suite := suite) (b₀ := b₀) (Wout := W) (tb := fun W' => tS X.K ca W' fb)
    (ts := fun a cls d D σ H => σ.length = X.N.length → ∃ c, c < m ∧ cls = .ref (ca c) ∧ d = none ∧ tS X.K ca W0 (fs a c) D σ H) hs hf hN hi hln ⟨hg, hd, .inl hc⟩ tk (fun W' pn xe tk' _ => hb W' pn xe tk') (fun a oe cls d pn hz hf => by
      refine ⟨fun pins s σ H D I h => ?_⟩
      obtain ⟨c, hc, ec, ed, h3⟩ := h I.len
      subst ec ed
      exact (hsu a oe c pn hc hz hf).run pins s σ H D I h3)
  refine ⟨fun pins s σ H D I h => hPS.run pins s σ H D I ?_⟩
  obtain ⟨Z, sv, R, h⟩ := h
  refine ⟨H, Z, sv, R, ?_⟩
  simp only [fTry] at h
  cases ef : fb sv with
  | exc c =>
    rw [ef] at h
    dsimp only at h
    by_cases q : c < m
    · rw [if_pos q] at h
      intro σ' H' k'
      refine ⟨true, hex c q, fun _ a _ hl => ⟨c, q, rfl, rfl, H, Z, catch0 X.N.length i a, rel_catch (Hin' := H) (by simpa using hl) (List.getElem?_eq_some_iff.mp hi).1 k' (fun b z hn => R.zin b z (k'.free hn)), ?_⟩, fun z => nomatch z⟩
      rw [hgs a c q]
      obtain ⟨r, er⟩ := hrt c q
      rw [er] at h ⊢
      exact h
    · rw [if_neg q] at h; exact h.elim
  | nx s' => rw [ef] at h; exact h
  | rt r => rw [ef] at h; exact h
  | bk s' => rw [ef] at h; exact h
  | ct s' => rw [ef] at h; exact h
  | stuck => rw [ef] at h; exact h
theorem dss_oneT {X : Cx} {ca : Nat → Addr} {W : WX} {q : Stmt} {f : Ev → Out} (h : PS X q (tS0 X.K ca W f)) : PSs X [q] (tS0 X.K ca W f) := pss_one h
theorem dss_consT {X : Cx} {ca : Nat → Addr} {W : WX} {q : Stmt} {rest : List Stmt} {f g : Ev → Out} (h1 : PS X q (tS0 X.K ca W f)) (h2 : DSs X ca W rest g) : PSs X (q :: rest) (tS0 X.K ca W (fSeq f g)) := (pss_cons h1 h2).imp fun Dn σ H h => by
  obtain ⟨Z, s, R, h⟩ := h
  refine ⟨Z, s, R, ?_⟩
  simp only [fSeq] at h
  cases ef : f s with
  | nx s' => rw [ef] at h; exact fun σ' H' R' => ⟨H, Z, s', R', h⟩
  | rt r => rw [ef] at h; exact h
  | bk s' => rw [ef] at h; exact h
  | ct s' => rw [ef] at h; exact h
  | exc c => rw [ef] at h; exact h
  | stuck => rw [ef] at h; exact h
end DL
/-! Deep own objects: bound by calls with plain arguments, looked at, changed within. -/
namespace DL
open PySem PySem.Spec L2
/-! ### looked at -/
@[simp] def wk1 : Sl → Sl
  | .as d => .sh d
  | .dl _ => .un
  | .tr d => .sh d
  | x => x
@[simp] def wake (s : Ev) : Ev := s.map wk1
section
variable {K : PySem.W.Frag} {Hin Hin' H H' : Hp} {Z : Addr → Prop} {s : Ev} {σ : L2.St} {p : Addr}
theorem wake_ow {i : Nat} {d : D} : (wake s)[i]? = some (.ow d) ↔ s[i]? = some (.ow d) := by
  rw [wake, List.getElem?_map]
  cases e : s[i]? with
  | none => simp
  | some x => cases x <;> simp
theorem wake_priv {a : Addr} : priv (wake s) σ a ↔ priv s σ a :=
  ⟨fun ⟨i, d, h1, h2⟩ => ⟨i, d, wake_ow.mp h1, h2⟩, fun ⟨i, d, h1, h2⟩ => ⟨i, d, wake_ow.mpr h1, h2⟩⟩
theorem Rel.wake (R : Rel K Hin Z s σ H) : Rel K Hin (fun a => Z a ∧ Hin a ≠ none) (DL.wake s) σ H := by
  have g : Same (Rg Z s σ H) (Rg (fun a => Z a ∧ Hin a ≠ none) (DL.wake s) σ H) := hide_mono (Same.refl _) fun a _ _ q => q.imp (fun z => z.1) wake_priv.mp
  refine ⟨by simpa using R.len, R.base, fun a z => R.zin a z.1, fun i d h => ?_, fun i d h => ?_, fun i j d e p h1 h2 => R.inj i j d e p (wake_ow.mp h1) (wake_ow.mp h2), fun i d h => ?_, fun i v d h => ?_, fun i k h => ?_, .none fun i d h => ?_⟩
  · rw [DL.wake, List.getElem?_map] at h
    cases e : s[i]? with
    | none => rw [e] at h; cases h
    | some x =>
      rw [e] at h
      cases x with
      | un => cases h
      | pn _ _ => cases h
      | dl _ => cases h
      | tr d' =>
        cases h
        obtain ⟨fp, t1, _⟩ := R.tr
        obtain ⟨v, h1, h2, _, h4⟩ := t1 i _ e
        refine ⟨v, h1, h2.rp (fun a z => hide_it z) fun a ha => hide_no fun q => ?_⟩
        exact q.elim (fun q => q.2 (h4 a ha).2) fun q => (R.privH (wake_priv.mp q)).2.1 (h4 a ha).1
      | ow _ => cases h
      | sh d' =>
        cases h
        obtain ⟨v, h1, h2⟩ := R.sh i _ e
        exact ⟨v, h1, h2.mono g⟩
      | as d' =>
        cases h
        obtain ⟨p, h1, h2, h3⟩ := R.as i _ e
        have n : ∀ a, Z a → Hin a = none → ¬ ((Z a ∧ Hin a ≠ none) ∨ priv (DL.wake s) σ a) := fun a z hn q => q.elim (fun q => q.2 hn) fun q => (R.privH (wake_priv.mp q)).2.1 z
        refine ⟨_, h1, (h3.mono (fun a o q => ?_) (Same.refl _)).rp (hide_no (n p h2.1 h2.2))⟩
        obtain ⟨m, q1⟩ := hide_some q
        rcases m with m | m
        · have m' := Classical.not_not.mp m
          exact (hide_no (n a m'.1.1 m'.1.2)).trans q1
        · exact (hide_it m).trans q1
  · obtain ⟨p, h1, h2, h3, h4⟩ := R.ow i d (wake_ow.mp h)
    exact ⟨p, h1, fun z => h2 z.1, h3, h4.mono g (Same.refl _)⟩
  · rw [DL.wake, List.getElem?_map] at h
    cases e : s[i]? with
    | none => rw [e] at h; cases h
    | some x => rw [e] at h; cases x <;> cases h
  · rw [DL.wake, List.getElem?_map] at h
    cases e : s[i]? with
    | none => rw [e] at h; cases h
    | some x =>
      rw [e] at h
      cases x with
      | pn v' d' =>
        cases h
        obtain ⟨h1, h2⟩ := R.pn i _ _ e
        exact ⟨h1, h2.mono g⟩
      | _ => cases h
  · rw [DL.wake, List.getElem?_map] at h
    cases e : s[i]? with
    | none => rw [e] at h; cases h
    | some x => rw [e] at h; cases x <;> cases h
  · rw [DL.wake, List.getElem?_map] at h
    cases e : s[i]? with
    | none => rw [e] at h; cases h
    | some x => rw [e] at h; cases x <;> cases h
end
section
variable {X : Cx} {ca : Nat → Addr} {W : WX} {a b c e : Expr} {es : List Expr} {pos : Pos} {q : Stmt} {rest : List Stmt} {f g : Ev → Out}
theorem dt_wake {t : Ev → Res Bool} (h : DT X ca W e t) : DT X ca W e (fun s => t (wake s)) := h.imp fun σ H Q ⟨Hin, Z, s, R, q⟩ => ⟨Hin, _, wake s, R.wake, q⟩
/-! ### bound -/
def noNx : Out → Out
  | .rt r => .rt r
  | .exc c => .exc c
  | _ => .stuck
theorem satS_grow {K : PySem.W.Frag} {Hin : Hp} {Z Z' : Addr → Prop} {Dn : Ends} (e : ∀ a, Z a → Z' a) {o : Out} (h : SatS K ca W Hin Z Dn (noNx o)) : SatS K ca W Hin Z' Dn o := by
  cases o with
  | nx s => exact h.elim
  | bk s => exact h.elim
  | ct s => exact h.elim
  | stuck => exact h.elim
  | exc c => exact h
  | rt r =>
    intro v H' k q
    obtain ⟨kd, d⟩ := r
    cases kd with
    | sh => exact h v H' k (Rp.mono (hide_mono (Same.refl _) fun a _ _ z => e a z) q)
    | fr =>
      obtain ⟨p, h1, h2, h3⟩ := q
      exact h v H' k ⟨p, h1, h2, h3.mono (hide_mono (Same.refl _) fun a _ _ z => z.imp (e a) id) (Same.refl _)⟩
    | ow => exact h v H' k (RetX.imp q (Same.refl _) e)
/-- what a call with plain arguments gives goes into a slot -/
@[simp] def putD (j : Nat) (s : Ev) (g : Ev → Out) : Rv → Out
  | ⟨.fr, .lst ds⟩ => noNx (g (st s j (.as (.lst ds))))
  | ⟨.sh, d⟩ => g (st s j (.sh d))
  | _ => .stuck
@[simp] def fDeep (j : Nat) (F : List D → Res Rv) (fs : Ev → Res (List Rv)) (g : Ev → Out) : Ev → Out := fun s => bndR (fs s) fun rs => if (rs.map (·.d)).all scalar = true then bndR (F (rs.map (·.d))) (putD j s g) else .stuck
theorem Rel.setAs {K : PySem.W.Frag} {Hin H H' : Hp} {Z : Addr → Prop} {s : Ev} {σ : L2.St} {p : Addr} (R : Rel K Hin Z s σ H) {d : D} (e : Same H H') (hp : H p = none) (o : Own K (hide (fun a => H a ≠ none ∨ a = p) H') H' p d) (j : Nat) :
    Rel K Hin (fun a => Z a ∨ (H a = none ∧ H' a ≠ none)) (st s j (.as d)) (σ.set j (some (.ref p))) H' := by
  rw [st_eq]
  have pv : ∀ a, priv (s.set j (.as d)) (σ.set j (some (.ref p))) a → priv s σ a := fun a ⟨i, f, h1, h2⟩ => by
    rw [List.getElem?_set] at h1 h2
    by_cases q : j = i
    · rw [if_pos q] at h1
      split at h1 <;> cases h1
    · rw [if_neg q] at h1 h2
      exact ⟨i, f, h1, h2⟩
  have g : Same (Rg Z s σ H) (Rg (fun a => Z a ∨ (H a = none ∧ H' a ≠ none)) (s.set j (.as d)) (σ.set j (some (.ref p))) H') := hide_mono e fun a na _ q => by
    rcases q with (q | q) | q
    · exact .inl q
    · exact absurd q.1 na
    · exact .inr (pv a q)
  refine ⟨by simpa using R.len, R.base.trans e, fun a z => ?_, fun i f h => ?_, fun i f h => ?_, fun i k f f' q h1 h2 h3 h4 => ?_, fun i f h => ?_, pn_set R.pn g (fun _ _ y => nomatch y), fun i k h => by
      rw [List.getElem?_set] at h
      by_cases q : j = i
      · rw [if_pos q] at h; split at h <;> cases h
      · rw [if_neg q] at h
        obtain ⟨w, h1, h2⟩ := R.dl i k h
        exact ⟨w, by rw [List.getElem?_set, if_neg q]; exact h1, h2.mono (fun _ _ a b => ⟨.inl a, b⟩) e g⟩, (tr_set (x := .as d) R.tr e (fun _ y => nomatch y)).mono (fun _ _ a b => ⟨.inl a, b⟩) (Same.refl _)⟩
  · rcases z with z | z
    · exact fun q => R.zin a z (e.free q)
    · exact z.2
  · rw [List.getElem?_set] at h
    by_cases q : j = i
    · rw [if_pos q] at h; split at h <;> cases h
    · rw [if_neg q] at h
      obtain ⟨w, h1, h2⟩ := R.sh i f h
      exact ⟨w, by rw [List.getElem?_set, if_neg q]; exact h1, h2.mono g⟩
  · rw [List.getElem?_set] at h
    by_cases q : j = i
    · rw [if_pos q] at h; split at h <;> cases h
    · rw [if_neg q] at h
      obtain ⟨w, h1, h2, h3, h4⟩ := R.ow i f h
      exact ⟨w, by rw [List.getElem?_set, if_neg q]; exact h1, fun z => z.elim h2 fun z => h4.there z.1, h3, h4.mono g e⟩
  · rw [List.getElem?_set] at h1 h2 h3 h4
    by_cases q1 : j = i
    · rw [if_pos q1] at h1; split at h1 <;> cases h1
    · by_cases q2 : j = k
      · rw [if_pos q2] at h2; split at h2 <;> cases h2
      · rw [if_neg q1] at h1 h3
        rw [if_neg q2] at h2 h4
        exact R.inj i k f f' q h1 h2 h3 h4
  · rw [List.getElem?_set] at h
    by_cases q : j = i
    · rw [if_pos q] at h
      split at h
      · rename_i hl
        cases h
        refine ⟨p, by rw [List.getElem?_set, if_pos q, if_pos (by rw [← R.len]; exact hl)], ⟨.inr ⟨hp, o.there⟩, R.base.free hp⟩, o.mono (fun a u y => ?_) (Same.refl _)⟩
        obtain ⟨n, y1⟩ := hide_some y
        by_cases it : IT H' a
        · exact (hide_it it).trans y1
        have n := n.resolve_right it
        have n1 : H a = none := Classical.byContradiction fun z => n (.inl z)
        have n2 : a ≠ p := fun z => n (.inr z)
        exact (hide_no (fun z => z ⟨⟨.inr ⟨n1, by rw [y1]; simp⟩, R.base.free n1⟩, n2⟩)).trans y1
      · cases h
    · rw [if_neg q] at h
      obtain ⟨w, h1, h2⟩ := R.as i f h
      exact ⟨w, by rw [List.getElem?_set, if_neg q]; exact h1, h2.mono (fun a _ z y => ⟨.inl z, y⟩) e⟩
theorem dss_deep (j : Nat) {x y : Str} {p py spos : Pos} {ps : List Str} {F : List D → Res Rv} {fs : Ev → Res (List Rv)} {lvl k : Nat} (C : Cal X.prog X.w X.K X.mg X.base ca lvl x ps F) (hr : Room k X.A) (hW : ∀ σ, PassesAt (L2.CX X.prog X.w) X σ (WE W σ)) (ha : DA X ca W (e :: es) fs) (hn : ∀ s rs, fs s = .ok rs → rs.length = ps.length)
    (h2 : DSs X ca W rest g) (hN : X.N.Nodup) (hk : lvl ≤ k := by decide) (hi : X.N[j]? = some y := by rfl) (hy : Loc X.env.scope y := by first | exact Or.inl rfl | exact Or.inr rfl) (hs : swapsWith (.Call (.Name x p) (e :: es) [] pos) (some (.Name y py)) spos.line X.env = pure false := by rfl) (hf : X.fn y = true ∨ X.env.scope.names.lookup y = some .local := by first | exact .inl rfl | exact .inr rfl | assumption)
    (hg : Gl X x := by rfl) (hdb : (x == ("__debug__" : Str)) = false := by decide) (he : starEach (e :: es) X.env = (false, eval e X.env) :: starEach es X.env := by rfl) (hpl : (backTo pos (starEach es X.env)).any (·.1) = false := by rfl) :
    DSs X ca W (.Assign [.Name y py] (.Call (.Name x p) (e :: es) [] pos) spos :: rest) (fDeep j F fs g) := by
  obtain ⟨f, fd, hm, kp, hb, G⟩ := C
  refine (pss_cons (ps_set hN hi hy (pe_callS (E := WE W) G (hr.mono hk) hg hm kp hb hW ha hdb he hpl) hs hf) h2).imp fun Dn σ H h => ?_
  obtain ⟨Hin, Z, s, R, h⟩ := h
  simp only [fDeep] at h
  cases efs : fs s with
  | exc c => rw [efs] at h; exact ⟨Hin, Z, s, R, by rw [efs]; exact fun H' k => h σ H' (R.base.trans k)⟩
  | stuck => rw [efs] at h; exact h.elim
  | ok rs =>
  rw [efs] at h
  refine tA_go R ?_
  rw [efs]
  intro vs H1 k1 R1 q1
  replace h : SatS X.K ca W Hin Z Dn (if (rs.map (·.d)).all scalar = true then bndR (F (rs.map (·.d))) (putD j s g) else .stuck) := h
  by_cases hsc : (rs.map (·.d)).all scalar = true
  · rw [if_pos hsc] at h
    have hlen : (rs.map (·.d)).length = ps.length := by rw [List.length_map]; exact hn s rs efs
    refine ⟨fun _ => none, rs.map (·.d), (fun a o z => nomatch z), scalars_rp q1.full hsc, hlen, ?_⟩
    cases eF : F (rs.map (·.d)) with
    | stuck => rw [eF] at h; exact h.elim
    | exc c => rw [eF] at h; exact fun H' k => h σ H' ((R1.base).trans k)
    | ok r =>
      rw [eF] at h
      intro v H' k' q
      obtain ⟨kd, d⟩ := r
      cases kd with
      | ow => exact h.elim
      | sh =>
        refine ⟨Hin, Z, st s j (.sh d), (R1.mono k').setSh (Rp.mono (hide_mono (Same.refl _) fun a _ _ z => ⟨?_, rfl⟩) q) j, h⟩
        rcases z with z | z
        · exact R1.zin a z
        · exact (R1.privH z).1
      | fr =>
        obtain ⟨p, rfl, hp, ho⟩ := q
        cases d with
        | lst ds =>
          refine ⟨Hin, _, st s j (.as (.lst ds)), R1.setAs k' hp (ho.mono (hide_mono (Same.refl _) fun a _ _ z => z.imp (fun z => ⟨z, rfl⟩) id) (Same.refl _)) j, satS_grow (fun a z => .inl z) h⟩
        | _ => exact h.elim
  · rw [if_neg hsc] at h; exact h.elim
/-! ### changed -/
@[simp] def dull (d : D) : D := if scalar d = true then d else .any
theorem dull_rp {K : PySem.W.Frag} {R R' : Hp} {v : V} {d : D} (h : Rp K R v d) : Rp K R' v (dull d) := by
  simp only [dull]
  by_cases q : scalar d = true
  · rw [if_pos q]; exact scalar_rp h q
  · rw [if_neg q]; exact .any v
theorem dulls_rp {K : PySem.W.Frag} {R R' : Hp} : ∀ {vs : List V} {ds : List D}, RpL K R vs ds → RpL K R' vs (ds.map dull)
  | _, _, .nil => .nil
  | _, _, .cons h r => .cons (dull_rp h) (dulls_rp r)
@[simp] def noAs : Ev → Bool
  | [] => true
  | .as _ :: _ => false
  | .dl _ :: _ => false
  | .tr _ :: _ => false
  | _ :: r => noAs r
theorem noAs_no : ∀ {s : Ev}, noAs s = true → ∀ (i : Nat) (d : D), s[i]? ≠ some (Sl.as d)
  | [], _, i, d, h => by simp at h
  | x :: r, e, 0, d, h => by
    simp at h
    subst h
    simp at e
  | x :: r, e, i + 1, d, h => noAs_no (s := r) (by cases x <;> simp_all) i d (by simpa using h)
theorem noAs_dl : ∀ {s : Ev}, noAs s = true → ∀ (i : Nat) (k : List (List Int × List D)), s[i]? ≠ some (Sl.dl k)
  | [], _, i, d, h => by simp at h
  | x :: r, e, 0, d, h => by
    simp at h
    subst h
    simp at e
  | x :: r, e, i + 1, d, h => noAs_dl (s := r) (by cases x <;> simp_all) i d (by simpa using h)
theorem noAs_tr : ∀ {s : Ev}, noAs s = true → ∀ (i : Nat) (d : D), s[i]? ≠ some (Sl.tr d)
  | [], _, i, d, h => by simp at h
  | x :: r, e, 0, d, h => by
    simp at h
    subst h
    simp at e
  | x :: r, e, i + 1, d, h => noAs_tr (s := r) (by cases x <;> simp_all) i d (by simpa using h)
theorem Rel.mutAs {K : PySem.W.Frag} {Hin H : Hp} {Z : Addr → Prop} {s : Ev} {σ : L2.St} {p q : Addr} {o : HO} (R : Rel K Hin Z s σ H) {i : Nat} {d : D} (hno : noAs (st s i .un) = true) (hp : σ[i]? = some (some (.ref p))) (hq : Z q ∧ Hin q = none) (hnq : ¬ IT H q) (hi : i < s.length) (hA : AsP K Hin Z (upd H q o) p d) :
    Rel K Hin Z (st s i (.as d)) σ (upd H q o) := by
  have nt : ∀ (j : Nat) (f : D), i ≠ j → s[j]? ≠ some (Sl.as f) := fun j f q z => noAs_no hno j f (by rw [st_eq, List.getElem?_set, if_neg q]; exact z)
  have pv : ∀ a, priv (st s i (.as d)) σ a → priv s σ a := fun a ⟨j, f, h1, h2⟩ => by
    rw [st_eq, List.getElem?_set] at h1
    by_cases q : i = j
    · rw [if_pos q] at h1; split at h1 <;> cases h1
    · rw [if_neg q] at h1; exact ⟨j, f, h1, h2⟩
  have g : Same (Rg Z s σ H) (Rg Z (st s i (.as d)) σ (upd H q o)) := hide_upd hnq (.inl hq.1) fun a y => y.imp id (pv a)
  refine ⟨by rw [st_eq]; simpa using R.len, fun a u h => ?_, fun a z => ?_, fun j e h => ?_, fun j e h => ?_, fun j k e f r h1 h2 h3 h4 => ?_, fun j e h => ?_, by rw [st_eq] at g ⊢; exact pn_set0 R.pn g (fun _ _ y => nomatch y), fun j k h => by
    rw [st_eq, List.getElem?_set] at h
    by_cases y : i = j
    · rw [if_pos y] at h; split at h <;> cases h
    · rw [if_neg y] at h
      exact absurd (by rw [st_eq, List.getElem?_set, if_neg y]; exact h) (noAs_dl hno j k), .none fun j k h => by
    rw [st_eq, List.getElem?_set] at h
    by_cases y : i = j
    · rw [if_pos y] at h; split at h <;> cases h
    · rw [if_neg y] at h
      exact absurd (by rw [st_eq, List.getElem?_set, if_neg y]; exact h) (noAs_tr hno j k)⟩
  · rw [upd_ne (ne_of_none h hq.2)]; exact R.base _ _ h
  · by_cases y : a = q
    · rw [y, upd_same]; simp
    · rw [upd_ne y]; exact R.zin a z
  · rw [st_eq, List.getElem?_set] at h
    by_cases y : i = j
    · rw [if_pos y] at h; split at h <;> cases h
    · rw [if_neg y] at h
      obtain ⟨w, h1, h2⟩ := R.sh j e h
      exact ⟨w, h1, h2.mono g⟩
  · rw [st_eq, List.getElem?_set] at h
    by_cases y : i = j
    · rw [if_pos y] at h; split at h <;> cases h
    · rw [if_neg y] at h
      obtain ⟨w, h1, h2, h3, h4⟩ := R.ow j e h
      exact ⟨w, h1, h2, h3, own_upd h4 g fun z => h2 (by rw [z]; exact hq.1)⟩
  · rw [st_eq, List.getElem?_set] at h1 h2
    by_cases q1 : i = j
    · rw [if_pos q1] at h1; split at h1 <;> cases h1
    · by_cases q2 : i = k
      · rw [if_pos q2] at h2; split at h2 <;> cases h2
      · rw [if_neg q1] at h1
        rw [if_neg q2] at h2
        exact R.inj j k e f r h1 h2 h3 h4
  · rw [st_eq, List.getElem?_set] at h
    by_cases y : i = j
    · rw [if_pos y, if_pos hi] at h
      cases h
      subst y
      exact ⟨p, hp, hA⟩
    · rw [if_neg y] at h
      exact absurd h (nt j e y)
/-- x.append(e), x a deep own list -/
@[simp] def fAppA (i : Nat) (fe : Ev → Res Rv) : Ev → Out := fun s => match gt s i with
  | .as (.lst ds) => bndR (fe s) fun r => if ds.length < lim ∧ noAs (st s i .un) = true then .nx (st s i (.as (.lst (ds ++ [dull r.d])))) else .stuck
  | _ => .stuck
/-- x[k].append(e), x a deep own list -/
@[simp] def fAppK (i : Nat) (k : Nat) (fe : Ev → Res Rv) : Ev → Out := fun s => match gt s i with
  | .as (.lst ds) => match ds[k]? with
    | some (.lst es) => bndR (fe s) fun r => if es.length < lim ∧ noAs (st s i .un) = true then .nx (st s i (.as (.lst ((ds.map dull).set k (.lst (es.map dull ++ [dull r.d])))))) else .stuck
    | _ => .stuck
  | _ => .stuck
theorem gt_as {i : Nat} {s : Ev} {d : D} (h : gt s i = .as d) : s[i]? = some (.as d) := gt_eq s i _ (by simp) h
theorem ds_appA (i : Nat) {x : Str} {fe : Ev → Res Rv} {p1 apos cpos spos : Pos} (he : DE X ca W e fe) (pa : PlainAttrs "list") (slot : Slot "list" "append" "list.append") (hty : typeOf (.builtin "list.append") = pure (.type "method_descriptor"))
    (hN : X.N[i]? = some x := by rfl) (hv : Vis X.env.scope x := by first | exact Or.inl rfl | exact Or.inr (Or.inl rfl) | exact Or.inr (Or.inr rfl)) (hd : (x == ("__debug__" : Str)) = false := by decide) (hcd : (x == ("__classdict__" : Str)) = false := by decide)
    (hbase : attributeBase (.Name x p1) "append" X.env (eval (.Name x p1) X.env) = eval (.Name x p1) X.env := by rfl)
    (hfew : ((backTo cpos (starEach [e] X.env)).all (fun x => !x.1) && (backToKw cpos (keywordEach [] X.env)).all (fun x => x.1.isSome)
      && decide (([e] : List Expr).length + ([] : List Keyword).length + (if ([] : List Keyword).isEmpty then 0 else 1) < 30)) = true := by rfl)
    (hline : (apos.endLine == cpos.line) = true := by rfl) (hst : starEach [e] X.env = (false, eval e X.env) :: starEach [] X.env := by rfl) (hplain : (backTo cpos (starEach [] X.env)).any (·.1) = false := by rfl)
    (hs : swapsWith (.Call (.Attribute (.Name x p1) "append" apos) [e] [] cpos) none spos.line X.env = pure false := by rfl) : DS X ca W (.Expr (.Call (.Attribute (.Name x p1) "append" apos) [e] [] cpos) spos) (fAppA i fe) :=
  (ps_expr (pe_bm pa slot hty md_append.1 (pe_var hN hv hd hcd) (da_cons he da_nil hst) hbase hfew hline hst hplain) hs).imp fun Dn σ H h => by
    obtain ⟨Hin, Z, s, R, h⟩ := h
    simp only [fAppA] at h
    cases eg : gt s i with
    | as d =>
      cases d with
      | lst ds =>
        rw [eg] at h
        dsimp only at h
        have eg' := gt_as eg
        obtain ⟨p, hp, hz, xs, h1, h2⟩ := R.as i _ eg'
        have hsz : i < s.length := (List.getElem?_eq_some_iff.mp eg').1
        refine ⟨.ref p, hp, .inl ⟨rfl, xs, SqL.of h1⟩, ?_⟩
        refine ⟨Hin, Z, s, R, ?_⟩
        cases ef : fe s with
        | stuck => rw [ef] at h; exact h.elim
        | exc c => rw [ef] at h; simp only [fCons, ef]; exact fun H' k => h σ H' (R.base.trans k)
        | ok r =>
          rw [ef] at h
          simp only [fCons, ef]
          intro vs H1 k1 q1
          replace h : SatS X.K ca W Hin Z Dn (if ds.length < lim ∧ noAs (st s i .un) = true then .nx (st s i (.as (.lst (ds ++ [dull r.d])))) else .stuck) := h
          split at h
          · rename_i hc
            obtain ⟨v, rfl, q2⟩ := q1.one
            have e1 := k1 _ _ h1
            refine ⟨p, xs, v, rfl, rfl, e1, by rw [h2.length]; exact lt_line hc.1, h σ _ ((R.mono k1).mutAs hc.2 hp hz (not_it e1 fun _ z => nomatch z) hsz ⟨hz, _, upd_same, ?_⟩)⟩
            exact (h2.mono (fun a u y => hide_upd (not_it e1 fun _ z => nomatch z) (fun y => y.2 rfl) (fun _ y => y) a u (hide_mono k1 (fun _ _ _ y => y) a u y))).app (.cons (dull_rp q2.full) .nil)
          · exact h.elim
      | _ => rw [eg] at h; exact h.elim
    | _ => rw [eg] at h; exact h.elim
theorem RpL.setD {K : PySem.W.Frag} {R : Hp} {v : V} {d : D} (h : Rp K R v d) : ∀ {vs : List V} {ds : List D} {k : Nat}, RpL K R vs ds → vs[k]? = some v → RpL K R vs (ds.set k d)
  | _, _, _, .nil, _ => .nil
  | _, _, 0, .cons _ r, e => by simp at e; subst e; exact .cons h r
  | _, _, k + 1, .cons h' r, e => .cons h' (RpL.setD h (k := k) r (by simpa using e))
theorem ds_appK (i k : Nat) {x : Str} {fe : Ev → Res Rv} {p1 p2 p3 apos cpos spos : Pos} {jk : Nat} (he : DE X ca W e fe) (pa : PlainAttrs "list") (slot : Slot "list" "append" "list.append") (hty : typeOf (.builtin "list.append") = pure (.type "method_descriptor"))
    (hN : X.N[i]? = some x := by rfl) (hv : Vis X.env.scope x := by first | exact Or.inl rfl | exact Or.inr (Or.inl rfl) | exact Or.inr (Or.inr rfl)) (hd : (x == ("__debug__" : Str)) = false := by decide) (hcd : (x == ("__classdict__" : Str)) = false := by decide)
    (hbase : attributeBase (.Subscript (.Name x p1) (.Constant (.int (k : Int)) jk p2) p3) "append" X.env (eval (.Subscript (.Name x p1) (.Constant (.int (k : Int)) jk p2) p3) X.env) = eval (.Subscript (.Name x p1) (.Constant (.int (k : Int)) jk p2) p3) X.env := by rfl)
    (hix : PlainIx (.Constant (.int (k : Int)) jk p2) := by intro _ _; rfl)
    (hfew : ((backTo cpos (starEach [e] X.env)).all (fun x => !x.1) && (backToKw cpos (keywordEach [] X.env)).all (fun x => x.1.isSome)
      && decide (([e] : List Expr).length + ([] : List Keyword).length + (if ([] : List Keyword).isEmpty then 0 else 1) < 30)) = true := by rfl)
    (hline : (apos.endLine == cpos.line) = true := by rfl) (hst : starEach [e] X.env = (false, eval e X.env) :: starEach [] X.env := by rfl) (hplain : (backTo cpos (starEach [] X.env)).any (·.1) = false := by rfl)
    (hs : swapsWith (.Call (.Attribute (.Subscript (.Name x p1) (.Constant (.int (k : Int)) jk p2) p3) "append" apos) [e] [] cpos) none spos.line X.env = pure false := by rfl) : DS X ca W (.Expr (.Call (.Attribute (.Subscript (.Name x p1) (.Constant (.int (k : Int)) jk p2) p3) "append" apos) [e] [] cpos) spos) (fAppK i k fe) :=
  (ps_expr (pe_bm pa slot hty md_append.1 (pe_ix od_ix.1 (pe_var hN hv hd hcd) pe_int hix) (da_cons he da_nil hst) hbase hfew hline hst hplain) hs).imp fun Dn σ H h => by
    obtain ⟨Hin, Z, s, R, h⟩ := h
    simp only [fAppK] at h
    cases eg : gt s i with
    | as d =>
      cases d with
      | lst ds =>
        rw [eg] at h
        dsimp only at h
        have eg' := gt_as eg
        obtain ⟨p, hp, hz, xs, h1, h2⟩ := R.as i _ eg'
        have hsz : i < s.length := (List.getElem?_eq_some_iff.mp eg').1
        cases ed : ds[k]? with
        | none =>
          rw [ed] at h; exact h.elim
        | some dk =>
          cases dk with
          | lst es =>
            rw [ed] at h
            obtain ⟨v, hv1, hv2⟩ := h2.get ed
            cases hv2 with
            | lst hq1 hq2 =>
              rename_i q ys
              have nq := hide_lst hq1 fun _ z => nomatch z
              have hq := (hide_some hq1).2
              have nq' := Classical.not_not.mp nq
              refine ⟨.ref p, hp, .inl ⟨p, xs, k, .ref q, rfl, rfl, SqL.of h1, atI_nat hv1, ?_⟩⟩
              refine ⟨.inl ⟨rfl, ys, SqL.of hq⟩, Hin, Z, s, R, ?_⟩
              cases ef : fe s with
              | stuck => rw [ef] at h; exact h.elim
              | exc c => rw [ef] at h; simp only [fCons, ef]; exact fun H' k => h σ H' (R.base.trans k)
              | ok r =>
                rw [ef] at h
                simp only [fCons, ef]
                intro vs H1 k1 q1
                replace h : SatS X.K ca W Hin Z Dn (if es.length < lim ∧ noAs (st s i .un) = true then .nx (st s i (.as (.lst ((ds.map dull).set k (.lst (es.map dull ++ [dull r.d])))))) else .stuck) := h
                split at h
                · rename_i hc
                  obtain ⟨w, rfl, q2⟩ := q1.one
                  have e1 := k1 _ _ hq
                  refine ⟨q, ys, w, rfl, rfl, e1, by rw [hq2.length]; exact lt_line hc.1, h σ _ ((R.mono k1).mutAs hc.2 hp nq'.1 (not_it e1 fun _ z => nomatch z) hsz ⟨hz, xs, (upd_ne (Ne.symm nq'.2)).trans (k1 _ _ h1), ?_⟩)⟩
                  refine RpL.setD (v := .ref q) (.lst (xs := ys ++ [w]) ((hide_no nq).trans upd_same) ((dulls_rp hq2).app (.cons (dull_rp q2.full) .nil))) (dulls_rp h2) hv1
                · exact h.elim
          | _ =>
            rw [ed] at h; exact h.elim
      | _ => rw [eg] at h; exact h.elim
    | _ => rw [eg] at h; exact h.elim
theorem cal_ofT {P : Program} {w : World} {K : PySem.W.Frag} {mg : Str → Option Value} {base : Heap} {ca : Nat → Addr} {name : Str} {st : Stmt} {f : Addr} {fd : FuncData} {N ps : List Str} {k : Nat} {F : List D → Res Rv} (Fn : L2.Fun K name name st f fd) (hm : mg name = some (.ref f)) (hb : Binds K fd ps []) (S : FnScope N ps (defScope st))
    (g : Ev → Out) (hg : ∀ (cdv : Value) (A : Around) (outer : List Env) (s : Shared) (H : Hp) (E : XK), Room k (A.deeper (PyProof.Rows.envOfC name (defScope st) s.heap.objs.size f cdv)) →
      Takes (cxOf (L2.CX P w) P w K mg base N name (defScope st) f cdv A outer s H E) (fun cls d _ H => E cls d H) →
      PassesOwn (model P w) (A.deeper (PyProof.Rows.envOfC name (defScope st) s.heap.objs.size f cdv)) (PyProof.Rows.envOfC name (defScope st) s.heap.objs.size f cdv) (cxOf (L2.CX P w) P w K mg base N name (defScope st) f cdv A outer s H E).xe →
      PSs (cxOf (L2.CX P w) P w K mg base N name (defScope st) f cdv A outer s H E) (defBody st) (tS0 K ca (fun cls d _ H => E cls d H) g))
    (hF : ∀ ds r, F ds = r → r ≠ .stuck → fin (g (start0 N.length ds)) = r) : Cal P w K mg base ca (k + 1) name ps F := by
  refine ⟨f, fd, hm, Fn.kp, hb, Fn.okX S (fun vs H Q E h => ?_) (fun cdv A outer s H vs Q E hr h => ⟨_, hg cdv A outer s H E hr (takes_of rfl rfl rfl rfl) (passes_of rfl), ?_⟩)⟩
  · obtain ⟨B, ds, _, r, e, _⟩ := h
    rw [r.length, e]
  · obtain ⟨B, ds, hB, r, en, h⟩ := h
    have nst : F ds ≠ .stuck := fun z => by rw [z] at h; exact h
    have ef := hF ds _ rfl nst
    refine ⟨_, start0 N.length ds, rel_start hB r, ?_⟩
    cases eg : g (start0 N.length ds) with
    | nx s' =>
      rw [eg] at ef
      simp only [fin] at ef
      rw [← ef] at h
      exact fun σ' H' R => h .non H' R.base Rp.non
    | rt r' =>
      rw [eg] at ef
      simp only [fin] at ef
      rw [← ef] at h
      exact h
    | exc c =>
      rw [eg] at ef
      simp only [fin] at ef
      rw [← ef] at h
      exact fun σ' H' k => h H' k
    | bk s' => rw [eg] at ef; exact (nst ef.symm).elim
    | ct s' => rw [eg] at ef; exact (nst ef.symm).elim
    | stuck => rw [eg] at ef; exact (nst ef.symm).elim
end
end DL
/-! str(i), ''.join(..). -/
namespace DL
open PySem PySem.Spec L2
section
variable {X : Cx} {ca : Nat → Addr} {W : WX} {a b c e : Expr} {es : List Expr} {fa fb fe : Ev → Res Rv} {fs : Ev → Res (List Rv)} {pos : Pos}
@[simp] def strI : List Rv → Option Rv
  | [⟨_, .int i⟩] => if i.natAbs.log2 < 1920 then some ⟨.sh, .str (toString i)⟩ else none
  | _ => none
theorem cd_str : CallR X (.type "str") (fun xs H Q => ∃ i, xs = [.int i] ∧ i.natAbs.log2 < 1920 ∧ Q (.str (toString i)) H) ∧ CallD X.K (fun xs H Q => ∃ i, xs = [.int i] ∧ i.natAbs.log2 < 1920 ∧ Q (.str (toString i)) H) strI := by
  refine ⟨call_str_int, ?_⟩
  intro Hin Z s σ H0 H xs rs c Q R k q e h
  match rs, e, q with
  | [⟨k, .int i⟩], e, q =>
    simp only [strI] at e
    split at e
    · rename_i hi
      cases e
      obtain ⟨v, rfl, q1⟩ := q.one
      exact ⟨i, by rw [q1.int rfl], hi, h _ H (Same.refl _) (Rp.str _)⟩
    · cases e
def strsOf : List D → Option (List Str)
  | [] => some []
  | .str x :: r => (strsOf r).map (x :: ·)
  | _ :: _ => none
theorem strsOf_rp {K : PySem.W.Frag} {R : Hp} : ∀ {ds : List D} {vs : List V} {xs : List Str}, RpL K R vs ds → strsOf ds = some xs → vs = xs.map V.str
  | [], _, xs, r, e => by cases r; cases e; rfl
  | d :: ds, _, xs, r, e => by
    cases r with
    | cons h r =>
      cases d with
      | str x =>
        simp only [strsOf, Option.map_eq_some_iff] at e
        obtain ⟨ys, e1, rfl⟩ := e
        cases h
        rw [strsOf_rp r e1]
        rfl
      | _ => cases e
def joinT (sep : Str) (l : List Str) : Str := match l with
  | [x] => x
  | l => Builtin.Str.glued sep l
abbrev rJoinS (K : PySem.W.Frag) : V → List V → Hp → VK → Prop := fun x xs H Q => ∃ (sep : Str) (p : Addr) (bs : List Str), x = .str sep ∧ xs = [.ref p] ∧ SqL K H p (bs.map V.str) ∧
  Builtin.Str.tooLong (bs.toArray.foldl (· + ·.length + sep.length) 0) = false ∧ (joinT sep bs).length ≤ sizeLine ∧ Q (.str (joinT sep bs)) H
theorem strs_vals : ∀ {bs : List Str} {us : List Value}, Vals (bs.map V.str) us → ∃ l : List (Str × Tok), us = strValues l ∧ l.map (·.1) = bs
  | [], us, r => by cases r; exact ⟨[], rfl, rfl⟩
  | b :: bs, us, r => by
    cases r with
    | cons h r =>
      obtain ⟨t, rfl⟩ := h
      obtain ⟨l, rfl, e⟩ := strs_vals r
      exact ⟨(b, t) :: l, rfl, by rw [List.map_cons, e]⟩
theorem mt_join : MtR X "str.join" (rJoinS X.K) := fun pins s σ H x xs v us Q I rx rxs h => by
  obtain ⟨sep, p, bs, rfl, rfl, hs, h1, h2, q⟩ := h
  obtain ⟨t, rfl⟩ := (show ∃ t, v = Value.str sep t from rx)
  obtain ⟨u, rfl, ru⟩ := vals1 rxs
  obtain rfl : u = Value.ref p := ru
  obtain ⟨its, rv, pl, hz⟩ := I.list hs
  obtain ⟨l, rfl, el⟩ := strs_vals rv
  refine call_meets PySem.F.slot_str_join (typeIs_str _ _ _) PySem.F.entry_str_join (PySem.F.args_str_join_2 _ _) (meets_str_join_list sep t p l (by rw [el]; exact h1)) ⟨pl.isList, ?_⟩
  subst el
  match l, h2, q with
  | [], h2, q => exact ⟨h2, .str _, H, I.kept (t' := s.toks + 1) fun _ _ z => z, ⟨_, rfl⟩, q⟩
  | [p], h2, q => exact ⟨.str _, H, I, ⟨_, rfl⟩, q⟩
  | p :: p' :: r, h2, q => exact ⟨h2, .str _, H, I.kept (t' := s.toks + 1) fun _ _ z => z, ⟨_, rfl⟩, q⟩
@[simp] def fJoin (x : Str) (f : Ev → Res Rv) : Ev → Res Rv := fun s => bnd (f s) fun r => match r.d with
  | .lst ds => match strsOf ds with
    | some xs => if Builtin.Str.tooLong (xs.toArray.foldl (· + ·.length + x.length) 0) = false ∧ (joinT x xs).length ≤ lim then .ok ⟨.sh, .str (joinT x xs)⟩ else .stuck
    | none => .stuck
  | _ => .stuck
theorem de_join {x : Str} {j : Nat} {p1 apos cpos : Pos} (he : DE X ca W e fe) (hs : starEach [e] X.env = [(false, eval e X.env)] := by rfl) (hbase : attributeBase (.Constant (.str x) j p1) "join" X.env (eval (.Constant (.str x) j p1) X.env) = eval (.Constant (.str x) j p1) X.env := by rfl) (hline : (apos.endLine == cpos.line) = true := by rfl) :
    DE X ca W (.Call (.Attribute (.Constant (.str x) j p1) "join" apos) [e] [] cpos) (fJoin x fe) :=
  (pe_m1 PySem.F.slot_str_join PySem.F.type_str_join mt_join pe_str he hs hbase hline).imp fun σ H Q h => by
    obtain ⟨Hin, Z, s, R, h⟩ := h
    refine ⟨⟨x, rfl⟩, ?_⟩
    simp only [fJoin, sat_bnd] at h
    refine tE_go R (sat_mono h (fun r h v H1 k1 R1 q1 => ?_) fun _ h => h)
    obtain ⟨kd, d⟩ := r
    cases d with
    | lst ds =>
      obtain ⟨p, vs, rfl, hp, r1⟩ := q1.list rfl
      dsimp only at h
      cases e1 : strsOf ds with
      | none => rw [e1] at h; exact h.elim
      | some xs =>
        rw [e1] at h
        obtain ⟨hc, h⟩ := sat_if h
        have ev := strsOf_rp r1 e1
        subst ev
        exact ⟨x, p, xs, rfl, rfl, SqL.of hp, hc.1, le_line hc.2, h _ H1 k1 (Rp.str _)⟩
    | _ => exact h.elim
end
end DL
/-! The end: a law whose pure function says True. -/
namespace DL
open PySem PySem.Spec L2
def spL (K : PySem.W.Frag) (F : List D → Res Rv) : Sp := fun vs H Q E => ∃ (B : Hp) (ds : List D) (r : Rv), Same B H ∧ RpL K B vs ds ∧ ds.length = 1 ∧ F ds = .ok r ∧ ∀ v H', Same H H' → RetOk K H (fun a => H a ≠ none ∧ B a = none) H' v r → Q v H'
/-- what a law's written part must give -/
def LawAt (l : PySem.W.OpenLaw) (F : List D → Res Rv) (x : Str) (k : Nat) (w : World) (K : PySem.W.Frag) (mg : Str → Option Value) (fa : Addr) : Prop :=
  ∃ fd : FuncData, (∀ (s : Shared) (u : Value), BindsTo s fd ⟨[u], []⟩ [(x, u)]) ∧ ∀ base : Heap, K.In base → base.Ns mainGlobals mg → FnOk l.prog w K mg base (L2.CX l.prog w) k fa fd [x] (spL K F)
theorem fnok_of {P : Program} {w : World} {K : PySem.W.Frag} {mg : Str → Option Value} {base : Heap} {ca : Nat → Addr} {name : Str} {st : Stmt} {f : Addr} {fd : FuncData} {N ps : List Str} {k : Nat} {F : List D → Res Rv} (Fn : L2.Fun K name name st f fd) (S : FnScope N ps (defScope st))
    (g : Ev → Out) (hg : ∀ (cdv : Value) (A : Around) (outer : List Env) (s : Shared) (H : Hp) (E : XK), Room k (A.deeper (PyProof.Rows.envOfC name (defScope st) s.heap.objs.size f cdv)) →
      Takes (cxOf (L2.CX P w) P w K mg base N name (defScope st) f cdv A outer s H E) (fun cls d _ H => E cls d H) →
      PassesOwn (model P w) (A.deeper (PyProof.Rows.envOfC name (defScope st) s.heap.objs.size f cdv)) (PyProof.Rows.envOfC name (defScope st) s.heap.objs.size f cdv) (cxOf (L2.CX P w) P w K mg base N name (defScope st) f cdv A outer s H E).xe →
      DSs (cxOf (L2.CX P w) P w K mg base N name (defScope st) f cdv A outer s H E) ca (fun cls d _ H => E cls d H) (defBody st) g)
    (hF : ∀ ds r, F ds = r → r ≠ .stuck → fin (g (start0 N.length ds)) = r) : FnOk P w K mg base (L2.CX P w) (k + 1) f fd ps (spF K ca F ps.length) := by
  refine Fn.okX S (fun vs H Q E h => ?_) (fun cdv A outer s H vs Q E hr h => ⟨_, hg cdv A outer s H E hr (takes_of rfl rfl rfl rfl) (passes_of rfl), ?_⟩)
  · obtain ⟨B, ds, _, r, e, _⟩ := h
    rw [r.length, e]
  · obtain ⟨B, ds, hB, r, en, h⟩ := h
    have nst : F ds ≠ .stuck := fun z => by rw [z] at h; exact h
    have ef := hF ds _ rfl nst
    refine ⟨H, _, start0 N.length ds, rel_start hB r, ?_⟩
    cases eg : g (start0 N.length ds) with
    | nx s' =>
      rw [eg] at ef
      simp only [fin] at ef
      rw [← ef] at h
      exact fun σ' H' R => h .non H' R.base Rp.non
    | rt r' =>
      rw [eg] at ef
      simp only [fin] at ef
      rw [← ef] at h
      exact h
    | exc c =>
      rw [eg] at ef
      simp only [fin] at ef
      rw [← ef] at h
      exact fun σ' H' k => h H' k
    | bk s' => rw [eg] at ef; exact (nst ef.symm).elim
    | ct s' => rw [eg] at ef; exact (nst ef.symm).elim
    | stuck => rw [eg] at ef; exact (nst ef.symm).elim
theorem lawAt_of {l : PySem.W.OpenLaw} {F : List D → Res Rv} {x : Str} {k : Nat} {w : World} {K : PySem.W.Frag} {mg : Str → Option Value} {fa f : Addr} {fd : FuncData} {ca : Nat → Addr} (hm : mg "law" = some (.ref f)) (hfa : mg "law" = some (.ref fa))
    (hB : ∀ (s : Shared) (u : Value), BindsTo s fd ⟨[u], []⟩ [(x, u)]) (C : ∀ base : Heap, FnOk l.prog w K mg base (L2.CX l.prog w) k f fd [x] (spF K ca F 1)) : LawAt l F x k w K mg fa := by
  have e := hfa.symm.trans hm
  cases e
  refine ⟨fd, hB, fun base h1 h2 => ?_⟩
  have G := C base
  refine ⟨fun vs H Q E h => ?_, fun A outer s H args us vs Q E hr e0 hb r h => ?_⟩
  · obtain ⟨B, ds, _, _, r, e, _⟩ := h
    rw [r.length, e]; rfl
  · refine G.run A outer s H args us vs Q E hr e0 hb r ?_
    obtain ⟨B, ds, r, h1, h2, h3, h4, h5⟩ := h
    exact ⟨B, ds, h1, h2, h3, by rw [h4]; exact h5⟩
theorem walk_dl {l : PySem.W.OpenLaw} {q : Program} {loose : List Str} {XP : (Str → Option Value) → Heap → Prop} {YP : World → Heap → Prop} {d : DefRec} {K : Params → PySem.W.Frag} {F : List D → Res Rv} {x : Str} {k : Nat} (hn : l.most = some 63) (hdf : d.params.defaults = []) (hr : Room k callerA)
    (hL : ∀ ns : List Int, ns.length ≤ 63 → F [.scr ns] = .ok ⟨.sh, .bl true⟩)
    (hY : ∀ (w : World) (h : Heap), YP w h → (K w.params).In h)
    (hF : ∀ (w : World) (mg : Str → Option Value) (fa : Addr) (h : Heap), (K w.params).In h → h.Ns mainGlobals mg → mg d.name = some (.ref fa) → LawAt l F x k w (K w.params) mg fa) :
    PySem.W.WalkO q loose XP YP l.row.toRowW d [] (fun f vs => PySem.call f vs) :=
  L2.walk_of (n := 63) (k := k) (x := x) (CX := fun w => L2.CX l.prog w) (sp := fun w => spL (K w.params) F) hn (by decide) hdf hr hY hF (fun w H a ns hl _ hS => ⟨H, [.scr ns], _, Same.refl _, .cons (.scr hS) .nil, rfl, hL ns hl, fun v H' _ q => by
    have q' : Rp _ _ v (.bl true) := q
    cases q'
    rfl⟩) fun w H s e s' h => by
      obtain ⟨_, _, _, _, _, _, _, _, _, _, _, _, z⟩ := h
      exact z
theorem kit_own {K : PySem.W.Frag} {t c : Addr} {b : Bool} (hd : PySem.W.hasDictIn K c = true) (h2 : PySem.W.typeIn K (.ref c) = some (.type "type")) (h3 : PySem.W.subIn K (.ref t) (.ref c) = some b) (h4 : PySem.W.subIn K (.ref t) (.ref t) = some true) : PySem.W.kitOne K (.ref t) (.ref c) = some b := by
  obtain ⟨cd, hc, _⟩ := PySem.W.any_some hd
  unfold PySem.W.kitOne
  by_cases q : ((Value.ref t : Value) == .ref c) = true
  · rw [if_pos q]
    have e : t = c := Value.ref.inj (beq_iff_eq.mp q)
    subst e
    rw [h4] at h3
    exact h3
  · rw [if_neg q]
    show (if ((PySem.W.clsIn K c).isSome && PySem.W.typeIn K (.ref c) == some (.type "type")) = true then PySem.W.subIn K (.ref t) (.ref c) else none) = some b
    have e2 : ((PySem.W.clsIn K c).isSome && PySem.W.typeIn K (.ref c) == some (.type "type")) = true := by rw [hc, h2] <;> rfl
    rw [if_pos e2]
    exact h3
theorem kit_val {K : PySem.W.Frag} {t : Addr} (h : PySem.W.subIn K (.ref t) (.type "ValueError") = some true) : PySem.W.kitOne K (.ref t) (.type "ValueError") = some true := by
  unfold PySem.W.kitOne
  rw [if_neg (fun z => by cases z)]
  show (if PySem.W.kitMeta "ValueError" = true then PySem.W.subIn K (.ref t) (.type "ValueError") else none) = some true
  rw [if_pos (by decide +kernel)]
  exact h
end DL
/-! Order of plain values: comparisons, sorted, min. -/
namespace DL
open PySem PySem.Spec L2
/-- two values that may be compared by order -/
def ordOk (a b : D) : Bool := okEq a && (okEq b && (PySem.W.alike (toPy a) (toPy b) && !(match a with | .non => true | _ => false)))
def ltD (a b : D) : Bool := PySem.W.dataLt (toPy a) (toPy b)
def rOrd (K : PySem.W.Frag) (f : PyData → PyData → Bool) : R2 := fun x y H Q => ∃ d e, Dp K H x d ∧ Dp K H y e ∧ SeqAt.shaped d = true ∧ SeqAt.shaped e = true ∧ PySem.W.alike d e = true ∧ d ≠ .none ∧ Q (.bl (f d e)) H
def ordO (f : D → D → Bool) : Rv → Rv → Option Rv := fun a b => if ordOk a.d b.d = true then some ⟨.sh, .bl (f a.d b.d)⟩ else none
section
variable {X : Cx}
theorem opD_ord {f : D → D → Bool} {g : PyData → PyData → Bool} (hf : ∀ a b, f a b = g (toPy a) (toPy b)) : OpD X.K (rOrd X.K g) (ordO f) := by
  intro Hin Z s σ H0 H x y a b c Q R qa qb e q
  simp only [ordO] at e
  split at e
  · rename_i h
    cases e
    simp only [ordOk, Bool.and_eq_true] at h
    obtain ⟨h1, h2, h3, h4⟩ := h
    refine ⟨_, _, qa.dp h1, qb.dp h2, h1, h2, h3, fun z => ?_, by rw [← hf]; exact q _ H (Same.refl _) rvB⟩
    obtain ⟨ka, da⟩ := a
    cases da <;> first | (simp at h4; done) | (simp [toPy] at z; done)
  · cases e
theorem od_ltD (hu : X.A.units + 64 < cLine) : OpR X (compareOp .Lt) (rOrd X.K PySem.W.dataLt) ∧ OpD X.K (rOrd X.K PySem.W.dataLt) (ordO ltD) := by
  refine ⟨?_, opD_ord fun _ _ => rfl⟩
  intro pins s σ H x y v u Q I rx ry h
  obtain ⟨d, e, hd, he, sd, se, al, nn, q⟩ := h
  obtain ⟨as, r1⟩ := Dp.reads I d x v hd rx
  obtain ⟨bs, r2⟩ := Dp.reads I e y u he ry
  exact PySem.W.lt_data r1 r2 al nn (SeqAt.room_of_shaped sd hu) ⟨.bl _, H, I, rfl, q⟩
theorem od_leD (hu : X.A.units + 64 < cLine) : OpR X (compareOp .LtE) (rOrd X.K fun a b => !PySem.W.dataLt b a) ∧ OpD X.K (rOrd X.K fun a b => !PySem.W.dataLt b a) (ordO fun a b => !ltD b a) := by
  refine ⟨?_, opD_ord fun _ _ => rfl⟩
  intro pins s σ H x y v u Q I rx ry h
  obtain ⟨d, e, hd, he, sd, se, al, nn, q⟩ := h
  obtain ⟨as, r1⟩ := Dp.reads I d x v hd rx
  obtain ⟨bs, r2⟩ := Dp.reads I e y u he ry
  exact PySem.W.le_data r1 r2 al nn (SeqAt.room_of_shaped sd hu) ⟨.bl _, H, I, rfl, q⟩
end
/-! ### sorted -/
def isTup1 : D → Bool
  | .tup (_ :: _) => true
  | _ => false
def plain1 : D → Bool
  | .non => false
  | .tup _ => false
  | _ => true
/-- all may be sorted together -/
def srtOk (ds : List D) : Bool := (ds.all fun d => (toPy d).canLay0 && decide ((toPy d).depth ≤ 60)) && ((ds.all fun d => ds.all fun e => PySem.W.alike (toPy d) (toPy e)) && (ds.all isTup1 || ds.all plain1))
def leS (rev : Bool) : D → D → Bool := PySem.W.dataLe rev toPy
def srtD (rev : Bool) (ds : List D) : List D := ds.mergeSort (leS rev)
abbrev DV := D × V
def rSortedD (K : PySem.W.Frag) (rev : Bool) : List V → Hp → VK → Prop := fun vs H Q => ∃ (a : Addr) (ps : List DV), vs = [V.ref a] ∧ SqL K H a (ps.map (·.2)) ∧ (∀ p ∈ ps, Dp K H p.2 (toPy p.1) ∧ (toPy p.1).depth ≤ 60) ∧ PySem.W.AllAlike (ps.map fun p => toPy p.1) ∧ PySem.W.Sortable (ps.map fun p => toPy p.1) ∧
  ∀ p, H p = none → Q (.ref p) (upd H p (.lst ((ps.mergeSort (PySem.W.dataLe rev fun p => toPy p.1)).map (·.2))))
theorem each_of : ∀ {ps : List DV} {us : List Value}, Vals (ps.map (·.2)) us → PySem.W.EachIs (fun v (b : DV) => RelV b.2 v) us ps
  | [], _, r => by cases r; exact .nil
  | p :: ps, _, r => by
    cases r with
    | cons h r => exact .cons h (each_of r)
theorem vals_each : ∀ {ps : List DV} {us : List Value}, PySem.W.EachIs (fun v (b : DV) => RelV b.2 v) us ps → Vals (ps.map (·.2)) us
  | _, _, .nil => .nil
  | _, _, .cons h r => .cons h (vals_each r)
theorem each_reads {X : Cx} {pins : List (Addr × Obj)} {σ : L2.St} {H : Hp} {s : Shared} (I : Inv X pins σ H s) : ∀ {ps : List DV} {us : List Value}, Vals (ps.map (·.2)) us → (∀ p ∈ ps, Dp X.K H p.2 (toPy p.1)) → PySem.W.EachIs (fun v (b : DV) => ∃ as, Reads s.heap v (toPy b.1) as) us ps
  | [], _, r, _ => by cases r; exact .nil
  | p :: ps, _, r, h => by
    cases r with
    | cons h1 r => exact .cons (Dp.reads I _ _ _ (h p List.mem_cons_self) h1) (each_reads I r fun q hq => h q (List.mem_cons_of_mem _ hq))
section
variable {X : Cx}
theorem srt_end {rev : Bool} {pins : List (Addr × Obj)} {σ : L2.St} {H : Hp} {s : Shared} {Q : VK} {ps : List DV} {its out : List Value} (I : Inv X pins σ H s) (hz : (ps.map (·.2)).length ≤ sizeLine) (ho : out.length = ps.length) (he : PySem.W.EachIs (fun v (b : DV) => RelV b.2 v) out (ps.mergeSort (PySem.W.dataLe rev fun p => toPy p.1)))
    (q : ∀ p, H p = none → Q (.ref p) (upd H p (.lst ((ps.mergeSort (PySem.W.dataLe rev fun p => toPy p.1)).map (·.2))))) : EP X pins σ Q (.ref (s.heap.objs.size + 1)) { s with heap := PyProof.Rows.sortedAll s.heap its out.toArray } := by
  obtain ⟨ep, he'⟩ := PyProof.Rows.sortedAll_at s.heap its out.toArray
  have hlen : ((ps.mergeSort (PySem.W.dataLe rev fun p => toPy p.1)).map (·.2)).length ≤ sizeLine := by
    rw [List.length_map, List.length_mergeSort]
    rw [List.length_map] at hz
    exact hz
  exact ⟨.ref _, upd H (s.heap.objs.size + 1) (.lst ((ps.mergeSort (PySem.W.dataLe rev fun p => toPy p.1)).map (·.2))), I.laid (t' := s.toks) (fun _ _ => PyProof.Rows.sortedAll_old) (Nat.le_succ _) ⟨hlen, out, ep, vals_each he, he'⟩, rfl, q _ (I.hok.fresh (Nat.le_succ _))⟩
theorem cr_sortedD (hu : X.A.units + 64 < cLine) : CallR X (.builtin "sorted") (rSortedD X.K false) := by
  intro pins s σ H vs us Q I r h
  obtain ⟨a, ps, rfl, hs, hd, ha, hk, q⟩ := h
  obtain ⟨its, rv, hl, hz⟩ := I.list hs
  rw [Vals.ref1 r]
  have hz' : ps.length ≤ sizeLine := by rw [List.length_map] at hz; exact hz
  exact PySem.W.sorted_data hl.isList (each_of rv) (each_reads I rv fun p hp => (hd p hp).1) ha hk hz' (fun b hb => by have := (hd b hb).2; omega) fun out ho he => srt_end I hz ho he q
theorem cr_sortedR (hu : X.A.units + 64 < cLine) (hk1 : ∀ a, argsOk "sorted" ⟨[.ref a], [(Str.ofString "reverse", .bool true)]⟩) : CallRK X (.builtin "sorted") [Str.ofString "reverse"] (fun vs zs H Q => zs = [.bl true] ∧ rSortedD X.K true vs H Q) := by
  intro pins s σ H vs zs us ws Q I r rz h
  obtain ⟨rfl, a, ps, rfl, hs, hd, ha, hk, q⟩ := h
  obtain ⟨its, rv, hl, hz⟩ := I.list hs
  rw [Vals.ref1 r]
  cases rz with
  | cons r1 r2 =>
    cases r2
    cases r1
    have hz' : ps.length ≤ sizeLine := by rw [List.length_map] at hz; exact hz
    exact PySem.W.sorted_rev_data hl.isList (each_of rv) (each_reads I rv fun p hp => (hd p hp).1) ha hk hz' (fun b hb => by have := (hd b hb).2; omega) fun out ho he => srt_end I hz ho he q
/-- pairs of data and values -/
theorem pairs_of {K : PySem.W.Frag} {R : Hp} : ∀ {vs : List V} {ds : List D}, RpL K R vs ds → ∃ ps : List DV, ps.map (·.1) = ds ∧ ps.map (·.2) = vs ∧ ∀ p ∈ ps, Rp K R p.2 p.1
  | _, _, .nil => ⟨[], rfl, rfl, fun _ h => by cases h⟩
  | _, _, .cons (v := v) (d := d) h r => by
    obtain ⟨ps, e1, e2, e3⟩ := pairs_of r
    refine ⟨(d, v) :: ps, by rw [List.map_cons, e1], by rw [List.map_cons, e2], fun p hp => ?_⟩
    rcases List.mem_cons.mp hp with rfl | hp
    · exact h
    · exact e3 p hp
theorem rpl_pairs {K : PySem.W.Frag} {R : Hp} : ∀ {ps : List DV}, (∀ p ∈ ps, Rp K R p.2 p.1) → RpL K R (ps.map (·.2)) (ps.map (·.1))
  | [], _ => .nil
  | p :: ps, h => .cons (h p List.mem_cons_self) (rpl_pairs fun q hq => h q (List.mem_cons_of_mem _ hq))
theorem srt_map (rev : Bool) (ps : List DV) : (ps.mergeSort (PySem.W.dataLe rev fun p => toPy p.1)).map (·.1) = srtD rev (ps.map (·.1)) :=
  List.map_mergeSort (f := fun p : DV => p.1) (s := leS rev) fun a _ b _ => rfl
theorem srt_ready {K : PySem.W.Frag} {R H : Hp} {vs : List V} {ds : List D} (e : Same R H) (r : RpL K R vs ds) (ho : srtOk ds = true) : ∃ ps : List DV, ps.map (·.1) = ds ∧ ps.map (·.2) = vs ∧ (∀ p ∈ ps, Rp K R p.2 p.1) ∧ (∀ p ∈ ps, Dp K H p.2 (toPy p.1) ∧ (toPy p.1).depth ≤ 60) ∧ PySem.W.AllAlike (ps.map fun p => toPy p.1) ∧ PySem.W.Sortable (ps.map fun p => toPy p.1) := by
  obtain ⟨ps, rfl, rfl, e3⟩ := pairs_of r
  simp only [srtOk, Bool.and_eq_true, Bool.or_eq_true, List.all_eq_true, decide_eq_true_eq] at ho
  obtain ⟨h1, h2, h3⟩ := ho
  have mem : ∀ p ∈ ps, p.1 ∈ ps.map (·.1) := fun p hp => List.mem_map.mpr ⟨p, hp, rfl⟩
  refine ⟨ps, rfl, rfl, e3, fun p hp => ⟨((e3 p hp).mono e).dp (h1 _ (mem p hp)).1, (h1 _ (mem p hp)).2⟩, fun d hd d' hd' => ?_, ?_⟩
  · obtain ⟨p, hp, rfl⟩ := List.mem_map.mp hd
    obtain ⟨p', hp', rfl⟩ := List.mem_map.mp hd'
    exact h2 _ (mem p hp) _ (mem p' hp')
  · rcases h3 with h3 | h3
    · refine .inl fun d hd => ?_
      obtain ⟨p, hp, rfl⟩ := List.mem_map.mp hd
      have := h3 _ (mem p hp)
      cases ep : p.1 with
      | tup xs =>
        cases xs with
        | nil => rw [ep] at this; cases this
        | cons x xs => exact ⟨_, _, rfl⟩
      | _ => rw [ep] at this; cases this
    · refine .inr fun d hd => ?_
      obtain ⟨p, hp, rfl⟩ := List.mem_map.mp hd
      have := h3 _ (mem p hp)
      cases ep : p.1 <;> rw [ep] at this <;> first | (cases this; done) | exact ⟨by simp [toPy], fun xs => by simp [toPy]⟩
@[simp] def srtL (rev : Bool) (ds : List D) : Option Rv := if srtOk ds = true then some ⟨.fr, .lst (srtD rev ds)⟩ else none
theorem srt_fits {rev : Bool} {K : PySem.W.Frag} {Hin : Hp} {Z : Addr → Prop} {s : Ev} {σ : L2.St} {H : Hp} {p : Addr} {vs : List V} {ds : List D} {c : Rv} {Q : VK} (R : Rel K Hin Z s σ H) (hp : H p = some (.lst vs)) (r : RpL K (Rg Z s σ H) vs ds) (e : srtL rev ds = some c)
    (q : ∀ v H', Same H H' → ResOk K Z s σ H H' v c → Q v H') : rSortedD K rev [.ref p] H Q := by
  simp only [srtL] at e
  split at e
  · rename_i ho
    cases e
    obtain ⟨ps, rfl, rfl, e3, e4, e5, e6⟩ := srt_ready (H := H) hide_le r ho
    refine ⟨p, ps, rfl, SqL.of hp, e4, e5, e6, fun p' hp' => q _ _ (same_new hp') (resNewL hp' ?_)⟩
    rw [← srt_map]
    exact rpl_pairs fun x hx => e3 x ((List.mergeSort_perm ps _).mem_iff.mp hx)
  · cases e
theorem cd_sorted (hu : X.A.units + 64 < cLine) : CallR X (.builtin "sorted") (rSortedD X.K false) ∧ CallD X.K (rSortedD X.K false) (lstArg (srtL false)) :=
  ⟨cr_sortedD hu, cd_lst fun Hin Z s σ H p vs ds c Q R hp r e q => srt_fits R hp r e q⟩
/-! ### sorted(.., reverse=True) -/
theorem args_sorted_rev (a : Addr) : argsOk "sorted" ⟨[.ref a], [(Str.ofString "reverse", .bool true)]⟩ := by unfold argsOk; kernel_rfl
variable {ca : Nat → Addr} {W : WX}
@[simp] def fSrtR (fe : Ev → Res Rv) : Ev → Res Rv := fun s => bnd (fe s) fun r => lft (lstArg (srtL true) [r])
theorem de_srtR {e : Expr} {fe : Ev → Res Rv} {p p2 kpos pos : Pos} {j : Nat} (hu : X.A.units + 64 < cLine) (hm : X.mg "sorted" = none) (he : DE X ca W e fe) (hg : Gl X "sorted" := by rfl)
    (hst : backTo pos (starEach [e] X.env) = (false, eval e X.env) :: backTo pos (starEach [] X.env) := by rfl) (hpl : (backTo pos (starEach [e] X.env)).any (·.1) = false := by rfl) (hst2 : starEach [e] X.env = (false, eval e X.env) :: starEach [] X.env := by rfl)
    (hall : (backToKw pos (keywordEach [⟨some "reverse", .Constant (.bool true) j p2, kpos⟩] X.env)).all (·.1.isSome) = true := by rfl) (hnone : (backToKw pos (keywordEach [⟨some "reverse", .Constant (.bool true) j p2, kpos⟩] X.env)).any (·.1.isNone) = false := by rfl) (hks : (backToKw pos (keywordEach [⟨some "reverse", .Constant (.bool true) j p2, kpos⟩] X.env)).filterMap (·.1) = [Str.ofString "reverse"] := by rfl) :
    DE X ca W (.Call (.Name "sorted" p) [e] [⟨some "reverse", .Constant (.bool true) j p2, kpos⟩] pos) (fSrtR fe) :=
  (pe_callBK (cr_sortedR hu args_sorted_rev) hg hm (by decide +kernel) (pa_cons he pa_nil hst2) (pk_cons pe_bl pk_nil) (by decide) (by decide) hst hpl hall hnone hks).imp fun σ H Q h => by
    obtain ⟨Hin, Z, s, R, h⟩ := h
    simp only [fSrtR, sat_bnd] at h
    refine tE_go R (sat_mono h (fun r h v H1 k1 R1 q1 => ?_) fun _ h => h)
    obtain ⟨c, e1, h3⟩ := sat_lft h
    clear h
    obtain ⟨kd, d⟩ := r
    cases d with
    | lst ds =>
      obtain ⟨q, vs, rfl, hp, r1⟩ := q1.list rfl
      exact ⟨rfl, srt_fits R1 hp r1 e1 fun v H2 k2 q2 => h3 v H2 (k1.trans k2) (q2.start k1)⟩
    | _ => simp [lstArg] at e1
/-! ### min -/
mutual
theorem toPy_inj : ∀ (a b : D), (toPy a).canLay0 = true → toPy a = toPy b → a = b
  | .non, b, _, e => by cases b <;> simp [toPy] at e ⊢
  | .bl _, b, _, e => by cases b <;> simp [toPy] at e ⊢; exact e
  | .int _, b, _, e => by cases b <;> simp [toPy] at e ⊢; exact e
  | .str _, b, _, e => by cases b <;> simp [toPy] at e ⊢; exact e
  | .lst xs, b, h, e => by
    cases b <;> simp [toPy] at e ⊢
    exact toPys_inj xs _ (by simpa [toPy, PyData.canLay0] using h) e
  | .tup xs, b, h, e => by
    cases b <;> simp [toPy] at e ⊢
    exact toPys_inj xs _ (by simpa [toPy, PyData.canLay0] using h) e
  | .dT _, b, h, e => by simp [toPy, PyData.canLay0] at h
  | .dK _, b, h, e => by simp [toPy, PyData.canLay0] at h
  | .scr _, b, h, e => by simp [toPy, PyData.canLay0] at h
  | .any, b, h, e => by simp [toPy, PyData.canLay0] at h
  | .exc _, b, h, e => by simp [toPy, PyData.canLay0] at h
theorem toPys_inj : ∀ (a b : List D), PyData.canLayAll0 (toPys a) = true → toPys a = toPys b → a = b
  | [], b, _, e => by cases b <;> simp [toPys] at e ⊢
  | x :: xs, b, h, e => by
    cases b with
    | nil => simp [toPys] at e
    | cons y ys =>
      simp only [toPys, PyData.canLayAll0, Bool.and_eq_true, List.cons.injEq] at h e
      rw [toPy_inj x y h.1 e.1, toPys_inj xs ys h.2 e.2]
end
def minL1 (x : D) (xs : List D) : D := xs.foldl (fun a y => if ltD y a = true then y else a) x
theorem minL1_py : ∀ (xs : List D) (x : D), toPy (minL1 x xs) = PySem.W.minD (toPy x) (toPys xs)
  | [], x => rfl
  | y :: ys, x => by
    show toPy (minL1 (if ltD y x = true then y else x) ys) = PySem.W.minD (if PySem.W.dataLt (toPy y) (toPy x) = true then toPy y else toPy x) (toPys ys)
    rw [minL1_py ys]
    congr 1
    unfold ltD
    split <;> rfl
theorem minL1_mem : ∀ (xs : List D) (x : D), minL1 x xs ∈ x :: xs
  | [], x => List.mem_cons_self
  | y :: ys, x => by
    have h := minL1_mem ys (if ltD y x = true then y else x)
    have e : minL1 x (y :: ys) = minL1 (if ltD y x = true then y else x) ys := rfl
    rw [e]
    rcases List.mem_cons.mp h with h | h
    · rw [h]
      split
      · exact List.mem_cons_of_mem _ List.mem_cons_self
      · exact List.mem_cons_self
    · exact List.mem_cons_of_mem _ (List.mem_cons_of_mem _ h)
def minOk (ds : List D) : Bool := (ds.all fun d => (toPy d).canLay0 && decide ((toPy d).depth ≤ 60)) && ((ds.all fun d => ds.all fun e => PySem.W.alike (toPy d) (toPy e)) && ds.all fun d => match d with | .non => false | _ => true)
def rMin (K : PySem.W.Frag) : List V → Hp → VK → Prop := fun vs H Q => ∃ (a : Addr) (ps : List DV) (x : PyData) (xs : List PyData), vs = [V.ref a] ∧ SqL K H a (ps.map (·.2)) ∧ (ps.map fun p => toPy p.1) = x :: xs ∧ (∀ p ∈ ps, Dp K H p.2 (toPy p.1) ∧ (toPy p.1).canLay0 = true ∧ (toPy p.1).depth ≤ 60) ∧ PySem.W.AlikeAll (x :: xs) ∧ ∀ p ∈ ps, toPy p.1 = PySem.W.minD x xs → Q p.2 H
theorem dpAll_pairs {K : PySem.W.Frag} {H : Hp} : ∀ {ps : List DV}, (∀ p ∈ ps, Dp K H p.2 (toPy p.1)) → DpAll K H (ps.map (·.2)) (ps.map fun p => toPy p.1)
  | [], _ => .nil
  | p :: ps, h => .cons (h p List.mem_cons_self) (dpAll_pairs fun q hq => h q (List.mem_cons_of_mem _ hq))
theorem depthAll_le : ∀ {ds : List PyData} {n : Nat}, (∀ d ∈ ds, d.depth ≤ n) → PyData.depthAll ds ≤ n
  | [], n, _ => by simp [PyData.depthAll]
  | d :: ds, n, h => by
    have h1 := h d List.mem_cons_self
    have h2 := depthAll_le fun x hx => h x (List.mem_cons_of_mem _ hx)
    simp only [PyData.depthAll]
    omega
theorem cr_min (hu : X.A.units + 64 < cLine) (hc : X.calm = true) : CallR X (.builtin "min") (rMin X.K) := by
  intro pins s σ H vs us Q I r h
  obtain ⟨a, ps, x, xs, rfl, hs, e, hd, ha, q⟩ := h
  obtain ⟨its, rv, hl, hz⟩ := I.list hs
  rw [Vals.ref1 r]
  have hdp := dpAll_pairs fun p hp => (hd p hp).1
  rw [e] at hdp
  obtain ⟨as, hr⟩ := Dp.readsAll I _ _ _ hdp rv
  have hdep : PyData.depthAll (x :: xs) ≤ 60 := by
    rw [← e]
    exact depthAll_le fun d hd' => by
      obtain ⟨p, hp, rfl⟩ := List.mem_map.mp hd'
      exact (hd p hp).2.2
  refine PySem.W.min_list_data (I.ok.hd hc) hl.isList (by simpa using hr) ha (by omega) fun i v h' tk bs hv hrd hk => ?_
  have hv' : its[i]? = some v := by simpa using hv
  obtain ⟨w, hw, rw'⟩ : ∃ w, (ps.map (·.2))[i]? = some w ∧ RelV w v := by
    have hl2 := rv.length
    have hi := (List.getElem?_eq_some_iff.mp hv').1
    obtain ⟨w, hw⟩ : ∃ w, (ps.map (·.2))[i]? = some w := ⟨(ps.map (·.2))[i]'(by omega), List.getElem?_eq_getElem (by omega)⟩
    obtain ⟨u, hu, hr'⟩ := rv.get hw
    rw [hv'] at hu
    cases hu
    exact ⟨w, hw, hr'⟩
  rw [List.getElem?_map, Option.map_eq_some_iff] at hw
  obtain ⟨p, hp, rfl⟩ := hw
  have hpm := List.mem_of_getElem? hp
  obtain ⟨bs', hrd'⟩ := Dp.reads I _ _ _ (hd p hpm).1 rw'
  have hrd2 := PyProof.Rows.Reads.keeps hk hrd'
  have e2 := (PySem.SeqAt.Reads.unique _ _ _ _ _ (hd p hpm).2.1 hrd2 hrd)
  exact ⟨p.2, H, I.kept hk, rw', q p hpm e2⟩
@[simp] def minG (ds : List D) : Option Rv := match ds with
  | [] => none
  | d :: r => if minOk (d :: r) = true then some ⟨.sh, minL1 d r⟩ else none
theorem cd_min (hu : X.A.units + 64 < cLine) (hc : X.calm = true) : CallR X (.builtin "min") (rMin X.K) ∧ CallD X.K (rMin X.K) (lstArg minG) := by
  refine ⟨cr_min hu hc, cd_lst fun Hin Z s σ H p vs ds c Q R hp r e q => ?_⟩
  match ds, r, e with
  | d :: dr, r, e =>
    simp only [minG] at e
    split at e
    · rename_i ho
      cases e
      simp only [minOk, Bool.and_eq_true, List.all_eq_true, decide_eq_true_eq] at ho
      obtain ⟨h1, h2, h3⟩ := ho
      obtain ⟨ps, e1, rfl, e3⟩ := pairs_of r
      have mem : ∀ x ∈ ps, x.1 ∈ d :: dr := fun x hx => by rw [← e1]; exact List.mem_map.mpr ⟨x, hx, rfl⟩
      have e4 : (ps.map fun x => toPy x.1) = toPy d :: toPys dr := by
        have : (ps.map fun x => toPy x.1) = (ps.map (·.1)).map toPy := by rw [List.map_map]; rfl
        rw [this, e1, List.map_cons, toPys_map]
      refine ⟨p, ps, toPy d, toPys dr, rfl, SqL.of hp, e4, fun x hx => ⟨((e3 x hx).mono hide_le).dp (h1 _ (mem x hx)).1, h1 _ (mem x hx)⟩, ⟨?_, ?_⟩, fun x hx ex => ?_⟩
      · rw [← e4]
        intro a ha b hb
        obtain ⟨x, hx, rfl⟩ := List.mem_map.mp ha
        obtain ⟨y, hy, rfl⟩ := List.mem_map.mp hb
        exact h2 _ (mem x hx) _ (mem y hy)
      · rw [← e4]
        intro a ha
        obtain ⟨x, hx, rfl⟩ := List.mem_map.mp ha
        have := h3 _ (mem x hx)
        cases ep : x.1 <;> rw [ep] at this <;> first | (cases this; done) | simp [toPy]
      · have e5 : x.1 = minL1 d dr := toPy_inj _ _ (h1 _ (mem x hx)).1 (by rw [ex, minL1_py])
        rw [← e5] at q
        exact q _ H (Same.refl _) (e3 x hx)
    · cases e
end
end DL
/-! Item stores. -/
namespace DL
open PySem PySem.Spec L2
section
variable {X : Cx} {ca : Nat → Addr} {W : WX} {a b c e : Expr} {es : List Expr} {fa fb fe fk fv : Ev → Res Rv} {pos : Pos}
/-- x[k] = v, x a list of its own -/
def isOw : Kd → Bool
  | .ow => true
  | _ => false
@[simp] theorem isOw_sh : isOw .sh = false := rfl
@[simp] theorem isOw_fr : isOw .fr = false := rfl
@[simp] theorem isOw_ow : isOw .ow = true := rfl
@[simp] def fLput (i : Nat) (fk fv : Ev → Res Rv) : Ev → Out := fun s => match gt s i with
  | .ow (.lst ds) => bndR (fv s) fun r => if isOw r.k = true then .stuck else bndR (fk s) fun k => match k.d with
    | .int j => bndR (lft (ixN ds.length j)) fun m => .nx (st s i (.ow (.lst (ds.set m r.d))))
    | _ => .stuck
  | _ => .stuck
theorem ds_lput (i : Nat) {x : Str} {px pt : Pos} {ek ev : Expr} (hk : DE X ca W ek fk) (hv : DE X ca W ev fv) (hN : X.N[i]? = some x := by rfl) (hx : Vis X.env.scope x := by first | exact Or.inl rfl | exact Or.inr (Or.inl rfl) | exact Or.inr (Or.inr rfl)) (hd : (x == ("__debug__" : Str)) = false := by decide) (hcd : (x == ("__classdict__" : Str)) = false := by decide)
    (hs : swapsWithSole [.Subscript (.Name x px) ek pt] ev pos.line X.env = pure false := by rfl) (hw : swappedStores [.Subscript (.Name x px) ek pt] ev X.env = pure none := by rfl) (h1 : (assignEach [.Subscript (.Name x px) ek pt] X.env).map (·.2) = [assign (.Subscript (.Name x px) ek pt) X.env] := by rfl)
    (ha : ∀ v, assign (.Subscript (.Name x px) ek pt) X.env v = (do
      let ov ← holding [v] (eval (.Name x px) X.env)
      let iv ← holding [v, ov] (eval ek X.env)
      standAt pt
      holding [v, ov, iv] (setItem ov iv v)
      release [v, ov, iv] []) := by intro _; rfl) : DS X ca W (.Assign [.Subscript (.Name x px) ek pt] ev pos) (fLput i fk fv) :=
  (ps_asg hv (pg_sub (pe_var (i := i) hN hx hd hcd) hk set_list ha) hs hw h1).imp fun Dn σ H h => by
    obtain ⟨Hin, Z, s, R, h⟩ := h
    simp only [fLput] at h
    cases eg : gt s i with
    | ow d =>
      cases d with
      | lst ds =>
        rw [eg] at h
        dsimp only at h
        have e1 := gt_ow eg
        obtain ⟨p, hp, hz, hin, xs, h1, h2⟩ := R.ow i _ e1
        refine tE_go R (sat_mono (satS_bnd R h) (fun r h v H1 k1 R1 q1 => ⟨.ref p, hp, ?_⟩) fun _ h => h)
        have kow : r.k ≠ .ow := fun z => by
          rw [z, isOw_ow, if_pos (show true = true from rfl)] at h
          exact h.elim
        have h' : SatS X.K ca W Hin Z Dn (bndR (fk s) fun k => match k.d with
            | .int j => bndR (lft (ixN ds.length j)) fun m => .nx (st s i (.ow (.lst (ds.set m r.d))))
            | _ => .stuck) := by
          have : isOw r.k = false := by cases ek : r.k <;> first | rfl | exact absurd ek kow
          rw [this] at h
          simpa using h
        refine tE_go R1 (sat_mono (satS_bnd R1 h') (fun k h v2 H2 k2 R2 q2 => ?_) fun _ h => h)
        obtain ⟨kk, kd⟩ := k
        cases kd with
        | int j =>
          obtain ⟨m, em, h⟩ := sat_lft (satS_bnd R2 h)
          have ep := (k1.trans k2) _ _ h1
          refine ⟨p, xs, j, m, rfl, q2.int rfl, ep, by rw [h2.length]; exact em, ?_⟩
          have hr : Rp X.K (Rg Z s σ H2) v r.d := (q1.shared kow R k1).mono (rg_mono k2)
          exact h σ _ (R2.mut e1 hp ⟨_, upd_same, (h2.mono (rg_mono (k1.trans k2))).set hr m⟩)
        | _ => exact h.elim
      | _ => rw [eg] at h; exact h.elim
    | _ => rw [eg] at h; exact h.elim
end
end DL
/-! Dicts: keys are ints or tuples of ints. -/
namespace DL
open PySem PySem.Spec L2
theorem inl_inj : ∀ {a b : List Int}, a.map (Sum.inl : Int → Key) = b.map Sum.inl → a = b
  | [], [], _ => rfl
  | [], _ :: _, h => by simp at h
  | _ :: _, [], h => by simp at h
  | x :: a, y :: b, h => by
    simp only [List.map_cons, List.cons.injEq] at h
    rw [Sum.inl.inj h.1, inl_inj h.2]
theorem valV_encT (kvs : List (List Int × V)) (w : List Int) : valV (kvs.map encT) (w.map Sum.inl) = valV kvs w := by
  unfold valV
  induction kvs with
  | nil => rfl
  | cons p r ih =>
    simp only [List.map_cons, List.find?_cons]
    by_cases q : p.1 = w
    · have e1 : decide ((encT p).1 = w.map Sum.inl) = true := decide_eq_true (by rw [← q]; rfl)
      have e2 : decide (p.1 = w) = true := decide_eq_true q
      rw [e1, e2]; rfl
    · have e1 : decide ((encT p).1 = w.map Sum.inl) = false := decide_eq_false fun z => q (inl_inj z)
      have e2 : decide (p.1 = w) = false := decide_eq_false q
      rw [e1, e2]; exact ih
theorem valV_encK (kvs : List (Int × V)) (i : Int) : valV (kvs.map encK) (.inl i) = valV kvs i := by
  unfold valV
  induction kvs with
  | nil => rfl
  | cons p r ih =>
    simp only [List.map_cons, List.find?_cons]
    by_cases q : p.1 = i
    · have e1 : decide ((encK p).1 = Sum.inl i) = true := decide_eq_true (by rw [← q]; rfl)
      have e2 : decide (p.1 = i) = true := decide_eq_true q
      rw [e1, e2]; rfl
    · have e1 : decide ((encK p).1 = Sum.inl i) = false := decide_eq_false fun z => q (Sum.inl.inj z)
      have e2 : decide (p.1 = i) = false := decide_eq_false q
      rw [e1, e2]; exact ih
theorem putK_encT (kvs : List (List Int × V)) (w : List Int) (v : V) : putK (kvs.map encT) (w.map Sum.inl) v = (putK kvs w v).map encT := by
  have e : (kvs.map encT).any (fun kv => decide (kv.1 = w.map Sum.inl)) = kvs.any fun kv => decide (kv.1 = w) := by
    rw [List.any_map]
    congr 1
    funext p
    show decide ((encT p).1 = _) = _
    by_cases q : p.1 = w
    · rw [decide_eq_true q, decide_eq_true (by rw [← q]; rfl)]
    · have n : ¬ (encT p).1 = w.map Sum.inl := fun z => q (inl_inj z)
      rw [decide_eq_false q, decide_eq_false n]
  unfold putK
  rw [e]
  by_cases q : (kvs.any fun kv => decide (kv.1 = w)) = true
  · rw [if_pos q, if_pos q, List.map_map, List.map_map]
    refine List.map_congr_left fun p _ => ?_
    show (if (encT p).1 = w.map Sum.inl then ((encT p).1, v) else encT p) = encT (if p.1 = w then (p.1, v) else p)
    by_cases q : p.1 = w
    · rw [if_pos q, if_pos (by rw [← q]; rfl)]; rfl
    · have n : ¬ (encT p).1 = w.map Sum.inl := fun z => q (inl_inj z)
      rw [if_neg q, if_neg n]
  · rw [if_neg q, if_neg q, List.map_append]; rfl
theorem putK_encK (kvs : List (Int × V)) (i : Int) (v : V) : putK (kvs.map encK) (.inl i) v = (putK kvs i v).map encK := by
  have e : (kvs.map encK).any (fun kv => decide (kv.1 = (.inl i : Key))) = kvs.any fun kv => decide (kv.1 = i) := by
    rw [List.any_map]
    congr 1
    funext p
    show decide ((encK p).1 = _) = _
    by_cases q : p.1 = i
    · rw [decide_eq_true q, decide_eq_true (by rw [← q]; rfl)]
    · have n : ¬ (encK p).1 = (.inl i : Key) := fun z => q (Sum.inl.inj z)
      rw [decide_eq_false q, decide_eq_false n]
  unfold putK
  rw [e]
  by_cases q : (kvs.any fun kv => decide (kv.1 = i)) = true
  · rw [if_pos q, if_pos q, List.map_map, List.map_map]
    refine List.map_congr_left fun p _ => ?_
    show (if (encK p).1 = (.inl i : Key) then ((encK p).1, v) else encK p) = encK (if p.1 = i then (p.1, v) else p)
    by_cases q : p.1 = i
    · rw [if_pos q, if_pos (by rw [← q]; rfl)]; rfl
    · have n : ¬ (encK p).1 = (.inl i : Key) := fun z => q (Sum.inl.inj z)
      rw [if_neg q, if_neg n]
  · rw [if_neg q, if_neg q, List.map_append]; rfl
section
variable {K : PySem.W.Frag} {Z : Addr → Prop} {s : Ev} {σ : L2.St} {H0 H : Hp} {v : V} {r : Rv}
theorem ResOk.dT {kvs : List (List Int × V)} (h : ResOk K Z s σ H0 H v r) (e : r.d = .dT kvs) : ∃ p, v = .ref p ∧ H p = some (.dT (kvs.map encT)) := by
  have q := h.full
  rw [e] at q
  cases q with
  | dT h => exact ⟨_, rfl, h⟩
theorem ResOk.dK {kvs : List (Int × V)} (h : ResOk K Z s σ H0 H v r) (e : r.d = .dK kvs) : ∃ p, v = .ref p ∧ H p = some (.dK (kvs.map encK)) := by
  have q := h.full
  rw [e] at q
  cases q with
  | dK h => exact ⟨_, rfl, h⟩
theorem ResOk.tupI {ds : List D} {w : List Int} (h : ResOk K Z s σ H0 H v r) (e : r.d = .tup ds) (ei : intsOf ds = some w) : ∃ p, v = .ref p ∧ H p = some (.tup ((w.map (Sum.inl : Int → Key)).map kV)) := by
  have q := h.full
  rw [e] at q
  cases q with
  | tup h1 h2 =>
    refine ⟨_, rfl, ?_⟩
    rw [intsOf_eq ei] at h2
    rw [h1, h2.of_ints, List.map_map]
    rfl
end
/-- a key of a dict -/
inductive Kk where
  | t (w : List Int)
  | i (i : Int)
def keyD : D → Option Kk
  | .int i => some (.i i)
  | .tup ds => (intsOf ds).map .t
  | _ => none
def lookD : D → D → Option (Option V)
  | .dT kvs, k => match keyD k with
    | some (.t w) => some (valV kvs w)
    | _ => none
  | .dK kvs, k => match keyD k with
    | some (.i i) => some (valV kvs i)
    | _ => none
  | _, _ => none
theorem look_ok {K : PySem.W.Frag} {Z : Addr → Prop} {s : Ev} {σ : L2.St} {H0 H H1 : Hp} {v y : V} {r k : Rv} {o : Option V} (h : ResOk K Z s σ H0 H v r) (g : ResOk K Z s σ H1 H y k) (e : lookD r.d k.d = some o) : ∃ a, v = .ref a ∧ DGet H a y o := by
  obtain ⟨kr, dr⟩ := r
  obtain ⟨kk, dk⟩ := k
  cases dr with
  | dT kvs =>
    obtain ⟨p, rfl, hp⟩ := h.dT rfl
    cases dk with
    | tup ds =>
      simp only [lookD, keyD] at e
      cases ei : intsOf ds with
      | none => rw [ei] at e; cases e
      | some w =>
        rw [ei] at e
        simp only [Option.map_some, Option.some.injEq] at e
        obtain ⟨b, rfl, hb⟩ := g.tupI rfl ei
        refine ⟨p, rfl, ?_⟩
        rw [← e, ← valV_encT]
        exact DGet.t hp hb
    | _ => simp [lookD, keyD] at e
  | dK kvs =>
    obtain ⟨p, rfl, hp⟩ := h.dK rfl
    cases dk with
    | int i =>
      simp only [lookD, keyD, Option.some.injEq] at e
      rw [g.int rfl]
      refine ⟨p, rfl, ?_⟩
      rw [← e, ← valV_encK]
      exact DGet.k (k := .inl i) hp
    | tup ds =>
      simp only [lookD, keyD] at e
      cases ei : intsOf ds with
      | none => rw [ei] at e; cases e
      | some w => rw [ei] at e; cases e
    | _ => simp [lookD, keyD] at e
  | _ => simp [lookD] at e
section
variable {X : Cx} {ca : Nat → Addr} {W : WX} {a b c e f : Expr} {es : List Expr} {fa fb fe fk fv fx : Ev → Res Rv} {pos : Pos}
/-! ### d[k], k in d -/
def dgetO : Rv → Rv → Option Rv := fun d k => (lookD d.d k.d).bind fun o => o.map fun v => ⟨.sh, ofV v⟩
def inDO : Rv → Rv → Option Rv := fun k d => (lookD d.d k.d).map fun o => ⟨.sh, .bl o.isSome⟩
def notinDO : Rv → Rv → Option Rv := fun k d => (lookD d.d k.d).map fun o => ⟨.sh, .bl (!o.isSome)⟩
theorem opD_dget : OpD X.K (fun x y H Q => ∃ a v, x = .ref a ∧ DGet H a y (some v) ∧ Q v H) dgetO := by
  intro Hin Z s σ H0 H x y a b c Q R qa qb e q
  simp only [dgetO, Option.bind_eq_some_iff, Option.map_eq_some_iff] at e
  obtain ⟨o, e1, v, rfl, rfl⟩ := e
  obtain ⟨p, rfl, g⟩ := look_ok qa qb e1
  exact ⟨p, v, rfl, g, q _ H (Same.refl _) ofV_rp⟩
theorem opD_in : OpD X.K (fun y x H Q => ∃ a o, x = .ref a ∧ DGet H a y o ∧ Q (.bl o.isSome) H) inDO := by
  intro Hin Z s σ H0 H x y a b c Q R qa qb e q
  simp only [inDO, Option.map_eq_some_iff] at e
  obtain ⟨o, e1, rfl⟩ := e
  obtain ⟨p, rfl, g⟩ := look_ok qb qa e1
  exact ⟨p, o, rfl, g, q _ H (Same.refl _) rvB⟩
theorem opD_notin : OpD X.K (fun y x H Q => ∃ a o, x = .ref a ∧ DGet H a y o ∧ Q (.bl (!o.isSome)) H) notinDO := by
  intro Hin Z s σ H0 H x y a b c Q R qa qb e q
  simp only [notinDO, Option.map_eq_some_iff] at e
  obtain ⟨o, e1, rfl⟩ := e
  obtain ⟨p, rfl, g⟩ := look_ok qb qa e1
  exact ⟨p, o, rfl, g, q _ H (Same.refl _) rvB⟩
theorem hu1 {k : Nat} {A : Around} (hr : Room k A) : A.units + 1 < cLine := hu_of hr
theorem de_dget (hu : X.A.units + 1 < cLine) (ha : DE X ca W a fa) (hb : DE X ca W b fb) (hs : NoSl b := by intro _ _; rfl) : DE X ca W (.Subscript a b pos) (fOp dgetO fa fb) :=
  (pe_dget hu ha hb hs).imp fun σ H Q h => tOp_of (r := fun x y H Q => ∃ a v, x = .ref a ∧ DGet H a y (some v) ∧ Q v H) (opD_dget (X := X)) h
theorem de_inD (hu : X.A.units + 1 < cLine) (ha : DE X ca W a fa) (hb : DE X ca W b fb) (hm : behindInMarks .In b = false := by rfl) : DE X ca W (.Compare a [.In] [b] pos) (fOp inDO fa fb) :=
  (pe_cmp (pc_din hu ha hb) hm).imp fun σ H Q h => tOp_of (opD_in (X := X)) h
theorem de_notinD (hu : X.A.units + 1 < cLine) (ha : DE X ca W a fa) (hb : DE X ca W b fb) (hm : behindInMarks .NotIn b = false := by rfl) : DE X ca W (.Compare a [.NotIn] [b] pos) (fOp notinDO fa fb) :=
  (pe_cmp (pc_dnotin hu ha hb) hm).imp fun σ H Q h => tOp_of (opD_notin (X := X)) h
theorem dt_inD (hu : X.A.units + 1 < cLine) (ha : DE X ca W a fa) (hb : DE X ca W b fb) (hm : behindInMarks .In b = false := by rfl) : DT X ca W (.Compare a [.In] [b] pos) (fB (fOp inDO fa fb)) :=
  (pt_cmp (pc_din hu ha hb) hm).imp fun σ H Q h => tOp_of (opD_in (X := X)) (tE_test h)
theorem dt_notinD (hu : X.A.units + 1 < cLine) (ha : DE X ca W a fa) (hb : DE X ca W b fb) (hm : behindInMarks .NotIn b = false := by rfl) : DT X ca W (.Compare a [.NotIn] [b] pos) (fB (fOp notinDO fa fb)) :=
  (pt_cmp (pc_dnotin hu ha hb) hm).imp fun σ H Q h => tOp_of (opD_notin (X := X)) (tE_test h)
/-! ### d.get(k, x) -/
@[simp] def fGet2 (fa fk fx : Ev → Res Rv) : Ev → Res Rv := fun s => bnd (fa s) fun d => match d.d with
  | .dT _ => bnd (fk s) fun k => bnd (fx s) fun x => match lookD d.d k.d, toV x.d with
    | some o, some v => .ok ⟨.sh, ofV (o.getD v)⟩
    | _, _ => .stuck
  | _ => .stuck
theorem de_get2 {o k x : Expr} {apos cpos : Pos} (hu : X.A.units + 1 < cLine) (ho : DE X ca W o fa) (hk : DE X ca W k fk) (hx : DE X ca W x fx) (m : M2 X o "get" apos k x cpos := by exact ⟨rfl, rfl, rfl, rfl⟩) : DE X ca W (.Call (.Attribute o "get" apos) [k, x] [] cpos) (fGet2 fa fk fx) :=
  (pe_dget2 hu ho hk hx m).imp fun σ H Q h => by
    obtain ⟨Hin, Z, s, R, h⟩ := h
    simp only [fGet2, sat_bnd] at h
    refine tE_go R (sat_mono h (fun d h v H1 k1 R1 q1 => ?_) fun _ h => h)
    obtain ⟨kd, dd⟩ := d
    cases dd with
    | dT kvs =>
      obtain ⟨p, rfl, hp⟩ := q1.dT rfl
      refine ⟨p, rfl, .inr ⟨_, .of hp⟩, ?_⟩
      simp only [sat_bnd] at h
      refine tE_go R1 (sat_mono h (fun kk h y H2 k2 R2 q2 => tE_go R2 (sat_mono h (fun xx h z H3 k3 R3 q3 => ?_) fun _ h => exq_go (k1.trans k2) h)) fun _ h => exq_go k1 h)
      cases e1 : lookD (.dT kvs) kk.d with
      | none => rw [e1] at h; exact h.elim
      | some o =>
        cases e2 : toV xx.d with
        | none => rw [e1, e2] at h; exact h.elim
        | some vv =>
          rw [e1, e2] at h
          obtain ⟨a', ea, g⟩ := look_ok (H0 := H) (r := ⟨kd, .dT kvs⟩) ((q1.mono k2).mono k3) (q2.mono k3) e1
          cases ea
          refine ⟨o, g, ?_⟩
          have ez : z = vv := toV_rp e2 q3.full
          subst ez
          exact h _ H3 ((k1.trans k2).trans k3) ofV_rp
    | _ => exact h.elim
/-! ### d[k] = v -/
def putDct (d : D) (k : D) (v : V) : Option D := match d with
  | .dT kvs => match keyD k with
    | some (.t w) => if kvs.length < lim then some (.dT (putK kvs w v)) else none
    | _ => none
  | .dK kvs => match keyD k with
    | some (.i i) => if kvs.length < lim then some (.dK (putK kvs i v)) else none
    | _ => none
  | _ => none
@[simp] def fDput (i : Nat) (fk fv : Ev → Res Rv) : Ev → Out := fun s => match gt s i with
  | .ow d => bndR (fv s) fun r => bndR (lft (toV r.d)) fun v => bndR (fk s) fun k => bndR (lft (putDct d k.d v)) fun d' => .nx (st s i (.ow d'))
  | _ => .stuck
theorem putDct_ok {K : PySem.W.Frag} {Hin : Hp} {Z : Addr → Prop} {s : Ev} {σ : L2.St} {H0 H : Hp} {p : Addr} {i : Nat} {d d' : D} {y v : V} {k : Rv} (R : Rel K Hin Z s σ H) (hi : s[i]? = some (.ow d)) (hp : σ[i]? = some (some (.ref p))) (g : ResOk K Z s σ H0 H y k) (e : putDct d k.d v = some d') :
    ∃ H', DPut H p y v H' ∧ Rel K Hin Z (st s i (.ow d')) σ H' := by
  obtain ⟨p', hp', hz, hin, ho⟩ := R.ow i d hi
  rw [hp] at hp'
  cases hp'
  obtain ⟨kk, dk⟩ := k
  cases d with
  | dT kvs =>
    have ho' : H p = some (.dT (kvs.map encT)) := ho
    cases dk with
    | tup ds =>
      simp only [putDct, keyD] at e
      cases ei : intsOf ds with
      | none => rw [ei] at e; cases e
      | some w =>
        rw [ei] at e
        simp only [Option.map_some] at e
        split at e
        · rename_i hl
          cases e
          obtain ⟨b, rfl, hb⟩ := g.tupI rfl ei
          refine ⟨_, DPut.t ho' hb (by rw [List.length_map]; exact lt_line hl), ?_⟩
          rw [putK_encT]
          exact R.mut hi hp upd_same
        · cases e
    | _ => simp [putDct, keyD] at e
  | dK kvs =>
    have ho' : H p = some (.dK (kvs.map encK)) := ho
    cases dk with
    | int j =>
      simp only [putDct, keyD] at e
      split at e
      · rename_i hl
        cases e
        rw [g.int rfl]
        refine ⟨_, DPut.k (k := .inl j) ho' (by rw [List.length_map]; exact lt_line hl), ?_⟩
        rw [putK_encK]
        exact R.mut hi hp upd_same
      · cases e
    | tup ds =>
      simp only [putDct, keyD] at e
      cases ei : intsOf ds with
      | none => rw [ei] at e; cases e
      | some w => rw [ei] at e; cases e
    | _ => simp [putDct, keyD] at e
  | _ => simp [putDct] at e
theorem ds_dput (i : Nat) {x : Str} {px pt : Pos} {ek ev : Expr} (hu : X.A.units + 1 < cLine) (hk : DE X ca W ek fk) (hv : DE X ca W ev fv) (hN : X.N[i]? = some x := by rfl) (hx : Vis X.env.scope x := by first | exact Or.inl rfl | exact Or.inr (Or.inl rfl) | exact Or.inr (Or.inr rfl)) (hd : (x == ("__debug__" : Str)) = false := by decide) (hcd : (x == ("__classdict__" : Str)) = false := by decide)
    (hs : swapsWith ev (some (.Subscript (.Name x px) ek pt)) pos.line X.env = pure false := by rfl) : DS X ca W (.Assign [.Subscript (.Name x px) ek pt] ev pos) (fDput i fk fv) :=
  (ps_dput hu (pe_var (i := i) hN hx hd hcd) hk hv hs).imp fun Dn σ H h => by
    obtain ⟨Hin, Z, s, R, h⟩ := h
    simp only [fDput] at h
    cases eg : gt s i with
    | ow d =>
      rw [eg] at h
      dsimp only at h
      have e1 := gt_ow eg
      obtain ⟨p, hp, hz, hin, ho⟩ := R.ow i _ e1
      refine tE_go R (sat_mono (satS_bnd R h) (fun r h v H1 k1 R1 q1 => ⟨.ref p, hp, ?_⟩) fun _ h => h)
      obtain ⟨vv, e2, h⟩ := sat_lft (satS_bnd R1 h)
      have ev : v = vv := toV_rp e2 q1.full
      subst ev
      refine tE_go R1 (sat_mono (satS_bnd R1 h) (fun k h y H2 k2 R2 q2 => ?_) fun _ h => h)
      obtain ⟨d', e3, h⟩ := sat_lft (satS_bnd R2 h)
      obtain ⟨H', g, R'⟩ := putDct_ok R2 e1 hp q2 e3
      exact ⟨p, H', rfl, g, h σ H' R'⟩
    | _ => rw [eg] at h; exact h.elim
end
/-! ### d.setdefault(k, x) -/
section
variable {X : Cx} {pins : List (Addr × Obj)} {σ : L2.St} {H : Hp} {s : Shared} {a b : Addr} {r : Value} {d : V} {k : List Key} {A : Around} {E : Value → Shared → Prop}
theorem d_setdT {kvs : List (List Key × V)} {Q : Value → Shared → Prop} (hu : A.units + 1 < cLine) (I : Inv X pins σ H s) (e : H a = some (.dT kvs)) (eb : H b = some (.tup (k.map kV))) (rd : RelV d r) (hl : kvs.length < sizeLine)
    (h1 : ∀ v, valV kvs k = some v → ∀ (w' : Value) (s' : Shared), Inv X pins σ H s' → RelV v w' → Q w' s') (h2 : valV kvs k = none → ∀ (w' : Value) (s' : Shared), Inv X pins σ (upd H a (.dT (putK kvs k d))) s' → RelV d w' → Q w' s') :
    wpAny (model X.prog X.w) A (call (.builtin "dict.setdefault") [.ref a, .ref b, r]) Q E s := by
  obtain ⟨z, hd, xs, rel, dd⟩ := dt_of I.hok e
  have hz : xs.length ≤ sizeLine := by rw [← Paired.length rel]; exact z
  have hl2 : (putK kvs k d).length ≤ sizeLine := by have := length_putK kvs k d; omega
  have q := rel.val k
  refine call_setdefault_heap (hsz := hz) (tupleKind_room_in1 hu) (key_of I.hok eb) hd dd (fun p hp => ?_) (fun hn h' dd' hs => ?_)
  · rw [hp] at q
    cases q0 : valV kvs k with
    | none => rw [q0] at q; exact (show False from q).elim
    | some v0 => rw [q0] at q; exact h1 v0 q0 _ _ (I.tok _) q
  · rw [hn] at q
    cases q0 : valV kvs k with
    | some v0 => rw [q0] at q; exact (show False from q).elim
    | none =>
      obtain ⟨o, es, ep, hq, g2, g3, g4, _, g5⟩ := dd'
      refine h2 q0 _ _ (d_write I (by rw [e]; exact True.intro) hs ⟨o, hq⟩ ⟨hl2, hd, _, (rel.put k eb rd).keeps fun c ys ec => ?_, o, es, ep, hq, g2, g3, g4, g5⟩) rd
      rw [upd_ne (ne_of ec e (fun z => nomatch z))]
      exact ec
end
def tDSetdT (td ty tx : TE) : TE := fun σ H Q => td σ H fun x H1 => ∃ a, x = .ref a ∧ IsD H1 a ∧ ty σ H1 fun y H2 => tx σ H2 fun z H3 => ∃ (kvs : List (List Key × V)) (k : List Key) (b : Addr), H3 a = some (.dT kvs) ∧ y = .ref b ∧ H3 b = some (.tup (k.map kV)) ∧ kvs.length < sizeLine ∧
  (∀ v, valV kvs k = some v → Q v H3) ∧ (valV kvs k = none → Q z (upd H3 a (.dT (putK kvs k z))))
section
variable {X : Cx} {o e f : Expr} {td ty tx : TE} {apos cpos : Pos}
theorem pe_dsetdT (hu : X.A.units + 1 < cLine) (ho : PE X o td) (he : PE X e ty) (hf : PE X f tx) (m : M2 X o "setdefault" apos e f cpos) : PE X (.Call (.Attribute o "setdefault" apos) [e, f] [] cpos) (tDSetdT td ty tx) := by
  refine ⟨fun pins s σ H Q I h => wpAny_Call_method m.base m.few m.line PySem.F.plainAttrs_dict PySem.F.slot_dict_setdefault PySem.F.type_dict_setdefault (thn (ho.run pins s σ H _ I h) fun u s1 ⟨x, H1, I1, rx, a, ex, d, q1⟩ => ?_)⟩
  subst ex
  obtain rfl : u = Value.ref a := rx
  obtain ⟨t1, t2, _⟩ := isD_at I1 d
  refine ⟨t1, t2, ?_⟩
  rw [m.trees]
  refine Calls.callWith_builtin rfl (Calls.evalArgs_plain (Calls.spliced_cons (thn (he.run pins s1 σ H1 _ I1 q1) fun iv s2 ⟨y, H2, I2, ry, q2⟩ => Calls.spliced_cons (thn (hf.run pins s2 σ H2 _ I2 q2) fun fv s3 ⟨z, H3, I3, rz, kvs, k, b, ea, ey, eb, hl, q3, q4⟩ => Calls.spliced_nil ?_))))
  subst ey
  obtain rfl : iv = Value.ref b := ry
  exact d_setdT hu I3 ea eb rz hl (fun v hv w' s4 I4 rw' => ⟨v, _, I4, rw', q3 v hv⟩) fun hn w' s4 I4 rw' => ⟨z, _, I4, rw', q4 hn⟩
variable {ca : Nat → Addr} {W : WX} {fk fx : Ev → Res Rv}
def hasDct (d : D) (k : D) : Option Bool := (lookD d k).map (·.isSome)
@[simp] def fDset (i : Nat) (fk fx : Ev → Res Rv) : Ev → Out := fun s => match gt s i with
  | .ow (.dT kvs) => bndR (fk s) fun k => bndR (fx s) fun x => bndR (lft (toV x.d)) fun v => bndR (lft (putDct (.dT kvs) k.d v)) fun d' => bndR (lft (hasDct (.dT kvs) k.d)) fun b => if b = true then .nx s else .nx (st s i (.ow d'))
  | _ => .stuck
theorem ds_dset (i : Nat) {x : Str} {p1 apos cpos spos : Pos} {ek ex : Expr} (hu : X.A.units + 1 < cLine) (hk : DE X ca W ek fk) (hx : DE X ca W ex fx) (hN : X.N[i]? = some x := by rfl) (hv : Vis X.env.scope x := by first | exact Or.inl rfl | exact Or.inr (Or.inl rfl) | exact Or.inr (Or.inr rfl)) (hd : (x == ("__debug__" : Str)) = false := by decide) (hcd : (x == ("__classdict__" : Str)) = false := by decide)
    (m : M2 X (.Name x p1) "setdefault" apos ek ex cpos := by exact ⟨rfl, rfl, rfl, rfl⟩) (hs : swapsWith (.Call (.Attribute (.Name x p1) "setdefault" apos) [ek, ex] [] cpos) none spos.line X.env = pure false := by rfl) :
    DS X ca W (.Expr (.Call (.Attribute (.Name x p1) "setdefault" apos) [ek, ex] [] cpos) spos) (fDset i fk fx) :=
  (ps_expr (pe_dsetdT hu (pe_var (i := i) hN hv hd hcd) hk hx m) hs).imp fun Dn σ H h => by
    obtain ⟨Hin, Z, s, R, h⟩ := h
    simp only [fDset] at h
    cases eg : gt s i with
    | ow d =>
      cases d with
      | dT kvs =>
        rw [eg] at h
        dsimp only at h
        have e1 := gt_ow eg
        obtain ⟨p, hp, hz, hin, ho⟩ := R.ow i _ e1
        have ho' : H p = some (.dT (kvs.map encT)) := ho
        refine ⟨.ref p, hp, p, rfl, .inr ⟨_, .of ho'⟩, ?_⟩
        refine tE_go R (sat_mono (satS_bnd R h) (fun k h y H1 k1 R1 q1 => ?_) fun _ h => h)
        refine tE_go R1 (sat_mono (satS_bnd R1 h) (fun xx h z H2 k2 R2 q2 => ?_) fun _ h => h)
        obtain ⟨v, e2, h⟩ := sat_lft (satS_bnd R2 h)
        have ev : z = v := toV_rp e2 q2.full
        subst ev
        obtain ⟨d', e3, h⟩ := sat_lft (satS_bnd R2 h)
        obtain ⟨bb, e4, hf⟩ := sat_lft (satS_bnd R2 h)
        clear h
        obtain ⟨kk, kd⟩ := k
        cases kd with
        | tup ds =>
          cases ei : intsOf ds with
          | none => simp [putDct, keyD, ei] at e3
          | some w =>
            obtain ⟨b, rfl, hb⟩ := q1.tupI rfl ei
            have hb2 := k2 _ _ hb
            have ho2 := (k1.trans k2) _ _ ho'
            have hl : kvs.length < lim := by
              simp only [putDct, keyD, ei, Option.map_some] at e3
              split at e3
              · assumption
              · cases e3
            have ed : d' = .dT (putK kvs w z) := by
              simp only [putDct, keyD, ei, Option.map_some, if_pos hl, Option.some.injEq] at e3
              exact e3.symm
            have eb : bb = (valV kvs w).isSome := by
              simp only [hasDct, lookD, keyD, ei, Option.map_some, Option.some.injEq] at e4
              exact e4.symm
            refine ⟨kvs.map encT, w.map Sum.inl, b, ho2, rfl, hb2, by rw [List.length_map]; exact lt_line hl, fun v hv => ?_, fun hn => ?_⟩
            · rw [valV_encT] at hv
              rw [eb, hv] at hf
              exact hf σ _ R2
            · rw [valV_encT] at hn
              rw [eb, hn] at hf
              rw [putK_encT]
              rw [ed] at hf
              exact hf σ _ (R2.mut e1 hp upd_same)
        | _ => simp [putDct, keyD] at e3
      | _ => rw [eg] at h; exact h.elim
    | _ => rw [eg] at h; exact h.elim
end
end DL
/-! Deep own lists by comprehension; what is changed within. -/
namespace DL
open PySem PySem.Spec L2
def ResDf (K : PySem.W.Frag) (H0 H' : Hp) (v : V) (ds : List D) : Prop := ∃ p, v = .ref p ∧ H0 p = none ∧ Own K (hide (fun a => H0 a ≠ none ∨ a = p) H') H' p (.lst ds)
def tD (K : PySem.W.Frag) (ca : Nat → Addr) (W : WX) (f : Ev → Res (List D)) : TE := fun σ H Q => ∃ Hin Z s, Rel K Hin Z s σ H ∧ (f s).sat (fun ds => ∀ v H', Same H H' → ResDf K H H' v ds → Q v H') (Exq ca W σ H)
def deep1 : Rv → Bool
  | ⟨.fr, .lst es⟩ => es.all scalar
  | _ => false
def fDeep1 (fe : Ev → Res Rv) : Ev → Res Rv := fun s => bnd (fe s) fun r => if deep1 r = true then .ok r else .stuck
theorem deep1_ok {fe : Ev → Res Rv} {s : Ev} {r : Rv} (h : fDeep1 fe s = .ok r) : fe s = .ok r ∧ ∃ es, r = ⟨.fr, .lst es⟩ ∧ es.all scalar = true := by
  unfold fDeep1 at h
  cases e : fe s with
  | exc c => rw [e] at h; cases h
  | stuck => rw [e] at h; cases h
  | ok r' =>
    rw [e] at h
    simp only [bnd_ok] at h
    split at h
    · rename_i hd
      cases h
      refine ⟨rfl, ?_⟩
      obtain ⟨k, d⟩ := r
      cases k <;> cases d <;> first | (simp [deep1] at hd; done) | exact ⟨_, rfl, hd⟩
    · cases h
@[simp] def fLcD (fi : Ev → Res (Bool × List D)) (i : Nat) (ft : Ev → Res Bool) (fe : Ev → Res Rv) : Ev → Res (List D) := fun s => bnd (fi s) fun p => if okW i s = true then bnd (lcF ft (fDeep1 fe) i (st s i .un) p.2) fun ds => if ds.length ≤ lim then .ok ds else .stuck else .stuck
theorem tLcD_of {ca : Nat → Addr} {W : WX} {fi : Ev → Res (Bool × List D)} {i : Nat} {ft : Ev → Res Bool} {fe0 : Ev → Res Rv} {K : PySem.W.Frag} {σ : L2.St} {H : Hp} {Q : VK} (h : tD K ca W (fLcD fi i ft fe0) σ H Q) : tLc (tI K ca W fi) (gName i) (tT K ca W0 ft) (tE K ca W0 fe0) [i] σ H Q := by
  obtain ⟨Hin, Z, s, R, h⟩ := h
  simp only [fLcD, sat_bnd] at h
  generalize efe : fDeep1 fe0 = fe at h
  refine ⟨Hin, Z, s, R, sat_mono h (fun p h J H1 keep k1 it hk Dd hD => ?_) fun _ h => h⟩
  obtain ⟨ow, ds⟩ := p
  obtain ⟨hw, h⟩ := sat_if h
  rw [sat_bnd] at h
  obtain ⟨vs, rv, hv⟩ := it.vals
  have hlen : vs.length = ds.length := rv.length
  have R1 := R.mono k1
  cases eo : lcF ft fe i (st s i .un) ds with
  | exc c => exact absurd eo (lcF_noexc _ _ _ _ _ _)
  | stuck => rw [eo] at h; exact h.elim
  | ok out =>
    rw [eo] at h
    obtain ⟨hl, h⟩ := sat_if (show ((if out.length ≤ lim then Res.ok out else .stuck).sat _ _) from h)
    have h : ∀ v H', Same H H' → ResDf K H H' v out → Q v H' := h
    refine ⟨fun j m H' => m = ds.length - j ∧ j ≤ ds.length ∧ ∃ acc done rest, H' Dd = some (.lst acc) ∧ Same H1 H' ∧ RpL K (hide (fun a => H1 a ≠ none ∨ a = Dd) H') acc done ∧ lcF ft fe i (st s i .un) (ds.drop j) = .ok rest ∧ done ++ rest = out,
      ⟨ds.length, by simp, Nat.zero_le _, [], [], out, upd_same, same_new hD, .nil, eo, rfl⟩, ?_⟩
    rintro j m H' ⟨rfl, hj, acc, done, rest, hacc, kH, rd, er, eout⟩
    have hv' := hv H' (it.here.trans kH) j
    by_cases hlt : j < ds.length
    · obtain ⟨d, hd⟩ : ∃ d, ds[j]? = some d := ⟨ds[j], by simp [hlt]⟩
      obtain ⟨v, hvj, rdv⟩ := rv.get hd
      obtain ⟨g1, g2⟩ := hv'.1 v hvj
      have ed : ds.drop j = d :: ds.drop (j + 1) := by
        rw [List.drop_eq_getElem_cons hlt]
        rw [List.getElem?_eq_getElem hlt] at hd
        rw [Option.some.inj hd]
      rw [ed] at er
      refine .inr ⟨g1, fun H'' => ∃ acc done rest, H'' Dd = some (.lst acc) ∧ Same H1 H'' ∧ RpL K (hide (fun a => H1 a ≠ none ∨ a = Dd) H'') acc done ∧ lcF ft fe i (st s i .un) (ds.drop (j + 1)) = .ok rest ∧ done ++ rest = out, fun H'' q => ⟨ds.length - (j + 1), by omega, rfl, hlt, q⟩, fun y H3 hy => ?_⟩
      obtain ⟨rfl, rfl⟩ := g2 y H3 hy
      -- the inner state
      have RD : Rel K Hin (fun a => Z a ∨ a = Dd) s σ H3 := R1.hideMore' kH hD (by rw [hacc]; simp)
      obtain ⟨RW, pw⟩ := RD.wipe hw
      have rdv2 : Rp K (Rg (fun a => Z a ∨ a = Dd) (st s i .un) (wipe σ [i]) H3) y d := rdv.mono (hide_mono kH fun a na _ q => by
        rcases q with (q | q) | q
        · exact .inl q
        · rw [q] at na; exact absurd hD na
        · exact .inr ((pw a).mp q))
      have RS := RW.setSh rdv2 i
      have est : st (st s i .un) i (.sh d) = st s i (.sh d) := by simp only [st_eq, List.set_set]
      have ps : ∀ a, priv s σ a → priv (st (st s i .un) i (.sh d)) ((wipe σ [i]).set i (some y)) a := fun a q => by
        obtain ⟨jj, f, h1, h2⟩ := (pw a).mpr q
        have ne : i ≠ jj := fun z => by
          subst z
          rw [st_eq, List.getElem?_set, if_pos rfl] at h1
          split at h1 <;> cases h1
        refine ⟨jj, f, ?_, ?_⟩
        · rw [st_eq, List.getElem?_set, if_neg ne]; exact h1
        · rw [List.getElem?_set, if_neg ne]; exact h2
      show wipe ((wipe σ [i]).set i (some y)) [i] = wipe σ [i] ∧ _
      refine ⟨by show ((σ.set i none).set i (some y)).set i none = σ.set i none; simp only [List.set_set], ?_⟩
      simp only [lcF] at er
      refine tT_go RS ?_
      cases et : ft (st (st s i .un) i (.sh d)) with
      | exc c => rw [et] at er; cases er
      | stuck => rw [et] at er; cases er
      | ok b =>
        rw [et] at er
        intro H4 k4 R4
        cases b with
        | false =>
          refine iteF ?_
          simp only [nox, bnd, Bool.false_eq_true, if_false] at er
          exact ⟨acc, done, rest, k4 _ _ hacc, kH.trans k4, rd.mono (hide_mono k4 fun _ _ _ q => q), er, eout⟩
        | true =>
          refine iteT (tE_go R4 ?_)
          simp only [nox, bnd, if_true] at er
          cases ee : fe (st (st s i .un) i (.sh d)) with
          | exc c => rw [ee] at er; cases er
          | stuck => rw [ee] at er; cases er
          | ok r =>
            rw [ee] at er
            rw [← efe] at ee
            obtain ⟨ee0, es0, er0, hsc⟩ := deep1_ok ee
            rw [ee0]
            intro w H5 k5 R5 q5
            simp only [nox, bnd] at er
            rw [er0] at er q5
            simp only [shOne_fr, bnd] at er
            cases er2 : lcF ft fe i (st s i .un) (ds.drop (j + 1)) with
            | exc c => rw [er2] at er; cases er
            | stuck => rw [er2] at er; cases er
            | ok rest' =>
              rw [er2] at er
              simp only [bnd, Res.ok.injEq] at er
              subst er
              obtain ⟨pw5, rfl, hn5, xs5, e5, r5⟩ := q5
              have hl2 : acc.length < lim := by
                have := congrArg List.length eout
                rw [List.length_append, List.length_cons, ← rd.length] at this
                omega
              have acc5 := k5 _ _ (k4 _ _ hacc)
              have nDp : pw5 ≠ Dd := fun z => by
                have := k4 _ _ hacc
                rw [← z, hn5] at this
                cases this
              have n1p : H1 pw5 = none := kH.free (k4.free hn5)
              have up : Same (hide (fun a => H1 a ≠ none ∨ a = Dd) H5) (hide (fun a => H1 a ≠ none ∨ a = Dd) (upd H5 Dd (.lst (acc ++ [.ref pw5])))) := hide_upd (not_it acc5 fun _ z => nomatch z) (.inr rfl) fun _ y => y
              refine ⟨acc, acc5, lt_line hl2, acc ++ [.ref pw5], done ++ [.lst es0], rest', upd_same, fun a o q => ?_, ?_, rfl, by rw [List.append_assoc]; exact eout⟩
              · rw [upd_ne (ne_of_none q hD)]
                exact k5 _ _ (k4 _ _ (kH _ _ q))
              · refine ((rd.mono (hide_mono (k4.trans k5) fun _ _ _ q => q)).app (.cons (.lst ?_ (scalars_rp r5 hsc)) .nil)).mono up
                rw [hide_no (fun z => z.elim (fun z => z n1p) nDp)]
                exact e5
    · have e : j = ds.length := by omega
      subst e
      rw [List.drop_length] at er
      simp only [lcF, Res.ok.injEq] at er
      subst er
      rw [List.append_nil] at eout
      subst eout
      refine .inl ⟨hv'.2 (by omega), h _ H' (k1.trans kH) ⟨Dd, rfl, k1.free hD, acc, hacc, rd.mono (hide_mono (Same.refl _) fun a _ _ z => z.imp (fun z y => z (k1.free y)) id)⟩⟩
section
variable {X : Cx} {ca : Nat → Addr} {W : WX} {a b c e : Expr} {es : List Expr} {pos : Pos} {q : Stmt} {rest : List Stmt} {f g : Ev → Out}
/-- y = [.. for ..], a deep own list -/
@[simp] def fDeepLc (j : Nat) (fl : Ev → Res (List D)) (g : Ev → Out) : Ev → Out := fun s => bndR (fl s) fun ds => noNx (g (st s j (.as (.lst ds))))
theorem dss_deepLc (j : Nat) (i : Nat) {y : Str} {py spos : Pos} {x : Str} {tpos : Pos} {elt iter : Expr} {ifs : List Expr} {scope : Scope} {fi : Ev → Res (Bool × List D)} {ft : Ev → Res Bool} {fe : Ev → Res Rv} (hN : X.N.Nodup) (hi : DI X ca W (.Name x tpos) iter fi) (ok : blkC X.N X.env.scope scope [(x, i)] = true)
    (hg : ∀ (s : Shared) (H : Hp) (C : Addr) (cl : List (Str × Addr)) (fp : List Addr), PG (X.blk s H scope (compEnvC scope cl C X.env) fp) (.Name x tpos) (gName i)) (ht : ∀ (s : Shared) (H : Hp) (C : Addr) (cl : List (Str × Addr)) (fp : List Addr), PTs (X.blk s H scope (compEnvC scope cl C X.env) fp) ifs (tT X.K ca W0 ft))
    (he : ∀ (s : Shared) (H : Hp) (C : Addr) (cl : List (Str × Addr)) (fp : List Addr), DE (X.blk s H scope (compEnvC scope cl C X.env) fp) ca W0 elt fe) (hsw : swapsWith (.ListComp elt [⟨.Name x tpos, iter, ifs, 0⟩] scope pos) (some (.Name y py)) spos.line X.env = pure true)
    (h2 : DSs X ca W rest g) (hy : X.N[j]? = some y := by rfl) (hyl : X.env.scope.names.lookup y = some .local := by rfl) (hc : X.calm = true := by rfl) (hs : ∀ x, foldedSetIterable iter X.env x = pure x := by intro _; rfl) :
    DSs X ca W (.Assign [.Name y py] (.ListComp elt [⟨.Name x tpos, iter, ifs, 0⟩] scope pos) spos :: rest) (fDeepLc j (fLcD fi i ft fe) g) :=
  (pss_cons (ps_setLc (te := tE X.K ca W0 fe) (own := [(x, i)]) hc hN hy hyl hsw hi (blkOk_by ok) hg ht he hs) h2).imp fun Dn σ H h => by
    obtain ⟨Hin, Z, s, R, h⟩ := h
    show tLc (tI X.K ca W fi) (gName i) (tT X.K ca W0 ft) (tE X.K ca W0 fe) [i] σ H (fun v H' => tS X.K ca W g Dn (σ.set j (some v)) H')
    refine tLcD_of ⟨Hin, Z, s, R, sat_mono (satS_bnd R h) (fun ds h v H' k qd => ?_) fun _ h => h⟩
    obtain ⟨p, rfl, hp, ho⟩ := qd
    exact ⟨Hin, _, st s j (.as (.lst ds)), R.setAs k hp ho j, satS_grow (fun a z => .inl z) h⟩
/-- y = f(..); if t: ..; then on, the test false, y's items forgotten -/
@[simp] def fCallTest (j : Nat) (fc : Ev → Res Rv) (t : Ev → Res Bool) (g : Ev → Out) : Ev → Out := fun s => bndR (fc (wake s)) fun r => match r with
  | ⟨.fr, .lst ds⟩ => bndR (t (st (wake s) j (.ow (.lst ds)))) fun b => if b = true then .stuck else g (st s j (.ow (.lst (ds.map dull))))
  | ⟨.sh, d⟩ => bndR (t (st (wake s) j (.sh d))) fun b => if b = true then .stuck else g (st s j (.sh .any))
  | _ => .stuck
theorem wake_st {s : Ev} {j : Nat} : ∀ {x : Sl}, wk1 x = x → wake (st s j x) = st (wake s) j x := fun {x} h => by
  simp only [wake, st_eq, List.map_set, h]
theorem dss_callTest (j : Nat) {y : Str} {py spos tpos : Pos} {ec : Expr} {fc : Ev → Res Rv} {t : Ev → Res Bool} {u : List Stmt} (he : DE X ca W ec fc) (ht : DT X ca W c t) (h2 : DSs X ca W rest g) (hN : X.N.Nodup)
    (hi : X.N[j]? = some y := by rfl) (hy : Loc X.env.scope y := by first | exact Or.inl rfl | exact Or.inr rfl) (hs : swapsWith ec (some (.Name y py)) spos.line X.env = pure false := by rfl) (hf : X.fn y = true ∨ X.env.scope.names.lookup y = some .local := by first | exact .inl rfl | exact .inr rfl | assumption) :
    DSs X ca W (.Assign [.Name y py] ec spos :: .If c u [] tpos :: rest) (fCallTest j fc t g) := by
  refine (pss_cons (ps_set hN hi hy he hs hf) (pss_cons (ps_if ht (⟨fun _ _ _ _ _ _ z => z.elim⟩ : PSs X u (fun _ _ _ => False)) pss_nil) h2)).imp fun Dn σ H h => ?_
  obtain ⟨Hin, Z, s, R, h⟩ := h
  simp only [fCallTest] at h
  have hw : SatS X.K ca W Hin Z Dn (bndR (fc (wake s)) fun r => match r with
      | ⟨.fr, .lst ds⟩ => bndR (t (st (wake s) j (.ow (.lst ds)))) fun b => if b = true then .stuck else g (st s j (.ow (.lst (ds.map dull))))
      | ⟨.sh, d⟩ => bndR (t (st (wake s) j (.sh d))) fun b => if b = true then .stuck else g (st s j (.sh .any))
      | _ => .stuck) := h
  refine ⟨Hin, _, wake s, R.wake, sat_mono (satS_bnd (Z := Z) R hw) (fun r h v H1 k1 q => ?_) fun _ h => h⟩
  obtain ⟨kd, d⟩ := r
  cases kd with
  | sh =>
    have RA := (R.wake.mono k1).setSh q j
    have RB := (R.mono k1).setSh (Rp.any v) j
    replace h : SatS X.K ca W Hin Z Dn (bndR (t (st (wake s) j (.sh d))) fun b => if b = true then .stuck else g (st s j (.sh .any))) := by cases d <;> exact h
    refine ⟨Hin, _, _, RA, sat_mono (satS_bnd RB h) (fun b h H2 k2 => ?_) fun _ h => h⟩
    cases b with
    | true => exact h.elim
    | false => exact iteF ⟨Hin, Z, _, RB.mono k2, h⟩
  | ow => exact h.elim
  | fr =>
    cases d with
    | lst ds =>
      obtain ⟨p, rfl, hp, ho⟩ := q
      have RA := R.wake.setOw k1 hp ho j
      have RB : Rel X.K Hin Z (st s j (.ow (.lst (ds.map dull)))) (σ.set j (some (.ref p))) H1 := by
        obtain ⟨xs, e1, e2⟩ := ho
        exact R.setOw (d := .lst (ds.map dull)) k1 hp ⟨xs, e1, dulls_rp e2⟩ j
      replace h : SatS X.K ca W Hin Z Dn (bndR (t (st (wake s) j (.ow (.lst ds)))) fun b => if b = true then .stuck else g (st s j (.ow (.lst (ds.map dull))))) := h
      refine ⟨Hin, _, _, RA, sat_mono (satS_bnd RB h) (fun b h H2 k2 => ?_) fun _ h => h⟩
      cases b with
      | true => exact h.elim
      | false => exact iteF ⟨Hin, Z, _, RB.mono k2, h⟩
    | _ => exact h.elim
/-- x.clear(), x a deep own list -/
@[simp] def fClrA (i : Nat) : Ev → Out := fun s => match gt s i with
  | .as (.lst ds) => if noAs (st s i .un) = true then .nx (st s i (.as (.lst []))) else .stuck
  | _ => .stuck
theorem ds_clrA (i : Nat) {x : Str} {p1 apos cpos spos : Pos} (pa : PlainAttrs "list") (slot : Slot "list" "clear" "list.clear") (hty : typeOf (.builtin "list.clear") = pure (.type "method_descriptor"))
    (hN : X.N[i]? = some x := by rfl) (hv : Vis X.env.scope x := by first | exact Or.inl rfl | exact Or.inr (Or.inl rfl) | exact Or.inr (Or.inr rfl)) (hd : (x == ("__debug__" : Str)) = false := by decide) (hcd : (x == ("__classdict__" : Str)) = false := by decide)
    (hbase : attributeBase (.Name x p1) "clear" X.env (eval (.Name x p1) X.env) = eval (.Name x p1) X.env := by rfl) (hline : (apos.endLine == cpos.line) = true := by rfl)
    (hs : swapsWith (.Call (.Attribute (.Name x p1) "clear" apos) [] [] cpos) none spos.line X.env = pure false := by rfl) : DS X ca W (.Expr (.Call (.Attribute (.Name x p1) "clear" apos) [] [] cpos) spos) (fClrA i) :=
  (ps_expr (pe_bm0 pa slot hty md_clear.1 (pe_var hN hv hd hcd) hbase hline) hs).imp fun Dn σ H h => by
    obtain ⟨Hin, Z, s, R, h⟩ := h
    simp only [fClrA] at h
    cases eg : gt s i with
    | as d =>
      cases d with
      | lst ds =>
        rw [eg] at h
        dsimp only at h
        have eg' := gt_as eg
        obtain ⟨p, hp, hz, xs, h1, h2⟩ := R.as i _ eg'
        have hsz : i < s.length := (List.getElem?_eq_some_iff.mp eg').1
        split at h
        · rename_i hc
          exact ⟨.ref p, hp, .inl ⟨rfl, xs, SqL.of h1⟩, p, xs, rfl, rfl, h1, h σ _ (R.mutAs hc hp hz (not_it h1 fun _ z => nomatch z) hsz ⟨hz, [], upd_same, .nil⟩)⟩
        · exact h.elim
      | _ => rw [eg] at h; exact h.elim
    | _ => rw [eg] at h; exact h.elim
/-- for y in x: y.clear(), x a deep own list of lists -/
def isL : D → Bool
  | .lst _ => true
  | _ => false
@[simp] def fClrFor (i j : Nat) : Ev → Out := fun s => match gt s i with
  | .as (.lst ds) => if noAs (st s i .un) = true ∧ ds.all isL = true ∧ i ≠ j ∧ okW j s = true ∧ j < s.length then .nx (st (st s j .un) i (.as (.lst (ds.map fun _ => .any)))) else .stuck
  | _ => .stuck
theorem Rel.drop {K : PySem.W.Frag} {Hin H : Hp} {Z : Addr → Prop} {s : Ev} {σ : L2.St} (R : Rel K Hin Z s σ H) {j : Nat} (h : okW j s = true) : Rel K Hin Z (st s j .un) σ H := by
  have g : ∀ (i : Nat) (x : Sl), x ≠ .un → (st s j .un)[i]? = some x → s[i]? = some x ∧ j ≠ i := fun i x n q => by
    rw [st_eq, List.getElem?_set] at q
    by_cases z : j = i
    · rw [if_pos z] at q
      split at q
      · exact absurd (Option.some.inj q).symm n
      · cases q
    · rw [if_neg z] at q; exact ⟨q, z⟩
  have pv : ∀ a, priv (st s j .un) σ a ↔ priv s σ a := fun a => ⟨fun ⟨i, d, h1, h2⟩ => ⟨i, d, (g i _ (by simp) h1).1, h2⟩, fun ⟨i, d, h1, h2⟩ => by
    refine ⟨i, d, ?_, h2⟩
    have ne : j ≠ i := fun q => okW_no h (by rw [q]; exact h1)
    rw [st_eq, List.getElem?_set, if_neg ne]
    exact h1⟩
  have gg : Same (Rg Z s σ H) (Rg Z (st s j .un) σ H) := hide_mono (Same.refl _) fun a _ _ q => q.imp id (pv a).mp
  refine ⟨by rw [st_eq]; simpa using R.len, R.base, R.zin, fun i d q => ?_, fun i d q => ?_, fun i k d e p h1 h2 => R.inj i k d e p (g i _ (by simp) h1).1 (g k _ (by simp) h2).1, fun i d q => R.as i d (g i _ (by simp) q).1, by rw [st_eq] at gg ⊢; exact pn_set0 R.pn gg (fun _ _ y => nomatch y), by rw [st_eq] at gg ⊢; exact dl_set0 R.dl gg (fun _ y => nomatch y), by rw [st_eq]; exact tr_set0 R.tr (fun _ y => nomatch y)⟩
  · obtain ⟨v, h1, h2⟩ := R.sh i d (g i _ (by simp) q).1
    exact ⟨v, h1, h2.mono gg⟩
  · obtain ⟨p, h1, h2, h3, h4⟩ := R.ow i d (g i _ (by simp) q).1
    exact ⟨p, h1, h2, h3, h4.mono gg (Same.refl _)⟩
theorem noAs_of : ∀ {s : Ev}, (∀ (i : Nat) (d : D), s[i]? ≠ some (Sl.as d)) → (∀ (i : Nat) (k : List (List Int × List D)), s[i]? ≠ some (Sl.dl k)) → (∀ (i : Nat) (d : D), s[i]? ≠ some (Sl.tr d)) → noAs s = true
  | [], _, _, _ => rfl
  | x :: r, h, h2, h3 => by
    have ih := noAs_of (s := r) (fun i d => by simpa using h (i + 1) d) (fun i d => by simpa using h2 (i + 1) d) (fun i d => by simpa using h3 (i + 1) d)
    cases x with
    | as d => exact absurd rfl (h 0 d)
    | dl d => exact absurd rfl (h2 0 d)
    | tr d => exact absurd rfl (h3 0 d)
    | _ => exact ih
theorem okW_sh {j : Nat} {d : D} : ∀ {s : Ev}, j < s.length → okW j (st s j (.sh d)) = true := fun {s} h => by
  have : gt (st s j (.sh d)) j = .sh d := by
    induction s generalizing j with
    | nil => simp at h
    | cons x r ih =>
      cases j with
      | zero => rfl
      | succ j => exact ih (j := j) (by simpa using h)
  simp [okW, this]
theorem rpl_any {K : PySem.W.Frag} {R R' : Hp} : ∀ {vs : List V} {ds : List D}, RpL K R vs ds → RpL K R' vs (ds.map fun _ => .any)
  | _, _, .nil => .nil
  | _, _, .cons h r => .cons (.any _) (rpl_any r)
theorem ClrFor_lists {K : PySem.W.Frag} {R : Hp} : ∀ {vs : List V} {ds : List D}, RpL K R vs ds → ds.all isL = true → ∀ (k : Nat) (x : V), vs[k]? = some x → ∃ q ys, x = .ref q ∧ R q = some (.lst ys)
  | _, _, .nil, _, k, x, h => by simp at h
  | _, _, .cons (d := d) h r, e, k, x, hx => by
    simp only [List.all_cons, Bool.and_eq_true] at e
    cases k with
    | zero =>
      simp at hx
      subst hx
      cases h <;> first | (simp [isL] at e; done) | exact ⟨_, _, rfl, by assumption⟩
    | succ k => exact ClrFor_lists r e.2 k x (by simpa using hx)
theorem ds_clrFor (i j : Nat) {x y : Str} {tpos ipos p1 apos cpos spos fpos : Pos} (pa : PlainAttrs "list") (slot : Slot "list" "clear" "list.clear") (hty : typeOf (.builtin "list.clear") = pure (.type "method_descriptor")) (hp : PassesOwn (model X.prog X.w) X.A X.env X.xe) (hNd : X.N.Nodup)
    (hN : X.N[i]? = some x := by rfl) (hv : Vis X.env.scope x := by first | exact Or.inl rfl | exact Or.inr (Or.inl rfl) | exact Or.inr (Or.inr rfl)) (hd : (x == ("__debug__" : Str)) = false := by decide) (hcd : (x == ("__classdict__" : Str)) = false := by decide)
    (hNy : X.N[j]? = some y := by rfl) (hvy : Vis X.env.scope y := by first | exact Or.inl rfl | exact Or.inr (Or.inl rfl) | exact Or.inr (Or.inr rfl)) (hly : Loc X.env.scope y := by first | exact Or.inl rfl | exact Or.inr rfl) (hdy : (y == ("__debug__" : Str)) = false := by decide) (hcdy : (y == ("__classdict__" : Str)) = false := by decide)
    (hf : X.fn y = true ∨ X.env.scope.names.lookup y = some .local := by first | exact .inl rfl | exact .inr rfl | assumption)
    (hbase : attributeBase (.Name y p1) "clear" X.env (eval (.Name y p1) X.env) = eval (.Name y p1) X.env := by rfl) (hline : (apos.endLine == cpos.line) = true := by rfl)
    (hs : swapsWith (.Call (.Attribute (.Name y p1) "clear" apos) [] [] cpos) none spos.line X.env = pure false := by rfl) (hc : X.calm = true := by rfl) (hfs : ∀ z, foldedSetIterable (.Name x ipos) X.env z = pure z := by intro _; rfl) :
    DS X ca W (.For (.Name y tpos) (.Name x ipos) [.Expr (.Call (.Attribute (.Name y p1) "clear" apos) [] [] cpos) spos] [] fpos) (fClrFor i j) :=
  (ps_for hp hc (pi_list (pe_var hN hv hd hcd)) (pg_name (i := j) hNd hNy hly hf) (pss_one (ps_expr (pe_bm0 pa slot hty md_clear.1 (pe_var hNy hvy hdy hcdy) hbase hline) hs)) hfs).imp fun Dn σ H h => by
    obtain ⟨Hin, Z, s, R, h⟩ := h
    simp only [fClrFor] at h
    cases eg : gt s i with
    | as d =>
      cases d with
      | lst ds =>
        rw [eg] at h
        dsimp only at h
        have eg' := gt_as eg
        obtain ⟨p, hpp, hz, xs, h1, h2⟩ := R.as i _ eg'
        have hsz : i < s.length := (List.getElem?_eq_some_iff.mp eg').1
        split at h
        · rename_i hcnd
          obtain ⟨hno, hall, hij, hw, hjs⟩ := hcnd
          refine ⟨.ref p, hpp, p, rfl, ⟨xs, SqL.of h1⟩, ?_⟩
          have hls := ClrFor_lists h2 hall
          let s0 : Ev := st (st s j .un) i (.as (.lst (ds.map fun _ => .any)))
          have hs0i : (st s0 i .un) = st (st s j .un) i .un := by simp only [s0, st_eq, List.set_set]
          have hnoj : noAs (st (st s j .un) i .un) = true := noAs_of (fun k d z => by
            rw [st_eq, List.getElem?_set] at z
            by_cases q1 : i = k
            · rw [if_pos q1] at z; split at z <;> cases z
            · rw [if_neg q1, st_eq, List.getElem?_set] at z
              by_cases q2 : j = k
              · rw [if_pos q2] at z; split at z <;> cases z
              · rw [if_neg q2] at z
                exact noAs_no hno k d (by rw [st_eq, List.getElem?_set, if_neg q1]; exact z)) (fun k d z => by
            rw [st_eq, List.getElem?_set] at z
            by_cases q1 : i = k
            · rw [if_pos q1] at z; split at z <;> cases z
            · rw [if_neg q1, st_eq, List.getElem?_set] at z
              by_cases q2 : j = k
              · rw [if_pos q2] at z; split at z <;> cases z
              · rw [if_neg q2] at z
                exact noAs_dl hno k d (by rw [st_eq, List.getElem?_set, if_neg q1]; exact z)) (fun k d z => by
            rw [st_eq, List.getElem?_set] at z
            by_cases q1 : i = k
            · rw [if_pos q1] at z; split at z <;> cases z
            · rw [if_neg q1, st_eq, List.getElem?_set] at z
              by_cases q2 : j = k
              · rw [if_pos q2] at z; split at z <;> cases z
              · rw [if_neg q2] at z
                exact noAs_tr hno k d (by rw [st_eq, List.getElem?_set, if_neg q1]; exact z))
          have hno0 : noAs (st s0 i .un) = true := by rw [hs0i]; exact hnoj
          have hs0j : st s0 j .un = s0 := by
            simp only [s0, st_eq]
            rw [List.set_comm _ _ hij, List.set_set]
          have hs0l : s0.length = s.length := by simp only [s0, st_eq, List.length_set]
          have hs0s : st s0 i (.as (.lst (ds.map fun _ => .any))) = s0 := by simp only [s0, st_eq, List.set_set]
          have hself : upd H p (.lst xs) = H := funext fun a => by
            by_cases z : a = p
            · rw [z, upd_same, h1]
            · rw [upd_ne z]
          refine for_list (K := X.K) (a := p) (xs := xs) (fun k σ' H' => Rel X.K Hin Z s0 σ' H' ∧ σ'[i]? = some (some (.ref p)) ∧ H' p = some (.lst xs) ∧ ∀ (k : Nat) (x : V), xs[k]? = some x → ∃ q ys, x = .ref q ∧ (Z q ∧ Hin q = none) ∧ q ≠ p ∧ H' q = some (.lst ys)) ⟨?_, hpp, h1, fun k x hx => ?_⟩ (fun k σ' H' _ ⟨_, _, e, _⟩ => SqL.of e) ?_ fun σ' H' ⟨R', _⟩ => h σ' H' R'
          · have := (R.drop hw).mutAs (q := p) (o := .lst xs) hnoj hpp hz (not_it h1 fun _ z => nomatch z) (by rw [st_eq, List.length_set]; exact hsz) (d := .lst (ds.map fun _ => .any)) ⟨hz, xs, upd_same, rpl_any h2⟩
            rw [hself] at this
            exact this
          · obtain ⟨q, ys, rfl, hq⟩ := hls k x hx
            have n := hide_lst hq fun _ z => nomatch z
            have hq := (hide_some hq).2
            have n' := Classical.not_not.mp n
            exact ⟨q, ys, rfl, n'.1, n'.2, hq⟩
          · rintro k x σ' H' hx ⟨R', hp', e', hall'⟩
            obtain ⟨q, ys, rfl, hzq, hqp, hq⟩ := hall' k x hx
            have hjl : j < σ'.length := by rw [← R'.len, hs0l]; exact hjs
            refine ⟨.ref q, by rw [List.getElem?_set]; simp [hjl], .inl ⟨rfl, ys, SqL.of hq⟩, q, ys, rfl, rfl, hq, ?_, ?_, ?_, fun k' x' hx' => ?_⟩
            · have R1 := R'.setSh (Rp.any (.ref q)) j
              have R2 := R1.drop (j := j) (okW_sh (by rw [hs0l]; exact hjs))
              have e2 : st (st s0 j (.sh .any)) j .un = s0 := by
                rw [← hs0j]
                simp only [st_eq, List.set_set]
              rw [e2] at R2
              have hp2 : (σ'.set j (some (.ref q)))[i]? = some (some (.ref p)) := by rw [List.getElem?_set, if_neg (Ne.symm hij)]; exact hp'
              have R3 := R2.mutAs (q := q) (o := .lst []) hno0 hp2 hzq (not_it hq fun _ z => nomatch z) (by rw [hs0l]; exact hsz) (d := .lst (ds.map fun _ => .any)) ⟨hz, xs, by rw [upd_ne (Ne.symm hqp)]; exact e', rpl_any h2⟩
              rw [hs0s] at R3
              exact R3
            · rw [List.getElem?_set, if_neg (Ne.symm hij)]; exact hp'
            · rw [upd_ne (Ne.symm hqp)]; exact e'
            · obtain ⟨q2, ys2, rfl, a1, a2, a3⟩ := hall' k' x' hx'
              by_cases z : q2 = q
              · exact ⟨q2, [], rfl, a1, a2, by rw [z]; exact upd_same⟩
              · exact ⟨q2, ys2, rfl, a1, a2, by rw [upd_ne z]; exact a3⟩
        · exact h.elim
      | _ => rw [eg] at h; exact h.elim
    | _ => rw [eg] at h; exact h.elim
end
end DL
/-! A pair that a call tells: a new list, and a value beside it. -/
namespace DL
open PySem PySem.Spec L2
section
variable {X : Cx} {ca : Nat → Addr} {W : WX} {a b c e : Expr} {es : List Expr} {fa fe : Ev → Res Rv} {fs : Ev → Res (List Rv)} {pos : Pos} {rest : List Stmt} {f g : Ev → Out}
/-- return (x, e), x an own list of plain items -/
@[simp] def retP : List Rv → Out
  | [⟨.ow, .lst ds⟩, ⟨k, d⟩] => if ds.all scalar = true ∧ k ≠ .ow then .rt ⟨.ow, .tup [.lst ds, d]⟩ else .stuck
  | _ => .stuck
@[simp] def fRetP (fs : Ev → Res (List Rv)) : Ev → Out := fun s => bndR (fs s) retP
theorem ds_retP {k : Nat} {p2 : Pos} (h : DA X ca W es fs) : DS X ca W (.Return (some (.Tuple es k p2)) pos) (fRetP fs) := (ps_ret (pe_tup h)).imp fun Dn σ H h => by
  obtain ⟨Hin, Z, s, R, h⟩ := h
  refine tA_go R (sat_mono (satS_bnd R h) (fun rs h vs H1 k1 R1 q1 => ?_) fun _ h => h)
  match rs, h, q1 with
  | [], h, _ => exact h.elim
  | [_], h, _ => simp [retP, SatS] at h
  | [⟨k, d⟩, ⟨k2, d2⟩], h, q1 =>
    cases k with
    | sh => exact h.elim
    | fr => exact h.elim
    | ow =>
      cases d with
      | lst ds =>
        by_cases hc : ds.all scalar = true ∧ k2 ≠ .ow
        · replace h : SatS X.K ca W Hin Z Dn (if ds.all scalar = true ∧ k2 ≠ .ow then .rt ⟨.ow, .tup [.lst ds, d2]⟩ else .stuck) := h
          rw [if_pos hc] at h
          obtain ⟨v, w, rfl, q2, q3⟩ := q1.two
          obtain ⟨p, rfl, hp, ys, hy, ry⟩ := q2
          refine ⟨le_line (show 2 ≤ lim by decide), fun q hq => ?_⟩
          have nq : ∀ a, H1 a ≠ none → a ≠ q := fun a z y => z (by rw [y]; exact hq)
          have hpn := R1.privH hp
          have R2 := R1.mono (same_new (o := .tup [.ref p, w]) hq)
          refine h _ _ R2.base ⟨q, p, ys, w, rfl, upd_same, fun z => ?_, hpn.2.2, ?_, scalars_rp ry hc.1, ?_⟩
          · rcases z with z | z
            · exact R1.zin q z hq
            · exact hpn.1 (by rw [← z]; exact hq)
          · rw [upd_ne (nq p hpn.1)]; exact hy
          · have q4 := q3.shared hc.2 R k1
            refine q4.mono (hide_mono (same_new hq) fun a _ _ z => z.imp id fun z => by rw [z]; exact hp)
        · replace h : SatS X.K ca W Hin Z Dn (if ds.all scalar = true ∧ k2 ≠ .ow then .rt ⟨.ow, .tup [.lst ds, d2]⟩ else .stuck) := h
          rw [if_neg hc] at h
          exact h.elim
      | _ => exact h.elim
  | ⟨k, d⟩ :: _ :: _ :: _, h, _ => cases k <;> cases d <;> exact h.elim
/-- y = f(..); if t: raise ..; x, z = y -/
@[simp] def pairR (j i1 i2 : Nat) (t : Ev → Res Bool) (fr g : Ev → Out) (s : Ev) : Rv → Out
  | ⟨.sh, .non⟩ => bndR (t (st s j (.sh .non))) fun b => if b = true then bndO (fr (st s j (.sh .non))) (fun _ => .stuck) else .stuck
  | ⟨.ow, .tup [.lst ds, d]⟩ => bndR (t (st s j (.sh (.tup [.lst ds, d])))) fun b => if b = true then .stuck else g (st (st (st s j (.sh .any)) i1 (.ow (.lst ds))) i2 (.sh d))
  | _ => .stuck
@[simp] def fPair (j i1 i2 : Nat) (F : List D → Res Rv) (fs : Ev → Res (List Rv)) (t : Ev → Res Bool) (fr g : Ev → Out) : Ev → Out := fun s => bndR (fs s) fun rs => if anyOw rs = true ∨ j = i1 ∨ j = i2 ∨ i1 = i2 ∨ s.length ≤ j then .stuck else bndR (F (rs.map (·.d))) (pairR j i1 i2 t fr g s)
theorem dss_rel (i : Nat) (h : DSs X ca W rest f) : DSs X ca W rest (fun s => f (rel1 i s)) := PSs.imp h fun Dn σ H ⟨Hin, Z, s, R, h⟩ => ⟨Hin, Z, DL.rel1 i s, R.rel1 i, h⟩
theorem dt_rel (i : Nat) {t : Ev → Res Bool} (h : DT X ca W e t) : DT X ca W e (fun s => t (rel1 i s)) := h.imp fun σ H Q ⟨Hin, Z, s, R, q⟩ => ⟨Hin, Z, DL.rel1 i s, R.rel1 i, q⟩
theorem pairR_ow {j i1 i2 : Nat} {t : Ev → Res Bool} {fr g : Ev → Out} {s : Ev} {d : D} (h : pairR j i1 i2 t fr g s ⟨.ow, d⟩ ≠ .stuck) : ∃ ds d2, d = .tup [.lst ds, d2] := by
  unfold pairR at h
  split at h
  · rename_i e; cases e
  · rename_i e; cases e; exact ⟨_, _, rfl⟩
  · exact absurd rfl h
theorem dss_pair (j i1 i2 : Nat) {x y y1 y2 : Str} {p py py1 py2 tp spos spos2 spos3 upos : Pos} {kk : Nat} {u : List Stmt} {ps : List Str} {F : List D → Res Rv} {t : Ev → Res Bool} {fr : Ev → Out} {lvl k : Nat} (C : Cal X.prog X.w X.K X.mg X.base ca lvl x ps F) (hr : Room k X.A) (hW : ∀ σ, PassesAt (L2.CX X.prog X.w) X σ (WE W σ)) (ha : DA X ca W (e :: es) fs) (hn : ∀ s rs, fs s = .ok rs → rs.length = ps.length)
    (ht : DT X ca W c t) (hu : DSs X ca W u fr) (h2 : DSs X ca W rest g) (hN : X.N.Nodup) (hk : lvl ≤ k := by decide) (hi : X.N[j]? = some y := by rfl) (hy : Loc X.env.scope y := by first | exact Or.inl rfl | exact Or.inr rfl)
    (hi1 : X.N[i1]? = some y1 := by rfl) (hy1 : Loc X.env.scope y1 := by first | exact Or.inl rfl | exact Or.inr rfl) (hi2 : X.N[i2]? = some y2 := by rfl) (hy2 : Loc X.env.scope y2 := by first | exact Or.inl rfl | exact Or.inr rfl)
    (hv : Vis X.env.scope y := by first | exact Or.inl rfl | exact Or.inr (Or.inl rfl) | exact Or.inr (Or.inr rfl)) (hd : (y == ("__debug__" : Str)) = false := by decide) (hcd : (y == ("__classdict__" : Str)) = false := by decide)
    (hs : swapsWith (.Call (.Name x p) (e :: es) [] pos) (some (.Name y py)) spos.line X.env = pure false := by rfl) (hf : X.fn y = true ∨ X.env.scope.names.lookup y = some .local := by first | exact .inl rfl | exact .inr rfl | assumption)
    (hf1 : X.fn y1 = true ∨ X.env.scope.names.lookup y1 = some .local := by first | exact .inl rfl | exact .inr rfl | assumption) (hf2 : X.fn y2 = true ∨ X.env.scope.names.lookup y2 = some .local := by first | exact .inl rfl | exact .inr rfl | assumption)
    (hg : Gl X x := by rfl) (hdb : (x == ("__debug__" : Str)) = false := by decide) (he : starEach (e :: es) X.env = (false, eval e X.env) :: starEach es X.env := by rfl) (hpl : (backTo pos (starEach es X.env)).any (·.1) = false := by rfl) (hc : X.calm = true := by rfl)
    (hnn : (assignEach [.Name y1 py1, .Name y2 py2] X.env).length = 2 := by rfl) (hst : (assignEach [.Name y1 py1, .Name y2 py2] X.env).findIdx? (·.1) = none := by rfl)
    (hs2 : swapsWithSole [.Tuple [.Name y1 py1, .Name y2 py2] kk tp] (.Name y upos) spos3.line X.env = pure false := by rfl) (hw : swappedStores [.Tuple [.Name y1 py1, .Name y2 py2] kk tp] (.Name y upos) X.env = pure none := by rfl) (h1 : (assignEach [.Tuple [.Name y1 py1, .Name y2 py2] kk tp] X.env).map (·.2) = [assign (.Tuple [.Name y1 py1, .Name y2 py2] kk tp) X.env] := by rfl) :
    DSs X ca W (.Assign [.Name y py] (.Call (.Name x p) (e :: es) [] pos) spos :: .If c u [] spos2 :: .Assign [.Tuple [.Name y1 py1, .Name y2 py2] kk tp] (.Name y upos) spos3 :: rest) (fPair j i1 i2 F fs t fr g) := by
  obtain ⟨f, fd, hm, kp, hb, G⟩ := C
  refine (pss_cons (ps_set hN hi hy (pe_callS (E := WE W) G (hr.mono hk) hg hm kp hb hW ha hdb he hpl) hs hf) (pss_cons (ps_if ht hu pss_nil) (pss_cons (ps_asg (pe_var hi hv hd hcd) (pg_tup hc (pgs_cons (pg_name hN hi1 hy1 hf1) (pgs_cons (pg_name hN hi2 hy2 hf2) pgs_nil)) hnn hst) hs2 hw h1) h2))).imp fun Dn σ H h => ?_
  obtain ⟨Hin, Z, s, R, h⟩ := h
  simp only [fPair] at h
  cases efs : fs s with
  | exc c => rw [efs] at h; exact ⟨Hin, Z, s, R, by rw [efs]; exact fun H' k => h σ H' (R.base.trans k)⟩
  | stuck => rw [efs] at h; exact h.elim
  | ok rs =>
  rw [efs] at h
  refine tA_go R ?_
  rw [efs]
  intro vs H1 k1 R1 q1
  simp only [bndR] at h
  split at h
  · exact h.elim
  rename_i hcn
  have eo : anyOw rs = false := by
    cases q : anyOw rs with
    | false => rfl
    | true => exact absurd (.inl q) hcn
  have nj1 : j ≠ i1 := fun z => hcn (.inr (.inl z))
  have nj2 : j ≠ i2 := fun z => hcn (.inr (.inr (.inl z)))
  have n12 : i1 ≠ i2 := fun z => hcn (.inr (.inr (.inr (.inl z))))
  have hjs : ¬ s.length ≤ j := fun z => hcn (.inr (.inr (.inr (.inr z))))
  have hlen : (rs.map (·.d)).length = ps.length := by rw [List.length_map]; exact hn s rs efs
  have qs := q1.shared R k1 (shs_of eo)
  refine ⟨Rg Z s σ H1, rs.map (·.d), hide_le, qs, hlen, ?_⟩
  cases eF : F (rs.map (·.d)) with
  | stuck => rw [eF] at h; exact h.elim
  | exc c => rw [eF] at h; exact fun H' k => h σ H' ((R1.base).trans k)
  | ok r =>
    rw [eF] at h
    intro v H' k' q
    obtain ⟨kd, d⟩ := r
    cases kd with
    | fr => exact h.elim
    | sh =>
      cases d with
      | non =>
        replace h : SatS X.K ca W Hin Z Dn (bndR (t (st s j (.sh .non))) fun b => if b = true then bndO (fr (st s j (.sh .non))) (fun _ => .stuck) else .stuck) := h
        have ev : v = .non := by
          have q' : Rp _ _ v .non := q
          cases q'
          rfl
        subst ev
        have RA := (R1.mono k').setSh (v := .non) (d := .non) .non j
        refine ⟨Hin, Z, _, RA, sat_mono (satS_bnd RA h) (fun b h H2 k2 => ?_) fun _ h => h⟩
        cases b with
        | false => exact h.elim
        | true =>
          rw [if_pos rfl] at h
          refine iteT ⟨Hin, Z, _, RA.mono k2, ?_⟩
          cases ef : fr (st s j (.sh .non)) with
          | nx s' => rw [ef] at h; exact h.elim
          | rt r => rw [ef] at h; exact h
          | bk s' => rw [ef] at h; exact h
          | ct s' => rw [ef] at h; exact h
          | exc c => rw [ef] at h; exact h
          | stuck => rw [ef] at h; exact h
      | _ => exact h.elim
    | ow =>
      replace q : RetX X.K H1 (fun a => H1 a ≠ none ∧ Rg Z s σ H1 a = none) H' v d := q
      obtain ⟨ds, d2, rfl⟩ := pairR_ow (j := j) (i1 := i1) (i2 := i2) (t := t) (fr := fr) (g := g) (s := s) (d := d) (fun z => by
        have h' : SatS X.K ca W Hin Z Dn (pairR j i1 i2 t fr g s ⟨.ow, d⟩) := h
        rw [z] at h'
        exact h')
      replace h : SatS X.K ca W Hin Z Dn (bndR (t (st s j (.sh (.tup [.lst ds, d2])))) fun b => if b = true then .stuck else g (st (st (st s j (.sh .any)) i1 (.ow (.lst ds))) i2 (.sh d2))) := h
      · obtain ⟨qa, pa, ys, w, rfl, q1', q2', q3', q4', q5', q6'⟩ := q
        have zc1 : ∀ a, (Z a ∨ priv s σ a) → H1 a ≠ none := fun a z => by
          rcases z with z | z
          · exact R1.zin a z
          · exact (R1.privH z).1
        have zc : ∀ a, ¬ IT H' a → (Z a ∨ priv s σ a) → H1 a ≠ none ∧ Rg Z s σ H1 a = none := fun a nit z => ⟨zc1 a z, hide_yes z fun y => nit (y.mono k')⟩
        have nqa : ¬ IT H' qa := not_it q1' fun w z => by
          cases w with
          | nil => cases z
          | cons x r => cases z
        have npa : ¬ (Z pa ∨ priv s σ pa) := fun z => zc1 pa z q3'
        have gA : Same (hide (fun a => (H1 a ≠ none ∧ Rg Z s σ H1 a = none) ∨ a = pa) H') (Rg Z s σ H') := hide_mono (Same.refl _) fun a _ nit z => .inl (zc a nit z)
        have R2 := R1.mono k'
        have RA := R2.setSh (v := .ref qa) (d := .tup [.lst ds, d2]) (.tup (xs := [.ref pa, w]) ((hide_no fun z => q2' (.inl (zc qa nqa z))).trans q1') (.cons (.lst ((hide_no npa).trans q4') (q5'.mono fun _ _ z => by cases z)) (.cons (q6'.mono gA) .nil))) j
        refine ⟨Hin, Z, _, RA, sat_mono (satS_bnd (s := st s j (.sh (.tup [.lst ds, d2]))) RA h) (fun b h H2 k2 => ?_) fun _ h => h⟩
        cases b with
        | true => exact h.elim
        | false =>
          rw [if_neg (by simp)] at h
          refine iteF ?_
          have hjl : j < σ.length := by
            rw [← R.len]; omega
          refine ⟨.ref qa, by rw [List.getElem?_set]; simp [hjl], ?_⟩
          have e0 : SqT X.K H2 qa [.ref pa, w] := SqT.of (k2 _ _ q1')
          have k12 : Same H1 H2 := k'.trans k2
          have S1 := R1.setSh (v := .ref qa) (d := .any) (.any _) j
          have pv1 : ∀ a, priv (st s j (.sh .any)) (σ.set j (some (.ref qa))) a → priv s σ a := fun a ⟨i, f, y1, y2⟩ => by
            rw [st_eq, List.getElem?_set] at y1
            rw [List.getElem?_set] at y2
            by_cases z : j = i
            · rw [if_pos z] at y1; split at y1 <;> cases y1
            · rw [if_neg z] at y1 y2; exact ⟨i, f, y1, y2⟩
          have S2 := S1.setOw (d := .lst ds) k12 q3' ⟨ys, k2 _ _ q4', q5'.mono fun _ _ z => by cases z⟩ i1
          have S3 := S2.setSh (v := w) (d := d2) ((q6'.mono (hide_mono k2 fun a _ _ y => y)).mono (hide_mono (Same.refl _) fun a _ nit y => by
            rcases y with y | ⟨i, f, y1, y2⟩
            · exact .inl (zc a (fun t => nit (t.mono k2)) (.inl y))
            · rw [st_eq, List.getElem?_set] at y1
              rw [List.getElem?_set] at y2
              by_cases z : i1 = i
              · rw [if_pos z] at y2
                split at y2
                · cases y2; exact .inr rfl
                · cases y2
              · rw [if_neg z] at y1 y2
                exact .inl (zc a (fun t => nit (t.mono k2)) (.inr (pv1 a ⟨i, f, y1, y2⟩))))) i2
          exact ⟨qa, [.ref pa, w], rfl, e0, rfl, _, _, rfl, _, _, rfl, rfl, Hin, Z, _, S3, h⟩
/-! for y in x: y.append(c), x a deep own list of lists -/
def isLB (n : Nat) : D → Bool
  | .lst es => decide (es.length + n < lim)
  | _ => false
@[simp] def fAppFor (i j : Nat) : Ev → Out := fun s => match gt s i with
  | .as (.lst ds) => if noAs (st s i .un) = true ∧ ds.all (isLB ds.length) = true ∧ i ≠ j ∧ okW j s = true ∧ j < s.length then .nx (st (st s j .un) i (.as (.lst (ds.map fun _ => .any)))) else .stuck
  | _ => .stuck
theorem AppFor_lists {K : PySem.W.Frag} {R : Hp} {n : Nat} : ∀ {vs : List V} {ds : List D}, RpL K R vs ds → ds.all (isLB n) = true → ∀ (k : Nat) (x : V), vs[k]? = some x → ∃ q ys, x = .ref q ∧ R q = some (.lst ys) ∧ ys.length + n < lim
  | _, _, .nil, _, k, x, h => by simp at h
  | _, _, .cons (d := d) h r, e, k, x, hx => by
    simp only [List.all_cons, Bool.and_eq_true] at e
    cases k with
    | zero =>
      simp at hx
      subst hx
      cases h <;> first | (simp [isLB] at e; done) | skip
      rename_i ha hl
      refine ⟨_, _, rfl, ha, ?_⟩
      have := hl.length
      simp [isLB] at e
      omega
    | succ k => exact AppFor_lists r e.2 k x (by simpa using hx)
theorem ds_appFor (i j : Nat) (cc : Int) {x y : Str} {tpos ipos p1 p9 apos cpos spos fpos : Pos} {jc : Nat} (pa : PlainAttrs "list") (slot : Slot "list" "append" "list.append") (hty : typeOf (.builtin "list.append") = pure (.type "method_descriptor")) (hp : PassesOwn (model X.prog X.w) X.A X.env X.xe) (hNd : X.N.Nodup)
    (hN : X.N[i]? = some x := by rfl) (hv : Vis X.env.scope x := by first | exact Or.inl rfl | exact Or.inr (Or.inl rfl) | exact Or.inr (Or.inr rfl)) (hd : (x == ("__debug__" : Str)) = false := by decide) (hcd : (x == ("__classdict__" : Str)) = false := by decide)
    (hNy : X.N[j]? = some y := by rfl) (hvy : Vis X.env.scope y := by first | exact Or.inl rfl | exact Or.inr (Or.inl rfl) | exact Or.inr (Or.inr rfl)) (hly : Loc X.env.scope y := by first | exact Or.inl rfl | exact Or.inr rfl) (hdy : (y == ("__debug__" : Str)) = false := by decide) (hcdy : (y == ("__classdict__" : Str)) = false := by decide)
    (hf : X.fn y = true ∨ X.env.scope.names.lookup y = some .local := by first | exact .inl rfl | exact .inr rfl | assumption)
    (hbase : attributeBase (.Name y p1) "append" X.env (eval (.Name y p1) X.env) = eval (.Name y p1) X.env := by rfl)
    (hfew : ((backTo cpos (starEach [.Constant (.int cc) jc p9] X.env)).all (fun x => !x.1) && (backToKw cpos (keywordEach [] X.env)).all (fun x => x.1.isSome)
      && decide (([.Constant (.int cc) jc p9] : List Expr).length + ([] : List Keyword).length + (if ([] : List Keyword).isEmpty then 0 else 1) < 30)) = true := by rfl)
    (hst : starEach [.Constant (.int cc) jc p9] X.env = (false, eval (.Constant (.int cc) jc p9) X.env) :: starEach [] X.env := by rfl) (hplain : (backTo cpos (starEach [] X.env)).any (·.1) = false := by rfl)
    (hline : (apos.endLine == cpos.line) = true := by rfl)
    (hs : swapsWith (.Call (.Attribute (.Name y p1) "append" apos) [.Constant (.int cc) jc p9] [] cpos) none spos.line X.env = pure false := by rfl) (hc : X.calm = true := by rfl) (hfs : ∀ z, foldedSetIterable (.Name x ipos) X.env z = pure z := by intro _; rfl) :
    DS X ca W (.For (.Name y tpos) (.Name x ipos) [.Expr (.Call (.Attribute (.Name y p1) "append" apos) [.Constant (.int cc) jc p9] [] cpos) spos] [] fpos) (fAppFor i j) :=
  (ps_for hp hc (pi_list (pe_var hN hv hd hcd)) (pg_name (i := j) hNd hNy hly hf) (pss_one (ps_expr (pe_bm pa slot hty md_append.1 (pe_var hNy hvy hdy hcdy) (da_cons (W := W) (ca := ca) de_int da_nil hst) hbase hfew hline hst hplain) hs)) hfs).imp fun Dn σ H h => by
    obtain ⟨Hin, Z, s, R, h⟩ := h
    simp only [fAppFor] at h
    cases eg : gt s i with
    | as d =>
      cases d with
      | lst ds =>
        rw [eg] at h
        dsimp only at h
        have eg' := gt_as eg
        obtain ⟨p, hpp, hz, xs, h1, h2⟩ := R.as i _ eg'
        have hsz : i < s.length := (List.getElem?_eq_some_iff.mp eg').1
        split at h
        · rename_i hcnd
          obtain ⟨hno, hall, hij, hw, hjs⟩ := hcnd
          refine ⟨.ref p, hpp, p, rfl, ⟨xs, SqL.of h1⟩, ?_⟩
          have hls := AppFor_lists h2 hall
          have hxl : xs.length = ds.length := h2.length
          let s0 : Ev := st (st s j .un) i (.as (.lst (ds.map fun _ => .any)))
          have hs0i : (st s0 i .un) = st (st s j .un) i .un := by simp only [s0, st_eq, List.set_set]
          have hnoj : noAs (st (st s j .un) i .un) = true := noAs_of (fun k d z => by
            rw [st_eq, List.getElem?_set] at z
            by_cases q1 : i = k
            · rw [if_pos q1] at z; split at z <;> cases z
            · rw [if_neg q1, st_eq, List.getElem?_set] at z
              by_cases q2 : j = k
              · rw [if_pos q2] at z; split at z <;> cases z
              · rw [if_neg q2] at z
                exact noAs_no hno k d (by rw [st_eq, List.getElem?_set, if_neg q1]; exact z)) (fun k d z => by
            rw [st_eq, List.getElem?_set] at z
            by_cases q1 : i = k
            · rw [if_pos q1] at z; split at z <;> cases z
            · rw [if_neg q1, st_eq, List.getElem?_set] at z
              by_cases q2 : j = k
              · rw [if_pos q2] at z; split at z <;> cases z
              · rw [if_neg q2] at z
                exact noAs_dl hno k d (by rw [st_eq, List.getElem?_set, if_neg q1]; exact z)) (fun k d z => by
            rw [st_eq, List.getElem?_set] at z
            by_cases q1 : i = k
            · rw [if_pos q1] at z; split at z <;> cases z
            · rw [if_neg q1, st_eq, List.getElem?_set] at z
              by_cases q2 : j = k
              · rw [if_pos q2] at z; split at z <;> cases z
              · rw [if_neg q2] at z
                exact noAs_tr hno k d (by rw [st_eq, List.getElem?_set, if_neg q1]; exact z))
          have hno0 : noAs (st s0 i .un) = true := by rw [hs0i]; exact hnoj
          have hs0j : st s0 j .un = s0 := by
            simp only [s0, st_eq]
            rw [List.set_comm _ _ hij, List.set_set]
          have hs0l : s0.length = s.length := by simp only [s0, st_eq, List.length_set]
          have hs0s : st s0 i (.as (.lst (ds.map fun _ => .any))) = s0 := by simp only [s0, st_eq, List.set_set]
          have hself : upd H p (.lst xs) = H := funext fun a => by
            by_cases z : a = p
            · rw [z, upd_same, h1]
            · rw [upd_ne z]
          refine for_list (K := X.K) (a := p) (xs := xs) (fun k σ' H' => Rel X.K Hin Z s0 σ' H' ∧ σ'[i]? = some (some (.ref p)) ∧ H' p = some (.lst xs) ∧ ∀ (k2 : Nat) (x : V), xs[k2]? = some x → ∃ q ys, x = .ref q ∧ (Z q ∧ Hin q = none) ∧ q ≠ p ∧ H' q = some (.lst ys) ∧ ys.length + (xs.length - k) < lim) ⟨?_, hpp, h1, fun k x hx => ?_⟩ (fun k σ' H' _ ⟨_, _, e, _⟩ => SqL.of e) ?_ fun σ' H' ⟨R', _⟩ => h σ' H' R'
          · have := (R.drop hw).mutAs (q := p) (o := .lst xs) hnoj hpp hz (not_it h1 fun _ z => nomatch z) (by rw [st_eq, List.length_set]; exact hsz) (d := .lst (ds.map fun _ => .any)) ⟨hz, xs, upd_same, rpl_any h2⟩
            rw [hself] at this
            exact this
          · obtain ⟨q, ys, rfl, hq, hb⟩ := hls k x hx
            have n := hide_lst hq fun _ z => nomatch z
            have hq := (hide_some hq).2
            have n' := Classical.not_not.mp n
            exact ⟨q, ys, rfl, n'.1, n'.2, hq, by omega⟩
          · rintro k x σ' H' hx ⟨R', hp', e', hall'⟩
            obtain ⟨q, ys, rfl, hzq, hqp, hq, hb⟩ := hall' k x hx
            have hkl : k < xs.length := (List.getElem?_eq_some_iff.mp hx).1
            have hjl : j < σ'.length := by rw [← R'.len, hs0l]; exact hjs
            have R1 := R'.setSh (Rp.any (.ref q)) j
            refine ⟨.ref q, by rw [List.getElem?_set]; simp [hjl], .inl ⟨rfl, ys, SqL.of hq⟩, Hin, Z, _, R1, ?_⟩
            intro vs H1 k1 q1
            obtain ⟨w, rfl, q2⟩ := ResA.one q1
            have ew : w = .int cc := ResOk.int q2 rfl
            subst ew
            have e1 := k1 _ _ hq
            refine ⟨q, ys, .int cc, rfl, rfl, e1, lt_line (by omega), ?_, ?_, ?_, fun k' x' hx' => ?_⟩
            · have R2 := (R1.mono k1).drop (j := j) (okW_sh (by rw [hs0l]; exact hjs))
              have e2 : st (st s0 j (.sh .any)) j .un = s0 := by
                rw [← hs0j]
                simp only [st_eq, List.set_set]
              rw [e2] at R2
              have hp2 : (σ'.set j (some (.ref q)))[i]? = some (some (.ref p)) := by rw [List.getElem?_set, if_neg (Ne.symm hij)]; exact hp'
              have R3 := R2.mutAs (q := q) (o := .lst (ys ++ [.int cc])) hno0 hp2 hzq (not_it (k1 _ _ hq) fun _ z => nomatch z) (by rw [hs0l]; exact hsz) (d := .lst (ds.map fun _ => .any)) ⟨hz, xs, by rw [upd_ne (Ne.symm hqp)]; exact k1 _ _ e', rpl_any h2⟩
              rw [hs0s] at R3
              exact R3
            · rw [List.getElem?_set, if_neg (Ne.symm hij)]; exact hp'
            · rw [upd_ne (Ne.symm hqp)]; exact k1 _ _ e'
            · obtain ⟨q2, ys2, rfl, a1, a2, a3, a4⟩ := hall' k' x' hx'
              by_cases z : q2 = q
              · rw [z] at a3
                rw [hq] at a3
                cases a3
                exact ⟨q2, ys ++ [.int cc], rfl, a1, a2, by rw [z]; exact upd_same, by rw [List.length_append, List.length_singleton]; omega⟩
              · exact ⟨q2, ys2, rfl, a1, a2, by rw [upd_ne z]; exact k1 _ _ a3, by omega⟩
        · exact h.elim
      | _ => rw [eg] at h; exact h.elim
    | _ => rw [eg] at h; exact h.elim
end
end DL
/-! A deep own list by a display; one of its lists cleared. -/
namespace DL
open PySem PySem.Spec L2
section
variable {X : Cx} {ca : Nat → Addr} {W : WX} {a b c e : Expr} {es : List Expr} {fa fe : Ev → Res Rv} {fs : Ev → Res (List Rv)} {pos : Pos} {rest : List Stmt} {f g : Ev → Out}
/-- y = [e, ..], each a new list of plain items -/
@[simp] def fDeepD (j : Nat) (fs : Ev → Res (List Rv)) (g : Ev → Out) : Ev → Out := fun s => bndR (fs s) fun rs => if rs.all deep1 = true ∧ rs.length ≤ lim then noNx (g (st s j (.as (.lst (rs.map (·.d)))))) else .stuck
theorem deepD_rp {K : PySem.W.Frag} {Z : Addr → Prop} {s : Ev} {σ : L2.St} {H H1 : Hp} {p : Addr} {o : HO} (hp : H1 p = none) : ∀ {vs : List V} {rs : List Rv}, ResA K Z s σ H H1 vs rs → rs.all deep1 = true → RpL K (hide (fun a => H a ≠ none ∨ a = p) (upd H1 p o)) vs (rs.map (·.d))
  | _, _, .nil, _ => .nil
  | _, _, @ResA.cons _ _ _ _ _ _ v ⟨k, d⟩ vs rs h r, e => by
    simp only [List.all_cons, Bool.and_eq_true] at e
    refine .cons ?_ (deepD_rp hp r e.2)
    have e1 := e.1
    cases k <;> cases d <;> first | (simp [deep1] at e1; done) | skip
    obtain ⟨q, rfl, h1, ys, h2, h3⟩ := h
    have nq : q ≠ p := fun z => by rw [z, hp] at h2; cases h2
    exact .lst ((hide_no (fun z => z.elim (fun z => z h1) nq)).trans ((upd_ne nq).trans h2)) (scalars_rp h3 e1)
theorem dss_deepD (j : Nat) {y : Str} {py spos : Pos} (ha : DA X ca W es fs) (h2 : DSs X ca W rest g) (hN : X.N.Nodup) (hi : X.N[j]? = some y := by rfl) (hy : Loc X.env.scope y := by first | exact Or.inl rfl | exact Or.inr rfl) (hs : swapsWith (.List es pos) (some (.Name y py)) spos.line X.env = pure false := by rfl)
    (hf : X.fn y = true ∨ X.env.scope.names.lookup y = some .local := by first | exact .inl rfl | exact .inr rfl | assumption) :
    DSs X ca W (.Assign [.Name y py] (.List es pos) spos :: rest) (fDeepD j fs g) := by
  refine (pss_cons (ps_set hN hi hy (pe_lst ha) hs hf) h2).imp fun Dn σ H h => ?_
  obtain ⟨Hin, Z, s, R, h⟩ := h
  simp only [fDeepD] at h
  refine tA_go R (sat_mono (satS_bnd R h) (fun rs h vs H1 k1 R1 q1 => ?_) fun _ h => h)
  split at h
  · rename_i hc
    have hl : vs.length = rs.length := by
      clear h hc
      induction q1 with
      | nil => rfl
      | cons _ _ ih => simp [ih]
    refine ⟨by rw [hl]; exact le_line hc.2, fun p hp => ?_⟩
    have k2 : Same H (upd H1 p (.lst vs)) := k1.trans (same_new hp)
    exact ⟨Hin, _, st s j (.as (.lst (rs.map (·.d)))), R.setAs (d := .lst (rs.map (·.d))) k2 (k1.free hp) ⟨vs, upd_same, deepD_rp hp q1 hc.1⟩ j, satS_grow (fun a z => .inl z) h⟩
  · exact h.elim
/-- x[k].clear(), x a deep own list -/
@[simp] def fClrK (i : Nat) (k : Nat) : Ev → Out := fun s => match gt s i with
  | .as (.lst ds) => match ds[k]? with
    | some (.lst es) => if noAs (st s i .un) = true then .nx (st s i (.as (.lst ((ds.map dull).set k (.lst []))))) else .stuck
    | _ => .stuck
  | _ => .stuck
theorem ds_clrK (i k : Nat) {x : Str} {p1 p2 p3 apos cpos spos : Pos} {jk : Nat} (pa : PlainAttrs "list") (slot : Slot "list" "clear" "list.clear") (hty : typeOf (.builtin "list.clear") = pure (.type "method_descriptor"))
    (hN : X.N[i]? = some x := by rfl) (hv : Vis X.env.scope x := by first | exact Or.inl rfl | exact Or.inr (Or.inl rfl) | exact Or.inr (Or.inr rfl)) (hd : (x == ("__debug__" : Str)) = false := by decide) (hcd : (x == ("__classdict__" : Str)) = false := by decide)
    (hbase : attributeBase (.Subscript (.Name x p1) (.Constant (.int (k : Int)) jk p2) p3) "clear" X.env (eval (.Subscript (.Name x p1) (.Constant (.int (k : Int)) jk p2) p3) X.env) = eval (.Subscript (.Name x p1) (.Constant (.int (k : Int)) jk p2) p3) X.env := by rfl)
    (hix : PlainIx (.Constant (.int (k : Int)) jk p2) := by intro _ _; rfl)
    (hline : (apos.endLine == cpos.line) = true := by rfl)
    (hs : swapsWith (.Call (.Attribute (.Subscript (.Name x p1) (.Constant (.int (k : Int)) jk p2) p3) "clear" apos) [] [] cpos) none spos.line X.env = pure false := by rfl) : DS X ca W (.Expr (.Call (.Attribute (.Subscript (.Name x p1) (.Constant (.int (k : Int)) jk p2) p3) "clear" apos) [] [] cpos) spos) (fClrK i k) :=
  (ps_expr (pe_bm0 pa slot hty md_clear.1 (pe_ix od_ix.1 (pe_var hN hv hd hcd) pe_int hix) hbase hline) hs).imp fun Dn σ H h => by
    obtain ⟨Hin, Z, s, R, h⟩ := h
    simp only [fClrK] at h
    cases eg : gt s i with
    | as d =>
      cases d with
      | lst ds =>
        rw [eg] at h
        dsimp only at h
        have eg' := gt_as eg
        obtain ⟨p, hp, hz, xs, h1, h2⟩ := R.as i _ eg'
        have hsz : i < s.length := (List.getElem?_eq_some_iff.mp eg').1
        cases ed : ds[k]? with
        | none => rw [ed] at h; exact h.elim
        | some dk =>
          cases dk with
          | lst es =>
            rw [ed] at h
            obtain ⟨v, hv1, hv2⟩ := h2.get ed
            cases hv2 with
            | lst hq1 hq2 =>
              rename_i q ys
              have nq := hide_lst hq1 fun _ z => nomatch z
              have hq := (hide_some hq1).2
              have nq' := Classical.not_not.mp nq
              refine ⟨.ref p, hp, .inl ⟨p, xs, k, .ref q, rfl, rfl, SqL.of h1, atI_nat hv1, ?_⟩⟩
              replace h : SatS X.K ca W Hin Z Dn (if noAs (st s i .un) = true then .nx (st s i (.as (.lst ((ds.map dull).set k (.lst []))))) else .stuck) := h
              split at h
              · rename_i hc
                refine ⟨.inl ⟨rfl, ys, SqL.of hq⟩, q, ys, rfl, rfl, hq, h σ _ (R.mutAs hc hp nq'.1 (not_it hq fun _ z => nomatch z) hsz ⟨hz, xs, (upd_ne (Ne.symm nq'.2)).trans h1, ?_⟩)⟩
                exact RpL.setD (v := .ref q) (.lst (xs := []) ((hide_no nq).trans upd_same) .nil) (dulls_rp h2) hv1
              · exact h.elim
          | _ => rw [ed] at h; exact h.elim
      | _ => rw [eg] at h; exact h.elim
    | _ => rw [eg] at h; exact h.elim
theorem clr_at {K : PySem.W.Frag} {Hin H : Hp} {Z : Addr → Prop} {s : Ev} {σ : L2.St} {i : Nat} {ds : List D} {p : Addr} {xs : List V} {l : Nat} {q : Addr} {o : HO} (R : Rel K Hin Z s σ H) (hs : s[i]? = some (.as (.lst ds))) (hc : noAs (st s i .un) = true) (hp : σ[i]? = some (some (.ref p))) (hz : Z p ∧ Hin p = none) (h1 : H p = some (.lst xs)) (hx : RpL K (fun _ => none) xs (ds.map fun _ => .any)) (hq : Z q ∧ Hin q = none) (hqp : q ≠ p) (hnq : ¬ IT H q) :
    Rel K Hin Z (st s i (.as (.lst (ds.map fun _ => .any)))) σ (upd H q o) :=
  R.mutAs hc hp hq hnq (List.getElem?_eq_some_iff.mp hs).1 ⟨hz, xs, (upd_ne (Ne.symm hqp)).trans h1, hx.mono fun _ _ z => by cases z⟩
/-- x[k].append(c); x[l].clear(), x a deep own list -/
@[simp] def fAppClr (i : Nat) (k l : Nat) (g : Ev → Out) : Ev → Out := fun s => match gt s i with
  | .as (.lst ds) => match ds[k]?, ds[l]? with
    | some (.lst es), some (.lst _) => if es.length < lim ∧ noAs (st s i .un) = true then g (st s i (.as (.lst (ds.map fun _ => .any)))) else .stuck
    | _, _ => .stuck
  | _ => .stuck
theorem dss_appClr (i k l : Nat) (cc : Int) {x : Str} {p1 p2 p3 p9 q1 q2 q3 apos cpos spos bpos dpos tpos : Pos} {jk jl jc : Nat} (pa : PlainAttrs "list") (slot : Slot "list" "append" "list.append") (hty : typeOf (.builtin "list.append") = pure (.type "method_descriptor"))
    (slot2 : Slot "list" "clear" "list.clear") (hty2 : typeOf (.builtin "list.clear") = pure (.type "method_descriptor")) (h2 : DSs X ca W rest g)
    (hN : X.N[i]? = some x := by rfl) (hv : Vis X.env.scope x := by first | exact Or.inl rfl | exact Or.inr (Or.inl rfl) | exact Or.inr (Or.inr rfl)) (hd : (x == ("__debug__" : Str)) = false := by decide) (hcd : (x == ("__classdict__" : Str)) = false := by decide)
    (hbase : attributeBase (.Subscript (.Name x p1) (.Constant (.int (k : Int)) jk p2) p3) "append" X.env (eval (.Subscript (.Name x p1) (.Constant (.int (k : Int)) jk p2) p3) X.env) = eval (.Subscript (.Name x p1) (.Constant (.int (k : Int)) jk p2) p3) X.env := by rfl)
    (hix : PlainIx (.Constant (.int (k : Int)) jk p2) := by intro _ _; rfl)
    (hfew : ((backTo cpos (starEach [.Constant (.int cc) jc p9] X.env)).all (fun x => !x.1) && (backToKw cpos (keywordEach [] X.env)).all (fun x => x.1.isSome)
      && decide (([.Constant (.int cc) jc p9] : List Expr).length + ([] : List Keyword).length + (if ([] : List Keyword).isEmpty then 0 else 1) < 30)) = true := by rfl)
    (hline : (apos.endLine == cpos.line) = true := by rfl) (hst : starEach [.Constant (.int cc) jc p9] X.env = (false, eval (.Constant (.int cc) jc p9) X.env) :: starEach [] X.env := by rfl) (hplain : (backTo cpos (starEach [] X.env)).any (·.1) = false := by rfl)
    (hs : swapsWith (.Call (.Attribute (.Subscript (.Name x p1) (.Constant (.int (k : Int)) jk p2) p3) "append" apos) [.Constant (.int cc) jc p9] [] cpos) none spos.line X.env = pure false := by rfl)
    (hbase2 : attributeBase (.Subscript (.Name x q1) (.Constant (.int (l : Int)) jl q2) q3) "clear" X.env (eval (.Subscript (.Name x q1) (.Constant (.int (l : Int)) jl q2) q3) X.env) = eval (.Subscript (.Name x q1) (.Constant (.int (l : Int)) jl q2) q3) X.env := by rfl)
    (hix2 : PlainIx (.Constant (.int (l : Int)) jl q2) := by intro _ _; rfl) (hline2 : (bpos.endLine == dpos.line) = true := by rfl)
    (hs2 : swapsWith (.Call (.Attribute (.Subscript (.Name x q1) (.Constant (.int (l : Int)) jl q2) q3) "clear" bpos) [] [] dpos) none tpos.line X.env = pure false := by rfl) :
    DSs X ca W (.Expr (.Call (.Attribute (.Subscript (.Name x p1) (.Constant (.int (k : Int)) jk p2) p3) "append" apos) [.Constant (.int cc) jc p9] [] cpos) spos :: .Expr (.Call (.Attribute (.Subscript (.Name x q1) (.Constant (.int (l : Int)) jl q2) q3) "clear" bpos) [] [] dpos) tpos :: rest) (fAppClr i k l g) := by
  refine (pss_cons (ps_expr (pe_bm pa slot hty md_append.1 (pe_ix od_ix.1 (pe_var hN hv hd hcd) pe_int hix) (da_cons (W := W) (ca := ca) de_int da_nil hst) hbase hfew hline hst hplain) hs) (pss_cons (ps_expr (pe_bm0 pa slot2 hty2 md_clear.1 (pe_ix od_ix.1 (pe_var hN hv hd hcd) pe_int hix2) hbase2 hline2) hs2) h2)).imp fun Dn σ H h => ?_
  obtain ⟨Hin, Z, s, R, h⟩ := h
  simp only [fAppClr] at h
  cases eg : gt s i with
  | as d =>
    cases d with
    | lst ds =>
      rw [eg] at h
      dsimp only at h
      have eg' := gt_as eg
      obtain ⟨p, hp, hz, xs, h1, h3⟩ := R.as i _ eg'
      have hsz : i < s.length := (List.getElem?_eq_some_iff.mp eg').1
      cases ek : ds[k]? with
      | none => rw [ek] at h; exact h.elim
      | some dk =>
        cases el : ds[l]? with
        | none => rw [ek, el] at h; cases dk <;> exact h.elim
        | some dl =>
          rw [ek, el] at h
          cases dk with
          | lst es =>
            cases dl with
            | lst es' =>
              replace h : SatS X.K ca W Hin Z Dn (if es.length < lim ∧ noAs (st s i .un) = true then g (st s i (.as (.lst (ds.map fun _ => .any)))) else .stuck) := h
              split at h
              · rename_i hc
                obtain ⟨v, hv1, hv2⟩ := h3.get ek
                obtain ⟨w, hw1, hw2⟩ := h3.get el
                cases hv2 with
                | lst hq1 hq2 =>
                  rename_i q ys
                  cases hw2 with
                  | lst hr1 hr2 =>
                    rename_i r zs
                    have nq := hide_lst hq1 fun _ z => nomatch z
                    have hq := (hide_some hq1).2
                    have nq' := Classical.not_not.mp nq
                    have nr := hide_lst hr1 fun _ z => nomatch z
                    have hr := (hide_some hr1).2
                    have nr' := Classical.not_not.mp nr
                    have hany : RpL X.K (fun _ => none) xs (ds.map fun _ => .any) := rpl_any h3
                    refine ⟨.ref p, hp, .inl ⟨p, xs, k, .ref q, rfl, rfl, SqL.of h1, atI_nat hv1, ?_⟩⟩
                    refine ⟨.inl ⟨rfl, ys, SqL.of hq⟩, Hin, Z, s, R, ?_⟩
                    intro vs H1 k1 qa
                    obtain ⟨u, rfl, q2⟩ := ResA.one qa
                    have e1 := k1 _ _ hq
                    have R1 := clr_at (l := l) (o := .lst (ys ++ [u])) (R.mono k1) eg' hc.2 hp hz (k1 _ _ h1) hany nq'.1 nq'.2 (not_it e1 fun _ z => nomatch z)
                    refine ⟨q, ys, u, rfl, rfl, e1, by rw [hq2.length]; exact lt_line hc.1, ?_⟩
                    have hp2 : (upd H1 q (.lst (ys ++ [u]))) p = some (.lst xs) := (upd_ne (Ne.symm nq'.2)).trans (k1 _ _ h1)
                    obtain ⟨zs2, hr2'⟩ : ∃ zs2, (upd H1 q (.lst (ys ++ [u]))) r = some (.lst zs2) := by
                      by_cases z : r = q
                      · exact ⟨_, by rw [z]; exact upd_same⟩
                      · exact ⟨zs, (upd_ne z).trans (k1 _ _ hr)⟩
                    refine ⟨.ref p, hp, .inl ⟨p, xs, l, .ref r, rfl, rfl, SqL.of hp2, atI_nat hw1, .inl ⟨rfl, zs2, SqL.of hr2'⟩, r, zs2, rfl, rfl, hr2', ?_⟩⟩
                    have es2 : (st s i (.as (.lst (ds.map fun _ => .any))))[i]? = some (.as (.lst (ds.map fun _ => .any))) := by rw [st_eq]; simp [hsz]
                    have R2 := clr_at (l := l) (o := .lst []) R1 es2 (by rw [show st (st s i (.as (.lst (ds.map fun _ => .any)))) i .un = st s i .un from by simp only [st_eq, List.set_set]]; exact hc.2) hp hz hp2 (by rw [List.map_map]; exact hany) nr'.1 nr'.2 (not_it hr2' fun _ z => nomatch z)
                    rw [show st (st s i (.as (.lst (ds.map fun _ => .any)))) i (.as (.lst ((ds.map fun _ => D.any).map fun _ => .any))) = st s i (.as (.lst (ds.map fun _ => .any))) from by simp only [st_eq, List.set_set, List.map_map]; rfl] at R2
                    exact ⟨Hin, Z, _, R2, h⟩
              · exact h.elim
            | _ => exact h.elim
          | _ => exact h.elim
    | _ => rw [eg] at h; exact h.elim
  | _ => rw [eg] at h; exact h.elim
end
end DL
/-! xs[::-1]; list(range(n)); x[a], x[b] = v, w. -/
namespace DL
open PySem PySem.Spec L2
section
variable {X : Cx} {ca : Nat → Addr} {W : WX} {a b c e : Expr} {es : List Expr} {fa fe fk1 fk2 fv : Ev → Res Rv} {fs : Ev → Res (List Rv)} {pos : Pos} {rest : List Stmt} {f g : Ev → Out}
def revO : Rv → Option Rv
  | ⟨_, .lst ds⟩ => some ⟨.fr, .lst ds.reverse⟩
  | _ => none
@[simp] theorem revO_lst {k : Kd} {ds : List D} : revO ⟨k, .lst ds⟩ = some ⟨.fr, .lst ds.reverse⟩ := rfl
@[simp] def fRev (fe : Ev → Res Rv) : Ev → Res Rv := fun s => bnd (fe s) fun r => lft (revO r)
theorem de_revL {k : Nat} {p1 p2 p3 : Pos} (he : DE X ca W e fe) : DE X ca W (.Subscript e (.Slice none none (some (.UnaryOp .USub (.Constant (.int 1) k p1) p2)) p3) pos) (fRev fe) :=
  (pe_revL he).imp fun σ H Q h => by
    obtain ⟨Hin, Z, s, R, h⟩ := h
    simp only [fRev, sat_bnd] at h
    refine tE_go R (sat_mono h (fun r h v H1 k1 R1 q1 => ?_) fun _ h => h)
    obtain ⟨c, e3, h⟩ := sat_lft h
    obtain ⟨kd, d⟩ := r
    cases d with
    | lst ds =>
      cases e3
      obtain ⟨p, xs, rfl, hp, r1⟩ := q1.list rfl
      exact ⟨p, xs, rfl, SqL.of hp, fun n hn => h _ _ (k1.trans (same_new hn)) ((resNewL hn r1.rev).start k1)⟩
    | _ => cases e3
def lrgO : Rv → Option Rv
  | ⟨_, .int n⟩ => if 0 ≤ n ∧ n ≤ 1000000 then some ⟨.fr, .lst (rngD 0 n.toNat)⟩ else none
  | _ => none
@[simp] def fLrg (fe : Ev → Res Rv) : Ev → Res Rv := fun s => bnd (fe s) fun r => lft (lrgO r)
theorem de_lrg {p p2 pos2 : Pos} (hm : X.mg "list" = none) (hm2 : X.mg "range" = none) (he : DE X ca W e fe) (hc : X.calm = true := by rfl) (hg : Gl X "list" := by rfl) (hg2 : Gl X "range" := by rfl) (na : starEach [e] X.env = (false, eval e X.env) :: starEach [] X.env := by rfl)
    (nb : starEach [.Call (.Name "range" p2) [e] [] pos2] X.env = (false, eval (.Call (.Name "range" p2) [e] [] pos2) X.env) :: starEach [] X.env := by rfl) : DE X ca W (.Call (.Name "list" p) [.Call (.Name "range" p2) [e] [] pos2] [] pos) (fLrg fe) :=
  (pe_listRg hc hg hm (prg_1 hg2 hm2 he na) nb).imp fun σ H Q h => by
    obtain ⟨Hin, Z, s, R, h⟩ := h
    simp only [fLrg, sat_bnd] at h
    refine tE_go R (sat_mono h (fun r h v H1 k1 R1 q1 => ?_) fun _ h => h)
    obtain ⟨c, e3, h⟩ := sat_lft h
    obtain ⟨kd, d⟩ := r
    cases d with
    | int n =>
      simp only [lrgO] at e3
      split at e3
      · rename_i hb
        cases e3
        refine ⟨n, q1.int rfl, ?_, fun q hq => h _ _ (k1.trans (same_new hq)) ((resNewL hq ?_).start k1)⟩
        · exact RgOk.of_le (by omega) (by omega) (by omega) hb.1
        · have e1 : rgV 0 n = ((List.range n.toNat).map fun k : Nat => (0 : Int) + (k : Int)).map V.int := by rw [List.map_map]; unfold rgV; rw [Int.sub_zero]; rfl
          have e2 : rngD 0 n.toNat = ((List.range n.toNat).map fun k : Nat => (0 : Int) + (k : Int)).map D.int := by rw [List.map_map]; rfl
          rw [e1, e2]
          exact RpL.ints
      · cases e3
    | _ => cases e3
/-- x[k] = v of an int, on the state -/
@[simp] def pt1 (i : Nat) (fk : Ev → Res Rv) (v : Int) : Ev → Res Ev := fun s => match gt s i with
  | .ow (.lst ds) => bnd (fk s) fun k => match k.d with
    | .int j => bnd (lft (ixN ds.length j)) fun m => .ok (st s i (.ow (.lst (ds.set m (.int v)))))
    | _ => .stuck
  | _ => .stuck
@[simp] def twoI : Rv → Option (Int × Int)
  | ⟨_, .tup [.int a, .int b]⟩ => some (a, b)
  | _ => none
@[simp] def fSwp (i : Nat) (fk1 fk2 fv : Ev → Res Rv) : Ev → Out := fun s => bndR (fv s) fun r => bndR (lft (twoI r)) fun p => bndR (pt1 i fk1 p.1 s) fun s1 => bndR (pt1 i fk2 p.2 s1) fun s2 => .nx s2
theorem pt1_go {i : Nat} {K : PySem.W.Frag} {Hin H : Hp} {Z : Addr → Prop} {s : Ev} {σ : L2.St} {Q : L2.St → Hp → Prop} {v : Int} {P : Ev → Prop} (R : Rel K Hin Z s σ H)
    (h : (pt1 i fk v s).sat P (Exq ca W σ H)) (q : ∀ s' H', P s' → Rel K Hin Z s' σ H' → Same Hin H' → Q σ H') : gSub (tVar i) (tE K ca W fk) rSetL (.int v) σ H Q := by
  simp only [pt1] at h
  cases eg : gt s i with
  | ow d =>
    cases d with
    | lst ds =>
      rw [eg] at h
      dsimp only at h
      rw [sat_bnd] at h
      have e1 := gt_ow eg
      obtain ⟨p, hp, hz, hin, xs, h1, h2⟩ := R.ow i _ e1
      refine ⟨.ref p, hp, ?_⟩
      refine tE_go R (sat_mono h (fun k h v2 H2 k2 R2 q2 => ?_) fun _ h => h)
      obtain ⟨kk, kd⟩ := k
      cases kd with
      | int j =>
        dsimp only at h
        rw [sat_bnd] at h
        obtain ⟨m, em, h⟩ := sat_lft h
        have ep := k2 _ _ h1
        refine ⟨p, xs, j, m, rfl, q2.int rfl, ep, by rw [h2.length]; exact em, ?_⟩
        have R3 := R2.mut e1 hp (o := .lst (xs.set m (.int v))) (d := .lst (ds.set m (.int v))) ⟨_, upd_same, (h2.mono (rg_mono k2)).set (.int v) m⟩
        exact q _ _ h R3 R3.base
      | _ => exact h.elim
    | _ => rw [eg] at h; exact h.elim
  | _ => rw [eg] at h; exact h.elim
theorem ds_swp (i : Nat) {x : Str} {px px2 pt pt2 pt3 : Pos} {kt : Nat} {ek1 ek2 ev : Expr} (hk1 : DE X ca W ek1 fk1) (hk2 : DE X ca W ek2 fk2) (hv : DE X ca W ev fv) (hN : X.N[i]? = some x := by rfl) (hx : Vis X.env.scope x := by first | exact Or.inl rfl | exact Or.inr (Or.inl rfl) | exact Or.inr (Or.inr rfl)) (hd : (x == ("__debug__" : Str)) = false := by decide) (hcd : (x == ("__classdict__" : Str)) = false := by decide) (hc : X.calm = true := by rfl)
    (hs : swapsWithSole [.Tuple [.Subscript (.Name x px) ek1 pt, .Subscript (.Name x px2) ek2 pt2] kt pt3] ev pos.line X.env = pure false := by rfl) (hw : swappedStores [.Tuple [.Subscript (.Name x px) ek1 pt, .Subscript (.Name x px2) ek2 pt2] kt pt3] ev X.env = pure none := by rfl)
    (h1 : (assignEach [.Tuple [.Subscript (.Name x px) ek1 pt, .Subscript (.Name x px2) ek2 pt2] kt pt3] X.env).map (·.2) = [assign (.Tuple [.Subscript (.Name x px) ek1 pt, .Subscript (.Name x px2) ek2 pt2] kt pt3) X.env] := by rfl)
    (hn : (assignEach [.Subscript (.Name x px) ek1 pt, .Subscript (.Name x px2) ek2 pt2] X.env).length = 2 := by rfl) (hst : (assignEach [.Subscript (.Name x px) ek1 pt, .Subscript (.Name x px2) ek2 pt2] X.env).findIdx? (·.1) = none := by rfl)
    (e1 : (assignEach [.Subscript (.Name x px) ek1 pt, .Subscript (.Name x px2) ek2 pt2] X.env).map (·.2) = assign (.Subscript (.Name x px) ek1 pt) X.env :: (assignEach [.Subscript (.Name x px2) ek2 pt2] X.env).map (·.2) := by rfl)
    (e2 : (assignEach [.Subscript (.Name x px2) ek2 pt2] X.env).map (·.2) = assign (.Subscript (.Name x px2) ek2 pt2) X.env :: (assignEach [] X.env).map (·.2) := by rfl)
    (ha : ∀ v, assign (.Subscript (.Name x px) ek1 pt) X.env v = (do
      let ov ← holding [v] (eval (.Name x px) X.env)
      let iv ← holding [v, ov] (eval ek1 X.env)
      standAt pt
      holding [v, ov, iv] (setItem ov iv v)
      release [v, ov, iv] []) := by intro _; rfl)
    (ha2 : ∀ v, assign (.Subscript (.Name x px2) ek2 pt2) X.env v = (do
      let ov ← holding [v] (eval (.Name x px2) X.env)
      let iv ← holding [v, ov] (eval ek2 X.env)
      standAt pt2
      holding [v, ov, iv] (setItem ov iv v)
      release [v, ov, iv] []) := by intro _; rfl) : DS X ca W (.Assign [.Tuple [.Subscript (.Name x px) ek1 pt, .Subscript (.Name x px2) ek2 pt2] kt pt3] ev pos) (fSwp i fk1 fk2 fv) :=
  (ps_asg hv (pg_tup hc (pgs_cons (pg_sub (pe_var (i := i) hN hx hd hcd) hk1 set_list ha) (pgs_cons (pg_sub (pe_var (i := i) hN hx hd hcd) hk2 set_list ha2) pgs_nil e2) e1) hn hst) hs hw h1).imp fun Dn σ H h => by
    obtain ⟨Hin, Z, s, R, h⟩ := h
    simp only [fSwp] at h
    refine tE_go R (sat_mono (satS_bnd R h) (fun r h v H1 k1 R1 q1 => ?_) fun _ h => h)
    obtain ⟨p, e3, h⟩ := sat_lft (satS_bnd R1 h)
    obtain ⟨kd, d⟩ := r
    simp only [twoI] at e3
    split at e3
    · rename_i kd2 a b hd2
      cases e3
      cases hd2
      obtain ⟨pa, xs, rfl, hp, r1⟩ := q1.tuple rfl
      obtain ⟨v1, v2, rfl, ra, rb⟩ := r1.two
      cases ra
      cases rb
      refine ⟨pa, _, rfl, SqT.of hp, rfl, .int a, [.int b], rfl, ?_⟩
      refine pt1_go R1 (satS_bnd R1 h) fun s1 H2 h R2 _ => ⟨.int b, [], rfl, ?_⟩
      exact pt1_go R2 (satS_bnd R2 h) fun s2 H3 h R3 _ => ⟨rfl, h _ _ R3⟩
    · cases e3
end
end DL
namespace My
open PySem PySem.Spec L2 DL
def g__law_cell_at : Ev → Out :=
  (fSeq (fIte (fB (fOp ltO (fVar 1) (fCall lenO (fCons (fVar 0) (fun _ => .ok []))))) (fRet (fOp ixO (fVar 0) (fVar 1))) .nx)
    (fRet (fC (.int 0))))
def F__law_cell_at : List D → Res Rv := fun ds => fin (g__law_cell_at (start0 2 ds))
def g__law_classes (a : Addr) (c : Nat) : Ev → Out :=
  (fSeq (fSet 1 (fOp addO (fOp addO (fOp mulO (fLst (fCons (fC (.int 0)) (fun _ => .ok []))) (fCall intO (fCons (fIsE a (c == 0) (fVar 0)) (fun _ => .ok [])))) (fOp mulO (fLst (fCons (fC (.int 1)) (fun _ => .ok []))) (fCall intO (fCons (fIsE a (c == 1) (fVar 0)) (fun _ => .ok []))))) (fOp mulO (fLst (fCons (fC (.int 2)) (fun _ => .ok []))) (fCall intO (fCons (fIsE a (c == 2) (fVar 0)) (fun _ => .ok []))))))
    (fSeq (fSet 1 (fOp addO (fOp addO (fVar 1) (fOp mulO (fLst (fCons (fC (.int 3)) (fun _ => .ok []))) (fCall intO (fCons (fIsE a (c == 3) (fVar 0)) (fun _ => .ok []))))) (fOp mulO (fLst (fCons (fC (.int 4)) (fun _ => .ok []))) (fCall intO (fCons (fIsE a (c == 4) (fVar 0)) (fun _ => .ok []))))))
    (fSeq (fSet 1 (fOp addO (fOp addO (fVar 1) (fOp mulO (fLst (fCons (fC (.int 5)) (fun _ => .ok []))) (fCall intO (fCons (fIsE a (c == 5) (fVar 0)) (fun _ => .ok []))))) (fOp mulO (fLst (fCons (fC (.int 6)) (fun _ => .ok []))) (fCall intO (fCons (fIsE a (c == 6) (fVar 0)) (fun _ => .ok []))))))
    (fRet (fCall tupO (fCons (fOp mulO (fVar 1) (fCall intO (fCons (fIsE a true (fVar 0)) (fun _ => .ok [])))) (fun _ => .ok [])))))))
def w__law_from_1 : Ev → Res Bool :=
  (fB (fOp ltO (fCall lenO (fCons (fVar 3) (fun _ => .ok []))) (fVar 2)))
def b__law_from_1 : Ev → Out :=
  (fSeq (fMut 3 appG (fCons (fOp ixO (fVar 0) (fVar 1)) (fun _ => .ok [])))
    (fSeq (fSet 1 (fOp addO (fVar 1) (fC (.int 1))))
    (fIte (fB (fOp eqO (fVar 1) (fCall lenO (fCons (fVar 0) (fun _ => .ok []))))) (fSet 1 (fC (.int 0))) .nx)))
def g__law_from : Ev → Out :=
  (fSeq (fSet 3 (fLst (fun _ => .ok [])))
    (fSeq (fWhile w__law_from_1 b__law_from_1)
    (fRet (fVar 3))))
def F__law_from : List D → Res Rv := fun ds => fin (g__law_from (start0 4 ds))
def c__law_words_1 : Ev → Res Rv :=
  (fFn F__law_from (fCons (fVar 0) (fCons (fVar 2) (fCons (fVar 1) (fun _ => .ok [])))))
def g__law_words : Ev → Out :=
  (fRet (fLc (fRng rng1 (fCons (fCall lenO (fCons (fVar 0) (fun _ => .ok []))) (fun _ => .ok []))) 2 (fun _ => .ok true) c__law_words_1))
def F__law_words : List D → Res Rv := fun ds => fin (g__law_words (start0 3 ds))
end My
/-! Trees: told, bound, looked at. -/
namespace DL
open PySem PySem.Spec L2
theorem scalar_leafy {d : D} (h : scalar d = true) : leafy d = true := by cases d <;> first | rfl | cases h
theorem ot_scalar {K : PySem.W.Frag} {R H : Hp} {v : V} {d : D} (h : Rp K R v d) (e : scalar d = true) : OT K H v d [] := .leaf (scalar_leafy e) (scalar_rp h e)
theorem otl_scalars {K : PySem.W.Frag} {R H : Hp} : ∀ {vs : List V} {ds : List D}, RpL K R vs ds → ds.all scalar = true → OTL K H vs ds []
  | _, _, .nil, _ => .nil
  | _, _, .cons h r, e => by
    simp only [List.all_cons, Bool.and_eq_true] at e
    exact .cons (l := []) (ot_scalar h e.1) (otl_scalars r e.2)
theorem OTL.app {K : PySem.W.Frag} {H : Hp} : ∀ {vs ws : List V} {ds es : List D} {l m : List Addr}, OTL K H vs ds l → OTL K H ws es m → OTL K H (vs ++ ws) (ds ++ es) (l ++ m)
  | _, _, _, _, _, _, .nil, s => s
  | _, _, _, _, _, _, .cons h r, s => by rw [List.append_assoc]; exact .cons h (r.app s)
theorem OTL.one {K : PySem.W.Frag} {H : Hp} {v : V} {d : D} {l : List Addr} (h : OT K H v d l) : OTL K H [v] [d] l := by
  have := OTL.cons h .nil
  rwa [List.append_nil] at this
theorem OTL.length {K : PySem.W.Frag} {H : Hp} : ∀ {vs : List V} {ds : List D} {l : List Addr}, OTL K H vs ds l → vs.length = ds.length
  | _, _, _, .nil => rfl
  | _, _, _, .cons _ r => by simp [OTL.length r]
/-- one of the trees, and what follows where it is changed -/
theorem OTL.focus {K : PySem.W.Frag} {H : Hp} : ∀ {xs : List V} {ds : List D} {l : List Addr} {k : Nat} {d : D}, OTL K H xs ds l → ds[k]? = some d →
    ∃ x lk pre post, xs[k]? = some x ∧ OT K H x d lk ∧ l = pre ++ lk ++ post ∧ ∀ (H' : Hp) (d' : D) (lk' : List Addr) (dead : List Addr), OT K H' x d' lk' → (∀ a o, H a = some o → a ∉ dead → H' a = some o) → (∀ a ∈ dead, ¬ IT H a) → (∀ a ∈ dead, a ∉ pre ∧ a ∉ post) → OTL K H' xs (ds.set k d') (pre ++ lk' ++ post)
  | _, _, _, k, d, .nil, h => by simp at h
  | _, _, _, 0, d, @OTL.cons _ _ v vs _ ds l m hv hr, h => by
    simp at h
    subst h
    refine ⟨v, l, [], m, rfl, hv, rfl, fun H' d' lk' dead h1 e n q => ?_⟩
    exact .cons h1 (hr.away e n fun a ha => (q a ha).2)
  | _, _, _, k + 1, d, @OTL.cons _ _ v vs d0 ds l m hv hr, h => by
    obtain ⟨x, lk, pre, post, h1, h2, h3, h4⟩ := OTL.focus (k := k) hr (by simpa using h)
    refine ⟨x, lk, l ++ pre, post, by simpa using h1, h2, by rw [h3]; simp, fun H' d' lk' dead g1 e n q => ?_⟩
    have := h4 H' d' lk' dead g1 e n fun a ha => ⟨fun z => (q a ha).1 (List.mem_append_right _ z), (q a ha).2⟩
    rw [List.append_assoc, List.append_assoc, ← List.append_assoc pre]
    exact .cons (hv.away e n fun a ha z => (q a ha).1 (List.mem_append_left _ z)) this
section
variable (K : PySem.W.Frag) (ca : Nat → Addr) (W : WX)
/-- an expression that tells a new tree -/
def tTr (f : Ev → Res D) : TE := fun σ H Q => ∃ Hin Z s, Rel K Hin Z s σ H ∧ (f s).sat (fun d => ∀ v H' l, Same H H' → OT K H' v d l → l.Nodup → (∀ a ∈ l, H a = none) → Q v H') (Exq ca W σ H)
def tTrA (f : Ev → Res (List D)) : TA := fun σ H Q => ∃ Hin Z s, Rel K Hin Z s σ H ∧ (f s).sat (fun ds => ∀ vs H' l, Same H H' → OTL K H' vs ds l → l.Nodup → (∀ a ∈ l, H a = none) → Q vs H') (Exq ca W σ H)
end
section
variable {X : Cx} {ca : Nat → Addr} {W : WX} {a b c e : Expr} {es : List Expr} {fa fe : Ev → Res Rv} {pos : Pos} {rest : List Stmt} {g : Ev → Out}
abbrev DTr (X : Cx) (ca : Nat → Addr) (W : WX) (e : Expr) (f : Ev → Res D) : Prop := PE X e (tTr X.K ca W f)
abbrev DTrA (X : Cx) (ca : Nat → Addr) (W : WX) (e : List Expr) (f : Ev → Res (List D)) : Prop := PA X e (tTrA X.K ca W f)
/-! ### tree expressions -/
def trO : Rv → Option D
  | ⟨.fr, .lst ds⟩ => if ds.all scalar = true then some (.lst ds) else none
  | ⟨.sh, d⟩ => if scalar d = true ∨ isIT d = true then some d else none
  | _ => none
@[simp] theorem trO_fr {ds : List D} : trO ⟨.fr, .lst ds⟩ = if ds.all scalar = true then some (.lst ds) else none := rfl
@[simp] theorem trO_sh {d : D} : trO ⟨.sh, d⟩ = if scalar d = true ∨ isIT d = true then some d else none := by cases d <;> rfl
@[simp] def fTr (fe : Ev → Res Rv) : Ev → Res D := fun s => bnd (fe s) fun r => lft (trO r)
theorem ot_of {K : PySem.W.Frag} {Z : Addr → Prop} {s : Ev} {σ : L2.St} {H H' : Hp} {v : V} {r : Rv} {d : D} (q : ResOk K Z s σ H H' v r) (e : trO r = some d) : ∃ l, OT K H' v d l ∧ l.Nodup ∧ ∀ a ∈ l, H a = none := by
  obtain ⟨k, x⟩ := r
  cases k with
  | ow => cases x <;> cases e
  | sh =>
    rw [trO_sh] at e
    split at e
    · rename_i hc
      cases e
      rcases hc with hc | hc
      · exact ⟨[], ot_scalar q hc, List.nodup_nil, by simp⟩
      · obtain ⟨a, w, e1, h1, e2⟩ := it_rp q hc
        have e2 : d = _ := e2
        rw [e1, e2]
        exact ⟨[], .it (hide_le _ _ h1), List.nodup_nil, by simp⟩
    · cases e
  | fr =>
    cases x with
    | lst ds =>
      rw [trO_fr] at e
      split at e
      · rename_i hc
        cases e
        obtain ⟨p, rfl, hp, xs, h1, h2⟩ := q
        exact ⟨[p], .lst h1 (otl_scalars h2 hc), by simp, fun a ha => by rw [List.mem_singleton.mp ha]; exact hp⟩
      · cases e
    | _ => cases e
theorem dtr_of (h : DE X ca W e fe) : DTr X ca W e (fTr fe) := h.imp fun σ H Q ⟨Hin, Z, s, R, h⟩ => by
  simp only [fTr, sat_bnd] at h
  refine ⟨Hin, Z, s, R, sat_mono h (fun r h v H' k q => ?_) fun _ h => h⟩
  obtain ⟨d, e1, h⟩ := sat_lft h
  obtain ⟨l, h1, h2, h3⟩ := ot_of q e1
  exact h v H' l k h1 h2 h3
theorem dtr_wake {f : Ev → Res D} (h : DTr X ca W e f) : DTr X ca W e (fun s => f (wake s)) := h.imp fun σ H Q ⟨Hin, Z, s, R, q⟩ => ⟨Hin, _, wake s, R.wake, q⟩
/-- a call -/
def trR : Rv → Option D
  | ⟨.ow, .tup [.non, d]⟩ => some d
  | r => trO r
@[simp] theorem trR_ow {d : D} : trR ⟨.ow, .tup [.non, d]⟩ = some d := rfl
@[simp] theorem trR_sh {d : D} : trR ⟨.sh, d⟩ = trO ⟨.sh, d⟩ := rfl
@[simp] theorem trR_fr {d : D} : trR ⟨.fr, d⟩ = trO ⟨.fr, d⟩ := rfl
theorem trR_inv {d z : D} (h : trR ⟨.ow, d⟩ = some z) : d = .tup [.non, z] := by
  unfold trR at h
  split at h
  · rename_i e; cases e; cases h; rfl
  · cases d <;> cases h
theorem ot_ret {K : PySem.W.Frag} {Z : Addr → Prop} {H H' : Hp} {v : V} {r : Rv} {d : D} (q : RetOk K H Z H' v r) (e : trR r = some d) : ∃ l, OT K H' v d l ∧ l.Nodup ∧ ∀ a ∈ l, H a = none := by
  obtain ⟨k, x⟩ := r
  cases k with
  | ow =>
    obtain rfl := trR_inv e
    exact q
  | sh =>
    rw [trR_sh, trO_sh] at e
    split at e
    · rename_i hc
      cases e
      rcases hc with hc | hc
      · exact ⟨[], ot_scalar q hc, List.nodup_nil, by simp⟩
      · obtain ⟨a, w, e1, h1, e2⟩ := it_rp q hc
        have e2 : d = _ := e2
        rw [e1, e2]
        exact ⟨[], .it (hide_le _ _ h1), List.nodup_nil, by simp⟩
    · cases e
  | fr =>
    cases x with
    | lst ds =>
      rw [trR_fr, trO_fr] at e
      split at e
      · rename_i hc
        cases e
        obtain ⟨p, rfl, hp, xs, h1, h2⟩ := q
        exact ⟨[p], .lst h1 (otl_scalars h2 hc), by simp, fun a ha => by rw [List.mem_singleton.mp ha]; exact hp⟩
      · cases e
    | _ => cases e
@[simp] def fFnT (F : List D → Res Rv) (fs : Ev → Res (List Rv)) : Ev → Res D := fun s => bnd (fs s) fun rs => bnd (F (rs.map (·.d))) fun r => lft (trR r)
theorem fnT_ok {K : PySem.W.Frag} {F : List D → Res Rv} {n : Nat} {fs : Ev → Res (List Rv)} {σ : L2.St} {H : Hp} {Q : VK} (hn : ∀ s rs, fs s = .ok rs → rs.length = n) (h : tTr K ca W (fFnT F fs) σ H Q) : tA K ca W fs σ H fun vs H1 => spF K ca F n vs H1 Q (WE W σ) := by
  obtain ⟨Hin, Z, s, R, h⟩ := h
  simp only [fFnT, sat_bnd] at h
  cases efs : fs s with
  | exc c => rw [efs] at h; exact ⟨Hin, Z, s, R, by rw [efs]; exact h⟩
  | stuck => rw [efs] at h; exact h.elim
  | ok rs =>
    rw [efs] at h
    refine tA_go R ?_
    rw [efs]
    intro vs H1 k1 R1 q1
    replace h : (F (rs.map (·.d))).sat _ _ := h
    have hlen : (rs.map (·.d)).length = n := by rw [List.length_map]; exact hn s rs efs
    refine ⟨H1, rs.map (·.d), Same.refl _, q1.full, hlen, sat_mono h (fun r h v H' k q => ?_) fun c h H' k => h H' (k1.trans k)⟩
    obtain ⟨d, e1, h⟩ := sat_lft h
    obtain ⟨l, h1, h2, h3⟩ := ot_ret q e1
    exact h v H' l (k1.trans k) h1 h2 fun a ha => k1.free (h3 a ha)
theorem dtr_fn {x : Str} {p : Pos} {ps : List Str} {F : List D → Res Rv} {fs : Ev → Res (List Rv)} {lvl k : Nat} (C : Cal X.prog X.w X.K X.mg X.base ca lvl x ps F) (hr : Room k X.A) (hW : ∀ σ, PassesAt (L2.CX X.prog X.w) X σ (WE W σ)) (ha : DA X ca W (e :: es) fs) (hn : ∀ s rs, fs s = .ok rs → rs.length = ps.length) (hk : lvl ≤ k := by decide)
    (hg : Gl X x := by rfl) (hdb : (x == ("__debug__" : Str)) = false := by decide) (he : starEach (e :: es) X.env = (false, eval e X.env) :: starEach es X.env := by rfl) (hpl : (backTo pos (starEach es X.env)).any (·.1) = false := by rfl) :
    DTr X ca W (.Call (.Name x p) (e :: es) [] pos) (fFnT F fs) := by
  obtain ⟨f, fd, hm, kp, hb, G⟩ := C
  exact (pe_callS (E := WE W) G (hr.mono hk) hg hm kp hb hW ha hdb he hpl).imp fun σ H Q h => fnT_ok hn h
/-! rows of trees -/
theorem dta_nil : DTrA X ca W [] (fun _ => .ok []) := pa_nil.imp fun σ H Q ⟨Hin, Z, s, R, h⟩ => h [] H [] (Same.refl _) .nil List.nodup_nil (by simp)
@[simp] def fTCons (f : Ev → Res D) (fs : Ev → Res (List D)) : Ev → Res (List D) := fun s => bnd (f s) fun d => bnd (fs s) fun ds => .ok (d :: ds)
theorem dta_cons {f : Ev → Res D} {fs : Ev → Res (List D)} (ha : DTr X ca W e f) (hr : DTrA X ca W es fs) (hs : starEach (e :: es) X.env = (false, eval e X.env) :: starEach es X.env := by rfl) : DTrA X ca W (e :: es) (fTCons f fs) :=
  (pa_cons ha hr hs).imp fun σ H Q h => by
    obtain ⟨Hin, Z, s, R, h⟩ := h
    simp only [fTCons, sat_bnd] at h
    refine ⟨Hin, Z, s, R, sat_mono h (fun d h v H1 l k1 o1 n1 f1 => ⟨Hin, Z, s, R.mono k1, sat_mono h (fun ds h w H2 m k2 o2 n2 f2 => ?_) fun _ h => exq_go k1 h⟩) fun _ h => h⟩
    refine h _ H2 (l ++ m) (k1.trans k2) (.cons (o1.mono k2) o2) (List.nodup_append.mpr ⟨n1, n2, fun a ha b hb e => ?_⟩) fun a ha => ?_
    · subst e
      exact (o1.own a ha).1 (f2 a hb)
    · rcases List.mem_append.mp ha with ha | ha
      · exact f1 a ha
      · exact k1.free (f2 a ha)
theorem otl_new {K : PySem.W.Frag} {H H1 : Hp} {vs : List V} {ds : List D} {l : List Addr} {p : Addr} {o : HO} (k1 : Same H H1) (h : OTL K H1 vs ds l) (n : l.Nodup) (f : ∀ a ∈ l, H a = none) (hp : H1 p = none) : OTL K (upd H1 p o) vs ds l ∧ (p :: l).Nodup ∧ ∀ a ∈ p :: l, H a = none :=
  ⟨h.mono (same_new hp), List.nodup_cons.mpr ⟨fun z => (h.own p z).1 hp, n⟩, fun a ha => by
    rcases List.mem_cons.mp ha with rfl | ha
    · exact k1.free hp
    · exact f a ha⟩
@[simp] def fTLst (fs : Ev → Res (List D)) : Ev → Res D := fun s => bnd (fs s) fun ds => if ds.length ≤ lim then .ok (.lst ds) else .stuck
theorem dtr_lst {fs : Ev → Res (List D)} (h : DTrA X ca W es fs) : DTr X ca W (.List es pos) (fTLst fs) :=
  (pe_lst h).imp fun σ H Q h => by
    obtain ⟨Hin, Z, s, R, h⟩ := h
    simp only [fTLst, sat_bnd] at h
    refine ⟨Hin, Z, s, R, sat_mono h (fun ds h vs H1 l k1 o1 n1 f1 => ?_) fun _ h => h⟩
    obtain ⟨hl, h⟩ := sat_if h
    refine ⟨by rw [o1.length]; exact le_line hl, fun p hp => ?_⟩
    obtain ⟨g1, g2, g3⟩ := otl_new k1 o1 n1 f1 (o := .lst vs) hp
    exact h _ _ _ (k1.trans (same_new hp)) (.lst upd_same g1) g2 g3
@[simp] def isStr : List D → Bool
  | .str _ :: _ => true
  | _ => false
@[simp] def fTTup (fs : Ev → Res (List D)) : Ev → Res D := fun s => bnd (fs s) fun ds => if ds.length ≤ lim ∧ isStr ds = true then .ok (.tup ds) else .stuck
theorem dtr_tup {k : Nat} {fs : Ev → Res (List D)} (h : DTrA X ca W es fs) : DTr X ca W (.Tuple es k pos) (fTTup fs) :=
  (pe_tup h).imp fun σ H Q h => by
    obtain ⟨Hin, Z, s, R, h⟩ := h
    simp only [fTTup, sat_bnd] at h
    refine ⟨Hin, Z, s, R, sat_mono h (fun ds h vs H1 l k1 o1 n1 f1 => ?_) fun _ h => h⟩
    obtain ⟨hl, h⟩ := sat_if h
    refine ⟨by rw [o1.length]; exact le_line hl.1, fun p hp => ?_⟩
    obtain ⟨g1, g2, g3⟩ := otl_new k1 o1 n1 f1 (o := .tup vs) hp
    refine h _ _ _ (k1.trans (same_new hp)) (.tup upd_same (fun w z => ?_) g1) g2 g3
    have hs := hl.2
    cases o1 with
    | nil => simp at hs
    | cons q1 q2 =>
      cases w with
      | nil => cases z
      | cons x w =>
        obtain ⟨rfl, _⟩ := List.cons.inj z
        cases q1 with
        | leaf a b => cases b <;> simp at hs
end
end DL
/-! Trees: comprehensions, min, told and bound. -/
namespace DL
open PySem PySem.Spec L2
@[simp] def lcT (ft : Ev → Res Bool) (fe : Ev → Res D) (i : Nat) (s : Ev) : List D → Res (List D)
  | [] => .ok []
  | d :: ds => bnd (nox (ft (st s i (.sh d)))) fun b => if b then bnd (nox (fe (st s i (.sh d)))) fun e => bnd (lcT ft fe i s ds) fun es => .ok (e :: es) else lcT ft fe i s ds
theorem lcT_noexc (ft : Ev → Res Bool) (fe : Ev → Res D) (i : Nat) (s : Ev) : ∀ (ds : List D) (c : Nat), lcT ft fe i s ds ≠ .exc c
  | [], c => by simp
  | d :: ds, c => by
    simp only [lcT]
    cases e1 : ft (st s i (.sh d)) with
    | exc c => simp [nox, bnd]
    | stuck => simp [nox, bnd]
    | ok b =>
      simp only [nox, bnd]
      split
      · cases e2 : fe (st s i (.sh d)) with
        | exc c => simp [nox, bnd]
        | stuck => simp [nox, bnd]
        | ok r =>
          simp only [nox, bnd]
          cases e3 : lcT ft fe i s ds with
          | exc c => exact absurd e3 (lcT_noexc ft fe i s ds c)
          | stuck => simp
          | ok es => simp
      · exact lcT_noexc ft fe i s ds c
@[simp] def fLcT (fi : Ev → Res (Bool × List D)) (i : Nat) (ft : Ev → Res Bool) (fe : Ev → Res D) : Ev → Res D := fun s => bnd (fi s) fun p => if okW i s = true then bnd (lcT ft fe i (st s i .un) p.2) fun ds => if ds.length ≤ lim then .ok (.lst ds) else .stuck else .stuck
theorem tLcT_of {ca : Nat → Addr} {W : WX} {fi : Ev → Res (Bool × List D)} {i : Nat} {ft : Ev → Res Bool} {fe : Ev → Res D} {K : PySem.W.Frag} {σ : L2.St} {H : Hp} {Q : VK} (h : tTr K ca W (fLcT fi i ft fe) σ H Q) : tLc (tI K ca W fi) (gName i) (tT K ca W0 ft) (tTr K ca W0 fe) [i] σ H Q := by
  obtain ⟨Hin, Z, s, R, h⟩ := h
  simp only [fLcT, sat_bnd] at h
  refine ⟨Hin, Z, s, R, sat_mono h (fun p h J H1 keep k1 it hk Dd hD => ?_) fun _ h => h⟩
  obtain ⟨ow, ds⟩ := p
  obtain ⟨hw, h⟩ := sat_if h
  rw [sat_bnd] at h
  obtain ⟨vs, rv, hv⟩ := it.vals
  have hlen : vs.length = ds.length := rv.length
  have R1 := R.mono k1
  cases eo : lcT ft fe i (st s i .un) ds with
  | exc c => exact absurd eo (lcT_noexc _ _ _ _ _ _)
  | stuck => rw [eo] at h; exact h.elim
  | ok out =>
    rw [eo] at h
    obtain ⟨hl, h⟩ := sat_if (show ((if out.length ≤ lim then Res.ok (D.lst out) else .stuck).sat _ _) from h)
    have h : ∀ v H' l, Same H H' → OT K H' v (.lst out) l → l.Nodup → (∀ a ∈ l, H a = none) → Q v H' := h
    refine ⟨fun j m H' => m = ds.length - j ∧ j ≤ ds.length ∧ ∃ acc done rest fp, H' Dd = some (.lst acc) ∧ Same H1 H' ∧ OTL K H' acc done fp ∧ fp.Nodup ∧ (∀ a ∈ fp, H1 a = none ∧ a ≠ Dd) ∧ lcT ft fe i (st s i .un) (ds.drop j) = .ok rest ∧ done ++ rest = out,
      ⟨ds.length, by simp, Nat.zero_le _, [], [], out, [], upd_same, same_new hD, .nil, List.nodup_nil, by simp, eo, rfl⟩, ?_⟩
    rintro j m H' ⟨rfl, hj, acc, done, rest, fp, hacc, kH, rd, fn, ff, er, eout⟩
    have hv' := hv H' (it.here.trans kH) j
    by_cases hlt : j < ds.length
    · obtain ⟨d, hd⟩ : ∃ d, ds[j]? = some d := ⟨ds[j], by simp [hlt]⟩
      obtain ⟨v, hvj, rdv⟩ := rv.get hd
      obtain ⟨g1, g2⟩ := hv'.1 v hvj
      have ed : ds.drop j = d :: ds.drop (j + 1) := by
        rw [List.drop_eq_getElem_cons hlt]
        rw [List.getElem?_eq_getElem hlt] at hd
        rw [Option.some.inj hd]
      rw [ed] at er
      refine .inr ⟨g1, fun H'' => ∃ acc done rest fp, H'' Dd = some (.lst acc) ∧ Same H1 H'' ∧ OTL K H'' acc done fp ∧ fp.Nodup ∧ (∀ a ∈ fp, H1 a = none ∧ a ≠ Dd) ∧ lcT ft fe i (st s i .un) (ds.drop (j + 1)) = .ok rest ∧ done ++ rest = out, fun H'' q => ⟨ds.length - (j + 1), by omega, rfl, hlt, q⟩, fun y H3 hy => ?_⟩
      obtain ⟨rfl, rfl⟩ := g2 y H3 hy
      -- the inner state
      have RD : Rel K Hin (fun a => Z a ∨ a = Dd) s σ H3 := R1.hideMore' kH hD (by rw [hacc]; simp)
      obtain ⟨RW, pw⟩ := RD.wipe hw
      have rdv2 : Rp K (Rg (fun a => Z a ∨ a = Dd) (st s i .un) (wipe σ [i]) H3) y d := rdv.mono (hide_mono kH fun a na _ q => by
        rcases q with (q | q) | q
        · exact .inl q
        · rw [q] at na; exact absurd hD na
        · exact .inr ((pw a).mp q))
      have RS := RW.setSh rdv2 i
      have est : st (st s i .un) i (.sh d) = st s i (.sh d) := by simp only [st_eq, List.set_set]
      show wipe ((wipe σ [i]).set i (some y)) [i] = wipe σ [i] ∧ _
      refine ⟨by show ((σ.set i none).set i (some y)).set i none = σ.set i none; simp only [List.set_set], ?_⟩
      simp only [lcT] at er
      refine tT_go RS ?_
      cases et : ft (st (st s i .un) i (.sh d)) with
      | exc c => rw [et] at er; cases er
      | stuck => rw [et] at er; cases er
      | ok b =>
        rw [et] at er
        intro H4 k4 R4
        cases b with
        | false =>
          refine iteF ?_
          simp only [nox, bnd, Bool.false_eq_true, if_false] at er
          exact ⟨acc, done, rest, fp, k4 _ _ hacc, kH.trans k4, rd.mono k4, fn, ff, er, eout⟩
        | true =>
          refine iteT ⟨Hin, _, _, R4, ?_⟩
          simp only [nox, bnd, if_true] at er
          cases ee : fe (st (st s i .un) i (.sh d)) with
          | exc c => rw [ee] at er; cases er
          | stuck => rw [ee] at er; cases er
          | ok r =>
            rw [ee] at er
            intro w H5 l5 k5 o5 n5 f5
            simp only [nox, bnd] at er
            cases er2 : lcT ft fe i (st s i .un) (ds.drop (j + 1)) with
            | exc c => rw [er2] at er; cases er
            | stuck => rw [er2] at er; cases er
            | ok rest' =>
              rw [er2] at er
              simp only [bnd, Res.ok.injEq] at er
              subst er
              have hl2 : acc.length < lim := by
                have := congrArg List.length eout
                rw [List.length_append, List.length_cons, ← rd.length] at this
                omega
              have acc4 := k4 _ _ hacc
              have acc5 := k5 _ _ acc4
              have nD5 : Dd ∉ l5 := fun z => by
                have := f5 _ z
                rw [acc4] at this
                cases this
              have dis : ∀ a ∈ fp, ∀ b ∈ l5, a ≠ b := fun a ha b hb z => by
                subst z
                have := (rd.own a ha).1
                exact this (k4.free (f5 _ hb))
              have all : OTL K H5 (acc ++ [w]) (done ++ [r]) (fp ++ l5) := (rd.mono (k4.trans k5)).app (.one o5)
              refine ⟨acc, acc5, lt_line hl2, acc ++ [w], done ++ [r], rest', fp ++ l5, upd_same, fun a o q => ?_, all.away (dead := [Dd]) (fun a o h n => by rw [upd_ne (fun z => n (by rw [z]; exact List.mem_singleton.mpr rfl))]; exact h) (fun a ha => by rw [List.mem_singleton.mp ha]; exact not_it acc5 fun _ z => nomatch z) (fun a ha z => by
                rw [List.mem_singleton.mp ha] at z
                rcases List.mem_append.mp z with z | z
                · exact (ff _ z).2 rfl
                · exact nD5 z), List.nodup_append.mpr ⟨fn, n5, dis⟩, fun a ha => ?_, rfl, by rw [List.append_assoc]; exact eout⟩
              · rw [upd_ne (ne_of_none q hD)]
                exact k5 _ _ (k4 _ _ (kH _ _ q))
              · rcases List.mem_append.mp ha with ha | ha
                · exact ff a ha
                · exact ⟨kH.free (k4.free (f5 a ha)), fun z => nD5 (by rw [← z]; exact ha)⟩
    · have e : j = ds.length := by omega
      subst e
      rw [List.drop_length] at er
      simp only [lcT, Res.ok.injEq] at er
      subst er
      rw [List.append_nil] at eout
      subst eout
      exact .inl ⟨hv'.2 (by omega), h _ H' (Dd :: fp) (k1.trans kH) (.lst hacc rd) (List.nodup_cons.mpr ⟨fun z => (ff _ z).2 rfl, fn⟩) fun a ha => by
        rcases List.mem_cons.mp ha with rfl | ha
        · exact k1.free hD
        · exact k1.free (ff a ha).1⟩
section
variable {X : Cx} {ca : Nat → Addr} {W : WX} {a b c e : Expr} {es : List Expr} {fa fe : Ev → Res Rv} {pos : Pos} {rest : List Stmt} {g : Ev → Out}
theorem dtr_lc (i : Nat) {x : Str} {tpos : Pos} {elt iter : Expr} {ifs : List Expr} {scope : Scope} {fi : Ev → Res (Bool × List D)} {ft : Ev → Res Bool} {fe : Ev → Res D} (hN : X.N.Nodup) (hi : DI X ca W (.Name x tpos) iter fi) (ok : blkC X.N X.env.scope scope [(x, i)] = true)
    (hg : ∀ (s : Shared) (H : Hp) (C : Addr) (cl : List (Str × Addr)) (fp : List Addr), PG (X.blk s H scope (compEnvC scope cl C X.env) fp) (.Name x tpos) (gName i)) (ht : ∀ (s : Shared) (H : Hp) (C : Addr) (cl : List (Str × Addr)) (fp : List Addr), PTs (X.blk s H scope (compEnvC scope cl C X.env) fp) ifs (tT X.K ca W0 ft))
    (he : ∀ (s : Shared) (H : Hp) (C : Addr) (cl : List (Str × Addr)) (fp : List Addr), DTr (X.blk s H scope (compEnvC scope cl C X.env) fp) ca W0 elt fe) (hc : X.calm = true := by rfl) (hs : ∀ x, foldedSetIterable iter X.env x = pure x := by intro _; rfl) :
    DTr X ca W (.ListComp elt [⟨.Name x tpos, iter, ifs, 0⟩] scope pos) (fLcT fi i ft fe) :=
  (pe_lc (own := [(x, i)]) hc hN hi (blkOk_by ok) hg ht he hs).imp fun σ H Q h => tLcT_of h
/-! min of a row of trees -/
theorem OTL.at {K : PySem.W.Frag} {H : Hp} {xs : List V} {ds : List D} {l : List Addr} (h : OTL K H xs ds l) {k : Nat} {d : D} (hd : ds[k]? = some d) : ∃ x lk, xs[k]? = some x ∧ OT K H x d lk ∧ lk.Sublist l := by
  obtain ⟨x, lk, pre, post, h1, h2, h3, _⟩ := h.focus hd
  exact ⟨x, lk, h1, h2, by rw [h3]; exact (List.sublist_append_right _ _).trans (List.sublist_append_left _ _)⟩
@[simp] def fTMin (f : Ev → Res D) : Ev → Res D := fun s => bnd (f s) fun d => match d with
  | .lst (d :: dr) => if minOk (d :: dr) = true then .ok (minL1 d dr) else .stuck
  | _ => .stuck
theorem dtr_min {x : Str} {p : Pos} {f : Ev → Res D} (hu : X.A.units + 64 < cLine) (hm : X.mg x = none) (ha : DTr X ca W e f) (hcm : X.calm = true := by rfl) (hg : Gl X x := by rfl) (hv : bootBuiltins x = some (.builtin "min") := by decide +kernel) (hn : x ≠ "__name__" := by decide) (hdb : (x == ("__debug__" : Str)) = false := by decide)
    (he : starEach [e] X.env = (false, eval e X.env) :: starEach [] X.env := by rfl) (hpl : (backTo pos (starEach [] X.env)).any (·.1) = false := by rfl) : DTr X ca W (.Call (.Name x p) [e] [] pos) (fTMin f) :=
  (pe_callB (cr_min hu hcm) hg hm hv (dta_cons ha dta_nil he) hn hdb he hpl).imp fun σ H Q h => by
    obtain ⟨Hin, Z, s, R, h⟩ := h
    simp only [fTMin, sat_bnd] at h
    refine ⟨Hin, Z, s, R, ?_⟩
    simp only [fTCons, sat_bnd]
    refine sat_mono h (fun d h => ?_) fun _ h => h
    intro vs H1 l k1 o1 n1 f1
    cases o1 with
    | cons q1 q2 =>
      cases q2
      rw [List.append_nil] at n1 f1
      cases d with
      | lst ds =>
        cases ds with
        | nil => exact h.elim
        | cons d dr =>
          dsimp only at h
          obtain ⟨ho, h⟩ := sat_if h
          cases q1 with
          | leaf e1 _ => cases e1
          | lst hp ol =>
            simp only [minOk, Bool.and_eq_true, List.all_eq_true, decide_eq_true_eq] at ho
            obtain ⟨h1, h2, h3⟩ := ho
            have r := ol.rp (R := H1) (fun _ _ => rfl) (fun _ _ => rfl)
            obtain ⟨ps, e1, e2, e3⟩ := pairs_of r
            have mem : ∀ x ∈ ps, x.1 ∈ d :: dr := fun x hx => by rw [← e1]; exact List.mem_map.mpr ⟨x, hx, rfl⟩
            have e4 : (ps.map fun x => toPy x.1) = toPy d :: toPys dr := by
              have : (ps.map fun x => toPy x.1) = (ps.map (·.1)).map toPy := by rw [List.map_map]; rfl
              rw [this, e1, List.map_cons, toPys_map]
            rw [← e2] at hp
            refine ⟨_, ps, toPy d, toPys dr, rfl, SqL.of hp, e4, fun x hx => ⟨(e3 x hx).dp (h1 _ (mem x hx)).1, h1 _ (mem x hx)⟩, ⟨?_, ?_⟩, fun x hx ex => ?_⟩
            · rw [← e4]
              intro a ha b hb
              obtain ⟨x, hx, rfl⟩ := List.mem_map.mp ha
              obtain ⟨y, hy, rfl⟩ := List.mem_map.mp hb
              exact h2 _ (mem x hx) _ (mem y hy)
            · rw [← e4]
              intro a ha
              obtain ⟨x, hx, rfl⟩ := List.mem_map.mp ha
              have := h3 _ (mem x hx)
              cases ep : x.1 <;> rw [ep] at this <;> first | (cases this; done) | simp [toPy]
            · have e5 : x.1 = minL1 d dr := toPy_inj _ _ (h1 _ (mem x hx)).1 (by rw [ex, minL1_py])
              obtain ⟨k, hk⟩ := List.mem_iff_getElem?.mp hx
              have hk1 : (d :: dr)[k]? = some x.1 := by rw [← e1, List.getElem?_map, hk]; rfl
              obtain ⟨y, lk, y1, y2, y3⟩ := ol.at hk1
              rw [← e2, List.getElem?_map, hk] at y1
              cases y1
              rw [e5] at y2
              exact h _ H1 lk k1 y2 ((List.nodup_cons.mp n1).2.sublist y3) fun a ha => f1 a (List.mem_cons_of_mem _ (y3.subset ha))
      | _ => exact h.elim
/-! told -/
@[simp] def fRetTr (f : Ev → Res D) : Ev → Out := fun s => bndR (f s) fun d => .rt ⟨.ow, .tup [.non, d]⟩
theorem ds_retTr {f : Ev → Res D} (he : DTr X ca W e f) : DS X ca W (.Return (some e) pos) (fRetTr f) := (ps_ret he).imp fun Dn σ H h => by
  obtain ⟨Hin, Z, s, R, h⟩ := h
  refine ⟨Hin, Z, s, R, sat_mono (satS_bnd R h) (fun d h v H1 l k o n f => ?_) fun _ h => h⟩
  exact h v H1 (R.base.trans k) ⟨l, o, n, fun a ha => R.base.free (f a ha)⟩
/-! bound -/
theorem Rel.setTr {K : PySem.W.Frag} {Hin H H' : Hp} {Z : Addr → Prop} {s : Ev} {σ : L2.St} {v : V} {d : D} {l : List Addr} (R : Rel K Hin Z s σ H) (e : Same H H') (o : OT K H' v d l) (n : l.Nodup) (f : ∀ a ∈ l, H a = none) (j : Nat) :
    Rel K Hin (fun a => Z a ∨ a ∈ l) (st s j (.tr d)) (σ.set j (some v)) H' := by
  rw [st_eq]
  have pv : ∀ a, priv (s.set j (.tr d)) (σ.set j (some v)) a → priv s σ a := fun a ⟨i, f, h1, h2⟩ => by
    rw [List.getElem?_set] at h1 h2
    by_cases q : j = i
    · rw [if_pos q] at h1
      split at h1 <;> cases h1
    · rw [if_neg q] at h1 h2
      exact ⟨i, f, h1, h2⟩
  have g : Same (Rg Z s σ H) (Rg (fun a => Z a ∨ a ∈ l) (s.set j (.tr d)) (σ.set j (some v)) H') := hide_mono e fun a na _ q => by
    rcases q with (q | q) | q
    · exact .inl q
    · exact absurd (f a q) na
    · exact .inr (pv a q)
  have gz : ∀ a, ¬ IT H' a → Z a → Hin a = none → (Z a ∨ a ∈ l) ∧ Hin a = none := fun _ _ a b => ⟨.inl a, b⟩
  refine ⟨by simpa using R.len, R.base.trans e, fun a z => ?_, fun i f' h => ?_, fun i f' h => ?_, fun i k f1 f2 q h1 h2 h3 h4 => ?_, fun i f' h => ?_, pn_set R.pn g (fun _ _ y => nomatch y), fun i k h => ?_, ?_⟩
  · rcases z with z | z
    · exact fun q => R.zin a z (e.free q)
    · exact (o.own a z).1
  · rw [List.getElem?_set] at h
    by_cases q : j = i
    · rw [if_pos q] at h; split at h <;> cases h
    · rw [if_neg q] at h
      obtain ⟨w, h1, h2⟩ := R.sh i f' h
      exact ⟨w, by rw [List.getElem?_set, if_neg q]; exact h1, h2.mono g⟩
  · rw [List.getElem?_set] at h
    by_cases q : j = i
    · rw [if_pos q] at h; split at h <;> cases h
    · rw [if_neg q] at h
      obtain ⟨w, h1, h2, h3, h4⟩ := R.ow i f' h
      exact ⟨w, by rw [List.getElem?_set, if_neg q]; exact h1, fun z => z.elim h2 fun z => h4.there (f w z), h3, h4.mono g e⟩
  · rw [List.getElem?_set] at h1 h2 h3 h4
    by_cases q1 : j = i
    · rw [if_pos q1] at h1; split at h1 <;> cases h1
    · by_cases q2 : j = k
      · rw [if_pos q2] at h2; split at h2 <;> cases h2
      · rw [if_neg q1] at h1 h3
        rw [if_neg q2] at h2 h4
        exact R.inj i k f1 f2 q h1 h2 h3 h4
  · rw [List.getElem?_set] at h
    by_cases q : j = i
    · rw [if_pos q] at h; split at h <;> cases h
    · rw [if_neg q] at h
      obtain ⟨w, h1, h2⟩ := R.as i f' h
      exact ⟨w, by rw [List.getElem?_set, if_neg q]; exact h1, h2.mono (fun _ _ a b => ⟨.inl a, b⟩) e⟩
  · rw [List.getElem?_set] at h
    by_cases q : j = i
    · rw [if_pos q] at h; split at h <;> cases h
    · rw [if_neg q] at h
      obtain ⟨w, h1, h2⟩ := R.dl i k h
      exact ⟨w, by rw [List.getElem?_set, if_neg q]; exact h1, h2.mono (fun _ _ a b => ⟨.inl a, b⟩) e g⟩
  · obtain ⟨fp, t1, t2⟩ := R.tr
    have old : ∀ (i : Nat) (d' : D), j ≠ i → (s.set j (.tr d))[i]? = some (Sl.tr d') → s[i]? = some (.tr d') := fun i d' q h => by
      rw [List.getElem?_set, if_neg q] at h; exact h
    refine ⟨fun i => if j = i then l else fp i, fun i d' h => ?_, fun i k d1 d2 nk h1 h2 a ha hb => ?_⟩
    · by_cases q : j = i
      · subst q
        rw [List.getElem?_set, if_pos rfl] at h
        split at h
        · rename_i hl
          cases h
          refine ⟨v, by rw [List.getElem?_set, if_pos rfl, if_pos (by rw [← R.len]; exact hl)], by dsimp only; rw [if_pos rfl]; exact o, by dsimp only; rw [if_pos rfl]; exact n, fun a ha => ?_⟩
          dsimp only at ha
          rw [if_pos rfl] at ha
          exact ⟨.inr ha, R.base.free (f a ha)⟩
        · cases h
      · obtain ⟨w, w1, w2, w3, w4⟩ := t1 i d' (old i d' q h)
        refine ⟨w, by rw [List.getElem?_set, if_neg q]; exact w1, by dsimp only; rw [if_neg q]; exact w2.mono e, by dsimp only; rw [if_neg q]; exact w3, fun a ha => ?_⟩
        dsimp only at ha
        rw [if_neg q] at ha
        exact ⟨.inl (w4 a ha).1, (w4 a ha).2⟩
    · dsimp only at ha hb
      by_cases q1 : j = i
      · by_cases q2 : j = k
        · exact nk (q1.symm.trans q2)
        · rw [if_pos q1] at ha
          rw [if_neg q2] at hb
          obtain ⟨w, _, w2, _, _⟩ := t1 k d2 (old k d2 q2 h2)
          exact (w2.own a hb).1 (f a ha)
      · rw [if_neg q1] at ha
        by_cases q2 : j = k
        · rw [if_pos q2] at hb
          obtain ⟨w, _, w2, _, _⟩ := t1 i d1 (old i d1 q1 h1)
          exact (w2.own a ha).1 (f a hb)
        · rw [if_neg q2] at hb
          exact t2 i k d1 d2 nk (old i d1 q1 h1) (old k d2 q2 h2) a ha hb
@[simp] def fSetTr (j : Nat) (f : Ev → Res D) (g : Ev → Out) : Ev → Out := fun s => bndR (f (wake s)) fun d => noNx (g (st s j (.tr d)))
theorem dss_setTr (j : Nat) {y : Str} {py spos : Pos} {f : Ev → Res D} (he : DTr X ca W e f) (h2 : DSs X ca W rest g) (hN : X.N.Nodup)
    (hi : X.N[j]? = some y := by rfl) (hy : Loc X.env.scope y := by first | exact Or.inl rfl | exact Or.inr rfl) (hs : swapsWith e (some (.Name y py)) spos.line X.env = pure false := by rfl) (hf : X.fn y = true ∨ X.env.scope.names.lookup y = some .local := by first | exact .inl rfl | exact .inr rfl | assumption) :
    DSs X ca W (.Assign [.Name y py] e spos :: rest) (fSetTr j f g) := by
  refine (pss_cons (ps_set hN hi hy he hs hf) h2).imp fun Dn σ H h => ?_
  obtain ⟨Hin, Z, s, R, h⟩ := h
  simp only [fSetTr] at h
  refine ⟨Hin, _, wake s, R.wake, sat_mono (satS_bnd (Z := Z) R h) (fun d h v H1 l k1 o n f => ?_) fun _ h => h⟩
  exact ⟨Hin, _, _, R.setTr k1 o n f j, satS_grow (fun a z => .inl z) h⟩
/-- the same, a comprehension on one line -/
theorem dss_setTrLc (j : Nat) (i : Nat) {y : Str} {py spos : Pos} {x : Str} {tpos : Pos} {elt iter : Expr} {ifs : List Expr} {scope : Scope} {fi : Ev → Res (Bool × List D)} {ft : Ev → Res Bool} {fe : Ev → Res D} (hN : X.N.Nodup) (hi : DI X ca W (.Name x tpos) iter fi) (ok : blkC X.N X.env.scope scope [(x, i)] = true)
    (hg : ∀ (s : Shared) (H : Hp) (C : Addr) (cl : List (Str × Addr)) (fp : List Addr), PG (X.blk s H scope (compEnvC scope cl C X.env) fp) (.Name x tpos) (gName i)) (ht : ∀ (s : Shared) (H : Hp) (C : Addr) (cl : List (Str × Addr)) (fp : List Addr), PTs (X.blk s H scope (compEnvC scope cl C X.env) fp) ifs (tT X.K ca W0 ft))
    (he : ∀ (s : Shared) (H : Hp) (C : Addr) (cl : List (Str × Addr)) (fp : List Addr), DTr (X.blk s H scope (compEnvC scope cl C X.env) fp) ca W0 elt fe) (hsw : swapsWith (.ListComp elt [⟨.Name x tpos, iter, ifs, 0⟩] scope pos) (some (.Name y py)) spos.line X.env = pure true)
    (h2 : DSs X ca W rest g) (hy : X.N[j]? = some y := by rfl) (hyl : X.env.scope.names.lookup y = some .local := by rfl) (hc : X.calm = true := by rfl) (hs : ∀ x, foldedSetIterable iter X.env x = pure x := by intro _; rfl) :
    DSs X ca W (.Assign [.Name y py] (.ListComp elt [⟨.Name x tpos, iter, ifs, 0⟩] scope pos) spos :: rest) (fSetTr j (fLcT fi i ft fe) g) :=
  (pss_cons (ps_setLc (te := tTr X.K ca W0 fe) (own := [(x, i)]) hc hN hy hyl hsw hi (blkOk_by ok) hg ht he hs) h2).imp fun Dn σ H h => by
    obtain ⟨Hin, Z, s, R, h⟩ := h
    simp only [fSetTr] at h
    show tLc (tI X.K ca W fi) (gName i) (tT X.K ca W0 ft) (tTr X.K ca W0 fe) [i] σ H (fun v H' => tS X.K ca W g Dn (σ.set j (some v)) H')
    refine tLcT_of ⟨Hin, _, wake s, R.wake, sat_mono (satS_bnd (Z := Z) R h) (fun d h v H1 l k1 o n f => ?_) fun _ h => h⟩
    exact ⟨Hin, _, _, R.setTr k1 o n f j, satS_grow (fun a z => .inl z) h⟩
/-! looked at -/
def slp : Rv → Res Rv
  | ⟨.sh, d⟩ => if scalar d = true ∨ isIT d = true then .ok ⟨.sh, d⟩ else .stuck
  | ⟨.fr, .lst ds⟩ => if ds.all scalar = true then .ok ⟨.fr, .lst ds⟩ else .stuck
  | _ => .stuck
@[simp] theorem slp_sh {d : D} : slp ⟨.sh, d⟩ = if scalar d = true ∨ isIT d = true then .ok ⟨.sh, d⟩ else .stuck := rfl
@[simp] theorem slp_fr {ds : List D} : slp ⟨.fr, .lst ds⟩ = if ds.all scalar = true then .ok ⟨.fr, .lst ds⟩ else .stuck := rfl
@[simp] def fWk (fe : Ev → Res Rv) : Ev → Res Rv := fun s => bnd (fe (wake s)) slp
theorem de_wake (h : DE X ca W e fe) : DE X ca W e (fWk fe) := h.imp fun σ H Q ⟨Hin, Z, s, R, q⟩ => by
  simp only [fWk, sat_bnd] at q
  refine ⟨Hin, _, wake s, R.wake, sat_mono q (fun r h v H1 k q1 => ?_) fun _ h => h⟩
  obtain ⟨kd, d⟩ := r
  cases kd with
  | ow => cases d <;> exact h.elim
  | sh =>
    rw [slp_sh] at h
    split at h
    · rename_i hc
      refine (show ∀ v H', Same H H' → ResOk X.K Z s σ H H' v ⟨.sh, d⟩ → Q v H' from h) v H1 k ?_
      rcases hc with hc | hc
      · exact scalar_rp (show Rp X.K _ v d from q1) hc
      · obtain ⟨a, w, rfl, e1, e2⟩ := it_rp (show Rp X.K _ v d from q1) hc
        have e3 := hide_le _ _ e1
        rw [e2]
        exact .tup ((hide_it ⟨w, e3⟩).trans e3) RpL.ints
    · exact h.elim
  | fr =>
    cases d with
    | lst ds =>
      rw [slp_fr] at h
      split at h
      · rename_i hc
        obtain ⟨p, rfl, hp, xs, h1, h2⟩ := q1
        exact (show ∀ v H', Same H H' → ResOk X.K Z s σ H H' v ⟨.fr, .lst ds⟩ → Q v H' from h) _ H1 k ⟨p, rfl, hp, xs, h1, scalars_rp h2 hc⟩
      · exact h.elim
    | _ => exact h.elim
end
end DL
/-! Trees: changed. -/
namespace DL
open PySem PySem.Spec L2
@[simp] def noAd : Ev → Bool
  | [] => true
  | .as _ :: _ => false
  | .dl _ :: _ => false
  | _ :: r => noAd r
theorem noAd_as : ∀ {s : Ev}, noAd s = true → ∀ (i : Nat) (d : D), s[i]? ≠ some (Sl.as d)
  | [], _, i, d, h => by simp at h
  | x :: r, e, 0, d, h => by
    simp at h
    subst h
    simp at e
  | x :: r, e, i + 1, d, h => noAd_as (s := r) (by cases x <;> simp_all) i d (by simpa using h)
theorem noAd_dl : ∀ {s : Ev}, noAd s = true → ∀ (i : Nat) (k : List (List Int × List D)), s[i]? ≠ some (Sl.dl k)
  | [], _, i, d, h => by simp at h
  | x :: r, e, 0, d, h => by
    simp at h
    subst h
    simp at e
  | x :: r, e, i + 1, d, h => noAd_dl (s := r) (by cases x <;> simp_all) i d (by simpa using h)
theorem gt_tr {i : Nat} {s : Ev} {d : D} (h : gt s i = .tr d) : s[i]? = some (.tr d) := gt_eq s i _ (by simp) h
/-- an object of a tree is changed -/
theorem Rel.mutTr {K : PySem.W.Frag} {Hin H : Hp} {Z : Addr → Prop} {s : Ev} {σ : L2.St} {q : Addr} {o : HO} {v : V} (R : Rel K Hin Z s σ H) {i : Nat} {d0 d : D} (hno : noAd s = true) (h0 : s[i]? = some (.tr d0)) (hv : σ[i]? = some (some v)) (hnq : ¬ IT H q)
    (hw : ∀ l, OT K H v d0 l → l.Nodup → ∃ l', OT K (upd H q o) v d l' ∧ l'.Nodup ∧ ∀ a ∈ l', a ∈ l) (hq : Z q ∧ Hin q = none) (hq' : ∀ fp : Nat → List Addr, (∀ (i : Nat) (d : D), s[i]? = some (Sl.tr d) → ∃ v, σ[i]? = some (some v) ∧ OT K H v d (fp i) ∧ (fp i).Nodup ∧ ∀ a ∈ fp i, Z a ∧ Hin a = none) → q ∈ fp i) :
    Rel K Hin Z (st s i (.tr d)) σ (upd H q o) := by
  have pv : ∀ a, priv (st s i (.tr d)) σ a → priv s σ a := fun a ⟨j, f, h1, h2⟩ => by
    rw [st_eq, List.getElem?_set] at h1
    by_cases q : i = j
    · rw [if_pos q] at h1; split at h1 <;> cases h1
    · rw [if_neg q] at h1; exact ⟨j, f, h1, h2⟩
  have g : Same (Rg Z s σ H) (Rg Z (st s i (.tr d)) σ (upd H q o)) := hide_upd hnq (.inl hq.1) fun a y => y.imp id (pv a)
  refine ⟨by rw [st_eq]; simpa using R.len, fun a u h => ?_, fun a z => ?_, fun j e h => ?_, fun j e h => ?_, fun j k e f r h1 h2 h3 h4 => ?_, fun j e h => ?_, by rw [st_eq] at g ⊢; exact pn_set0 R.pn g (fun _ _ y => nomatch y), fun j k h => ?_, ?_⟩
  · rw [upd_ne (ne_of_none h hq.2)]; exact R.base _ _ h
  · by_cases y : a = q
    · rw [y, upd_same]; simp
    · rw [upd_ne y]; exact R.zin a z
  · rw [st_eq, List.getElem?_set] at h
    by_cases y : i = j
    · rw [if_pos y] at h; split at h <;> cases h
    · rw [if_neg y] at h
      obtain ⟨w, h1, h2⟩ := R.sh j e h
      exact ⟨w, h1, h2.mono g⟩
  · rw [st_eq, List.getElem?_set] at h
    by_cases y : i = j
    · rw [if_pos y] at h; split at h <;> cases h
    · rw [if_neg y] at h
      obtain ⟨w, h1, h2, h3, h4⟩ := R.ow j e h
      exact ⟨w, h1, h2, h3, own_upd h4 g fun z => h2 (by rw [z]; exact hq.1)⟩
  · rw [st_eq, List.getElem?_set] at h1 h2
    by_cases q1 : i = j
    · rw [if_pos q1] at h1; split at h1 <;> cases h1
    · by_cases q2 : i = k
      · rw [if_pos q2] at h2; split at h2 <;> cases h2
      · rw [if_neg q1] at h1
        rw [if_neg q2] at h2
        exact R.inj j k e f r h1 h2 h3 h4
  · rw [st_eq, List.getElem?_set] at h
    by_cases y : i = j
    · rw [if_pos y] at h; split at h <;> cases h
    · rw [if_neg y] at h
      exact absurd h (noAd_as hno j e)
  · rw [st_eq, List.getElem?_set] at h
    by_cases y : i = j
    · rw [if_pos y] at h; split at h <;> cases h
    · rw [if_neg y] at h
      exact absurd h (noAd_dl hno j k)
  · obtain ⟨fp, t1, t2⟩ := R.tr
    have qi := hq' fp t1
    have old : ∀ (j : Nat) (d' : D), i ≠ j → (st s i (.tr d))[j]? = some (Sl.tr d') → s[j]? = some (.tr d') := fun j d' q h => by
      rw [st_eq, List.getElem?_set, if_neg q] at h; exact h
    have old' : ∀ (j : Nat) (d' : D), (st s i (.tr d))[j]? = some (Sl.tr d') → ∃ d'', s[j]? = some (.tr d'') := fun j d' h => by
      by_cases y : i = j
      · subst y; exact ⟨_, h0⟩
      · exact ⟨_, old j d' y h⟩
    obtain ⟨v0, v1, v2, v3, v4⟩ := t1 i d0 h0
    rw [hv] at v1
    cases v1
    obtain ⟨l', o1, o2, o3⟩ := hw _ v2 v3
    have sub : ∀ j, ∀ a ∈ (if i = j then l' else fp j), a ∈ fp j := fun j a ha => by
      by_cases y : i = j
      · rw [if_pos y] at ha; rw [← y]; exact o3 a ha
      · rw [if_neg y] at ha; exact ha
    refine ⟨fun j => if i = j then l' else fp j, fun j d' h => ?_, fun j k d1 d2 nk h1 h2 a ha hb => ?_⟩
    · dsimp only
      by_cases y : i = j
      · subst y
        rw [st_eq, List.getElem?_set, if_pos rfl] at h
        split at h
        · cases h
          rw [if_pos rfl]
          exact ⟨v, hv, o1, o2, fun a ha => v4 a (o3 a ha)⟩
        · cases h
      · obtain ⟨w, w1, w2, w3, w4⟩ := t1 j d' (old j d' y h)
        rw [if_neg y]
        refine ⟨w, w1, w2.away (dead := [q]) (fun a o h n => by rw [upd_ne (fun z => n (by rw [z]; exact List.mem_singleton.mpr rfl))]; exact h) (fun a ha => by rw [List.mem_singleton.mp ha]; exact hnq) (fun a ha z => ?_), w3, w4⟩
        rw [List.mem_singleton.mp ha] at z
        exact t2 i j _ _ y h0 (old j d' y h) q qi z
    · obtain ⟨e1, g1⟩ := old' j d1 h1
      obtain ⟨e2, g2⟩ := old' k d2 h2
      exact t2 j k e1 e2 nk g1 g2 a (sub j a ha) (sub k a hb)
/-! where a list of a tree is changed -/
/-- the tree with the list at a path changed -/
def atP (F : List D → Option (List D)) : List Nat → D → Option D
  | [], .lst es => (F es).map .lst
  | k :: p, .lst ds => match ds[k]? with
    | some d => (atP F p d).map fun d' => .lst (ds.set k d')
    | none => none
  | k :: p, .tup ds => match ds[k]? with
    | some d => (atP F p d).map fun d' => .tup (ds.set k d')
    | none => none
  | _, _ => none
/-- what stands at a path -/
def goP : List Nat → D → Option (List D)
  | [], .lst es => some es
  | k :: p, .lst ds => match ds[k]? with
    | some d => goP p d
    | none => none
  | k :: p, .tup ds => match ds[k]? with
    | some d => goP p d
    | none => none
  | _, _ => none
/-- the value at a path -/
def valP (H : Hp) : List Nat → V → V → Prop
  | [], v, w => v = w
  | k :: p, .ref a, w => ∃ xs x, (H a = some (.lst xs) ∨ H a = some (.tup xs)) ∧ xs[k]? = some x ∧ valP H p x w
  | _ :: _, _, _ => False
theorem OT.path {K : PySem.W.Frag} {H : Hp} : ∀ (p : List Nat) {v : V} {d : D} {l : List Addr} {es : List D}, OT K H v d l → l.Nodup → goP p d = some es →
    ∃ q ys m, valP H p v (.ref q) ∧ q ∈ l ∧ H q = some (.lst ys) ∧ OTL K H ys es m ∧ (∀ a ∈ m, a ∈ l) ∧ (q ∉ m ∧ m.Nodup) ∧ ∀ (F : List D → Option (List D)) (es' : List D) (ys' : List V), F es = some es' → ∀ m' H1, Same H H1 → OTL K H1 ys' es' m' → m'.Nodup → (∀ a ∈ m', a ∈ m) → ∃ d' l', atP F p d = some d' ∧ OT K (upd H1 q (.lst ys')) v d' l' ∧ l'.Nodup ∧ ∀ a ∈ l', a ∈ l
  | [], v, d, l, es, h, n, e => by
    cases h with
    | leaf a b => cases d <;> first | (cases e; done) | cases a
    | it a => cases e
    | tup a b c => cases e
    | lst a r =>
      cases e
      rename_i q xs m
      obtain ⟨n1, n2⟩ := List.nodup_cons.mp n
      have aw : ∀ {H1 : Hp} {ys zs : List V} {fs : List D} {m' : List Addr}, Same H H1 → OTL K H1 ys fs m' → (∀ a ∈ m', a ∈ m) → OTL K (upd H1 q (.lst zs)) ys fs m' := fun {H1 ys zs fs m'} k1 r g => r.away (dead := [q]) (fun a o h n => by rw [upd_ne (fun z => n (by rw [z]; exact List.mem_singleton.mpr rfl))]; exact h) (fun b hb => by rw [List.mem_singleton.mp hb]; exact not_it (k1 _ _ a) fun _ z => nomatch z) (fun b hb z => n1 (by rw [← List.mem_singleton.mp hb]; exact g _ z))
      exact ⟨q, xs, m, rfl, List.mem_cons_self, a, r, fun a ha => List.mem_cons_of_mem _ ha, ⟨n1, n2⟩, fun F es' ys' h1 m' H1 k1 h2 h3 h4 => ⟨.lst es', q :: m', by simp [atP, h1], .lst upd_same (aw k1 h2 h4), List.nodup_cons.mpr ⟨fun z => n1 (h4 _ z), h3⟩, fun a ha => by
        rcases List.mem_cons.mp ha with rfl | ha
        · exact List.mem_cons_self
        · exact List.mem_cons_of_mem _ (h4 a ha)⟩⟩
  | k :: p, v, d, l, es, h, n, e => by
    have key : ∀ {a : Addr} {xs : List V} {ds : List D} {m : List Addr} {dk : D}, OTL K H xs ds m → m.Nodup → a ∉ m → ¬ IT H a → ds[k]? = some dk → goP p dk = some es →
        ∃ x q ys m2, xs[k]? = some x ∧ valP H p x (.ref q) ∧ q ∈ m ∧ H q = some (.lst ys) ∧ OTL K H ys es m2 ∧ (∀ a ∈ m2, a ∈ m) ∧ (q ∉ m2 ∧ m2.Nodup) ∧ ∀ (F : List D → Option (List D)) (es' : List D) (ys' : List V), F es = some es' → ∀ m' H1, Same H H1 → OTL K H1 ys' es' m' → m'.Nodup → (∀ a ∈ m', a ∈ m2) → ∃ d' m'', atP F p dk = some d' ∧ OTL K (upd H1 q (.lst ys')) xs (ds.set k d') m'' ∧ m''.Nodup ∧ ∀ a ∈ m'', a ∈ m := by
      intro a xs ds m dk r nm na nit ek eg
      obtain ⟨x, lk, pre, post, f1, f2, f3, f4⟩ := r.focus ek
      subst f3
      have nlk : lk.Nodup := (List.nodup_append.mp (List.nodup_append.mp nm).1).2.1
      obtain ⟨q, ys, m2, g1, g2, g3, g4, g5, g6, g7⟩ := OT.path p f2 nlk eg
      obtain ⟨n1, n2, n3⟩ := List.nodup_append.mp nm
      obtain ⟨n4, n5, n6⟩ := List.nodup_append.mp n1
      refine ⟨x, q, ys, m2, f1, g1, by simp [g2], g3, g4, fun a ha => by simp [g5 a ha], g6, fun F es' ys' h1 m' H1 k1 h2 h3 h4 => ?_⟩
      obtain ⟨d', lk', e1, e2, e3, e4⟩ := g7 F es' ys' h1 m' H1 k1 h2 h3 h4
      refine ⟨d', pre ++ lk' ++ post, e1, f4 _ d' lk' [q] e2 (fun a o h n => by rw [upd_ne (fun z => n (by rw [z]; exact List.mem_singleton.mpr rfl))]; exact k1 _ _ h) (fun b hb => by rw [List.mem_singleton.mp hb]; exact not_it g3 fun _ z => nomatch z) (fun b hb => ?_), ?_, fun a ha => ?_⟩
      · rw [List.mem_singleton.mp hb]
        exact ⟨fun z => n6 q z q g2 rfl, fun z => n3 q (List.mem_append_right _ g2) q z rfl⟩
      · refine List.nodup_append.mpr ⟨List.nodup_append.mpr ⟨n4, e3, fun a ha b hb => n6 a ha b (e4 b hb)⟩, n2, fun a ha b hb => ?_⟩
        rcases List.mem_append.mp ha with ha | ha
        · exact n3 a (List.mem_append_left _ ha) b hb
        · exact n3 a (List.mem_append_right _ (e4 a ha)) b hb
      · rcases List.mem_append.mp ha with ha | ha
        · rcases List.mem_append.mp ha with ha | ha
          · simp [ha]
          · simp [e4 a ha]
        · simp [ha]
    cases h with
    | leaf a b => cases d <;> first | (cases e; done) | cases a
    | it a =>
      exfalso
      rename_i a' w
      simp only [goP] at e
      cases ek : (w.map D.int)[k]? with
      | none => rw [ek] at e; cases e
      | some dk =>
        rw [ek] at e
        dsimp only at e
        rw [List.getElem?_map] at ek
        cases ew : w[k]? with
        | none => rw [ew] at ek; cases ek
        | some j =>
          rw [ew] at ek
          cases ek
          cases p <;> cases e
    | lst a r =>
      rename_i a' xs ds m
      simp only [goP] at e
      cases ek : ds[k]? with
      | none => rw [ek] at e; cases e
      | some dk =>
        rw [ek] at e
        dsimp only at e
        obtain ⟨n1, n2⟩ := List.nodup_cons.mp n
        obtain ⟨x, q, ys, m2, g0, g1, g2, g3, g4, g5, g6, g7⟩ := key r n2 n1 (not_it a fun _ z => nomatch z) ek e
        refine ⟨q, ys, m2, ⟨xs, x, .inl a, g0, g1⟩, List.mem_cons_of_mem _ g2, g3, g4, fun a ha => List.mem_cons_of_mem _ (g5 a ha), g6, fun F es' ys' h1 m' H1 k1 h2 h3 h4 => ?_⟩
        obtain ⟨d', m'', e1, e2, e3, e4⟩ := g7 F es' ys' h1 m' H1 k1 h2 h3 h4
        exact ⟨.lst (ds.set k d'), a' :: m'', by simp [atP, ek, e1], .lst (by rw [upd_ne (fun z => n1 (by rw [z]; exact g2))]; exact k1 _ _ a) e2, List.nodup_cons.mpr ⟨fun z => n1 (e4 _ z), e3⟩, fun b hb => by
          rcases List.mem_cons.mp hb with rfl | hb
          · exact List.mem_cons_self
          · exact List.mem_cons_of_mem _ (e4 b hb)⟩
    | tup a ni r =>
      rename_i a' xs ds m
      simp only [goP] at e
      cases ek : ds[k]? with
      | none => rw [ek] at e; cases e
      | some dk =>
        rw [ek] at e
        dsimp only at e
        obtain ⟨n1, n2⟩ := List.nodup_cons.mp n
        obtain ⟨x, q, ys, m2, g0, g1, g2, g3, g4, g5, g6, g7⟩ := key r n2 n1 (not_it a fun w z => by cases z; exact ni w rfl) ek e
        refine ⟨q, ys, m2, ⟨xs, x, .inr a, g0, g1⟩, List.mem_cons_of_mem _ g2, g3, g4, fun a ha => List.mem_cons_of_mem _ (g5 a ha), g6, fun F es' ys' h1 m' H1 k1 h2 h3 h4 => ?_⟩
        obtain ⟨d', m'', e1, e2, e3, e4⟩ := g7 F es' ys' h1 m' H1 k1 h2 h3 h4
        exact ⟨.tup (ds.set k d'), a' :: m'', by simp [atP, ek, e1], .tup (by rw [upd_ne (fun z => n1 (by rw [z]; exact g2))]; exact k1 _ _ a) ni e2, List.nodup_cons.mpr ⟨fun z => n1 (e4 _ z), e3⟩, fun b hb => by
          rcases List.mem_cons.mp hb with rfl | hb
          · exact List.mem_cons_self
          · exact List.mem_cons_of_mem _ (e4 b hb)⟩
end DL
/-! Statements that change trees. -/
namespace DL
open PySem PySem.Spec L2
theorem valP_mono {H H1 : Hp} (e : Same H H1) : ∀ (p : List Nat) {v w : V}, valP H p v w → valP H1 p v w
  | [], _, _, h => h
  | k :: p, .ref a, w, ⟨xs, x, h1, h2, h3⟩ => ⟨xs, x, h1.imp (e _ _) (e _ _), h2, valP_mono e p h3⟩
  | k :: p, .non, w, h => h.elim
  | k :: p, .bl _, w, h => h.elim
  | k :: p, .int _, w, h => h.elim
  | k :: p, .str _, w, h => h.elim
  | k :: p, .byt _, w, h => h.elim
  | k :: p, .flt _, w, h => h.elim
  | k :: p, .ty _, w, h => h.elim
theorem valP_fun {H : Hp} : ∀ (p : List Nat) {v w w' : V}, valP H p v w → valP H p v w' → w = w'
  | [], _, _, _, h, h' => h.symm.trans h'
  | k :: p, .ref a, w, w', ⟨xs, x, h1, h2, h3⟩, ⟨ys, y, g1, g2, g3⟩ => by
    have e : xs = ys := by
      rcases h1 with h1 | h1 <;> rcases g1 with g1 | g1 <;> rw [h1] at g1 <;> cases g1 <;> rfl
    subst e
    rw [h2] at g2
    cases g2
    exact valP_fun p h3 g3
  | k :: p, .non, _, _, h, _ => h.elim
  | k :: p, .bl _, _, _, h, _ => h.elim
  | k :: p, .int _, _, _, h, _ => h.elim
  | k :: p, .str _, _, _, h, _ => h.elim
  | k :: p, .byt _, _, _, h, _ => h.elim
  | k :: p, .flt _, _, _, h, _ => h.elim
  | k :: p, .ty _, _, _, h, _ => h.elim
section
variable {K : PySem.W.Frag} {Hin H : Hp} {Z : Addr → Prop} {s : Ev} {σ : L2.St}
theorem tr_change (R : Rel K Hin Z s σ H) {i : Nat} {d : D} {es : List D} {p : List Nat} (h0 : s[i]? = some (.tr d)) (hg : goP p d = some es) (hno : noAd s = true) :
    ∃ v q ys, σ[i]? = some (some v) ∧ valP H p v (.ref q) ∧ H q = some (.lst ys) ∧ ys.length = es.length ∧ (Z q ∧ Hin q = none) ∧ RpL K H ys es ∧ ∀ H1 (F : List D → Option (List D)) es' ys', Same H H1 → F es = some es' → (∀ m, OTL K H1 ys es m → m.Nodup → ∃ m', OTL K H1 ys' es' m' ∧ m'.Nodup ∧ ∀ a ∈ m', a ∈ m) → ∃ d', atP F p d = some d' ∧ Rel K Hin Z (st s i (.tr d')) σ (upd H1 q (.lst ys')) := by
  obtain ⟨fp, t1, t2⟩ := id R.tr
  obtain ⟨v, v1, v2, v3, v4⟩ := t1 i d h0
  obtain ⟨q, ys, m, p1, p2, p3, p4, p5, p6, p7⟩ := v2.path p v3 hg
  refine ⟨v, q, ys, v1, p1, p3, p4.length, v4 q p2, p4.rp (fun _ _ => rfl) (fun _ _ => rfl), fun H1 F es' ys' k1 hF hm => ?_⟩
  have key : ∀ l, OT K H1 v d l → l.Nodup → q ∈ l ∧ ∃ d' l', atP F p d = some d' ∧ OT K (upd H1 q (.lst ys')) v d' l' ∧ l'.Nodup ∧ ∀ a ∈ l', a ∈ l := fun l o n => by
    obtain ⟨q', ys2, m2, r1, r2, r3, r4, r5, r6, r7⟩ := o.path p n hg
    have e := valP_fun p r1 (valP_mono k1 p p1)
    cases e
    have e2 := k1 _ _ p3
    rw [r3] at e2
    cases e2
    obtain ⟨m', g1, g2, g3⟩ := hm m2 r4 r6.2
    exact ⟨r2, r7 F es' ys' hF m' H1 (Same.refl _) g1 g2 g3⟩
  obtain ⟨_, d', l', e1, e2, e3, e4⟩ := key (fp i) (v2.mono k1) v3
  refine ⟨d', e1, (R.mono k1).mutTr hno h0 v1 (not_it (k1 _ _ p3) fun _ z => nomatch z) (fun l o n => ?_) (v4 q p2) fun fp' t' => ?_⟩
  · obtain ⟨_, d2, l2, g1, g2, g3, g4⟩ := key l o n
    rw [e1] at g1
    cases g1
    exact ⟨l2, g2, g3, g4⟩
  · obtain ⟨w, w1, w2, w3, w4⟩ := t' i d h0
    rw [v1] at w1
    cases w1
    exact (key _ w2 w3).1
theorem dull_scalar (d : D) : scalar (dull d) = true := by
  unfold dull
  split
  · assumption
  · rfl
theorem tr_app (R : Rel K Hin Z s σ H) {i : Nat} {d : D} {es : List D} {p : List Nat} (h0 : s[i]? = some (.tr d)) (hg : goP p d = some es) (hno : noAd s = true) :
    ∃ v q ys, σ[i]? = some (some v) ∧ valP H p v (.ref q) ∧ H q = some (.lst ys) ∧ ys.length = es.length ∧ ∀ H1 R0 w dw, Same H H1 → Rp K R0 w dw → ∃ d', atP (fun es => some (es ++ [dull dw])) p d = some d' ∧ Rel K Hin Z (st s i (.tr d')) σ (upd H1 q (.lst (ys ++ [w]))) := by
  obtain ⟨v, q, ys, h1, h2, h3, h4, h5, _, h6⟩ := tr_change R h0 hg hno
  refine ⟨v, q, ys, h1, h2, h3, h4, fun H1 R0 w dw k1 hw => h6 H1 _ _ _ k1 rfl fun m o n => ⟨m ++ [], o.app (.one (ot_scalar (dull_rp (R' := R0) hw) (dull_scalar dw))), by rw [List.append_nil]; exact n, fun a ha => by rw [List.append_nil] at ha; exact ha⟩⟩
theorem tr_clr (R : Rel K Hin Z s σ H) {i : Nat} {d : D} {es : List D} {p : List Nat} (h0 : s[i]? = some (.tr d)) (hg : goP p d = some es) (hno : noAd s = true) :
    ∃ v q ys, σ[i]? = some (some v) ∧ valP H p v (.ref q) ∧ H q = some (.lst ys) ∧ ∃ d', atP (fun _ => some []) p d = some d' ∧ Rel K Hin Z (st s i (.tr d')) σ (upd H q (.lst [])) := by
  obtain ⟨v, q, ys, h1, h2, h3, h4, h5, _, h6⟩ := tr_change R h0 hg hno
  exact ⟨v, q, ys, h1, h2, h3, h6 H _ _ _ (Same.refl _) rfl fun m o n => ⟨[], .nil, List.nodup_nil, by simp⟩⟩
end
section
variable {X : Cx} {ca : Nat → Addr} {W : WX} {a b c e : Expr} {es : List Expr} {fa fe : Ev → Res Rv} {pos : Pos} {rest : List Stmt} {g : Ev → Out}
/-- x .. .append(e), x a tree -/
@[simp] def fAppP (i : Nat) (p : List Nat) (fe : Ev → Res Rv) : Ev → Out := fun s => match gt s i with
  | .tr d => match goP p d with
    | some es => if noAd s = true then bndR (fe s) fun r => if es.length < lim then (match atP (fun es => some (es ++ [dull r.d])) p d with
      | some d' => .nx (st s i (.tr d'))
      | none => .stuck) else .stuck else .stuck
    | none => .stuck
  | _ => .stuck
/-- x .. .clear(), x a tree -/
@[simp] def fClrP (i : Nat) (p : List Nat) : Ev → Out := fun s => match gt s i with
  | .tr d => if noAd s = true then (match atP (fun _ => some []) p d with
      | some d' => .nx (st s i (.tr d'))
      | none => .stuck) else .stuck
  | _ => .stuck
/-- what an append asks for -/
theorem app_go {K : PySem.W.Frag} {Hin H : Hp} {Z : Addr → Prop} {s : Ev} {σ : L2.St} {Dn : Ends} {fe : Ev → Res Rv} {i : Nat} {p : List Nat} (R : Rel K Hin Z s σ H) (h : SatS K ca W Hin Z Dn (fAppP i p fe s)) :
    ∃ v q ys, σ[i]? = some (some v) ∧ valP H p v (.ref q) ∧ H q = some (.lst ys) ∧ tA K ca W (fCons fe (fun _ => .ok [])) σ H fun vs H1 => rAppend (.ref q) vs H1 fun _ H2 => Dn.nx σ H2 := by
  simp only [fAppP] at h
  cases eg : gt s i with
  | tr d =>
    rw [eg] at h
    dsimp only at h
    have h0 := gt_tr eg
    cases ep : goP p d with
    | none => rw [ep] at h; exact h.elim
    | some es =>
      rw [ep] at h
      dsimp only at h
      split at h
      · rename_i hno
        obtain ⟨v, q, ys, h1, h2, h3, h4, h5⟩ := tr_app R h0 ep hno
        refine ⟨v, q, ys, h1, h2, h3, Hin, Z, s, R, ?_⟩
        cases ef : fe s with
        | stuck => rw [ef] at h; exact h.elim
        | exc c => rw [ef] at h; simp only [fCons, ef]; exact fun H' k => h σ H' (R.base.trans k)
        | ok r =>
          rw [ef] at h
          simp only [fCons, ef]
          intro vs H1 k1 q1
          simp only [bndR] at h
          split at h
          · rename_i hc
            obtain ⟨w, rfl, q2⟩ := ResA.one q1
            obtain ⟨d', e1, R'⟩ := h5 H1 _ w r.d k1 q2.full
            rw [e1] at h
            exact ⟨q, ys, w, rfl, rfl, k1 _ _ h3, by rw [h4]; exact lt_line hc, h σ _ R'⟩
          · exact h.elim
      · exact h.elim
  | _ => rw [eg] at h; exact h.elim
theorem ds_appP0 (i : Nat) {x : Str} {fe : Ev → Res Rv} {p1 apos cpos spos : Pos} (he : DE X ca W e fe) (pa : PlainAttrs "list") (slot : Slot "list" "append" "list.append") (hty : typeOf (.builtin "list.append") = pure (.type "method_descriptor"))
    (hN : X.N[i]? = some x := by rfl) (hv : Vis X.env.scope x := by first | exact Or.inl rfl | exact Or.inr (Or.inl rfl) | exact Or.inr (Or.inr rfl)) (hd : (x == ("__debug__" : Str)) = false := by decide) (hcd : (x == ("__classdict__" : Str)) = false := by decide)
    (hbase : attributeBase (.Name x p1) "append" X.env (eval (.Name x p1) X.env) = eval (.Name x p1) X.env := by rfl)
    (hfew : ((backTo cpos (starEach [e] X.env)).all (fun x => !x.1) && (backToKw cpos (keywordEach [] X.env)).all (fun x => x.1.isSome)
      && decide (([e] : List Expr).length + ([] : List Keyword).length + (if ([] : List Keyword).isEmpty then 0 else 1) < 30)) = true := by rfl)
    (hline : (apos.endLine == cpos.line) = true := by rfl) (hst : starEach [e] X.env = (false, eval e X.env) :: starEach [] X.env := by rfl) (hplain : (backTo cpos (starEach [] X.env)).any (·.1) = false := by rfl)
    (hs : swapsWith (.Call (.Attribute (.Name x p1) "append" apos) [e] [] cpos) none spos.line X.env = pure false := by rfl) : DS X ca W (.Expr (.Call (.Attribute (.Name x p1) "append" apos) [e] [] cpos) spos) (fAppP i [] fe) :=
  (ps_expr (pe_bm pa slot hty md_append.1 (pe_var hN hv hd hcd) (da_cons he da_nil hst) hbase hfew hline hst hplain) hs).imp fun Dn σ H ⟨Hin, Z, s, R, h⟩ => by
    obtain ⟨v, q, ys, h1, h2, h3, h4⟩ := app_go R h
    cases h2
    exact ⟨.ref q, h1, .inl ⟨rfl, ys, SqL.of h3⟩, h4⟩
theorem ix_go {K : PySem.W.Frag} {H : Hp} {k : Nat} {v x : V} {Q : V → Hp → Prop} {a : Addr} {xs : List V} (h : H a = some (.lst xs) ∨ H a = some (.tup xs)) (hx : xs[k]? = some x) (q : Q x H) : rIx K (.ref a) (.int (k : Int)) H Q := by
  rcases h with h | h
  · exact .inl ⟨a, xs, k, x, rfl, rfl, SqL.of h, atI_nat hx, q⟩
  · exact .inr (.inl ⟨a, xs, k, x, rfl, rfl, SqT.of h, atI_nat hx, q⟩)
theorem ds_appP1 (i k : Nat) {x : Str} {fe : Ev → Res Rv} {p1 p2 p3 apos cpos spos : Pos} {jk : Nat} (he : DE X ca W e fe) (pa : PlainAttrs "list") (slot : Slot "list" "append" "list.append") (hty : typeOf (.builtin "list.append") = pure (.type "method_descriptor"))
    (hN : X.N[i]? = some x := by rfl) (hv : Vis X.env.scope x := by first | exact Or.inl rfl | exact Or.inr (Or.inl rfl) | exact Or.inr (Or.inr rfl)) (hd : (x == ("__debug__" : Str)) = false := by decide) (hcd : (x == ("__classdict__" : Str)) = false := by decide)
    (hbase : attributeBase (.Subscript (.Name x p1) (.Constant (.int (k : Int)) jk p2) p3) "append" X.env (eval (.Subscript (.Name x p1) (.Constant (.int (k : Int)) jk p2) p3) X.env) = eval (.Subscript (.Name x p1) (.Constant (.int (k : Int)) jk p2) p3) X.env := by rfl)
    (hix : PlainIx (.Constant (.int (k : Int)) jk p2) := by intro _ _; rfl)
    (hfew : ((backTo cpos (starEach [e] X.env)).all (fun x => !x.1) && (backToKw cpos (keywordEach [] X.env)).all (fun x => x.1.isSome)
      && decide (([e] : List Expr).length + ([] : List Keyword).length + (if ([] : List Keyword).isEmpty then 0 else 1) < 30)) = true := by rfl)
    (hline : (apos.endLine == cpos.line) = true := by rfl) (hst : starEach [e] X.env = (false, eval e X.env) :: starEach [] X.env := by rfl) (hplain : (backTo cpos (starEach [] X.env)).any (·.1) = false := by rfl)
    (hs : swapsWith (.Call (.Attribute (.Subscript (.Name x p1) (.Constant (.int (k : Int)) jk p2) p3) "append" apos) [e] [] cpos) none spos.line X.env = pure false := by rfl) : DS X ca W (.Expr (.Call (.Attribute (.Subscript (.Name x p1) (.Constant (.int (k : Int)) jk p2) p3) "append" apos) [e] [] cpos) spos) (fAppP i [k] fe) :=
  (ps_expr (pe_bm pa slot hty md_append.1 (pe_ix od_ix.1 (pe_var hN hv hd hcd) pe_int hix) (da_cons he da_nil hst) hbase hfew hline hst hplain) hs).imp fun Dn σ H ⟨Hin, Z, s, R, h⟩ => by
    obtain ⟨v, q, ys, h1, h2, h3, h4⟩ := app_go R h
    cases v with
    | ref a =>
      obtain ⟨xs, y, g1, g2, g3⟩ := h2
      cases g3
      exact ⟨.ref a, h1, ix_go (v := .ref a) g1 g2 ⟨.inl ⟨rfl, ys, SqL.of h3⟩, h4⟩⟩
    | _ => exact h2.elim
theorem ds_appP2 (i k m : Nat) {x : Str} {fe : Ev → Res Rv} {p1 p2 p3 p4 p5 apos cpos spos : Pos} {jk jm : Nat} (he : DE X ca W e fe) (pa : PlainAttrs "list") (slot : Slot "list" "append" "list.append") (hty : typeOf (.builtin "list.append") = pure (.type "method_descriptor"))
    (hN : X.N[i]? = some x := by rfl) (hv : Vis X.env.scope x := by first | exact Or.inl rfl | exact Or.inr (Or.inl rfl) | exact Or.inr (Or.inr rfl)) (hd : (x == ("__debug__" : Str)) = false := by decide) (hcd : (x == ("__classdict__" : Str)) = false := by decide)
    (hbase : attributeBase (.Subscript (.Subscript (.Name x p1) (.Constant (.int (k : Int)) jk p2) p3) (.Constant (.int (m : Int)) jm p4) p5) "append" X.env (eval (.Subscript (.Subscript (.Name x p1) (.Constant (.int (k : Int)) jk p2) p3) (.Constant (.int (m : Int)) jm p4) p5) X.env) = eval (.Subscript (.Subscript (.Name x p1) (.Constant (.int (k : Int)) jk p2) p3) (.Constant (.int (m : Int)) jm p4) p5) X.env := by rfl)
    (hix : PlainIx (.Constant (.int (k : Int)) jk p2) := by intro _ _; rfl) (hix2 : PlainIx (.Constant (.int (m : Int)) jm p4) := by intro _ _; rfl)
    (hfew : ((backTo cpos (starEach [e] X.env)).all (fun x => !x.1) && (backToKw cpos (keywordEach [] X.env)).all (fun x => x.1.isSome)
      && decide (([e] : List Expr).length + ([] : List Keyword).length + (if ([] : List Keyword).isEmpty then 0 else 1) < 30)) = true := by rfl)
    (hline : (apos.endLine == cpos.line) = true := by rfl) (hst : starEach [e] X.env = (false, eval e X.env) :: starEach [] X.env := by rfl) (hplain : (backTo cpos (starEach [] X.env)).any (·.1) = false := by rfl)
    (hs : swapsWith (.Call (.Attribute (.Subscript (.Subscript (.Name x p1) (.Constant (.int (k : Int)) jk p2) p3) (.Constant (.int (m : Int)) jm p4) p5) "append" apos) [e] [] cpos) none spos.line X.env = pure false := by rfl) : DS X ca W (.Expr (.Call (.Attribute (.Subscript (.Subscript (.Name x p1) (.Constant (.int (k : Int)) jk p2) p3) (.Constant (.int (m : Int)) jm p4) p5) "append" apos) [e] [] cpos) spos) (fAppP i [k, m] fe) :=
  (ps_expr (pe_bm pa slot hty md_append.1 (pe_ix od_ix.1 (pe_ix od_ix.1 (pe_var hN hv hd hcd) pe_int hix) pe_int hix2) (da_cons he da_nil hst) hbase hfew hline hst hplain) hs).imp fun Dn σ H ⟨Hin, Z, s, R, h⟩ => by
    obtain ⟨v, q, ys, h1, h2, h3, h4⟩ := app_go R h
    cases v with
    | ref a =>
      obtain ⟨xs, y, g1, g2, g3⟩ := h2
      cases y with
      | ref b =>
        obtain ⟨zs, z, f1, f2, f3⟩ := g3
        cases f3
        exact ⟨.ref a, h1, ix_go (v := .ref a) g1 g2 (ix_go (v := .ref b) f1 f2 ⟨.inl ⟨rfl, ys, SqL.of h3⟩, h4⟩)⟩
      | _ => exact g3.elim
    | _ => exact h2.elim
theorem clr_go {K : PySem.W.Frag} {Hin H : Hp} {Z : Addr → Prop} {s : Ev} {σ : L2.St} {Dn : Ends} {i : Nat} {p : List Nat} (R : Rel K Hin Z s σ H) (h : SatS K ca W Hin Z Dn (fClrP i p s)) :
    ∃ v q ys, σ[i]? = some (some v) ∧ valP H p v (.ref q) ∧ H q = some (.lst ys) ∧ rClear (.ref q) [] H fun _ H2 => Dn.nx σ H2 := by
  simp only [fClrP] at h
  cases eg : gt s i with
  | tr d =>
    rw [eg] at h
    dsimp only at h
    have h0 := gt_tr eg
    split at h
    · rename_i hno
      have hg : ∃ es, goP p d = some es := by
        have go : ∀ (p : List Nat) (d : D) (d' : D), atP (fun _ => some []) p d = some d' → ∃ es, goP p d = some es := by
          intro p
          induction p with
          | nil =>
            intro d d' h
            cases d <;> first | exact ⟨_, rfl⟩ | simp [atP] at h
          | cons k p ih =>
            intro d d' h
            cases d with
            | lst ds =>
              simp only [atP] at h
              cases ek : ds[k]? with
              | none => rw [ek] at h; cases h
              | some dk =>
                rw [ek] at h
                simp only [Option.map_eq_some_iff] at h
                obtain ⟨d2, h2, _⟩ := h
                obtain ⟨es, he⟩ := ih dk d2 h2
                exact ⟨es, by simp only [goP, ek]; exact he⟩
            | tup ds =>
              simp only [atP] at h
              cases ek : ds[k]? with
              | none => rw [ek] at h; cases h
              | some dk =>
                rw [ek] at h
                simp only [Option.map_eq_some_iff] at h
                obtain ⟨d2, h2, _⟩ := h
                obtain ⟨es, he⟩ := ih dk d2 h2
                exact ⟨es, by simp only [goP, ek]; exact he⟩
            | _ => simp [atP] at h
        cases e : atP (fun _ => some []) p d with
        | none => rw [e] at h; exact h.elim
        | some d' => exact go p d d' e
      obtain ⟨es, ep⟩ := hg
      obtain ⟨v, q, ys, h1, h2, h3, d', e1, R'⟩ := tr_clr R h0 ep hno
      rw [e1] at h
      exact ⟨v, q, ys, h1, h2, h3, q, ys, rfl, rfl, h3, h σ _ R'⟩
    · exact h.elim
  | _ => rw [eg] at h; exact h.elim
theorem ds_clrP0 (i : Nat) {x : Str} {p1 apos cpos spos : Pos} (pa : PlainAttrs "list") (slot : Slot "list" "clear" "list.clear") (hty : typeOf (.builtin "list.clear") = pure (.type "method_descriptor"))
    (hN : X.N[i]? = some x := by rfl) (hv : Vis X.env.scope x := by first | exact Or.inl rfl | exact Or.inr (Or.inl rfl) | exact Or.inr (Or.inr rfl)) (hd : (x == ("__debug__" : Str)) = false := by decide) (hcd : (x == ("__classdict__" : Str)) = false := by decide)
    (hbase : attributeBase (.Name x p1) "clear" X.env (eval (.Name x p1) X.env) = eval (.Name x p1) X.env := by rfl) (hline : (apos.endLine == cpos.line) = true := by rfl)
    (hs : swapsWith (.Call (.Attribute (.Name x p1) "clear" apos) [] [] cpos) none spos.line X.env = pure false := by rfl) : DS X ca W (.Expr (.Call (.Attribute (.Name x p1) "clear" apos) [] [] cpos) spos) (fClrP i []) :=
  (ps_expr (pe_bm0 pa slot hty md_clear.1 (pe_var hN hv hd hcd) hbase hline) hs).imp fun Dn σ H ⟨Hin, Z, s, R, h⟩ => by
    obtain ⟨v, q, ys, h1, h2, h3, h4⟩ := clr_go R h
    cases h2
    exact ⟨.ref q, h1, .inl ⟨rfl, ys, SqL.of h3⟩, h4⟩
theorem ds_clrP1 (i k : Nat) {x : Str} {p1 p2 p3 apos cpos spos : Pos} {jk : Nat} (pa : PlainAttrs "list") (slot : Slot "list" "clear" "list.clear") (hty : typeOf (.builtin "list.clear") = pure (.type "method_descriptor"))
    (hN : X.N[i]? = some x := by rfl) (hv : Vis X.env.scope x := by first | exact Or.inl rfl | exact Or.inr (Or.inl rfl) | exact Or.inr (Or.inr rfl)) (hd : (x == ("__debug__" : Str)) = false := by decide) (hcd : (x == ("__classdict__" : Str)) = false := by decide)
    (hbase : attributeBase (.Subscript (.Name x p1) (.Constant (.int (k : Int)) jk p2) p3) "clear" X.env (eval (.Subscript (.Name x p1) (.Constant (.int (k : Int)) jk p2) p3) X.env) = eval (.Subscript (.Name x p1) (.Constant (.int (k : Int)) jk p2) p3) X.env := by rfl)
    (hix : PlainIx (.Constant (.int (k : Int)) jk p2) := by intro _ _; rfl)
    (hline : (apos.endLine == cpos.line) = true := by rfl)
    (hs : swapsWith (.Call (.Attribute (.Subscript (.Name x p1) (.Constant (.int (k : Int)) jk p2) p3) "clear" apos) [] [] cpos) none spos.line X.env = pure false := by rfl) : DS X ca W (.Expr (.Call (.Attribute (.Subscript (.Name x p1) (.Constant (.int (k : Int)) jk p2) p3) "clear" apos) [] [] cpos) spos) (fClrP i [k]) :=
  (ps_expr (pe_bm0 pa slot hty md_clear.1 (pe_ix od_ix.1 (pe_var hN hv hd hcd) pe_int hix) hbase hline) hs).imp fun Dn σ H ⟨Hin, Z, s, R, h⟩ => by
    obtain ⟨v, q, ys, h1, h2, h3, h4⟩ := clr_go R h
    cases v with
    | ref a =>
      obtain ⟨xs, y, g1, g2, g3⟩ := h2
      cases g3
      exact ⟨.ref a, h1, ix_go (v := .ref a) g1 g2 ⟨.inl ⟨rfl, ys, SqL.of h3⟩, h4⟩⟩
    | _ => exact h2.elim
end
end DL
/-! Loops that change the lists of a tree. -/
namespace DL
open PySem PySem.Spec L2
theorem noAd_st : ∀ {s : Ev} {i : Nat} {x : Sl}, noAd s = true → (∀ d, x ≠ .as d) → (∀ k, x ≠ .dl k) → noAd (st s i x) = true
  | [], _, _, _, _, _ => rfl
  | y :: r, 0, x, h, h1, h2 => by
    have hr : noAd r = true := by cases y <;> first | exact h | cases h
    cases x <;> first | exact hr | exact absurd rfl (h1 _) | exact absurd rfl (h2 _)
  | y :: r, i + 1, x, h, h1, h2 => by
    have hr : noAd r = true := by cases y <;> first | exact h | cases h
    have ih := noAd_st (i := i) hr h1 h2
    cases y <;> first | exact ih | cases h
/-- a list with an int more -/
def addC (c : Int) : D → D
  | .lst es => .lst (es ++ [.int c])
  | d => d
def okC : D → Bool
  | .lst es => decide (es.length < lim)
  | .tup _ => true
  | _ => false
def stg (c : Int) (k : Nat) (ds : List D) : List D := (ds.take k).map (addC c) ++ ds.drop k
theorem stg_get {c : Int} {k : Nat} {ds : List D} {d : D} (h : ds[k]? = some d) : (stg c k ds)[k]? = some d := by
  have hl := (List.getElem?_eq_some_iff.mp h).1
  unfold stg
  rw [List.getElem?_append_right (by simp; omega)]
  simp [List.length_take, Nat.min_eq_left (Nat.le_of_lt hl), h]
theorem stg_set {c : Int} {k : Nat} {ds : List D} {d : D} (h : ds[k]? = some d) : (stg c k ds).set k (addC c d) = stg c (k + 1) ds := by
  have hl := (List.getElem?_eq_some_iff.mp h).1
  have e1 : ds.drop k = d :: ds.drop (k + 1) := by
    rw [List.drop_eq_getElem_cons hl]
    rw [List.getElem?_eq_getElem hl] at h
    rw [Option.some.inj h]
  have e2 : (stg c (k + 1) ds) = ((ds.take k).map (addC c) ++ [addC c d]) ++ ds.drop (k + 1) := by
    unfold stg
    rw [List.take_add_one, h]
    simp
  rw [e2]
  unfold stg
  rw [List.set_append_right _ _ (by simp; omega), e1]
  simp [List.length_take, Nat.min_eq_left (Nat.le_of_lt hl)]
theorem stg_same {c : Int} {k : Nat} {ds : List D} {d : D} (h : ds[k]? = some d) (e : addC c d = d) : stg c (k + 1) ds = stg c k ds := by
  rw [← stg_set h, e]
  refine List.ext_getElem? fun n => ?_
  rw [List.getElem?_set]
  by_cases z : k = n
  · subst z
    rw [if_pos rfl, stg_get h]
    have := (List.getElem?_eq_some_iff.mp (stg_get (c := c) h)).1
    rw [if_pos this]
  · rw [if_neg z]
theorem gt_st : ∀ {s : Ev} {j : Nat} {x : Sl}, j < s.length → gt (st s j x) j = x
  | [], _, _, h => by simp at h
  | _ :: _, 0, _, _ => rfl
  | _ :: r, j + 1, x, h => gt_st (s := r) (j := j) (by simpa using h)
theorem stg_zero {c : Int} {ds : List D} : stg c 0 ds = ds := rfl
theorem stg_all {c : Int} {ds : List D} : stg c ds.length ds = ds.map (addC c) := by simp [stg]
section
variable {K : PySem.W.Frag} {Hin H : Hp} {Z : Addr → Prop} {s : Ev} {σ : L2.St}
theorem tr_list (R : Rel K Hin Z s σ H) {i : Nat} {ds : List D} (h : s[i]? = some (.tr (.lst ds))) : ∃ a xs, σ[i]? = some (some (.ref a)) ∧ H a = some (.lst xs) ∧ xs.length = ds.length := by
  obtain ⟨fp, t1, _⟩ := R.tr
  obtain ⟨v, h1, h2, _, _⟩ := t1 i _ h
  generalize fp i = l at h2
  cases h2 with
  | leaf a b => cases a
  | lst a r => exact ⟨_, _, h1, a, r.length⟩
/-- the state of a turn -/
theorem for_turn {i j : Nat} {c : Int} {k : Nat} {ds : List D} {d : D} {a : Addr} {xs : List V} {x : V} (hij : i ≠ j) (hi : i < s.length) (hj : j < s.length) (hno : noAd s = true) (R : Rel K Hin Z (st (st s j .un) i (.tr (.lst (stg c k ds)))) σ H) (hp : σ[i]? = some (some (.ref a))) (hH : H a = some (.lst xs)) (hx : xs[k]? = some x) (hd : ds[k]? = some d) :
    Rel K Hin Z (st (st (st s j .un) i (.tr (.lst (stg c k ds)))) j (.sh .any)) (σ.set j (some x)) H ∧
    (∀ es, d = .lst es → ∃ q ys, x = .ref q ∧ H q = some (.lst ys) ∧ ys.length = es.length ∧ ∀ H1, Same H H1 → Rel K Hin Z (st (st s j .un) i (.tr (.lst (stg c (k + 1) ds)))) (σ.set j (some x)) (upd H1 q (.lst (ys ++ [.int c]))) ∧ (upd H1 q (.lst (ys ++ [.int c]))) a = some (.lst xs)) ∧
    (∀ H1, Same H H1 → addC c d = d → Rel K Hin Z (st (st s j .un) i (.tr (.lst (stg c (k + 1) ds)))) (σ.set j (some x)) H1) := by
  have hl : ∀ y, (st (st s j .un) i y).length = s.length := fun y => by simp only [st_eq, List.length_set]
  have R1 := R.setSh (Rp.any x) j
  have ej : ∀ y, st (st (st (st s j .un) i y) j (.sh .any)) j .un = st (st s j .un) i y := fun y => by
    simp only [st_eq, List.set_set]
    rw [List.set_comm _ _ hij, List.set_set]
  have ei : ∀ y z, st (st (st (st s j .un) i y) j (.sh .any)) i z = st (st (st s j .un) i z) j (.sh .any) := fun y z => by
    simp only [st_eq]
    rw [List.set_comm _ _ (Ne.symm hij), List.set_set]
  have s1i : (st (st (st s j .un) i (.tr (.lst (stg c k ds)))) j (.sh .any))[i]? = some (.tr (.lst (stg c k ds))) := by
    simp only [st_eq, List.getElem?_set, if_neg (Ne.symm hij), List.length_set, if_pos hi, if_true]
  have no1 : noAd (st (st (st s j .un) i (.tr (.lst (stg c k ds)))) j (.sh .any)) = true := noAd_st (noAd_st (noAd_st hno (fun _ z => nomatch z) fun _ z => nomatch z) (fun _ z => nomatch z) fun _ z => nomatch z) (fun _ z => nomatch z) fun _ z => nomatch z
  refine ⟨R1, fun es ed => ?_, fun H1 k1 e => ?_⟩
  · subst ed
    have hg : goP [k] (.lst (stg c k ds)) = some es := by simp only [goP, stg_get hd]
    obtain ⟨v, q, ys, h1, h2, h3, h4, h5⟩ := tr_app R1 s1i hg no1
    rw [List.getElem?_set, if_neg (Ne.symm hij), hp] at h1
    cases h1
    obtain ⟨xs', x', g1, g2, g3⟩ := h2
    rcases g1 with g1 | g1
    · rw [hH] at g1
      cases g1
      rw [hx] at g2
      cases g2
      cases g3
      refine ⟨q, ys, rfl, h3, h4, fun H1 k1 => ?_⟩
      obtain ⟨d', e1, R'⟩ := h5 H1 (fun _ => none) (.int c) (.int c) k1 (.int c)
      have e2 : d' = .lst (stg c (k + 1) ds) := by
        simp only [atP, stg_get hd, Option.map_some] at e1
        rw [← Option.some.inj e1]
        show D.lst ((stg c k ds).set k (addC c (.lst es))) = _
        rw [stg_set hd]
      subst e2
      rw [ei] at R'
      have R2 := R'.drop (j := j) (okW_sh (by rw [hl]; exact hj))
      rw [ej] at R2
      refine ⟨R2, ?_⟩
      have ti : (st (st s j .un) i (.tr (.lst (stg c (k + 1) ds))))[i]? = some (.tr (.lst (stg c (k + 1) ds))) := by
        simp only [st_eq, List.getElem?_set, List.length_set, if_pos hi, if_true]
      have na : a ≠ q := by
        -- the list itself is not one of its own
        intro z
        subst z
        obtain ⟨fp, t1, _⟩ := R1.tr
        obtain ⟨v, w1, w2, w3, _⟩ := t1 i _ s1i
        rw [List.getElem?_set, if_neg (Ne.symm hij), hp] at w1
        cases w1
        generalize fp i = l at w2 w3
        cases w2 with
        | leaf b _ => cases b
        | lst b r =>
          rw [hH] at b
          cases b
          obtain ⟨y, lk, f1, f2, f3⟩ := r.at (stg_get hd)
          rw [hx] at f1
          cases f1
          cases f2 with
          | leaf b _ => cases b
          | lst b r2 => exact (List.nodup_cons.mp w3).1 (f3.subset List.mem_cons_self)
      rw [upd_ne na]
      exact k1 _ _ hH
    · rw [hH] at g1; cases g1
  · have R2 := (R1.mono k1).drop (j := j) (okW_sh (by rw [hl]; exact hj))
    rw [ej] at R2
    rw [stg_same hd e]
    exact R2
end
section
variable {X : Cx} {ca : Nat → Addr} {W : WX} {a b c e : Expr} {es : List Expr} {fa fe : Ev → Res Rv} {pos : Pos} {rest : List Stmt} {g : Ev → Out}
@[simp] def fAppForT (i j : Nat) (cc : Int) : Ev → Out := fun s => match gt s i with
  | .tr (.lst ds) => if noAd s = true ∧ ds.all okC = true ∧ ds.all isL = true ∧ i ≠ j ∧ okW j s = true ∧ j < s.length then .nx (st (st s j .un) i (.tr (.lst (ds.map (addC cc))))) else .stuck
  | _ => .stuck
theorem ds_appForT (i j : Nat) (cc : Int) {x y : Str} {tpos ipos p1 p9 apos cpos spos fpos : Pos} {jc : Nat} (pa : PlainAttrs "list") (slot : Slot "list" "append" "list.append") (hty : typeOf (.builtin "list.append") = pure (.type "method_descriptor")) (hp : PassesOwn (model X.prog X.w) X.A X.env X.xe) (hNd : X.N.Nodup)
    (hN : X.N[i]? = some x := by rfl) (hv : Vis X.env.scope x := by first | exact Or.inl rfl | exact Or.inr (Or.inl rfl) | exact Or.inr (Or.inr rfl)) (hd : (x == ("__debug__" : Str)) = false := by decide) (hcd : (x == ("__classdict__" : Str)) = false := by decide)
    (hNy : X.N[j]? = some y := by rfl) (hvy : Vis X.env.scope y := by first | exact Or.inl rfl | exact Or.inr (Or.inl rfl) | exact Or.inr (Or.inr rfl)) (hly : Loc X.env.scope y := by first | exact Or.inl rfl | exact Or.inr rfl) (hdy : (y == ("__debug__" : Str)) = false := by decide) (hcdy : (y == ("__classdict__" : Str)) = false := by decide)
    (hf : X.fn y = true ∨ X.env.scope.names.lookup y = some .local := by first | exact .inl rfl | exact .inr rfl | assumption)
    (hbase : attributeBase (.Name y p1) "append" X.env (eval (.Name y p1) X.env) = eval (.Name y p1) X.env := by rfl)
    (hfew : ((backTo cpos (starEach [.Constant (.int cc) jc p9] X.env)).all (fun x => !x.1) && (backToKw cpos (keywordEach [] X.env)).all (fun x => x.1.isSome)
      && decide (([.Constant (.int cc) jc p9] : List Expr).length + ([] : List Keyword).length + (if ([] : List Keyword).isEmpty then 0 else 1) < 30)) = true := by rfl)
    (hst : starEach [.Constant (.int cc) jc p9] X.env = (false, eval (.Constant (.int cc) jc p9) X.env) :: starEach [] X.env := by rfl) (hplain : (backTo cpos (starEach [] X.env)).any (·.1) = false := by rfl)
    (hline : (apos.endLine == cpos.line) = true := by rfl)
    (hs : swapsWith (.Call (.Attribute (.Name y p1) "append" apos) [.Constant (.int cc) jc p9] [] cpos) none spos.line X.env = pure false := by rfl) (hc : X.calm = true := by rfl) (hfs : ∀ z, foldedSetIterable (.Name x ipos) X.env z = pure z := by intro _; rfl) :
    DS X ca W (.For (.Name y tpos) (.Name x ipos) [.Expr (.Call (.Attribute (.Name y p1) "append" apos) [.Constant (.int cc) jc p9] [] cpos) spos] [] fpos) (fAppForT i j cc) :=
  (ps_for hp hc (pi_list (pe_var hN hv hd hcd)) (pg_name (i := j) hNd hNy hly hf) (pss_one (ps_expr (pe_bm pa slot hty md_append.1 (pe_var hNy hvy hdy hcdy) (da_cons (W := W) (ca := ca) de_int da_nil hst) hbase hfew hline hst hplain) hs)) hfs).imp fun Dn σ H h => by
    obtain ⟨Hin, Z, s, R, h⟩ := h
    simp only [fAppForT] at h
    cases eg : gt s i with
    | tr d =>
      cases d with
      | lst ds =>
        rw [eg] at h
        dsimp only at h
        have eg' := gt_tr eg
        obtain ⟨p, xs, hpp, h1, hlen⟩ := tr_list R eg'
        have hsz : i < s.length := (List.getElem?_eq_some_iff.mp eg').1
        split at h
        · rename_i hcnd
          obtain ⟨hno, hall, hall2, hij, hw, hjs⟩ := hcnd
          refine ⟨.ref p, hpp, p, rfl, ⟨xs, SqL.of h1⟩, ?_⟩
          have R0 : Rel X.K Hin Z (st (st s j .un) i (.tr (.lst (stg cc 0 ds)))) σ H := by
            have := R.drop hw
            have e : st (st s j .un) i (.tr (.lst (stg cc 0 ds))) = st s j .un := by
              rw [stg_zero]
              refine List.ext_getElem? fun n => ?_
              rw [st_eq (st s j .un), List.getElem?_set]
              by_cases z : i = n
              · subst z
                rw [if_pos rfl, st_eq, List.length_set, if_pos hsz, List.getElem?_set, if_neg (Ne.symm hij), eg']
              · rw [if_neg z]
            rw [e]; exact this
          refine for_list (K := X.K) (a := p) (xs := xs) (fun k σ' H' => Rel X.K Hin Z (st (st s j .un) i (.tr (.lst (stg cc k ds)))) σ' H' ∧ σ'[i]? = some (some (.ref p)) ∧ H' p = some (.lst xs)) ⟨R0, hpp, h1⟩ (fun k σ' H' _ ⟨_, _, e⟩ => SqL.of e) ?_ fun σ' H' ⟨R', _⟩ => ?_
          · rintro k x σ' H' hx ⟨R', hp', e'⟩
            have hkl : k < xs.length := (List.getElem?_eq_some_iff.mp hx).1
            obtain ⟨d, hd⟩ : ∃ d, ds[k]? = some d := ⟨ds[k]'(by omega), List.getElem?_eq_getElem (by omega)⟩
            have hdm := List.mem_of_getElem? hd
            have hok := List.all_eq_true.mp hall d hdm
            have hisl := List.all_eq_true.mp hall2 d hdm
            obtain ⟨R1, t1, t2⟩ := for_turn hij hsz hjs hno R' hp' e' hx hd
            cases d with
            | lst es =>
              obtain ⟨q, ys, rfl, hq, hle, t3⟩ := t1 es rfl
              have hjl : j < σ'.length := by rw [← R'.len]; simp only [st_eq, List.length_set]; exact hjs
              refine ⟨.ref q, by rw [List.getElem?_set]; simp [hjl], .inl ⟨rfl, ys, SqL.of hq⟩, Hin, Z, _, R1, ?_⟩
              intro vs H1 k1 q1
              obtain ⟨w, rfl, q2⟩ := ResA.one q1
              have ew : w = .int cc := ResOk.int q2 rfl
              subst ew
              have hlt : es.length < lim := by simpa [okC] using hok
              obtain ⟨t4, t5⟩ := t3 H1 k1
              exact ⟨q, ys, .int cc, rfl, rfl, k1 _ _ hq, lt_line (by omega), t4, by rw [List.getElem?_set, if_neg (Ne.symm hij)]; exact hp', t5⟩
            | _ => simp [isL] at hisl
          · have e : stg cc xs.length ds = ds.map (addC cc) := by rw [hlen]; exact stg_all
            rw [e] at R'
            exact h σ' H' R'
        · exact h.elim
      | _ => rw [eg] at h; exact h.elim
    | _ => rw [eg] at h; exact h.elim
@[simp] def fAppForI (i j : Nat) (cc : Int) : Ev → Out := fun s => match gt s i with
  | .tr (.lst ds) => if noAd s = true ∧ ds.all okC = true ∧ i ≠ j ∧ okW j s = true ∧ j < s.length then .nx (st (st s j .un) i (.tr (.lst (ds.map (addC cc))))) else .stuck
  | _ => .stuck
theorem ds_appForI (i j : Nat) (cc : Int) {x y : Str} {tpos ipos p1 p9 apos cpos spos fpos p5 p6 p7 p8 fif : Pos} {jc : Nat} (pa : PlainAttrs "list") (slot : Slot "list" "append" "list.append") (hty : typeOf (.builtin "list.append") = pure (.type "method_descriptor")) (hp : PassesOwn (model X.prog X.w) X.A X.env X.xe) (hNd : X.N.Nodup)
    (ht : DT X ca W (.Call (.Name "isinstance" p5) [.Name y p6, .Name "list" p7] [] p8) (fB (fIs .list (fVar j))))
    (hN : X.N[i]? = some x := by rfl) (hv : Vis X.env.scope x := by first | exact Or.inl rfl | exact Or.inr (Or.inl rfl) | exact Or.inr (Or.inr rfl)) (hd : (x == ("__debug__" : Str)) = false := by decide) (hcd : (x == ("__classdict__" : Str)) = false := by decide)
    (hNy : X.N[j]? = some y := by rfl) (hvy : Vis X.env.scope y := by first | exact Or.inl rfl | exact Or.inr (Or.inl rfl) | exact Or.inr (Or.inr rfl)) (hly : Loc X.env.scope y := by first | exact Or.inl rfl | exact Or.inr rfl) (hdy : (y == ("__debug__" : Str)) = false := by decide) (hcdy : (y == ("__classdict__" : Str)) = false := by decide)
    (hf : X.fn y = true ∨ X.env.scope.names.lookup y = some .local := by first | exact .inl rfl | exact .inr rfl | assumption)
    (hbase : attributeBase (.Name y p1) "append" X.env (eval (.Name y p1) X.env) = eval (.Name y p1) X.env := by rfl)
    (hfew : ((backTo cpos (starEach [.Constant (.int cc) jc p9] X.env)).all (fun x => !x.1) && (backToKw cpos (keywordEach [] X.env)).all (fun x => x.1.isSome)
      && decide (([.Constant (.int cc) jc p9] : List Expr).length + ([] : List Keyword).length + (if ([] : List Keyword).isEmpty then 0 else 1) < 30)) = true := by rfl)
    (hst : starEach [.Constant (.int cc) jc p9] X.env = (false, eval (.Constant (.int cc) jc p9) X.env) :: starEach [] X.env := by rfl) (hplain : (backTo cpos (starEach [] X.env)).any (·.1) = false := by rfl)
    (hline : (apos.endLine == cpos.line) = true := by rfl)
    (hs : swapsWith (.Call (.Attribute (.Name y p1) "append" apos) [.Constant (.int cc) jc p9] [] cpos) none spos.line X.env = pure false := by rfl) (hc : X.calm = true := by rfl) (hfs : ∀ z, foldedSetIterable (.Name x ipos) X.env z = pure z := by intro _; rfl) :
    DS X ca W (.For (.Name y tpos) (.Name x ipos) [.If (.Call (.Name "isinstance" p5) [.Name y p6, .Name "list" p7] [] p8) [.Expr (.Call (.Attribute (.Name y p1) "append" apos) [.Constant (.int cc) jc p9] [] cpos) spos] [] fif] [] fpos) (fAppForI i j cc) :=
  (ps_for hp hc (pi_list (pe_var hN hv hd hcd)) (pg_name (i := j) hNd hNy hly hf) (pss_one (ps_if ht (pss_one (ps_expr (pe_bm pa slot hty md_append.1 (pe_var hNy hvy hdy hcdy) (da_cons (W := W) (ca := ca) de_int da_nil hst) hbase hfew hline hst hplain) hs)) pss_nil)) hfs).imp fun Dn σ H h => by
    obtain ⟨Hin, Z, s, R, h⟩ := h
    simp only [fAppForI] at h
    cases eg : gt s i with
    | tr d =>
      cases d with
      | lst ds =>
        rw [eg] at h
        dsimp only at h
        have eg' := gt_tr eg
        obtain ⟨p, xs, hpp, h1, hlen⟩ := tr_list R eg'
        have hsz : i < s.length := (List.getElem?_eq_some_iff.mp eg').1
        split at h
        · rename_i hcnd
          obtain ⟨hno, hall, hij, hw, hjs⟩ := hcnd
          refine ⟨.ref p, hpp, p, rfl, ⟨xs, SqL.of h1⟩, ?_⟩
          have R0 : Rel X.K Hin Z (st (st s j .un) i (.tr (.lst (stg cc 0 ds)))) σ H := by
            have := R.drop hw
            have e : st (st s j .un) i (.tr (.lst (stg cc 0 ds))) = st s j .un := by
              rw [stg_zero]
              refine List.ext_getElem? fun n => ?_
              rw [st_eq (st s j .un), List.getElem?_set]
              by_cases z : i = n
              · subst z
                rw [if_pos rfl, st_eq, List.length_set, if_pos hsz, List.getElem?_set, if_neg (Ne.symm hij), eg']
              · rw [if_neg z]
            rw [e]; exact this
          refine for_list (K := X.K) (a := p) (xs := xs) (fun k σ' H' => Rel X.K Hin Z (st (st s j .un) i (.tr (.lst (stg cc k ds)))) σ' H' ∧ σ'[i]? = some (some (.ref p)) ∧ H' p = some (.lst xs)) ⟨R0, hpp, h1⟩ (fun k σ' H' _ ⟨_, _, e⟩ => SqL.of e) ?_ fun σ' H' ⟨R', _⟩ => ?_
          · rintro k x σ' H' hx ⟨R', hp', e'⟩
            have hkl : k < xs.length := (List.getElem?_eq_some_iff.mp hx).1
            obtain ⟨d, hd⟩ : ∃ d, ds[k]? = some d := ⟨ds[k]'(by omega), List.getElem?_eq_getElem (by omega)⟩
            have hdm := List.mem_of_getElem? hd
            have hok := List.all_eq_true.mp hall d hdm
            obtain ⟨R1, t1, t2⟩ := for_turn hij hsz hjs hno R' hp' e' hx hd
            have hjl : j < σ'.length := by rw [← R'.len]; simp only [st_eq, List.length_set]; exact hjs
            -- what stands in the loop's name, looked at
            have si : (st (st s j .un) i (.tr (.lst (stg cc k ds))))[i]? = some (.tr (.lst (stg cc k ds))) := by
              simp only [st_eq, List.getElem?_set, List.length_set, if_pos hsz, if_true]
            have rx : Rp X.K (Rg (fun a => Z a ∧ Hin a ≠ none) (wake (st (st s j .un) i (.tr (.lst (stg cc k ds))))) σ' H') x d := by
              obtain ⟨v, w1, w2⟩ := R'.wake.sh i (.lst (stg cc k ds)) (by rw [wake, List.getElem?_map, si]; rfl)
              rw [hp'] at w1
              cases w1
              cases w2 with
              | lst b r =>
                have b' := hide_le _ _ b
                rw [e'] at b'
                cases b'
                obtain ⟨y, y1, y2⟩ := r.get (stg_get hd)
                rw [hx] at y1
                cases y1
                exact y2
            have RT := R'.wake.setSh rx j
            have hgt : gt (st (wake (st (st s j .un) i (.tr (.lst (stg cc k ds))))) j (.sh d)) j = .sh d := gt_st (by simp only [wake, List.length_map, st_eq, List.length_set]; exact hjs)
            refine ⟨Hin, _, _, RT, ?_⟩
            cases d with
            | lst es =>
              have et : fB (fIs .list (fVar j)) (st (wake (st (st s j .un) i (.tr (.lst (stg cc k ds))))) j (.sh (.lst es))) = .ok true := by
                simp only [fB, fIs, fVar, hgt]; rfl
              rw [et]
              intro H2 k2
              refine iteT ?_
              obtain ⟨q, ys, rfl, hq, hle, t3⟩ := t1 es rfl
              have R2 := R1.mono k2
              refine ⟨.ref q, by rw [List.getElem?_set]; simp [hjl], .inl ⟨rfl, ys, SqL.of (k2 _ _ hq)⟩, Hin, Z, _, R2, ?_⟩
              intro vs H1 k1 q1
              obtain ⟨w, rfl, q2⟩ := ResA.one q1
              have ew : w = .int cc := ResOk.int q2 rfl
              subst ew
              have hlt : es.length < lim := by simpa [okC] using hok
              obtain ⟨t4, t5⟩ := t3 H1 (k2.trans k1)
              exact ⟨q, ys, .int cc, rfl, rfl, k1 _ _ (k2 _ _ hq), lt_line (by omega), t4, by rw [List.getElem?_set, if_neg (Ne.symm hij)]; exact hp', t5⟩
            | tup es =>
              have et : fB (fIs .list (fVar j)) (st (wake (st (st s j .un) i (.tr (.lst (stg cc k ds))))) j (.sh (.tup es))) = .ok false := by
                simp only [fB, fIs, fVar, hgt]; rfl
              rw [et]
              intro H2 k2
              exact iteF ⟨t2 H2 k2 rfl, by rw [List.getElem?_set, if_neg (Ne.symm hij)]; exact hp', k2 _ _ e'⟩
            | _ => simp [okC] at hok
          · have e : stg cc xs.length ds = ds.map (addC cc) := by rw [hlen]; exact stg_all
            rw [e] at R'
            exact h σ' H' R'
        · exact h.elim
      | _ => rw [eg] at h; exact h.elim
    | _ => rw [eg] at h; exact h.elim
end
end DL
namespace My
open PySem PySem.Spec L2 DL
/-! loops by an invariant -/
theorem loop_inv {g : Ev → Out} {i : Nat} (I : Nat → Ev → Prop) : ∀ (ds : List D) (k : Nat) (s : Ev), (∀ j d s, ds[j]? = some d → I (k + j) s → ∃ s', (g (st s i (.sh d)) = .nx s' ∨ g (st s i (.sh d)) = .ct s') ∧ I (k + j + 1) s') → I k s → ∃ s', loopF g i ds s = .nx s' ∧ I (k + ds.length) s'
  | [], k, s, _, h => ⟨s, rfl, h⟩
  | d :: ds, k, s, hs, h => by
    obtain ⟨s1, e1, h1⟩ := hs 0 d s rfl h
    obtain ⟨s2, e2, h2⟩ := loop_inv I ds (k + 1) s1 (fun j d s hj h => by
      have := hs (j + 1) d s (by simpa using hj) (by rw [show k + (j + 1) = k + 1 + j by omega]; exact h)
      rw [show k + (j + 1) + 1 = k + 1 + j + 1 by omega] at this
      exact this) h1
    refine ⟨s2, ?_, by rw [List.length_cons, show k + (ds.length + 1) = k + 1 + ds.length by omega]; exact h2⟩
    simp only [loopF]
    rcases e1 with e1 | e1 <;> rw [e1] <;> exact e2
theorem loop_do {g : Ev → Out} {i : Nat} (I : Nat → Ev → Prop) (ds : List D) (s : Ev) (h0 : I 0 s) (hs : ∀ j d s, ds[j]? = some d → I j s → ∃ s', (g (st s i (.sh d)) = .nx s' ∨ g (st s i (.sh d)) = .ct s') ∧ I (j + 1) s') : ∃ s', loopF g i ds s = .nx s' ∧ I ds.length s' := by
  have := loop_inv (g := g) (i := i) I ds 0 s (fun j d s a b => by rw [Nat.zero_add] at b ⊢; exact hs j d s a b) h0
  rwa [Nat.zero_add] at this
/-- a comprehension, item by item -/
theorem lc_map {fe : Ev → Res Rv} {i : Nat} {s : Ev} {f : D → D} : ∀ (ds : List D), (∀ d ∈ ds, ∃ k, k ≠ .ow ∧ fe (st s i (.sh d)) = .ok ⟨k, f d⟩) → lcF (fun _ => .ok true) fe i s ds = .ok (ds.map f)
  | [], _ => rfl
  | d :: ds, h => by
    obtain ⟨k, hk, e⟩ := h d List.mem_cons_self
    simp only [lcF, nox_ok, bnd_ok, if_true]
    rw [e, lc_map ds fun x hx => h x (List.mem_cons_of_mem _ hx)]
    cases k with
    | ow => exact absurd rfl hk
    | sh => rfl
    | fr => rfl
theorem lct_map {fe : Ev → Res D} {i : Nat} {s : Ev} {f : D → D} : ∀ (ds : List D), (∀ d ∈ ds, fe (st s i (.sh d)) = .ok (f d)) → lcT (fun _ => .ok true) fe i s ds = .ok (ds.map f)
  | [], _ => rfl
  | d :: ds, h => by
    have e := h d List.mem_cons_self
    simp only [lcT, nox_ok, bnd_ok, if_true]
    rw [e, lct_map ds fun x hx => h x (List.mem_cons_of_mem _ hx)]
    rfl
theorem scalD (w : List Int) : (w.map D.int).all scalar = true := by simp [List.all_map, Function.comp_def]
theorem lc_filter {ft : Ev → Res Bool} {fe : Ev → Res Rv} {i : Nat} {s : Ev} {p : D → Bool} {f : D → D} : ∀ (ds : List D), (∀ d ∈ ds, ft (st s i (.sh d)) = .ok (p d) ∧ (p d = true → ∃ k, k ≠ .ow ∧ fe (st s i (.sh d)) = .ok ⟨k, f d⟩)) → lcF ft fe i s ds = .ok ((ds.filter p).map f)
  | [], _ => rfl
  | d :: ds, h => by
    obtain ⟨e1, e2⟩ := h d List.mem_cons_self
    have ih := lc_filter ds fun x hx => h x (List.mem_cons_of_mem _ hx)
    simp only [lcF]
    rw [e1, nox_ok, bnd_ok]
    cases hp : p d with
    | false => rw [if_neg (by simp), ih, List.filter_cons_of_neg (by simp [hp])]
    | true =>
      obtain ⟨k, hk, e⟩ := e2 hp
      rw [if_pos rfl, e, ih, List.filter_cons_of_pos hp]
      cases k with
      | ow => exact absurd rfl hk
      | sh => rfl
      | fr => rfl
theorem rngD_get {lo : Int} {n j : Nat} {d : D} (h : (rngD lo n)[j]? = some d) : j < n ∧ d = .int (lo + j) := by
  simp only [rngD, List.getElem?_map, Option.map_eq_some_iff] at h
  obtain ⟨k, hk, rfl⟩ := h
  have hl := (List.getElem?_eq_some_iff.mp hk).1
  rw [List.length_range] at hl
  rw [List.getElem?_range hl] at hk
  cases hk
  exact ⟨hl, rfl⟩
@[simp] theorem rngD_length {lo : Int} {n : Nat} : (rngD lo n).length = n := by simp [rngD]
/-! equality of plain values -/
def OkN (n : Nat) (d : D) : Prop := (toPy d).canLay0 = true ∧ (toPy d).depth ≤ n
theorem OkN.mono {n m : Nat} {d : D} (h : OkN n d) (e : n ≤ m) : OkN m d := ⟨h.1, Nat.le_trans h.2 e⟩
theorem OkN.okEq {n : Nat} {d : D} (h : OkN n d) (e : n ≤ 64 := by decide) : okEq d = true := by
  unfold DL.okEq SeqAt.shaped
  rw [h.1, decide_eq_true (Nat.le_trans h.2 e)]
  rfl
theorem OkN.int {i : Int} : OkN 0 (.int i) := ⟨rfl, by simp [toPy, PyData.depth]⟩
theorem OkN.bl {i : Bool} : OkN 0 (.bl i) := ⟨rfl, by simp [toPy, PyData.depth]⟩
theorem OkN.non : OkN 0 .non := ⟨rfl, by simp [toPy, PyData.depth]⟩
theorem okAll {n : Nat} : ∀ {ds : List D}, (∀ d ∈ ds, OkN n d) → PyData.canLayAll0 (toPys ds) = true ∧ PyData.depthAll (toPys ds) ≤ n
  | [], _ => ⟨rfl, by simp [toPys, PyData.depthAll]⟩
  | d :: ds, h => by
    obtain ⟨h1, h2⟩ := h d List.mem_cons_self
    obtain ⟨h3, h4⟩ := okAll (ds := ds) fun x hx => h x (List.mem_cons_of_mem _ hx)
    refine ⟨?_, ?_⟩
    · simp only [toPys, PyData.canLayAll0, h1, h3, Bool.and_self]
    · simp only [toPys, PyData.depthAll]
      omega
theorem OkN.lst {n : Nat} {ds : List D} (h : ∀ d ∈ ds, OkN n d) : OkN (n + 1) (.lst ds) := by
  obtain ⟨h1, h2⟩ := okAll h
  exact ⟨by simpa only [toPy, PyData.canLay0] using h1, by simp only [toPy, PyData.depth]; omega⟩
theorem OkN.tup {n : Nat} {ds : List D} (h : ∀ d ∈ ds, OkN n d) : OkN (n + 1) (.tup ds) := by
  obtain ⟨h1, h2⟩ := okAll h
  exact ⟨by simpa only [toPy, PyData.canLay0] using h1, by simp only [toPy, PyData.depth]; omega⟩
theorem OkN.lmap {α : Type} {n : Nat} {f : α → D} {as : List α} (h : ∀ a, OkN n (f a)) : OkN (n + 1) (.lst (as.map f)) := OkN.lst fun d hd => by
  obtain ⟨a, _, rfl⟩ := List.mem_map.mp hd
  exact h a
theorem OkN.ints {w : List Int} : OkN 1 (.lst (w.map .int)) := OkN.lmap fun _ => .int
abbrev li (w : List Int) : D := .lst (w.map .int)
theorem OkN.ints2 {ws : List (List Int)} : OkN 2 (.lst (ws.map li)) := OkN.lmap fun _ => .ints
@[simp] theorem okEq_int {i : Int} : okEq (.int i) = true := OkN.int.okEq
@[simp] theorem okEq_bl {i : Bool} : okEq (.bl i) = true := OkN.bl.okEq
@[simp] theorem okEq_non : okEq .non = true := OkN.non.okEq
@[simp] theorem okEq_nil : okEq (.lst []) = true := (OkN.lst (n := 0) fun d h => by cases h).okEq
@[simp] theorem okEq_ints {w : List Int} : okEq (.lst (w.map .int)) = true := OkN.ints.okEq
@[simp] theorem okEq_ints2 {ws : List (List Int)} : okEq (.lst (ws.map fun w => .lst (w.map .int))) = true := (OkN.ints2 (ws := ws)).okEq
@[simp] theorem okEq_tup1 {i : Int} : okEq (.tup [.int i]) = true := (OkN.tup (n := 0) fun d h => by simp at h; subst h; exact .int).okEq
@[simp] theorem eqD_int {i j : Int} : eqD (.int i) (.int j) = decide (i = j) := by simp [eqD, toPy, PyData.eqv]; rfl
@[simp] theorem eqD_lst_tup {a b : List D} : eqD (.lst a) (.tup b) = false := by simp [eqD, toPy, PyData.eqv]
@[simp] theorem eqD_tup_lst {a b : List D} : eqD (.tup a) (.lst b) = false := by simp [eqD, toPy, PyData.eqv]
@[simp] theorem eqD_int_tup {a : Int} {b : List D} : eqD (.int a) (.tup b) = false := by simp [eqD, toPy, PyData.eqv]
@[simp] theorem eqD_int_lst {a : Int} {b : List D} : eqD (.int a) (.lst b) = false := by simp [eqD, toPy, PyData.eqv]
@[simp] theorem eqD_non_tup {b : List D} : eqD .non (.tup b) = false := by simp [eqD, toPy, PyData.eqv]
def eqL : List D → List D → Bool
  | [], [] => true
  | a :: as, b :: bs => eqD a b && eqL as bs
  | _, _ => false
theorem eqvAll_L : ∀ (as bs : List D), PyData.eqvAll (toPys as) (toPys bs) = eqL as bs
  | [], [] => by simp [toPys, PyData.eqvAll, eqL]
  | a :: as, [] => by simp [toPys, PyData.eqvAll, eqL]
  | [], b :: bs => by simp [toPys, PyData.eqvAll, eqL]
  | a :: as, b :: bs => by simp only [toPys, PyData.eqvAll, eqL, eqvAll_L as bs]; rfl
@[simp] theorem eqD_lst {as bs : List D} : eqD (.lst as) (.lst bs) = eqL as bs := by rw [← eqvAll_L]; simp [eqD, toPy, PyData.eqv]
@[simp] theorem eqD_tup {as bs : List D} : eqD (.tup as) (.tup bs) = eqL as bs := by rw [← eqvAll_L]; simp [eqD, toPy, PyData.eqv]
@[simp] theorem eqL_nil : eqL [] [] = true := rfl
@[simp] theorem eqL_cons {a b : D} {as bs : List D} : eqL (a :: as) (b :: bs) = (eqD a b && eqL as bs) := rfl
@[simp] theorem eqL_nil1 {b : D} {bs : List D} : eqL [] (b :: bs) = false := rfl
@[simp] theorem eqL_nil2 {b : D} {bs : List D} : eqL (b :: bs) [] = false := rfl
theorem eqL_map {α : Type} [DecidableEq α] {f : α → D} (h : ∀ a b, eqD (f a) (f b) = decide (a = b)) : ∀ as bs : List α, eqL (as.map f) (bs.map f) = decide (as = bs)
  | [], [] => by simp
  | a :: as, [] => by simp
  | [], b :: bs => by simp
  | a :: as, b :: bs => by simp [h, eqL_map h as bs]
@[simp] theorem eqL_ints {v w : List Int} : eqL (v.map .int) (w.map .int) = decide (v = w) := eqL_map (fun _ _ => eqD_int) v w
@[simp] theorem eqL_ints2 {v w : List (List Int)} : eqL (v.map fun w => .lst (w.map .int)) (w.map fun w => .lst (w.map .int)) = decide (v = w) := eqL_map (f := fun w : List Int => D.lst (w.map .int)) (fun _ _ => by simp) v w
theorem eqL_refl_of {as : List D} (h : ∀ a ∈ as, eqD a a = true) : eqL as as = true := by
  induction as with
  | nil => rfl
  | cons a as ih => simp [h a List.mem_cons_self, ih fun x hx => h x (List.mem_cons_of_mem _ hx)]
theorem fin_noNx {o : Out} {b : Bool} (h : fin o = .ok ⟨.sh, .bl b⟩) : fin (noNx o) = .ok ⟨.sh, .bl b⟩ := by
  cases o with
  | nx s => cases h
  | rt r => exact h
  | exc c => exact h
  | bk s => exact h
  | ct s => exact h
  | stuck => exact h
end My
/-! sorted(x), x a dict whose keys are tuples of whole numbers. -/
namespace DL
open PySem PySem.Spec L2
section
open PySem.W PyProof.Rows
variable {prog : Program} {w : World} {A : Around} {s : Shared}
/-- one tuple, of any length -/
theorem sortsAt_one {vs : List Value} {ds : List PyData} (e : EachIs (fun v d => ∃ as, Reads s.heap v d as) vs ds) (h1 : ds.length ≤ 1) (ht : ∀ d ∈ ds, ∃ xs, d = .tuple xs) (hal : AllAlike ds) (hu : ∀ d, d ∈ ds → A.units + d.depth < cLine) : SortsAt prog w A s (dataKind s.heap ds) vs := by
  have room : ∀ {d d' : PyData}, d ∈ ds → A.units + min d.depth d'.depth < cLine := fun {d d'} hd => Nat.lt_of_le_of_lt (Nat.add_le_add_left (Nat.min_le_left _ _) _) (hu d hd)
  refine ⟨fun v hv => ?_, ?_⟩
  · obtain ⟨d, hd, as, r⟩ := e.left v hv
    exact ⟨_, dataKind_some hal hd r⟩
  · refine ⟨tuples' false, ?_, fun h2 E Q hq => absurd h2 (by rw [e.length]; omega)⟩
    intro E x y a b Q ha hb hq
    obtain ⟨d, as, hd, ra, rfl⟩ := dataKind_inv ha
    obtain ⟨d', as', hd', rb, rfl⟩ := dataKind_inv hb
    have hdd := hal d hd d' hd'
    have hroom := room (d' := d') hd
    obtain ⟨x1, rfl⟩ := ht d hd
    obtain ⟨x2, rfl⟩ := ht d' hd'
    have hq' : Q (dataLt (.tuple x1) (.tuple x2)) s := hq
    rw [dataLt_tuple] at hq'
    cases ra with
    | @tuple l o xs n _ _ h1 h2 h3 h4 =>
      cases rb with
      | @tuple l' o' xs' n' _ _ k1 k2 k3 k4 =>
        have n1 : xs.size = x1.length := by simpa using SeqAt.ReadsAll.length _ _ _ h4
        have n2 : xs'.size = x2.length := by simpa using SeqAt.ReadsAll.length _ _ _ k4
        exact kat_lt h1 h3 k1 k3 (katLex_alike x1 x2 0 _ _ _ _ h4 k4 (by simpa [alike] using hdd) (by have q := SeqAt.room_in hroom; omega) (fun hb _ x r t ex => by cases hb) (by rw [n1, n2]) hq')
end
end DL
namespace DL
open PySem PySem.Spec L2
def tupI (k : List Int) : D := .tup (k.map .int)
def keysD (kvs : List (List Int × V)) : List D := kvs.map fun p => tupI p.1
theorem paired_rp {K : PySem.W.Frag} {H : Hp} : ∀ {kvs : List (List Int × V)} {bs : List Addr}, IsKeys H (kvs.map encT) bs → RpL K (hide (fun _ => True) H) (bs.map V.ref) (keysD kvs)
  | [], _, h => by cases h; exact .nil
  | p :: r, _, h => by
    cases h with
    | @cons _ b _ _ h1 h2 =>
      have e : (p.1.map Sum.inl : List Key).map kV = p.1.map V.int := by rw [List.map_map]; rfl
      have h1' : H b = some (.tup (p.1.map V.int)) := by rw [← e]; exact h1
      exact .cons (.tup ((hide_it ⟨p.1, h1'⟩).trans h1') RpL.ints) (paired_rp h2)
/-- what the sort of a dict's keys needs -/
def srtKOk (ds : List D) : Bool := srtOk ds || decide (ds.length ≤ 1)
def rSortKT (K : PySem.W.Frag) : List V → Hp → VK → Prop := fun xs H Q => ∃ (d : Addr) (kvs : List (List Int × V)), xs = [.ref d] ∧ H d = some (.dT (kvs.map encT)) ∧ srtKOk (keysD kvs) = true ∧ kvs.length ≤ sizeLine ∧
  ∀ p vs, H p = none → RpL K (hide (fun _ => True) H) vs (srtD false (keysD kvs)) → Q (.ref p) (upd H p (.lst vs))
section
open PySem.W
open PyProof.Rows (seqObj)
variable {X : Cx}
theorem cr_sortedKT (hcalm : X.calm = true) (hu : X.A.units + 64 < cLine) : CallR X (.builtin "sorted") (rSortKT X.K) := by
  intro pins s σ H xs us Q I r h
  obtain ⟨d, kvs, rfl, hd, hok, hz, q⟩ := h
  obtain ⟨u, rfl, rx⟩ := r.one
  cases rx
  obtain ⟨z, hs, ks, pr, o, es, ep, ho, hx, hdt, he, hn⟩ := (show ObjOk X.prog X.w H s.heap d (.dT (kvs.map encT)) from I.hok d _ hd)
  have l1 : es.size = ks.length := size_of_entries he
  have l2 : (kvs.map encT).length = ks.length := Paired.length pr
  rw [List.length_map] at l2
  have hle : es.size ≤ sizeLine := by omega
  refine Calls.call_function_entry PyProof.Rows.kind_sorted PyProof.Rows.plain_sorted PyProof.Rows.entry_sorted (PyProof.Rows.args_sorted1 _) ?_
  unfold Builtin.«sorted»
  refine wpAny_bind (m := checkCount "sorted" 1 1 _) (wpAny_pure ?_)
  refine wpAny_bind (PySem.W.kdu_collect (A := X.A.in1) (kdl_raw hs hx hdt) (I.ok.hd hcalm) ho hle fun h' tk acc kp it => ?_)
  have ea : acc.toList = ks.map fun x => Value.ref x.2.1 := by
    have hl : acc.toList.length = ks.length := by rw [Array.length_toList, it.1]; exact l1
    apply List.ext_getElem?
    intro j
    rw [List.getElem?_map]
    cases hj : acc.toList[j]? with
    | none =>
      have h1 := List.getElem?_eq_none_iff.mp hj
      rw [List.getElem?_eq_none (by omega)]
      all_goals rfl
    | some v =>
      obtain ⟨en, hen, hv⟩ := it.2 j v (by rw [← Array.getElem?_toList]; exact hj)
      have qe := entry_at he j
      rw [hen] at qe
      cases hb : ks[j]? with
      | none =>
        rw [hb] at qe
        exact nomatch (show some en = none from qe)
      | some b =>
        rw [hb] at qe
        have e2 : en = entryOfKey (tupleKind (mixKind X.prog X.w)) b := Option.some.inj qe
        rw [hv, e2]
        all_goals rfl
  have eb : acc.toList = (ks.map fun x => x.2.1).map Value.ref := by rw [ea, List.map_map]; all_goals rfl
  have rv : Vals ((ks.map fun x => x.2.1).map V.ref) acc.toList := by rw [eb]; exact vals_refs _
  have rk : RpL X.K (hide (fun _ => True) H) ((ks.map fun x => x.2.1).map V.ref) (keysD kvs) := paired_rp (isKeys_of pr)
  have I1 : Inv X pins σ H { s with heap := h', toks := tk } := I.kept kp
  have hlen : acc.toList.length ≤ sizeLine := by rw [Array.length_toList, it.1]; exact hle
  refine wpAny_bind (wpAny_newList ?_ hlen)
  have hoL : (h'.push (seqObj "list" acc.toList.toArray 0)).get? h'.objs.size = some (seqObj "list" acc.toList.toArray 0) := Heap.get?_push_size _ rfl
  show wpAny _ _ _ _ _ { s with heap := h'.push (seqObj "list" acc.toList.toArray 0), toks := tk }
  obtain ⟨ps, e1, e2, e3⟩ := pairs_of rk
  rw [← e2] at rv
  have can : ∀ p ∈ ps, (toPy p.1).canLay0 = true ∧ (toPy p.1).depth ≤ 60 ∧ ∃ xs, toPy p.1 = .tuple xs := fun p hp => by
    have : p.1 ∈ keysD kvs := by rw [← e1]; exact List.mem_map.mpr ⟨p, hp, rfl⟩
    obtain ⟨kv, _, e⟩ := List.mem_map.mp this
    rw [← e]
    have c := My.OkN.tup (n := 0) (ds := kv.1.map .int) fun d hd => by
      obtain ⟨i, _, rfl⟩ := List.mem_map.mp hd
      exact .int
    exact ⟨c.1, Nat.le_trans c.2 (by decide), _, rfl⟩
  have hdp : ∀ p ∈ ps, Dp X.K H p.2 (toPy p.1) := fun p hp => ((e3 p hp).mono hide_le).dp (can p hp).1
  have er := each_reads I1 rv hdp
  have ev := each_of rv
  have er' : EachIs (fun v (b : DV) => ∃ as, Reads (sortingHeap (h'.push (seqObj "list" acc.toList.toArray 0)) h'.objs.size acc.toList) v (toPy b.1) as) acc.toList ps := er.mono fun _ _ ⟨as, r⟩ => ⟨as, PyProof.Rows.Reads.keeps (fun b o e => sortingHeap_old (Nat.ne_of_lt (Heap.lt_size e)) (Heap.get?_push_of_some _ e)) r⟩
  have e1' : ps.map (fun p : DV => toPy p.1) = (keysD kvs).map toPy := by rw [← e1, List.map_map]; rfl
  have hal : AllAlike (ps.map fun p : DV => toPy p.1) := by
    rw [e1']
    simp only [srtKOk, Bool.or_eq_true, decide_eq_true_eq] at hok
    intro a ha b hb
    rcases hok with hok | hok
    · obtain ⟨a', ha', rfl⟩ := List.mem_map.mp ha
      obtain ⟨b', hb', rfl⟩ := List.mem_map.mp hb
      simp only [srtOk, Bool.and_eq_true, Bool.or_eq_true, List.all_eq_true, decide_eq_true_eq] at hok
      exact hok.2.1 a' ha' b' hb'
    · obtain ⟨a', ha', rfl⟩ := List.mem_map.mp ha
      obtain ⟨b', hb', rfl⟩ := List.mem_map.mp hb
      have : a' = b' := by
        cases hk : keysD kvs with
        | nil => rw [hk] at ha'; cases ha'
        | cons x r =>
          rw [hk] at ha' hb' hok
          have : r = [] := List.length_eq_zero_iff.mp (by simp at hok; simp [hok])
          subst this
          rw [List.mem_singleton.mp ha', List.mem_singleton.mp hb']
      subst this
      obtain ⟨kv, _, rfl⟩ := List.mem_map.mp ha'
      show alike (toPy (tupI kv.1)) (toPy (tupI kv.1)) = true
      have : ∀ l : List Int, alikeAll (l.map PyData.int) (l.map .int) = true := by
        intro l
        induction l with
        | nil => rfl
        | cons x r ih => simp [alikeAll, alike, ih]
      have e : toPy (tupI kv.1) = .tuple (kv.1.map .int) := by
        show PyData.tuple (toPys (kv.1.map D.int)) = _
        rw [toPys_map, List.map_map]
        rfl
      rw [e]
      simp only [alike]
      exact this _
  have hroom : ∀ b ∈ ps, X.A.in1.in1.units + (toPy b.1).depth < cLine := fun b hb => by
    have := (can b hb).2.1
    show X.A.units + 1 + 1 + _ < cLine
    omega
  have S : SortsAt X.prog X.w X.A.in1.in1 { s with heap := sortingHeap (h'.push (seqObj "list" acc.toList.toArray 0)) h'.objs.size acc.toList, toks := tk } (dataKind (sortingHeap (h'.push (seqObj "list" acc.toList.toArray 0)) h'.objs.size acc.toList) (ps.map fun p : DV => toPy p.1)) acc.toList := by
    have em := each_map (R := fun v d => ∃ as, Reads (sortingHeap (h'.push (seqObj "list" acc.toList.toArray 0)) h'.objs.size acc.toList) v d as) (fun p : DV => toPy p.1) er'
    simp only [srtKOk, Bool.or_eq_true, decide_eq_true_eq] at hok
    rcases hok with hok | hok
    · obtain ⟨ps2, f1, f2, f3, f4, f5, f6⟩ := srt_ready (K := X.K) hide_le rk hok
      have f6' : Sortable (ps.map fun p : DV => toPy p.1) := by
        have : ps2.map (fun p : DV => toPy p.1) = ps.map (fun p : DV => toPy p.1) := by rw [e1', ← f1, List.map_map]; rfl
        rw [← this]; exact f6
      exact SortsAt.data em hal f6' (bound_map hroom)
    · refine sortsAt_one em (by rw [e1', List.length_map]; exact hok) (fun d hd => ?_) hal (bound_map hroom)
      obtain ⟨p, hp, rfl⟩ := List.mem_map.mp hd
      exact (can p hp).2.2
  refine wpAny_bind (wpAny_holding (wpAny_call_entry PyProof.Rows.slot_list_sort ⟨_, hoL, rfl⟩ PyProof.Rows.entry_list_sort
    (list_sort_vals (s := { s with heap := h'.push (seqObj "list" acc.toList.toArray 0), toks := tk }) hoL S hlen ⟨_, rfl, ?_⟩) (PyProof.Rows.args_list_sort _)))
  have sv := sortVals_data (h' := sortingHeap (h'.push (seqObj "list" acc.toList.toArray 0)) h'.objs.size acc.toList) false ev er' hal
  have svl := sortVals_length (κ := dataKind (sortingHeap (h'.push (seqObj "list" acc.toList.toArray 0)) h'.objs.size acc.toList) (ps.map fun p : DV => toPy p.1)) false (ks := acc.toList) (vs := acc.toList) rfl
  generalize sortVals (dataKind (sortingHeap (h'.push (seqObj "list" acc.toList.toArray 0)) h'.objs.size acc.toList) (ps.map fun p : DV => toPy p.1)) false acc.toList acc.toList = out at sv svl
  obtain ⟨e', he'⟩ := PyProof.Rows.sortedHeap_at (vs := acc.toList) (out := out.toArray) hoL
  have rvo := vals_each sv
  have rso : RpL X.K (hide (fun _ => True) H) ((ps.mergeSort (dataLe false fun p : DV => toPy p.1)).map (·.2)) (srtD false (keysD kvs)) := by
    rw [← e1, ← srt_map]
    exact rpl_pairs fun p hp => e3 p ((List.mergeSort_perm ps _).mem_iff.mp hp)
  have hl2 : ((ps.mergeSort (dataLe false fun p : DV => toPy p.1)).map (·.2)).length ≤ sizeLine := by rw [rvo.length, svl]; exact hlen
  refine wpAny_pure ⟨_, rfl, .ref h'.objs.size, upd H h'.objs.size (.lst _), I1.laid (t' := tk) (fun b u e => ?_) (Nat.le_refl _)
    (show ObjOk X.prog X.w _ _ _ (.lst _) from ⟨hl2, out, e', rvo, he'⟩), rfl, q _ _ (I1.hok.fresh (Nat.le_refl _)) rso⟩
  have hb : b < h'.objs.size := Heap.lt_size e
  rw [PyProof.Rows.sortedHeap_old (Nat.ne_of_lt hb) (by rw [PyProof.Rows.size_push']; exact Nat.lt_succ_of_lt hb)]
  exact Heap.get?_push_of_some _ e
end
end DL
/-! sorted(x) of a dict as an expression; {k: v} with a tuple for its key. -/
namespace DL
open PySem PySem.Spec L2
section
variable {X : Cx} {ca : Nat → Addr} {W : WX} {a b c e : Expr} {fe fk fv : Ev → Res Rv} {pos : Pos}
@[simp] def srtKL : List Rv → Option Rv
  | [⟨_, .dT kvs⟩] => if srtKOk (keysD kvs) = true ∧ kvs.length ≤ lim then some ⟨.fr, .lst (srtD false (keysD kvs))⟩ else none
  | _ => none
theorem cd_sortedK (hc : X.calm = true) (hu : X.A.units + 64 < cLine) : CallR X (.builtin "sorted") (rSortKT X.K) ∧ CallD X.K (rSortKT X.K) srtKL := by
  refine ⟨cr_sortedKT hc hu, ?_⟩
  intro Hin Z s σ H0 H xs rs c Q R k q e h
  match rs, e, q with
  | [⟨kd, .dT kvs⟩], e, q =>
    obtain ⟨v, rfl, q1⟩ := q.one
    obtain ⟨p, rfl, hp⟩ := q1.dT rfl
    simp only [srtKL] at e
    split at e
    · rename_i hb
      cases e
      exact ⟨p, kvs, rfl, hp, hb.1, le_line hb.2, fun p2 vs hn r => h _ _ (same_new hn) (resNewL hn (r.mono (hide_mono (Same.refl _) fun _ _ _ _ => trivial)))⟩
    · cases e
/-- {k: v}, k a tuple -/
def tDisp1T (tk tv : TE) : TE := fun σ H Q => ∀ p, H p = none → tk σ (upd H p (.dT [])) fun x H1 => tv σ H1 fun y H2 => H2 p = some (.dT []) ∧ ∃ (b : Addr) (k : List L2.Key), x = .ref b ∧ H2 b = some (.tup (k.map kV)) ∧ Q (.ref p) (upd H2 p (.dT [(k, y)]))
theorem pe_disp1T {tk tv : TE} {k v : Expr} (hu : X.A.units + 1 < cLine) (hk : PE X k tk) (hv : PE X v tv) : PE X (.Dict [some k] [v] pos) (tDisp1T tk tv) := by
  refine ⟨fun pins s σ H Q I q => ?_⟩
  have hn := I.hok.fresh (Nat.le_refl s.heap.objs.size)
  have I1 := I.laid (a := s.heap.objs.size) (o := .dT []) (h' := s.heap.push { cls := .type "dict", data := .dict #[] }) (t' := s.toks) (fun _ _ q => Heap.get?_push_of_some _ q) (Nat.le_refl _) (dt_empty s.heap I.big)
  rw [arm_eval_Dict, zip_pairTrees [some k] [v] X.env pos rfl rfl, dictDisplay_pairs (pairTrees [some k] [v] X.env pos) (by intro z; have := pairTrees_length [some k] [v] X.env pos rfl rfl; rw [z] at this; cases this) (by rw [pairTrees_length [some k] [v] X.env pos rfl rfl]; show 1 < 17; omega)]
  refine wpAny_bind (wpAny_standAt (wpAny_bind (wpAny_subDictH (knd := tupleKind (mixKind X.prog X.w)) (Q := fun d s' => wpAny (model X.prog X.w) X.A (pure (Value.ref d)) (EP X pins σ Q) X.xe s') (show X.A.units < cLine by omega) (by rw [pairTrees_length [some k] [v] X.env pos rfl rfl]; show 1 ≤ 15; omega) ?_)))
  refine pairTrees_cons_walk (thn (hk.run pins _ σ _ _ I1 (q _ hn)) fun u s1 ⟨x, H1, I2, rx, q1⟩ => thn (hv.run pins s1 σ H1 _ I2 q1) fun w2 s2 ⟨y, H2, I3, ry, q2⟩ => pairTrees_nil_walk ?_)
  obtain ⟨e, b, ks, ex, eb, q3⟩ := q2
  subst ex
  cases (show u = Value.ref b from rx)
  obtain ⟨z, hd, xs, rel, dd⟩ := dt_of I3.hok e
  cases rel
  refine ⟨[(ks, b, w2)], ⟨rfl, rfl, key_of I3.hok eb, trivial⟩, dd, fun h' tk' dd' hs => wpAny_pure ⟨.ref s.heap.objs.size, _, ?_, rfl, q3⟩⟩
  obtain ⟨o, es, ep, hq, h2, h3, h4, _, h5⟩ := dd'
  have rel : KT H2 [] ([] : List (List L2.Key × Addr × Value)) := .nil
  refine d_write I3 (by rw [e]; exact True.intro) hs ⟨o, hq⟩ ⟨by rw [sizeLine_eq]; simp, hd, _, (rel.put ks eb ry).keeps fun c ys ec => ?_, o, es, ep, hq, h2, h3, h4, h5⟩
  rw [upd_ne (ne_of ec e (fun z => nomatch z))]
  exact ec
end
end DL
/-! An own dict of own lists: x[k] != [], y = x[k].pop(). -/
namespace DL
open PySem PySem.Spec L2
section
variable {X : Cx} {ca : Nat → Addr} {W : WX} {a b c e : Expr} {fe fk fv : Ev → Res Rv} {pos : Pos}
@[simp] def dispO : Rv → Rv → Option Rv := fun k v => match k.d with
  | .tup ds => (intsOf ds).bind fun w => (toV v.d).map fun z => ⟨.fr, .dT [(w, z)]⟩
  | _ => none
@[simp] def fDisp1 (fk fv : Ev → Res Rv) : Ev → Res Rv := fun s => bnd (fk s) fun k => bnd (fv s) fun v => lft (dispO k v)
theorem de_disp1T {k v : Expr} (hu : X.A.units + 1 < cLine) (hk : DE X ca W k fk) (hv : DE X ca W v fv) : DE X ca W (.Dict [some k] [v] pos) (fDisp1 fk fv) :=
  (pe_disp1T hu hk hv).imp fun σ H Q h => by
    obtain ⟨Hin, Z, s, R, h⟩ := h
    simp only [fDisp1, sat_bnd] at h
    intro p hp
    have kp : Same H (upd H p (.dT [])) := same_new hp
    refine tE_go (R.mono kp) (sat_mono h (fun kk h v1 H1 k1 R1 q1 => tE_go R1 (sat_mono h (fun vv h v2 H2 k2 R2 q2 => ?_) fun _ h => exq_go (kp.trans k1) h)) fun _ h => exq_go kp h)
    obtain ⟨c, e3, h⟩ := sat_lft h
    obtain ⟨kd, kd2⟩ := kk
    have hp2 : H2 p = some (.dT []) := k2 _ _ (k1 _ _ upd_same)
    cases kd2 with
    | tup ds =>
      simp only [dispO, Option.bind_eq_some_iff, Option.map_eq_some_iff] at e3
      obtain ⟨w, ei, z, e2, rfl⟩ := e3
      obtain ⟨b, rfl, hb⟩ := q1.tupI rfl ei
      have ez : v2 = z := toV_rp e2 q2.full
      subst ez
      refine ⟨hp2, b, w.map Sum.inl, rfl, k2 _ _ hb, h _ _ (fun a o q => ?_) ⟨p, rfl, hp, upd_same⟩⟩
      rw [upd_ne (ne_of_none q hp)]
      exact k2 _ _ (k1 _ _ (kp _ _ q))
    | _ => cases e3
def dlIx (kvs : List (List Int × List D)) (w : List Int) : Option Nat := kvs.findIdx? fun p => decide (p.1 = w)
theorem dlIx_get {l : List (List Int × Addr × List D)} {w : List Int} {j : Nat} (h : dlIx (l.map fun t => (t.1, t.2.2)) w = some j) : ∃ t, l[j]? = some t ∧ t.1 = w ∧ valV ((l.map fun t => (t.1, V.ref t.2.1)).map encT) (w.map Sum.inl) = some (.ref t.2.1) := by
  rw [valV_encT]
  unfold dlIx at h
  rw [List.findIdx?_map] at h
  obtain ⟨hj, h1, h2⟩ := List.findIdx?_eq_some_iff_getElem.mp h
  have h1' : l[j].1 = w := by simpa using h1
  refine ⟨l[j], List.getElem?_eq_getElem hj, h1', ?_⟩
  unfold valV
  have : (l.map fun t => (t.1, V.ref t.2.1)).find? (fun kv => decide (kv.1 = w)) = some (l[j].1, V.ref l[j].2.1) := by
    rw [List.find?_map, Option.map_eq_some_iff]
    refine ⟨l[j], ?_, rfl⟩
    rw [List.find?_eq_some_iff_getElem]
    refine ⟨by simpa using h1', j, hj, rfl, fun i hi => ?_⟩
    have := h2 i hi
    simpa using this
  rw [this]
  rfl
theorem Rel.mutDl {K : PySem.W.Frag} {Hin H : Hp} {Z : Addr → Prop} {s : Ev} {σ : L2.St} {p q : Addr} {o : HO} (R : Rel K Hin Z s σ H) {i : Nat} {kvs : List (List Int × List D)} (hno : noAs (st s i .un) = true) (hw : okW i s = true) (hp : σ[i]? = some (some (.ref p))) (hq : Z q ∧ Hin q = none) (hnq : ¬ IT H q) (hi : i < s.length) (hA' : ∀ R', Same (Rg Z s σ H) R' → DlP K Hin Z R' (upd H q o) p kvs) :
    Rel K Hin Z (st s i (.dl kvs)) σ (upd H q o) := by
  have nt : ∀ (j : Nat) (f : D), i ≠ j → s[j]? ≠ some (Sl.as f) := fun j f q z => noAs_no hno j f (by rw [st_eq, List.getElem?_set, if_neg q]; exact z)
  have nd : ∀ (j : Nat) (f : List (List Int × List D)), i ≠ j → s[j]? ≠ some (Sl.dl f) := fun j f q z => noAs_dl hno j f (by rw [st_eq, List.getElem?_set, if_neg q]; exact z)
  have pv : ∀ a, priv (st s i (.dl kvs)) σ a → priv s σ a := fun a ⟨j, f, h1, h2⟩ => by
    rw [st_eq, List.getElem?_set] at h1
    by_cases q : i = j
    · rw [if_pos q] at h1; split at h1 <;> cases h1
    · rw [if_neg q] at h1; exact ⟨j, f, h1, h2⟩
  have g : Same (Rg Z s σ H) (Rg Z (st s i (.dl kvs)) σ (upd H q o)) := hide_upd hnq (.inl hq.1) fun a y => y.imp id (pv a)
  refine ⟨by rw [st_eq]; simpa using R.len, fun a u h => ?_, fun a z => ?_, fun j e h => ?_, fun j e h => ?_, fun j k e f r h1 h2 h3 h4 => ?_, fun j e h => ?_, by rw [st_eq] at g ⊢; exact pn_set0 R.pn g (fun _ _ y => nomatch y), fun j k h => ?_, .none fun j k h => by
    rw [st_eq, List.getElem?_set] at h
    by_cases y : i = j
    · rw [if_pos y] at h; split at h <;> cases h
    · rw [if_neg y] at h
      exact absurd (by rw [st_eq, List.getElem?_set, if_neg y]; exact h) (noAs_tr hno j k)⟩
  · rw [upd_ne (ne_of_none h hq.2)]; exact R.base _ _ h
  · by_cases y : a = q
    · rw [y, upd_same]; simp
    · rw [upd_ne y]; exact R.zin a z
  · rw [st_eq, List.getElem?_set] at h
    by_cases y : i = j
    · rw [if_pos y] at h; split at h <;> cases h
    · rw [if_neg y] at h
      obtain ⟨w, h1, h2⟩ := R.sh j e h
      exact ⟨w, h1, h2.mono g⟩
  · rw [st_eq, List.getElem?_set] at h
    by_cases y : i = j
    · rw [if_pos y] at h; split at h <;> cases h
    · rw [if_neg y] at h
      obtain ⟨w, h1, h2, h3, h4⟩ := R.ow j e h
      exact ⟨w, h1, h2, h3, own_upd h4 g fun z => h2 (by rw [z]; exact hq.1)⟩
  · rw [st_eq, List.getElem?_set] at h1 h2
    by_cases q1 : i = j
    · rw [if_pos q1] at h1; split at h1 <;> cases h1
    · by_cases q2 : i = k
      · rw [if_pos q2] at h2; split at h2 <;> cases h2
      · rw [if_neg q1] at h1
        rw [if_neg q2] at h2
        exact R.inj j k e f r h1 h2 h3 h4
  · rw [st_eq, List.getElem?_set] at h
    by_cases y : i = j
    · rw [if_pos y] at h; split at h <;> cases h
    · rw [if_neg y] at h
      exact absurd h (nt j e y)
  · rw [st_eq, List.getElem?_set] at h
    by_cases y : i = j
    · rw [if_pos y, if_pos hi] at h
      cases h
      subst y
      exact ⟨p, hp, hA' _ g⟩
    · rw [if_neg y] at h
      exact absurd h (nd j k y)
theorem gt_dl {i : Nat} {s : Ev} {d : List (List Int × List D)} (h : gt s i = .dl d) : s[i]? = some (.dl d) := gt_eq s i _ (by simp) h
@[simp] def fDlNe (i : Nat) (fk : Ev → Res Rv) : Ev → Res Bool := fun s => match gt s i with
  | .dl kvs => bnd (fk s) fun k => match keyD k.d with
    | some (.t w) => match dlIx kvs w with
      | some j => match kvs[j]? with
        | some (_, ds) => if okEq (.lst ds) = true then .ok (!eqD (.lst ds) (.lst [])) else .stuck
        | none => .stuck
      | none => .stuck
    | _ => .stuck
  | _ => .stuck
theorem dt_dlNe (i : Nat) {x : Str} {px p1 p2 : Pos} {k : Expr} (hu : X.A.units + 64 < cLine) (hk : DE X ca W k fk) (hN : X.N[i]? = some x := by rfl) (hx : Vis X.env.scope x := by first | exact Or.inl rfl | exact Or.inr (Or.inl rfl) | exact Or.inr (Or.inr rfl)) (hd : (x == ("__debug__" : Str)) = false := by decide) (hcd : (x == ("__classdict__" : Str)) = false := by decide)
    (hs : NoSl k := by intro _ _; rfl) (hm : behindInMarks .NotEq (.List [] p2) = false := by first | exact nomark _ | rfl) : DT X ca W (.Compare (.Subscript (.Name x px) k p1) [.NotEq] [.List [] p2] pos) (fDlNe i fk) :=
  (pt_cmpR (od_ne hu).1 (pe_dget (by omega) (pe_var (i := i) hN hx hd hcd) hk hs) (pe_lst pa_nil) hm).imp fun σ H Q h => by
    obtain ⟨Hin, Z, s, R, h⟩ := h
    simp only [fDlNe] at h
    cases eg : gt s i with
    | dl kvs =>
      rw [eg] at h
      dsimp only at h
      rw [sat_bnd] at h
      obtain ⟨p, hp, hz, l, hl, hH, hnd, hls⟩ := R.dl i kvs (gt_dl eg)
      refine ⟨.ref p, hp, tE_go R (sat_mono h (fun kk h v1 H1 k1 R1 q1 => ?_) fun _ h => h)⟩
      cases ek : keyD kk.d with
      | none => rw [ek] at h; exact h.elim
      | some kx =>
        cases kx with
        | i _ => rw [ek] at h; exact h.elim
        | t w =>
          rw [ek] at h
          dsimp only at h
          cases ej : dlIx kvs w with
          | none => rw [ej] at h; exact h.elim
          | some j =>
            rw [ej] at h
            dsimp only at h
            rw [← hl] at ej h
            obtain ⟨t, ht, htw, hv⟩ := dlIx_get ej
            rw [List.getElem?_map, ht] at h
            simp only [Option.map_some] at h
            obtain ⟨hok, h⟩ := sat_if h
            obtain ⟨ha, vs, hvs, rvs⟩ := hls t (List.mem_of_getElem? ht)
            obtain ⟨kd, kdd⟩ := kk
            cases kdd with
            | tup ds =>
              simp only [keyD, Option.map_eq_some_iff] at ek
              obtain ⟨w', ei, e⟩ := ek
              cases e
              obtain ⟨b, rfl, hb⟩ := q1.tupI rfl ei
              refine ⟨p, .ref t.2.1, rfl, ?_, ?_⟩
              · have g := DGet.t (k := w.map Sum.inl) (k1 _ _ hH) hb
                rw [hv] at g
                exact g
              · refine ⟨Nat.zero_le _, fun n hn => ?_⟩
                have s1 : Same H1 (upd H1 n (.lst [])) := same_new hn
                have r1 : Rp X.K (upd H1 n (.lst [])) (.ref t.2.1) (.lst t.2.2) := .lst (s1 _ _ (k1 _ _ hvs)) (rvs.mono ((hide_le.trans k1).trans s1))
                have r2 : Rp X.K (upd H1 n (.lst [])) (.ref n) (.lst []) := .lst upd_same .nil
                exact ⟨_, _, r1.dp (SeqAt.canLay_of_shaped hok), r2.dp rfl, hok, rfl, _, rfl, h _ (k1.trans s1)⟩
            | _ => simp [keyD] at ek
    | _ => rw [eg] at h; exact h.elim
theorem DlP.put {K : PySem.W.Frag} {Hin : Hp} {Z : Addr → Prop} {R H : Hp} {p : Addr} {l : List (List Int × Addr × List D)} {m : Nat} {t : List Int × Addr × List D} {vs' : List V} {ds' : List D} (hz : Z p ∧ Hin p = none)
    (hH : H p = some (.dT ((l.map fun t => (t.1, V.ref t.2.1)).map encT))) (hnd : (p :: l.map (·.2.1)).Nodup) (hls : ∀ t ∈ l, (Z t.2.1 ∧ Hin t.2.1 = none) ∧ ∃ vs, H t.2.1 = some (.lst vs) ∧ RpL K R vs t.2.2) (ht : l[m]? = some t) (r : RpL K R vs' ds') :
    DlP K Hin Z R (upd H t.2.1 (.lst vs')) p ((l.map fun t => (t.1, t.2.2)).set m (t.1, ds')) := by
  have hm : m < l.length := (List.getElem?_eq_some_iff.mp ht).1
  have htm := List.mem_of_getElem? ht
  have hnp : p ≠ t.2.1 := fun z => (List.nodup_cons.mp hnd).1 (by rw [z]; exact List.mem_map.mpr ⟨t, htm, rfl⟩)
  have e1 : (l.set m (t.1, t.2.1, ds')).map (fun t => (t.1, V.ref t.2.1)) = l.map fun t => (t.1, V.ref t.2.1) := by
    rw [List.map_set]
    refine List.ext_getElem? fun n => ?_
    rw [List.getElem?_set]
    by_cases z : m = n
    · subst z
      rw [if_pos rfl, List.getElem?_map, ht]
      simp [hm]
    · rw [if_neg z]
  have e2 : (l.set m (t.1, t.2.1, ds')).map (·.2.1) = l.map (·.2.1) := by
    rw [List.map_set]
    refine List.ext_getElem? fun n => ?_
    rw [List.getElem?_set]
    by_cases z : m = n
    · subst z
      rw [if_pos rfl, List.getElem?_map, ht]
      simp [hm]
    · rw [if_neg z]
  refine ⟨hz, l.set m (t.1, t.2.1, ds'), by rw [List.map_set], by rw [e1, upd_ne hnp]; exact hH, by rw [e2]; exact hnd, fun u hu => ?_⟩
  obtain ⟨n, hn⟩ := List.mem_iff_getElem?.mp hu
  rw [List.getElem?_set] at hn
  by_cases z : m = n
  · rw [if_pos z, if_pos hm] at hn
    cases hn
    exact ⟨(hls t htm).1, vs', upd_same, r⟩
  · rw [if_neg z] at hn
    obtain ⟨a, vs, h1, h2⟩ := hls u (List.mem_of_getElem? hn)
    have ne : u.2.1 ≠ t.2.1 := fun y => by
      have nd := (List.nodup_cons.mp hnd).2
      have g1 : (l.map (·.2.1))[m]? = some t.2.1 := by rw [List.getElem?_map, ht]; rfl
      have g2 : (l.map (·.2.1))[n]? = some t.2.1 := by rw [List.getElem?_map, hn]; exact congrArg some y
      obtain ⟨b1, c1⟩ := List.getElem?_eq_some_iff.mp g1
      obtain ⟨b2, c2⟩ := List.getElem?_eq_some_iff.mp g2
      rcases Nat.lt_trichotomy m n with q | q | q
      · exact List.pairwise_iff_getElem.mp nd m n b1 b2 q (c1.trans c2.symm)
      · exact z q
      · exact List.pairwise_iff_getElem.mp nd n m b2 b1 q (c2.trans c1.symm)
    exact ⟨a, vs, by rw [upd_ne ne]; exact h1, h2⟩
@[simp] def fDlPop (i j : Nat) (fk : Ev → Res Rv) : Ev → Out := fun s => match gt s i with
  | .dl kvs => bndR (fk s) fun k => match keyD k.d with
    | some (.t w) => match dlIx kvs w with
      | some m => match kvs[m]? with
        | some (w', ds) => match ds.getLast? with
          | some d => if noAs (st s i .un) = true then .nx (st (st s i (.dl (kvs.set m (w', ds.dropLast)))) j (.sh d)) else .stuck
          | none => .stuck
        | none => .stuck
      | none => .stuck
    | _ => .stuck
  | _ => .stuck
theorem ds_dlPop (i j : Nat) {x y : Str} {px py p1 apos cpos : Pos} {k : Expr} (hu : X.A.units + 1 < cLine) (hk : DE X ca W k fk) (hNd : X.N.Nodup) (pa : PlainAttrs "list") (slot : Slot "list" "pop" "list.pop") (hty : typeOf (.builtin "list.pop") = pure (.type "method_descriptor"))
    (hN : X.N[i]? = some x := by rfl) (hx : Vis X.env.scope x := by first | exact Or.inl rfl | exact Or.inr (Or.inl rfl) | exact Or.inr (Or.inr rfl)) (hd : (x == ("__debug__" : Str)) = false := by decide) (hcd : (x == ("__classdict__" : Str)) = false := by decide)
    (hj : X.N[j]? = some y := by rfl) (hy : Loc X.env.scope y := by first | exact Or.inl rfl | exact Or.inr rfl) (hs : NoSl k := by intro _ _; rfl)
    (hbase : attributeBase (.Subscript (.Name x px) k p1) "pop" X.env (eval (.Subscript (.Name x px) k p1) X.env) = eval (.Subscript (.Name x px) k p1) X.env := by rfl) (hline : (apos.endLine == cpos.line) = true := by rfl)
    (hsw : swapsWith (.Call (.Attribute (.Subscript (.Name x px) k p1) "pop" apos) [] [] cpos) (some (.Name y py)) pos.line X.env = pure false := by rfl) (hf : X.fn y = true ∨ X.env.scope.names.lookup y = some .local := by first | exact .inl rfl | exact .inr rfl | assumption) :
    DS X ca W (.Assign [.Name y py] (.Call (.Attribute (.Subscript (.Name x px) k p1) "pop" apos) [] [] cpos) pos) (fDlPop i j fk) :=
  (ps_set hNd hj hy (pe_bm0 pa slot hty md_pop.1 (pe_dget hu (pe_var (i := i) hN hx hd hcd) hk hs) hbase hline) hsw hf).imp fun Dn σ H h => by
    obtain ⟨Hin, Z, s, R, h⟩ := h
    simp only [fDlPop] at h
    cases eg : gt s i with
    | dl kvs =>
      rw [eg] at h
      dsimp only at h
      have eg' := gt_dl eg
      have hsz : i < s.length := (List.getElem?_eq_some_iff.mp eg').1
      obtain ⟨p, hp, hz, l, hl, hH, hnd, hls⟩ := R.dl i kvs eg'
      refine ⟨.ref p, hp, tE_go R (sat_mono (satS_bnd R h) (fun kk h v1 H1 k1 R1 q1 => ?_) fun _ h => h)⟩
      cases ek : keyD kk.d with
      | none => rw [ek] at h; exact h.elim
      | some kx =>
        cases kx with
        | i _ => rw [ek] at h; exact h.elim
        | t w =>
          rw [ek] at h
          dsimp only at h
          cases ej : dlIx kvs w with
          | none => rw [ej] at h; exact h.elim
          | some m =>
            rw [ej] at h
            dsimp only at h
            rw [← hl] at ej h
            obtain ⟨t, ht, htw, hv⟩ := dlIx_get ej
            rw [List.getElem?_map, ht] at h
            simp only [Option.map_some] at h
            obtain ⟨ha, vs, hvs, rvs⟩ := hls t (List.mem_of_getElem? ht)
            cases el : t.2.2.getLast? with
            | none => rw [el] at h; exact h.elim
            | some d =>
              rw [el] at h
              dsimp only at h
              split at h
              · rename_i hno
                obtain ⟨kd, kdd⟩ := kk
                cases kdd with
                | tup ds =>
                  simp only [keyD, Option.map_eq_some_iff] at ek
                  obtain ⟨w', ei, e⟩ := ek
                  cases e
                  obtain ⟨b, rfl, hb⟩ := q1.tupI rfl ei
                  have hlen := rvs.length
                  have el2 : t.2.2[t.2.2.length - 1]? = some d := by rw [← List.getLast?_eq_getElem?]; exact el
                  obtain ⟨v, hv1, hv2⟩ := rvs.get el2
                  rw [← hlen] at hv1
                  have hvs1 := k1 _ _ hvs
                  refine ⟨p, .ref t.2.1, rfl, ?_, .inl ⟨rfl, vs, SqL.of hvs1⟩, t.2.1, vs, v, rfl, rfl, hvs1, hv1, ?_⟩
                  · have g := DGet.t (k := w.map Sum.inl) (k1 _ _ hH) hb
                    rw [hv] at g
                    exact g
                  · have g1 : Same (Rg Z s σ H) (Rg Z s σ H1) := rg_mono k1
                    have R2 := R1.mutDl (q := t.2.1) (o := .lst vs.dropLast) (i := i) (kvs := (l.map fun t => (t.1, t.2.2)).set m (t.1, t.2.2.dropLast)) hno (by simp [okW, eg]) hp ha (not_it hvs1 fun _ z => nomatch z) hsz fun R' g' =>
                      DlP.put hz (k1 _ _ hH) hnd (fun t' ht' => let ⟨a1, vs1, b1, c1⟩ := hls t' ht'; ⟨a1, vs1, k1 _ _ b1, c1.mono (g1.trans g')⟩) ht ((rvs.mono (g1.trans g')).dropLast)
                    have pv : Same (Rg Z s σ H1) (Rg Z (st s i (.dl ((l.map fun t => (t.1, t.2.2)).set m (t.1, t.2.2.dropLast)))) σ (upd H1 t.2.1 (.lst vs.dropLast))) := hide_upd (not_it hvs1 fun _ z => nomatch z) (.inl ha.1) fun a y => y.imp id fun ⟨j', f, h1, h2⟩ => by
                      rw [st_eq, List.getElem?_set] at h1
                      by_cases q : i = j'
                      · rw [if_pos q] at h1; split at h1 <;> cases h1
                      · rw [if_neg q] at h1; exact ⟨j', f, h1, h2⟩
                    exact h _ _ (R2.setSh (hv2.mono (g1.trans pv)) j)
                | _ => simp [keyD] at ek
              · exact h.elim
    | _ => rw [eg] at h; exact h.elim
end
end DL
/-! An own dict of own lists: made by x.setdefault(k, []).append(v), told, bound. -/
namespace DL
open PySem PySem.Spec L2
section
variable {K : PySem.W.Frag} {Hin H H' : Hp} {Z : Addr → Prop} {s : Ev} {σ : L2.St}
theorem Rel.hideSet (R : Rel K Hin Z s σ H) (e : Same H H') (S : Addr → Prop) (hS : ∀ a, S a → H a = none ∧ H' a ≠ none) : Rel K Hin (fun a => Z a ∨ S a) s σ H' := by
  have g : Same (Rg Z s σ H) (Rg (fun a => Z a ∨ S a) s σ H') := hide_mono e fun a h _ q => by
    rcases q with (q | q) | q
    · exact .inl q
    · exact absurd (hS a q).1 h
    · exact .inr q
  refine ⟨R.len, R.base.trans e, fun a z => ?_, fun i d h => ?_, fun i d h => ?_, R.inj, fun i d h => let ⟨p, h1, h2⟩ := R.as i d h; ⟨p, h1, h2.mono (fun _ _ a b => ⟨.inl a, b⟩) e⟩, fun i v d h => let ⟨h1, h2⟩ := R.pn i v d h; ⟨h1, h2.mono g⟩, fun i k h => let ⟨p, h1, h2⟩ := R.dl i k h; ⟨p, h1, h2.mono (fun _ _ a b => ⟨.inl a, b⟩) e g⟩, R.tr.mono (fun _ _ a b => ⟨.inl a, b⟩) e⟩
  · rcases z with z | z
    · intro q; exact R.zin a z (e.free q)
    · exact (hS a z).2
  · obtain ⟨v, h1, h2⟩ := R.sh i d h
    exact ⟨v, h1, h2.mono g⟩
  · obtain ⟨p, h1, h2, h3, h4⟩ := R.ow i d h
    exact ⟨p, h1, fun z => z.elim h2 fun z => h4.there (hS p z).1, h3, h4.mono g e⟩
theorem Rel.toDl (R : Rel K Hin Z s σ H) {i : Nat} {p : Addr} {kvs : List (List Int × List D)} (hi : i < s.length) (hw : okW i s = true) (hp : σ[i]? = some (some (.ref p))) (hA : ∀ R', Same (Rg Z s σ H) R' → DlP K Hin Z R' H p kvs) : Rel K Hin Z (st s i (.dl kvs)) σ H := by
  have pv : ∀ a, priv (st s i (.dl kvs)) σ a → priv s σ a := fun a ⟨j, f, h1, h2⟩ => by
    rw [st_eq, List.getElem?_set] at h1
    by_cases q : i = j
    · rw [if_pos q] at h1; split at h1 <;> cases h1
    · rw [if_neg q] at h1; exact ⟨j, f, h1, h2⟩
  have g : Same (Rg Z s σ H) (Rg Z (st s i (.dl kvs)) σ H) := hide_mono (Same.refl _) fun a _ _ y => y.imp id (pv a)
  refine ⟨by rw [st_eq]; simpa using R.len, R.base, R.zin, fun j e h => ?_, fun j e h => ?_, fun j k e f r h1 h2 h3 h4 => ?_, by rw [st_eq]; exact as_set0 R.as (fun _ y => nomatch y), by rw [st_eq] at g ⊢; exact pn_set0 R.pn g (fun _ _ y => nomatch y), fun j k h => ?_, by rw [st_eq]; exact tr_set0 R.tr (fun _ y => nomatch y)⟩
  · rw [st_eq, List.getElem?_set] at h
    by_cases y : i = j
    · rw [if_pos y] at h; split at h <;> cases h
    · rw [if_neg y] at h
      obtain ⟨w, h1, h2⟩ := R.sh j e h
      exact ⟨w, h1, h2.mono g⟩
  · rw [st_eq, List.getElem?_set] at h
    by_cases y : i = j
    · rw [if_pos y] at h; split at h <;> cases h
    · rw [if_neg y] at h
      obtain ⟨w, h1, h2, h3, h4⟩ := R.ow j e h
      exact ⟨w, h1, h2, h3, h4.mono g (Same.refl _)⟩
  · rw [st_eq, List.getElem?_set] at h1 h2
    by_cases q1 : i = j
    · rw [if_pos q1] at h1; split at h1 <;> cases h1
    · by_cases q2 : i = k
      · rw [if_pos q2] at h2; split at h2 <;> cases h2
      · rw [if_neg q1] at h1
        rw [if_neg q2] at h2
        exact R.inj j k e f r h1 h2 h3 h4
  · rw [st_eq, List.getElem?_set] at h
    by_cases y : i = j
    · rw [if_pos y, if_pos hi] at h
      cases h
      subst y
      exact ⟨p, hp, hA _ g⟩
    · rw [if_neg y] at h
      obtain ⟨w, h1, h2⟩ := R.dl j k h
      exact ⟨w, h1, h2.mono (fun _ _ a b => ⟨a, b⟩) (Same.refl _) g⟩
theorem gt_of : ∀ {s : Ev} {i : Nat} {x : Sl}, s[i]? = some x → gt s i = x
  | [], i, x, h => by simp at h
  | y :: r, 0, x, h => by simp at h; simp [h]
  | y :: r, n + 1, x, h => gt_of (s := r) (i := n) (by simpa using h)
/-- with a word more -/
def dlAdd (kvs : List (List Int × List D)) (w : List Int) (d : D) : Option (List (List Int × List D)) :=
  if kvs.length < lim then match dlIx kvs w with
    | some m => match kvs[m]? with
      | some (w', ds) => if ds.length < lim then some (kvs.set m (w', ds ++ [d])) else none
      | none => none
    | none => some (kvs ++ [(w, [d])])
  else none
theorem dlIx_none {l : List (List Int × Addr × List D)} {w : List Int} (h : dlIx (l.map fun t => (t.1, t.2.2)) w = none) : valV (l.map fun t => (t.1, V.ref t.2.1)) w = none ∧ putK (l.map fun t => (t.1, V.ref t.2.1)) w = fun v => (l.map fun t => (t.1, V.ref t.2.1)) ++ [(w, v)] := by
  unfold dlIx at h
  rw [List.findIdx?_map] at h
  have h := List.findIdx?_eq_none_iff.mp h
  have h2 : ∀ t ∈ l, ¬ t.1 = w := fun t ht => by simpa using h t ht
  refine ⟨?_, ?_⟩
  · unfold valV
    rw [Option.map_eq_none_iff, List.find?_eq_none]
    intro x hx
    obtain ⟨t, ht, rfl⟩ := List.mem_map.mp hx
    simpa using h2 t ht
  · funext v
    unfold putK
    rw [if_neg]
    rw [List.any_eq_true]
    rintro ⟨x, hx, e⟩
    obtain ⟨t, ht, rfl⟩ := List.mem_map.mp hx
    exact h2 t ht (by simpa using e)
theorem Rg_dl {Hx : Hp} {q : Addr} {o : HO} {i : Nat} {kvs : List (List Int × List D)} (hz : Z q) (hn : ¬ IT Hx q) : Same (Rg Z s σ Hx) (Rg Z (st s i (.dl kvs)) σ (upd Hx q o)) :=
  hide_upd hn (.inl hz) fun a y => y.imp id fun ⟨j', f, h1, h2⟩ => by
    rw [st_eq, List.getElem?_set] at h1
    by_cases q : i = j'
    · rw [if_pos q] at h1; split at h1 <;> cases h1
    · rw [if_neg q] at h1; exact ⟨j', f, h1, h2⟩
theorem dl_step {ca : Nat → Addr} {W : WX} {fk : Ev → Res Rv} {i j : Nat} {kvs kvs' : List (List Int × List D)} {d : D} {k : Rv} {w : List Int} {Q : Hp → Prop} (R : Rel K Hin Z s σ H) (hi : s[i]? = some (.dl kvs)) (hj : s[j]? = some (.sh d)) (hno : noAs (st s i .un) = true) (hfk : fk s = .ok k) (hk : keyD k.d = some (.t w)) (ha : dlAdd kvs w d = some kvs')
    (q : ∀ Z' H', (∀ a, Z a → Z' a) → (∀ a, Z' a → Z a ∨ H a = none) → Rel K Hin Z' (st s i (.dl kvs')) σ H' → (∀ a o, H a = some o → ¬ Z a ∨ IT H a → H' a = some o) → Same (Rg Z s σ H) (Rg Z' (st s i (.dl kvs')) σ H') → Q H') :
    tBM K "list" rAppend (tDSetdT (tVar i) (tE K ca W fk) (tLst tNil)) (tCons (tVar j) tNil) σ H (fun _ H' => Q H') := by
  obtain ⟨p, hp, hz, l, hl, hH, hnd, hls⟩ := R.dl i kvs hi
  have hil : i < s.length := (List.getElem?_eq_some_iff.mp hi).1
  have hwi : okW i s = true := by
    have : gt s i = .dl kvs := gt_of hi
    simp [okW, this]
  obtain ⟨vw, hvw, rvw⟩ := R.sh j d hj
  refine ⟨.ref p, hp, p, rfl, .inr ⟨_, .of hH⟩, tE_go R ?_⟩
  rw [hfk]
  intro y H1 k1 R1 q1
  refine ⟨Nat.zero_le _, fun n hn => ?_⟩
  have s1 : Same H1 (upd H1 n (.lst [])) := same_new hn
  have kk := k1.trans s1
  obtain ⟨kd, kdd⟩ := k
  cases kdd with
  | tup ds =>
    simp only [keyD, Option.map_eq_some_iff] at hk
    obtain ⟨w', ei, e⟩ := hk
    cases e
    obtain ⟨b, rfl, hb⟩ := q1.tupI rfl ei
    unfold dlAdd at ha
    split at ha
    · rename_i hlen
      rw [← hl] at ha hlen
      refine ⟨_, w.map Sum.inl, b, kk _ _ hH, rfl, s1 _ _ hb, by rw [List.length_map, List.length_map]; rw [List.length_map] at hlen; exact lt_line hlen, fun v hv => ?_, fun hv => ?_⟩
      · cases ej : dlIx (l.map fun t => (t.1, t.2.2)) w with
        | none => rw [valV_encT, (dlIx_none ej).1] at hv; cases hv
        | some m =>
          obtain ⟨t, ht, htw, hv2⟩ := dlIx_get ej
          rw [hv2] at hv
          cases hv
          rw [ej] at ha
          dsimp only at ha
          rw [List.getElem?_map, ht] at ha
          simp only [Option.map_some] at ha
          split at ha
          · rename_i hl2
            cases ha
            obtain ⟨hz2, vs, hvs, rvs⟩ := hls t (List.mem_of_getElem? ht)
            have hvs2 := kk _ _ hvs
            refine ⟨.inl ⟨rfl, vs, SqL.of hvs2⟩, vw, hvw, t.2.1, vs, vw, rfl, rfl, hvs2, by rw [rvs.length]; exact lt_line hl2, ?_⟩
            have R2 := R1.mono s1
            have g0 : Same (Rg Z s σ H) (Rg Z s σ (upd H1 n (.lst []))) := rg_mono kk
            have hni : ¬ IT (upd H1 n (.lst [])) t.2.1 := not_it hvs2 fun _ z => nomatch z
            have R3 := R2.mutDl (q := t.2.1) (o := .lst (vs ++ [vw])) (i := i) (kvs := (l.map fun t => (t.1, t.2.2)).set m (t.1, t.2.2 ++ [d])) hno hwi hp hz2 hni hil fun R' g' =>
              DlP.put hz (kk _ _ hH) hnd (fun t' ht' => let ⟨a1, vs1, b1, c1⟩ := hls t' ht'; ⟨a1, vs1, kk _ _ b1, c1.mono (g0.trans g')⟩) ht ((rvs.mono (g0.trans g')).app (.cons (rvw.mono (g0.trans g')) .nil))
            refine q Z _ (fun _ z => z) (fun _ z => .inl z) R3 (fun a o h nz => ?_) (g0.trans (Rg_dl hz2.1 hni))
            rw [upd_ne (fun z => nz.elim (fun nz => nz (by rw [z]; exact hz2.1)) fun it => hni (by rw [← z]; exact it.mono kk))]
            exact kk _ _ h
          · cases ha
      · cases ej : dlIx (l.map fun t => (t.1, t.2.2)) w with
        | some m =>
          obtain ⟨t, ht, htw, hv2⟩ := dlIx_get ej
          rw [hv2] at hv; cases hv
        | none =>
          rw [ej] at ha
          cases ha
          have pk := (dlIx_none ej).2
          rw [putK_encT, pk]
          have hnp : p ≠ n := fun z => by rw [z] at hH; rw [k1 _ _ hH] at hn; cases hn
          have hn0 : H n = none := k1.free hn
          have hnl : ∀ t ∈ l, t.2.1 ≠ n := fun t ht z => by
            obtain ⟨_, vs, hvs, _⟩ := hls t ht
            rw [z] at hvs
            rw [k1 _ _ hvs] at hn; cases hn
          have hHn : ∀ o, upd (upd H1 n (.lst [])) p o n = some (.lst []) := fun o => by rw [upd_ne (Ne.symm hnp), upd_same]
          refine ⟨.inl ⟨rfl, [], SqL.of (hHn _)⟩, vw, hvw, n, [], vw, rfl, rfl, hHn _, by rw [sizeLine_eq]; simp, ?_⟩
          have R2 := R1.hideSet s1 (fun a => a = n) (fun a z => by rw [z]; exact ⟨hn, by rw [upd_same]; simp⟩)
          have g0 : Same (Rg Z s σ H) (Rg (fun a => Z a ∨ a = n) s σ (upd H1 n (.lst []))) := hide_mono kk fun a h _ q => by
            rcases q with (q | q) | q
            · exact .inl q
            · exact absurd (by rw [q]; exact hn0) h
            · exact .inr q
          have hnIn : Hin n = none := R.base.free hn0
          have nip : ¬ IT (upd H1 n (.lst [])) p := not_it (kk _ _ hH) fun _ z => nomatch z
          let l2 : List (List Int × Addr × List D) := l ++ [(w, n, [])]
          have e1 : (l2.map fun t => (t.1, V.ref t.2.1)) = (l.map fun t => (t.1, V.ref t.2.1)) ++ [(w, V.ref n)] := by simp [l2]
          have e2 : (p :: l2.map (·.2.1)).Nodup := by
            have e3 : p :: l2.map (·.2.1) = (p :: l.map (·.2.1)) ++ [n] := by simp [l2]
            rw [e3]
            refine List.nodup_append.mpr ⟨hnd, by simp, fun a ha b hb => ?_⟩
            rw [List.mem_singleton.mp hb]
            rcases List.mem_cons.mp ha with rfl | ha
            · exact hnp
            · obtain ⟨t, ht, rfl⟩ := List.mem_map.mp ha
              exact hnl t ht
          have hls2 : ∀ R', Same (Rg Z s σ H) R' → ∀ t ∈ l2, ((fun a => Z a ∨ a = n) t.2.1 ∧ Hin t.2.1 = none) ∧ ∃ vs, upd (upd H1 n (.lst [])) p (.dT (((l.map fun t => (t.1, V.ref t.2.1)) ++ [(w, V.ref n)]).map encT)) t.2.1 = some (.lst vs) ∧ RpL K R' vs t.2.2 := fun R' g' t ht => by
            rcases List.mem_append.mp ht with ht | ht
            · obtain ⟨a1, vs1, b1, c1⟩ := hls t ht
              have ne : t.2.1 ≠ p := fun z => (List.nodup_cons.mp hnd).1 (by rw [← z]; exact List.mem_map.mpr ⟨t, ht, rfl⟩)
              exact ⟨⟨.inl a1.1, a1.2⟩, vs1, by rw [upd_ne ne]; exact kk _ _ b1, c1.mono g'⟩
            · rw [List.mem_singleton.mp ht]
              exact ⟨⟨.inr rfl, hnIn⟩, [], hHn _, .nil⟩
          have R3 := R2.mutDl (q := p) (o := .dT (((l.map fun t => (t.1, V.ref t.2.1)) ++ [(w, V.ref n)]).map encT)) (i := i) (kvs := l2.map fun t => (t.1, t.2.2)) hno hwi hp ⟨.inl hz.1, hz.2⟩ nip hil fun R' g' =>
            ⟨⟨.inl hz.1, hz.2⟩, l2, rfl, by rw [upd_same, e1], e2, hls2 R' (g0.trans g')⟩
          have g1 : Same (Rg (fun a => Z a ∨ a = n) s σ (upd H1 n (.lst []))) (Rg (fun a => Z a ∨ a = n) (st s i (.dl (l2.map fun t => (t.1, t.2.2)))) σ (upd (upd H1 n (.lst [])) p (.dT (((l.map fun t => (t.1, V.ref t.2.1)) ++ [(w, V.ref n)]).map encT)))) := Rg_dl (.inl hz.1) nip
          have nin : ¬ IT (upd (upd H1 n (.lst [])) p (.dT (((l.map fun t => (t.1, V.ref t.2.1)) ++ [(w, V.ref n)]).map encT))) n := not_it (hHn _) fun _ z => nomatch z
          have ht2 : l2[l.length]? = some (w, n, []) := by simp [l2]
          have hno2 : noAs (st (st s i (.dl (l2.map fun t => (t.1, t.2.2)))) i .un) = true := by rw [show st (st s i (.dl (l2.map fun t => (t.1, t.2.2)))) i .un = st s i .un from by simp only [st_eq, List.set_set]]; exact hno
          have hil2 : i < (st s i (.dl (l2.map fun t => (t.1, t.2.2)))).length := by rw [st_eq, List.length_set]; exact hil
          have hw2 : okW i (st s i (.dl (l2.map fun t => (t.1, t.2.2)))) = true := by
            have : ∀ {s : Ev} {i : Nat} {x : Sl}, i < s.length → gt (st s i x) i = x := by
              intro s
              induction s with
              | nil => intro i x h; simp at h
              | cons y r ih =>
                intro i x h
                cases i with
                | zero => rfl
                | succ n => exact ih (by simpa using h)
            simp [okW, this hil]
          have R4 := R3.mutDl (q := n) (o := .lst ([] ++ [vw])) (i := i) (kvs := (l2.map fun t => (t.1, t.2.2)).set l.length (w, [d])) hno2 hw2 hp ⟨.inr rfl, hnIn⟩ nin hil2 fun R' g' =>
            DlP.put (t := (w, n, [])) ⟨.inl hz.1, hz.2⟩ (by rw [upd_same, e1]) e2 (hls2 R' (g0.trans (g1.trans g'))) ht2 (.cons (rvw.mono (g0.trans (g1.trans g'))) .nil)
          have e5 : (l2.map fun t => (t.1, t.2.2)).set l.length (w, [d]) = (l.map fun t => (t.1, t.2.2)) ++ [(w, [d])] := by
            simp only [l2, List.map_append, List.map_cons, List.map_nil]
            rw [List.set_append_right _ _ (by simp)]
            simp
          have e6 : st (st s i (.dl (l2.map fun t => (t.1, t.2.2)))) i (.dl ((l2.map fun t => (t.1, t.2.2)).set l.length (w, [d]))) = st s i (.dl ((l.map fun t => (t.1, t.2.2)) ++ [(w, [d])])) := by rw [e5]; simp only [st_eq, List.set_set]
          rw [e6] at R4
          have g2 : Same (Rg (fun a => Z a ∨ a = n) (st s i (.dl (l2.map fun t => (t.1, t.2.2)))) σ (upd (upd H1 n (.lst [])) p (.dT (((l.map fun t => (t.1, V.ref t.2.1)) ++ [(w, V.ref n)]).map encT)))) _ := Rg_dl (s := st s i (.dl (l2.map fun t => (t.1, t.2.2)))) (σ := σ) (i := i) (kvs := (l2.map fun t => (t.1, t.2.2)).set l.length (w, [d])) (o := .lst ([] ++ [vw])) (Z := fun a => Z a ∨ a = n) (.inr rfl) nin
          rw [e6] at g2
          refine q (fun a => Z a ∨ a = n) _ (fun _ z => .inl z) (fun a z => z.imp id fun z => by rw [z]; exact hn0) R4 (fun a o h nz => ?_) (g0.trans (g1.trans g2))
          have na : a ≠ n := fun z => by rw [z, hn0] at h; cases h
          rw [upd_ne na, upd_ne (fun z => nz.elim (fun nz => nz (by rw [z]; exact hz.1)) fun it => nip (by rw [← z]; exact it.mono kk))]
          exact kk _ _ h
    · cases ha
  | _ => simp [keyD] at hk
end
end DL
/-! A def that tells an own dict of own lists, and its call. -/
namespace DL
open PySem PySem.Spec L2
section
variable {K : PySem.W.Frag} {ca : Nat → Addr} {W : WX}
def DlNew (K : PySem.W.Frag) (B H H' : Hp) (p : Addr) (kvs : List (List Int × List D)) : Prop :=
  H p = none ∧ ∃ l : List (List Int × Addr × List D), l.map (fun t => (t.1, t.2.2)) = kvs ∧ H' p = some (.dT ((l.map fun t => (t.1, V.ref t.2.1)).map encT)) ∧ (p :: l.map (·.2.1)).Nodup ∧
    ∀ t ∈ l, H t.2.1 = none ∧ ∃ vs, H' t.2.1 = some (.lst vs) ∧ RpL K (hide (fun a => (H a ≠ none ∧ B a = none) ∨ a = p ∨ ∃ t ∈ l, a = t.2.1) H') vs t.2.2
def dlLoop (fk : Ev → Res Rv) (b : D) : List (List Int × List D) → List D → Option (List (List Int × List D))
  | kvs, [] => some kvs
  | kvs, d :: ds => match fk [.sh b, .dl kvs, .sh d] with
    | .ok k => match keyD k.d with
      | some (.t w) => match dlAdd kvs w d with
        | some kvs' => dlLoop fk b kvs' ds
        | none => none
      | _ => none
    | _ => none
def dlMake (fi : Ev → Res (Bool × List D)) (fk : Ev → Res Rv) : List D → Option (List (List Int × List D))
  | [b] => match fi [.sh b, .dl [], .un] with
    | .ok (false, ds) => dlLoop fk b [] ds
    | _ => none
  | _ => none
def tMake (K : PySem.W.Frag) (ca : Nat → Addr) (W : WX) (fi : Ev → Res (Bool × List D)) (fk : Ev → Res Rv) : TS :=
  tSeq (tAsg tDNewT (gName 1)) (tSeq (tFor (tI K ca W fi) (gName 2) (tDrop (tBM K "list" rAppend (tDSetdT (tVar 1) (tE K ca W fk) (tLst tNil)) (tCons (tVar 2) tNil)))) (tRet (tVar 1)))
theorem noPriv {b : D} {kvs : List (List Int × List D)} {x : Sl} {σ : L2.St} {a : Addr} (hx : ∀ d, x ≠ .ow d) : ¬ priv [.sh b, .dl kvs, x] σ a := by
  rintro ⟨i, d, h, _⟩
  rcases i with _ | _ | _ | i
  · simp at h
  · simp at h
  · simp at h; exact hx d h
  · simp at h
theorem make_ok {fi : Ev → Res (Bool × List D)} {fk : Ev → Res Rv} {B H : Hp} {N : List Str} {vs : List V} {ds : List D} {kvsF : List (List Int × List D)} {Dn : Ends} (hN : N.length = 3) (hB : Same B H) (r : RpL K B vs ds) (hm : dlMake fi fk ds = some kvsF)
    (q : ∀ p H', Same H H' → DlNew K B H H' p kvsF → Dn.rt (.ref p) H') : tMake K ca W fi fk Dn (L2.start N vs) H := by
  obtain ⟨b, rfl⟩ : ∃ b, ds = [b] := by
    match ds, hm with
    | [b], _ => exact ⟨b, rfl⟩
    | [], hm => cases hm
    | _ :: _ :: _, hm => cases hm
  simp only [dlMake] at hm
  have R0 := rel_start (N := N) hB r
  rw [show start0 N.length [b] = [.sh b, .un, .un] from by rw [hN]; rfl] at R0
  intro p hp
  have s1 : Same H (upd H p (.dT [])) := same_new hp
  have R1 := R0.hideSet s1 (fun a => a = p) (fun a z => by rw [z]; exact ⟨hp, by rw [upd_same]; simp⟩)
  have R2 := R1.setSh (v := .ref p) (d := .any) (.any _) 1
  have hl : (L2.start N vs).length = 3 := by rw [← R0.len]; rfl
  have R3 := R2.toDl (i := 1) (p := p) (kvs := []) (by simp [st]) rfl (by rw [List.getElem?_set]; simp [hl]) (fun R' _ => ⟨⟨.inr rfl, hp⟩, [], rfl, upd_same, by simp, fun t ht => by cases ht⟩)
  replace R3 : Rel K H (fun a => (H a ≠ none ∧ B a = none) ∨ a = p) [.sh b, .dl [], .un] ((L2.start N vs).set 1 (some (.ref p))) (upd H p (.dT [])) := R3
  generalize hZ1 : (fun a => (H a ≠ none ∧ B a = none) ∨ a = p) = Z1 at R3
  have hZ0 : ∀ a, (H a ≠ none ∧ B a = none) → Z1 a := fun a z => by rw [← hZ1]; exact .inl z
  cases efi : fi [.sh b, .dl [], .un] with
  | exc c => rw [efi] at hm; cases hm
  | stuck => rw [efi] at hm; cases hm
  | ok pr =>
    obtain ⟨ow, ds'⟩ := pr
    cases ow with
    | true => rw [efi] at hm; cases hm
    | false =>
      rw [efi] at hm
      dsimp only at hm
      refine ⟨H, Z1, [.sh b, .dl [], .un], R3, ?_⟩
      rw [efi]
      intro J H2 keep k1 it hk
      obtain ⟨us, rv, hv⟩ := it.vals
      have hlen : us.length = ds'.length := rv.length
      replace hk := hk rfl
      refine ⟨fun j m σ' H' => m = ds'.length - j ∧ j ≤ ds'.length ∧ ∃ Z' kvs x, (∀ d, x ≠ Sl.ow d) ∧ (∀ d, x ≠ Sl.as d) ∧ (∀ d, x ≠ Sl.dl d) ∧ dlLoop fk b kvs (ds'.drop j) = some kvsF ∧ Rel K H Z' [.sh b, .dl kvs, x] σ' H' ∧ (∀ a, Z1 a → Z' a) ∧ (∀ a, Z' a → Z1 a ∨ H2 a = none) ∧ (∀ a, H2 a ≠ none → H' a ≠ none) ∧ Same keep H' ∧ RpL K (Rg Z' [.sh b, .dl kvs, x] σ' H') us ds',
        ⟨ds'.length, by simp, Nat.zero_le _, Z1, [], .un, by simp, by simp, by simp, hm, R3.mono k1, fun _ z => z, fun _ z => .inl z, fun _ z => z, it.here, rv⟩, ?_⟩
      rintro j m σ' H' ⟨rfl, hj, Z', kvs, x, hx1, hx2, hx3, hloop, R', hz1, hz2, hnn, hkeep, rv'⟩
      have hv' := hv H' hkeep j
      by_cases hlt : j < ds'.length
      · obtain ⟨d, hd⟩ : ∃ d, ds'[j]? = some d := ⟨ds'[j], by simp [hlt]⟩
        obtain ⟨v, hvj, rd⟩ := rv'.get hd
        obtain ⟨g1, g2⟩ := hv'.1 v hvj
        have ed : ds'.drop j = d :: ds'.drop (j + 1) := by
          rw [List.drop_eq_getElem_cons hlt]
          rw [List.getElem?_eq_getElem hlt] at hd
          rw [Option.some.inj hd]
        rw [ed] at hloop
        simp only [dlLoop] at hloop
        refine .inr ⟨g1, fun σ2 H'' => ∃ Z' kvs x, (∀ d, x ≠ Sl.ow d) ∧ (∀ d, x ≠ Sl.as d) ∧ (∀ d, x ≠ Sl.dl d) ∧ dlLoop fk b kvs (ds'.drop (j + 1)) = some kvsF ∧ Rel K H Z' [.sh b, .dl kvs, x] σ2 H'' ∧ (∀ a, Z1 a → Z' a) ∧ (∀ a, Z' a → Z1 a ∨ H2 a = none) ∧ (∀ a, H2 a ≠ none → H'' a ≠ none) ∧ Same keep H'' ∧ RpL K (Rg Z' [.sh b, .dl kvs, x] σ2 H'') us ds',
          fun σ2 H'' q => ⟨ds'.length - (j + 1), by omega, rfl, hlt, q⟩, fun y H3 hy => ?_⟩
        obtain ⟨rfl, rfl⟩ := g2 y H3 hy
        have RS := R'.setSh rd 2
        replace RS : Rel K H Z' [.sh b, .dl kvs, .sh d] (σ'.set 2 (some y)) H3 := RS
        cases efk : fk [.sh b, .dl kvs, .sh d] with
        | exc c => rw [efk] at hloop; cases hloop
        | stuck => rw [efk] at hloop; cases hloop
        | ok k =>
          rw [efk] at hloop
          dsimp only at hloop
          cases ek : keyD k.d with
          | none => rw [ek] at hloop; cases hloop
          | some kx =>
            cases kx with
            | i _ => rw [ek] at hloop; cases hloop
            | t w =>
              rw [ek] at hloop
              dsimp only at hloop
              cases ea : dlAdd kvs w d with
              | none => rw [ea] at hloop; cases hloop
              | some kvs' =>
                rw [ea] at hloop
                dsimp only at hloop
                refine dl_step (i := 1) (j := 2) RS rfl rfl rfl efk ek ea fun Z'' H'' z1 z2 R'' fr g'' => ?_
                replace R'' : Rel K H Z'' [.sh b, .dl kvs', .sh d] (σ'.set 2 (some y)) H'' := R''
                refine ⟨Z'', kvs', .sh d, by simp, by simp, by simp, hloop, R'', fun a z => z1 a (hz1 a z), fun a z => (z2 a z).elim (hz2 a) fun z => .inr (Classical.byContradiction fun n => hnn a n z), fun a z => ?_, fun a o z => ?_, ?_⟩
                · intro n
                  cases e : H3 a with
                  | none => exact hnn a z e
                  | some o =>
                    by_cases zz : Z' a
                    · exact R''.zin a (z1 a zz) n
                    · rw [fr a o e (.inl zz)] at n; cases n
                · refine fr a o (hkeep a o z) ?_
                  by_cases it2 : IT H2 a
                  · obtain ⟨ws, hw⟩ := it2
                    rw [it.here a o z] at hw
                    cases hw
                    exact .inr ⟨ws, hkeep a _ z⟩
                  · refine .inl fun zz => ?_
                    rcases hz2 a zz with z3 | z3
                    · exact hk a (by rw [z]; simp) it2 (.inl z3)
                    · rw [it.here a o z] at z3; cases z3
                · refine rv'.mono (Same.trans ?_ g'')
                  exact hide_mono (Same.refl _) fun a _ _ z => z.imp id fun z => absurd z (noPriv (by simp))
      · have e : j = ds'.length := by omega
        subst e
        rw [List.drop_length] at hloop
        simp only [dlLoop, Option.some.injEq] at hloop
        subst hloop
        refine .inl ⟨hv'.2 (by omega), ?_⟩
        obtain ⟨p', hp', hz, l, h1, h2, h3, h4⟩ := R'.dl 1 _ rfl
        refine ⟨.ref p', hp', q p' H' R'.base ⟨hz.2, l, h1, h2, h3, fun t ht => ?_⟩⟩
        obtain ⟨a1, us2, b1, c1⟩ := h4 t ht
        refine ⟨a1.2, us2, b1, c1.mono (hide_mono (Same.refl _) fun a _ _ z => .inl ?_)⟩
        rcases z with z | rfl | ⟨t', ht', rfl⟩
        · exact hz1 a (hZ0 a z)
        · exact hz.1
        · exact (h4 t' ht').1.1
end
end DL
/-! The def, its derivation, its call. -/
namespace DL
open PySem PySem.Spec L2
section
variable {X : Cx} {ca : Nat → Addr} {W : WX} {a b c e : Expr} {es : List Expr} {pos : Pos} {rest : List Stmt} {g : Ev → Out} {fi : Ev → Res (Bool × List D)} {fk : Ev → Res Rv}
theorem pss_make {y z : Str} {p1 p2 p3 p4 p5 p6 p7 p8 p9 p10 p11 : Pos} {iter ek : Expr} {apos cpos a2 c2 : Pos} (hu : X.A.units + 1 < cLine) (hI : DI X ca W (.Name z p3) iter fi) (hK : DE X ca W ek fk) (hNd : X.N.Nodup) (hp : PassesOwn (model X.prog X.w) X.A X.env X.xe)
    (pa : PlainAttrs "list") (slot : Slot "list" "append" "list.append") (hty : typeOf (.builtin "list.append") = pure (.type "method_descriptor"))
    (h1 : X.N[1]? = some y := by rfl) (h2 : X.N[2]? = some z := by rfl) (hy : Loc X.env.scope y := by first | exact Or.inl rfl | exact Or.inr rfl) (hz : Loc X.env.scope z := by first | exact Or.inl rfl | exact Or.inr rfl)
    (vy : Vis X.env.scope y := by first | exact Or.inl rfl | exact Or.inr (Or.inl rfl) | exact Or.inr (Or.inr rfl)) (vz : Vis X.env.scope z := by first | exact Or.inl rfl | exact Or.inr (Or.inl rfl) | exact Or.inr (Or.inr rfl))
    (dy : (y == ("__debug__" : Str)) = false := by decide) (dy2 : (y == ("__classdict__" : Str)) = false := by decide) (dz : (z == ("__debug__" : Str)) = false := by decide) (dz2 : (z == ("__classdict__" : Str)) = false := by decide)
    (hf1 : X.fn y = true ∨ X.env.scope.names.lookup y = some .local := by first | exact .inl rfl | exact .inr rfl | assumption) (hf2 : X.fn z = true ∨ X.env.scope.names.lookup z = some .local := by first | exact .inl rfl | exact .inr rfl | assumption)
    (hc : X.calm = true := by rfl) (hs0 : swapsWith (.Dict [] [] p2) (some (.Name y p1)) p11.line X.env = pure false := by rfl)
    (hs : ∀ x, foldedSetIterable iter X.env x = pure x := by intro _; rfl)
    (m : M2 X (.Name y p4) "setdefault" apos ek (.List [] p5) cpos := by exact ⟨rfl, rfl, rfl, rfl⟩)
    (hbase : attributeBase (.Call (.Attribute (.Name y p4) "setdefault" apos) [ek, .List [] p5] [] cpos) "append" X.env (eval (.Call (.Attribute (.Name y p4) "setdefault" apos) [ek, .List [] p5] [] cpos) X.env) = eval (.Call (.Attribute (.Name y p4) "setdefault" apos) [ek, .List [] p5] [] cpos) X.env := by rfl)
    (hfew : ((backTo c2 (starEach [Expr.Name z p6] X.env)).all (fun x => !x.1) && (backToKw c2 (keywordEach [] X.env)).all (fun x => x.1.isSome)
      && decide (([Expr.Name z p6] : List Expr).length + ([] : List Keyword).length + (if ([] : List Keyword).isEmpty then 0 else 1) < 30)) = true := by rfl)
    (hline : (a2.endLine == c2.line) = true := by rfl) (hst : starEach [Expr.Name z p6] X.env = (false, eval (.Name z p6) X.env) :: starEach [] X.env := by rfl) (hplain : (backTo c2 (starEach [] X.env)).any (·.1) = false := by rfl)
    (hs2 : swapsWith (.Call (.Attribute (.Call (.Attribute (.Name y p4) "setdefault" apos) [ek, .List [] p5] [] cpos) "append" a2) [.Name z p6] [] c2) none p7.line X.env = pure false := by rfl) :
    PSs X [.Assign [.Name y p1] (.Dict [] [] p2) p11, .For (.Name z p3) iter [.Expr (.Call (.Attribute (.Call (.Attribute (.Name y p4) "setdefault" apos) [ek, .List [] p5] [] cpos) "append" a2) [.Name z p6] [] c2) p7] [] p8, .Return (some (.Name y p9)) p10] (tMake X.K ca W fi fk) :=
  pss_cons (ps_set hNd h1 hy pe_dnewT hs0 hf1) (pss_cons (ps_for hp hc hI (pg_name (i := 2) hNd h2 hz hf2) (pss_one (ps_expr (pe_bm pa slot hty md_append.1 (pe_dsetdT hu (pe_var (i := 1) h1 vy dy dy2) hK (pe_lst pa_nil) m) (pa_cons (pe_var (i := 2) h2 vz dz dz2) pa_nil hst) hbase hfew hline hst hplain) hs2)) hs) (pss_one (ps_ret (pe_var (i := 1) h1 vy dy dy2))))
end
def spW (K : PySem.W.Frag) (F : List D → Option (List (List Int × List D))) (n : Nat) : Sp := fun vs H Q E => ∃ (B : Hp) (ds : List D), Same B H ∧ RpL K B vs ds ∧ ds.length = n ∧ ∃ kvs, F ds = some kvs ∧ ∀ p H', Same H H' → DlNew K B H H' p kvs → Q (.ref p) H'
/-- a def that tells an own dict of own lists -/
def CalW (P : Program) (w : World) (K : PySem.W.Frag) (mg : Str → Option Value) (base : Heap) (lvl : Nat) (name : Str) (ps : List Str) (F : List D → Option (List (List Int × List D))) : Prop :=
  ∃ (f : Addr) (fd : FuncData), mg name = some (.ref f) ∧ PySem.W.keepIn K (.ref f) = true ∧ Binds K fd ps [] ∧ FnOk P w K mg base (L2.CX P w) lvl f fd ps (spW K F ps.length)
section
theorem calW_of {P : Program} {w : World} {K : PySem.W.Frag} {mg : Str → Option Value} {base : Heap} {ca : Nat → Addr} {name : Str} {st : Stmt} {f : Addr} {fd : FuncData} {N ps : List Str} {k : Nat} {fi : Ev → Res (Bool × List D)} {fk : Ev → Res Rv} (Fn : L2.Fun K name name st f fd) (hm : mg name = some (.ref f)) (hb : Binds K fd ps []) (S : FnScope N ps (defScope st)) (hN : N.length = 3)
    (hg : ∀ (cdv : Value) (A : Around) (outer : List Env) (s : Shared) (H : Hp) (E : XK), Room k (A.deeper (PyProof.Rows.envOfC name (defScope st) s.heap.objs.size f cdv)) →
      Takes (cxOf (L2.CX P w) P w K mg base N name (defScope st) f cdv A outer s H E) (fun cls d _ H => E cls d H) →
      PassesOwn (model P w) (A.deeper (PyProof.Rows.envOfC name (defScope st) s.heap.objs.size f cdv)) (PyProof.Rows.envOfC name (defScope st) s.heap.objs.size f cdv) (cxOf (L2.CX P w) P w K mg base N name (defScope st) f cdv A outer s H E).xe →
      PSs (cxOf (L2.CX P w) P w K mg base N name (defScope st) f cdv A outer s H E) (defBody st) (tMake K ca (fun cls d _ H => E cls d H) fi fk)) : CalW P w K mg base (k + 1) name ps (dlMake fi fk) := by
  refine ⟨f, fd, hm, Fn.kp, hb, Fn.okX S (fun vs H Q E h => ?_) (fun cdv A outer s H vs Q E hr h => ⟨_, hg cdv A outer s H E hr (takes_of rfl rfl rfl rfl) (passes_of rfl), ?_⟩)⟩
  · obtain ⟨B, ds, _, r, e, _⟩ := h
    rw [r.length, e]
  · obtain ⟨B, ds, hB, r, en, kvs, e, q⟩ := h
    exact make_ok hN hB r e fun p H' k d => q p H' k d
end
section
variable {X : Cx} {ca : Nat → Addr} {W : WX} {a b c e : Expr} {es : List Expr} {pos : Pos} {rest : List Stmt} {g : Ev → Out}
@[simp] def fDl (j : Nat) (F : List D → Option (List (List Int × List D))) (fs : Ev → Res (List Rv)) (g : Ev → Out) : Ev → Out := fun s => bndR (fs s) fun rs => if anyOw rs = false ∧ j < s.length then (match F (rs.map (·.d)) with
  | some kvs => noNx (g (st s j (.dl kvs)))
  | none => .stuck) else .stuck
theorem dss_dl (j : Nat) {x y : Str} {p py spos : Pos} {ps : List Str} {F : List D → Option (List (List Int × List D))} {fs : Ev → Res (List Rv)} {lvl k : Nat} (C : CalW X.prog X.w X.K X.mg X.base lvl x ps F) (hr : Room k X.A) (hW : ∀ σ, PassesAt (L2.CX X.prog X.w) X σ (WE W σ)) (ha : DA X ca W (e :: es) fs) (hn : ∀ s rs, fs s = .ok rs → rs.length = ps.length)
    (h2 : DSs X ca W rest g) (hN : X.N.Nodup) (hk : lvl ≤ k := by decide) (hi : X.N[j]? = some y := by rfl) (hy : Loc X.env.scope y := by first | exact Or.inl rfl | exact Or.inr rfl) (hs : swapsWith (.Call (.Name x p) (e :: es) [] pos) (some (.Name y py)) spos.line X.env = pure false := by rfl) (hf : X.fn y = true ∨ X.env.scope.names.lookup y = some .local := by first | exact .inl rfl | exact .inr rfl | assumption)
    (hg : Gl X x := by rfl) (hdb : (x == ("__debug__" : Str)) = false := by decide) (he : starEach (e :: es) X.env = (false, eval e X.env) :: starEach es X.env := by rfl) (hpl : (backTo pos (starEach es X.env)).any (·.1) = false := by rfl) :
    DSs X ca W (.Assign [.Name y py] (.Call (.Name x p) (e :: es) [] pos) spos :: rest) (fDl j F fs g) := by
  obtain ⟨f, fd, hm, kp, hb, G⟩ := C
  refine (pss_cons (ps_set hN hi hy (pe_callS (E := WE W) G (hr.mono hk) hg hm kp hb hW ha hdb he hpl) hs hf) h2).imp fun Dn σ H h => ?_
  obtain ⟨Hin, Z, s, R, h⟩ := h
  simp only [fDl] at h
  cases efs : fs s with
  | exc c => rw [efs] at h; exact ⟨Hin, Z, s, R, by rw [efs]; exact fun H' k => h σ H' (R.base.trans k)⟩
  | stuck => rw [efs] at h; exact h.elim
  | ok rs =>
  rw [efs] at h
  refine tA_go R ?_
  rw [efs]
  intro vs H1 k1 R1 q1
  dsimp only [bndR_ok] at h
  split at h
  · rename_i eo0
    obtain ⟨eo, hjs⟩ := eo0
    have hlen : (rs.map (·.d)).length = ps.length := by rw [List.length_map]; exact hn s rs efs
    cases eF : F (rs.map (·.d)) with
    | none => rw [eF] at h; exact h.elim
    | some kvs =>
      rw [eF] at h
      dsimp only at h
      refine ⟨Rg Z s σ H1, rs.map (·.d), hide_le, q1.shared R k1 (shs_of eo), hlen, kvs, eF, fun p H' k' dn => ?_⟩
      obtain ⟨hp, l, hl, hH, hnd, hls⟩ := dn
      have R2 := R1.hideSet k' (fun a => a = p ∨ ∃ t ∈ l, a = t.2.1) (fun a z => by
        rcases z with rfl | ⟨t, ht, rfl⟩
        · exact ⟨hp, by rw [hH]; simp⟩
        · obtain ⟨a1, us, b1, _⟩ := hls t ht
          exact ⟨a1, by rw [b1]; simp⟩)
      have R3 := R2.setSh (v := .ref p) (d := .any) (.any _) j
      have pv : ∀ a, priv (st s j (.sh .any)) (σ.set j (some (.ref p))) a → priv s σ a := fun a ⟨i, f, y1, y2⟩ => by
        rw [st_eq, List.getElem?_set] at y1
        rw [List.getElem?_set] at y2
        by_cases z : j = i
        · rw [if_pos z] at y1; split at y1 <;> cases y1
        · rw [if_neg z] at y1 y2; exact ⟨i, f, y1, y2⟩
      have gg : Same (hide (fun a => (H1 a ≠ none ∧ Rg Z s σ H1 a = none) ∨ a = p ∨ ∃ t ∈ l, a = t.2.1) H') (Rg (fun a => Z a ∨ (a = p ∨ ∃ t ∈ l, a = t.2.1)) (st s j (.sh .any)) (σ.set j (some (.ref p))) H') := hide_mono (Same.refl _) fun a _ nit z => by
        rcases z with (z | z) | z
        · exact .inl ⟨R1.zin a z, hide_yes (.inl z) fun y => nit (y.mono k')⟩
        · exact .inr z
        · exact .inl ⟨(R1.privH (pv a z)).1, hide_yes (.inr (pv a z)) fun y => nit (y.mono k')⟩
      have R4 := R3.toDl (i := j) (p := p) (kvs := kvs) (by rw [st_eq, List.length_set]; exact hjs) (okW_sh hjs) (by rw [List.getElem?_set, if_pos rfl, if_pos (by rw [← R.len]; exact hjs)]) fun R' g' =>
        ⟨⟨.inr (.inl rfl), R1.base.free hp⟩, l, hl, hH, hnd, fun t ht => let ⟨a1, us, b1, c1⟩ := hls t ht; ⟨⟨.inr (.inr ⟨t, ht, rfl⟩), R1.base.free a1⟩, us, b1, c1.mono (gg.trans g')⟩⟩
      rw [show st (st s j (.sh .any)) j (.dl kvs) = st s j (.dl kvs) from by simp only [st_eq, List.set_set]] at R4
      exact ⟨Hin, _, _, R4, satS_grow (fun a z => .inl z) h⟩
  · exact h.elim
end
end DL
/-! x[-2::-1]; x.pop(k) as a statement. -/
namespace DL
open PySem PySem.Spec L2
section
open PySem.W PyProof.Rows
theorem rev2_bounds (n : Nat) : sliceBounds (some (-2)) none (some (-1)) n = (((n - 1 : Nat) : Int) - 1, -1, -1) := by
  simp only [sliceBounds, Option.getD_some]
  have h : ¬ ((-1 : Int) > 0) := by decide
  simp only [h, if_false, show (-2 : Int) < 0 from by decide, if_true]
  rw [Prod.mk.injEq]
  refine ⟨?_, rfl⟩
  omega
theorem rev2_pick (items : Array Value) : slicePick items (some (-2)) none (some (-1)) = items.toList.dropLast.reverse.toArray := by
  unfold slicePick
  rw [rev2_bounds]
  show ((sliceRange (((items.size - 1 : Nat) : Int) - 1) (-1) (-1)).filterMap (items[·]?)).toArray = _
  rw [krv_sliceRange, krv_range, List.filterMap_reverse]
  have h := pick_run items 0 (items.size - 1)
  have e : (List.range (items.size - 1)).map (0 + ·) = List.range (items.size - 1) := by
    rw [show ((0 + ·) : Nat → Nat) = id from funext fun k => Nat.zero_add k, List.map_id]
  rw [e, List.drop_zero] at h
  rw [h, List.dropLast_eq_take, Array.length_toList]
end
section
variable {X : Cx} {ca : Nat → Addr} {W : WX} {a b c e : Expr} {fe fk fv : Ev → Res Rv} {pos : Pos}
def tRev2 (K : PySem.W.Frag) (te : TE) : TE := fun σ H Q => te σ H fun x H1 => ∃ a xs, x = .ref a ∧ SqL K H1 a xs ∧ ∀ p, H1 p = none → Q (.ref p) (upd H1 p (.lst xs.dropLast.reverse))
theorem pe_rev2 {e : Expr} {te : TE} {k k2 : Nat} {p1 p2 p3 p4 p5 pos : Pos} (he : PE X e te) : PE X (.Subscript e (.Slice (some (.UnaryOp .USub (.Constant (.int 2) k2 p4) p5)) none (some (.UnaryOp .USub (.Constant (.int 1) k p1) p2)) p3) pos) (tRev2 X.K te) := by
  refine ⟨fun pins s σ H Q I h => ?_⟩
  refine PyProof.Rows.Subscript_ (thn (he.run pins s σ H _ I h) fun v s1 ⟨x, H1, I1, r1, q1⟩ => ?_)
  obtain ⟨a, xs, ex, hx, q⟩ := q1
  subst ex
  cases r1
  have hst : PO X (some (.UnaryOp .USub (.Constant (.int 1) k p1) p2)) (tPart (tUn (rU fun i => .int (-i)) (tC (.int 1)))) := po_some (pe_un un_neg pe_int)
  have hlo : PO X (some (.UnaryOp .USub (.Constant (.int 2) k2 p4) p5)) (tPart (tUn (rU fun i => .int (-i)) (tC (.int 2)))) := po_some (pe_un un_neg pe_int)
  refine wpAny_Slice (thn (hlo.run pins s1 σ H1 (fun o H2 => o = some (-2) ∧ H2 = H1) I1 ⟨2, rfl, -2, rfl, rfl, rfl⟩) fun vl s2 ⟨l, H2, I2, pl, el, e2⟩ => ?_)
  subst el e2
  refine thn (po_none.run pins s2 σ H2 (fun o H3 => o = none ∧ H3 = H2) I2 ⟨rfl, rfl⟩) fun vu s3 ⟨u, H3, I3, pu, eu, e3⟩ => ?_
  subst eu e3
  refine thn (hst.run pins s3 σ H3 (fun o H4 => o = some (-1) ∧ H4 = H3) I3 ⟨1, rfl, -1, rfl, rfl, rfl⟩) fun vs s4 ⟨o, H4, I4, ps, eo, e4⟩ => ?_
  subst eo e4
  have I5 : Inv X pins σ H4 { s4 with heap := s4.heap.push { cls := .type "slice", data := .fields #[vl, vu, vs] } } := I4.kept (t' := s4.toks) fun b ob q => Heap.get?_push_of_some _ q
  obtain ⟨its, r, ht, hz⟩ := I5.list hx
  have hlen := r.length
  show wpAny (model X.prog X.w) X.A (PyProof.Rows.subscriptTail e (.Slice (some (.UnaryOp .USub (.Constant (.int 2) k2 p4) p5)) none (some (.UnaryOp .USub (.Constant (.int 1) k p1) p2)) p3) (.ref a) (.ref s4.heap.objs.size)) (EP X pins σ Q) X.xe { s4 with heap := s4.heap.push { cls := .type "slice", data := .fields #[vl, vu, vs] } }
  refine PyProof.Rows.tail_any (ops := [.ref a, .ref s4.heap.objs.size]) ht.isList.typeIs (PySem.slot_list_getitem.lookup) ?_ (by with_unfolding_all rfl)
  refine wpAny_getItem_list_slice ht.isList (Heap.IsSliceOf.new _ vl vu vs) pl pu ps (by decide) ?_ (by rw [List.size_toArray]; omega)
  rw [rev2_pick]
  have rd : Vals xs.dropLast.reverse its.toArray.toList.dropLast.reverse := by
    have : Vals xs.dropLast its.dropLast := by
      rw [List.dropLast_eq_take, List.dropLast_eq_take, hlen]
      exact r.take _
    simpa using this.reverse
  refine ⟨.ref _, _, I5.laid (t' := s4.toks) (o := .lst xs.dropLast.reverse) (fun b ob q => Heap.get?_push_of_some _ q) (Nat.le_refl _) ?_, rfl, q _ (I5.hok.fresh (Nat.le_refl _))⟩
  exact ⟨by rw [List.length_reverse, List.length_dropLast]; omega, _, 0, rd, Heap.get?_push_size _ rfl⟩
def rev2O : Rv → Option Rv
  | ⟨_, .lst ds⟩ => some ⟨.fr, .lst ds.dropLast.reverse⟩
  | _ => none
@[simp] theorem rev2O_lst {k : Kd} {ds : List D} : rev2O ⟨k, .lst ds⟩ = some ⟨.fr, .lst ds.dropLast.reverse⟩ := rfl
@[simp] def fRev2 (fe : Ev → Res Rv) : Ev → Res Rv := fun s => bnd (fe s) fun r => lft (rev2O r)
theorem de_rev2 {k k2 : Nat} {p1 p2 p3 p4 p5 : Pos} (he : DE X ca W e fe) : DE X ca W (.Subscript e (.Slice (some (.UnaryOp .USub (.Constant (.int 2) k2 p4) p5)) none (some (.UnaryOp .USub (.Constant (.int 1) k p1) p2)) p3) pos) (fRev2 fe) :=
  (pe_rev2 he).imp fun σ H Q h => by
    obtain ⟨Hin, Z, s, R, h⟩ := h
    simp only [fRev2, sat_bnd] at h
    refine tE_go R (sat_mono h (fun r h v H1 k1 R1 q1 => ?_) fun _ h => h)
    obtain ⟨c, e3, h⟩ := sat_lft h
    obtain ⟨kd, d⟩ := r
    cases d with
    | lst ds =>
      cases e3
      obtain ⟨p, xs, rfl, hp, r1⟩ := q1.list rfl
      exact ⟨p, xs, rfl, SqL.of hp, fun n hn => h _ _ (k1.trans (same_new hn)) ((resNewL hn r1.dropLast.rev).start k1)⟩
    | _ => cases e3
@[simp] def popAtG (ds : List D) (rs : List Rv) : Option (List D) := match rs.map (fun r : Rv => r.d) with
  | [D.int i] => if ds.length ≤ 1000000 then (ixN ds.length i).map fun k => ds.eraseIdx k else none
  | _ => none
theorem md_popAt : MtR X "list.pop" rPopAt ∧ MutD X.K rPopAt popAtG := by
  refine ⟨mt_popAt, ?_⟩
  intro Hin Z s σ H0 H p xs vs rs ds ds' Q R k q hp r e h
  obtain ⟨kd, i, rfl⟩ : ∃ kd i, rs = [⟨kd, .int i⟩] := by
    unfold popAtG at e
    split at e
    · rename_i i he
      cases rs with
      | nil => simp at he
      | cons x r' =>
        cases r' with
        | nil => obtain ⟨kd, d⟩ := x; simp at he; subst he; exact ⟨kd, i, rfl⟩
        | cons _ _ => simp at he
    · cases e
  simp only [popAtG, List.map_cons, List.map_nil] at e
  split at e
  · rename_i hl
    rw [Option.map_eq_some_iff] at e
    obtain ⟨m, em, rfl⟩ := e
    obtain ⟨v, rfl, q1⟩ := q.one
    obtain ⟨h1, h2, h3, h4⟩ := ixN_seq em
    have hlen := r.length
    obtain ⟨y, hy⟩ : ∃ y, xs[m]? = some y := ⟨xs[m]'(by omega), by simp [hlen, h2]⟩
    refine ⟨p, xs, i, m, y, rfl, by rw [q1.int rfl], hp, by omega, by omega, by rw [hlen]; exact h1, hy, h _ _ ?_⟩
    rw [List.eraseIdx_eq_take_drop_succ, List.eraseIdx_eq_take_drop_succ]
    exact (r.take _).app (r.drop _)
  · cases e
@[simp] def isBO : Rv → Rv → Option Rv := fun a b => match a.d, b.d with
  | .bl x, .bl y => some ⟨.sh, .bl (decide (x = y))⟩
  | _, _ => none
theorem od_isB : OpR X (compareOp .Is) rIsB ∧ OpD X.K rIsB isBO := by
  refine ⟨op_isBl, ?_⟩
  intro Hin Z s σ H0 H x y a b c Q R qa qb e q
  obtain ⟨ka, da⟩ := a
  obtain ⟨kb, db⟩ := b
  cases da with
  | bl u =>
    cases db with
    | bl v =>
      simp only [isBO, Option.some.injEq] at e
      subst e
      exact ⟨u, v, qa.bl rfl, qb.bl rfl, q _ H (Same.refl _) rvB⟩
    | _ => cases e
  | _ => cases e
end
end DL
namespace My
open PySem PySem.Spec L2 DL
def b__law_power_1 : Ev → Out :=
  (fSet 2 (fOp mulO (fVar 2) (fVar 0)))
def g__law_power : Ev → Out :=
  (fSeq (fSet 2 (fC (.int 1)))
    (fSeq (fFor (fRng rng1 (fCons (fVar 1) (fun _ => .ok []))) 3 b__law_power_1)
    (fRet (fVar 2))))
def F__law_power : List D → Res Rv := fun ds => fin (g__law_power (start0 4 ds))
def g__law_pair : Ev → Out :=
  (fSeq (fSet 1 (fLst (fCons (fTup (fCons (fC (.int 2)) (fCons (fC (.int 3)) (fun _ => .ok [])))) (fCons (fTup (fCons (fC (.int 3)) (fCons (fC (.int 2)) (fun _ => .ok [])))) (fCons (fTup (fCons (fC (.int 2)) (fCons (fC (.int 4)) (fun _ => .ok [])))) (fCons (fTup (fCons (fC (.int 3)) (fCons (fC (.int 3)) (fun _ => .ok [])))) (fCons (fTup (fCons (fC (.int 2)) (fCons (fC (.int 2)) (fun _ => .ok [])))) (fCons (fTup (fCons (fC (.int 4)) (fCons (fC (.int 2)) (fun _ => .ok [])))) (fCons (fTup (fCons (fC (.int 2)) (fCons (fC (.int 5)) (fun _ => .ok [])))) (fCons (fTup (fCons (fC (.int 5)) (fCons (fC (.int 2)) (fun _ => .ok [])))) (fCons (fTup (fCons (fC (.int 3)) (fCons (fC (.int 1)) (fun _ => .ok [])))) (fCons (fTup (fCons (fC (.int 1)) (fCons (fC (.int 4)) (fun _ => .ok [])))) (fCons (fTup (fCons (fC (.int 6)) (fCons (fC (.int 1)) (fun _ => .ok [])))) (fCons (fTup (fCons (fC (.int 2)) (fCons (fC (.int 8)) (fun _ => .ok [])))) (fun _ => .ok [])))))))))))))))
    (fRet (fOp ixO (fVar 1) (fOp modO (fVar 0) (fC (.int 12))))))
def F__law_pair : List D → Res Rv := fun ds => fin (g__law_pair (start0 2 ds))
def b__law_word_1 : Ev → Out :=
  (fSeq (fSet 3 (fOp addO (fLst (fCons (fOp modO (fVar 2) (fVar 0)) (fun _ => .ok []))) (fVar 3)))
    (fSet 2 (fOp fdivO (fVar 2) (fVar 0))))
def g__law_word : Ev → Out :=
  (fSeq (fSet 3 (fLst (fun _ => .ok [])))
    (fSeq (fFor (fRng rng1 (fCons (fVar 1) (fun _ => .ok []))) 4 b__law_word_1)
    (fRet (fVar 3))))
def F__law_word : List D → Res Rv := fun ds => fin (g__law_word (start0 5 ds))
def b__law_turns_1 : Ev → Out :=
  (fSeq (fSet 3 (fOp addO (fSl (fVar 0) (fP (fVar 2)) fNoP) (fSl (fVar 0) fNoP (fP (fVar 2)))))
    (fIte (fB (fOp (inO true) (fVar 3) (fVar 1))) (fun s => (fMut 1 appG (fCons (fVar 3) (fun _ => .ok []))) (rel1 3 s)) .nx))
def g__law_turns : Ev → Out :=
  (fSeq (fSet 1 (fLst (fun _ => .ok [])))
    (fSeq (fFor (fRng rng1 (fCons (fCall lenO (fCons (fVar 0) (fun _ => .ok []))) (fun _ => .ok []))) 2 b__law_turns_1)
    (fRet (fVar 1))))
def F__law_turns : List D → Res Rv := fun ds => fin (g__law_turns (start0 4 ds))
def t__law_book_1 : Ev → Res Bool :=
  (fB (fOp (inO true) (fVar 12) (fVar 6)))
def c__law_book_1 : Ev → Res Rv :=
  (fVar 12)
def b__law_book_1 : Ev → Out :=
  (fSeq (fSet 8 (fOp modO (fOp mulO (fOp addO (fFn F__law_cell_at (fCons (fVar 0) (fCons (fOp addO (fOp addO (fVar 1) (fC (.int 2))) (fVar 7)) (fun _ => .ok [])))) (fOp mulO (fC (.int 101)) (fVar 7))) (fC (.int 48271))) (fC (.int 1000003))))
    (fSeq (fSet 9 (fFn F__law_word (fCons (fVar 2) (fCons (fVar 3) (fCons (fVar 8) (fun _ => .ok []))))))
    (fSeq (fIte (tAndF (fB (fOp eqO (fOp modO (fOp fdivO (fVar 8) (fC (.int 65536))) (fC (.int 3))) (fC (.int 1)))) (fB (fOp neO (fVar 6) (fLst (fun _ => .ok []))))) (fSet 9 (fOp addO (fSl (fOp ixO (fVar 6) (fOp modO (fOp fdivO (fVar 8) (fC (.int 7))) (fCall lenO (fCons (fVar 6) (fun _ => .ok []))))) (fP (fC (.int 1))) fNoP) (fLst (fCons (fOp modO (fVar 8) (fVar 2)) (fun _ => .ok []))))) .nx)
    (fun s => (fSet 6 (fOp addO (fVar 6) (fLc (fItL (fFn F__law_turns (fCons (fVar 9) (fun _ => .ok [])))) 12 t__law_book_1 c__law_book_1))) (rel1 9 s)))))
def g__law_book : Ev → Out :=
  (fSeq (fSet 5 (fFn F__law_cell_at (fCons (fVar 0) (fCons (fVar 1) (fun _ => .ok [])))))
    (fSeq (fSet 6 (fLst (fun _ => .ok [])))
    (fSeq (fFor (fRng rng1 (fCons (fOp addO (fC (.int 1)) (fOp modO (fVar 5) (fVar 4))) (fun _ => .ok []))) 7 b__law_book_1)
    (fSeq (fSet 10 (fFn F__law_cell_at (fCons (fVar 0) (fCons (fOp addO (fVar 1) (fC (.int 1))) (fun _ => .ok [])))))
    (fSeq (fIte (tAndF (fB (fOp eqO (fOp modO (fVar 10) (fC (.int 4))) (fC (.int 1)))) (fB (fOp gtO (fCall lenO (fCons (fVar 6) (fun _ => .ok []))) (fC (.int 1))))) (fMut 6 popAtG (fCons (fOp modO (fOp fdivO (fVar 10) (fC (.int 4))) (fCall lenO (fCons (fVar 6) (fun _ => .ok [])))) (fun _ => .ok []))) .nx)
    (fSeq (fSet 9 (fFn F__law_word (fCons (fVar 2) (fCons (fVar 3) (fCons (fOp modO (fOp mulO (fOp fdivO (fVar 10) (fC (.int 4))) (fC (.int 48271))) (fC (.int 1000003))) (fun _ => .ok []))))))
    (fSeq (fIte (tAndF (fB (fOp eqO (fOp modO (fVar 10) (fC (.int 4))) (fC (.int 2)))) (fB (fOp (inO true) (fVar 9) (fVar 6)))) (fun s => (fMut 6 appG (fCons (fVar 9) (fun _ => .ok []))) (rel1 9 s)) .nx)
    (fSeq (fSet 11 (fOp modO (fOp fdivO (fVar 5) (fVar 4)) (fCall lenO (fCons (fVar 6) (fun _ => .ok [])))))
    (fSeq (fSet 6 (fOp addO (fSl (fVar 6) (fP (fVar 11)) fNoP) (fSl (fVar 6) fNoP (fP (fVar 11)))))
    (fSeq (fIte (fB (fOp eqO (fOp modO (fOp fdivO (fVar 10) (fC (.int 4))) (fC (.int 2))) (fC (.int 1)))) (fSet 6 (fCall (lstArg (srtL false)) (fCons (fVar 6) (fun _ => .ok [])))) .nx)
    (fRet (fVar 6))))))))))))
def F__law_book : List D → Res Rv := fun ds => fin (g__law_book (start0 13 ds))
end My
namespace My
open PySem PySem.Spec L2 DL
def g_is_among : Ev → Out :=
  (fRet (fAnd (fIs .int (fVar 0)) (fAnd (fNot (fIs .bool (fVar 0))) (fCh leO leO (fVar 1) (fVar 0) (fVar 2)))))
def F_is_among : List D → Res Rv := fun ds => fin (g_is_among (start0 3 ds))
def b_how_many_1 : Ev → Out :=
  (fSet 2 (fOp mulO (fVar 2) (fVar 0)))
def g_how_many : Ev → Out :=
  (fSeq (fSet 2 (fC (.int 1)))
    (fSeq (fFor (fRng rng1 (fCons (fVar 1) (fun _ => .ok []))) 3 b_how_many_1)
    (fRet (fVar 2))))
def F_how_many : List D → Res Rv := fun ds => fin (g_how_many (start0 4 ds))
def g_need_size : Ev → Out :=
  (fSeq (fIte (tOrF (tNotF (fB (fFn F_is_among (fCons (fVar 0) (fCons (fC (.int 1)) (fCons (fC (.int 9)) (fun _ => .ok []))))))) (tNotF (fB (fFn F_is_among (fCons (fVar 1) (fCons (fC (.int 1)) (fCons (fC (.int 8)) (fun _ => .ok [])))))))) (fun _ => .exc 0) .nx)
    (fIte (fB (fOp gtO (fFn F_how_many (fCons (fVar 0) (fCons (fVar 1) (fun _ => .ok [])))) (fC (.int 256)))) (fun _ => .exc 0) .nx))
def F_need_size : List D → Res Rv := fun ds => fin (g_need_size (start0 2 ds))
def c_is_word_1 : Ev → Res Rv :=
  (fFn F_is_among (fCons (fVar 2) (fCons (fC (.int 0)) (fCons (fOp subO (fVar 0) (fC (.int 1))) (fun _ => .ok [])))))
def g_is_word : Ev → Out :=
  (fSeq (fIte (tOrF (tNotF (fB (fIs .list (fVar 1)))) (tNotF (fB (fCh leO leO (fC (.int 1)) (fCall lenO (fCons (fVar 1) (fun _ => .ok []))) (fC (.int 8)))))) (fRet (fC (.bl false))) .nx)
    (fRet (fCall (lstArg allL) (fCons (fLc (fItL (fVar 1)) 2 (fun _ => .ok true) c_is_word_1) (fun _ => .ok [])))))
def F_is_word : List D → Res Rv := fun ds => fin (g_is_word (start0 3 ds))
def g_need_word : Ev → Out :=
  (fIte (tNotF (fB (fFn F_is_word (fCons (fVar 0) (fCons (fVar 1) (fun _ => .ok [])))))) (fun _ => .exc 1) .nx)
def F_need_word : List D → Res Rv := fun ds => fin (g_need_word (start0 2 ds))
def b_number_in_1 : Ev → Out :=
  (fSet 2 (fOp addO (fOp mulO (fVar 2) (fVar 0)) (fVar 3)))
def g_number_in : Ev → Out :=
  (fSeq (fSet 2 (fC (.int 0)))
    (fSeq (fFor (fItL (fVar 1)) 3 b_number_in_1)
    (fRet (fVar 2))))
def F_number_in : List D → Res Rv := fun ds => fin (g_number_in (start0 4 ds))
def g_number_of : Ev → Out :=
  (fSeq (fDrop (fFn F_need_size (fCons (fVar 0) (fCons (fVar 1) (fun _ => .ok [])))))
    (fSeq (fDrop (fFn F_need_word (fCons (fVar 0) (fCons (fVar 2) (fun _ => .ok [])))))
    (fSeq (fIte (fB (fOp neO (fCall lenO (fCons (fVar 2) (fun _ => .ok []))) (fVar 1))) (fun _ => .exc 1) .nx)
    (fRet (fFn F_number_in (fCons (fVar 0) (fCons (fVar 2) (fun _ => .ok []))))))))
def F_number_of : List D → Res Rv := fun ds => fin (g_number_of (start0 3 ds))
def b_word_by_1 : Ev → Out :=
  (fSeq (fMut 3 insG (fCons (fC (.int 0)) (fCons (fOp modO (fVar 2) (fVar 0)) (fun _ => .ok []))))
    (fSet 2 (fOp fdivO (fVar 2) (fVar 0))))
def g_word_by : Ev → Out :=
  (fSeq (fSet 3 (fLst (fun _ => .ok [])))
    (fSeq (fFor (fRng rng1 (fCons (fVar 1) (fun _ => .ok []))) 4 b_word_by_1)
    (fRet (fVar 3))))
def F_word_by : List D → Res Rv := fun ds => fin (g_word_by (start0 5 ds))
def g_word_of : Ev → Out :=
  (fSeq (fDrop (fFn F_need_size (fCons (fVar 0) (fCons (fVar 1) (fun _ => .ok [])))))
    (fSeq (fIte (tNotF (fB (fFn F_is_among (fCons (fVar 2) (fCons (fC (.int 0)) (fCons (fOp subO (fFn F_how_many (fCons (fVar 0) (fCons (fVar 1) (fun _ => .ok [])))) (fC (.int 1))) (fun _ => .ok []))))))) (fun _ => .exc 1) .nx)
    (fRet (fFn F_word_by (fCons (fVar 0) (fCons (fVar 1) (fCons (fVar 2) (fun _ => .ok []))))))))
def F_word_of : List D → Res Rv := fun ds => fin (g_word_of (start0 3 ds))
def c_all_words_1 : Ev → Res Rv :=
  (fFn F_word_by (fCons (fVar 0) (fCons (fVar 1) (fCons (fVar 2) (fun _ => .ok [])))))
def g_all_words : Ev → Out :=
  (fSeq (fDrop (fFn F_need_size (fCons (fVar 0) (fCons (fVar 1) (fun _ => .ok [])))))
    (fRet (fLc (fRng rng1 (fCons (fFn F_how_many (fCons (fVar 0) (fCons (fVar 1) (fun _ => .ok [])))) (fun _ => .ok []))) 2 (fun _ => .ok true) c_all_words_1)))
def F_all_words : List D → Res Rv := fun ds => fin (g_all_words (start0 3 ds))
def b_is_in_1 : Ev → Out :=
  (fIte (fB (fOp eqO (fSl (fVar 1) (fP (fVar 2)) (fP (fOp addO (fVar 2) (fCall lenO (fCons (fVar 0) (fun _ => .ok [])))))) (fVar 0))) (fRet (fC (.bl true))) .nx)
def g_is_in : Ev → Out :=
  (fSeq (fFor (fRng rng1 (fCons (fOp addO (fOp subO (fCall lenO (fCons (fVar 1) (fun _ => .ok []))) (fCall lenO (fCons (fVar 0) (fun _ => .ok [])))) (fC (.int 1))) (fun _ => .ok []))) 2 b_is_in_1)
    (fRet (fC (.bl false))))
def F_is_in : List D → Res Rv := fun ds => fin (g_is_in (start0 3 ds))
def c_free_of_1 : Ev → Res Rv :=
  (fFn F_is_in (fCons (fVar 3) (fCons (fVar 4) (fun _ => .ok []))))
def t_free_of_1 : Ev → Res Bool :=
  (tNotF (fB (fCall (lstArg anyL) (fCons (fLc (fItL (fVar 2)) 3 (fun _ => .ok true) c_free_of_1) (fun _ => .ok [])))))
def c_free_of_2 : Ev → Res Rv :=
  (fVar 4)
def b_free_of_1 : Ev → Out :=
  (fDrop (fFn F_need_word (fCons (fVar 0) (fCons (fVar 3) (fun _ => .ok [])))))
def g_free_of : Ev → Out :=
  (fSeq (fDrop (fFn F_need_size (fCons (fVar 0) (fCons (fVar 1) (fun _ => .ok [])))))
    (fSeq (fIte (tNotF (fB (fIs .list (fVar 2)))) (fun _ => .exc 1) .nx)
    (fSeq (fFor (fItL (fVar 2)) 3 b_free_of_1)
    (fRet (fLc (fItL (fFn F_all_words (fCons (fVar 0) (fCons (fVar 1) (fun _ => .ok []))))) 4 t_free_of_1 c_free_of_2)))))
def F_free_of : List D → Res Rv := fun ds => fin (g_free_of (start0 5 ds))
end My
namespace My
open PySem PySem.Spec L2 DL
def w_falling_1 : Ev → Res Bool :=
  (tAndF (fB (fOp neO (fVar 3) (fLst (fun _ => .ok [])))) (fB (fOp eqO (fOp ixO (fVar 3) (fNeg (fC (.int 1)))) (fOp subO (fVar 0) (fC (.int 1))))))
def b_falling_1 : Ev → Out :=
  (fMut 3 popG fun _ => .ok [])
def w_falling_2 : Ev → Res Bool :=
  (fB (fOp ltO (fCall lenO (fCons (fVar 3) (fun _ => .ok []))) (fVar 1)))
def b_falling_2 : Ev → Out :=
  (fMut 3 appG (fCons (fOp ixO (fVar 3) (fOp subO (fCall lenO (fCons (fVar 3) (fun _ => .ok []))) (fVar 4))) (fun _ => .ok [])))
def w_falling_3 : Ev → Res Bool :=
  (fB (fOp neO (fVar 3) (fLst (fun _ => .ok []))))
def b_falling_3 : Ev → Out :=
  (fSeq (fMut 2 appG (fCons (fCall listO (fCons (fVar 3) (fun _ => .ok []))) (fun _ => .ok [])))
    (fSeq (fSet 4 (fCall lenO (fCons (fVar 3) (fun _ => .ok []))))
    (fSeq (fWhile w_falling_2 b_falling_2)
    (fSeq (fWhile w_falling_1 b_falling_1)
    (fIte (fB (fOp neO (fVar 3) (fLst (fun _ => .ok [])))) (fLput 3 (fNeg (fC (.int 1))) (fOp addO (fOp ixO (fVar 3) (fNeg (fC (.int 1)))) (fC (.int 1)))) .nx)))))
def g_falling : Ev → Out :=
  (fSeq (fSet 2 (fLst (fun _ => .ok [])))
    (fSeq (fSet 3 (fLst (fCons (fC (.int 0)) (fun _ => .ok []))))
    (fSeq (fWhile w_falling_3 b_falling_3)
    (fRet (fVar 2)))))
def F_falling : List D → Res Rv := fun ds => fin (g_falling (start0 5 ds))
def t_pieces_1 : Ev → Res Bool :=
  (fB (fOp eqO (fOp modO (fVar 1) (fCall lenO (fCons (fVar 2) (fun _ => .ok [])))) (fC (.int 0))))
def c_pieces_1 : Ev → Res Rv :=
  (fVar 2)
def g_pieces : Ev → Out :=
  (fSeq (fDrop (fFn F_need_size (fCons (fVar 0) (fCons (fVar 1) (fun _ => .ok [])))))
    (fRet (fLc (fItL (fFn F_falling (fCons (fVar 0) (fCons (fVar 1) (fun _ => .ok []))))) 2 t_pieces_1 c_pieces_1)))
def F_pieces : List D → Res Rv := fun ds => fin (g_pieces (start0 3 ds))
def b_least_full_1 : Ev → Out :=
  (fMut 2 extG (fCons (fVar 3) (fun _ => .ok [])))
def g_least_full : Ev → Out :=
  (fSeq (fSet 2 (fLst (fun _ => .ok [])))
    (fSeq (fFor (fItL (fFn F_pieces (fCons (fVar 0) (fCons (fVar 1) (fun _ => .ok []))))) 3 b_least_full_1)
    (fRet (fVar 2))))
def F_least_full : List D → Res Rv := fun ds => fin (g_least_full (start0 4 ds))
end My
namespace My
open PySem PySem.Spec L2 DL
def c_need_ring_1 : Ev → Res Rv :=
  (fFn F_is_among (fCons (fVar 2) (fCons (fC (.int 0)) (fCons (fOp subO (fVar 0) (fC (.int 1))) (fun _ => .ok [])))))
def g_need_ring : Ev → Out :=
  (fSeq (fIte (tOrF (tNotF (fB (fIs .list (fVar 1)))) (tNotF (fB (fCh leO leO (fC (.int 1)) (fCall lenO (fCons (fVar 1) (fun _ => .ok []))) (fC (.int 256)))))) (fun _ => .exc 3) .nx)
    (fIte (tNotF (fB (fCall (lstArg allL) (fCons (fLc (fItL (fVar 1)) 2 (fun _ => .ok true) c_need_ring_1) (fun _ => .ok []))))) (fun _ => .exc 3) .nx))
def F_need_ring : List D → Res Rv := fun ds => fin (g_need_ring (start0 3 ds))
def g_need_length : Ev → Out :=
  (fIte (tNotF (fB (fFn F_is_among (fCons (fVar 0) (fCons (fC (.int 1)) (fCons (fC (.int 8)) (fun _ => .ok []))))))) (fun _ => .exc 0) .nx)
def F_need_length : List D → Res Rv := fun ds => fin (g_need_length (start0 1 ds))
def g_need_place : Ev → Out :=
  (fIte (tNotF (fB (fFn F_is_among (fCons (fVar 1) (fCons (fC (.int 0)) (fCons (fOp subO (fCall lenO (fCons (fVar 0) (fun _ => .ok []))) (fC (.int 1))) (fun _ => .ok []))))))) (fun _ => .exc 4) .nx)
def F_need_place : List D → Res Rv := fun ds => fin (g_need_place (start0 2 ds))
def c_signs_from_1 : Ev → Res Rv :=
  (fOp ixO (fVar 0) (fOp modO (fOp addO (fVar 1) (fVar 3)) (fCall lenO (fCons (fVar 0) (fun _ => .ok [])))))
def g_signs_from : Ev → Out :=
  (fRet (fLc (fRng rng1 (fCons (fVar 2) (fun _ => .ok []))) 3 (fun _ => .ok true) c_signs_from_1))
def F_signs_from : List D → Res Rv := fun ds => fin (g_signs_from (start0 4 ds))
def g_word_at : Ev → Out :=
  (fSeq (fDrop (fFn F_need_length (fCons (fVar 1) (fun _ => .ok []))))
    (fSeq (fDrop (fFn F_need_ring (fCons (fC (.int 9)) (fCons (fVar 0) (fun _ => .ok [])))))
    (fSeq (fDrop (fFn F_need_place (fCons (fVar 0) (fCons (fVar 2) (fun _ => .ok [])))))
    (fRet (fFn F_signs_from (fCons (fVar 0) (fCons (fVar 2) (fCons (fVar 1) (fun _ => .ok [])))))))))
def F_word_at : List D → Res Rv := fun ds => fin (g_word_at (start0 3 ds))
def c_words_on_1 : Ev → Res D :=
  (fFnT F_signs_from (fCons (fVar 0) (fCons (fVar 2) (fCons (fVar 1) (fun _ => .ok [])))))
def g_words_on : Ev → Out :=
  (fSeq (fDrop (fFn F_need_length (fCons (fVar 1) (fun _ => .ok []))))
    (fSeq (fDrop (fFn F_need_ring (fCons (fC (.int 9)) (fCons (fVar 0) (fun _ => .ok [])))))
    (fRetTr (fLcT (fRng rng1 (fCons (fCall lenO (fCons (fVar 0) (fun _ => .ok []))) (fun _ => .ok []))) 2 (fun _ => .ok true) c_words_on_1))))
def F_words_on : List D → Res Rv := fun ds => fin (g_words_on (start0 3 ds))
def b_place_of_1 : Ev → Out :=
  (fIte (fB (fOp eqO (fFn F_signs_from (fCons (fVar 0) (fCons (fVar 2) (fCons (fCall lenO (fCons (fVar 1) (fun _ => .ok []))) (fun _ => .ok []))))) (fVar 1))) (fRet (fVar 2)) .nx)
def g_place_of : Ev → Out :=
  (fSeq (fDrop (fFn F_need_word (fCons (fC (.int 9)) (fCons (fVar 1) (fun _ => .ok [])))))
    (fSeq (fDrop (fFn F_need_ring (fCons (fC (.int 9)) (fCons (fVar 0) (fun _ => .ok [])))))
    (fSeq (fFor (fRng rng1 (fCons (fCall lenO (fCons (fVar 0) (fun _ => .ok []))) (fun _ => .ok []))) 2 b_place_of_1)
    (fun _ => .exc 4))))
def F_place_of : List D → Res Rv := fun ds => fin (g_place_of (start0 3 ds))
def g_turned : Ev → Out :=
  (fSeq (fDrop (fFn F_need_ring (fCons (fC (.int 9)) (fCons (fVar 0) (fun _ => .ok [])))))
    (fSeq (fDrop (fFn F_need_place (fCons (fVar 0) (fCons (fVar 1) (fun _ => .ok [])))))
    (fRet (fOp addO (fSl (fVar 0) (fP (fVar 1)) fNoP) (fSl (fVar 0) fNoP (fP (fVar 1)))))))
def F_turned : List D → Res Rv := fun ds => fin (g_turned (start0 2 ds))
def c_least_turn_1 : Ev → Res D :=
  (fTr (fOp addO (fSl (fVar 0) (fP (fVar 1)) fNoP) (fSl (fVar 0) fNoP (fP (fVar 1)))))
def g_least_turn : Ev → Out :=
  (fSeq (fDrop (fFn F_need_ring (fCons (fC (.int 9)) (fCons (fVar 0) (fun _ => .ok [])))))
    (fRetTr (fTMin (fLcT (fRng rng1 (fCons (fCall lenO (fCons (fVar 0) (fun _ => .ok []))) (fun _ => .ok []))) 1 (fun _ => .ok true) c_least_turn_1))))
def F_least_turn : List D → Res Rv := fun ds => fin (g_least_turn (start0 2 ds))
def w_turn_ring_1 : Ev → Res Bool :=
  (tOrF (fB (fOp neO (fOp modO (fCall lenO (fCons (fVar 0) (fun _ => .ok []))) (fVar 1)) (fC (.int 0)))) (fB (fOp neO (fOp mulO (fSl (fVar 0) fNoP (fP (fVar 1))) (fOp fdivO (fCall lenO (fCons (fVar 0) (fun _ => .ok []))) (fVar 1))) (fVar 0))))
def b_turn_ring_1 : Ev → Out :=
  (fSet 1 (fOp addO (fVar 1) (fC (.int 1))))
def g_turn_ring : Ev → Out :=
  (fSeq (fDrop (fFn F_need_word (fCons (fC (.int 9)) (fCons (fVar 0) (fun _ => .ok [])))))
    (fSeq (fSet 1 (fC (.int 1)))
    (fSeq (fWhile w_turn_ring_1 b_turn_ring_1)
    (fRet (fSl (fVar 0) fNoP (fP (fVar 1)))))))
def F_turn_ring : List D → Res Rv := fun ds => fin (g_turn_ring (start0 2 ds))
end My
namespace My
open PySem PySem.Spec L2 DL
def c_need_rings_1 : Ev → Res Rv :=
  (fCall lenO (fCons (fVar 2) (fun _ => .ok [])))
def b_need_rings_1 : Ev → Out :=
  (fDrop (fFn F_need_ring (fCons (fC (.int 9)) (fCons (fVar 2) (fun _ => .ok [])))))
def g_need_rings : Ev → Out :=
  (fSeq (fDrop (fFn F_need_length (fCons (fVar 0) (fun _ => .ok []))))
    (fSeq (fIte (tOrF (tNotF (fB (fIs .list (fVar 1)))) (fB (fOp eqO (fVar 1) (fLst (fun _ => .ok []))))) (fun _ => .exc 3) .nx)
    (fSeq (fFor (fItL (fVar 1)) 2 b_need_rings_1)
    (fIte (fB (fOp gtO (fCall (lstArg sumL) (fCons (fLc (fItL (fVar 1)) 2 (fun _ => .ok true) c_need_rings_1) (fun _ => .ok []))) (fC (.int 256)))) (fun _ => .exc 3) .nx))))
def F_need_rings : List D → Res Rv := fun ds => fin (g_need_rings (start0 3 ds))
def b_first_places_1 : Ev → Out :=
  (fDset 2 (fCall tupO (fCons (fFn F_signs_from (fCons (fVar 1) (fCons (fVar 3) (fCons (fOp subO (fVar 0) (fC (.int 1))) (fun _ => .ok []))))) (fun _ => .ok []))) (fVar 3))
def g_first_places : Ev → Out :=
  (fSeq (fSet 2 (fun _ => .ok ⟨.fr, .dT []⟩))
    (fSeq (fFor (fRng rng1 (fCons (fCall lenO (fCons (fVar 1) (fun _ => .ok []))) (fun _ => .ok []))) 3 b_first_places_1)
    (fRet (fVar 2))))
def F_first_places : List D → Res Rv := fun ds => fin (g_first_places (start0 4 ds))
def b_put_in_1 : Ev → Out :=
  (fSeq (fSet 5 (fCall tupO (fCons (fFn F_signs_from (fCons (fVar 1) (fCons (fVar 4) (fCons (fOp subO (fVar 0) (fC (.int 1))) (fun _ => .ok []))))) (fun _ => .ok []))))
    (fIte (fB (fOp inDO (fVar 5) (fVar 3))) (fSeq (fSet 6 (fOp dgetO (fVar 3) (fVar 5)))
    (fRet (fOp addO (fOp addO (fOp addO (fSl (fVar 1) fNoP (fP (fVar 4))) (fSl (fVar 2) (fP (fVar 6)) fNoP)) (fSl (fVar 2) fNoP (fP (fVar 6)))) (fSl (fVar 1) (fP (fVar 4)) fNoP)))) .nx))
def g_put_in : Ev → Out :=
  (fSeq (fSet 3 (fFn F_first_places (fCons (fVar 0) (fCons (fVar 2) (fun _ => .ok [])))))
    (fSeq (fFor (fRng rng1 (fCons (fCall lenO (fCons (fVar 1) (fun _ => .ok []))) (fun _ => .ok []))) 4 b_put_in_1)
    (fRet (fC .non))))
def F_put_in : List D → Res Rv := fun ds => fin (g_put_in (start0 7 ds))
def g_joined : Ev → Out :=
  (fSeq (fDrop (fFn F_need_rings (fCons (fVar 0) (fCons (fLst (fCons (fVar 1) (fCons (fVar 2) (fun _ => .ok [])))) (fun _ => .ok [])))))
    (fSeq (fSet 3 (fFn F_put_in (fCons (fVar 0) (fCons (fVar 1) (fCons (fVar 2) (fun _ => .ok []))))))
    (fSeq (fIte (fB (fOp (isO false) (fVar 3) (fC .non))) (fun _ => .exc 6) .nx)
    (fRet (fVar 3)))))
def F_joined : List D → Res Rv := fun ds => fin (g_joined (start0 4 ds))
def b_next_join_1 : Ev → Out :=
  (fSeq (fSet 4 (fFn F_put_in (fCons (fVar 0) (fCons (fVar 1) (fCons (fOp ixO (fVar 2) (fVar 3)) (fun _ => .ok []))))))
    (fIte (fB (fOp (isO true) (fVar 4) (fC .non))) (fRetP (fCons (fVar 4) (fCons (fOp addO (fSl (fVar 2) fNoP (fP (fVar 3))) (fSl (fVar 2) (fP (fOp addO (fVar 3) (fC (.int 1)))) fNoP)) (fun _ => .ok [])))) .nx))
def g_next_join : Ev → Out :=
  (fSeq (fFor (fRng rng1 (fCons (fCall lenO (fCons (fVar 2) (fun _ => .ok []))) (fun _ => .ok []))) 3 b_next_join_1)
    (fRet (fC .non)))
def F_next_join : List D → Res Rv := fun ds => fin (g_next_join (start0 5 ds))
def w_joined_all_1 : Ev → Res Bool :=
  (fB (fOp neO (fVar 3) (fLst (fun _ => .ok []))))
def b_joined_all_1 : Ev → Out :=
  (fun s => (fun s => (fPair 4 2 3 F_next_join (fCons (fVar 0) (fCons (fVar 2) (fCons (fVar 3) (fun _ => .ok []))))
    (fB (fOp (isO false) (fVar 4) (fC .non))) (fun _ => .exc 6) .nx) (rel1 2 s)) (rel1 3 s))
def g_joined_all : Ev → Out :=
  (fSeq (fDrop (fFn F_need_rings (fCons (fVar 0) (fCons (fVar 1) (fun _ => .ok [])))))
    (fSeq (fSet 2 (fCall listO (fCons (fOp ixO (fVar 1) (fC (.int 0))) (fun _ => .ok []))))
    (fSeq (fSet 3 (fSl (fVar 1) (fP (fC (.int 1))) fNoP))
    (fSeq (fWhile w_joined_all_1 b_joined_all_1)
    (fRet (fVar 2))))))
def F_joined_all : List D → Res Rv := fun ds => fin (g_joined_all (start0 5 ds))
end My
namespace My
open PySem PySem.Spec L2 DL
def b_lift_1 : Ev → Out :=
  (fSeq (fMut 3 appG (fCons (fVar 4) (fun _ => .ok [])))
    (fSet 4 (fOp modO (fOp addO (fVar 4) (fVar 5)) (fVar 0))))
def w_lift_1 : Ev → Res Bool :=
  (tOrF (fB (fOp eqO (fVar 3) (fLst (fun _ => .ok [])))) (fB (fOp neO (fVar 4) (fVar 2))))
def b_lift_2 : Ev → Out :=
  (fFor (fItL (fVar 1)) 5 b_lift_1)
def g_lift : Ev → Out :=
  (fSeq (fSet 3 (fLst (fun _ => .ok [])))
    (fSeq (fSet 4 (fVar 2))
    (fSeq (fWhile w_lift_1 b_lift_2)
    (fRet (fVar 3)))))
def F_lift : List D → Res Rv := fun ds => fin (g_lift (start0 6 ds))
def b_lifted_1 : Ev → Out :=
  (fDput 3 (fOp ixO (fOp ixO (fVar 2) (fNeg (fC (.int 1)))) (fVar 5)) (fC (.bl true)))
def b_lifted_2 : Ev → Out :=
  (fIte (fB (fOp notinDO (fVar 4) (fVar 3))) (fSeq (fMut 2 appG (fCons (fFn F_lift (fCons (fVar 0) (fCons (fVar 1) (fCons (fVar 4) (fun _ => .ok []))))) (fun _ => .ok [])))
    (fFor (fRng rng3 (fCons (fC (.int 0)) (fCons (fCall lenO (fCons (fOp ixO (fVar 2) (fNeg (fC (.int 1)))) (fun _ => .ok []))) (fCons (fCall lenO (fCons (fVar 1) (fun _ => .ok []))) (fun _ => .ok []))))) 5 b_lifted_1)) .nx)
def g_lifted : Ev → Out :=
  (fSeq (fIte (tNotF (fB (fFn F_is_among (fCons (fVar 0) (fCons (fC (.int 1)) (fCons (fC (.int 9)) (fun _ => .ok []))))))) (fun _ => .exc 0) .nx)
    (fSeq (fDrop (fFn F_need_ring (fCons (fVar 0) (fCons (fVar 1) (fun _ => .ok [])))))
    (fSeq (fIte (fB (fOp gtO (fOp mulO (fVar 0) (fCall lenO (fCons (fVar 1) (fun _ => .ok [])))) (fC (.int 256)))) (fun _ => .exc 3) .nx)
    (fSeq (fSet 2 (fLst (fun _ => .ok [])))
    (fSeq (fSet 3 (fun _ => .ok ⟨.fr, .dK []⟩))
    (fSeq (fFor (fRng rng1 (fCons (fVar 0) (fun _ => .ok []))) 4 b_lifted_2)
    (fRet (fVar 2))))))))
def F_lifted : List D → Res Rv := fun ds => fin (g_lifted (start0 6 ds))
def c_grown_1 : Ev → Res Rv :=
  (fFn F_signs_from (fCons (fVar 2) (fCons (fVar 3) (fCons (fVar 1) (fun _ => .ok [])))))
def g_grown : Ev → Out :=
  (fSeq (fDrop (fFn F_need_size (fCons (fVar 0) (fCons (fVar 1) (fun _ => .ok [])))))
    (fSeq (fDrop (fFn F_need_size (fCons (fVar 0) (fCons (fOp addO (fVar 1) (fC (.int 1))) (fun _ => .ok [])))))
    (fSeq (fDrop (fFn F_need_ring (fCons (fVar 0) (fCons (fVar 2) (fun _ => .ok [])))))
    (fSeq (fIte (fB (fOp neO (fCall (lstArg (srtL false)) (fCons (fLc (fRng rng1 (fCons (fCall lenO (fCons (fVar 2) (fun _ => .ok []))) (fun _ => .ok []))) 3 (fun _ => .ok true) c_grown_1) (fun _ => .ok []))) (fFn F_all_words (fCons (fVar 0) (fCons (fVar 1) (fun _ => .ok [])))))) (fun _ => .exc 3) .nx)
    (fRet (fFn F_joined_all (fCons (fOp addO (fVar 1) (fC (.int 1))) (fCons (fFn F_lifted (fCons (fVar 0) (fCons (fVar 2) (fun _ => .ok [])))) (fun _ => .ok [])))))))))
def F_grown : List D → Res Rv := fun ds => fin (g_grown (start0 4 ds))
end My
namespace My
open PySem PySem.Spec L2 DL
def b_need_book_1 : Ev → Out :=
  (fSeq (fIte (tOrF (tNotF (fB (fFn F_is_word (fCons (fVar 0) (fCons (fVar 4) (fun _ => .ok [])))))) (tOrF (fB (fOp neO (fCall lenO (fCons (fVar 4) (fun _ => .ok []))) (fVar 1))) (fB (fOp inDO (fCall tupO (fCons (fVar 4) (fun _ => .ok []))) (fVar 3))))) (fun _ => .exc 2) .nx)
    (fDput 3 (fCall tupO (fCons (fVar 4) (fun _ => .ok []))) (fC (.bl true))))
def g_need_book : Ev → Out :=
  (fSeq (fDrop (fFn F_need_size (fCons (fVar 0) (fCons (fVar 1) (fun _ => .ok [])))))
    (fSeq (fIte (tOrF (tNotF (fB (fIs .list (fVar 2)))) (fB (fOp eqO (fVar 2) (fLst (fun _ => .ok []))))) (fun _ => .exc 2) .nx)
    (fSeq (fSet 3 (fun _ => .ok ⟨.fr, .dT []⟩))
    (fFor (fItL (fVar 2)) 4 b_need_book_1))))
def F_need_book : List D → Res Rv := fun ds => fin (g_need_book (start0 5 ds))
def b_joints_of_1 : Ev → Out :=
  (fSeq (fDput 1 (fCall tupO (fCons (fSl (fVar 2) fNoP (fP (fNeg (fC (.int 1))))) (fun _ => .ok []))) (fC (.bl true)))
    (fDput 1 (fCall tupO (fCons (fSl (fVar 2) (fP (fC (.int 1))) fNoP) (fun _ => .ok []))) (fC (.bl true))))
def g_joints_of : Ev → Out :=
  (fSeq (fSet 1 (fun _ => .ok ⟨.fr, .dT []⟩))
    (fSeq (fFor (fItL (fVar 0)) 2 b_joints_of_1)
    (fRet (fCall srtKL (fCons (fVar 1) (fun _ => .ok []))))))
def F_joints_of : List D → Res Rv := fun ds => fin (g_joints_of (start0 3 ds))
def c_joints_1 : Ev → Res D :=
  (fTr (fCall listO (fCons (fVar 3) (fun _ => .ok []))))
def g_joints : Ev → Out :=
  (fSeq (fDrop (fFn F_need_book (fCons (fVar 0) (fCons (fVar 1) (fCons (fVar 2) (fun _ => .ok []))))))
    (fRetTr (fLcT (fItL (fFn F_joints_of (fCons (fVar 2) (fun _ => .ok [])))) 3 (fun _ => .ok true) c_joints_1)))
def F_joints : List D → Res Rv := fun ds => fin (g_joints (start0 4 ds))
def b_uneven_at_1 : Ev → Out :=
  (fIte (fB (fOp neO (fOp dgetO (fVar 1) (fVar 3)) (fC (.int 0)))) (fRet (fVar 3)) .nx)
def b_uneven_at_2 : Ev → Out :=
  (fSeq (fDput 1 (fCall tupO (fCons (fSl (fVar 2) fNoP (fP (fNeg (fC (.int 1))))) (fun _ => .ok []))) (fOp addO (fGet2 (fVar 1) (fCall tupO (fCons (fSl (fVar 2) fNoP (fP (fNeg (fC (.int 1))))) (fun _ => .ok []))) (fC (.int 0))) (fC (.int 1))))
    (fDput 1 (fCall tupO (fCons (fSl (fVar 2) (fP (fC (.int 1))) fNoP) (fun _ => .ok []))) (fOp subO (fGet2 (fVar 1) (fCall tupO (fCons (fSl (fVar 2) (fP (fC (.int 1))) fNoP) (fun _ => .ok []))) (fC (.int 0))) (fC (.int 1)))))
def g_uneven_at : Ev → Out :=
  (fSeq (fSet 1 (fun _ => .ok ⟨.fr, .dT []⟩))
    (fSeq (fFor (fItL (fVar 0)) 2 b_uneven_at_2)
    (fSeq (fFor (fItL (fFn F_joints_of (fCons (fVar 0) (fun _ => .ok [])))) 3 b_uneven_at_1)
    (fRet (fC .non)))))
def F_uneven_at : List D → Res Rv := fun ds => fin (g_uneven_at (start0 4 ds))
def b_come_to_1 : Ev → Out :=
  (fSeq (fSet 6 (fCall tupO (fCons (fSl (fVar 5) (fP (fC (.int 1))) fNoP) (fun _ => .ok []))))
    (fIte (tAndF (fB (fOp eqO (fCall tupO (fCons (fSl (fVar 5) fNoP (fP (fNeg (fC (.int 1))))) (fun _ => .ok []))) (fOp ixO (fVar 2) (fVar 4)))) (fB (fOp notinDO (fVar 6) (fVar 3)))) (fSeq (fDput 3 (fVar 6) (fC (.bl true)))
    (fMut 2 appG (fCons (fVar 6) (fun _ => .ok [])))) .nx))
def w_come_to_1 : Ev → Res Bool :=
  (fB (fOp ltO (fVar 4) (fCall lenO (fCons (fVar 2) (fun _ => .ok [])))))
def b_come_to_2 : Ev → Out :=
  (fSeq (fFor (fItL (fVar 0)) 5 b_come_to_1)
    (fSet 4 (fOp addO (fVar 4) (fC (.int 1)))))
def g_come_to : Ev → Out :=
  (fSeq (fSet 2 (fLst (fCons (fVar 1) (fun _ => .ok []))))
    (fSeq (fSet 3 (fDisp1 (fVar 1) (fC (.bl true))))
    (fSeq (fSet 4 (fC (.int 0)))
    (fSeq (fWhile w_come_to_1 b_come_to_2)
    (fRet (fVar 2))))))
def F_come_to : List D → Res Rv := fun ds => fin (g_come_to (start0 7 ds))
def c_lack_of_1 : Ev → Res D :=
  (fTr (fCall listO (fCons (fVar 3) (fun _ => .ok []))))
def g_lack_of : Ev → Out :=
  (fSeq (fSet 1 (fFn F_uneven_at (fCons (fVar 0) (fun _ => .ok []))))
    (fSeq (fIte (fB (fOp (isO true) (fVar 1) (fC .non))) (fRetTr (fTTup (fTCons (fTr (fC (.str "uneven"))) (fTCons (fTr (fCall listO (fCons (fVar 1) (fun _ => .ok [])))) (fun _ => .ok []))))) .nx)
    (fSeq (fSet 2 (fFn F_come_to (fCons (fVar 0) (fCons (fCall tupO (fCons (fSl (fCall (lstArg minG) (fCons (fVar 0) (fun _ => .ok []))) fNoP (fP (fNeg (fC (.int 1))))) (fun _ => .ok []))) (fun _ => .ok [])))))
    (fSeq (fIte (fB (fOp ltO (fCall lenO (fCons (fVar 2) (fun _ => .ok []))) (fCall lenO (fCons (fFn F_joints_of (fCons (fVar 0) (fun _ => .ok []))) (fun _ => .ok []))))) (fRetTr (fTTup (fTCons (fTr (fC (.str "apart"))) (fTCons (fLcT (fItL (fCall (lstArg (srtL false)) (fCons (fVar 2) (fun _ => .ok [])))) 3 (fun _ => .ok true) c_lack_of_1) (fun _ => .ok []))))) .nx)
    (fRet (fC .non))))))
def F_lack_of : List D → Res Rv := fun ds => fin (g_lack_of (start0 4 ds))
def g_lack : Ev → Out :=
  (fSeq (fDrop (fFn F_need_book (fCons (fVar 0) (fCons (fVar 1) (fCons (fVar 2) (fun _ => .ok []))))))
    (fRetTr (fFnT F_lack_of (fCons (fVar 2) (fun _ => .ok [])))))
def F_lack : List D → Res Rv := fun ds => fin (g_lack (start0 3 ds))
def c_is_ring_of_1 : Ev → Res Rv :=
  (fFn F_signs_from (fCons (fVar 3) (fCons (fVar 4) (fCons (fVar 1) (fun _ => .ok [])))))
def g_is_ring_of : Ev → Out :=
  (fSeq (fDrop (fFn F_need_book (fCons (fVar 0) (fCons (fVar 1) (fCons (fVar 2) (fun _ => .ok []))))))
    (fSeq (fDrop (fFn F_need_ring (fCons (fVar 0) (fCons (fVar 3) (fun _ => .ok [])))))
    (fRet (fOp eqO (fCall (lstArg (srtL false)) (fCons (fLc (fRng rng1 (fCons (fCall lenO (fCons (fVar 3) (fun _ => .ok []))) (fun _ => .ok []))) 4 (fun _ => .ok true) c_is_ring_of_1) (fun _ => .ok []))) (fCall (lstArg (srtL false)) (fCons (fVar 2) (fun _ => .ok [])))))))
def F_is_ring_of : List D → Res Rv := fun ds => fin (g_is_ring_of (start0 5 ds))
end My
namespace My
open PySem PySem.Spec L2 DL
def i_words_behind : Ev → Res (Bool × List D) :=
  (fItL (fSrtR (fVar 0)))
def k_words_behind : Ev → Res Rv :=
  (fCall tupO (fCons (fSl (fVar 2) fNoP (fP (fNeg (fC (.int 1))))) (fun _ => .ok [])))
def F_words_behind : List D → Option (List (List Int × List D)) := dlMake i_words_behind k_words_behind
def w_round_trip_1 : Ev → Res Bool :=
  (fB (fOp neO (fVar 2) (fLst (fun _ => .ok []))))
def b_round_trip_1 : Ev → Out :=
  (fSeq (fUnp [4, 5] (fOp ixO (fVar 2) (fNeg (fC (.int 1)))))
    (fIte (fDlNe 1 (fVar 4)) (fSeq (fDlPop 1 6 (fVar 4))
    (fMut 2 appG (fCons (fTup (fCons (fCall tupO (fCons (fSl (fVar 6) (fP (fC (.int 1))) fNoP) (fun _ => .ok []))) (fCons (fVar 6) (fun _ => .ok [])))) (fun _ => .ok [])))) (fSeq (fMut 3 appG (fCons (fVar 5) (fun _ => .ok [])))
    (fMut 2 popG fun _ => .ok []))))
def g_round_trip : Ev → Out :=
  (fDl 1 F_words_behind (fCons (fVar 0) (fun _ => .ok []))
    (fSeq (fSet 2 (fLst (fCons (fTup (fCons (fCall tupO (fCons (fSl (fCall (lstArg minG) (fCons (fVar 0) (fun _ => .ok []))) fNoP (fP (fNeg (fC (.int 1))))) (fun _ => .ok []))) (fCons (fC .non) (fun _ => .ok [])))) (fun _ => .ok []))))
    (fSeq (fSet 3 (fLst (fun _ => .ok [])))
    (fSeq (fWhile w_round_trip_1 b_round_trip_1)
    (fRet (fRev2 (fVar 3)))))))
def F_round_trip : List D → Res Rv := fun ds => fin (g_round_trip (start0 7 ds))
def c_ring_of_1 : Ev → Res Rv :=
  (fOp ixO (fVar 3) (fC (.int 0)))
def g_ring_of : Ev → Out :=
  (fSeq (fDrop (fFn F_need_book (fCons (fVar 0) (fCons (fVar 1) (fCons (fVar 2) (fun _ => .ok []))))))
    (fSeq (fIte (fB (fOp (isO true) (fFn F_lack_of (fCons (fVar 2) (fun _ => .ok []))) (fC .non))) (fun _ => .exc 5) .nx)
    (fRet (fLc (fItL (fFn F_round_trip (fCons (fVar 2) (fun _ => .ok [])))) 3 (fun _ => .ok true) c_ring_of_1))))
def F_ring_of : List D → Res Rv := fun ds => fin (g_ring_of (start0 4 ds))
end My
namespace My
open PySem PySem.Spec L2 DL
/-! sorted lists of rows of ints -/
def lexB : List Int → List Int → Bool
  | [], _ => true
  | _ :: _, [] => false
  | x :: xs, y :: ys => if x < y then true else if y < x then false else lexB xs ys
theorem lexB_le : ∀ a b : List Int, lexB a b = decide (a ≤ b)
  | [], b => by simp [lexB]
  | x :: xs, [] => by simp [lexB]
  | x :: xs, y :: ys => by
    simp only [lexB, lexB_le xs ys]
    by_cases h1 : x < y
    · simp [h1, List.cons_le_cons_iff]
    · by_cases h2 : y < x
      · have : ¬ x = y := by omega
        simp [h1, h2, List.cons_le_cons_iff, this]
      · have : x = y := by omega
        simp [h1, h2, List.cons_le_cons_iff, this]
def insL (a : List Int) : List (List Int) → List (List Int)
  | [] => [a]
  | b :: r => if lexB a b = true then a :: b :: r else b :: insL a r
def isrt : List (List Int) → List (List Int)
  | [] => []
  | a :: r => insL a (isrt r)
theorem insL_perm (a : List Int) : ∀ r, (insL a r).Perm (a :: r)
  | [] => List.Perm.refl _
  | b :: r => by
    simp only [insL]
    split
    · exact List.Perm.refl _
    · exact ((insL_perm a r).cons b).trans (List.Perm.swap a b r)
theorem isrt_perm : ∀ r, (isrt r).Perm r
  | [] => List.Perm.refl _
  | a :: r => (insL_perm a (isrt r)).trans ((isrt_perm r).cons a)
theorem insL_sorted (a : List Int) : ∀ r : List (List Int), r.Pairwise (· ≤ ·) → (insL a r).Pairwise (· ≤ ·)
  | [], _ => List.pairwise_singleton _ _
  | b :: r, h => by
    simp only [insL]
    obtain ⟨h1, h2⟩ := List.pairwise_cons.mp h
    by_cases q : lexB a b = true
    · rw [if_pos q]
      rw [lexB_le, decide_eq_true_eq] at q
      refine List.pairwise_cons.mpr ⟨fun x hx => ?_, h⟩
      rcases List.mem_cons.mp hx with rfl | hx
      · exact q
      · exact List.le_trans q (h1 x hx)
    · rw [if_neg q]
      rw [lexB_le, decide_eq_true_eq] at q
      refine List.pairwise_cons.mpr ⟨fun x hx => ?_, insL_sorted a r h2⟩
      rcases List.mem_cons.mp ((insL_perm a r).mem_iff.mp hx) with rfl | hx
      · exact (List.le_total b x).resolve_right q
      · exact h1 x hx
theorem isrt_sorted : ∀ r, (isrt r).Pairwise (· ≤ ·)
  | [] => List.Pairwise.nil
  | a :: r => insL_sorted a _ (isrt_sorted r)
theorem ms_isrt (ws : List (List Int)) : ws.mergeSort (fun a b => decide (a ≤ b)) = isrt ws := by
  refine List.Perm.eq_of_pairwise (le := (· ≤ ·)) (fun a b _ _ h1 h2 => List.le_antisymm h1 h2) ?_ (isrt_sorted ws) ((List.mergeSort_perm ws _).trans (isrt_perm ws).symm)
  have := List.pairwise_mergeSort (le := fun a b : List Int => decide (a ≤ b)) (fun a b c h1 h2 => by simp at h1 h2 ⊢; exact List.le_trans h1 h2) (fun a b => by simp; exact List.le_total a b) ws
  exact this.imp fun h => by simpa using h
theorem toPy_li (w : List Int) : toPy (li w) = .list (w.map .int) := by
  show PyData.list (toPys (w.map D.int)) = _
  rw [toPys_map, List.map_map]
  rfl
theorem toPy_ti (w : List Int) : toPy (.tup (w.map .int)) = .tuple (w.map .int) := by
  show PyData.tuple (toPys (w.map D.int)) = _
  rw [toPys_map, List.map_map]
  rfl
theorem leS_li (a b : List Int) : leS false (li a) (li b) = decide (a ≤ b) := by
  have h := congrFun (congrFun (PySem.W.dataLe_rows (β := List Int) fun w => w) a) b
  rw [← h]
  show PySem.W.dataLe false toPy (li a) (li b) = _
  rw [PySem.W.dataLe_eq, PySem.W.dataLe_eq]
  show (!PySem.W.dataLt (toPy (li b)) (toPy (li a))) = !PySem.W.dataLt (.list (b.map .int)) (.list (a.map .int))
  rw [toPy_li, toPy_li]
theorem srtD_li (ws : List (List Int)) : srtD false (ws.map li) = (isrt ws).map li := by
  unfold srtD
  rw [← ms_isrt]
  exact (List.map_mergeSort fun a _ b _ => (leS_li a b).symm).symm
theorem alike_ints : ∀ a b : List Int, PySem.W.alikeAll (a.map .int) (b.map .int) = true
  | [], _ => by simp [PySem.W.alikeAll]
  | _ :: _, [] => by simp [PySem.W.alikeAll]
  | x :: xs, y :: ys => by simp [PySem.W.alikeAll, PySem.W.alike, alike_ints xs ys]
theorem canLay_ints (w : List Int) : (toPy (li w)).canLay0 = true ∧ (toPy (li w)).depth ≤ 60 := ⟨OkN.ints.1, Nat.le_trans OkN.ints.2 (by decide)⟩
theorem srtOk_li (ws : List (List Int)) : srtOk (ws.map li) = true := by
  simp only [srtOk, Bool.and_eq_true, Bool.or_eq_true, List.all_eq_true, decide_eq_true_eq]
  refine ⟨fun d hd => ?_, fun d hd e he => ?_, .inr fun d hd => ?_⟩
  · obtain ⟨w, _, rfl⟩ := List.mem_map.mp hd
    exact canLay_ints w
  · obtain ⟨w, _, rfl⟩ := List.mem_map.mp hd
    obtain ⟨v, _, rfl⟩ := List.mem_map.mp he
    rw [toPy_li, toPy_li]
    simp only [PySem.W.alike, alike_ints]
  · obtain ⟨w, _, rfl⟩ := List.mem_map.mp hd
    rfl
theorem srtL_li (ws : List (List Int)) : srtL false (ws.map li) = some ⟨.fr, .lst ((isrt ws).map li)⟩ := by
  simp only [srtL, srtOk_li, if_true, srtD_li]
end My
namespace My
/-! rings as endless words -/
def cyc (r : List Int) (i : Nat) : Int := r.getD (i % r.length) 0
def frm (r : List Int) (p m : Nat) : List Int := (List.range m).map fun j => cyc r (p + j)
theorem frm_len (r : List Int) (p m : Nat) : (frm r p m).length = m := by simp [frm]
theorem cyc_lt {r : List Int} {i : Nat} (h : i < r.length) : cyc r i = r.getD i 0 := by simp [cyc, Nat.mod_eq_of_lt h]
theorem cyc_add (r : List Int) (i : Nat) : cyc r (r.length + i) = cyc r i := by simp [cyc]
theorem cyc_sub {r : List Int} {i : Nat} (h : r.length ≤ i) : cyc r i = cyc r (i - r.length) := by
  rw [← cyc_add r (i - r.length)]; congr 1; omega
theorem cyc_joinL {a b : List Int} {s : Nat} (ha : 0 < a.length) (h : ∀ i, i < s → cyc a i = cyc b i) : ∀ i, i < a.length + s → cyc (a ++ b) i = cyc a i := by
  intro i
  induction i using Nat.strongRecOn with
  | ind i ih =>
    intro hi
    by_cases h1 : i < a.length
    · rw [cyc_lt h1, cyc_lt (by simp; omega)]
      simp [List.getD, List.getElem?_append_left h1]
    · have e : cyc a i = cyc b (i - a.length) := by rw [cyc_sub (by omega), h _ (by omega)]
      rw [e]
      by_cases h2 : i < a.length + b.length
      · rw [cyc_lt (by simp; omega), cyc_lt (by omega)]
        simp [List.getD, List.getElem?_append_right (show a.length ≤ i by omega)]
      · rw [cyc_sub (by simp; omega), ih _ (by simp; omega) (by simp; omega), h _ (by simp; omega), cyc_sub (i := i - a.length) (by omega)]
        congr 1
        simp; omega
theorem cyc_joinR {a b : List Int} {s : Nat} (hb : 0 < b.length) (h : ∀ i, i < s → cyc a i = cyc b i) (ha : 0 < a.length) : ∀ i, i < b.length + s → cyc (a ++ b) (a.length + i) = cyc b i := by
  intro i
  induction i using Nat.strongRecOn with
  | ind i ih =>
    intro hi
    by_cases h1 : i < b.length
    · rw [cyc_lt h1, cyc_lt (by simp; omega)]
      simp [List.getD, List.getElem?_append_right]
    · rw [cyc_sub (by simp; omega), cyc_sub (i := i) (by omega)]
      have e : a.length + i - (a ++ b).length = i - b.length := by simp; omega
      rw [e, cyc_joinL ha h _ (by omega), h _ (by omega)]
def wrd (r : List Int) (m : Nat) : List (List Int) := (List.range r.length).map fun p => frm r p m
theorem wrd_join {a b : List Int} {m : Nat} (ha : 0 < a.length) (hb : 0 < b.length) (h : ∀ i, i < m - 1 → cyc a i = cyc b i) : wrd (a ++ b) m = wrd a m ++ wrd b m := by
  unfold wrd
  rw [List.length_append, List.range_add, List.map_append, List.map_map]
  congr 1
  · refine List.map_congr_left fun p hp => ?_
    have := List.mem_range.mp hp
    unfold frm
    refine List.map_congr_left fun j hj => ?_
    have := List.mem_range.mp hj
    exact cyc_joinL ha h _ (by omega)
  · refine List.map_congr_left fun p hp => ?_
    have := List.mem_range.mp hp
    simp only [Function.comp, frm]
    refine List.map_congr_left fun j hj => ?_
    have := List.mem_range.mp hj
    rw [Nat.add_assoc]
    exact cyc_joinR hb h ha _ (by omega)
end My
namespace My
/-! a ring turned -/
theorem cyc_turn {r : List Int} {p : Nat} (hp : p ≤ r.length) (i : Nat) (hr : 0 < r.length) : cyc (r.drop p ++ r.take p) i = cyc r (p + i) := by
  have hl : (r.drop p ++ r.take p).length = r.length := by simp; omega
  unfold cyc
  rw [hl]
  have hi : i % r.length < r.length := Nat.mod_lt _ hr
  have e : (p + i) % r.length = (p + i % r.length) % r.length := by simp
  rw [e]
  generalize i % r.length = k at hi
  by_cases h : k < r.length - p
  · rw [Nat.mod_eq_of_lt (by omega)]
    simp [List.getD, List.getElem?_append_left (show k < (r.drop p).length by simp; omega)]
  · rw [Nat.mod_eq_sub_mod (by omega), Nat.mod_eq_of_lt (by omega)]
    simp only [List.getD]
    rw [List.getElem?_append_right (by simp; omega), List.getElem?_take_of_lt (by simp; omega)]
    congr 2
    simp; omega
theorem frm_turn {r : List Int} {p : Nat} (hp : p ≤ r.length) (hr : 0 < r.length) (q m : Nat) : frm (r.drop p ++ r.take p) q m = frm r (p + q) m := by
  unfold frm
  exact List.map_congr_left fun j _ => by rw [cyc_turn hp _ hr]; congr 1; omega
theorem wrd_turn {r : List Int} {p : Nat} (hp : p ≤ r.length) (m : Nat) : (wrd (r.drop p ++ r.take p) m).Perm (wrd r m) := by
  by_cases hr : r.length = 0
  · have : r = [] := List.length_eq_zero_iff.mp hr
    subst this; simp
  have h0 : 0 < r.length := by omega
  have hl : (r.drop p ++ r.take p).length = r.length := by simp; omega
  unfold wrd
  rw [hl]
  have e1 : (List.range r.length).map (fun q => frm (r.drop p ++ r.take p) q m) = (List.range (r.length - p)).map (fun q => frm r (p + q) m) ++ (List.range p).map (fun q => frm r q m) := by
    conv => lhs; rw [show r.length = (r.length - p) + p by omega, List.range_add, List.map_append, List.map_map]
    congr 1
    · exact List.map_congr_left fun q _ => frm_turn hp h0 q m
    · refine List.map_congr_left fun q hq => ?_
      simp only [Function.comp]
      rw [frm_turn hp h0, show p + (r.length - p + q) = r.length + q by omega]
      unfold frm
      exact List.map_congr_left fun j _ => by rw [Nat.add_assoc, cyc_add]
  have e2 : (List.range r.length).map (fun q => frm r q m) = (List.range p).map (fun q => frm r q m) ++ (List.range (r.length - p)).map (fun q => frm r (p + q) m) := by
    conv => lhs; rw [show r.length = p + (r.length - p) by omega, List.range_add, List.map_append, List.map_map]
    rfl
  rw [e1, e2]
  exact List.perm_append_comm
/-- the ring of a, with b from q on put in at place p -/
theorem wrd_put {a b : List Int} {p q m : Nat} (hp : p < a.length) (hq : q < b.length) (h : frm a p (m - 1) = frm b q (m - 1)) :
    (wrd (a.take p ++ (b.drop q ++ b.take q) ++ a.drop p) m).Perm (wrd a m ++ wrd b m) := by
  have t := wrd_turn (r := a.take p ++ (b.drop q ++ b.take q) ++ a.drop p) (p := p + b.length) (by simp; omega) m
  have e : (a.take p ++ (b.drop q ++ b.take q) ++ a.drop p).drop (p + b.length) ++ (a.take p ++ (b.drop q ++ b.take q) ++ a.drop p).take (p + b.length) = (a.drop p ++ a.take p) ++ (b.drop q ++ b.take q) := by
    have hl : (a.take p ++ (b.drop q ++ b.take q)).length = p + b.length := by simp; omega
    rw [← hl, List.drop_left, List.take_left, List.append_assoc]
  rw [e, wrd_join (by simp; omega) (by simp; omega) (fun i hi => by
    rw [cyc_turn (by omega) _ (by omega), cyc_turn (by omega) _ (by omega)]
    have := congrArg (fun l => l[i]?) h
    simpa [frm, hi] using this)] at t
  exact t.symm.trans ((wrd_turn (by omega) m).append (wrd_turn (by omega) m))
theorem isrt_perm_eq {l r : List (List Int)} (h : l.Perm r) : isrt l = isrt r :=
  List.Perm.eq_of_pairwise (le := (· ≤ ·)) (fun a b _ _ h1 h2 => Std.le_antisymm h1 h2) (isrt_sorted l) (isrt_sorted r) ((isrt_perm l).trans (h.trans (isrt_perm r).symm))
end My
namespace My
open PySem PySem.Spec L2 DL
/-! what the words' functions answer -/
def amg : D → Int → Int → Bool
  | .int i, a, b => decide (a ≤ i) && decide (i ≤ b)
  | _, _, _ => false
@[simp] theorem amg_int {i a b : Int} : amg (.int i) a b = (decide (a ≤ i) && decide (i ≤ b)) := rfl
def known : D → Bool
  | .scr _ => false
  | .any => false
  | .exc _ => false
  | _ => true
@[simp] theorem known_int {i : Int} : known (.int i) = true := rfl
theorem F_is_among_eq (d : D) (a b : Int) (h : known d = true) : F_is_among [d, .int a, .int b] = .ok ⟨.sh, .bl (amg d a b)⟩ := by
  cases d with
  | int i =>
    simp [F_is_among, g_is_among, amg]
    split <;> simp_all <;> omega
  | _ => first | (simp [F_is_among, g_is_among, amg]; done) | cases h
theorem F_how_many_eq (s n : Int) (hs : -1000 < s ∧ s < 1000) (hn : -1000 < n ∧ n < 1000) : F_how_many [.int s, .int n] = .ok ⟨.sh, .int (s ^ n.toNat)⟩ := by
  have h1 : -18446744073709551616 < s ∧ s < 18446744073709551616 := by omega
  have h2 : -4611686018427387904 ≤ n ∧ n < 4611686018427387904 := by omega
  obtain ⟨e, h3, x, h4⟩ := loop_do (g := b_how_many_1) (i := 3) (fun j e => ∃ x, e = [.sh (.int s), .sh (.int n), .sh (.int (s ^ j)), x]) (rngD 0 n.toNat) [.sh (.int s), .sh (.int n), .sh (.int 1), .un] ⟨.un, by simp⟩ (by
    rintro j d e hd ⟨x, rfl⟩
    simp [b_how_many_1, h1, Int.pow_succ])
  rw [rngD_length] at h4
  subst h4
  simp [F_how_many, g_how_many, h2, h3]
/-- signs and a size that go together -/
def fits (a b : D) : Bool := amg a 1 9 && amg b 1 8 && (match a, b with
  | .int s, .int n => decide (s ^ n.toNat ≤ 256)
  | _, _ => false)
theorem fits_int {a b : D} (h : fits a b = true) : ∃ s n : Int, a = .int s ∧ b = .int n ∧ 1 ≤ s ∧ s ≤ 9 ∧ 1 ≤ n ∧ n ≤ 8 ∧ s ^ n.toNat ≤ 256 := by
  cases a <;> cases b <;> simp [fits, amg] at h ⊢
  omega
theorem F_need_size_eq (a b : D) (ha : known a = true) (hb : known b = true) : F_need_size [a, b] = if fits a b = true then .ok ⟨.sh, .non⟩ else .exc 0 := by
  have e1 := F_is_among_eq a 1 9 ha
  have e2 := F_is_among_eq b 1 8 hb
  simp [F_need_size, g_need_size, e1, e2]
  by_cases h1 : amg a 1 9 = true
  · by_cases h2 : amg b 1 8 = true
    · cases a <;> simp [amg] at h1
      cases b <;> simp [amg] at h2
      rename_i s n
      rw [F_how_many_eq s n (by omega) (by omega)]
      simp [fits, h1, h2]
      by_cases h : s ^ n.toNat ≤ 256
      · have h' : ¬ 256 < s ^ n.toNat := by omega
        simp [h, h']
      · have h' : 256 < s ^ n.toNat := by omega
        simp [h, h']
    · simp [h1, h2, fits]
  · simp [h1, fits]
def isW (s : Int) : D → Bool
  | .lst ds => decide (1 ≤ ds.length) && (decide (ds.length ≤ 8) && ds.all fun x => amg x 0 (s - 1))
  | _ => false
def kn1 : D → Bool
  | .lst ds => ds.all known
  | d => known d
theorem blsOf_map {α : Type} (f : α → Bool) : ∀ ds : List α, blsOf (ds.map fun x => D.bl (f x)) = some (ds.map f)
  | [] => rfl
  | d :: ds => by simp [blsOf, blsOf_map f ds]
theorem F_is_word_eq (s : Int) (d : D) (h : kn1 d = true) : F_is_word [.int s, d] = .ok ⟨.sh, .bl (isW s d)⟩ := by
  cases d with
  | lst ds =>
    simp only [kn1, List.all_eq_true] at h
    have e := lc_map (fe := c_is_word_1) (i := 2) (s := [.sh (.int s), .sh (.lst ds), .un]) (f := fun x => .bl (amg x 0 (s - 1))) ds (fun x hx => ⟨.sh, by simp, by simp [c_is_word_1, F_is_among_eq x 0 (s - 1) (h x hx)]⟩)
    simp [F_is_word, g_is_word, isW, e, blsOf_map]
    by_cases h1 : 1 ≤ ds.length
    · have h1' : (1 : Int) ≤ ds.length := by omega
      by_cases h2 : ds.length ≤ 8
      · have h2' : (ds.length : Int) ≤ 8 := by omega
        have h3 : ds.length ≤ lim := by unfold lim; omega
        simp [h1, h1', h2, h2', h3, show ¬ (8 : Int) < ds.length by omega]
      · have h2' : ¬ (ds.length : Int) ≤ 8 := by omega
        simp [h1, h1', h2, h2', show (8 : Int) < ds.length by omega]
    · have h1' : ¬ (1 : Int) ≤ ds.length := by omega
      simp [h1, h1']
  | _ => first | (simp [F_is_word, g_is_word, isW]; done) | cases h
theorem F_need_word_eq (s : Int) (d : D) (h : kn1 d = true) : F_need_word [.int s, d] = if isW s d = true then .ok ⟨.sh, .non⟩ else .exc 1 := by
  simp [F_need_word, g_need_word, F_is_word_eq s d h]
  cases isW s d <;> simp
def numb (s : Int) (w : List Int) : Int := w.foldl (fun a x => a * s + x) 0
theorem F_number_in_eq (s : Int) (w : List Int) (hs : -1000 < s ∧ s < 1000) : F_number_in [.int s, .lst (w.map .int)] = .ok ⟨.sh, .int (numb s w)⟩ := by
  have h1 : -18446744073709551616 < s ∧ s < 18446744073709551616 := by omega
  obtain ⟨e, h3, x, h4⟩ := loop_do (g := b_number_in_1) (i := 3) (fun j e => ∃ x, e = [.sh (.int s), .sh (.lst (w.map .int)), .sh (.int (numb s (w.take j))), x]) (w.map .int) [.sh (.int s), .sh (.lst (w.map .int)), .sh (.int 0), .un] ⟨.un, by simp [numb]⟩ (by
    rintro j d e hd ⟨x, rfl⟩
    rw [List.getElem?_map, Option.map_eq_some_iff] at hd
    obtain ⟨y, hy, rfl⟩ := hd
    have e2 : w.take (j + 1) = w.take j ++ [y] := by rw [List.take_add_one, hy]; rfl
    simp [b_number_in_1, h1, e2, numb])
  rw [List.length_map, List.take_length] at h4
  subst h4
  simp [F_number_in, g_number_in, h3]
theorem isW_len {s : Int} {ds : List D} (h : isW s (.lst ds) = true) : 1 ≤ ds.length ∧ ds.length ≤ 8 := by
  simp [isW] at h
  omega
theorem F_number_of_good (s n : Int) (w : List Int) (h : fits (.int s) (.int n) = true) (hw : isW s (.lst (w.map .int)) = true) (hl : (w.length : Int) = n) : F_number_of [.int s, .int n, .lst (w.map .int)] = .ok ⟨.sh, .int (numb s w)⟩ := by
  obtain ⟨s', n', e1, e2, h1, h2, h3, h4, h5⟩ := fits_int h
  cases e1
  cases e2
  have e3 := F_need_size_eq (.int s) (.int n) rfl rfl
  rw [if_pos h] at e3
  have e4 := F_need_word_eq s (.lst (w.map .int)) (by simp [kn1])
  rw [if_pos hw] at e4
  simp [F_number_of, g_number_of, e3, e4, hl, F_number_in_eq s w (by omega)]
theorem F_number_of_bad (s n : Int) (d : D) (h : fits (.int s) (.int n) = true) (hk : kn1 d = true) (hw : isW s d = true → ∀ ds, d = .lst ds → (ds.length : Int) ≠ n) : F_number_of [.int s, .int n, d] = .exc 1 := by
  obtain ⟨s', n', e1, e2, h1, h2, h3, h4, h5⟩ := fits_int h
  cases e1
  cases e2
  have e3 := F_need_size_eq (.int s) (.int n) rfl rfl
  rw [if_pos h] at e3
  simp [F_number_of, g_number_of, e3, F_need_word_eq s d hk]
  by_cases hq : isW s d = true
  · cases d with
    | lst ds => simp [hq, hw hq ds rfl]
    | _ => simp [isW] at hq
  · simp [hq]
/-- a word by its number -/
def wb (s : Int) : Nat → Int → List Int
  | 0, _ => []
  | n + 1, k => (k / s ^ n % s) :: wb s n k
@[simp] theorem wb_length {s : Int} {k : Int} : ∀ {n : Nat}, (wb s n k).length = n
  | 0 => rfl
  | n + 1 => by simp [wb, wb_length (n := n)]
theorem F_word_by_eq (s n k : Int) (hs : 0 < s ∧ s < 1000) (hn : 0 ≤ n ∧ n < 1000) : F_word_by [.int s, .int n, .int k] = .ok ⟨.fr, .lst ((wb s n.toNat k).map .int)⟩ := by
  have h2 : -4611686018427387904 ≤ n ∧ n < 4611686018427387904 := by omega
  have h3 : 0 < s ∧ s < 1073741824 := by omega
  obtain ⟨e, h5, x, h4⟩ := loop_do (g := b_word_by_1) (i := 4) (fun j e => ∃ x, e = [.sh (.int s), .sh (.int n), .sh (.int (k / s ^ j)), .ow (.lst ((wb s j k).map .int)), x]) (rngD 0 n.toNat) [.sh (.int s), .sh (.int n), .sh (.int k), .ow (.lst []), .un] ⟨.un, by simp [wb]⟩ (by
    rintro j d e hd ⟨x, rfl⟩
    obtain ⟨hj, rfl⟩ := rngD_get hd
    have hl : j < lim := by unfold lim; omega
    simp [b_word_by_1, h3, hl, wb]
    rw [Int.pow_succ, Int.ediv_ediv_of_nonneg (Int.pow_nonneg (by omega))])
  rw [rngD_length] at h4
  subst h4
  simp [F_word_by, g_word_by, h2, h5]
theorem F_word_of_eq (s n : Int) (d : D) (h : fits (.int s) (.int n) = true) (hk : known d = true) : F_word_of [.int s, .int n, d] = match d with
    | .int k => if 0 ≤ k ∧ k < s ^ n.toNat then .ok ⟨.fr, .lst ((wb s n.toNat k).map .int)⟩ else .exc 1
    | _ => .exc 1 := by
  obtain ⟨s', n', e1, e2, h1, h2, h3, h4, h5⟩ := fits_int h
  cases e1
  cases e2
  have e3 := F_need_size_eq (.int s) (.int n) rfl rfl
  rw [if_pos h] at e3
  simp [F_word_of, g_word_of, e3, F_how_many_eq s n (by omega) (by omega), F_is_among_eq d 0 _ hk]
  cases d with
  | int k =>
    simp only [amg_int]
    by_cases q : 0 ≤ k ∧ k < s ^ n.toNat
    · have q2 : k ≤ s ^ n.toNat - 1 := by omega
      simp [q, q2, F_word_by_eq s n k (by omega) (by omega)]
    · rw [if_neg q]
      by_cases q1 : 0 ≤ k
      · have q2 : ¬ k ≤ s ^ n.toNat - 1 := by omega
        simp [q1, q2]
      · simp [q1]
  | _ => simp [amg]
def words (s n : Int) : List (List Int) := (List.range (s ^ n.toNat).toNat).map fun k : Nat => wb s n.toNat k
theorem F_all_words_eq (a b : D) (ha : known a = true) (hb : known b = true) : F_all_words [a, b] = if fits a b = true then (match a, b with
    | .int s, .int n => .ok ⟨.fr, .lst ((words s n).map fun w => .lst (w.map .int))⟩
    | _, _ => .stuck) else .exc 0 := by
  have e3 := F_need_size_eq a b ha hb
  by_cases h : fits a b = true
  · obtain ⟨s, n, rfl, rfl, h1, h2, h3, h4, h5⟩ := fits_int h
    rw [if_pos h] at e3
    have hp : 0 < s ^ n.toNat := Int.pow_pos (by omega)
    have e4 := F_how_many_eq s n (by omega) (by omega)
    have e5 : -4611686018427387904 ≤ s ^ n.toNat ∧ s ^ n.toNat < 4611686018427387904 := by omega
    have e6 := lc_map (fe := c_all_words_1) (i := 2) (s := [.sh (.int s), .sh (.int n), .un]) (f := fun d => match d with | .int k => .lst ((wb s n.toNat k).map .int) | _ => .non) (rngD 0 (s ^ n.toNat).toNat) (fun d hd => by
      obtain ⟨j, hj⟩ := List.mem_iff_getElem?.mp hd
      obtain ⟨_, rfl⟩ := rngD_get hj
      exact ⟨.fr, by simp, by simp [c_all_words_1, F_word_by_eq s n _ (show 0 < s ∧ s < 1000 by omega) (show 0 ≤ n ∧ n < 1000 by omega)]⟩)
    have e7 : (rngD 0 (s ^ n.toNat).toNat).map (fun d => match d with | .int k => D.lst ((wb s n.toNat k).map .int) | _ => .non) = (words s n).map fun w => .lst (w.map .int) := by
      simp [rngD, words]
    rw [e7] at e6
    have e8 : (words s n).length ≤ lim := by
      simp only [words, List.length_map, List.length_range]
      unfold lim
      omega
    simp [F_all_words, g_all_words, e3, e4, e5, e6, e8, h]
  · rw [if_neg h] at e3
    simp [F_all_words, g_all_words, e3, h]
end My
namespace My
open PySem PySem.Spec L2 DL
/-! rings.py: what its functions answer -/
theorem F_signs_from_eq (r : List Int) (p m : Nat) (hr : 0 < r.length) (hr2 : r.length ≤ 1000000) (hp : p ≤ 1000000) (hm : m ≤ 1000000) : F_signs_from [li r, .int p, .int m] = .ok ⟨.fr, li (frm r p m)⟩ := by
  have e := lc_map (fe := c_signs_from_1) (i := 3) (s := [.sh (li r), .sh (.int p), .sh (.int m), .un]) (f := fun d => match d with | .int k => .int (cyc r (p + k.toNat)) | _ => .non) (rngD 0 m) (fun d hd => by
    obtain ⟨j, hj⟩ := List.mem_iff_getElem?.mp hd
    obtain ⟨hj, rfl⟩ := rngD_get hj
    have hx : (p + j) % r.length < r.length := Nat.mod_lt _ hr
    have a1 : atI (r.map D.int) ((((p + j) % r.length : Nat)) : Int) = some (.int (cyc r (p + j))) := atI_nat (by simp [cyc, List.getD, hx])
    have a2 : ((p : Int) + (j : Int)) % (r.length : Int) = (((p + j) % r.length : Nat) : Int) := by push_cast; rfl
    obtain ⟨n, hn⟩ : ∃ n : Int, (r.length : Int) = n := ⟨_, rfl⟩
    have n0 : 0 < n := by omega
    rw [hn] at a2
    have a3 : cyc r (p + (0 + (j : Int)).toNat) = cyc r (p + j) := by simp
    refine ⟨.sh, by simp, ?_⟩
    show _ = (Res.ok (⟨.sh, .int (cyc r (p + (0 + (j : Int)).toNat))⟩ : Rv))
    rw [a3]
    generalize (p + j) % r.length = q at a1 a2
    generalize cyc r (p + j) = z at a1 ⊢
    simp [c_signs_from_1, hn, n0, show n ≠ 0 by omega, a2, a1])
  have l1 : m ≤ lim := by unfold lim; omega
  have b1 : -4611686018427387904 ≤ (m : Int) ∧ (m : Int) < 4611686018427387904 := by omega
  have e7 : (rngD 0 m).map (fun d => match d with | .int k => D.int (cyc r (p + k.toNat)) | _ => .non) = (frm r p m).map .int := by
    simp [rngD, frm, Function.comp_def]
  rw [e7] at e
  have l3 := frm_len r p m
  generalize frm r p m = w at e l3 ⊢
  obtain ⟨k, hk⟩ : ∃ k : Int, (m : Int) = k := ⟨_, rfl⟩
  have hk2 : m = k.toNat := by omega
  rw [hk] at b1 e ⊢
  have l4 : w.length ≤ lim := by rw [l3]; exact l1
  rw [hk2] at l1 e
  have h0 : 0 ≤ k := by omega
  clear hp hm hr hr2 hk2 hk
  simp [F_signs_from, g_signs_from, l1, l4, b1, e]
end My
namespace My
open PySem PySem.Spec L2 DL
/-! ranges, loops over ranges -/
theorem rng1_nat {k : Kd} {n : Nat} (h : n ≤ 1000000000) : rng1 [⟨k, .int (n : Int)⟩] = .ok (false, rngD 0 n) := by
  have : -(2 ^ 62) ≤ (n : Int) ∧ (n : Int) < 2 ^ 62 := by omega
  simp only [rng1]
  rw [if_pos this, Int.toNat_natCast]
theorem rng1_int {k : Kd} {n : Int} (h : -1000000000 ≤ n ∧ n ≤ 1000000000) : rng1 [⟨k, .int n⟩] = .ok (false, rngD 0 n.toNat) := by
  have : -(2 ^ 62) ≤ (n : Int) ∧ (n : Int) < 2 ^ 62 := by omega
  simp only [rng1]
  rw [if_pos this]
theorem rngD_mem {n : Nat} {d : D} (h : d ∈ rngD 0 n) : ∃ k : Nat, k < n ∧ d = .int (k : Int) := by
  obtain ⟨j, hj⟩ := List.mem_iff_getElem?.mp h
  obtain ⟨hl, rfl⟩ := rngD_get hj
  exact ⟨j, hl, by rw [Int.zero_add]⟩
theorem rngD_map {α : Type} {n : Nat} {f : D → α} : (rngD 0 n).map f = (List.range n).map fun k : Nat => f (.int (k : Int)) := by
  simp [rngD]
theorem lc_rng {fe : Ev → Res Rv} {i : Nat} {s : Ev} (f : Nat → D) (n : Nat) (h : ∀ k, k < n → ∃ kd, kd ≠ .ow ∧ fe (st s i (.sh (.int (k : Int)))) = .ok ⟨kd, f k⟩) : lcF (fun _ => .ok true) fe i s (rngD 0 n) = .ok ((List.range n).map f) := by
  rw [lc_map (f := fun d => match d with | .int k => f k.toNat | _ => .non) (rngD 0 n) (fun d hd => by
    obtain ⟨k, hk, rfl⟩ := rngD_mem hd
    obtain ⟨kd, h1, h2⟩ := h k hk
    exact ⟨kd, h1, by rw [h2]; simp⟩), rngD_map]
  simp
theorem lc_rngF {ft : Ev → Res Bool} {fe : Ev → Res Rv} {i : Nat} {s : Ev} (p : Nat → Bool) (f : Nat → D) (n : Nat) (h : ∀ k, k < n → ft (st s i (.sh (.int (k : Int)))) = .ok (p k) ∧ (p k = true → ∃ kd, kd ≠ .ow ∧ fe (st s i (.sh (.int (k : Int)))) = .ok ⟨kd, f k⟩)) : lcF ft fe i s (rngD 0 n) = .ok (((List.range n).filter p).map f) := by
  rw [lc_filter (p := fun d => match d with | .int k => p k.toNat | _ => false) (f := fun d => match d with | .int k => f k.toNat | _ => .non) (rngD 0 n) (fun d hd => by
    obtain ⟨k, hk, rfl⟩ := rngD_mem hd
    obtain ⟨h1, h2⟩ := h k hk
    refine ⟨by rw [h1]; simp, fun z => ?_⟩
    obtain ⟨kd, h3, h4⟩ := h2 (by simpa using z)
    exact ⟨kd, h3, by rw [h4]; simp⟩)]
  congr 1
  simp only [rngD, List.filter_map, List.map_map]
  have e1 : ((fun d : D => match d with | .int k => p k.toNat | _ => false) ∘ fun k : Nat => D.int (0 + (k : Int))) = p := by funext k; simp
  have e2 : ((fun d : D => match d with | .int k => f k.toNat | _ => D.non) ∘ fun k : Nat => D.int (0 + (k : Int))) = f := by funext k; simp
  rw [e1, e2]
theorem loopF_nx {g : Ev → Out} {i : Nat} {d : D} {ds : List D} {s s' : Ev} (h : g (st s i (.sh d)) = .nx s') : loopF g i (d :: ds) s = loopF g i ds s' := by simp only [loopF, h]
/-- the first turn that returns -/
theorem loop_rng {g : Ev → Out} {i : Nat} (f : Nat → Option Rv) (I : Ev → Prop) : ∀ (l : List Nat) (s : Ev), (∀ k ∈ l, ∀ s, I s → match f k with | some r => g (st s i (.sh (.int (k : Int)))) = .rt r | none => ∃ s', (g (st s i (.sh (.int (k : Int)))) = .nx s') ∧ I s') → I s →
    match l.findSome? f with | some r => loopF g i (l.map fun k : Nat => D.int (k : Int)) s = .rt r | none => ∃ s', loopF g i (l.map fun k : Nat => D.int (k : Int)) s = .nx s' ∧ I s'
  | [], s, _, h => ⟨s, rfl, h⟩
  | k :: l, s, hs, h => by
    have h1 := hs k List.mem_cons_self s h
    simp only [List.findSome?_cons, List.map_cons, loopF]
    cases e : f k with
    | some r => rw [e] at h1; simp only at h1 ⊢; rw [h1]
    | none =>
      rw [e] at h1
      obtain ⟨s', e1, h'⟩ := h1
      simp only [e1]
      exact loop_rng f I l s' (fun x hx => hs x (List.mem_cons_of_mem _ hx)) h'
theorem rngD_eq (n : Nat) : rngD 0 n = (List.range n).map fun k : Nat => D.int (k : Int) := by simp [rngD]
theorem findSome_if {α β : Type} (c : α → Bool) (f : α → β) : ∀ l : List α, (l.findSome? fun q => if c q = true then some (f q) else none) = (l.find? c).map f
  | [] => rfl
  | x :: l => by
    simp only [List.findSome?_cons, List.find?_cons]
    cases h : c x with
    | true => simp
    | false => simp [findSome_if c f l]
/-- a while loop that goes n turns -/
theorem wh_do {t : Ev → Res Bool} {g : Ev → Out} (I : Nat → Ev → Prop) (n : Nat) (hs : ∀ j s, j < n → I j s → t s = .ok true ∧ ∃ s', g s = .nx s' ∧ I (j + 1) s') (he : ∀ s, I n s → t s = .ok false) : ∀ (fuel j : Nat) (s : Ev), I j s → j ≤ n → n - j < fuel → ∃ s', whF t g fuel s = .nx s' ∧ I n s'
  | 0, _, _, _, _, h => by omega
  | fuel + 1, j, s, h, hj, hf => by
    by_cases q : j < n
    · obtain ⟨e1, s', e2, h'⟩ := hs j s q h
      obtain ⟨s2, e3, h3⟩ := wh_do I n hs he fuel (j + 1) s' h' (by omega) (by omega)
      refine ⟨s2, ?_, h3⟩
      simp only [whF, e1, bndR_ok, if_true, e2, e3]
    · have : j = n := by omega
      subst this
      refine ⟨s, ?_, h⟩
      simp only [whF, he s h, bndR_ok]
      rfl
theorem cut_from {α : Type} (xs : List α) (k : Nat) (h : k ≤ xs.length) : DL.cut xs (some (k : Int)) none = xs.drop k := by
  unfold DL.cut
  rw [HT.sIx_nat, HT.sIx_none, Nat.min_eq_left h, List.take_of_length_le (by simp)]
theorem cut_to {α : Type} (xs : List α) (k : Nat) (h : k ≤ xs.length) : DL.cut xs none (some (k : Int)) = xs.take k := by
  unfold DL.cut
  rw [HT.sIx_nat, HT.sIx_none, Nat.min_eq_left h, List.drop_zero]
  simp
def cell (ns : List Int) (k : Nat) : Int := ns.getD k 0
theorem lim_le {n : Nat} (h : n ≤ 1000000) : n ≤ lim := by unfold lim; omega
theorem lim_lt {n : Nat} (h : n ≤ 1000000) : n < lim := by unfold lim; omega
end My
namespace My
open PySem PySem.Spec L2 DL
theorem F_cell_at_eq (ns : List Int) (k : Nat) : F__law_cell_at [.scr ns, .int k] = .ok ⟨.sh, .int (cell ns k)⟩ := by
  simp [F__law_cell_at, g__law_cell_at]
  by_cases h : k < ns.length
  · have h' : atI ns (k : Int) = some (ns[k]'h) := atI_nat (by simp [h])
    simp [h, h', cell]
  · simp [h, cell]
theorem frm_succ (r : List Int) (p m : Nat) : frm r p (m + 1) = frm r p m ++ [cyc r (p + m)] := by
  simp [frm, List.range_succ]
theorem F_from_eq (r : List Int) (p m : Nat) (hp : p < r.length) (hr : r.length ≤ 1000000) (hm : m ≤ 90000) : F__law_from [li r, .int p, .int m] = .ok ⟨.fr, li (frm r p m)⟩ := by
  have key := wh_do (t := w__law_from_1) (g := b__law_from_1) (fun j s => s = [.sh (li r), .sh (.int ((((p + j) % r.length : Nat)) : Int)), .sh (.int m), .ow (li (frm r p j))]) m (by
    rintro j s hj rfl
    have hr0 : 0 < r.length := by omega
    have hx : (p + j) % r.length < r.length := Nat.mod_lt _ hr0
    have hl : (frm r p j).length = j := frm_len _ _ _
    have a1 : atI (r.map D.int) ((((p + j) % r.length : Nat)) : Int) = some (.int (cyc r (p + j))) := atI_nat (by simp [cyc, List.getD, hx])
    have e3 : (p + (j + 1)) % r.length = if (p + j) % r.length + 1 = r.length then 0 else (p + j) % r.length + 1 := by
      have h3 : (p + (j + 1)) % r.length = ((p + j) % r.length + 1) % r.length := by rw [Nat.mod_add_mod]; rfl
      rw [h3]
      split
      · rename_i h; rw [h, Nat.mod_self]
      · exact Nat.mod_eq_of_lt (by omega)
    have hll : (frm r p j).length < lim := lim_lt (by omega)
    rw [frm_succ]
    generalize frm r p j = w at hl hll ⊢
    generalize cyc r (p + j) = z at a1 ⊢
    generalize (p + (j + 1)) % r.length = q2 at e3 ⊢
    generalize (p + j) % r.length = q at hx a1 e3 ⊢
    have hjm : (w.length : Int) < m := by omega
    refine ⟨by simp [w__law_from_1, hjm], ?_⟩
    by_cases h : q + 1 = r.length
    · have h' : (q : Int) + 1 = (r.length : Int) := by omega
      rw [if_pos h] at e3
      subst e3
      simp [b__law_from_1, a1, hll, h']
    · have h' : ¬ (q : Int) + 1 = (r.length : Int) := by omega
      rw [if_neg h] at e3
      subst e3
      simp [b__law_from_1, a1, hll, h']) (by
    rintro s rfl
    have hl : (frm r p m).length = m := frm_len _ _ _
    generalize frm r p m = w at hl ⊢
    have hjm : ¬ (w.length : Int) < m := by omega
    simp [w__law_from_1, hjm]) DL.many 0 [.sh (li r), .sh (.int p), .sh (.int m), .ow (.lst [])] (by
    have : (p + 0) % r.length = p := Nat.mod_eq_of_lt (by omega)
    rw [this]; simp [frm]) (by omega) (by unfold DL.many; omega)
  obtain ⟨s', e, rfl⟩ := key
  simp [F__law_from, g__law_from, fWhile, e]
theorem F_words_eq (r : List Int) (s : Nat) (hr : r.length ≤ 1000000) (hs : s ≤ 90000) : F__law_words [li r, .int s] = .ok ⟨.fr, .lst ((wrd r s).map li)⟩ := by
  have e := lc_rng (fe := c__law_words_1) (i := 2) (s := [.sh (li r), .sh (.int s), .un]) (fun k => li (frm r k s)) r.length (fun k hk => by
    exact ⟨.fr, by simp, by simp -implicitDefEqProofs [c__law_words_1, F_from_eq r k s hk hr hs]⟩)
  have e2 : (List.range r.length).map (fun k => li (frm r k s)) = (wrd r s).map li := by simp [wrd]
  rw [e2] at e
  have hl : (wrd r s).length ≤ lim := by simp [wrd]; exact lim_le hr
  have hn : r.length ≤ 1000000000 := by omega
  generalize wrd r s = W at e hl ⊢
  simp -implicitDefEqProofs [F__law_words, g__law_words, -rng1, rng1_nat hn, e, hl]
end My
namespace My
open PySem PySem.Spec L2 DL
/-! rings.py, joins.py: what is refused -/
def isR (s : Int) : D → Bool
  | .lst ds => decide (1 ≤ ds.length) && (decide (ds.length ≤ 256) && ds.all fun x => amg x 0 (s - 1))
  | _ => false
theorem F_need_ring_eq (s : Int) (d : D) (h : kn1 d = true) : F_need_ring [.int s, d] = if isR s d = true then .ok ⟨.sh, .non⟩ else .exc 3 := by
  cases d with
  | lst ds =>
    simp only [kn1, List.all_eq_true] at h
    have e := lc_map (fe := c_need_ring_1) (i := 2) (s := [.sh (.int s), .sh (.lst ds), .un]) (f := fun x => .bl (amg x 0 (s - 1))) ds (fun x hx => ⟨.sh, by simp, by simp [c_need_ring_1, F_is_among_eq x 0 (s - 1) (h x hx)]⟩)
    simp [F_need_ring, g_need_ring, isR, e, blsOf_map]
    by_cases h1 : 1 ≤ ds.length
    · have h1' : (1 : Int) ≤ ds.length := by omega
      by_cases h2 : ds.length ≤ 256
      · have h2' : (ds.length : Int) ≤ 256 := by omega
        have h3 : ds.length ≤ lim := by unfold lim; omega
        simp [h1, h1', h2, h2', h3, show ¬ (256 : Int) < ds.length by omega]
        by_cases q : ∀ x, x ∈ ds → amg x 0 (s - 1) = true
        · rw [if_pos q, if_neg (fun ⟨x, hx, z⟩ => by rw [q x hx] at z; cases z)]
        · rw [if_neg q, if_pos]
          simpa using q
      · have h2' : ¬ (ds.length : Int) ≤ 256 := by omega
        simp [h1, h1', h2, h2', show (256 : Int) < ds.length by omega]
    · have h1' : ¬ (1 : Int) ≤ ds.length := by omega
      simp [h1, h1']
  | _ => first | (simp [F_need_ring, g_need_ring, isR]; done) | cases h
theorem F_need_length_eq (d : D) (h : known d = true) : F_need_length [d] = if amg d 1 8 = true then .ok ⟨.sh, .non⟩ else .exc 0 := by
  simp [F_need_length, g_need_length, F_is_among_eq d 1 8 h]
  generalize amg d 1 8 = b
  cases b <;> rfl
end My
namespace My
open PySem PySem.Spec L2 DL
/-! joins.py -/
def lenD : D → Nat
  | .lst ds => ds.length
  | _ => 0
def isRs : D → Bool
  | .lst ds => decide (1 ≤ ds.length) && (ds.all (isR 9) && decide ((ds.map lenD).sum ≤ 256))
  | _ => false
theorem loop_rings (a d0 : D) : ∀ (ds : List D) (x : Sl), (∀ d ∈ ds, kn1 d = true) → ∃ y, (y = x ∨ ∃ d, y = .sh d) ∧ loopF b_need_rings_1 2 ds [.sh a, .sh d0, x] = if (ds.all (isR 9)) = true then .nx [.sh a, .sh d0, y] else .exc 3
  | [], x, _ => ⟨x, .inl rfl, rfl⟩
  | d :: ds, x, h => by
    obtain ⟨y, hy, ih⟩ := loop_rings a d0 ds (.sh d) fun z hz => h z (List.mem_cons_of_mem _ hz)
    refine ⟨y, .inr (hy.elim (fun e => ⟨d, e⟩) id), ?_⟩
    have e := F_need_ring_eq 9 d (h d List.mem_cons_self)
    have hb : b_need_rings_1 [.sh a, .sh d0, .sh d] = if isR 9 d = true then .nx [.sh a, .sh d0, .sh d] else .exc 3 := by
      by_cases q : isR 9 d = true
      · rw [if_pos q] at e ⊢; simp -implicitDefEqProofs [b_need_rings_1, e]
      · rw [if_neg q] at e ⊢; simp -implicitDefEqProofs [b_need_rings_1, e]
    simp only [loopF, st]
    rw [hb]
    by_cases q : isR 9 d = true
    · rw [if_pos q]
      simp only [List.all_cons, q, Bool.true_and]
      exact ih
    · rw [if_neg q]
      simp [q]
theorem sum_cast : ∀ l : List Nat, (l.map fun n : Nat => (n : Int)).sum = ((l.sum : Nat) : Int)
  | [] => rfl
  | n :: l => by simp [sum_cast l]
theorem isR_lst {s : Int} {d : D} (h : isR s d = true) : ∃ ds, d = .lst ds ∧ 1 ≤ ds.length ∧ ds.length ≤ 256 := by
  cases d with
  | lst ds => simp [isR] at h; exact ⟨ds, rfl, h.1, h.2.1⟩
  | _ => simp [isR] at h
theorem F_need_rings_eq (a d : D) (ha : known a = true) (hk : known d = true) (hd : ∀ ds, d = .lst ds → ds.length ≤ 1000000 ∧ okEq d = true ∧ ∀ x ∈ ds, kn1 x = true) : F_need_rings [a, d] = if amg a 1 8 = true then (if isRs d = true then .ok ⟨.sh, .non⟩ else .exc 3) else .exc 0 := by
  have e0 := F_need_length_eq a ha
  by_cases h0 : amg a 1 8 = true
  · rw [if_pos h0] at e0 ⊢
    cases d with
    | lst ds =>
      obtain ⟨hll, hok, hkn⟩ := hd ds rfl
      cases ds with
      | nil => simp -implicitDefEqProofs [F_need_rings, g_need_rings, e0, isRs]
      | cons d1 dr =>
        have hq : eqL (d1 :: dr) [] = false := rfl
        obtain ⟨y, hy, e1⟩ := loop_rings a (.lst (d1 :: dr)) (d1 :: dr) .un hkn
        generalize hL : d1 :: dr = L at *
        have hL1 : 1 ≤ L.length := by rw [← hL]; simp
        by_cases h2 : L.all (isR 9) = true
        · rw [if_pos h2] at e1
          have ey : okW 2 [Sl.sh a, .sh (.lst L), y] = true := by rcases hy with rfl | ⟨d, rfl⟩ <;> rfl
          have e3 := lc_map (fe := c_need_rings_1) (i := 2) (s := [.sh a, .sh (.lst L), .un]) (f := fun x => .int (lenD x)) L (fun x hx => by
            obtain ⟨ds, rfl, _⟩ := isR_lst (List.all_eq_true.mp h2 x hx)
            exact ⟨.sh, by simp, by simp [c_need_rings_1, lenD]⟩)
          have e4 : L.map (fun x => D.int (lenD x)) = ((L.map lenD).map fun n : Nat => (n : Int)).map D.int := by simp
          rw [e4] at e3
          have e5 := sum_cast (L.map lenD)
          have e6 : ((L.map lenD).map fun n : Nat => (n : Int)).length ≤ lim := by simp; exact lim_le hll
          generalize ((L.map lenD).map fun n : Nat => (n : Int)) = S at e3 e5 e6
          have e7 : isRs (.lst L) = decide ((L.map lenD).sum ≤ 256) := by simp [isRs, h2, hL1]
          rw [e7]
          generalize (L.map lenD).sum = m at e5 e7 ⊢
          simp -implicitDefEqProofs only [F_need_rings, g_need_rings, fSeq, fDrop, fFn, fCons, fVar, gt, start0, bnd_ok, bndR_ok, bndO_nx, List.map_cons, List.map_nil]
          by_cases q : m ≤ 256
          · have q' : ¬ (256 : Int) < m := by omega
            simp -implicitDefEqProofs [e0, hok, hq, e1, ey, e3, e5, e6, q, q']
            rcases hy with rfl | ⟨d, rfl⟩ <;> rfl
          · have q' : (256 : Int) < m := by omega
            simp -implicitDefEqProofs [e0, hok, hq, e1, ey, e3, e5, e6, q, q']
            rcases hy with rfl | ⟨d, rfl⟩ <;> rfl
        · rw [if_neg h2] at e1
          have e7 : isRs (.lst L) = false := by simp [isRs, h2]
          rw [e7]
          simp -implicitDefEqProofs [F_need_rings, g_need_rings, e0, hok, hq, e1]
    | _ => first | (simp -implicitDefEqProofs [F_need_rings, g_need_rings, e0, isRs]; done) | cases hk
  · rw [if_neg h0] at e0 ⊢
    simp -implicitDefEqProofs [F_need_rings, g_need_rings, e0]

/-! first places, put in -/
abbrev frst (b : List Int) (m : Nat) (t : List Int) : Option Nat := (List.range b.length).find? fun q => decide (frm b q m = t)
theorem keyD_ti (w : List Int) : keyD (.tup (w.map .int)) = some (.t w) := by simp [keyD]
theorem valV_put {κ : Type} [DecidableEq κ] (kvs : List (κ × V)) (k k' : κ) (v : V) (h : valV kvs k = none) : valV (putK kvs k v) k' = if k = k' then some v else valV kvs k' := by
  have hn : (kvs.any fun kv => decide (kv.1 = k)) = false := by
    rw [Bool.eq_false_iff]
    intro z
    unfold valV at h
    cases e : kvs.find? fun kv => decide (kv.1 = k) with
    | none =>
      rw [List.find?_eq_none] at e
      obtain ⟨x, hx, hxk⟩ := List.any_eq_true.mp z
      exact e x hx hxk
    | some y => rw [e] at h; cases h
  unfold putK
  rw [if_neg (by rw [hn]; simp)]
  unfold valV
  rw [List.find?_append]
  by_cases q : k = k'
  · subst q
    rw [if_pos rfl]
    have : (kvs.find? fun kv => decide (kv.1 = k)) = none := by
      unfold valV at h
      cases e : kvs.find? fun kv => decide (kv.1 = k) with
      | none => rfl
      | some y => rw [e] at h; cases h
    rw [this]
    simp
  · rw [if_neg q]
    cases e : kvs.find? fun kv => decide (kv.1 = k') with
    | none => simp [q]
    | some y => simp
theorem find_snoc (b : List Int) (m : Nat) (t : List Int) (j : Nat) : ((List.range (j + 1)).find? fun q => decide (frm b q m = t)) = ((List.range j).find? fun q => decide (frm b q m = t)).or (if frm b j m = t then some j else none) := by
  rw [List.range_succ, List.find?_append]
  congr 1
  by_cases q : frm b j m = t <;> simp [q]
theorem F_first_places_eq (b : List Int) (m : Nat) (hb : 0 < b.length) (hl : b.length ≤ 1000) (hm : m ≤ 1000) : ∃ kvs, F_first_places [.int ((m : Int) + 1), li b] = .ok ⟨.fr, .dT kvs⟩ ∧ ∀ t, valV kvs t = (frst b m t).map fun q : Nat => V.int (q : Int) := by
  obtain ⟨e, h3, h4⟩ := loop_do (g := b_first_places_1) (i := 3) (fun j e => ∃ x kvs, e = [.sh (.int ((m : Int) + 1)), .sh (li b), .ow (.dT kvs), x] ∧ kvs.length ≤ j ∧ ∀ t, valV kvs t = ((List.range j).find? fun q => decide (frm b q m = t)).map fun q : Nat => V.int (q : Int)) (rngD 0 b.length) [.sh (.int ((m : Int) + 1)), .sh (li b), .ow (.dT []), .un] ⟨.un, [], rfl, by simp, by simp [valV]⟩ (by
    rintro j d e hd ⟨x, kvs, rfl, hk, hv⟩
    obtain ⟨hj, rfl⟩ := rngD_get hd
    rw [Int.zero_add]
    have e1 := F_signs_from_eq b j m hb (by omega) (by omega) (by omega)
    have hv1 := hv (frm b j m)
    have sn := fun t => find_snoc b m t j
    have hkl : kvs.length < lim := lim_lt (by omega)
    cases hf : (List.range j).find? fun q => decide (frm b q m = frm b j m) with
    | none =>
      rw [hf, Option.map_none] at hv1
      have hvn := valV_put kvs (frm b j m) (v := V.int j)
      generalize frm b j m = w at e1 hv1 hvn sn hf
      refine ⟨[.sh (.int ((m : Int) + 1)), .sh (li b), .ow (.dT (putK kvs w (.int j))), .sh (.int j)], .inl (by simp -implicitDefEqProofs [b_first_places_1, e1, keyD, putDct, hasDct, lookD, hkl, hv1, toV]), _, _, rfl, ?_, fun t => ?_⟩
      · unfold putK
        split
        · simpa using by omega
        · simp; omega
      · rw [hvn t hv1, hv t, sn t]
        by_cases q : w = t
        · subst q
          rw [hf]
          simp
        · simp [q]
    | some q =>
      rw [hf, Option.map_some] at hv1
      generalize frm b j m = w at e1 hv1 sn hf
      refine ⟨[.sh (.int ((m : Int) + 1)), .sh (li b), .ow (.dT kvs), .sh (.int j)], .inl (by simp -implicitDefEqProofs [b_first_places_1, e1, keyD, putDct, hasDct, lookD, hkl, hv1, toV]), _, _, rfl, by omega, fun t => ?_⟩
      rw [hv t, sn t]
      by_cases q : w = t
      · subst q
        rw [hf]
        simp
      · simp [q])
  obtain ⟨x, kvs, rfl, hk, hv⟩ := h4
  rw [rngD_length] at hv
  have hn : b.length ≤ 1000000000 := by omega
  exact ⟨kvs, by simp -implicitDefEqProofs [F_first_places, g_first_places, -rng1, rng1_nat hn, h3], hv⟩

/-- b put into a, m: a word's joint -/
def twoL (m : Nat) (a b : List Int) : Option (List Int) := (List.range a.length).findSome? fun p => (frst b m (frm a p m)).map fun q => a.take p ++ (b.drop q ++ b.take q) ++ a.drop p
def optR : Option (List Int) → Rv
  | some r => ⟨.fr, li r⟩
  | none => ⟨.sh, .non⟩
theorem F_put_in_eq (a b : List Int) (m : Nat) (ha : 0 < a.length) (hb : 0 < b.length) (hla : a.length ≤ 1000) (hlb : b.length ≤ 1000) (hm : m ≤ 1000) : F_put_in [.int ((m : Int) + 1), li a, li b] = .ok (optR (twoL m a b)) := by
  obtain ⟨kvs, e0, hv⟩ := F_first_places_eq b m hb hlb hm
  have key := loop_rng (g := b_put_in_1) (i := 4) (fun p => (frst b m (frm a p m)).map fun q => (⟨.fr, li (a.take p ++ (b.drop q ++ b.take q) ++ a.drop p)⟩ : Rv)) (fun s => ∃ x y, s = [.sh (.int ((m : Int) + 1)), .sh (li a), .sh (li b), .ow (.dT kvs), x, y, .un]) (List.range a.length) [.sh (.int ((m : Int) + 1)), .sh (li a), .sh (li b), .ow (.dT kvs), .un, .un, .un] (by
    rintro k hk s ⟨x, y, rfl⟩
    have hk := List.mem_range.mp hk
    have e1 := F_signs_from_eq a k m ha (by omega) (by omega) (by omega)
    have hv1 := hv (frm a k m)
    generalize frm a k m = w at e1 hv1 ⊢
    cases hq : frst b m w with
    | none =>
      rw [hq, Option.map_none] at hv1
      simp only [Option.map_none]
      exact ⟨[.sh (.int ((m : Int) + 1)), .sh (li a), .sh (li b), .ow (.dT kvs), .sh (.int k), .sh (.tup (w.map .int)), .un], by simp -implicitDefEqProofs [b_put_in_1, e1, inDO, lookD, keyD, hv1], _, _, rfl⟩
    | some q =>
      rw [hq, Option.map_some] at hv1
      simp only [Option.map_some]
      have hql : q < b.length := by
        have := List.mem_of_find?_eq_some hq
        exact List.mem_range.mp this
      have c1 : DL.cut (a.map D.int) none (some (k : Int)) = (a.take k).map .int := by rw [cut_to _ k (by simp; omega), List.map_take]
      have c2 : DL.cut (a.map D.int) (some (k : Int)) none = (a.drop k).map .int := by rw [cut_from _ k (by simp; omega), List.map_drop]
      have c3 : DL.cut (b.map D.int) none (some (q : Int)) = (b.take q).map .int := by rw [cut_to _ q (by simp; omega), List.map_take]
      have c4 : DL.cut (b.map D.int) (some (q : Int)) none = (b.drop q).map .int := by rw [cut_from _ q (by simp; omega), List.map_drop]
      have l1 : (a.take k).length ≤ 1000 := by simp; omega
      have l2 : (a.drop k).length ≤ 1000 := by simp; omega
      have l3 : (b.take q).length ≤ 1000 := by simp; omega
      have l4 : (b.drop q).length ≤ 1000 := by simp; omega
      generalize a.take k = t1 at *
      generalize a.drop k = t2 at *
      generalize b.take q = t3 at *
      generalize b.drop q = t4 at *
      have g1 : t1.length + t4.length ≤ lim := lim_le (by omega)
      have g2 : t1.length + t4.length + t3.length ≤ lim := lim_le (by omega)
      have g3 : t1.length + (t4.length + t3.length) + t2.length ≤ lim := lim_le (by omega)
      simp -implicitDefEqProofs [b_put_in_1, e1, inDO, dgetO, ofV, lookD, keyD, hv1, c1, c2, c3, c4, g1, g2, g3]) ⟨.un, .un, rfl⟩
  have hn : a.length ≤ 1000000000 := by omega
  have e5 : (List.range a.length).findSome? (fun p => (frst b m (frm a p m)).map fun q => (⟨.fr, li (a.take p ++ (b.drop q ++ b.take q) ++ a.drop p)⟩ : Rv)) = (twoL m a b).map fun r => ⟨.fr, li r⟩ := by
    unfold twoL
    rw [List.map_findSome?]
    refine congrArg (fun f => List.findSome? f (List.range a.length)) (funext fun p => ?_)
    simp only [Function.comp, Option.map_map]
    rfl
  rw [e5] at key
  rw [← rngD_eq] at key
  cases et : twoL m a b with
  | none =>
    rw [et] at key
    obtain ⟨s', e6, x, y, rfl⟩ := key
    simp -implicitDefEqProofs [F_put_in, g_put_in, e0, -rng1, rng1_nat hn]
    rw [e6]; rfl
  | some r =>
    rw [et] at key
    have e6 : loopF b_put_in_1 4 (rngD 0 a.length) [.sh (.int ((m : Int) + 1)), .sh (li a), .sh (li b), .ow (.dT kvs), .un, .un, .un] = .rt ⟨.fr, li r⟩ := key
    simp -implicitDefEqProofs [F_put_in, g_put_in, e0, -rng1, rng1_nat hn]
    rw [e6]; rfl

theorem twoL_some {m : Nat} {a b r : List Int} (h : twoL m a b = some r) : ∃ p q, p < a.length ∧ q < b.length ∧ frm b q m = frm a p m ∧ r = a.take p ++ (b.drop q ++ b.take q) ++ a.drop p := by
  unfold twoL at h
  obtain ⟨p, hp, h⟩ := List.exists_of_findSome?_eq_some h
  rw [Option.map_eq_some_iff] at h
  obtain ⟨q, h1, rfl⟩ := h
  have h2 := List.find?_some h1
  exact ⟨p, q, List.mem_range.mp hp, List.mem_range.mp (List.mem_of_find?_eq_some h1), by simpa using h2, rfl⟩
theorem twoL_len {m : Nat} {a b r : List Int} (h : twoL m a b = some r) : r.length = a.length + b.length := by
  obtain ⟨p, q, hp, hq, _, rfl⟩ := twoL_some h
  simp; omega
theorem F_joined_good (a b : List Int) (s : D) (m : Nat) (hs : s = .int ((m : Int) + 1)) (hn : F_need_rings [s, .lst [li a, li b]] = .ok ⟨.sh, .non⟩) (ha : 0 < a.length) (hb : 0 < b.length) (hla : a.length ≤ 1000) (hlb : b.length ≤ 1000) (hm : m ≤ 1000) : F_joined [s, li a, li b] = match twoL m a b with | some r => .ok ⟨.fr, li r⟩ | none => .exc 6 := by
  subst hs
  have e1 := F_put_in_eq a b m ha hb hla hlb hm
  have l2 : 2 ≤ lim := by decide
  cases et : twoL m a b with
  | none =>
    rw [et, optR] at e1
    simp -implicitDefEqProofs [F_joined, g_joined, hn, l2, e1]
  | some r =>
    rw [et, optR] at e1
    simp -implicitDefEqProofs [F_joined, g_joined, hn, l2, e1]
/-- the first of those left that can be joined -/
def nxt (m : Nat) (f : List Int) (left : List (List Int)) : Option (List Int × List (List Int)) := (List.range left.length).findSome? fun k => (twoL m f (left.getD k [])).map fun r => (r, left.take k ++ left.drop (k + 1))
def pairO : Option (List Int × List (List Int)) → Rv
  | some (r, l) => ⟨.ow, .tup [li r, .lst (l.map li)]⟩
  | none => ⟨.sh, .non⟩
theorem scal_ints (w : List Int) : (w.map D.int).all scalar = true := by simp [List.all_map, Function.comp_def]
theorem F_next_join_eq (f : List Int) (left : List (List Int)) (m : Nat) (hf : 0 < f.length) (hlf : f.length ≤ 1000) (hl : ∀ b ∈ left, 0 < b.length ∧ b.length ≤ 1000) (hll : left.length ≤ 1000) (hm : m ≤ 1000) : F_next_join [.int ((m : Int) + 1), li f, .lst (left.map li)] = .ok (pairO (nxt m f left)) := by
  have key := loop_rng (g := b_next_join_1) (i := 3) (fun k => (twoL m f (left.getD k [])).map fun r => (⟨.ow, .tup [li r, .lst ((left.take k ++ left.drop (k + 1)).map li)]⟩ : Rv)) (fun s => ∃ x y, s = [.sh (.int ((m : Int) + 1)), .sh (li f), .sh (.lst (left.map li)), x, y]) (List.range left.length) [.sh (.int ((m : Int) + 1)), .sh (li f), .sh (.lst (left.map li)), .un, .un] (by
    rintro k hk s ⟨x, y, rfl⟩
    have hk := List.mem_range.mp hk
    have hg : left.getD k [] = left[k] := by simp [List.getD, hk]
    obtain ⟨h1, h2⟩ := hl left[k] (List.getElem_mem hk)
    have e1 := F_put_in_eq f left[k] m hf h1 hlf h2 hm
    have a1 : atI (left.map li) (k : Int) = some (li left[k]) := atI_nat (by simp [hk])
    rw [hg]
    have c1 : DL.cut (left.map li) none (some (k : Int)) = (left.take k).map li := by rw [cut_to _ k (by simp; omega), List.map_take]
    have c2 : DL.cut (left.map li) (some ((k : Int) + 1)) none = (left.drop (k + 1)).map li := by
      have : ((k : Int) + 1) = ((k + 1 : Nat) : Int) := by omega
      rw [this, cut_from _ (k + 1) (by simp; omega), List.map_drop]
    have l1 : (left.take k).length + (left.drop (k + 1)).length ≤ lim := lim_le (by simp; omega)
    generalize left[k] = b at e1 a1
    generalize left.take k = t1 at *
    generalize left.drop (k + 1) = t2 at *
    cases et : twoL m f b with
    | none =>
      rw [et, optR] at e1
      simp only [Option.map_none]
      exact ⟨[.sh (.int ((m : Int) + 1)), .sh (li f), .sh (.lst (left.map li)), .sh (.int k), .sh .non], by simp -implicitDefEqProofs [b_next_join_1, e1, a1], _, _, rfl⟩
    | some r =>
      rw [et, optR] at e1
      simp only [Option.map_some]
      simp -implicitDefEqProofs [b_next_join_1, e1, a1, c1, c2, l1]) ⟨.un, .un, rfl⟩
  have hn : left.length ≤ 1000000000 := by omega
  have e5 : (List.range left.length).findSome? (fun k => (twoL m f (left.getD k [])).map fun r => (⟨.ow, .tup [li r, .lst ((left.take k ++ left.drop (k + 1)).map li)]⟩ : Rv)) = (nxt m f left).map fun p => pairO (some p) := by
    unfold nxt
    rw [List.map_findSome?]
    refine congrArg (fun f => List.findSome? f (List.range left.length)) (funext fun p => ?_)
    simp only [Function.comp, Option.map_map, pairO]
    rfl
  rw [e5, ← rngD_eq] at key
  cases et : nxt m f left with
  | none =>
    rw [et] at key
    obtain ⟨s', e6, x, y, rfl⟩ := key
    simp -implicitDefEqProofs [F_next_join, g_next_join, -rng1, rng1_nat hn]
    rw [e6]; rfl
  | some r =>
    rw [et] at key
    have e6 : loopF b_next_join_1 3 (rngD 0 left.length) [.sh (.int ((m : Int) + 1)), .sh (li f), .sh (.lst (left.map li)), .un, .un] = .rt (pairO (some r)) := key
    simp -implicitDefEqProofs [F_next_join, g_next_join, -rng1, rng1_nat hn]
    rw [e6]; rfl
/-- joined one by one -/
def jall (m : Nat) : Nat → List Int → List (List Int) → Option (List Int)
  | 0, f, _ => some f
  | n + 1, f, left => match nxt m f left with
    | none => none
    | some (r, l) => jall m n r l
theorem nxt_some {m : Nat} {f r : List Int} {left l : List (List Int)} (h : nxt m f left = some (r, l)) : ∃ b, twoL m f b = some r ∧ (b :: l).Perm left := by
  unfold nxt at h
  obtain ⟨k, hk, h⟩ := List.exists_of_findSome?_eq_some h
  rw [Option.map_eq_some_iff] at h
  obtain ⟨q, h1, h2⟩ := h
  cases h2
  have hk := List.mem_range.mp hk
  have hg : left.getD k [] = left[k] := by simp [List.getD, hk]
  rw [hg] at h1
  refine ⟨left[k], h1, ?_⟩
  have : left = left.take k ++ left[k] :: left.drop (k + 1) := by rw [← List.drop_eq_getElem_cons hk, List.take_append_drop]
  conv => rhs; rw [this]
  exact List.perm_middle.symm

theorem nxt_len {m : Nat} {f r : List Int} {left l : List (List Int)} (h : nxt m f left = some (r, l)) : l.length + 1 = left.length := by
  obtain ⟨b, _, hp⟩ := nxt_some h
  simpa using hp.length_eq
abbrev tot (l : List (List Int)) : Nat := (l.map List.length).sum
theorem nxt_tot {m : Nat} {f r : List Int} {left l : List (List Int)} (h : nxt m f left = some (r, l)) : r.length + tot l = f.length + tot left := by
  obtain ⟨b, h1, hp⟩ := nxt_some h
  have h2 := twoL_len h1
  have h3 : tot (b :: l) = tot left := (hp.map List.length).sum_nat
  simp [tot] at h3
  simp [tot]
  omega
theorem tot_mem : ∀ {l : List (List Int)} {b : List Int}, b ∈ l → b.length ≤ tot l
  | c :: l, b, h => by
    rcases List.mem_cons.mp h with rfl | h
    · simp [tot]
    · have := tot_mem h
      simp [tot] at this ⊢
      omega
def isLL (x : Sl) (f : List (List Int)) : Prop := x = .sh (.lst (f.map li)) ∨ x = .ow (.lst (f.map li))
theorem okEq_ll {ws : List (List Int)} : okEq (.lst (ws.map li)) = true := okEq_ints2
theorem w_joined_all_eq (m : Nat) (rs : D) (left : List (List Int)) (x2 x3 x4 : Sl) (h3 : isLL x3 left) : w_joined_all_1 [.sh (.int ((m : Int) + 1)), .sh rs, x2, x3, x4] = .ok (!left.isEmpty) := by
  have e : eqL (left.map li) [] = left.isEmpty := by cases left <;> rfl
  have e2 := okEq_ll (ws := left)
  unfold isLL at h3
  generalize left.map li = L at *
  rcases h3 with rfl | rfl <;> simp -implicitDefEqProofs [w_joined_all_1, e, e2]
theorem b_joined_all_eq (m : Nat) (rs : D) (f : List Int) (left : List (List Int)) (x3 x4 : Sl) (h4 : x4 = .un ∨ x4 = .sh .any) (h3 : isLL x3 left) (hF : F_next_join [.int ((m : Int) + 1), li f, .lst (left.map li)] = .ok (pairO (nxt m f left))) : b_joined_all_1 [.sh (.int ((m : Int) + 1)), .sh rs, .ow (li f), x3, x4] = match nxt m f left with
    | none => .exc 6
    | some (r, l) => .nx [.sh (.int ((m : Int) + 1)), .sh rs, .ow (li r), .sh (.lst (l.map li)), .sh .any] := by
  cases e : nxt m f left with
  | none =>
    rw [e, pairO] at hF
    rcases h3 with rfl | rfl <;> rcases h4 with rfl | rfl <;> simp -implicitDefEqProofs [b_joined_all_1, hF]
  | some p =>
    obtain ⟨r, l⟩ := p
    rw [e, pairO] at hF
    rcases h3 with rfl | rfl <;> rcases h4 with rfl | rfl <;> simp -implicitDefEqProofs [b_joined_all_1, hF]
theorem wh_joined (m : Nat) (hm : m ≤ 1000) (rs : D) : ∀ (n fuel : Nat) (f : List Int) (left : List (List Int)) (x3 x4 : Sl), left.length = n → n < fuel → 0 < f.length → (∀ b ∈ left, 0 < b.length) → f.length + tot left ≤ 1000 → left.length ≤ 1000 → (x4 = .un ∨ x4 = .sh .any) → isLL x3 left →
    match jall m n f left with
    | some r => ∃ y3 y4, whF w_joined_all_1 b_joined_all_1 fuel [.sh (.int ((m : Int) + 1)), .sh rs, .ow (li f), x3, x4] = .nx [.sh (.int ((m : Int) + 1)), .sh rs, .ow (li r), y3, y4]
    | none => whF w_joined_all_1 b_joined_all_1 fuel [.sh (.int ((m : Int) + 1)), .sh rs, .ow (li f), x3, x4] = .exc 6
  | _, 0, _, _, _, _, _, h, _, _, _, _, _, _ => by omega
  | 0, fuel + 1, f, left, x3, x4, hn, hfu, hf, hl, ht, hll, h4, h3 => by
    have e := w_joined_all_eq m rs left (.ow (li f)) x3 x4 h3
    have : left = [] := List.length_eq_zero_iff.mp hn
    subst this
    refine ⟨x3, x4, ?_⟩
    simp only [whF, e, bndR_ok]
    rfl
  | n + 1, fuel + 1, f, left, x3, x4, hn, hfu, hf, hl, ht, hll, h4, h3 => by
    have e := w_joined_all_eq m rs left (.ow (li f)) x3 x4 h3
    have hne : left.isEmpty = false := by cases left <;> simp at hn ⊢
    rw [hne] at e
    have hF := F_next_join_eq f left m hf (by omega) (fun b hb => ⟨hl b hb, by have := tot_mem hb; omega⟩) hll hm
    have eb := b_joined_all_eq m rs f left x3 x4 h4 h3 hF
    simp only [whF, e, bndR_ok, Bool.not_false, if_true, eb, jall]
    cases en : nxt m f left with
    | none => rfl
    | some p =>
      obtain ⟨r, l⟩ := p
      obtain ⟨b, h1, hp⟩ := nxt_some en
      have g1 := nxt_len en
      have g2 := nxt_tot en
      have g3 := twoL_len h1
      exact wh_joined m hm rs n fuel r l _ _ (by omega) (by omega) (by omega) (fun c hc => hl c (hp.mem_iff.mp (List.mem_cons_of_mem _ hc))) (by omega) (by omega) (.inr rfl) (.inl rfl)
theorem F_joined_all_good (r : List Int) (rs : List (List Int)) (s : D) (m : Nat) (hs : s = .int ((m : Int) + 1)) (hn : F_need_rings [s, .lst ((r :: rs).map li)] = .ok ⟨.sh, .non⟩) (hr : ∀ b ∈ r :: rs, 0 < b.length) (ht : tot (r :: rs) ≤ 1000) (hll : rs.length ≤ 1000) (hm : m ≤ 1000) : F_joined_all [s, .lst ((r :: rs).map li)] = match jall m rs.length r rs with | some r => .ok ⟨.fr, li r⟩ | none => .exc 6 := by
  subst hs
  have a1 : atI ((r :: rs).map li) 0 = some (li r) := atI_nat (j := 0) rfl
  have c1 : DL.cut ((r :: rs).map li) (some 1) none = rs.map li := by
    have := cut_from ((r :: rs).map li) 1 (by simp)
    simpa using this
  have key := wh_joined m hm (.lst ((r :: rs).map li)) rs.length many r rs (.ow (.lst (rs.map li))) .un rfl (by unfold many; omega) (hr r List.mem_cons_self) (fun b hb => hr b (List.mem_cons_of_mem _ hb)) (by simpa [tot] using ht) hll (.inl rfl) (.inr rfl)
  generalize (r :: rs).map li = L at *
  cases ej : jall m rs.length r rs with
  | none =>
    rw [ej] at key
    simp -implicitDefEqProofs [F_joined_all, g_joined_all, hn, a1, c1, fWhile]
    rw [key]; rfl
  | some q =>
    rw [ej] at key
    obtain ⟨y3, y4, key⟩ := key
    simp -implicitDefEqProofs [F_joined_all, g_joined_all, hn, a1, c1, fWhile]
    rw [key]; rfl
theorem jall_perm (m : Nat) : ∀ (n : Nat) (f : List Int) (left : List (List Int)) (r : List Int), 0 < f.length → (∀ b ∈ left, 0 < b.length) → left.length = n → jall m n f left = some r → (wrd r (m + 1)).Perm (wrd f (m + 1) ++ left.flatMap fun b => wrd b (m + 1)) := by
  intro n
  induction n with
  | zero =>
    intro f left r _ _ hn h
    have : left = [] := List.length_eq_zero_iff.mp hn
    subst this
    simp [jall] at h
    subst h
    simp
  | succ n ih =>
    intro f left r hf hl hn h
    simp only [jall] at h
    cases en : nxt m f left with
    | none => rw [en] at h; cases h
    | some p =>
      obtain ⟨q, l⟩ := p
      rw [en] at h
      obtain ⟨b, h1, hp⟩ := nxt_some en
      have g1 := nxt_len en
      have g3 := twoL_len h1
      have k := ih q l r (by omega) (fun c hc => hl c (hp.mem_iff.mp (List.mem_cons_of_mem _ hc))) (by omega) h
      obtain ⟨x, y, hx, hy, hxy, rfl⟩ := twoL_some h1
      have k2 := wrd_put (a := f) (b := b) (p := x) (q := y) (m := m + 1) hx hy (by simpa using hxy.symm)
      refine k.trans ((k2.append_right _).trans ?_)
      rw [List.append_assoc]
      refine List.Perm.append_left _ ?_
      have := hp.flatMap_right (fun b => wrd b (m + 1))
      simpa using this
end My
namespace My
open PySem PySem.Spec L2 DL
/-! helps for the laws over rings -/
@[simp] theorem dull_ints (w : List Int) : (w.map D.int).map dull = w.map D.int := by simp [Function.comp_def]
theorem frm_self (r : List Int) : frm r 0 r.length = r := by
  refine List.ext_getElem (by simp [frm]) fun i h1 h2 => ?_
  simp [frm, cyc, Nat.mod_eq_of_lt h2, h2]
theorem frm_full {b : List Int} {q : Nat} (hq : q < b.length) : frm b q b.length = b.drop q ++ b.take q := by
  have h := frm_turn (r := b) (p := q) (by omega) (by omega) 0 b.length
  have h2 := frm_self (b.drop q ++ b.take q)
  have h3 : (b.drop q ++ b.take q).length = b.length := by simp; omega
  rw [h3] at h2
  rw [h2] at h
  exact h.symm
theorem fs_filter {β : Type} (f : Nat → Option β) : ∀ l : List Nat, l.findSome? f = match l.filter fun k => (f k).isSome with | [] => none | k :: _ => f k
  | [] => rfl
  | k :: l => by
    simp only [List.findSome?_cons, List.filter_cons]
    cases h : f k with
    | some r => simp [h]
    | none => simp [fs_filter f l]
def isLi (x : Sl) (f : List Int) : Prop := x = .sh (li f) ∨ x = .ow (li f)
theorem isR_li {s : Int} {b : List Int} (h1 : 0 < b.length) (h2 : b.length ≤ 256) (h : ∀ x ∈ b, 0 ≤ x ∧ x ≤ s - 1) : isR s (li b) = true := by
  simp only [isR, List.length_map, Bool.and_eq_true, decide_eq_true_eq, List.all_eq_true]
  refine ⟨by omega, h2, fun d hd => ?_⟩
  obtain ⟨x, hx, rfl⟩ := List.mem_map.mp hd
  simpa using h x hx
theorem kn1_li {b : List Int} : kn1 (li b) = true := by simp [kn1, List.all_map, Function.comp_def]
theorem isR_bad {ds : List D} {x : D} (hx : x ∈ ds) (h : amg x 0 8 = false) : isR 9 (.lst ds) = false := by
  rw [Bool.eq_false_iff]
  intro z
  simp only [isR, Bool.and_eq_true, List.all_eq_true] at z
  have := z.2.2 x hx
  rw [show (9 : Int) - 1 = 8 from rfl, h] at this
  cases this
theorem eqL_ll (rs : List (List Int)) : eqL (rs.map li) (rs.map li) = true := by
  have := eqL_ints2 (v := rs) (w := rs)
  simpa using this
theorem words_eq1 (b : List Int) (m : Nat) (hb : b.length ≤ 1000000) (hm : m ≤ 1000) : F__law_words [li b, .int ((m : Int) + 1)] = .ok ⟨.fr, .lst ((wrd b (m + 1)).map li)⟩ := by
  have e := F_words_eq b (m + 1) hb (by omega)
  have q : ((m : Int) + 1) = ((m + 1 : Nat) : Int) := by omega
  rw [q]
  exact e
theorem size_odd (o : Int) : ∃ a : D, atI [D.int 0, .int 9, .bl true, .str "1", .non, .int (-1)] (o % 6) = some a ∧ known a = true ∧ amg a 1 8 = false := by
  have : o % 6 = 0 ∨ o % 6 = 1 ∨ o % 6 = 2 ∨ o % 6 = 3 ∨ o % 6 = 4 ∨ o % 6 = 5 := by omega
  rcases this with h | h | h | h | h | h <;> rw [h] <;> exact ⟨_, rfl, rfl, rfl⟩
theorem need_bad0 (a d : D) (ha : known a = true) (h : amg a 1 8 = false) : F_need_rings [a, d] = .exc 0 := by
  have e0 := F_need_length_eq a ha
  rw [if_neg (by rw [h]; simp)] at e0
  simp -implicitDefEqProofs [F_need_rings, g_need_rings, e0]
theorem copies (fe : Ev → Res Rv) (i : Nat) (s : Ev) (rs : List (List Int)) (h : ∀ b : List Int, fe (st s i (.sh (li b))) = .ok ⟨.fr, li b⟩) : lcF (fun _ => .ok true) fe i s (rs.map li) = .ok (rs.map li) := by
  rw [lc_map (f := id) (rs.map li) (fun d hd => by
    obtain ⟨b, _, rfl⟩ := List.mem_map.mp hd
    exact ⟨.fr, by simp, h b⟩), List.map_id]
theorem no_bools (ft : Ev → Res Bool) (fe : Ev → Res Rv) (i : Nat) (s : Ev) (w : List Int) (h : ∀ x : Int, ft (st s i (.sh (.int x))) = .ok false) : lcF ft fe i s (w.map .int) = .ok [] := by
  rw [lc_filter (p := fun _ => false) (f := id) (w.map .int) (fun d hd => by
    obtain ⟨x, _, rfl⟩ := List.mem_map.mp hd
    exact ⟨h x, fun z => by cases z⟩)]
  simp
end My
namespace My
open PySem PySem.Spec L2 DL
/-! growth.py: lifted rings -/
def prs (r : List Int) : Nat → Int
  | 0 => 0
  | i + 1 => prs r i + cyc r i
theorem prs_turn (r : List Int) : ∀ i, prs r (r.length + i) = prs r r.length + prs r i
  | 0 => by simp [prs]
  | i + 1 => by
    rw [← Nat.add_assoc, prs, prs, prs_turn r i, cyc_add]
    omega
theorem prs_mul (r : List Int) (i : Nat) : ∀ k : Nat, prs r (r.length * k + i) = (k : Int) * prs r r.length + prs r i
  | 0 => by simp
  | k + 1 => by
    have : r.length * (k + 1) + i = r.length + (r.length * k + i) := by rw [Nat.mul_succ]; omega
    rw [this, prs_turn, prs_mul r i k, Int.natCast_succ, Int.add_mul]
    omega
def lf (s : Int) (r : List Int) (a : Int) (i : Nat) : Int := (a + prs r i) % s
theorem lf_succ (s : Int) (r : List Int) (a : Int) (i : Nat) : lf s r a (i + 1) = (lf s r a i + cyc r i) % s := by
  unfold lf
  rw [prs, ← Int.add_assoc, Int.emod_add_emod]
theorem lf_zero {s : Int} {r : List Int} {a : Int} (h : 0 ≤ a ∧ a < s) : lf s r a 0 = a := by
  unfold lf
  rw [prs, Int.add_zero, Int.emod_eq_of_lt h.1 h.2]
theorem add_emod_iff {a x s : Int} (h : 0 ≤ a ∧ a < s) : (a + x) % s = a ↔ x % s = 0 := by
  have hs : 0 < s := by omega
  have h1 := Int.emod_nonneg x (show s ≠ 0 by omega)
  have h2 := Int.emod_lt_of_pos x hs
  rw [← Int.add_emod_emod]
  generalize x % s = y at h1 h2
  by_cases q : a + y < s
  · rw [Int.emod_eq_of_lt (by omega) q]; omega
  · rw [← Int.sub_emod_right, Int.emod_eq_of_lt (by omega) (by omega)]; omega
/-- after how many rounds the beginning comes again -/
def ordT (s T : Int) : Nat := ((List.range s.toNat).find? fun k => decide (((k + 1 : Nat) : Int) * T % s = 0)).getD 0 + 1
theorem ordT_ok {s T : Int} (hs : 0 < s) : ordT s T ≤ s.toNat ∧ ((ordT s T : Nat) : Int) * T % s = 0 ∧ ∀ j : Nat, 0 < j → j < ordT s T → (j : Int) * T % s ≠ 0 := by
  unfold ordT
  cases h : (List.range s.toNat).find? fun k => decide (((k + 1 : Nat) : Int) * T % s = 0) with
  | none =>
    exfalso
    have := List.find?_eq_none.mp h (s.toNat - 1) (List.mem_range.mpr (by omega))
    apply this
    have e : ((s.toNat - 1 + 1 : Nat) : Int) = s := by omega
    rw [e]
    simp
  | some k =>
    have h1 := List.find?_some h
    have h2 := List.mem_range.mp (List.mem_of_find?_eq_some h)
    simp only [Option.getD_some]
    refine ⟨by omega, by simpa using h1, fun j h3 h4 => ?_⟩
    obtain ⟨_, as, bs, e1, e2⟩ := List.find?_eq_some_iff_append.mp h
    have hlen : as.length = k := by
      have hk : (List.range s.toNat)[as.length]? = some k := by rw [e1]; simp
      rw [List.getElem?_eq_some_iff] at hk
      obtain ⟨q, hk⟩ := hk
      simpa using hk
    have hm : j - 1 ∈ as := by
      have : (List.range s.toNat)[j - 1]? = as[j - 1]? := by rw [e1, List.getElem?_append_left (by omega)]
      rw [List.getElem?_eq_getElem (by simp; omega), List.getElem?_eq_getElem (show j - 1 < as.length by omega)] at this
      simp at this
      rw [this]
      exact List.getElem_mem _
    have := e2 (j - 1) hm
    have e3 : j - 1 + 1 = j := by omega
    simpa [e3] using this
abbrev sumR (r : List Int) : Int := prs r r.length
def lifl (s : Int) (r : List Int) (a : Int) : List Int := (List.range (r.length * ordT s (sumR r))).map (lf s r a)
theorem lf_round (s : Int) (r : List Int) (a : Int) (k : Nat) : lf s r a (r.length * k) = (a + (k : Int) * sumR r) % s := by
  unfold lf
  have := prs_mul r 0 k
  rw [Nat.add_zero] at this
  rw [this, prs, Int.add_zero]
theorem lift_round (s : Int) (r : List Int) (a : Int) (k : Nat) (hs : 0 < s) (hr : 0 < r.length) (hl : r.length * k + r.length ≤ 100000) (x5 : Sl) : ∃ y, b_lift_2 [.sh (.int s), .sh (li r), .sh (.int a), .ow (li ((List.range (r.length * k)).map (lf s r a))), .sh (.int (lf s r a (r.length * k))), x5] = .nx [.sh (.int s), .sh (li r), .sh (.int a), .ow (li ((List.range (r.length * (k + 1))).map (lf s r a))), .sh (.int (lf s r a (r.length * (k + 1)))), y] := by
  obtain ⟨e, h3, h4⟩ := loop_do (g := b_lift_1) (i := 5) (fun j e => ∃ y, e = [.sh (.int s), .sh (li r), .sh (.int a), .ow (li ((List.range (r.length * k + j)).map (lf s r a))), .sh (.int (lf s r a (r.length * k + j))), y]) (r.map D.int) [.sh (.int s), .sh (li r), .sh (.int a), .ow (li ((List.range (r.length * k)).map (lf s r a))), .sh (.int (lf s r a (r.length * k))), x5] ⟨_, rfl⟩ (by
    rintro j d e hd ⟨y, rfl⟩
    rw [List.getElem?_map, Option.map_eq_some_iff] at hd
    obtain ⟨z, hz, rfl⟩ := hd
    have hj : j < r.length := (List.getElem?_eq_some_iff.mp hz).1
    have hc : cyc r (r.length * k + j) = z := by
      simp only [cyc, Nat.mul_add_mod, Nat.mod_eq_of_lt hj, List.getD, hz, Option.getD_some]
    have hsu := lf_succ s r a (r.length * k + j)
    rw [hc] at hsu
    have hll : ((List.range (r.length * k + j)).map (lf s r a)).length < lim := lim_lt (by simp; omega)
    rw [← Nat.add_assoc, List.range_succ, List.map_append, hsu]
    simp only [List.map_cons, List.map_nil]
    generalize (List.range (r.length * k + j)).map (lf s r a) = w at hll ⊢
    generalize lf s r a (r.length * k + j) = v
    refine ⟨[.sh (.int s), .sh (li r), .sh (.int a), .ow (li (w ++ [v])), .sh (.int ((v + z) % s)), .sh (.int z)], .inl ?_, _, rfl⟩
    simp -implicitDefEqProofs [b_lift_1, hll, hs])
  rw [List.length_map] at h4
  obtain ⟨y, rfl⟩ := h4
  refine ⟨y, ?_⟩
  have e1 : r.length * (k + 1) = r.length * k + r.length := Nat.mul_succ _ _
  rw [e1]
  generalize (List.range (r.length * k)).map (lf s r a) = w at h3 ⊢
  generalize (List.range (r.length * k + r.length)).map (lf s r a) = w2 at h3 ⊢
  simp -implicitDefEqProofs [b_lift_2, h3]
theorem F_lift_eq (s a : Int) (r : List Int) (hs : s ≤ 1000) (ha : 0 ≤ a ∧ a < s) (hr : 0 < r.length) (hl : r.length * s.toNat ≤ 10000) : F_lift [.int s, li r, .int a] = .ok ⟨.fr, li (lifl s r a)⟩ := by
  have hs0 : 0 < s := by omega
  obtain ⟨o1, o2, o3⟩ := ordT_ok (T := sumR r) hs0
  have hoM : r.length * ordT s (sumR r) ≤ 10000 := Nat.le_trans (Nat.mul_le_mul_left _ o1) hl
  have key := wh_do (t := w_lift_1) (g := b_lift_2) (fun k e => ∃ y, e = [.sh (.int s), .sh (li r), .sh (.int a), .ow (li ((List.range (r.length * k)).map (lf s r a))), .sh (.int (lf s r a (r.length * k))), y]) (ordT s (sumR r)) (by
    rintro j e hj ⟨y, rfl⟩
    have hjM : r.length * j + r.length ≤ 10000 := by
      have : r.length * (j + 1) ≤ r.length * ordT s (sumR r) := Nat.mul_le_mul_left _ hj
      rw [Nat.mul_succ] at this
      omega
    obtain ⟨y2, h2⟩ := lift_round s r a j hs0 hr (by omega) y
    refine ⟨?_, _, h2, _, rfl⟩
    have hlr := lf_round s r a j
    by_cases q : j = 0
    · subst q
      simp -implicitDefEqProofs [w_lift_1]
    · have hne : lf s r a (r.length * j) ≠ a := by
        rw [hlr]
        exact fun z => o3 j (by omega) hj ((add_emod_iff ha).mp z)
      generalize (List.range (r.length * j)).map (lf s r a) = w
      generalize lf s r a (r.length * j) = v at hne
      cases w with
      | nil => simp -implicitDefEqProofs [w_lift_1]
      | cons x w =>
        have ok := okEq_ints (w := x :: w)
        simp only [List.map_cons] at ok
        simp -implicitDefEqProofs [w_lift_1, hne, ok]) (by
    rintro e ⟨y, rfl⟩
    have hlr := lf_round s r a (ordT s (sumR r))
    have he : lf s r a (r.length * ordT s (sumR r)) = a := by rw [hlr]; exact (add_emod_iff ha).mpr o2
    have hne : (List.range (r.length * ordT s (sumR r))).map (lf s r a) ≠ [] := by
      intro z
      have := congrArg List.length z
      rw [List.length_map, List.length_range] at this
      have h1 : 0 < ordT s (sumR r) := by unfold ordT; omega
      have h2 := Nat.mul_pos hr h1
      rw [this] at h2
      exact absurd h2 (by decide)
    generalize (List.range (r.length * ordT s (sumR r))).map (lf s r a) = w at hne ⊢
    rw [he]
    cases w with
    | nil => exact absurd rfl hne
    | cons x w =>
      have ok := okEq_ints (w := x :: w)
      simp only [List.map_cons] at ok
      simp -implicitDefEqProofs [w_lift_1, ok]) DL.many 0 [.sh (.int s), .sh (li r), .sh (.int a), .ow (.lst []), .sh (.int a), .un] (by
    refine ⟨.un, ?_⟩
    rw [Nat.mul_zero, lf_zero ha]
    rfl) (by omega) (by unfold DL.many; omega)
  obtain ⟨e, h1, y, rfl⟩ := key
  simp -implicitDefEqProofs [F_lift, g_lift, fWhile]
  rw [h1]
  rfl

def orbT (s T a : Int) : List Int := (List.range (ordT s T)).map fun k : Nat => (a + (k : Int) * T) % s
/-- the beginnings of the lifted rings -/
def repT (s T : Int) : Nat → List Int
  | 0 => []
  | j + 1 => if (j : Int) ∈ (repT s T j).flatMap (orbT s T) then repT s T j else repT s T j ++ [(j : Int)]
theorem repT_len (s T : Int) : ∀ j, (repT s T j).length ≤ j
  | 0 => by simp [repT]
  | j + 1 => by
    have := repT_len s T j
    unfold repT
    split <;> simp <;> omega
theorem repT_mem (s T : Int) : ∀ (j : Nat) (a : Int), a ∈ repT s T j → 0 ≤ a ∧ a < j
  | 0, a, h => by simp [repT] at h
  | j + 1, a, h => by
    unfold repT at h
    split at h
    · have := repT_mem s T j a h; omega
    · rcases List.mem_append.mp h with h | h
      · have := repT_mem s T j a h; omega
      · simp at h; omega
def liftedL (s : Int) (r : List Int) : List (List Int) := (repT s (sumR r) s.toNat).map (lifl s r)
theorem rng3_ok (k1 k2 k3 : Kd) (n L : Nat) (hL : 0 < L) (hl : L * n ≤ 100000) (hl2 : L ≤ 100000) : rng3 [⟨k1, .int 0⟩, ⟨k2, .int ((L * n : Nat) : Int)⟩, ⟨k3, .int (L : Int)⟩] = .ok (false, rngC 0 L n) := by
  have e : Builtin.Range.rangeSize 0 ((L * n : Nat) : Int) (L : Int) = (n : Int) := by
    unfold Builtin.Range.rangeSize
    rw [if_pos (by omega)]
    cases n with
    | zero => simp
    | succ m =>
      have h1 : (0 : Int) < ((L * (m + 1) : Nat) : Int) := by
        have : 0 < L * (m + 1) := Nat.mul_pos hL (Nat.succ_pos m)
        omega
      rw [if_pos h1]
      have h2 : ((L * (m + 1) : Nat) : Int) - 0 - 1 = ((L : Int) - 1) + (m : Int) * L := by
        have h3 : L * (m + 1) = L * m + L := Nat.mul_succ _ _
        rw [h3, Int.natCast_add, Int.natCast_mul, Int.mul_comm (m : Int)]; omega
      rw [h2, Int.add_mul_ediv_right _ _ (by omega), Int.ediv_eq_zero_of_lt (by omega) (by omega)]
      omega
  have h1 : Builtin.Range.small 0 ((L * n : Nat) : Int) (L : Int) = true := by
    have h0 : (0 : Int) ≤ ((L * n : Nat) : Int) ∧ ((L * n : Nat) : Int) ≤ 100000 := by omega
    generalize ((L * n : Nat) : Int) = q at *
    unfold Builtin.Range.small
    rw [e]
    simp only [Builtin.Range.rangeFitsLong, Bool.and_eq_true, Bool.or_eq_true, decide_eq_true_eq, beq_iff_eq]
    rw [if_pos (show (L : Int) > 0 by omega)]
    simp only [Bool.and_eq_true, decide_eq_true_eq]
    have hnL : n ≤ L * n := Nat.le_mul_of_pos_left _ hL
    omega
  simp only [rng3]
  rw [if_pos ⟨by omega, by omega, h1, by rw [e]; omega⟩, e, Int.toNat_natCast]
theorem lifted_in (s : Int) (r : List Int) (j : Int) (F : List (List Int)) (kvs : List (Int × V)) (hs : 0 < s) (hr : 0 < r.length) (hl : r.length * s.toNat ≤ 10000) (hk : kvs.length ≤ 1000) (x5 : Sl) :
    ∃ y kvs', loopF b_lifted_1 5 (rngC 0 r.length (ordT s (sumR r))) [.sh (.int s), .sh (li r), .ow (.lst ((F ++ [lifl s r j]).map li)), .ow (.dK kvs), .sh (.int j), x5] = .nx [.sh (.int s), .sh (li r), .ow (.lst ((F ++ [lifl s r j]).map li)), .ow (.dK kvs'), .sh (.int j), y] ∧ kvs'.length ≤ kvs.length + s.toNat ∧ ∀ x, (valV kvs' x).isSome = ((valV kvs x).isSome || decide (x ∈ orbT s (sumR r) j)) := by
  obtain ⟨o1, _, _⟩ := ordT_ok (T := sumR r) hs
  have hoM : r.length * ordT s (sumR r) ≤ 10000 := Nat.le_trans (Nat.mul_le_mul_left _ o1) hl
  have hsM : s.toNat ≤ 10000 := Nat.le_trans (Nat.le_mul_of_pos_left _ hr) hl
  obtain ⟨e, h3, h4⟩ := loop_do (g := b_lifted_1) (i := 5) (fun k e => ∃ y kvs', e = [.sh (.int s), .sh (li r), .ow (.lst ((F ++ [lifl s r j]).map li)), .ow (.dK kvs'), .sh (.int j), y] ∧ kvs'.length ≤ kvs.length + k ∧ ∀ x, (valV kvs' x).isSome = ((valV kvs x).isSome || decide (x ∈ (List.range k).map fun k : Nat => (j + (k : Int) * sumR r) % s))) (rngC 0 r.length (ordT s (sumR r))) [.sh (.int s), .sh (li r), .ow (.lst ((F ++ [lifl s r j]).map li)), .ow (.dK kvs), .sh (.int j), x5] ⟨_, _, rfl, by omega, fun x => by simp⟩ (by
    rintro k d e hd ⟨y, kvs', rfl, hk', hv⟩
    simp only [rngC, List.getElem?_map, Option.map_eq_some_iff] at hd
    obtain ⟨k2, hk2, rfl⟩ := hd
    have hkl : k < ordT s (sumR r) := by have := (List.getElem?_eq_some_iff.mp hk2).1; simpa using this
    rw [List.getElem?_range hkl] at hk2
    cases hk2
    have hlt : r.length * k < r.length * ordT s (sumR r) := Nat.mul_lt_mul_of_pos_left hkl hr
    have a1 : atI ((F ++ [lifl s r j]).map li) (-1) = some (.lst ((lifl s r j).map .int)) := by
      rw [List.map_append]
      exact atI_last _ _
    have ei : (0 : Int) + (k : Int) * (r.length : Int) = ((r.length * k : Nat) : Int) := by rw [Int.natCast_mul, Int.mul_comm]; omega
    have a2 : atI ((lifl s r j).map D.int) (((r.length * k : Nat) : Int)) = some (.int ((j + (k : Int) * sumR r) % s)) := atI_nat (by
      rw [List.getElem?_map, lifl, List.getElem?_map, List.getElem?_range hlt]
      simp [lf_round])
    have hlm : kvs'.length < lim := lim_lt (by omega)
    have hput := L2.valV_put kvs' ((j + (k : Int) * sumR r) % s) (y := V.bl true)
    have hpl : (putK kvs' ((j + (k : Int) * sumR r) % s) (V.bl true)).length ≤ kvs.length + (k + 1) := by
      unfold putK
      split
      · simp; omega
      · simp; omega
    rw [ei]
    generalize hvd : (j + (k : Int) * sumR r) % s = v at *
    generalize (F ++ [lifl s r j]).map li = FL at *
    generalize (lifl s r j).map D.int = LL at *
    refine ⟨[.sh (.int s), .sh (li r), .ow (.lst FL), .ow (.dK (putK kvs' v (.bl true))), .sh (.int j), .sh (.int ((r.length * k : Nat) : Int))], .inl ?_, _, _, rfl, hpl, fun x => ?_⟩
    · simp -implicitDefEqProofs only [st]
      generalize ((r.length * k : Nat) : Int) = ix at *
      simp -implicitDefEqProofs [b_lifted_1, a1, a2, putDct, keyD, toV, hlm]
    · rw [hput x, List.range_succ, List.map_append]
      by_cases q : x = v
      · subst q; simp [hvd]
      · rw [if_neg q, hv x]
        simp [q, hvd])
  have : (rngC 0 r.length (ordT s (sumR r))).length = ordT s (sumR r) := by simp [rngC]
  rw [this] at h4
  obtain ⟨y, kvs', rfl, h5, h6⟩ := h4
  exact ⟨y, kvs', h3, by omega, h6⟩

theorem F_lifted_eq (s : Int) (r : List Int) (hs : 1 ≤ s ∧ s ≤ 9) (hr : isR s (li r) = true) (hl : r.length * s.toNat ≤ 256) : F_lifted [.int s, li r] = .ok ⟨.fr, .lst ((liftedL s r).map li)⟩ := by
  have hs0 : 0 < s := by omega
  obtain ⟨ds, e, h1, h2⟩ := isR_lst hr
  cases e
  rw [List.length_map] at h1 h2
  have e0 := F_is_among_eq (.int s) 1 9 rfl
  have e1 := F_need_ring_eq s (li r) kn1_li
  rw [if_pos hr] at e1
  obtain ⟨o1, _, _⟩ := ordT_ok (T := sumR r) hs0
  obtain ⟨n, hn⟩ : ∃ n : Nat, s = n := ⟨s.toNat, by omega⟩
  have hnt : s.toNat = n := by omega
  have hn9 : n ≤ 9 := by omega
  obtain ⟨e, h3, h4⟩ := loop_do (g := b_lifted_2) (i := 4) (fun j e => ∃ kvs x4 x5, e = [.sh (.int s), .sh (li r), .ow (.lst (((repT s (sumR r) j).map (lifl s r)).map li)), .ow (.dK kvs), x4, x5] ∧ kvs.length ≤ j * 10 ∧ ∀ x, (valV kvs x).isSome = decide (x ∈ (repT s (sumR r) j).flatMap (orbT s (sumR r)))) (rngD 0 n) [.sh (.int s), .sh (li r), .ow (.lst []), .ow (.dK []), .un, .un] ⟨[], .un, .un, rfl, by simp, fun x => by simp [repT, valV]⟩ (by
    rintro j d e hd ⟨kvs, x4, x5, rfl, hk, hv⟩
    obtain ⟨hj, rfl⟩ := rngD_get hd
    rw [Int.zero_add]
    have hvj := hv (j : Int)
    have hrep : repT s (sumR r) (j + 1) = if (j : Int) ∈ (repT s (sumR r) j).flatMap (orbT s (sumR r)) then repT s (sumR r) j else repT s (sumR r) j ++ [(j : Int)] := rfl
    rw [hrep]
    by_cases q : (j : Int) ∈ (repT s (sumR r) j).flatMap (orbT s (sumR r))
    · rw [if_pos q]
      rw [decide_eq_true q] at hvj
      obtain ⟨v0, hvj⟩ := Option.isSome_iff_exists.mp hvj
      refine ⟨[.sh (.int s), .sh (li r), .ow (.lst (((repT s (sumR r) j).map (lifl s r)).map li)), .ow (.dK kvs), .sh (.int j), x5], .inl ?_, kvs, _, _, rfl, by omega, hv⟩
      generalize ((repT s (sumR r) j).map (lifl s r)).map li = FL
      simp -implicitDefEqProofs [b_lifted_2, notinDO, lookD, keyD, hvj]
    · rw [if_neg q]
      rw [decide_eq_false q] at hvj
      replace hvj : valV kvs (j : Int) = none := by simpa using hvj
      obtain ⟨y, kvs', g1, g2, g3⟩ := lifted_in s r j ((repT s (sumR r) j).map (lifl s r)) kvs hs0 h1 (by omega) (by omega) x5
      have e2 := F_lift_eq s j r (by omega) (by omega) h1 (by omega)
      have hrl := repT_len s (sumR r) j
      have hfl : (((repT s (sumR r) j).map (lifl s r)).map li).length < lim := lim_lt (by simp; omega)
      have hlen : ((lifl s r j).map D.int).length = r.length * ordT s (sumR r) := by simp [lifl]
      have hoM : r.length * ordT s (sumR r) ≤ 256 := Nat.le_trans (Nat.mul_le_mul_left _ o1) (by omega)
      have r3 := rng3_ok .sh .sh .sh (ordT s (sumR r)) r.length h1 (by omega) (by omega)
      have a1 : atI (((repT s (sumR r) j).map (lifl s r)).map li ++ [.lst ((lifl s r j).map .int)]) (-1) = some (.lst ((lifl s r j).map .int)) := atI_last _ _
      have hmap : ((repT s (sumR r) j ++ [(j : Int)]).map (lifl s r)).map li = (((repT s (sumR r) j).map (lifl s r)).map li) ++ [.lst ((lifl s r j).map .int)] := by simp
      have hmap2 : ((repT s (sumR r) j).map (lifl s r) ++ [lifl s r j]).map li = (((repT s (sumR r) j).map (lifl s r)).map li) ++ [.lst ((lifl s r j).map .int)] := by simp
      rw [hmap2] at g1
      rw [hmap]
      refine ⟨_, .inl ?_, kvs', .sh (.int j), y, rfl, by omega, fun x => ?_⟩
      · clear hmap hmap2
        have hrl2 : (r.map D.int).length = r.length := by simp
        rw [← hrl2] at r3 g1
        have hlen2 : (((lifl s r j).map D.int).length : Int) = ((((r.map D.int).length * ordT s (sumR r) : Nat)) : Int) := by rw [hlen, hrl2]
        generalize ((repT s (sumR r) j).map (lifl s r)).map li = FL at *
        simp only [li] at e2 g1 ⊢
        generalize (lifl s r j).map D.int = LL at *
        generalize r.map D.int = R at *
        simp -implicitDefEqProofs [-rng3, -Int.natCast_mul, b_lifted_2, notinDO, lookD, keyD, hvj, e2, hfl, a1, hlen2, r3, g1]
      · rw [g3 x, hv x, List.flatMap_append]
        simp)
  rw [rngD_length] at h4
  obtain ⟨kvs, x4, x5, rfl, _, _⟩ := h4
  have hmul : ¬ 256 < s * (r.length : Int) := by
    rw [hn]
    have : ((n : Int) * (r.length : Int)) = ((r.length * n : Nat) : Int) := by rw [Int.natCast_mul, Int.mul_comm]
    rw [this]
    rw [hnt] at hl
    omega
  have hsb : -18446744073709551616 < s ∧ s < 18446744073709551616 := by omega
  rw [liftedL, hnt]
  have hn' : n ≤ 1000000000 := by omega
  have hrn : rng1 [⟨.sh, .int s⟩] = .ok (false, rngD 0 n) := by rw [hn]; exact rng1_nat hn'
  have e0' : amg (.int s) 1 9 = true := by simp; omega
  rw [e0'] at e0
  obtain ⟨q, hq⟩ : ∃ q : Int, (r.length : Int) = q := ⟨_, rfl⟩
  have hrl2 : (r.map D.int).length = r.length := by simp
  rw [hq] at hmul
  rw [← hrl2] at hq
  generalize ((repT s (sumR r) n).map (lifl s r)).map li = FL at *
  simp only [li] at e1 h3 ⊢
  generalize r.map D.int = R at *
  simp -implicitDefEqProofs [-rng1, F_lifted, g_lifted, e0, e1, hq, hsb, hmul, hrn]
  rw [h3]
  rfl
end My
namespace My
/-! lifted rings: orbits, words -/
theorem nodup_sub {α : Type} [DecidableEq α] : ∀ (l m : List α), l.Nodup → (∀ x ∈ l, x ∈ m) → l.length ≤ m.length ∧ (l.length = m.length → m.Perm l)
  | [], m, _, _ => ⟨by simp, fun h => by simp at h; rw [List.length_eq_zero_iff.mp h.symm]⟩
  | x :: l, m, hn, hs => by
    obtain ⟨h1, h2⟩ := List.nodup_cons.mp hn
    have hx : x ∈ m := hs x List.mem_cons_self
    have hp := List.perm_cons_erase hx
    have hl := hp.length_eq
    obtain ⟨i1, i2⟩ := nodup_sub l (m.erase x) h2 fun y hy => by
      have : y ∈ x :: m.erase x := hp.mem_iff.mp (hs y (List.mem_cons_of_mem _ hy))
      rcases List.mem_cons.mp this with rfl | h
      · exact absurd hy h1
      · exact h
    simp only [List.length_cons] at hl ⊢
    exact ⟨by omega, fun h => hp.trans ((i2 (by omega)).cons x)⟩
theorem nodup_map {α β : Type} {f : α → β} {l : List α} (h : ∀ x ∈ l, ∀ y ∈ l, f x = f y → x = y) (n : l.Nodup) : (l.map f).Nodup :=
  List.pairwise_map.mpr (List.Pairwise.imp_of_mem (fun hx hy ne e => ne (h _ hx _ hy e)) n)
theorem nodup_fm {α β : Type} {f : α → List β} : ∀ {l : List α}, (∀ a ∈ l, (f a).Nodup) → l.Pairwise (fun a b => ∀ x, x ∈ f a → x ∈ f b → False) → (l.flatMap f).Nodup
  | [], _, _ => List.Pairwise.nil
  | a :: l, h, hp => by
    obtain ⟨h1, h2⟩ := List.pairwise_cons.mp hp
    rw [List.flatMap_cons]
    refine List.pairwise_append.mpr ⟨h a List.mem_cons_self, nodup_fm (fun b hb => h b (List.mem_cons_of_mem _ hb)) h2, fun x hx y hy e => ?_⟩
    subst e
    obtain ⟨b, hb, hy⟩ := List.mem_flatMap.mp hy
    exact h1 b hb x hx hy
theorem mul_emod_sub {s T : Int} (hs : 0 < s) {i j : Nat} (h : i ≤ j) {a : Int} (e : (a + (i : Int) * T) % s = (a + (j : Int) * T) % s) : ((j - i : Nat) : Int) * T % s = 0 := by
  have h1 : ((j - i : Nat) : Int) * T = (a + (j : Int) * T) - (a + (i : Int) * T) := by
    have : ((j - i : Nat) : Int) = (j : Int) - i := by omega
    rw [this, Int.sub_mul]; omega
  rw [h1, Int.sub_emod, e, Int.sub_self]
  simp
theorem orb_inj {s T a : Int} (hs : 0 < s) {i j : Nat} (hi : i < ordT s T) (hj : j < ordT s T) (e : (a + (i : Int) * T) % s = (a + (j : Int) * T) % s) : i = j := by
  obtain ⟨_, _, o3⟩ := ordT_ok (T := T) hs
  rcases Nat.lt_trichotomy i j with h | h | h
  · exact absurd (mul_emod_sub hs (Nat.le_of_lt h) e) (o3 (j - i) (by omega) (by omega))
  · exact h
  · exact absurd (mul_emod_sub hs (Nat.le_of_lt h) e.symm) (o3 (i - j) (by omega) (by omega))
theorem mem_orb {s T a x : Int} : x ∈ orbT s T a ↔ ∃ k : Nat, k < ordT s T ∧ (a + (k : Int) * T) % s = x := by
  simp [orbT]
/-- any multiple leads into the orbit -/
theorem orb_any {s T a : Int} (hs : 0 < s) (k : Nat) : (a + (k : Int) * T) % s ∈ orbT s T a := by
  obtain ⟨_, o2, _⟩ := ordT_ok (T := T) hs
  have h0 : 0 < ordT s T := by unfold ordT; omega
  refine mem_orb.mpr ⟨k % ordT s T, Nat.mod_lt _ h0, ?_⟩
  have e : (k : Int) * T = ((k % ordT s T : Nat) : Int) * T + ((k / ordT s T : Nat) : Int) * (((ordT s T : Nat) : Int) * T) := by
    have h1 : (k : Int) = ((k % ordT s T : Nat) : Int) + ((k / ordT s T : Nat) : Int) * ((ordT s T : Nat) : Int) := by
      have := Nat.mod_add_div' k (ordT s T)
      omega
    rw [← Int.mul_assoc, ← Int.add_mul, ← h1]
  have o4 : ((k / ordT s T : Nat) : Int) * (((ordT s T : Nat) : Int) * T) % s = 0 := by rw [Int.mul_emod, o2]; simp
  rw [e, ← Int.add_assoc]
  generalize ((k / ordT s T : Nat) : Int) * (((ordT s T : Nat) : Int) * T) = z at o4
  rw [Int.add_emod (a + ((k % ordT s T : Nat) : Int) * T) z s, o4]
  simp
theorem orb_back {s T a b : Int} (hs : 0 < s) (hb : 0 ≤ b ∧ b < s) (h : b ∈ orbT s T a) (ha : 0 ≤ a ∧ a < s) : a ∈ orbT s T b := by
  obtain ⟨k, hk, e⟩ := mem_orb.mp h
  obtain ⟨_, o2, _⟩ := ordT_ok (T := T) hs
  have : (b + ((ordT s T - k : Nat) : Int) * T) % s = a := by
    rw [← e, Int.emod_add_emod, Int.add_assoc, ← Int.add_mul]
    have : (k : Int) + ((ordT s T - k : Nat) : Int) = ((ordT s T : Nat) : Int) := by omega
    rw [this]
    exact (add_emod_iff ha).mpr o2
  rw [← this]
  exact orb_any hs _
theorem orb_trans {s T a b c : Int} (hs : 0 < s) (h1 : b ∈ orbT s T a) (h2 : c ∈ orbT s T b) : c ∈ orbT s T a := by
  obtain ⟨k, _, rfl⟩ := mem_orb.mp h1
  obtain ⟨l, _, rfl⟩ := mem_orb.mp h2
  rw [Int.emod_add_emod, Int.add_assoc, ← Int.add_mul, ← Int.natCast_add]
  exact orb_any hs _
theorem orb_self {s T a : Int} (hs : 0 < s) (ha : 0 ≤ a ∧ a < s) : a ∈ orbT s T a := by
  have := orb_any (T := T) (a := a) hs 0
  simpa [Int.emod_eq_of_lt ha.1 ha.2] using this
/-- no beginning is met from an earlier one -/
theorem rep_apart (s T : Int) : ∀ j : Nat, (repT s T j).Pairwise fun a b => b ∉ orbT s T a
  | 0 => List.Pairwise.nil
  | j + 1 => by
    have hrep : repT s T (j + 1) = if (j : Int) ∈ (repT s T j).flatMap (orbT s T) then repT s T j else repT s T j ++ [(j : Int)] := rfl
    rw [hrep]
    split
    · exact rep_apart s T j
    · rename_i h
      refine List.pairwise_append.mpr ⟨rep_apart s T j, List.pairwise_singleton _ _, fun a ha b hb z => ?_⟩
      simp at hb
      subst hb
      exact h (List.mem_flatMap.mpr ⟨a, ha, z⟩)
theorem rep_cover (s T : Int) (hs : 0 < s) : ∀ (j i : Nat), i < j → (j : Int) ≤ s → (i : Int) ∈ (repT s T j).flatMap (orbT s T)
  | j + 1, i, h, hj => by
    have hrep : repT s T (j + 1) = if (j : Int) ∈ (repT s T j).flatMap (orbT s T) then repT s T j else repT s T j ++ [(j : Int)] := rfl
    rw [hrep]
    by_cases q : i < j
    · have := rep_cover s T hs j i q (by omega)
      split
      · exact this
      · rw [List.flatMap_append]; exact List.mem_append_left _ this
    · have e : i = j := by omega
      subst e
      split
      · assumption
      · rw [List.flatMap_append]
        refine List.mem_append_right _ ?_
        simp only [List.flatMap_cons, List.flatMap_nil, List.append_nil]
        exact orb_self hs (by omega)
theorem orb_range {s T a x : Int} (hs : 0 < s) (h : x ∈ orbT s T a) : 0 ≤ x ∧ x < s := by
  obtain ⟨k, _, rfl⟩ := mem_orb.mp h
  exact ⟨Int.emod_nonneg _ (by omega), Int.emod_lt_of_pos _ hs⟩
/-- the same sign on the orbits of two beginnings: they are one -/
theorem rep_same {s T a b x : Int} (hs : 0 < s) (ha : a ∈ repT s T s.toNat) (hb : b ∈ repT s T s.toNat) (h1 : x ∈ orbT s T a) (h2 : x ∈ orbT s T b) : a = b := by
  have ha' := repT_mem s T _ a ha
  have hb' := repT_mem s T _ b hb
  have hx := orb_range hs h1
  have ab : b ∈ orbT s T a := orb_trans hs h1 (orb_back hs hx h2 ⟨by omega, by omega⟩)
  have ba : a ∈ orbT s T b := orb_trans hs h2 (orb_back hs hx h1 ⟨by omega, by omega⟩)
  have hp := rep_apart s T s.toNat
  obtain ⟨i, hi, rfl⟩ := List.mem_iff_getElem.mp ha
  obtain ⟨j, hj, rfl⟩ := List.mem_iff_getElem.mp hb
  rcases Nat.lt_trichotomy i j with h | h | h
  · exact absurd ab (List.pairwise_iff_getElem.mp hp i j hi hj h)
  · subst h; rfl
  · exact absurd ba (List.pairwise_iff_getElem.mp hp j i hj hi h)
theorem rep_nodup (s T : Int) (hs : 0 < s) : (repT s T s.toNat).Nodup := by
  refine (rep_apart s T s.toNat).imp_of_mem fun {a b} ha hb h => ?_
  rintro rfl
  exact h (orb_self hs (by have := repT_mem s T _ a ha; omega))
theorem orbs_nodup (s T : Int) (hs : 0 < s) : ((repT s T s.toNat).flatMap (orbT s T)).Nodup := by
  refine nodup_fm (fun a _ => ?_) ?_
  · unfold orbT
    exact nodup_map (fun i hi j hj e => orb_inj hs (List.mem_range.mp hi) (List.mem_range.mp hj) e) List.nodup_range
  · refine List.Pairwise.imp_of_mem (fun {a b} ha hb hab x h1 h2 => hab (rep_same hs ha hb h1 h2)) (rep_nodup s T hs)
theorem rep_count (s T : Int) (hs : 0 < s) : (repT s T s.toNat).length * ordT s T = s.toNat := by
  have h1 := orbs_nodup s T hs
  have hl : ((repT s T s.toNat).flatMap (orbT s T)).length = (repT s T s.toNat).length * ordT s T := by
    rw [List.length_flatMap]
    have : (repT s T s.toNat).map (fun a => (orbT s T a).length) = (repT s T s.toNat).map fun _ => ordT s T := List.map_congr_left fun a _ => by simp [orbT]
    rw [this]
    generalize repT s T s.toNat = l
    induction l with
    | nil => simp
    | cons x l ih => simp [Nat.add_mul, ih]; omega
  have r1 := nodup_sub _ ((List.range s.toNat).map fun k : Nat => (k : Int)) h1 fun x hx => by
    obtain ⟨a, _, h⟩ := List.mem_flatMap.mp hx
    have := orb_range hs h
    exact List.mem_map.mpr ⟨x.toNat, List.mem_range.mpr (by omega), by omega⟩
  have n2 : ((List.range s.toNat).map fun k : Nat => (k : Int)).Nodup := nodup_map (fun i _ j _ e => by omega) List.nodup_range
  have r2 := nodup_sub _ ((repT s T s.toNat).flatMap (orbT s T)) n2 fun x hx => by
    obtain ⟨k, hk, rfl⟩ := List.mem_map.mp hx
    exact rep_cover s T hs _ k (List.mem_range.mp hk) (by omega)
  have := r1.1
  have := r2.1
  simp only [List.length_map, List.length_range] at *
  omega

/-! words of lifted rings -/
theorem cyc_lifl {s : Int} {r : List Int} {a : Int} (hs : 0 < s) (hr : 0 < r.length) (i : Nat) : cyc (lifl s r a) i = lf s r a i := by
  obtain ⟨_, o2, _⟩ := ordT_ok (T := sumR r) hs
  have h0 : 0 < ordT s (sumR r) := by unfold ordT; omega
  have hl : (lifl s r a).length = r.length * ordT s (sumR r) := by simp [lifl]
  have hp : 0 < r.length * ordT s (sumR r) := Nat.mul_pos hr h0
  have hm := Nat.mod_lt i hp
  have e1 : cyc (lifl s r a) i = lf s r a (i % (r.length * ordT s (sumR r))) := by
    unfold cyc
    rw [hl]
    simp [lifl, List.getD, hm]
  rw [e1]
  unfold lf
  have e2 : i = r.length * (ordT s (sumR r) * (i / (r.length * ordT s (sumR r)))) + i % (r.length * ordT s (sumR r)) := by
    rw [← Nat.mul_assoc]; exact (Nat.div_add_mod _ _).symm
  have e3 := prs_mul r (i % (r.length * ordT s (sumR r))) (ordT s (sumR r) * (i / (r.length * ordT s (sumR r))))
  rw [← e2] at e3
  rw [e3]
  have o4 : ((ordT s (sumR r) * (i / (r.length * ordT s (sumR r))) : Nat) : Int) * sumR r % s = 0 := by
    rw [Int.natCast_mul, Int.mul_assoc, Int.mul_comm ((i / (r.length * ordT s (sumR r)) : Nat) : Int), ← Int.mul_assoc, Int.mul_emod, o2]; simp
  generalize ((ordT s (sumR r) * (i / (r.length * ordT s (sumR r))) : Nat) : Int) * sumR r = z at o4
  rw [Int.add_comm z, ← Int.add_assoc, Int.add_emod (a + _) z s, o4]
  simp
theorem lf_range {s : Int} {r : List Int} {a : Int} (hs : 0 < s) (i : Nat) : 0 ≤ lf s r a i ∧ lf s r a i < s := ⟨Int.emod_nonneg _ (by omega), Int.emod_lt_of_pos _ hs⟩
/-- the steps of a word -/
def stp (s : Int) (w : List Int) : List Int := (List.range (w.length - 1)).map fun k => (w.getD (k + 1) 0 - w.getD k 0 + s) % s
theorem frm_lifl {s : Int} {r : List Int} {a : Int} (hs : 0 < s) (hr : 0 < r.length) (p m : Nat) : frm (lifl s r a) p m = (List.range m).map fun j => lf s r a (p + j) := by
  unfold frm
  exact List.map_congr_left fun j _ => cyc_lifl hs hr _
theorem stp_frm {s : Int} {r : List Int} {a : Int} (hs : 0 < s) (hr : 0 < r.length) (hv : ∀ x ∈ r, 0 ≤ x ∧ x < s) (p m : Nat) : stp s (frm (lifl s r a) p (m + 1)) = frm r p m := by
  have hl : (frm (lifl s r a) p (m + 1)).length - 1 = m := by rw [frm_len]; rfl
  unfold stp
  rw [hl, frm_lifl hs hr]
  unfold frm
  refine List.map_congr_left fun k hk => ?_
  have hk := List.mem_range.mp hk
  have g : ∀ j, j < m + 1 → ((List.range (m + 1)).map fun j => lf s r a (p + j)).getD j 0 = lf s r a (p + j) := fun j hj => by simp [List.getD, hj]
  rw [g _ (by omega), g _ (by omega), ← Nat.add_assoc, lf_succ]
  have hc : 0 ≤ cyc r (p + k) ∧ cyc r (p + k) < s := by
    have hx : (p + k) % r.length < r.length := Nat.mod_lt _ hr
    have : cyc r (p + k) = r[(p + k) % r.length] := by simp [cyc, List.getD, hx]
    rw [this]
    exact hv _ (List.getElem_mem hx)
  generalize lf s r a (p + k) = v
  generalize cyc r (p + k) = c at hc
  have h1 : ((v + c) % s - v + s) % s = c % s := by
    have : (v + c) % s - v + s = ((v + c) % s + (s - v)) := by omega
    rw [this, Int.emod_add_emod]
    have : v + c + (s - v) = c + s := by omega
    rw [this, Int.add_emod_right]
  rw [h1, Int.emod_eq_of_lt hc.1 hc.2]
theorem frm_mod (r : List Int) (p m : Nat) : frm r (p % r.length) m = frm r p m := by
  unfold frm cyc
  refine List.map_congr_left fun j _ => ?_
  rw [Nat.mod_add_mod]
theorem range_mul_map {β : Type} (f : Nat → β) (L : Nat) (h : ∀ p, f (p % L) = f p) (hL : 0 < L) : ∀ o, (List.range (L * o)).map f = (List.replicate o ((List.range L).map f)).flatten
  | 0 => by simp
  | o + 1 => by
    have hf : ∀ p, f (L * o + p) = f p := fun p => by rw [← h (L * o + p), ← h p, Nat.mul_add_mod]
    rw [Nat.mul_succ, List.range_add, List.map_append, range_mul_map f L h hL o, List.map_map, List.replicate_succ', List.flatten_append]
    congr 1
    simp [Function.comp_def, hf]
theorem steps_all {s : Int} {r : List Int} (hs : 0 < s) (hr : 0 < r.length) (hv : ∀ x ∈ r, 0 ≤ x ∧ x < s) (m : Nat) : ((liftedL s r).flatMap fun l => (wrd l (m + 1)).map (stp s)) = (List.replicate s.toNat (wrd r m)).flatten := by
  have h1 : ∀ a, (wrd (lifl s r a) (m + 1)).map (stp s) = (List.replicate (ordT s (sumR r)) (wrd r m)).flatten := fun a => by
    have hl : (lifl s r a).length = r.length * ordT s (sumR r) := by simp [lifl]
    unfold wrd
    rw [hl, List.map_map]
    have : (stp s ∘ fun p => frm (lifl s r a) p (m + 1)) = fun p => frm r p m := funext fun p => stp_frm hs hr hv p m
    rw [this]
    exact range_mul_map _ _ (fun p => frm_mod r p m) hr _
  have h2 : ∀ l : List Int, ((l.map (lifl s r)).flatMap fun l => (wrd l (m + 1)).map (stp s)) = (List.replicate (l.length * ordT s (sumR r)) (wrd r m)).flatten := by
    intro l
    induction l with
    | nil => simp
    | cons a l ih =>
      rw [List.map_cons, List.flatMap_cons, ih, h1, List.length_cons, Nat.add_mul, Nat.one_mul, Nat.add_comm (l.length * _), ← List.replicate_append_replicate, List.flatten_append]
  unfold liftedL
  rw [h2, rep_count s (sumR r) hs]
end My
namespace My
open PySem PySem.Spec L2 DL
/-! books.py -/
theorem cut_last {w : List Int} : DL.cut (w.map D.int) none (some (-1)) = w.dropLast.map D.int := by
  rw [cut_map, List.dropLast_eq_take]
  unfold DL.cut
  rw [HT.sIx_none]
  have : HT.sIx w.length w.length (some (-1)) = w.length - 1 := by
    simp [HT.sIx]
    omega
  rw [this]
  simp
theorem cut_tail {w : List Int} (h : 0 < w.length) : DL.cut (w.map D.int) (some 1) none = (w.drop 1).map D.int := by
  have := cut_from (w.map D.int) 1 (by rw [List.length_map]; omega)
  rw [List.map_drop]
  exact this
/-- a key more -/
def addK (acc : List (List Int)) (k : List Int) : List (List Int) := if k ∈ acc then acc else acc ++ [k]
def jk (ws : List (List Int)) : List (List Int) := ws.foldl (fun acc w => addK (addK acc w.dropLast) (w.drop 1)) []
def trues (l : List (List Int)) : List (List Int × V) := l.map fun k => (k, V.bl true)
theorem putK_true (l : List (List Int)) (k : List Int) : putK (trues l) k (.bl true) = trues (addK l k) := by
  unfold putK addK trues
  by_cases h : k ∈ l
  · rw [if_pos h, if_pos]
    · rw [List.map_map]
      refine List.map_congr_left fun x hx => ?_
      show (if x = k then (x, V.bl true) else (x, V.bl true)) = _
      split <;> rfl
    · rw [List.any_eq_true]
      exact ⟨(k, .bl true), List.mem_map.mpr ⟨k, h, rfl⟩, by simp⟩
  · rw [if_neg h, if_neg]
    · simp
    · rw [List.any_eq_true]
      rintro ⟨x, hx, e⟩
      obtain ⟨y, hy, rfl⟩ := List.mem_map.mp hx
      simp at e
      exact h (e ▸ hy)
theorem valV_true (l : List (List Int)) (k : List Int) : valV (trues l) k = if k ∈ l then some (.bl true) else none := by
  unfold valV trues
  by_cases h : k ∈ l
  · rw [if_pos h]
    have : ((l.map fun k => (k, V.bl true)).find? fun kv => decide (kv.1 = k)).isSome = true := by
      rw [List.find?_isSome]
      exact ⟨(k, .bl true), List.mem_map.mpr ⟨k, h, rfl⟩, by simp⟩
    obtain ⟨x, hx⟩ := Option.isSome_iff_exists.mp this
    rw [hx]
    obtain ⟨y, hy, rfl⟩ := List.mem_map.mp (List.mem_of_find?_eq_some hx)
    rfl
  · rw [if_neg h, Option.map_eq_none_iff, List.find?_eq_none]
    intro x hx
    obtain ⟨y, hy, rfl⟩ := List.mem_map.mp hx
    simp
    rintro rfl
    exact h hy
theorem addK_len (l : List (List Int)) (k : List Int) : (addK l k).length ≤ l.length + 1 := by
  unfold addK; split <;> simp
theorem addK_nodup {l : List (List Int)} {k : List Int} (h : l.Nodup) : (addK l k).Nodup := by
  unfold addK
  split
  · exact h
  · rename_i n
    exact List.nodup_append.mpr ⟨h, by simp, fun a ha b hb => by rw [List.mem_singleton.mp hb]; rintro rfl; exact n ha⟩
theorem mem_addK {l : List (List Int)} {k x : List Int} : x ∈ addK l k ↔ x ∈ l ∨ x = k := by
  unfold addK
  split
  · rename_i h
    constructor
    · exact .inl
    · rintro (h2 | rfl)
      · exact h2
      · exact h
  · simp
theorem jk_snoc (ws : List (List Int)) (w : List Int) : jk (ws ++ [w]) = addK (addK (jk ws) w.dropLast) (w.drop 1) := by
  unfold jk; rw [List.foldl_append]; rfl
theorem jk_len (ws : List (List Int)) : (jk ws).length ≤ 2 * ws.length := by
  have : ∀ (ws : List (List Int)) (acc : List (List Int)), (ws.foldl (fun acc w => addK (addK acc w.dropLast) (w.drop 1)) acc).length ≤ acc.length + 2 * ws.length := by
    intro ws
    induction ws with
    | nil => intro acc; simp
    | cons w ws ih =>
      intro acc
      have h0 := ih (addK (addK acc w.dropLast) (w.drop 1))
      have h1 := addK_len acc w.dropLast
      have h2 := addK_len (addK acc w.dropLast) (w.drop 1)
      rw [List.foldl_cons, List.length_cons]
      omega
  have h := this ws []
  rw [List.length_nil, Nat.zero_add] at h
  exact h
theorem leS_ti (a b : List Int) : leS false (tupI a) (tupI b) = decide (a ≤ b) := by
  rw [← leS_li]
  show PySem.W.dataLe false toPy (tupI a) (tupI b) = PySem.W.dataLe false toPy (li a) (li b)
  rw [PySem.W.dataLe_eq]
  have e : ∀ w : List Int, toPy (tupI w) = .tuple (w.map .int) := toPy_ti
  show (!PySem.W.dataLt (toPy (tupI b)) (toPy (tupI a))) = !PySem.W.dataLt (toPy (li b)) (toPy (li a))
  rw [e, e, toPy_li, toPy_li, PySem.W.dataLt_tuple, PySem.W.dataLt_list]
theorem srtD_ti (ws : List (List Int)) : srtD false (ws.map tupI) = (isrt ws).map tupI := by
  unfold srtD
  rw [← ms_isrt]
  exact (List.map_mergeSort fun a _ b _ => (leS_ti a b).symm).symm
theorem canLay_ti (w : List Int) : (toPy (tupI w)).canLay0 = true ∧ (toPy (tupI w)).depth ≤ 60 := by
  have c := OkN.tup (n := 0) (ds := w.map .int) fun d hd => by
    obtain ⟨i, _, rfl⟩ := List.mem_map.mp hd
    exact .int
  exact ⟨c.1, Nat.le_trans c.2 (by decide)⟩
theorem srtOk_ti (ws : List (List Int)) (h : ∀ w ∈ ws, w ≠ []) : srtOk (ws.map tupI) = true := by
  simp only [srtOk, Bool.and_eq_true, Bool.or_eq_true, List.all_eq_true, decide_eq_true_eq]
  refine ⟨fun d hd => ?_, fun d hd e he => ?_, .inl fun d hd => ?_⟩
  · obtain ⟨w, _, rfl⟩ := List.mem_map.mp hd
    exact canLay_ti w
  · obtain ⟨w, _, rfl⟩ := List.mem_map.mp hd
    obtain ⟨v, _, rfl⟩ := List.mem_map.mp he
    rw [show toPy (tupI w) = .tuple (w.map .int) from toPy_ti w, show toPy (tupI v) = .tuple (v.map .int) from toPy_ti v]
    simp only [PySem.W.alike, alike_ints]
  · obtain ⟨w, hw, rfl⟩ := List.mem_map.mp hd
    cases w with
    | nil => exact absurd rfl (h _ hw)
    | cons x r => rfl
theorem keysD_trues (l : List (List Int)) : keysD (trues l) = l.map tupI := by
  unfold keysD trues
  rw [List.map_map]; rfl
/-- words all of one size -/
def Sized (n : Nat) (ws : List (List Int)) : Prop := ∀ w ∈ ws, w.length = n
theorem jk_mem {ws : List (List Int)} {k : List Int} : k ∈ jk ws ↔ ∃ w ∈ ws, k = w.dropLast ∨ k = w.drop 1 := by
  have : ∀ (ws : List (List Int)) (acc : List (List Int)), k ∈ ws.foldl (fun acc w => addK (addK acc w.dropLast) (w.drop 1)) acc ↔ k ∈ acc ∨ ∃ w ∈ ws, k = w.dropLast ∨ k = w.drop 1 := by
    intro ws
    induction ws with
    | nil => intro acc; simp
    | cons w ws ih =>
      intro acc
      rw [List.foldl_cons, ih, mem_addK, mem_addK]
      simp [or_assoc]
  have h := this ws []
  simpa [jk] using h
theorem jk_nodup (ws : List (List Int)) : (jk ws).Nodup := by
  have : ∀ (ws : List (List Int)) (acc : List (List Int)), acc.Nodup → (ws.foldl (fun acc w => addK (addK acc w.dropLast) (w.drop 1)) acc).Nodup := by
    intro ws
    induction ws with
    | nil => intro acc h; exact h
    | cons w ws ih => intro acc h; exact ih _ (addK_nodup (addK_nodup h))
  exact this ws [] List.nodup_nil
theorem jk_size {ws : List (List Int)} {n : Nat} (h : Sized (n + 1) ws) : ∀ k ∈ jk ws, k.length = n := by
  intro k hk
  obtain ⟨w, hw, e⟩ := jk_mem.mp hk
  have := h w hw
  rcases e with rfl | rfl <;> simp [this]
theorem srtKOk_jk {ws : List (List Int)} {n : Nat} (h : Sized (n + 1) ws) : srtKOk ((jk ws).map tupI) = true := by
  simp only [srtKOk, Bool.or_eq_true, decide_eq_true_eq]
  cases n with
  | zero =>
    right
    rw [List.length_map]
    have h1 : ∀ k ∈ jk ws, k ∈ [([] : List Int)] := fun k hk => by
      rw [List.length_eq_zero_iff.mp (jk_size h k hk)]; exact List.mem_singleton.mpr rfl
    exact (nodup_sub (jk ws) [[]] (jk_nodup ws) h1).1
  | succ n =>
    left
    refine srtOk_ti _ fun k hk e => ?_
    have := jk_size h k hk
    rw [e] at this
    cases this
theorem fput_true (s : Ev) (i : Nat) (fk : Ev → Res Rv) (l : List (List Int)) (k : List Int) (kd : Kd) (h1 : gt s i = .ow (.dT (trues l))) (h2 : fk s = .ok ⟨kd, tupI k⟩) (h3 : l.length ≤ 100000) : fDput i fk (fC (.bl true)) s = .nx (st s i (.ow (.dT (trues (addK l k))))) := by
  have h4 : (trues l).length < lim := lim_lt (by simp [trues]; omega)
  have h5 : keyD (tupI k) = some (.t k) := keyD_ti k
  simp only [fDput, h1, fC]
  simp -implicitDefEqProofs only [bndR_ok, h2, putDct, h5, h4, if_true, toV, lft, putK_true]
theorem joints_body (ws : List (List Int)) (w : List Int) (l : List (List Int)) (x0 x2 : Sl) (hw : 0 < w.length) (hl : l.length ≤ 10000) (hwl : w.length ≤ 10000) : b_joints_of_1 [x0, .ow (.dT (trues l)), .sh (li w)] = .nx [x0, .ow (.dT (trues (addK (addK l w.dropLast) (w.drop 1)))), .sh (li w)] := by
  have c1 := cut_last (w := w)
  have c2 := cut_tail hw
  have e1 : fCall tupO (fCons (fSl (fVar 2) fNoP (fP (fNeg (fC (.int 1))))) fun _ => .ok []) [x0, .ow (.dT (trues l)), .sh (li w)] = .ok ⟨.sh, tupI w.dropLast⟩ := by
    simp -implicitDefEqProofs [c1, tupI]
  have a1 := fput_true [x0, .ow (.dT (trues l)), .sh (li w)] 1 _ l w.dropLast .sh rfl e1 (by omega)
  have e2 : fCall tupO (fCons (fSl (fVar 2) (fP (fC (.int 1))) fNoP) fun _ => .ok []) [x0, .ow (.dT (trues (addK l w.dropLast))), .sh (li w)] = .ok ⟨.sh, tupI (w.drop 1)⟩ := by
    simp -implicitDefEqProofs [-List.drop_one, c2, tupI]
  have a2 := fput_true [x0, .ow (.dT (trues (addK l w.dropLast))), .sh (li w)] 1 _ (addK l w.dropLast) (w.drop 1) .sh rfl e2 (by have := addK_len l w.dropLast; omega)
  show bndO (fDput 1 _ _ _) _ = _
  rw [a1]
  exact a2
theorem jk_take {ws : List (List Int)} {j : Nat} {w : List Int} (h : ws[j]? = some w) : jk (ws.take (j + 1)) = addK (addK (jk (ws.take j)) w.dropLast) (w.drop 1) := by
  have hj := (List.getElem?_eq_some_iff.mp h)
  obtain ⟨hl, e⟩ := hj
  rw [List.take_succ, h]
  exact jk_snoc _ _
theorem F_joints_of_eq (ws : List (List Int)) (n : Nat) (h : Sized (n + 1) ws) (hl : ws.length ≤ 1000) (hn : n ≤ 1000) : F_joints_of [.lst (ws.map li)] = .ok ⟨.fr, .lst ((isrt (jk ws)).map tupI)⟩ := by
  obtain ⟨e, l1, x2, l2⟩ := loop_do (g := b_joints_of_1) (i := 2) (fun j e => ∃ x2, e = [.sh (.lst (ws.map li)), .ow (.dT (trues (jk (ws.take j)))), x2]) (ws.map li) [.sh (.lst (ws.map li)), .ow (.dT []), .un] ⟨_, rfl⟩ (by
    rintro j d e hd ⟨x2, rfl⟩
    rw [List.getElem?_map, Option.map_eq_some_iff] at hd
    obtain ⟨w, hw, rfl⟩ := hd
    have hs := h w (List.mem_of_getElem? hw)
    have hjl := jk_len (ws.take j)
    have b := joints_body ws w (jk (ws.take j)) (.sh (.lst (ws.map li))) x2 (by omega) (by simp at hjl; omega) (by omega)
    rw [← jk_take hw] at b
    exact ⟨_, .inl b, _, rfl⟩)
  rw [List.length_map, List.take_length] at l2
  subst l2
  have k1 : srtKOk (keysD (trues (jk ws))) = true := by rw [keysD_trues]; exact srtKOk_jk h
  have k2 : (trues (jk ws)).length ≤ lim := lim_le (by have := jk_len ws; simp [trues]; omega)
  have k3 : srtD false (keysD (trues (jk ws))) = (isrt (jk ws)).map tupI := by rw [keysD_trues]; exact srtD_ti _
  generalize (isrt (jk ws)).map tupI = RR at *
  generalize trues (jk ws) = TT at *
  generalize ws.map li = WL at *
  simp -implicitDefEqProofs [F_joints_of, g_joints_of, l1, k1, k2, k3]
/-- how many more words begin with a joint than end -/
def bal (ws : List (List Int)) (k : List Int) : Int := (ws.map fun w => (if w.dropLast = k then (1 : Int) else 0) - (if w.drop 1 = k then 1 else 0)).sum
theorem valV_putK (kvs : List (List Int × V)) (k k' : List Int) (v : V) : valV (putK kvs k v) k' = if k = k' then some v else valV kvs k' := by
  unfold putK valV
  by_cases h : (kvs.any fun kv => decide (kv.1 = k)) = true
  · rw [if_pos h]
    rw [List.find?_map]
    have e : ((fun kv : List Int × V => decide (kv.1 = k')) ∘ fun kv => if kv.1 = k then (kv.1, v) else kv) = fun kv => decide (kv.1 = k') := by
      funext kv
      show decide ((if kv.1 = k then (kv.1, v) else kv).1 = k') = _
      split <;> rfl
    rw [e]
    by_cases q : k = k'
    · subst q
      rw [if_pos rfl]
      have : ((kvs.find? fun kv => decide (kv.1 = k))).isSome = true := by
        rw [List.find?_isSome]
        rw [List.any_eq_true] at h
        exact h
      obtain ⟨x, hx⟩ := Option.isSome_iff_exists.mp this
      have hx1 := List.find?_some hx
      rw [hx]
      simp at hx1
      simp [hx1]
    · rw [if_neg q]
      cases hx : kvs.find? fun kv => decide (kv.1 = k') with
      | none => rfl
      | some x =>
        have hx1 := List.find?_some hx
        simp at hx1
        have : ¬ x.1 = k := fun z => q (z.symm.trans hx1)
        simp [this]
  · rw [if_neg h]
    rw [List.find?_append]
    by_cases q : k = k'
    · subst q
      rw [if_pos rfl]
      have : (kvs.find? fun kv => decide (kv.1 = k)) = none := by
        rw [List.find?_eq_none]
        intro x hx z
        exact h (List.any_eq_true.mpr ⟨x, hx, z⟩)
      rw [this]
      simp
    · rw [if_neg q]
      have : ([(k, v)] : List (List Int × V)).find? (fun kv => decide (kv.1 = k')) = none := by simp [q]
      rw [this, Option.or_none]
theorem putK_length (kvs : List (List Int × V)) (k : List Int) (v : V) : (putK kvs k v).length ≤ kvs.length + 1 := by
  unfold putK; split <;> simp
end My
namespace My
open PySem PySem.Spec L2 DL
theorem bal_snoc (ws : List (List Int)) (w k : List Int) : bal (ws ++ [w]) k = bal ws k + ((if w.dropLast = k then (1 : Int) else 0) - (if w.drop 1 = k then 1 else 0)) := by
  unfold bal; simp
theorem bal_take {ws : List (List Int)} {j : Nat} {w : List Int} (h : ws[j]? = some w) (k : List Int) : bal (ws.take (j + 1)) k = bal (ws.take j) k + ((if w.dropLast = k then (1 : Int) else 0) - (if w.drop 1 = k then 1 else 0)) := by
  rw [List.take_succ, h]
  exact bal_snoc _ _ _
theorem fput_add (s : Ev) (fk : Ev → Res Rv) (kvs : List (List Int × V)) (k : List Int) (c : Int) (h1 : gt s 1 = .ow (.dT kvs)) (h2 : fk s = .ok ⟨.sh, tupI k⟩) (h3 : kvs.length ≤ 100000) (hc : (valV kvs k).getD (.int 0) = .int c) : fDput 1 fk (fOp addO (fGet2 (fVar 1) fk (fC (.int 0))) (fC (.int 1))) s = .nx (st s 1 (.ow (.dT (putK kvs k (.int (c + 1)))))) := by
  have h4 : kvs.length < lim := lim_lt (by omega)
  have h5 : keyD (tupI k) = some (.t k) := keyD_ti k
  have e : (fGet2 (fVar 1) fk (fC (.int 0))) s = .ok ⟨.sh, .int c⟩ := by
    simp -implicitDefEqProofs only [fGet2, fVar, h1, bnd, h2, fC, lookD, h5, toV, hc, ofV]
  simp only [fDput, h1, fOp, e, fC]
  simp -implicitDefEqProofs [h2, putDct, h5, h4, toV]
theorem fput_sub (s : Ev) (fk : Ev → Res Rv) (kvs : List (List Int × V)) (k : List Int) (c : Int) (h1 : gt s 1 = .ow (.dT kvs)) (h2 : fk s = .ok ⟨.sh, tupI k⟩) (h3 : kvs.length ≤ 100000) (hc : (valV kvs k).getD (.int 0) = .int c) : fDput 1 fk (fOp subO (fGet2 (fVar 1) fk (fC (.int 0))) (fC (.int 1))) s = .nx (st s 1 (.ow (.dT (putK kvs k (.int (c - 1)))))) := by
  have h4 : kvs.length < lim := lim_lt (by omega)
  have h5 : keyD (tupI k) = some (.t k) := keyD_ti k
  have e : (fGet2 (fVar 1) fk (fC (.int 0))) s = .ok ⟨.sh, .int c⟩ := by
    simp -implicitDefEqProofs only [fGet2, fVar, h1, bnd, h2, fC, lookD, h5, toV, hc, ofV]
  simp only [fDput, h1, fOp, e, fC]
  simp -implicitDefEqProofs [h2, putDct, h5, h4, toV]
theorem uneven_body (w : List Int) (kvs : List (List Int × V)) (x0 x2 x3 : Sl) (c1 c2 : Int) (hw : 0 < w.length) (hl : kvs.length ≤ 10000) (h1 : (valV kvs w.dropLast).getD (.int 0) = .int c1) (h2 : (valV (putK kvs w.dropLast (.int (c1 + 1))) (w.drop 1)).getD (.int 0) = .int c2) :
    b_uneven_at_2 [x0, .ow (.dT kvs), .sh (li w), x3] = .nx [x0, .ow (.dT (putK (putK kvs w.dropLast (.int (c1 + 1))) (w.drop 1) (.int (c2 - 1)))), .sh (li w), x3] := by
  have k1 := cut_last (w := w)
  have k2 := cut_tail hw
  have e1 : fCall tupO (fCons (fSl (fVar 2) fNoP (fP (fNeg (fC (.int 1))))) fun _ => .ok []) [x0, .ow (.dT kvs), .sh (li w), x3] = .ok ⟨.sh, tupI w.dropLast⟩ := by
    simp -implicitDefEqProofs [k1, tupI]
  have a1 := fput_add [x0, .ow (.dT kvs), .sh (li w), x3] _ kvs w.dropLast c1 rfl e1 (by omega) h1
  have e2 : fCall tupO (fCons (fSl (fVar 2) (fP (fC (.int 1))) fNoP) fun _ => .ok []) [x0, .ow (.dT (putK kvs w.dropLast (.int (c1 + 1)))), .sh (li w), x3] = .ok ⟨.sh, tupI (w.drop 1)⟩ := by
    simp -implicitDefEqProofs [-List.drop_one, k2, tupI]
  have a2 := fput_sub [x0, .ow (.dT (putK kvs w.dropLast (.int (c1 + 1)))), .sh (li w), x3] _ _ (w.drop 1) c2 rfl e2 (by have := putK_length kvs w.dropLast (.int (c1 + 1)); omega) h2
  show bndO (fDput 1 _ _ _) _ = _
  rw [a1]
  exact a2
theorem uneven_last (x0 x2 : Sl) (kvs : List (List Int × V)) (b : List Int → Int) : ∀ (l : List (List Int)) (x3 : Sl), (∀ k ∈ l, valV kvs k = some (.int (b k))) →
    ∃ y, loopF b_uneven_at_1 3 (l.map tupI) [x0, .ow (.dT kvs), x2, x3] = match l.find? (fun k => decide (b k ≠ 0)) with
      | some k => .rt ⟨.sh, tupI k⟩
      | none => .nx [x0, .ow (.dT kvs), x2, y]
  | [], x3, _ => ⟨x3, rfl⟩
  | k :: l, x3, h => by
    have h0 := h k List.mem_cons_self
    have h5 : keyD (tupI k) = some (.t k) := keyD_ti k
    have e : dgetO ⟨.ow, .dT kvs⟩ ⟨.sh, tupI k⟩ = some ⟨.sh, .int (b k)⟩ := by
      simp -implicitDefEqProofs [dgetO, lookD, h5, h0, ofV]
    by_cases q : b k = 0
    · obtain ⟨y, ih⟩ := uneven_last x0 x2 kvs b l (.sh (tupI k)) (fun k' hk => h k' (List.mem_cons_of_mem _ hk))
      refine ⟨y, ?_⟩
      have g : b_uneven_at_1 [x0, .ow (.dT kvs), x2, .sh (tupI k)] = .nx [x0, .ow (.dT kvs), x2, .sh (tupI k)] := by
        simp -implicitDefEqProofs [b_uneven_at_1, e, q]
      rw [List.map_cons, List.find?_cons_of_neg (by simpa using q), ← ih]
      exact loopF_nx g
    · refine ⟨.un, ?_⟩
      have g : b_uneven_at_1 [x0, .ow (.dT kvs), x2, .sh (tupI k)] = .rt ⟨.sh, tupI k⟩ := by
        simp -implicitDefEqProofs [b_uneven_at_1, e, q]
      rw [List.map_cons, List.find?_cons_of_pos (by simpa using q)]
      show loopF b_uneven_at_1 3 (tupI k :: l.map tupI) _ = _
      have g' : b_uneven_at_1 (st [x0, .ow (.dT kvs), x2, x3] 3 (.sh (tupI k))) = .rt ⟨.sh, tupI k⟩ := g
      simp only [loopF, g']
def optT : Option (List Int) → Rv
  | some k => ⟨.sh, tupI k⟩
  | none => ⟨.sh, .non⟩
def uneven (ws : List (List Int)) : Option (List Int) := (isrt (jk ws)).find? fun k => decide (bal ws k ≠ 0)
theorem F_uneven_at_eq (ws : List (List Int)) (n : Nat) (h : Sized (n + 1) ws) (hl : ws.length ≤ 1000) (hn : n ≤ 1000) : F_uneven_at [.lst (ws.map li)] = .ok (optT (uneven ws)) := by
  have fj := F_joints_of_eq ws n h hl hn
  obtain ⟨e, l1, kvs, x2, l2, lA, lB, _⟩ := loop_do (g := b_uneven_at_2) (i := 2) (fun j e => ∃ kvs x2, e = [.sh (.lst (ws.map li)), .ow (.dT kvs), x2, .un] ∧ (∀ k, (valV kvs k).getD (.int 0) = .int (bal (ws.take j) k)) ∧ (∀ k ∈ jk (ws.take j), (valV kvs k).isSome = true) ∧ kvs.length ≤ 2 * j) (ws.map li) [.sh (.lst (ws.map li)), .ow (.dT []), .un, .un] ⟨[], .un, rfl, fun k => rfl, fun k hk => (by cases hk), by simp⟩ (by
    rintro j d e hd ⟨kvs, x2, rfl, hA, hB, hC⟩
    rw [List.getElem?_map, Option.map_eq_some_iff] at hd
    obtain ⟨w, hw, rfl⟩ := hd
    have hs := h w (List.mem_of_getElem? hw)
    have hj : j < ws.length := (List.getElem?_eq_some_iff.mp hw).1
    have h2 : (valV (putK kvs w.dropLast (.int (bal (ws.take j) w.dropLast + 1))) (w.drop 1)).getD (.int 0) = .int (bal (ws.take j) (w.drop 1) + if w.dropLast = w.drop 1 then 1 else 0) := by
      rw [valV_putK]
      by_cases q : w.dropLast = w.drop 1
      · rw [if_pos q, if_pos q, q]; rfl
      · rw [if_neg q, if_neg q, hA]; simp
    have b := uneven_body w kvs (.sh (.lst (ws.map li))) x2 .un _ _ (by omega) (by omega) (hA w.dropLast) h2
    refine ⟨_, .inl b, _, _, rfl, fun k => ?_, fun k hk => ?_, ?_⟩
    · rw [valV_putK, bal_take hw]
      by_cases q1 : w.drop 1 = k
      · subst q1
        rw [if_pos rfl, if_pos rfl]
        show V.int _ = _
        congr 1
        omega
      · rw [if_neg q1, if_neg q1, valV_putK]
        by_cases q2 : w.dropLast = k
        · subst q2
          rw [if_pos rfl, if_pos rfl]
          show V.int _ = _
          congr 1
        · rw [if_neg q2, if_neg q2, hA]; simp
    · rw [jk_take hw, mem_addK, mem_addK] at hk
      rw [valV_putK]
      by_cases q1 : w.drop 1 = k
      · rw [if_pos q1]; rfl
      · rw [if_neg q1, valV_putK]
        by_cases q2 : w.dropLast = k
        · rw [if_pos q2]; rfl
        · rw [if_neg q2]
          exact hB k (by rcases hk with (hk | hk) | hk
                         · exact hk
                         · exact absurd hk.symm q2
                         · exact absurd hk.symm q1)
    · have a1 := putK_length kvs w.dropLast (.int (bal (ws.take j) w.dropLast + 1))
      have a2 := putK_length (putK kvs w.dropLast (.int (bal (ws.take j) w.dropLast + 1))) (w.drop 1) (.int (bal (ws.take j) (w.drop 1) + (if w.dropLast = w.drop 1 then 1 else 0) - 1))
      omega)
  rw [List.length_map, List.take_length] at lA lB
  subst l2
  obtain ⟨y, l3⟩ := uneven_last (.sh (.lst (ws.map li))) x2 kvs (bal ws) (isrt (jk ws)) .un (fun k hk => by
    have hk := (isrt_perm _).mem_iff.mp hk
    obtain ⟨v, hv⟩ := Option.isSome_iff_exists.mp (lB k hk)
    have := lA k
    rw [hv] at this ⊢
    exact congrArg some this)
  unfold uneven
  cases ef : (isrt (jk ws)).find? fun k => decide (bal ws k ≠ 0) with
  | none =>
    rw [ef] at l3
    generalize (isrt (jk ws)).map tupI = JJ at *
    generalize ws.map li = WL at *
    simp -implicitDefEqProofs [F_uneven_at, g_uneven_at, l1, fj, l3, optT]
  | some k =>
    rw [ef] at l3
    show _ = Res.ok (⟨.sh, tupI k⟩ : Rv)
    generalize (isrt (jk ws)).map tupI = JJ at *
    generalize ws.map li = WL at *
    simp -implicitDefEqProofs [F_uneven_at, g_uneven_at, l1, fj, l3]
/-! come_to -/
def cstep (ws : List (List Int)) (at_ : List Int) (f : List (List Int)) : List (List Int) := ws.foldl (fun g w => if w.dropLast = at_ ∧ w.drop 1 ∉ g then g ++ [w.drop 1] else g) f
theorem eqD_ti (a b : List Int) : eqD (tupI a) (tupI b) = decide (a = b) := by
  unfold tupI
  rw [eqD_tup, eqL_ints]
theorem okEq_ti (a : List Int) : okEq (tupI a) = true := (OkN.tup (n := 0) fun d hd => by
  obtain ⟨i, _, rfl⟩ := List.mem_map.mp hd
  exact .int).okEq
theorem come_body (w : List Int) (f : List (List Int)) (at_ : Nat) (a : List Int) (x0 x1 x6 : Sl) (hw : 0 < w.length) (hl : f.length ≤ 10000) (ha : f[at_]? = some a) :
    ∃ y, b_come_to_1 [x0, x1, .ow (.lst (f.map tupI)), .ow (.dT (trues f)), .sh (.int at_), .sh (li w), x6] = .nx [x0, x1, .ow (.lst ((if w.dropLast = a ∧ w.drop 1 ∉ f then f ++ [w.drop 1] else f).map tupI)), .ow (.dT (trues (if w.dropLast = a ∧ w.drop 1 ∉ f then f ++ [w.drop 1] else f))), .sh (.int at_), .sh (li w), y] := by
  have k1 := cut_last (w := w)
  have k2 := cut_tail hw
  refine ⟨.sh (tupI (w.drop 1)), ?_⟩
  have al : at_ < f.length := (List.getElem?_eq_some_iff.mp ha).1
  have a1 : atI (f.map tupI) (at_ : Int) = some (tupI a) := atI_nat (by rw [List.getElem?_map, ha]; rfl)
  have h5 : keyD (tupI (w.drop 1)) = some (.t (w.drop 1)) := keyD_ti _
  have d1 : notinDO ⟨.sh, tupI (w.drop 1)⟩ ⟨.ow, .dT (trues f)⟩ = some ⟨.sh, .bl (decide (w.drop 1 ∉ f))⟩ := by
    simp -implicitDefEqProofs only [notinDO, lookD, h5, Option.map_some, valV_true]
    by_cases q : w.drop 1 ∈ f
    · rw [if_pos q]; simp [-List.drop_one, q]
    · rw [if_neg q]; simp [-List.drop_one, q]
  have p1 : putDct (.dT (trues f)) (tupI (w.drop 1)) (.bl true) = some (.dT (trues (addK f (w.drop 1)))) := by
    have h4 : (trues f).length < lim := lim_lt (by simp [trues]; omega)
    simp -implicitDefEqProofs only [putDct, h5, h4, if_true, putK_true]
  have hfl : (f.map tupI).length < lim := lim_lt (by simp; omega)
  have o1 := okEq_ti w.dropLast
  have o2 := okEq_ti a
  have e1 := eqD_ti w.dropLast a
  have t1 : D.tup (w.dropLast.map .int) = tupI w.dropLast := rfl
  have t2 : D.tup ((w.drop 1).map .int) = tupI (w.drop 1) := rfl
  generalize w.drop 1 = t at *
  generalize w.dropLast = u at *
  by_cases q1 : u = a
  · by_cases q2 : t ∈ f
    · have : ¬ (u = a ∧ t ∉ f) := fun z => z.2 q2
      rw [if_neg this]
      rw [decide_eq_true q1] at e1
      have q3 : decide (t ∉ f) = false := by simp [q2]
      rw [q3] at d1
      generalize tupI t = tt at *
      generalize f.map tupI = FF at *
      generalize trues f = TF at *
      simp -implicitDefEqProofs [-List.drop_one, b_come_to_1, k1, k2, t1, t2, a1, o1, o2, e1, d1]
    · have : u = a ∧ t ∉ f := ⟨q1, q2⟩
      rw [if_pos this]
      rw [decide_eq_true q1] at e1
      have q3 : decide (t ∉ f) = true := by simp [q2]
      rw [q3] at d1
      have q4 : addK f t = f ++ [t] := by unfold addK; rw [if_neg q2]
      rw [q4] at p1
      rw [List.map_append]
      simp only [List.map_cons, List.map_nil]
      generalize tupI t = tt at *
      generalize f.map tupI = FF at *
      generalize trues f = TF at *
      generalize trues (f ++ [t]) = TG at *
      simp -implicitDefEqProofs [-List.drop_one, b_come_to_1, k1, k2, t1, t2, a1, o1, o2, e1, d1, p1, hfl, toV]
  · have : ¬ (u = a ∧ t ∉ f) := fun z => q1 z.1
    rw [if_neg this]
    rw [decide_eq_false q1] at e1
    generalize tupI t = tt at *
    generalize f.map tupI = FF at *
    generalize trues f = TF at *
    simp -implicitDefEqProofs [-List.drop_one, b_come_to_1, k1, k2, t1, t2, a1, o1, o2, e1]
end My
namespace My
open PySem PySem.Spec L2 DL
theorem cstep_snoc (ws : List (List Int)) (w a : List Int) (f : List (List Int)) : cstep (ws ++ [w]) a f = (if w.dropLast = a ∧ w.drop 1 ∉ cstep ws a f then cstep ws a f ++ [w.drop 1] else cstep ws a f) := by
  unfold cstep; rw [List.foldl_append]; rfl
theorem cstep_take {ws : List (List Int)} {j : Nat} {w : List Int} (h : ws[j]? = some w) (a : List Int) (f : List (List Int)) : cstep (ws.take (j + 1)) a f = (if w.dropLast = a ∧ w.drop 1 ∉ cstep (ws.take j) a f then cstep (ws.take j) a f ++ [w.drop 1] else cstep (ws.take j) a f) := by
  rw [List.take_succ, h]
  exact cstep_snoc _ _ _ _
theorem cstep_spec (ws : List (List Int)) (a : List Int) : ∀ f : List (List Int), ∃ g, cstep ws a f = f ++ g ∧ (f.Nodup → (f ++ g).Nodup) ∧ (∀ x ∈ g, ∃ w ∈ ws, w.dropLast = a ∧ w.drop 1 = x) ∧ ∀ w ∈ ws, w.dropLast = a → w.drop 1 ∈ f ++ g := by
  induction ws with
  | nil => intro f; exact ⟨[], by simp [cstep], by simp, by simp, by simp⟩
  | cons w ws ih =>
    intro f
    have e : cstep (w :: ws) a f = cstep ws a (if w.dropLast = a ∧ w.drop 1 ∉ f then f ++ [w.drop 1] else f) := rfl
    by_cases q : w.dropLast = a ∧ w.drop 1 ∉ f
    · rw [e, if_pos q]
      obtain ⟨g, h1, h2, h3, h4⟩ := ih (f ++ [w.drop 1])
      refine ⟨w.drop 1 :: g, by rw [h1]; simp, fun n => ?_, fun x hx => ?_, fun v hv ha => ?_⟩
      · have := h2 (List.nodup_append.mpr ⟨n, by simp, fun x hx y hy => by rw [List.mem_singleton.mp hy]; rintro rfl; exact q.2 hx⟩)
        simpa using this
      · rcases List.mem_cons.mp hx with rfl | hx
        · exact ⟨w, List.mem_cons_self, q.1, rfl⟩
        · obtain ⟨v, hv, r⟩ := h3 x hx
          exact ⟨v, List.mem_cons_of_mem _ hv, r⟩
      · rcases List.mem_cons.mp hv with rfl | hv
        · simp
        · have := h4 v hv ha
          simpa using this
    · rw [e, if_neg q]
      obtain ⟨g, h1, h2, h3, h4⟩ := ih f
      refine ⟨g, h1, h2, fun x hx => ?_, fun v hv ha => ?_⟩
      · obtain ⟨v, hv, r⟩ := h3 x hx
        exact ⟨v, List.mem_cons_of_mem _ hv, r⟩
      · rcases List.mem_cons.mp hv with rfl | hv
        · have : v.drop 1 ∈ f := Classical.byContradiction fun z => q ⟨ha, z⟩
          exact List.mem_append_left _ this
        · exact h4 v hv ha
def cgo (ws : List (List Int)) : Nat → Nat → List (List Int) → List (List Int)
  | 0, _, f => f
  | c + 1, p, f => if p < f.length then cgo ws c (p + 1) (cstep ws (f.getD p []) f) else f
def come (ws : List (List Int)) (s : List Int) : List (List Int) := cgo ws (2 * ws.length + 3) 0 [s]
theorem come_in (ws : List (List Int)) (n : Nat) (h : Sized (n + 1) ws) (hl : ws.length ≤ 1000) (f : List (List Int)) (p : Nat) (a : List Int) (hp : f[p]? = some a) (hf : f.length ≤ 5000) (x1 x5 x6 : Sl) :
    ∃ y5 y6, b_come_to_2 [.sh (.lst (ws.map li)), x1, .ow (.lst (f.map tupI)), .ow (.dT (trues f)), .sh (.int p), x5, x6] = .nx [.sh (.lst (ws.map li)), x1, .ow (.lst ((cstep ws a f).map tupI)), .ow (.dT (trues (cstep ws a f))), .sh (.int (p + 1 : Nat)), y5, y6] := by
  have pre : ∀ vs : List (List Int), (cstep vs a f)[p]? = some a ∧ (cstep vs a f).length ≤ f.length + vs.length := by
    intro vs
    obtain ⟨g, h1, _, _, _⟩ := cstep_spec vs a f
    refine ⟨?_, ?_⟩
    · rw [h1, List.getElem?_append_left (List.getElem?_eq_some_iff.mp hp).1]; exact hp
    · have : ∀ (vs : List (List Int)) (f : List (List Int)), (cstep vs a f).length ≤ f.length + vs.length := by
        intro vs
        induction vs with
        | nil => intro f; simp [cstep]
        | cons w vs ih =>
          intro f
          have e : cstep (w :: vs) a f = cstep vs a (if w.dropLast = a ∧ w.drop 1 ∉ f then f ++ [w.drop 1] else f) := rfl
          rw [e]
          have := ih (if w.dropLast = a ∧ w.drop 1 ∉ f then f ++ [w.drop 1] else f)
          split at this
          · rename_i q; rw [if_pos q]; simp at this ⊢; omega
          · rename_i q; rw [if_neg q]; simp at this ⊢; omega
      exact this vs f
  obtain ⟨e, l1, y5, y6, rfl⟩ := loop_do (g := b_come_to_1) (i := 5) (fun j e => ∃ y5 y6, e = [.sh (.lst (ws.map li)), x1, .ow (.lst ((cstep (ws.take j) a f).map tupI)), .ow (.dT (trues (cstep (ws.take j) a f))), .sh (.int p), y5, y6]) (ws.map li) [.sh (.lst (ws.map li)), x1, .ow (.lst (f.map tupI)), .ow (.dT (trues f)), .sh (.int p), x5, x6] ⟨_, _, rfl⟩ (by
    rintro j d e hd ⟨y5, y6, rfl⟩
    rw [List.getElem?_map, Option.map_eq_some_iff] at hd
    obtain ⟨w, hw, rfl⟩ := hd
    have hs := h w (List.mem_of_getElem? hw)
    obtain ⟨p1, p2⟩ := pre (ws.take j)
    obtain ⟨y, b⟩ := come_body w (cstep (ws.take j) a f) p a (.sh (.lst (ws.map li))) x1 y6 (by omega) (by simp at p2; omega) p1
    rw [← cstep_take hw] at b
    exact ⟨_, .inl b, _, _, rfl⟩)
  refine ⟨y5, y6, ?_⟩
  rw [List.length_map, List.take_length] at l1
  have e1 : ((p + 1 : Nat) : Int) = (p : Int) + 1 := by omega
  rw [e1]
  generalize (cstep ws a f).map tupI = G at *
  generalize trues (cstep ws a f) = TG at *
  generalize f.map tupI = FF at *
  generalize trues f = TF at *
  generalize ws.map li = WL at *
  simp -implicitDefEqProofs [b_come_to_2, l1]
theorem cgo_inv (ws : List (List Int)) (s : List Int) : ∀ (c p : Nat) (f : List (List Int)), f.Nodup → (∀ x ∈ f, x ∈ s :: jk ws) → (cgo ws c p f).Nodup ∧ (∀ x ∈ cgo ws c p f, x ∈ s :: jk ws)
  | 0, p, f, h1, h2 => ⟨h1, h2⟩
  | c + 1, p, f, h1, h2 => by
    simp only [cgo]
    split
    · obtain ⟨g, e, n, m, _⟩ := cstep_spec ws (f.getD p []) f
      rw [e]
      refine cgo_inv ws s c (p + 1) (f ++ g) (n h1) fun x hx => ?_
      rcases List.mem_append.mp hx with hx | hx
      · exact h2 x hx
      · obtain ⟨w, hw, _, rfl⟩ := m x hx
        exact List.mem_cons_of_mem _ (jk_mem.mpr ⟨w, hw, .inr rfl⟩)
    · exact ⟨h1, h2⟩
theorem small {ws : List (List Int)} {s : List Int} {f : List (List Int)} (h1 : f.Nodup) (h2 : ∀ x ∈ f, x ∈ s :: jk ws) : f.length ≤ 2 * ws.length + 1 := by
  have := (nodup_sub f (s :: jk ws) h1 h2).1
  have := jk_len ws
  simp at *
  omega
theorem come_wh (ws : List (List Int)) (n : Nat) (h : Sized (n + 1) ws) (hl : ws.length ≤ 1000) (s : List Int) (x1 : Sl) : ∀ (k p c fuel : Nat) (f : List (List Int)) (x5 x6 : Sl), f.Nodup → (∀ x ∈ f, x ∈ s :: jk ws) → 2 * ws.length + 1 ≤ p + k → k < c → k < fuel →
    ∃ y4 y5 y6, whF w_come_to_1 b_come_to_2 fuel [.sh (.lst (ws.map li)), x1, .ow (.lst (f.map tupI)), .ow (.dT (trues f)), .sh (.int p), x5, x6] = .nx [.sh (.lst (ws.map li)), x1, .ow (.lst ((cgo ws c p f).map tupI)), .ow (.dT (trues (cgo ws c p f))), y4, y5, y6] := by
  intro k
  induction k with
  | zero =>
    intro p c fuel f x5 x6 h1 h2 hk hc hf
    have hs := small h1 h2
    obtain ⟨c, rfl⟩ : ∃ c', c = c' + 1 := ⟨c - 1, by omega⟩
    obtain ⟨fuel, rfl⟩ : ∃ c', fuel = c' + 1 := ⟨fuel - 1, by omega⟩
    have q : ¬ p < f.length := by omega
    simp only [cgo]
    rw [if_neg q]
    have hfl : (f.map tupI).length = f.length := by simp
    have q2 : ¬ ((p : Int) < ((f.map tupI).length : Int)) := by rw [hfl]; omega
    refine ⟨.sh (.int p), x5, x6, ?_⟩
    generalize f.map tupI = FF at *
    generalize trues f = TF at *
    generalize ws.map li = WL at *
    have t : w_come_to_1 [.sh (.lst WL), x1, .ow (.lst FF), .ow (.dT TF), .sh (.int p), x5, x6] = .ok false := by
      simp -implicitDefEqProofs [w_come_to_1]
      omega
    simp -implicitDefEqProofs [whF, t]
  | succ k ih =>
    intro p c fuel f x5 x6 h1 h2 hk hc hf
    have hs := small h1 h2
    obtain ⟨c, rfl⟩ : ∃ c', c = c' + 1 := ⟨c - 1, by omega⟩
    obtain ⟨fuel, rfl⟩ : ∃ c', fuel = c' + 1 := ⟨fuel - 1, by omega⟩
    have hfl : (f.map tupI).length = f.length := by simp
    simp only [cgo]
    by_cases q : p < f.length
    · rw [if_pos q]
      have ha : f[p]? = some (f.getD p []) := by simp [List.getD, q]
      obtain ⟨y5, y6, b⟩ := come_in ws n h hl f p _ ha (by omega) x1 x5 x6
      obtain ⟨g, e, nn, m, _⟩ := cstep_spec ws (f.getD p []) f
      rw [e] at b ⊢
      obtain ⟨z4, z5, z6, r⟩ := ih (p + 1) c fuel (f ++ g) y5 y6 (nn h1) (fun x hx => by
        rcases List.mem_append.mp hx with hx | hx
        · exact h2 x hx
        · obtain ⟨w, hw, _, rfl⟩ := m x hx
          exact List.mem_cons_of_mem _ (jk_mem.mpr ⟨w, hw, .inr rfl⟩)) (by omega) (by omega) (by omega)
      refine ⟨z4, z5, z6, ?_⟩
      have q2 : (p : Int) < ((f.map tupI).length : Int) := by rw [hfl]; omega
      have t : w_come_to_1 [.sh (.lst (ws.map li)), x1, .ow (.lst (f.map tupI)), .ow (.dT (trues f)), .sh (.int p), x5, x6] = .ok true := by
        generalize f.map tupI = FF at *
        generalize trues f = TF at *
        generalize ws.map li = WL at *
        simp -implicitDefEqProofs [w_come_to_1]
        omega
      simp only [whF, t, bndR_ok, if_true, b]
      exact r
    · rw [if_neg q]
      have q2 : ¬ ((p : Int) < ((f.map tupI).length : Int)) := by rw [hfl]; omega
      refine ⟨.sh (.int p), x5, x6, ?_⟩
      generalize f.map tupI = FF at *
      generalize trues f = TF at *
      generalize ws.map li = WL at *
      have t : w_come_to_1 [.sh (.lst WL), x1, .ow (.lst FF), .ow (.dT TF), .sh (.int p), x5, x6] = .ok false := by
        simp -implicitDefEqProofs [w_come_to_1]
        omega
      simp -implicitDefEqProofs [whF, t]
theorem F_come_to_eq (ws : List (List Int)) (n : Nat) (h : Sized (n + 1) ws) (hl : ws.length ≤ 1000) (s : List Int) : F_come_to [.lst (ws.map li), tupI s] = .ok ⟨.fr, .lst ((come ws s).map tupI)⟩ := by
  obtain ⟨y4, y5, y6, r⟩ := come_wh ws n h hl s (.sh (tupI s)) (2 * ws.length + 1) 0 (2 * ws.length + 3) many [s] .un .un (by simp) (by simp) (by omega) (by omega) (by unfold many; omega)
  have r' : whF w_come_to_1 b_come_to_2 many [.sh (.lst (ws.map li)), .sh (tupI s), .ow (.lst [tupI s]), .ow (.dT [(s, .bl true)]), .sh (.int 0), .un, .un] = .nx [.sh (.lst (ws.map li)), .sh (tupI s), .ow (.lst ((come ws s).map tupI)), .ow (.dT (trues (come ws s))), y4, y5, y6] := r
  clear r
  have d1 : dispO ⟨.sh, tupI s⟩ ⟨.sh, .bl true⟩ = some ⟨.fr, .dT [(s, .bl true)]⟩ := by
    have : intsOf (s.map D.int) = some s := by
      have := keyD_ti s
      simpa [keyD] using this
    simp -implicitDefEqProofs [dispO, tupI, this, toV]
  have l1 : 1 ≤ lim := by decide
  generalize (come ws s).map tupI = G at *
  generalize trues (come ws s) = TG at *
  generalize tupI s = ss at *
  generalize ws.map li = WL at *
  simp -implicitDefEqProofs [-dispO, F_come_to, g_come_to, fWhile, l1, d1, r']
end My
namespace My
open PySem PySem.Spec L2 DL
theorem ltD_lis (a b : List Int) : ltD (li a) (li b) = decide (a < b) := by
  have h := leS_li b a
  have h2 : leS false (li b) (li a) = !PySem.W.dataLt (toPy (li a)) (toPy (li b)) := by
    show PySem.W.dataLe false toPy (li b) (li a) = _
    rw [PySem.W.dataLe_eq]; rfl
  have h3 : ltD (li a) (li b) = !decide (b ≤ a) := by
    rw [← h, h2, Bool.not_not]; rfl
  rw [h3]
  by_cases q : a < b
  · simp [q, List.not_le.mpr q]
  · simp [q, List.not_lt.mp q]
def minW (w : List Int) (ws : List (List Int)) : List Int := ws.foldl (fun a y => if y < a then y else a) w
theorem minL1_li (w : List Int) (ws : List (List Int)) : minL1 (li w) (ws.map li) = li (minW w ws) := by
  unfold minL1 minW
  induction ws generalizing w with
  | nil => rfl
  | cons y ws ih =>
    rw [List.map_cons, List.foldl_cons, List.foldl_cons, ltD_lis]
    by_cases q : y < w
    · simp only [q, decide_true, if_true]; exact ih y
    · simp only [q, decide_false, if_false, Bool.false_eq_true]; exact ih w
theorem minOk_li (ws : List (List Int)) : minOk (ws.map li) = true := by
  simp only [minOk, Bool.and_eq_true, List.all_eq_true, decide_eq_true_eq]
  refine ⟨fun d hd => ?_, fun d hd e he => ?_, fun d hd => ?_⟩
  · obtain ⟨w, _, rfl⟩ := List.mem_map.mp hd
    exact canLay_ints w
  · obtain ⟨w, _, rfl⟩ := List.mem_map.mp hd
    obtain ⟨v, _, rfl⟩ := List.mem_map.mp he
    rw [toPy_li, toPy_li]
    simp only [PySem.W.alike, alike_ints]
  · obtain ⟨w, _, rfl⟩ := List.mem_map.mp hd
    rfl
theorem minG_li (w : List Int) (ws : List (List Int)) : minG ((w :: ws).map li) = some ⟨.sh, li (minW w ws)⟩ := by
  have h := minOk_li (w :: ws)
  rw [List.map_cons] at h ⊢
  simp only [minG, h, if_true, minL1_li]
def minB : List (List Int) → List Int
  | [] => []
  | w :: ws => minW w ws
theorem minB_mem : ∀ {ws : List (List Int)}, ws ≠ [] → minB ws ∈ ws ∧ ∀ w ∈ ws, minB ws ≤ w
  | [], h => absurd rfl h
  | w :: ws, _ => by
    have : ∀ (ws : List (List Int)) (w : List Int), minW w ws ∈ w :: ws ∧ ∀ v ∈ w :: ws, minW w ws ≤ v := by
      intro ws
      induction ws with
      | nil => intro w; exact ⟨List.mem_cons_self, fun v hv => by rw [List.mem_singleton.mp hv]; exact List.le_refl _⟩
      | cons y ws ih =>
        intro w
        have e : minW w (y :: ws) = minW (if y < w then y else w) ws := rfl
        rw [e]
        by_cases q : y < w
        · rw [if_pos q]
          obtain ⟨h1, h2⟩ := ih y
          refine ⟨List.mem_cons_of_mem _ h1, fun v hv => ?_⟩
          rcases List.mem_cons.mp hv with rfl | hv
          · exact List.le_trans (h2 y List.mem_cons_self) (List.le_of_lt q)
          · exact h2 v hv
        · rw [if_neg q]
          obtain ⟨h1, h2⟩ := ih w
          refine ⟨?_, fun v hv => ?_⟩
          · rcases List.mem_cons.mp h1 with h1 | h1
            · rw [h1]; exact List.mem_cons_self
            · exact List.mem_cons_of_mem _ (List.mem_cons_of_mem _ h1)
          · rcases List.mem_cons.mp hv with rfl | hv
            · exact h2 _ List.mem_cons_self
            · rcases List.mem_cons.mp hv with rfl | hv
              · exact List.le_trans (h2 w List.mem_cons_self) (List.not_lt.mp q)
              · exact h2 v (List.mem_cons_of_mem _ hv)
    exact this ws w
/-- what a book lacks -/
inductive Lack where
  | no
  | un (k : List Int)
  | ap (l : List (List Int))
def lackL (ws : List (List Int)) : Lack := match uneven ws with
  | some k => .un k
  | none => if (come ws (minB ws).dropLast).length < (jk ws).length then .ap (isrt (come ws (minB ws).dropLast)) else .no
def lackR : Lack → Rv
  | .no => ⟨.sh, .non⟩
  | .un k => ⟨.ow, .tup [.non, .tup [.str "uneven", li k]]⟩
  | .ap l => ⟨.ow, .tup [.non, .tup [.str "apart", .lst (l.map li)]]⟩
theorem come_nodup (ws : List (List Int)) (s : List Int) : (come ws s).Nodup ∧ ∀ x ∈ come ws s, x ∈ s :: jk ws := cgo_inv ws s _ _ [s] (by simp) (by simp)
theorem cgo_pre (ws : List (List Int)) : ∀ (c p : Nat) (f : List (List Int)), ∃ g, cgo ws c p f = f ++ g
  | 0, p, f => ⟨[], by simp [cgo]⟩
  | c + 1, p, f => by
    simp only [cgo]
    split
    · obtain ⟨g, e, _⟩ := cstep_spec ws (f.getD p []) f
      rw [e]
      obtain ⟨g2, e2⟩ := cgo_pre ws c (p + 1) (f ++ g)
      exact ⟨g ++ g2, by rw [e2, List.append_assoc]⟩
    · exact ⟨[], by simp⟩
theorem come_start (ws : List (List Int)) (s : List Int) : s ∈ come ws s := by
  obtain ⟨g, e⟩ := cgo_pre ws (2 * ws.length + 3) 0 [s]
  unfold come
  rw [e]; simp
theorem srtL_ti (ws : List (List Int)) (h : ∀ w ∈ ws, w ≠ []) : srtL false (ws.map tupI) = some ⟨.fr, .lst ((isrt ws).map tupI)⟩ := by
  simp only [srtL, srtOk_ti ws h, if_true, srtD_ti]
theorem F_lack_of_eq (ws : List (List Int)) (n : Nat) (h : Sized (n + 1) ws) (h0 : ws ≠ []) (hl : ws.length ≤ 1000) (hn : n ≤ 1000) : F_lack_of [.lst (ws.map li)] = .ok (lackR (lackL ws)) := by
  have fu := F_uneven_at_eq ws n h hl hn
  have fj := F_joints_of_eq ws n h hl hn
  unfold lackL
  cases eu : uneven ws with
  | some k =>
    rw [eu] at fu
    have fu' : F_uneven_at [.lst (ws.map li)] = .ok ⟨.sh, .tup (k.map .int)⟩ := fu
    have hk : (k.map D.int).length ≤ lim := by
      have hm := (isrt_perm _).mem_iff.mp (List.mem_of_find?_eq_some eu)
      have := jk_size h k hm
      exact lim_le (by simp; omega)
    have l2 : 2 ≤ lim := by decide
    show _ = Res.ok (⟨.ow, .tup [.non, .tup [.str "uneven", .lst (k.map .int)]]⟩ : Rv)
    have hsc := scalD k
    generalize k.map D.int = KK at *
    generalize ws.map li = WL at *
    clear fu
    simp -implicitDefEqProofs [F_lack_of, g_lack_of, fu', hk, l2, hsc]
  | none =>
    rw [eu] at fu
    have fu' : F_uneven_at [.lst (ws.map li)] = .ok ⟨.sh, .non⟩ := fu
    have fc := F_come_to_eq ws n h hl (minB ws).dropLast
    obtain ⟨w, ws', rfl⟩ : ∃ w ws', ws = w :: ws' := by
      cases ws with
      | nil => exact absurd rfl h0
      | cons w ws' => exact ⟨w, ws', rfl⟩
    have mg := minG_li w ws'
    have k1 := cut_last (w := minW w ws')
    have lenJ : ((isrt (jk (w :: ws'))).map tupI).length = (jk (w :: ws')).length := by rw [List.length_map, (isrt_perm _).length_eq]
    have lenC : ((come (w :: ws') (minB (w :: ws')).dropLast).map tupI).length = (come (w :: ws') (minB (w :: ws')).dropLast).length := by rw [List.length_map]
    have fc' : F_come_to [.lst ((w :: ws').map li), .tup ((minW w ws').dropLast.map .int)] = .ok ⟨.fr, .lst ((come (w :: ws') (minB (w :: ws')).dropLast).map tupI)⟩ := fc
    by_cases q : (come (w :: ws') (minB (w :: ws')).dropLast).length < (jk (w :: ws')).length
    · dsimp only
      rw [if_pos q]
      have hm := (minB_mem (ws := w :: ws') (by simp)).1
      have hmem : ∀ x ∈ come (w :: ws') (minB (w :: ws')).dropLast, x ∈ jk (w :: ws') := fun x hx => by
        rcases List.mem_cons.mp ((come_nodup _ _).2 x hx) with rfl | hx
        · exact jk_mem.mpr ⟨_, hm, .inl rfl⟩
        · exact hx
      have hne : ∀ x ∈ come (w :: ws') (minB (w :: ws')).dropLast, x ≠ [] := fun x hx e => by
        subst e
        have hz := jk_size h [] (hmem [] hx)
        have hz : n = 0 := hz.symm
        subst hz
        have h1 : ∀ k ∈ jk (w :: ws'), k ∈ [([] : List Int)] := fun k hk => by
          rw [List.length_eq_zero_iff.mp (jk_size h k hk)]; exact List.mem_singleton.mpr rfl
        have := (nodup_sub (jk (w :: ws')) [[]] (jk_nodup _) h1).1
        have := List.length_pos_of_mem hx
        simp at *
        omega
      have hsz : ∀ x ∈ isrt (come (w :: ws') (minB (w :: ws')).dropLast), x.length = n := fun x hx => jk_size h x (hmem x ((isrt_perm _).mem_iff.mp hx))
      have sr := srtL_ti _ hne
      have l2 : 2 ≤ lim := by decide
      have hlen2 : ((isrt (come (w :: ws') (minB (w :: ws')).dropLast)).map li).length ≤ lim := by
        rw [List.length_map, (isrt_perm _).length_eq]
        have := jk_len (w :: ws')
        exact lim_le (by omega)
      have lc := lct_map (fe := c_lack_of_1) (i := 3) (s := [.sh (.lst ((w :: ws').map li)), .sh .non, .ow (.lst ((come (w :: ws') (minB (w :: ws')).dropLast).map tupI)), .un]) (f := fun d => match d with | .tup ds => .lst ds | d => d) ((isrt (come (w :: ws') (minB (w :: ws')).dropLast)).map tupI) (by
        intro d hd
        obtain ⟨k, hk, rfl⟩ := List.mem_map.mp hd
        have hkl : (k.map D.int).length ≤ lim := lim_le (by rw [List.length_map, hsz k hk]; omega)
        show _ = Res.ok (D.lst (k.map .int))
        have hsc := scalD k
        unfold tupI
        generalize k.map D.int = KK at *
        generalize (w :: ws').map li = WL at *
        generalize (come (w :: ws') (minB (w :: ws')).dropLast).map (fun k => D.tup (k.map .int)) = CC at *
        simp -implicitDefEqProofs [c_lack_of_1, hkl, hsc])
      have lm : ((isrt (come (w :: ws') (minB (w :: ws')).dropLast)).map tupI).map (fun d => match d with | .tup ds => D.lst ds | d => d) = (isrt (come (w :: ws') (minB (w :: ws')).dropLast)).map li := by rw [List.map_map]; rfl
      rw [lm] at lc
      show _ = Res.ok (⟨.ow, .tup [.non, .tup [.str "apart", .lst ((isrt (come (w :: ws') (minB (w :: ws')).dropLast)).map li)]]⟩ : Rv)
      have q2 : (((come (w :: ws') (minB (w :: ws')).dropLast).map tupI).length < ((isrt (jk (w :: ws'))).map tupI).length) := by rw [lenJ, lenC]; exact q
      generalize (isrt (come (w :: ws') (minB (w :: ws')).dropLast)).map tupI = SS at *
      generalize (isrt (come (w :: ws') (minB (w :: ws')).dropLast)).map li = SL at *
      generalize (come (w :: ws') (minB (w :: ws')).dropLast).map tupI = CC at *
      generalize (isrt (jk (w :: ws'))).map tupI = JJ at *
      generalize (minW w ws').dropLast.map D.int = MM at *
      generalize (w :: ws').map li = WL at *
      clear fu fc
      have q3 : (CC.length : Int) < (JJ.length : Int) := by omega
      simp -implicitDefEqProofs [-minG, -srtL, F_lack_of, g_lack_of, fu', mg, k1, fc', fj, q2, q3, sr, lc, l2, hlen2]
    · dsimp only
      rw [if_neg q]
      show _ = Res.ok (⟨.sh, .non⟩ : Rv)
      have q2 : ¬ (((come (w :: ws') (minB (w :: ws')).dropLast).map tupI).length < ((isrt (jk (w :: ws'))).map tupI).length) := by rw [lenJ, lenC]; exact q
      generalize (come (w :: ws') (minB (w :: ws')).dropLast).map tupI = CC at *
      generalize (isrt (jk (w :: ws'))).map tupI = JJ at *
      generalize (minW w ws').dropLast.map D.int = MM at *
      generalize (w :: ws').map li = WL at *
      clear fu fc
      simp -implicitDefEqProofs [-minG, F_lack_of, g_lack_of, fu', mg, k1, fc', fj]
      omega
end My
namespace My
open PySem PySem.Spec L2 DL
/-! walks.py -/
theorem leS_liR (a b : List Int) : leS true (li a) (li b) = decide (b ≤ a) := by
  rw [← leS_li]
  show PySem.W.dataLe true toPy (li a) (li b) = PySem.W.dataLe false toPy (li b) (li a)
  rw [PySem.W.dataLe_eq, PySem.W.dataLe_eq]
  rfl
theorem srtD_liR (ws : List (List Int)) : srtD true (ws.map li) = (isrt ws).reverse.map li := by
  unfold srtD
  have e : ws.mergeSort (fun a b => decide (b ≤ a)) = (isrt ws).reverse := by
    refine List.Perm.eq_of_pairwise (le := fun a b : List Int => b ≤ a) (fun a b _ _ h1 h2 => List.le_antisymm h2 h1) ?_ ?_ ((List.mergeSort_perm ws _).trans ((isrt_perm ws).symm.trans (List.reverse_perm _).symm))
    · have := List.pairwise_mergeSort (le := fun a b : List Int => decide (b ≤ a)) (fun a b c h1 h2 => by simp at h1 h2 ⊢; exact List.le_trans h2 h1) (fun a b => by simp; exact List.le_total b a) ws
      exact this.imp fun h => by simpa using h
    · exact List.pairwise_reverse.mpr (isrt_sorted ws)
  rw [← e]
  exact (List.map_mergeSort fun a _ b _ => (leS_liR a b).symm).symm
theorem srtL_liR (ws : List (List Int)) : srtL true (ws.map li) = some ⟨.fr, .lst ((isrt ws).reverse.map li)⟩ := by
  simp only [srtL, srtOk_li, if_true, srtD_liR]
abbrev Grp := List (List Int × List (List Int))
def gD (g : Grp) : List (List Int × List D) := g.map fun p => (p.1, p.2.map li)
def gIx (g : Grp) (k : List Int) : Option Nat := g.findIdx? fun p => decide (p.1 = k)
def gAdd (g : Grp) (k w : List Int) : Grp := match gIx g k with
  | some m => match g[m]? with
    | some (k', l) => g.set m (k', l ++ [w])
    | none => g
  | none => g ++ [(k, [w])]
def grp (ws : List (List Int)) : Grp := ws.foldl (fun g w => gAdd g w.dropLast w) []
theorem dlIx_gD (g : Grp) (k : List Int) : dlIx (gD g) k = gIx g k := by
  unfold dlIx gIx gD
  rw [List.findIdx?_map]; rfl
theorem gIx_get {g : Grp} {k : List Int} {m : Nat} (h : gIx g k = some m) : ∃ l, g[m]? = some (k, l) := by
  unfold gIx at h
  obtain ⟨hm, h1, _⟩ := List.findIdx?_eq_some_iff_getElem.mp h
  have h1' : g[m].1 = k := by simpa using h1
  exact ⟨g[m].2, by rw [List.getElem?_eq_getElem hm, ← h1']⟩
theorem dlAdd_gD (g : Grp) (k w : List Int) (hg : g.length ≤ 10000) (hl : ∀ p ∈ g, p.2.length ≤ 10000) : dlAdd (gD g) k (li w) = some (gD (gAdd g k w)) := by
  unfold dlAdd gAdd
  have h1 : (gD g).length < lim := lim_lt (by simp [gD]; omega)
  rw [if_pos h1, dlIx_gD]
  cases e : gIx g k with
  | none => simp [gD]
  | some m =>
    obtain ⟨l, hm⟩ := gIx_get e
    have hl1 := hl _ (List.mem_of_getElem? hm)
    have e2 : (gD g)[m]? = some (k, l.map li) := by rw [gD, List.getElem?_map, hm]; rfl
    dsimp only
    rw [e2, hm]
    dsimp only
    rw [if_pos (lim_lt (by rw [List.length_map]; dsimp only at hl1; omega))]
    simp [gD, List.map_set]
theorem gAdd_len (g : Grp) (k w : List Int) (N : Nat) (hg : g.length ≤ N) (hl : ∀ p ∈ g, p.2.length ≤ N) : (gAdd g k w).length ≤ N + 1 ∧ ∀ p ∈ gAdd g k w, p.2.length ≤ N + 1 := by
  unfold gAdd
  cases e : gIx g k with
  | none =>
    refine ⟨by simp; omega, fun p hp => ?_⟩
    rcases List.mem_append.mp hp with hp | hp
    · have := hl p hp; omega
    · rw [List.mem_singleton.mp hp]; simp
  | some m =>
    obtain ⟨l, hm⟩ := gIx_get e
    have hl1 := hl _ (List.mem_of_getElem? hm)
    dsimp only
    rw [hm]
    dsimp only
    refine ⟨by simp; omega, fun p hp => ?_⟩
    rcases List.mem_or_eq_of_mem_set hp with hp | rfl
    · have := hl p hp; omega
    · simp; omega
theorem loop_gD (b : D) (fk : Ev → Res Rv) (hk : ∀ (kvs : List (List Int × List D)) (w : List Int), fk [.sh b, .dl kvs, .sh (li w)] = .ok ⟨.sh, tupI w.dropLast⟩) : ∀ (ws : List (List Int)) (g : Grp) (N : Nat), g.length ≤ N → (∀ p ∈ g, p.2.length ≤ N) → N + ws.length ≤ 10000 → dlLoop fk b (gD g) (ws.map li) = some (gD (ws.foldl (fun g w => gAdd g w.dropLast w) g))
  | [], g, N, _, _, _ => rfl
  | w :: ws, g, N, h1, h2, h3 => by
    have h5 : keyD (tupI w.dropLast) = some (.t w.dropLast) := keyD_ti _
    have ha := dlAdd_gD g w.dropLast w (by simp at h3; omega) (fun p hp => by have := h2 p hp; simp at h3; omega)
    obtain ⟨l1, l2⟩ := gAdd_len g w.dropLast w N h1 h2
    have ih := loop_gD b fk hk ws (gAdd g w.dropLast w) (N + 1) l1 l2 (by simp at h3; omega)
    rw [List.map_cons, List.foldl_cons, ← ih]
    simp only [dlLoop, hk, h5, ha]
theorem F_words_behind_eq (ws : List (List Int)) (hl : ws.length ≤ 1000) : F_words_behind [.lst (ws.map li)] = some (gD (grp (isrt ws).reverse)) := by
  have hk : ∀ (kvs : List (List Int × List D)) (w : List Int), k_words_behind [.sh (.lst (ws.map li)), .dl kvs, .sh (li w)] = .ok ⟨.sh, tupI w.dropLast⟩ := fun kvs w => by
    have k1 := cut_last (w := w)
    generalize ws.map li = WL
    simp -implicitDefEqProofs [k_words_behind, k1, tupI]
  have sr := srtL_liR ws
  have ei : i_words_behind [.sh (.lst (ws.map li)), .dl [], .un] = .ok (false, (isrt ws).reverse.map li) := by
    generalize (isrt ws).reverse.map li = SS at *
    generalize ws.map li = WL at *
    simp -implicitDefEqProofs [-srtL, i_words_behind, sr]
  unfold F_words_behind dlMake
  dsimp only
  rw [ei]
  exact loop_gD _ _ hk (isrt ws).reverse [] 0 (by simp) (by simp) (by rw [List.length_reverse, (isrt_perm ws).length_eq]; omega)
def optD : Option (List Int) → D
  | none => .non
  | some w => li w
def waitD (p : List Int × Option (List Int)) : D := .tup [tupI p.1, optD p.2]
abbrev Wait := List (List Int × Option (List Int))
/-- one turn after another -/
def tripGo : Nat → Grp → Wait → List (Option (List Int)) → Option (List (Option (List Int)))
  | 0, _, _, _ => none
  | c + 1, g, wt, fd => match wt.getLast? with
    | none => some fd
    | some (k, o) => match gIx g k with
      | none => none
      | some m => match g[m]? with
        | none => none
        | some (k', l) => match l.getLast? with
          | none => tripGo c g wt.dropLast (fd ++ [o])
          | some w => tripGo c (g.set m (k', l.dropLast)) (wt ++ [(w.drop 1, some w)]) fd
def trip (ws : List (List Int)) : Option (List (Option (List Int))) := tripGo (4 * ws.length + 10) (grp (isrt ws).reverse) [((minB ws).dropLast, none)] []
theorem okEq_lis (l : List (List Int)) : okEq (.lst (l.map li)) = true := okEq_ints2
theorem gIx_gD {g : Grp} {m : Nat} {k : List Int} {l : List (List Int)} (h : g[m]? = some (k, l)) : (gD g)[m]? = some (k, l.map li) := by
  unfold gD; rw [List.getElem?_map, h]; rfl
theorem waitD_get {wt : Wait} {p : List Int × Option (List Int)} (h : wt.getLast? = some p) : atI (wt.map waitD) (-1) = some (waitD p) := by
  have hl : 0 < wt.length := by
    cases wt with
    | nil => cases h
    | cons _ _ => simp
  unfold atI
  have e : ixN (wt.map waitD).length (-1) = some (wt.length - 1) := by
    simp only [ixN, List.length_map]
    rw [if_neg (by decide), if_pos (by omega)]
    congr 1
    omega
  rw [e]
  show (wt.map waitD)[wt.length - 1]? = _
  rw [List.getElem?_map, ← List.getLast?_eq_getElem?, h]
  rfl
theorem trip_turn (b : D) (g : Grp) (wt : Wait) (fd : List (Option (List Int))) (k : List Int) (o : Option (List Int)) (m : Nat) (l : List (List Int)) (x4 x5 x6 : Sl) (h1 : wt.getLast? = some (k, o)) (h2 : gIx g k = some m) (h3 : g[m]? = some (k, l)) (hw : wt.length ≤ 10000) (hf : fd.length ≤ 10000) (hs : ∀ w ∈ l, 0 < w.length) (h6 : noAs [x6] = true) :
    ∃ y4 y5 y6, noAs [y6] = true ∧ b_round_trip_1 [.sh b, .dl (gD g), .ow (.lst (wt.map waitD)), .ow (.lst (fd.map optD)), x4, x5, x6] = .nx (match l.getLast? with
      | none => [.sh b, .dl (gD g), .ow (.lst (wt.dropLast.map waitD)), .ow (.lst ((fd ++ [o]).map optD)), y4, y5, y6]
      | some w => [.sh b, .dl (gD (g.set m (k, l.dropLast))), .ow (.lst ((wt ++ [(w.drop 1, some w)]).map waitD)), .ow (.lst (fd.map optD)), y4, y5, y6]) := by
  have a1 := waitD_get h1
  have k1 : keyD (tupI k) = some (.t k) := keyD_ti k
  have k2 : dlIx (gD g) k = some m := by rw [dlIx_gD]; exact h2
  have k3 := gIx_gD h3
  have k4 := okEq_lis l
  have hwl : (wt.map waitD).length < lim := lim_lt (by simp; omega)
  have hfl : (fd.map optD).length < lim := lim_lt (by simp; omega)
  have hws : waitD (k, o) = .tup [tupI k, optD o] := rfl
  rw [hws] at a1
  cases el : l.getLast? with
  | none =>
    have hl0 : l = [] := List.getLast?_eq_none_iff.mp el
    subst hl0
    refine ⟨.sh (tupI k), .sh (optD o), x6, h6, ?_⟩
    dsimp only
    have e2 : (fd ++ [o]).map optD = fd.map optD ++ [optD o] := by simp
    have e3 : (wt.dropLast).map waitD = (wt.map waitD).dropLast := by rw [List.map_dropLast]
    rw [e2, e3]
    have hne : wt.map waitD ≠ [] := by
      intro z
      have := List.map_eq_nil_iff.mp z
      subst this
      cases h1
    generalize fd.map optD = FD at *
    generalize hWT : wt.map waitD = WT at *
    generalize gD g = GG at *
    generalize tupI k = kk at *
    generalize optD o = oo at *
    cases WT with
    | nil => exact absurd rfl hne
    | cons wd WT' =>
      simp -implicitDefEqProofs [b_round_trip_1, a1, k1, k2, k3, hfl]
  | some w =>
    refine ⟨.sh (tupI k), .sh (optD o), .sh (li w), rfl, ?_⟩
    dsimp only
    have hwm : w ∈ l := List.mem_of_getLast? el
    have c2 := cut_tail (hs w hwm)
    have e2 : (wt ++ [(w.drop 1, some w)]).map waitD = wt.map waitD ++ [.tup [.tup ((w.drop 1).map .int), li w]] := by simp [waitD, optD, tupI]
    have e3 : gD (g.set m (k, l.dropLast)) = (gD g).set m (k, (l.map li).dropLast) := by
      unfold gD
      rw [List.map_set, List.map_dropLast]
    have e4 : (l.map li).getLast? = some (li w) := by rw [List.getLast?_map, el]; rfl
    have e5 : eqD (.lst (l.map li)) (.lst []) = false := by
      cases l with
      | nil => cases el
      | cons a r => simp
    rw [e2, e3]
    have l2 : 2 ≤ lim := by decide
    generalize fd.map optD = FD at *
    generalize wt.map waitD = WT at *
    generalize gD g = GG at *
    generalize tupI k = kk at *
    generalize optD o = oo at *
    generalize l.map li = LL at *
    simp only [li] at *
    generalize w.map D.int = WD at *
    generalize (w.drop 1).map D.int = WE at *
    simp -implicitDefEqProofs [-eqD_lst, b_round_trip_1, a1, k1, k2, k3, k4, e4, e5, c2, hwl, l2, h6]
theorem trip_wh (b : D) : ∀ (c fuel : Nat) (g : Grp) (wt : Wait) (fd fdF : List (Option (List Int))) (x4 x5 x6 : Sl), c ≤ fuel → wt.length + c ≤ 10000 → fd.length + c ≤ 10000 → (∀ p ∈ g, ∀ w ∈ p.2, 0 < w.length) → noAs [x6] = true → tripGo c g wt fd = some fdF →
    ∃ gF y4 y5 y6, whF w_round_trip_1 b_round_trip_1 fuel [.sh b, .dl (gD g), .ow (.lst (wt.map waitD)), .ow (.lst (fd.map optD)), x4, x5, x6] = .nx [.sh b, .dl gF, .ow (.lst []), .ow (.lst (fdF.map optD)), y4, y5, y6] := by
  intro c
  induction c with
  | zero => intro fuel g wt fd fdF x4 x5 x6 _ _ _ _ _ h; cases h
  | succ c ih =>
    intro fuel g wt fd fdF x4 x5 x6 hcf hw hf hs h6 h
    obtain ⟨fuel, rfl⟩ : ∃ f, fuel = f + 1 := ⟨fuel - 1, by omega⟩
    simp only [tripGo] at h
    have okW : ∀ wt : Wait, okEq (.lst (wt.map waitD)) = true := fun wt => by
      refine (OkN.lst (n := 2) fun d hd => ?_).okEq
      obtain ⟨p, _, rfl⟩ := List.mem_map.mp hd
      refine OkN.tup (n := 1) fun d hd => ?_
      rcases List.mem_cons.mp hd with rfl | hd
      · exact OkN.tup (n := 0) fun d hd => by
          obtain ⟨i, _, rfl⟩ := List.mem_map.mp hd
          exact .int
      · rw [List.mem_singleton.mp hd]
        cases p.2 with
        | none => exact OkN.non.mono (by omega)
        | some w => exact OkN.ints
    have ok1 := okW wt
    cases e1 : wt.getLast? with
    | none =>
      rw [e1] at h
      cases h
      have : wt = [] := List.getLast?_eq_none_iff.mp e1
      subst this
      refine ⟨gD g, x4, x5, x6, ?_⟩
      have t : w_round_trip_1 [.sh b, .dl (gD g), .ow (.lst []), .ow (.lst (fd.map optD)), x4, x5, x6] = .ok false := by
        simp -implicitDefEqProofs [w_round_trip_1]
      simp only [List.map_nil, whF, t, bndR_ok, if_false, Bool.false_eq_true]
    | some p =>
      obtain ⟨k, o⟩ := p
      rw [e1] at h
      dsimp only at h
      have t : w_round_trip_1 [.sh b, .dl (gD g), .ow (.lst (wt.map waitD)), .ow (.lst (fd.map optD)), x4, x5, x6] = .ok true := by
        have hne : wt.map waitD ≠ [] := by
          intro z
          have := List.map_eq_nil_iff.mp z
          subst this
          cases e1
        generalize fd.map optD = FD at *
        generalize wt.map waitD = WT at *
        cases WT with
        | nil => exact absurd rfl hne
        | cons a r => simp -implicitDefEqProofs [w_round_trip_1, ok1]
      cases e2 : gIx g k with
      | none => rw [e2] at h; cases h
      | some m =>
        rw [e2] at h
        dsimp only at h
        obtain ⟨l, e3⟩ := gIx_get e2
        rw [e3] at h
        dsimp only at h
        have hsl := hs _ (List.mem_of_getElem? e3)
        obtain ⟨y4, y5, y6, n6, tn⟩ := trip_turn b g wt fd k o m l x4 x5 x6 e1 e2 e3 (by omega) (by omega) hsl h6
        cases e4 : l.getLast? with
        | none =>
          rw [e4] at h tn
          dsimp only at h tn
          obtain ⟨gF, z4, z5, z6, r⟩ := ih fuel g wt.dropLast (fd ++ [o]) fdF y4 y5 y6 (by omega) (by simp; omega) (by simp; omega) hs n6 h
          refine ⟨gF, z4, z5, z6, ?_⟩
          simp only [whF, t, bndR_ok, if_true, tn]
          exact r
        | some w =>
          rw [e4] at h tn
          dsimp only at h tn
          obtain ⟨gF, z4, z5, z6, r⟩ := ih fuel (g.set m (k, l.dropLast)) (wt ++ [(w.drop 1, some w)]) fd fdF y4 y5 y6 (by omega) (by simp; omega) (by omega) (fun p hp v hv => by
            rcases List.mem_or_eq_of_mem_set hp with hp | rfl
            · exact hs p hp v hv
            · exact hsl v ((List.dropLast_sublist _).subset hv)) n6 h
          refine ⟨gF, z4, z5, z6, ?_⟩
          simp only [whF, t, bndR_ok, if_true, tn]
          exact r
theorem gAdd_words {g : Grp} {k w : List Int} {P : List Int → Prop} (hw : P w) (h : ∀ p ∈ g, ∀ v ∈ p.2, P v) : ∀ p ∈ gAdd g k w, ∀ v ∈ p.2, P v := by
  unfold gAdd
  cases e : gIx g k with
  | none =>
    intro p hp v hv
    rcases List.mem_append.mp hp with hp | hp
    · exact h p hp v hv
    · rw [List.mem_singleton.mp hp] at hv
      rw [List.mem_singleton.mp hv]; exact hw
  | some m =>
    obtain ⟨l, hm⟩ := gIx_get e
    dsimp only
    rw [hm]
    intro p hp v hv
    rcases List.mem_or_eq_of_mem_set hp with hp | rfl
    · exact h p hp v hv
    · rcases List.mem_append.mp hv with hv | hv
      · exact h _ (List.mem_of_getElem? hm) v hv
      · rw [List.mem_singleton.mp hv]; exact hw
theorem grp_words {P : List Int → Prop} : ∀ (ws : List (List Int)) (g : Grp), (∀ w ∈ ws, P w) → (∀ p ∈ g, ∀ v ∈ p.2, P v) → ∀ p ∈ ws.foldl (fun g w => gAdd g w.dropLast w) g, ∀ v ∈ p.2, P v
  | [], g, _, h => h
  | w :: ws, g, h1, h2 => grp_words ws _ (fun v hv => h1 v (List.mem_cons_of_mem _ hv)) (gAdd_words (h1 w List.mem_cons_self) h2)
theorem F_round_trip_eq (ws : List (List Int)) (n : Nat) (h : Sized (n + 1) ws) (h0 : ws ≠ []) (hl : ws.length ≤ 1000) (fd : List (Option (List Int))) (ht : trip ws = some fd) : F_round_trip [.lst (ws.map li)] = .ok ⟨.fr, .lst ((fd.map optD).dropLast.reverse)⟩ := by
  have fw := F_words_behind_eq ws hl
  obtain ⟨w, ws', rfl⟩ : ∃ w ws', ws = w :: ws' := by
    cases ws with
    | nil => exact absurd rfl h0
    | cons w ws' => exact ⟨w, ws', rfl⟩
  have mg := minG_li w ws'
  have k1 := cut_last (w := minW w ws')
  have hsz : ∀ p ∈ grp (isrt (w :: ws')).reverse, ∀ v ∈ p.2, 0 < v.length := grp_words _ [] (fun v hv => by
    have := h v ((isrt_perm _).mem_iff.mp (List.mem_reverse.mp hv)); omega) (fun p hp => by cases hp)
  obtain ⟨gF, y4, y5, y6, r⟩ := trip_wh (.lst ((w :: ws').map li)) (4 * (w :: ws').length + 10) many (grp (isrt (w :: ws')).reverse) [((minB (w :: ws')).dropLast, none)] [] fd .un .un .un (by unfold many; omega) (by simp at hl ⊢; omega) (by simp at hl ⊢; omega) hsz rfl ht
  have r' : whF w_round_trip_1 b_round_trip_1 many [.sh (.lst ((w :: ws').map li)), .dl (gD (grp (isrt (w :: ws')).reverse)), .ow (.lst [.tup [.tup ((minW w ws').dropLast.map .int), .non]]), .ow (.lst []), .un, .un, .un] = .nx [.sh (.lst ((w :: ws').map li)), .dl gF, .ow (.lst []), .ow (.lst (fd.map optD)), y4, y5, y6] := r
  clear r
  have l1 : 1 ≤ lim := by decide
  have l2 : 2 ≤ lim := by decide
  generalize gD (grp (isrt (w :: ws')).reverse) = GG at *
  generalize fd.map optD = FD at *
  generalize (minW w ws').dropLast.map D.int = MM at *
  generalize (w :: ws').map li = WL at *
  simp -implicitDefEqProofs [-minG, F_round_trip, g_round_trip, fw, mg, k1, fWhile, l1, l2, r', noNx]
/-- a row of words, and their first signs -/
def heads (r : List (List Int)) : List Int := r.map fun w => w.headD 0
def isLackNo : Lack → Bool
  | .no => true
  | _ => false
theorem F_ring_of_eq (a1 a2 : D) (ws : List (List Int)) (n : Nat) (hb : F_need_book [a1, a2, .lst (ws.map li)] = .ok ⟨.sh, .non⟩) (h : Sized (n + 1) ws) (h0 : ws ≠ []) (hl : ws.length ≤ 1000) (hn : n ≤ 1000) :
    (isLackNo (lackL ws) = false → F_ring_of [a1, a2, .lst (ws.map li)] = .exc 5) ∧
    (∀ r : List (List Int), lackL ws = .no → trip ws = some ((r.reverse.map some) ++ [none]) → (∀ w ∈ r, 0 < w.length) → r.length ≤ 1000 → F_ring_of [a1, a2, .lst (ws.map li)] = .ok ⟨.fr, li (heads r)⟩) := by
  have fl := F_lack_of_eq ws n h h0 hl hn
  refine ⟨fun hz => ?_, fun r hz ht hr hrl => ?_⟩
  · cases e : lackL ws with
    | no => rw [e] at hz; cases hz
    | un k =>
      rw [e] at fl
      have fl' : F_lack_of [.lst (ws.map li)] = .ok ⟨.ow, .tup [.non, .tup [.str "uneven", li k]]⟩ := fl
      clear fl
      generalize li k = kk at *
      generalize ws.map li = WL at *
      simp -implicitDefEqProofs [F_ring_of, g_ring_of, hb, fl']
    | ap l =>
      rw [e] at fl
      have fl' : F_lack_of [.lst (ws.map li)] = .ok ⟨.ow, .tup [.non, .tup [.str "apart", .lst (l.map li)]]⟩ := fl
      clear fl
      generalize l.map li = kk at *
      generalize ws.map li = WL at *
      simp -implicitDefEqProofs [F_ring_of, g_ring_of, hb, fl']
  · rw [hz] at fl
    have fl' : F_lack_of [.lst (ws.map li)] = .ok ⟨.sh, .non⟩ := fl
    clear fl
    have ft := F_round_trip_eq ws n h h0 hl _ ht
    have e1 : ((r.reverse.map some ++ [none]).map optD).dropLast.reverse = r.map li := by
      rw [List.map_append, List.map_map]
      simp [List.map_reverse, Function.comp_def, optD]
    rw [e1] at ft
    have lc := lc_map (fe := c_ring_of_1) (i := 3) (s := [.sh a1, .sh a2, .sh (.lst (ws.map li)), .un]) (f := fun d => match d with | .lst (x :: _) => x | _ => .int 0) (r.map li) (by
      intro d hd
      obtain ⟨w, hw, rfl⟩ := List.mem_map.mp hd
      have := hr w hw
      cases w with
      | nil => simp at this
      | cons x w' =>
        refine ⟨.sh, by simp, ?_⟩
        have a1' : atI (D.int x :: w'.map .int) 0 = some (.int x) := atI_nat (j := 0) rfl
        show _ = Res.ok (⟨.sh, .int x⟩ : Rv)
        have e : li (x :: w') = .lst (D.int x :: w'.map .int) := rfl
        rw [e]
        generalize w'.map D.int = W' at *
        generalize ws.map li = WL at *
        simp -implicitDefEqProofs [c_ring_of_1, a1'])
    have em : (r.map li).map (fun d => match d with | .lst (x :: _) => x | _ => D.int 0) = (heads r).map D.int := by
      unfold heads
      rw [List.map_map, List.map_map]
      refine List.map_congr_left fun w hw => ?_
      have := hr w hw
      cases w with
      | nil => simp at this
      | cons x w' => rfl
    rw [em] at lc
    have hlen : ((heads r).map D.int).length ≤ lim := lim_le (by simp [heads]; omega)
    simp only [li] at *
    generalize (heads r).map D.int = HH at *
    generalize r.map (fun w => D.lst (w.map .int)) = RR at *
    generalize ws.map (fun w => D.lst (w.map .int)) = WL at *
    simp -implicitDefEqProofs [F_ring_of, g_ring_of, hb, fl', ft, lc, hlen]
end My
namespace My
open PySem PySem.Spec L2 DL
/-! rows of words, each beginning as the one ahead ends -/
def walk : List Int → List Int → List (List Int) → Prop
  | a, b, [] => a = b
  | a, b, w :: r => w.dropLast = a ∧ walk (w.drop 1) b r
theorem bal_nil (k : List Int) : bal [] k = 0 := rfl
theorem bal_cons (w : List Int) (ws : List (List Int)) (k : List Int) : bal (w :: ws) k = ((if w.dropLast = k then (1 : Int) else 0) - (if w.drop 1 = k then 1 else 0)) + bal ws k := by
  unfold bal; simp
theorem bal_append (u v : List (List Int)) (k : List Int) : bal (u ++ v) k = bal u k + bal v k := by
  unfold bal; rw [List.map_append, List.sum_append_int]
theorem bal_perm {u v : List (List Int)} (h : u.Perm v) (k : List Int) : bal u k = bal v k := by
  induction h with
  | nil => rfl
  | cons x _ ih => rw [bal_cons, bal_cons, ih]
  | swap x y l => rw [bal_cons, bal_cons, bal_cons, bal_cons]; omega
  | trans _ _ h1 h2 => exact h1.trans h2
theorem walk_bal : ∀ {r : List (List Int)} {a b : List Int}, walk a b r → ∀ k, bal r k = (if a = k then (1 : Int) else 0) - (if b = k then 1 else 0)
  | [], a, b, h, k => by
    have h : a = b := h
    subst h; rw [bal_nil]; omega
  | w :: r, a, b, h, k => by
    obtain ⟨h1, h2⟩ := h
    rw [bal_cons, walk_bal h2 k, h1]
    omega
theorem walk_snoc : ∀ {r : List (List Int)} {a b : List Int} {w : List Int}, walk a b r → w.dropLast = b → walk a (w.drop 1) (r ++ [w])
  | [], a, b, w, h, e => by
    have h : a = b := h
    subst h; exact ⟨e, rfl⟩
  | v :: r, a, b, w, h, e => ⟨h.1, walk_snoc h.2 e⟩
theorem walk_unsnoc : ∀ {r : List (List Int)} {a b : List Int} {w : List Int}, walk a b (r ++ [w]) → walk a w.dropLast r ∧ w.drop 1 = b
  | [], a, b, w, h => ⟨h.1.symm, h.2⟩
  | v :: r, a, b, w, h => ⟨⟨h.1, (walk_unsnoc h.2).1⟩, (walk_unsnoc h.2).2⟩
def rest (g : Grp) : List (List Int) := g.flatMap (·.2)
theorem rest_set : ∀ {g : Grp} {m : Nat} {k w : List Int} {l : List (List Int)}, g[m]? = some (k, l) → l.getLast? = some w → (w :: rest (g.set m (k, l.dropLast))).Perm (rest g)
  | [], m, k, w, l, h, _ => by simp at h
  | p :: g, 0, k, w, l, h, e => by
    simp at h
    subst h
    have hl : l = l.dropLast ++ [w] := by
      have hne : l ≠ [] := fun z => by rw [z] at e; cases e
      rw [List.getLast?_eq_some_getLast hne] at e
      rw [← Option.some.inj e]
      exact (List.dropLast_concat_getLast hne).symm
    show (w :: ((l.dropLast) ++ rest g)).Perm (l ++ rest g)
    conv => rhs; rw [hl]
    rw [List.append_assoc]
    exact List.perm_middle.symm
  | p :: g, m + 1, k, w, l, h, e => by
    have ih := rest_set (g := g) (m := m) (by simpa using h) e
    show (w :: (p.2 ++ rest (g.set m (k, l.dropLast)))).Perm (p.2 ++ rest g)
    exact List.perm_middle.symm.trans (List.Perm.append_left _ ih)
/-- each group's words begin with its joint, each joint has one group -/
def GOk (g : Grp) : Prop := (∀ p ∈ g, ∀ w ∈ p.2, w.dropLast = p.1) ∧ (g.map (·.1)).Nodup
theorem gok_set {g : Grp} {m : Nat} {k : List Int} {l : List (List Int)} (h : GOk g) (hm : g[m]? = some (k, l)) : GOk (g.set m (k, l.dropLast)) ∧ (g.set m (k, l.dropLast)).map (·.1) = g.map (·.1) := by
  have e : (g.set m (k, l.dropLast)).map (·.1) = g.map (·.1) := by
    rw [List.map_set]
    refine List.ext_getElem? fun n => ?_
    rw [List.getElem?_set]
    by_cases z : m = n
    · subst z
      rw [if_pos rfl, List.getElem?_map, hm]
      simp [(List.getElem?_eq_some_iff.mp hm).1]
    · rw [if_neg z]
  refine ⟨⟨fun p hp w hw => ?_, by rw [e]; exact h.2⟩, e⟩
  rcases List.mem_or_eq_of_mem_set hp with hp | rfl
  · exact h.1 p hp w hw
  · exact h.1 _ (List.mem_of_getElem? hm) w ((List.dropLast_sublist _).subset hw)
theorem gok_none {g : Grp} {m : Nat} {k : List Int} (h : GOk g) (hm : g[m]? = some (k, [])) : ∀ v ∈ rest g, v.dropLast ≠ k := by
  intro v hv e
  obtain ⟨p, hp, hv⟩ := List.mem_flatMap.mp hv
  have := h.1 p hp v hv
  obtain ⟨j, hj⟩ := List.mem_iff_getElem?.mp hp
  obtain ⟨hm1, hm2⟩ := List.getElem?_eq_some_iff.mp hm
  obtain ⟨hj1, hj2⟩ := List.getElem?_eq_some_iff.mp hj
  have e1 : (g.map (·.1))[m]'(by simpa using hm1) = k := by simp [hm2]
  have e2 : (g.map (·.1))[j]'(by simpa using hj1) = k := by simp [hj2]; rw [← this]; exact e
  have ij : m = j := by
    rcases Nat.lt_trichotomy m j with q | q | q
    · exact absurd (e1.trans e2.symm) (List.pairwise_iff_getElem.mp h.2 m j _ _ q)
    · exact q
    · exact absurd (e2.trans e1.symm) (List.pairwise_iff_getElem.mp h.2 j m _ _ q)
  subst ij
  rw [hm2] at hj2
  subst hj2
  cases hv
end My
namespace My
open PySem PySem.Spec L2 DL
def stackOf (base : List Int) (P : List (List Int)) : Wait := (base, none) :: P.map fun w => (w.drop 1, some w)
theorem stack_snoc (base : List Int) (P : List (List Int)) (w : List Int) : stackOf base (P ++ [w]) = stackOf base P ++ [(w.drop 1, some w)] := by simp [stackOf]
theorem bal_le {r : List (List Int)} {k : List Int} (h : ∀ v ∈ r, v.dropLast ≠ k) : bal r k ≤ 0 := by
  induction r with
  | nil => exact Int.le_refl _
  | cons w r ih =>
    have h1 := h w List.mem_cons_self
    have h2 := ih fun v hv => h v (List.mem_cons_of_mem _ hv)
    rw [bal_cons, if_neg h1]
    split <;> omega
theorem gIx_mem {g : Grp} {k : List Int} (h : k ∈ g.map (·.1)) : ∃ m l, gIx g k = some m ∧ g[m]? = some (k, l) := by
  cases e : gIx g k with
  | none =>
    unfold gIx at e
    obtain ⟨p, hp, rfl⟩ := List.mem_map.mp h
    have := List.findIdx?_eq_none_iff.mp e p hp
    simp at this
  | some m =>
    obtain ⟨l, hl⟩ := gIx_get e
    exact ⟨m, l, rfl, hl⟩
theorem trip_run (ws : List (List Int)) (base : List Int) (even : ∀ k, bal ws k = 0) (hb : ∃ w ∈ ws, w.dropLast = base) : ∀ (c : Nat) (g : Grp) (P F : List (List Int)) (x cur : List Int), GOk g → (∀ k, (∃ w ∈ ws, w.dropLast = k) → k ∈ g.map (·.1)) → walk base cur P → walk x base F → (P ++ (F ++ rest g)).Perm ws → (∀ w ∈ F, ∀ v ∈ rest g, v.dropLast ≠ w.drop 1) → 2 * (rest g).length + P.length + 2 ≤ c →
    ∃ F' gF, tripGo c g (stackOf base P) (F.reverse.map some) = some (F'.reverse.map some ++ [none]) ∧ walk base base F' ∧ (F' ++ rest gF).Perm ws ∧ (∀ w ∈ F', ∀ v ∈ rest gF, v.dropLast ≠ w.drop 1) ∧ ∀ v ∈ rest gF, v.dropLast ≠ base := by
  intro c
  induction c with
  | zero => intro g P F x cur _ _ _ _ _ _ h; omega
  | succ c ih =>
    intro g P F x cur hg hk hP hF hp hd hc
    have top : ∃ o, (stackOf base P).getLast? = some (cur, o) ∧ ((P = [] ∧ o = none ∧ cur = base) ∨ ∃ P' w, P = P' ++ [w] ∧ o = some w ∧ w.drop 1 = cur) := by
      rcases List.eq_nil_or_concat P with rfl | ⟨P', w, rfl⟩
      · have : base = cur := hP
        exact ⟨none, by rw [← this]; rfl, .inl ⟨rfl, rfl, this.symm⟩⟩
      · rw [List.concat_eq_append] at hP ⊢
        have := (walk_unsnoc hP).2
        exact ⟨some w, by rw [stack_snoc, List.getLast?_concat, this], .inr ⟨P', w, rfl, rfl, this⟩⟩
    obtain ⟨o, ht, htop⟩ := top
    have hcur : ∃ w ∈ ws, w.dropLast = cur := by
      rcases htop with ⟨_, _, rfl⟩ | ⟨P', w, rfl, _, hw⟩
      · exact hb
      · have hwm : w ∈ ws := hp.mem_iff.mp (by simp)
        refine Classical.byContradiction fun z => ?_
        have h1 : ∀ v ∈ ws, v.dropLast ≠ cur := fun v hv e => z ⟨v, hv, e⟩
        obtain ⟨u, r, hur⟩ := List.append_of_mem hwm
        have h2 := even cur
        rw [hur, bal_append, bal_cons] at h2
        have h3 := bal_le (r := u) (k := cur) fun v hv => h1 v (by rw [hur]; exact List.mem_append_left _ hv)
        have h4 := bal_le (r := r) (k := cur) fun v hv => h1 v (by rw [hur]; exact List.mem_append_right _ (List.mem_cons_of_mem _ hv))
        rw [if_neg (h1 w hwm), if_pos hw] at h2
        omega
    obtain ⟨m, l, e1, e2⟩ := gIx_mem (hk cur hcur)
    simp only [tripGo, ht, e1, e2]
    cases el : l.getLast? with
    | some w =>
      have hwl : w ∈ l := List.mem_of_getLast? el
      have hwd := hg.1 _ (List.mem_of_getElem? e2) w hwl
      have hr := rest_set e2 el
      obtain ⟨g1, g2⟩ := gok_set hg e2
      dsimp only
      rw [← stack_snoc]
      refine ih (g.set m (cur, l.dropLast)) (P ++ [w]) F x (w.drop 1) g1 (fun k h => by rw [g2]; exact hk k h) (walk_snoc hP hwd) hF ?_ (fun u hu v hv => hd u hu v (hr.mem_iff.mp (List.mem_cons_of_mem _ hv))) ?_
      · refine List.Perm.trans ?_ hp
        rw [List.append_assoc]
        refine List.Perm.append_left _ ?_
        show (w :: (F ++ rest (g.set m (cur, l.dropLast)))).Perm _
        exact List.perm_middle.symm.trans (List.Perm.append_left _ hr)
      · have := hr.length_eq
        simp at this ⊢
        omega
    | none =>
      have hl0 : l = [] := List.getLast?_eq_none_iff.mp el
      subst hl0
      have hno := gok_none hg e2
      have hx : x = cur := by
        have h1 := even cur
        rw [← bal_perm hp cur, bal_append, bal_append, walk_bal hP, walk_bal hF] at h1
        have h2 := bal_le hno
        rw [if_pos (rfl : cur = cur)] at h1
        refine Classical.byContradiction fun z => ?_
        rw [if_neg z] at h1
        omega
      subst hx
      dsimp only
      rcases htop with ⟨rfl, rfl, rfl⟩ | ⟨P', w, rfl, rfl, hw⟩
      · obtain ⟨c, rfl⟩ : ∃ c', c = c' + 1 := ⟨c - 1, by simp at hc; omega⟩
        exact ⟨F, g, by simp [stackOf, tripGo], hF, by simpa using hp, hd, hno⟩
      · have e3 : (stackOf base (P' ++ [w])).dropLast = stackOf base P' := by rw [stack_snoc, List.dropLast_concat]
        have e4 : F.reverse.map some ++ [some w] = (w :: F).reverse.map some := by simp
        rw [e3, e4]
        refine ih g P' (w :: F) w.dropLast w.dropLast hg hk (walk_unsnoc hP).1 ⟨rfl, by rw [hw]; exact hF⟩ ?_ (fun u hu v hv => ?_) (by simp at hc ⊢; omega)
        · refine List.Perm.trans ?_ hp
          rw [List.append_assoc]; rfl
        · rcases List.mem_cons.mp hu with rfl | hu
          · rw [hw]; exact hno v hv
          · exact hd u hu v hv
end My
namespace My
open PySem PySem.Spec L2 DL
theorem gAdd_ok {g : Grp} {w : List Int} (h : GOk g) : GOk (gAdd g w.dropLast w) ∧ (rest (gAdd g w.dropLast w)).Perm (w :: rest g) ∧ ∀ k, k ∈ (gAdd g w.dropLast w).map (·.1) ↔ k = w.dropLast ∨ k ∈ g.map (·.1) := by
  unfold gAdd
  cases e : gIx g w.dropLast with
  | none =>
    dsimp only
    have hn : w.dropLast ∉ g.map (·.1) := fun z => by
      obtain ⟨m, l, e1, _⟩ := gIx_mem z
      rw [e] at e1; cases e1
    refine ⟨⟨fun p hp v hv => ?_, ?_⟩, ?_, fun k => ?_⟩
    · rcases List.mem_append.mp hp with hp | hp
      · exact h.1 p hp v hv
      · rw [List.mem_singleton.mp hp] at hv ⊢
        rw [List.mem_singleton.mp hv]
    · rw [List.map_append]
      exact List.nodup_append.mpr ⟨h.2, by simp, fun a ha b hb => by
        rw [List.mem_singleton.mp hb]
        rintro rfl
        exact hn ha⟩
    · unfold rest
      rw [List.flatMap_append]
      show (_ ++ [w]).Perm _
      exact List.perm_append_comm
    · rw [List.map_append]; simp [or_comm]
  | some m =>
    obtain ⟨l, hm⟩ := gIx_get e
    dsimp only
    rw [hm]
    dsimp only
    have ek : (g.set m (w.dropLast, l ++ [w])).map (·.1) = g.map (·.1) := by
      rw [List.map_set]
      refine List.ext_getElem? fun n => ?_
      rw [List.getElem?_set]
      by_cases z : m = n
      · subst z
        rw [if_pos rfl, List.getElem?_map, hm]
        simp [(List.getElem?_eq_some_iff.mp hm).1]
      · rw [if_neg z]
    have hset : (g.set m (w.dropLast, l ++ [w]))[m]? = some (w.dropLast, l ++ [w]) := by
      rw [List.getElem?_set, if_pos rfl, if_pos (List.getElem?_eq_some_iff.mp hm).1]
    have hr := rest_set hset (by simp : (l ++ [w]).getLast? = some w)
    rw [List.set_set, List.dropLast_concat] at hr
    have hs : g.set m (w.dropLast, l) = g := by
      refine List.ext_getElem? fun n => ?_
      rw [List.getElem?_set]
      by_cases z : m = n
      · subst z
        rw [if_pos rfl, if_pos (List.getElem?_eq_some_iff.mp hm).1, hm]
      · rw [if_neg z]
    rw [hs] at hr
    refine ⟨⟨fun p hp v hv => ?_, by rw [ek]; exact h.2⟩, hr.symm, fun k => ?_⟩
    · rcases List.mem_or_eq_of_mem_set hp with hp | rfl
      · exact h.1 p hp v hv
      · rcases List.mem_append.mp hv with hv | hv
        · exact h.1 _ (List.mem_of_getElem? hm) v hv
        · rw [List.mem_singleton.mp hv]
    · rw [ek]
      constructor
      · exact .inr
      · rintro (rfl | z)
        · exact List.mem_map.mpr ⟨_, List.mem_of_getElem? hm, rfl⟩
        · exact z
theorem grp_ok : ∀ (ws : List (List Int)) (g : Grp), GOk g → GOk (ws.foldl (fun g w => gAdd g w.dropLast w) g) ∧ (rest (ws.foldl (fun g w => gAdd g w.dropLast w) g)).Perm (ws ++ rest g) ∧ ∀ w ∈ ws, w.dropLast ∈ (ws.foldl (fun g w => gAdd g w.dropLast w) g).map (·.1) := by
  have keep : ∀ (ws : List (List Int)) (g : Grp) (k : List Int), GOk g → k ∈ g.map (·.1) → k ∈ (ws.foldl (fun g w => gAdd g w.dropLast w) g).map (·.1) := by
    intro ws
    induction ws with
    | nil => intro g k _ h; exact h
    | cons w ws ih => intro g k h hk; exact ih _ k (gAdd_ok h).1 (((gAdd_ok h).2.2 k).mpr (.inr hk))
  intro ws
  induction ws with
  | nil => intro g h; exact ⟨h, List.Perm.refl _, by simp⟩
  | cons w ws ih =>
    intro g h
    obtain ⟨a1, a2, a3⟩ := gAdd_ok (w := w) h
    obtain ⟨b1, b2, b3⟩ := ih _ a1
    refine ⟨b1, ?_, fun v hv => ?_⟩
    · refine b2.trans ?_
      exact (List.Perm.append_left _ a2).trans List.perm_middle
    · rcases List.mem_cons.mp hv with rfl | hv
      · exact keep ws _ _ a1 ((a3 _).mpr (.inl rfl))
      · exact b3 v hv
end My
namespace My
open PySem PySem.Spec L2 DL
theorem cgo_sub (ws : List (List Int)) (D : List Int → Prop) (hD : ∀ w ∈ ws, D w.dropLast → D (w.drop 1)) : ∀ (c p : Nat) (f : List (List Int)), (∀ x ∈ f, D x) → ∀ x ∈ cgo ws c p f, D x
  | 0, p, f, h => h
  | c + 1, p, f, h => by
    simp only [cgo]
    split
    · rename_i hp
      obtain ⟨g, e, _, m, _⟩ := cstep_spec ws (f.getD p []) f
      rw [e]
      refine cgo_sub ws D hD c (p + 1) (f ++ g) fun x hx => ?_
      rcases List.mem_append.mp hx with hx | hx
      · exact h x hx
      · obtain ⟨w, hw, e1, rfl⟩ := m x hx
        refine hD w hw ?_
        rw [e1]
        have : f.getD p [] = f[p] := by simp [List.getD, hp]
        rw [this]
        exact h _ (List.getElem_mem _)
    · exact h
theorem come_sub (ws : List (List Int)) (s : List Int) (D : List Int → Prop) (h0 : D s) (hD : ∀ w ∈ ws, D w.dropLast → D (w.drop 1)) : ∀ x ∈ come ws s, D x :=
  cgo_sub ws D hD _ _ [s] fun x hx => by rw [List.mem_singleton.mp hx]; exact h0
theorem bal_out {ws : List (List Int)} {k : List Int} (h : k ∉ jk ws) : bal ws k = 0 := by
  have h1 : ∀ w ∈ ws, w.dropLast ≠ k ∧ w.drop 1 ≠ k := fun w hw => ⟨fun e => h (jk_mem.mpr ⟨w, hw, .inl e.symm⟩), fun e => h (jk_mem.mpr ⟨w, hw, .inr e.symm⟩)⟩
  clear h
  induction ws with
  | nil => rfl
  | cons w ws ih =>
    rw [bal_cons, if_neg (h1 w List.mem_cons_self).1, if_neg (h1 w List.mem_cons_self).2, ih fun v hv => h1 v (List.mem_cons_of_mem _ hv)]
    rfl
theorem uneven_none {ws : List (List Int)} (h : uneven ws = none) (k : List Int) : bal ws k = 0 := by
  by_cases q : k ∈ jk ws
  · have := List.find?_eq_none.mp h k ((isrt_perm _).mem_iff.mpr q)
    simpa using this
  · exact bal_out q
/-- a book that lacks nothing: the row told is a closed one of all its words -/
theorem trip_full (ws : List (List Int)) (h0 : ws ≠ []) (hno : lackL ws = .no) : ∃ r, trip ws = some (r.reverse.map some ++ [none]) ∧ r.Perm ws ∧ walk (minB ws).dropLast (minB ws).dropLast r := by
  unfold lackL at hno
  cases eu : uneven ws with
  | some k => rw [eu] at hno; cases hno
  | none =>
    rw [eu] at hno
    dsimp only at hno
    split at hno
    · cases hno
    · rename_i hlen
      have even := uneven_none eu
      have hmin := (minB_mem h0).1
      have hsp : ((isrt ws).reverse).Perm ws := (List.reverse_perm _).trans (isrt_perm ws)
      obtain ⟨b1, b2, b3⟩ := grp_ok (isrt ws).reverse [] ⟨fun p hp => (by cases hp), List.nodup_nil⟩
      have b2' : (rest (grp (isrt ws).reverse)).Perm ws := by
        have : (isrt ws).reverse ++ rest [] = (isrt ws).reverse := by simp [rest]
        rw [this] at b2
        exact b2.trans hsp
      have hl := b2'.length_eq
      obtain ⟨F, gF, t1, t2, t3, t4, t5⟩ := trip_run ws (minB ws).dropLast even ⟨_, hmin, rfl⟩ (4 * ws.length + 10) (grp (isrt ws).reverse) [] [] (minB ws).dropLast (minB ws).dropLast b1 (fun k ⟨w, hw, e⟩ => by
        rw [← e]; exact b3 w (hsp.mem_iff.mpr hw)) rfl rfl (by simpa using b2') (by simp) (by simp; omega)
      have hcs := come_sub ws (minB ws).dropLast (fun k => ∀ v ∈ rest gF, v.dropLast ≠ k) t5 (fun w hw hd => by
        rcases List.mem_append.mp (t3.mem_iff.mpr hw) with hw | hw
        · exact t4 w hw
        · exact absurd rfl (hd w hw))
      have hcj : ∀ x ∈ come ws (minB ws).dropLast, x ∈ jk ws := fun x hx => by
        rcases List.mem_cons.mp ((come_nodup _ _).2 x hx) with rfl | hx
        · exact jk_mem.mpr ⟨_, hmin, .inl rfl⟩
        · exact hx
      have hpm := nodup_sub (come ws (minB ws).dropLast) (jk ws) (come_nodup _ _).1 hcj
      have hpm2 := hpm.2 (by omega)
      have hre : rest gF = [] := by
        cases e : rest gF with
        | nil => rfl
        | cons v vs =>
          exfalso
          have hv : v ∈ rest gF := by rw [e]; exact List.mem_cons_self
          have hvw : v ∈ ws := t3.mem_iff.mp (List.mem_append_right _ hv)
          exact hcs v.dropLast (hpm2.mem_iff.mp (jk_mem.mpr ⟨v, hvw, .inl rfl⟩)) v hv rfl
      rw [hre, List.append_nil] at t3
      exact ⟨F, t1, t3, t2⟩
end My
namespace My
open PySem PySem.Spec L2 DL
/-! rings of all words -/
theorem fw_mem {s k : Int} (hs : 0 < s) : ∀ {n : Nat} {x : Int}, x ∈ wb s n k → 0 ≤ x ∧ x < s
  | 0, x, h => by cases h
  | n + 1, x, h => by
    simp only [wb, List.mem_cons] at h
    rcases h with rfl | h
    · exact ⟨Int.emod_nonneg _ (by omega), Int.emod_lt_of_pos _ hs⟩
    · exact fw_mem hs h
theorem fnumb_acc (s : Int) : ∀ (w : List Int) (a : Int), w.foldl (fun a x => a * s + x) a = a * s ^ w.length + numb s w
  | [], a => by simp [numb]
  | x :: w, a => by
    unfold numb
    rw [List.foldl_cons, List.foldl_cons, fnumb_acc s w, fnumb_acc s w (0 * s + x), List.length_cons, Int.pow_succ]
    grind
theorem fnumb_cons (s x : Int) (w : List Int) : numb s (x :: w) = x * s ^ w.length + numb s w := by
  show List.foldl (fun a x => a * s + x) (0 * s + x) w = _
  rw [fnumb_acc, Int.zero_mul, Int.zero_add]
theorem fnumb_wb {s k : Int} (hs : 0 < s) : ∀ {n : Nat}, 0 ≤ k → numb s (wb s n k) = k % s ^ n
  | 0, h => by simp [wb, numb]
  | n + 1, h => by
    rw [wb, fnumb_cons, wb_length, fnumb_wb hs h]
    have hp : 0 < s ^ n := Int.pow_pos hs
    have e1 : k / s ^ n % s * s ^ n + k % s ^ n = k % (s ^ n * s) := by
      rw [Int.emod_def k (s ^ n * s), ← Int.ediv_ediv_of_nonneg (by omega : 0 ≤ s ^ n), Int.emod_def (k / s ^ n) s, Int.emod_def k (s ^ n)]
      grind
    rw [Int.pow_succ, ← e1]
theorem fnumb_lt {s : Int} (hs : 0 < s) : ∀ {w : List Int}, (∀ x ∈ w, 0 ≤ x ∧ x < s) → 0 ≤ numb s w ∧ numb s w < s ^ w.length
  | [], _ => by simp [numb]
  | x :: w, h => by
    obtain ⟨h1, h2⟩ := fnumb_lt hs (w := w) fun y hy => h y (List.mem_cons_of_mem _ hy)
    have hx := h x List.mem_cons_self
    have hp : 0 < s ^ w.length := Int.pow_pos hs
    rw [fnumb_cons, List.length_cons, Int.pow_succ]
    have m1 : 0 ≤ x * s ^ w.length := Int.mul_nonneg hx.1 (by omega)
    have m2 : x * s ^ w.length ≤ (s - 1) * s ^ w.length := Int.mul_le_mul_of_nonneg_right (by omega) (by omega)
    rw [Int.sub_mul, Int.one_mul] at m2
    rw [Int.mul_comm _ s]
    omega
theorem fwb_add {s : Int} (hs : 0 < s) : ∀ {n : Nat} (k c : Int), wb s n (k + c * s ^ n) = wb s n k
  | 0, k, c => rfl
  | n + 1, k, c => by
    have hp : 0 < s ^ n := Int.pow_pos hs
    have e : k + c * s ^ (n + 1) = k + (c * s) * s ^ n := by rw [Int.pow_succ, Int.mul_assoc, Int.mul_comm s]
    simp only [wb]
    rw [e, fwb_add hs k (c * s), Int.add_mul_ediv_right _ _ (by omega), Int.add_mul_emod_self_right]
theorem fwb_numb {s : Int} (hs : 0 < s) : ∀ {w : List Int}, (∀ x ∈ w, 0 ≤ x ∧ x < s) → wb s w.length (numb s w) = w
  | [], _ => rfl
  | x :: w, h => by
    have hw : ∀ y ∈ w, 0 ≤ y ∧ y < s := fun y hy => h y (List.mem_cons_of_mem _ hy)
    obtain ⟨h1, h2⟩ := fnumb_lt hs hw
    have hx := h x List.mem_cons_self
    have hp : 0 < s ^ w.length := Int.pow_pos hs
    have e : numb s (x :: w) = numb s w + x * s ^ w.length := by rw [fnumb_cons, Int.add_comm]
    show (numb s (x :: w) / s ^ w.length % s) :: wb s w.length (numb s (x :: w)) = _
    rw [e, fwb_add hs, fwb_numb hs hw, Int.add_mul_ediv_right _ _ (by omega), Int.ediv_eq_zero_of_lt h1 h2, Int.zero_add, Int.emod_eq_of_lt hx.1 hx.2]
theorem words_mem {s : Int} {n : Nat} {w : List Int} (hs : 0 < s) : w ∈ words s n ↔ w.length = n ∧ ∀ x ∈ w, 0 ≤ x ∧ x < s := by
  unfold words
  rw [Int.toNat_natCast]
  constructor
  · intro h
    obtain ⟨k, _, rfl⟩ := List.mem_map.mp h
    exact ⟨wb_length, fun x hx => fw_mem hs hx⟩
  · rintro ⟨rfl, h⟩
    obtain ⟨h1, h2⟩ := fnumb_lt hs h
    exact List.mem_map.mpr ⟨(numb s w).toNat, List.mem_range.mpr (by omega), by rw [Int.toNat_of_nonneg h1]; exact fwb_numb hs h⟩
theorem words_numb {s : Int} {n : Nat} (hs : 0 < s) : (words s n).map (numb s) = (List.range (s ^ n).toNat).map fun k : Nat => (k : Int) := by
  unfold words
  rw [Int.toNat_natCast, List.map_map]
  refine List.map_congr_left fun k hk => ?_
  have hk := List.mem_range.mp hk
  show numb s (wb s n k) = k
  rw [fnumb_wb hs (by omega), Int.emod_eq_of_lt (by omega) (by omega)]
theorem words_nodup {s : Int} {n : Nat} (hs : 0 < s) : (words s n).Nodup := by
  have h : ((words s n).map (numb s)).Nodup := by
    rw [words_numb hs]
    exact nodup_map (fun i _ j _ e => by omega) List.nodup_range
  exact List.Pairwise.imp (fun ne e => ne (by rw [e])) (List.pairwise_map.mp h)
theorem words_length {s : Int} {n : Nat} : (words s n).length = (s ^ n).toNat := by simp [words]
def Full (s : Int) (n : Nat) (r : List Int) : Prop := 0 < r.length ∧ r.length = (s ^ n).toNat ∧ (∀ x ∈ r, 0 ≤ x ∧ x < s) ∧ (wrd r n).Nodup
theorem cyc_mem {r : List Int} (h : 0 < r.length) (i : Nat) : cyc r i ∈ r := by
  have hx : i % r.length < r.length := Nat.mod_lt _ h
  have : cyc r i = r[i % r.length] := by simp [cyc, List.getD, hx]
  rw [this]
  exact List.getElem_mem _
theorem wrd_in {s : Int} {r : List Int} {m : Nat} (h : 0 < r.length) (hv : ∀ x ∈ r, 0 ≤ x ∧ x < s) (hs : 0 < s) {w : List Int} (hw : w ∈ wrd r m) : w ∈ words s m := by
  obtain ⟨p, _, rfl⟩ := List.mem_map.mp hw
  rw [words_mem hs]
  refine ⟨frm_len _ _ _, fun x hx => ?_⟩
  obtain ⟨j, _, rfl⟩ := List.mem_map.mp hx
  exact hv _ (cyc_mem h _)
theorem full_perm {s : Int} {n : Nat} {r : List Int} (hs : 0 < s) (h : Full s n r) : (wrd r n).Perm (words s n) := by
  obtain ⟨h1, h2, h3, h4⟩ := h
  refine ((nodup_sub (wrd r n) (words s n) h4 fun x hx => wrd_in h1 h3 hs hx).2 ?_).symm
  rw [words_length, ← h2]
  simp [wrd]
theorem full_turn {s : Int} {n p : Nat} {r : List Int} (h : Full s n r) (hp : p ≤ r.length) : Full s n (r.drop p ++ r.take p) := by
  obtain ⟨h1, h2, h3, h4⟩ := h
  have hl : (r.drop p ++ r.take p).length = r.length := by simp; omega
  refine ⟨by omega, by omega, fun x hx => ?_, (wrd_turn hp n).symm.nodup h4⟩
  rcases List.mem_append.mp hx with hx | hx
  · exact h3 x (List.mem_of_mem_drop hx)
  · exact h3 x (List.mem_of_mem_take hx)
theorem cyc_rev {r : List Int} (h : 0 < r.length) (i : Nat) : cyc r.reverse i = cyc r (r.length - 1 - i % r.length) := by
  have hx : i % r.length < r.length := Nat.mod_lt _ h
  have h2 : (r.length - 1 - i % r.length) % r.length = r.length - 1 - i % r.length := Nat.mod_eq_of_lt (by omega)
  unfold cyc
  rw [h2, List.length_reverse]
  simp only [List.getD]
  rw [List.getElem?_reverse hx]
theorem cyc_eq_mod {r : List Int} {i j : Nat} (h : i % r.length = j % r.length) : cyc r i = cyc r j := by unfold cyc; rw [h]
theorem full_rev {s : Int} {n : Nat} {r : List Int} (h : Full s n r) : Full s n r.reverse := by
  obtain ⟨h1, h2, h3, h4⟩ := h
  refine ⟨by simpa using h1, by simpa using h2, fun x hx => h3 x (List.mem_reverse.mp hx), ?_⟩
  have key : ∀ p, p < r.length → frm r.reverse p n = (frm r (r.length * n + r.length - p - n) n).reverse := by
    intro p hp
    apply List.ext_getElem
    · simp [frm_len]
    · intro j j1 j2
      rw [frm_len] at j1
      rw [List.getElem_reverse]
      simp only [frm, List.getElem_map, List.getElem_range, List.length_map, List.length_range]
      rw [cyc_rev h1]
      apply cyc_eq_mod
      have hm : (p + j) % r.length < r.length := Nat.mod_lt _ h1
      have hd := Nat.div_add_mod (p + j) r.length
      have hn : n ≤ r.length * n := Nat.le_mul_of_pos_left n h1
      have hle : r.length * ((p + j) / r.length) ≤ p + j := Nat.mul_div_le _ _
      have hq : (p + j) / r.length ≤ n := by
        have : (p + j) / r.length < n + 1 := Nat.div_lt_of_lt_mul (by rw [Nat.mul_add, Nat.mul_one]; omega)
        omega
      obtain ⟨t, ht⟩ : ∃ t, n = (p + j) / r.length + t := ⟨n - (p + j) / r.length, by omega⟩
      have e : r.length * n + r.length - p - n + (n - 1 - j) = r.length * t + (r.length - 1 - (p + j) % r.length) := by
        have e1 : r.length * n = r.length * ((p + j) / r.length) + r.length * t := by
          conv => lhs; rw [ht]
          rw [Nat.mul_add]
        omega
      rw [e, Nat.mul_add_mod]
  unfold wrd
  rw [List.length_reverse]
  refine nodup_map (fun p hp q hq e => ?_) List.nodup_range
  have hp := List.mem_range.mp hp
  have hq := List.mem_range.mp hq
  rw [key p hp, key q hq, List.reverse_inj] at e
  rw [← frm_mod r _ n, ← frm_mod r (_ - q - n) n] at e
  have hn : n ≤ r.length * n := Nat.le_mul_of_pos_left n h1
  have inj : ∀ a b, a < r.length → b < r.length → frm r a n = frm r b n → a = b := by
    intro a b ha hb e
    have := List.pairwise_map.mp h4
    rcases Nat.lt_trichotomy a b with c | c | c
    · have := List.pairwise_iff_getElem.mp this a b (by simpa using ha) (by simpa using hb) c
      simp at this
      exact absurd e this
    · exact c
    · have := List.pairwise_iff_getElem.mp this b a (by simpa using hb) (by simpa using ha) c
      simp at this
      exact absurd e.symm this
  have e2 := inj _ _ (Nat.mod_lt _ h1) (Nat.mod_lt _ h1) e
  have : ∀ a b, a ≤ b → b < a + r.length → a % r.length = b % r.length → a = b := by
    intro a b hab hb e
    have := Nat.sub_mod_eq_zero_of_mod_eq e.symm
    have := Nat.mod_eq_of_lt (show b - a < r.length by omega)
    omega
  rcases Nat.le_total p q with c | c
  · have := this _ _ (by omega) (by omega) e2.symm
    omega
  · have := this _ _ (by omega) (by omega) e2
    omega
end My
namespace My
open PySem PySem.Spec L2 DL
theorem cyc_map {r : List Int} (f : Int → Int) (h : 0 < r.length) (i : Nat) : cyc (r.map f) i = f (cyc r i) := by
  have hx : i % r.length < r.length := Nat.mod_lt _ h
  simp [cyc, List.getD, hx]
theorem wrd_map {r : List Int} (f : Int → Int) (h : 0 < r.length) (n : Nat) : wrd (r.map f) n = (wrd r n).map (List.map f) := by
  unfold wrd frm
  rw [List.length_map, List.map_map]
  refine List.map_congr_left fun p _ => ?_
  show _ = List.map f (List.map _ _)
  rw [List.map_map]
  exact List.map_congr_left fun j _ => cyc_map f h _
theorem full_ren {s : Int} {n : Nat} {r : List Int} {f : Int → Int} (h : Full s n r) (h1 : ∀ x, 0 ≤ x ∧ x < s → 0 ≤ f x ∧ f x < s) (h2 : ∀ x y, 0 ≤ x ∧ x < s → 0 ≤ y ∧ y < s → f x = f y → x = y) : Full s n (r.map f) := by
  obtain ⟨g1, g2, g3, g4⟩ := h
  refine ⟨by simpa using g1, by simpa using g2, fun x hx => ?_, ?_⟩
  · obtain ⟨y, hy, rfl⟩ := List.mem_map.mp hx
    exact h1 y (g3 y hy)
  · rw [wrd_map f g1]
    refine nodup_map (fun v hv w hw e => ?_) g4
    have rg : ∀ u ∈ wrd r n, ∀ x ∈ u, 0 ≤ x ∧ x < s := fun u hu x hx => by
      obtain ⟨p, _, rfl⟩ := List.mem_map.mp hu
      obtain ⟨j, _, rfl⟩ := List.mem_map.mp hx
      exact g3 _ (cyc_mem g1 _)
    have inj : ∀ v w : List Int, (∀ x ∈ v, 0 ≤ x ∧ x < s) → (∀ x ∈ w, 0 ≤ x ∧ x < s) → v.map f = w.map f → v = w := by
      intro v
      induction v with
      | nil => intro w _ _ e; cases w with
        | nil => rfl
        | cons => cases e
      | cons a v ih => intro w ha hb e; cases w with
        | nil => cases e
        | cons b w =>
          simp only [List.map_cons, List.cons.injEq] at e
          rw [h2 a b (ha _ List.mem_cons_self) (hb _ List.mem_cons_self) e.1, ih w (fun x hx => ha x (List.mem_cons_of_mem _ hx)) (fun x hx => hb x (List.mem_cons_of_mem _ hx)) e.2]
    exact inj v w (rg v hv) (rg w hw) e
theorem swap_perm {l : List Int} {i j : Nat} {a b : Int} (hi : l[i]? = some a) (hj : l[j]? = some b) : ((l.set i b).set j a).Perm l := by
  obtain ⟨ki, rfl⟩ := List.getElem?_eq_some_iff.mp hi
  obtain ⟨kj, rfl⟩ := List.getElem?_eq_some_iff.mp hj
  clear hi hj
  rw [List.perm_iff_count]
  intro x
  have hj2 : j < (l.set i l[j]).length := by simpa using kj
  have e1 : (l.set i l[j])[j] = l[j] := by
    rw [List.getElem_set]; split
    · rfl
    · rfl
  rw [List.count_set hj2, List.count_set ki, e1]
  have c1 : (if l[i] == x then 1 else 0) ≤ l.count x := by
    split
    · rename_i h
      have := List.count_pos_iff.mpr (show x ∈ l from by rw [← eq_of_beq h]; exact List.getElem_mem _)
      omega
    · omega
  omega
theorem wrd_inj {r : List Int} {n : Nat} (h4 : (wrd r n).Nodup) {a b : Nat} (ha : a < r.length) (hb : b < r.length) (e : frm r a n = frm r b n) : a = b := by
  have := List.pairwise_map.mp h4
  rcases Nat.lt_trichotomy a b with c | c | c
  · have := List.pairwise_iff_getElem.mp this a b (by simpa using ha) (by simpa using hb) c
    simp at this
    exact absurd e this
  · exact c
  · have := List.pairwise_iff_getElem.mp this b a (by simpa using hb) (by simpa using ha) c
    simp at this
    exact absurd e.symm this
theorem lift_key {s : Int} {n : Nat} {r : List Int} (hs : 0 < s) (h : Full s n r) {a b : Int} {p q : Nat} (e : frm (lifl s r a) p (n + 1) = frm (lifl s r b) q (n + 1)) :
    p % r.length = q % r.length ∧ (a + ((p / r.length : Nat) : Int) * sumR r) % s = (b + ((q / r.length : Nat) : Int) * sumR r) % s := by
  obtain ⟨g1, g2, g3, g4⟩ := h
  have e1 : frm r p n = frm r q n := by rw [← stp_frm hs g1 g3 p n (a := a), ← stp_frm hs g1 g3 q n (a := b), e]
  rw [← frm_mod r p, ← frm_mod r q] at e1
  have e2 := wrd_inj g4 (Nat.mod_lt _ g1) (Nat.mod_lt _ g1) e1
  refine ⟨e2, ?_⟩
  have e3 : lf s r a p = lf s r b q := by
    rw [frm_lifl hs g1, frm_lifl hs g1, List.range_succ_eq_map] at e
    simp only [List.map_cons, List.cons.injEq] at e
    exact e.1
  unfold lf at e3
  have p1 := prs_mul r (p % r.length) (p / r.length)
  have p2 := prs_mul r (q % r.length) (q / r.length)
  rw [Nat.div_add_mod] at p1 p2
  rw [p1, p2, e2, ← Int.add_assoc, ← Int.add_assoc] at e3
  exact (Int.emod_add_cancel_right _).mp e3
theorem full_lift {s : Int} {n : Nat} {r : List Int} (hs : 0 < s) (h : Full s n r) : ((liftedL s r).flatMap fun l => wrd l (n + 1)).Perm (words s (n + 1 : Nat)) := by
  have g := h
  obtain ⟨g1, g2, g3, g4⟩ := g
  have hlen : ∀ a, (lifl s r a).length = r.length * ordT s (sumR r) := fun a => by simp [lifl]
  have h0 : 0 < ordT s (sumR r) := by unfold ordT; omega
  have hpos := Nat.mul_pos g1 h0
  unfold liftedL
  rw [List.flatMap_map]
  have nd : ((repT s (sumR r) s.toNat).flatMap fun a => wrd (lifl s r a) (n + 1)).Nodup := by
    refine nodup_fm (fun a _ => ?_) ?_
    · refine nodup_map (fun p hp q hq e => ?_) List.nodup_range
      have hp := List.mem_range.mp hp
      have hq := List.mem_range.mp hq
      rw [hlen] at hp hq
      obtain ⟨e1, e2⟩ := lift_key hs h e
      have e3 := orb_inj hs (Nat.div_lt_of_lt_mul hp) (Nat.div_lt_of_lt_mul hq) e2
      rw [← Nat.div_add_mod p r.length, ← Nat.div_add_mod q r.length, e1, e3]
    · refine List.Pairwise.imp_of_mem (fun {a b} ha hb hab x h1 h2 => hab ?_) (rep_nodup s (sumR r) hs)
      obtain ⟨p, hp, rfl⟩ := List.mem_map.mp h1
      obtain ⟨q, hq, e⟩ := List.mem_map.mp h2
      have hp := List.mem_range.mp hp
      have hq := List.mem_range.mp hq
      rw [hlen] at hp hq
      obtain ⟨e1, e2⟩ := lift_key hs h e
      exact rep_same hs ha hb (mem_orb.mpr ⟨_, Nat.div_lt_of_lt_mul hp, rfl⟩) (mem_orb.mpr ⟨_, Nat.div_lt_of_lt_mul hq, e2⟩)
  refine ((nodup_sub _ (words s (n + 1 : Nat)) nd fun x hx => ?_).2 ?_).symm
  · obtain ⟨a, _, hx⟩ := List.mem_flatMap.mp hx
    refine wrd_in (by rw [hlen]; exact hpos) (fun y hy => ?_) hs hx
    obtain ⟨i, _, rfl⟩ := List.mem_map.mp hy
    exact lf_range hs i
  · rw [words_length, List.length_flatMap]
    have : (repT s (sumR r) s.toNat).map (fun a => (wrd (lifl s r a) (n + 1)).length) = (repT s (sumR r) s.toNat).map fun _ => r.length * ordT s (sumR r) := List.map_congr_left fun a _ => by simp [wrd, hlen]
    rw [this, List.map_const', List.sum_replicate_nat]
    have hc := rep_count s (sumR r) hs
    rw [Nat.mul_left_comm, hc, g2, Int.pow_succ, Int.toNat_mul (Int.le_of_lt (Int.pow_pos hs)) (by omega)]
theorem nxt_none {m : Nat} {f : List Int} {left : List (List Int)} (h : nxt m f left = none) {b : List Int} (hb : b ∈ left) {p q : Nat} (hp : p < f.length) (hq : q < b.length) : frm b q m ≠ frm f p m := by
  intro e
  obtain ⟨k, hk, rfl⟩ := List.mem_iff_getElem.mp hb
  unfold nxt at h
  have h1 := List.findSome?_eq_none_iff.mp h k (List.mem_range.mpr hk)
  have hg : left.getD k [] = left[k] := by simp [List.getD, hk]
  rw [hg, Option.map_eq_none_iff] at h1
  unfold twoL at h1
  have h2 := List.findSome?_eq_none_iff.mp h1 p (List.mem_range.mpr hp)
  rw [Option.map_eq_none_iff] at h2
  unfold frst at h2
  have h3 := List.find?_eq_none.mp h2 q (List.mem_range.mpr hq)
  simp [e] at h3
theorem frm_tail (r : List Int) (p m : Nat) : (frm r p (m + 1)).drop 1 = frm r (p + 1) m := by
  unfold frm
  rw [List.range_succ_eq_map, List.map_cons, List.map_map]
  simp only [List.drop_succ_cons, List.drop_zero]
  exact List.map_congr_left fun j _ => by show cyc r (p + (j + 1)) = _; congr 1; omega
theorem frm_init (r : List Int) (p m : Nat) : (frm r p (m + 1)).take m = frm r p m := by
  have : frm r p (m + 1) = frm r p m ++ [cyc r (p + m)] := by unfold frm; rw [List.range_succ, List.map_append]; rfl
  rw [this, List.take_append_of_le_length (by rw [frm_len]; exact Nat.le_refl _), List.take_of_length_le (by rw [frm_len]; exact Nat.le_refl _)]
theorem frm_in {r : List Int} (h : 0 < r.length) (p m : Nat) : frm r p m ∈ wrd r m := by
  rw [← frm_mod r p]
  exact List.mem_map.mpr ⟨_, List.mem_range.mpr (Nat.mod_lt _ h), rfl⟩
theorem jall_tot {s : Int} {m : Nat} (hs : 0 < s) (hm : 0 < m) : ∀ (n : Nat) (f : List Int) (left : List (List Int)), 0 < f.length → (∀ b ∈ left, 0 < b.length) → left.length = n → (wrd f (m + 1) ++ left.flatMap fun b => wrd b (m + 1)).Perm (words s (m + 1 : Nat)) → ∃ r, jall m n f left = some r := by
  intro n
  induction n with
  | zero => intro f left _ _ _ _; exact ⟨f, rfl⟩
  | succ n ih =>
    intro f left hf hl hn hp
    simp only [jall]
    cases en : nxt m f left with
    | some p =>
      obtain ⟨q, l⟩ := p
      obtain ⟨b, h1, hpb⟩ := nxt_some en
      have g1 := nxt_len en
      have g3 := twoL_len h1
      refine ih q l (by omega) (fun c hc => hl c (hpb.mem_iff.mp (List.mem_cons_of_mem _ hc))) (by omega) (.trans ?_ hp)
      obtain ⟨x, y, hx, hy, hxy, rfl⟩ := twoL_some h1
      have k2 := wrd_put (a := f) (b := b) (p := x) (q := y) (m := m + 1) hx hy (by simpa using hxy.symm)
      refine (k2.append_right _).trans ?_
      rw [List.append_assoc]
      refine List.Perm.append_left _ ?_
      have := hpb.flatMap_right (fun b => wrd b (m + 1))
      simpa using this
    | none =>
      exfalso
      obtain ⟨b, left', rfl⟩ : ∃ b l, left = b :: l := by
        cases left with
        | nil => cases hn
        | cons b l => exact ⟨b, l, rfl⟩
      have hb := hl b List.mem_cons_self
      have rf : ∀ w ∈ words s (m + 1 : Nat), ∀ x ∈ w, 0 ≤ x ∧ x < s := fun w hw => ((words_mem hs).mp hw).2
      have clo : ∀ w ∈ wrd f m, ∀ x, 0 ≤ x ∧ x < s → w.drop 1 ++ [x] ∈ wrd f m := by
        intro w hw x hx
        obtain ⟨p, hpp, rfl⟩ := List.mem_map.mp hw
        have hpp := List.mem_range.mp hpp
        have hwr : ∀ y ∈ frm f p m, 0 ≤ y ∧ y < s := by
          intro y hy
          have := rf (frm f p (m + 1)) (hp.mem_iff.mp (List.mem_append_left _ (frm_in hf p (m + 1))))
          refine this y ?_
          rw [← frm_init] at hy
          exact List.mem_of_mem_take hy
        have : frm f p m ++ [x] ∈ words s (m + 1 : Nat) := (words_mem hs).mpr ⟨by simp [frm_len], fun y hy => by
          rcases List.mem_append.mp hy with hy | hy
          · exact hwr y hy
          · rw [List.mem_singleton.mp hy]; exact hx⟩
        rcases List.mem_append.mp (hp.mem_iff.mpr this) with h1 | h1
        · obtain ⟨q, hq, e⟩ := List.mem_map.mp h1
          have e2 := congrArg (List.drop 1) e
          rw [frm_tail, List.drop_append_of_le_length (by rw [frm_len]; omega)] at e2
          rw [← e2]
          exact frm_in hf _ _
        · obtain ⟨c, hc, h1⟩ := List.mem_flatMap.mp h1
          obtain ⟨q, hq, e⟩ := List.mem_map.mp h1
          have e2 := congrArg (List.take m) e
          rw [frm_init, List.take_append_of_le_length (by rw [frm_len]; exact Nat.le_refl _), List.take_of_length_le (by rw [frm_len]; exact Nat.le_refl _)] at e2
          exact absurd e2 (nxt_none en hc hpp (List.mem_range.mp hq))
      have steps : ∀ (v w : List Int), w ∈ wrd f m → w.length = m → (∀ x ∈ v, 0 ≤ x ∧ x < s) → (w ++ v).drop v.length ∈ wrd f m := by
        intro v
        induction v with
        | nil => intro w hw _ _; simpa using hw
        | cons x v ihv =>
          intro w hw hwl hv
          have := ihv (w.drop 1 ++ [x]) (clo w hw x (hv x List.mem_cons_self)) (by simp; omega) (fun y hy => hv y (List.mem_cons_of_mem _ hy))
          have e : (w ++ x :: v).drop (x :: v).length = (w.drop 1 ++ [x] ++ v).drop v.length := by
            rw [List.length_cons, Nat.add_comm, ← List.drop_drop, List.drop_append_of_le_length (by omega), List.append_assoc]; rfl
          rw [e]
          exact this
      have hbw : frm b 0 (m + 1) ∈ words s (m + 1 : Nat) := hp.mem_iff.mp (List.mem_append_right _ (List.mem_flatMap.mpr ⟨b, List.mem_cons_self, frm_in hb 0 (m + 1)⟩))
      have hbr : ∀ y ∈ frm b 0 m, 0 ≤ y ∧ y < s := by
        intro y hy
        refine rf _ hbw y ?_
        rw [← frm_init] at hy
        exact List.mem_of_mem_take hy
      have := steps (frm b 0 m) (frm f 0 m) (frm_in hf 0 m) (frm_len _ _ _) hbr
      have e : (frm f 0 m ++ frm b 0 m).drop (frm b 0 m).length = frm b 0 m := by
        rw [List.drop_append_of_le_length (by simp [frm_len]), List.drop_of_length_le (by simp [frm_len]), List.nil_append]
      rw [e] at this
      obtain ⟨p, hpp, e⟩ := List.mem_map.mp this
      exact nxt_none en List.mem_cons_self (List.mem_range.mp hpp) hb e.symm
theorem perm_heads {r r' : List Int} {n : Nat} (hn : 0 < n) (h : (wrd r n).Perm (wrd r' n)) : r.Perm r' := by
  have e : ∀ r : List Int, (wrd r n).map (fun w => w.headD 0) = r := by
    intro r
    conv => rhs; rw [← frm_self r]
    unfold wrd
    rw [List.map_map]
    unfold frm
    refine List.map_congr_left fun p _ => ?_
    obtain ⟨k, rfl⟩ : ∃ k, n = k + 1 := ⟨n - 1, by omega⟩
    simp [List.range_succ_eq_map]
  rw [← e r, ← e r']
  exact h.map _
theorem full_of {s : Int} {n : Nat} {r : List Int} (hs : 0 < s) (hn : 0 < n) (h : (wrd r n).Perm (words s n)) : r.length = (s ^ n).toNat ∧ (∀ x ∈ r, 0 ≤ x ∧ x < s) := by
  refine ⟨by have := h.length_eq; rw [words_length] at this; rw [← this]; simp [wrd], fun x hx => ?_⟩
  obtain ⟨i, hi, rfl⟩ := List.mem_iff_getElem.mp hx
  have h0 : 0 < r.length := by omega
  have hm := h.mem_iff.mp (frm_in h0 i n)
  refine ((words_mem hs).mp hm).2 _ ?_
  refine List.mem_map.mpr ⟨0, List.mem_range.mpr hn, ?_⟩
  rw [Nat.add_zero, cyc_lt hi]
  simp [List.getD, hi]
end My
namespace My
open PySem PySem.Spec L2 DL
theorem walk_step : ∀ {r : List (List Int)} {a b : List Int} (i : Nat) (h : i + 1 < r.length), walk a b r → (r[i]'(by omega)).drop 1 = (r[i + 1]).dropLast
  | [w], a, b, i, h, _ => by simp at h
  | w :: v :: r, a, b, 0, h, hw => by
    obtain ⟨_, h2, _⟩ := hw
    exact h2.symm
  | w :: v :: r, a, b, i + 1, h, hw => walk_step (r := v :: r) i (by simpa using h) hw.2
theorem walk_end : ∀ {r : List (List Int)} {a b : List Int} (h : r ≠ []), walk a b r → (r.getLast h).drop 1 = b
  | [w], a, b, _, hw => hw.2
  | w :: v :: r, a, b, _, hw => by
    rw [List.getLast_cons (by simp)]
    exact walk_end (by simp) hw.2
theorem walk_begin {r : List (List Int)} {a b : List Int} (h : 0 < r.length) (hw : walk a b r) : (r[0]).dropLast = a := by
  cases r with
  | nil => simp at h
  | cons w r => exact hw.1
/-- the next word of a closed row -/
theorem walk_next {r : List (List Int)} {a : List Int} (hw : walk a a r) (i : Nat) (h : i < r.length) : (r[i]).drop 1 = (r[(i + 1) % r.length]'(Nat.mod_lt _ (by omega))).dropLast := by
  by_cases q : i + 1 < r.length
  · have e : (i + 1) % r.length = i + 1 := Nat.mod_eq_of_lt q
    have := walk_step i q hw
    simp only [e]
    exact this
  · have e1 : i + 1 = r.length := by omega
    have e : (i + 1) % r.length = 0 := by rw [e1, Nat.mod_self]
    simp only [e]
    have hne : r ≠ [] := fun z => by rw [z] at h; simp at h
    rw [walk_begin (by omega) hw]
    have h3 := walk_end hne hw
    rw [List.getLast_eq_getElem] at h3
    have e2 : r.length - 1 = i := by omega
    simp only [e2] at h3
    exact h3
theorem heads_cyc {r : List (List Int)} (h : 0 < r.length) (i : Nat) : cyc (heads r) i = ((r[i % r.length]'(Nat.mod_lt _ h)).headD 0) := by
  have hx : i % r.length < r.length := Nat.mod_lt _ h
  simp [cyc, heads, List.getD, hx]
theorem heads_frm {r : List (List Int)} {a : List Int} (h : 0 < r.length) (hw : walk a a r) : ∀ (m n i : Nat), m ≤ n → Sized n r → frm (heads r) i m = (r[i % r.length]'(Nat.mod_lt _ h)).take m
  | 0, n, i, _, _ => by simp [frm]
  | m + 1, n, i, hm, hs => by
    have hx : i % r.length < r.length := Nat.mod_lt _ h
    have e1 : frm (heads r) i (m + 1) = cyc (heads r) i :: frm (heads r) (i + 1) m := by
      unfold frm
      rw [List.range_succ_eq_map, List.map_cons, List.map_map]
      congr 1
      exact List.map_congr_left fun j _ => by show cyc _ (i + (j + 1)) = _; congr 1; omega
    have hn := walk_next hw (i % r.length) hx
    have e2 : (i % r.length + 1) % r.length = (i + 1) % r.length := by rw [Nat.mod_add_mod]
    simp only [e2] at hn
    have hsz := hs _ (List.getElem_mem hx)
    have hsz2 := hs _ (List.getElem_mem (Nat.mod_lt (i + 1) h))
    rw [e1, heads_cyc h, heads_frm h hw m n (i + 1) (by omega) hs]
    have e3 : (r[(i + 1) % r.length]'(Nat.mod_lt _ h)).take m = (r[(i + 1) % r.length]'(Nat.mod_lt _ h)).dropLast.take m := by
      rw [List.dropLast_eq_take, List.take_take]
      congr 1
      omega
    rw [e3, ← hn]
    cases hc : r[i % r.length]'hx with
    | nil => rw [hc] at hsz; simp at hsz; omega
    | cons x w => simp
/-- the words of the ring of first signs -/
theorem heads_wrd {r : List (List Int)} {a : List Int} {n : Nat} (h : 0 < r.length) (hw : walk a a r) (hs : Sized n r) : wrd (heads r) n = r := by
  unfold wrd
  have hl : (heads r).length = r.length := by simp [heads]
  rw [hl]
  refine List.ext_getElem (by simp) fun i h1 h2 => ?_
  rw [List.getElem_map, List.getElem_range, heads_frm h hw n n i (Nat.le_refl _) hs]
  have e : i % r.length = i := Nat.mod_eq_of_lt h2
  simp only [e]
  rw [List.take_of_length_le (by rw [hs _ (List.getElem_mem h2)]; exact Nat.le_refl _)]
end My
namespace My
open PySem PySem.Spec L2 DL
/-- a book over so many signs, of words of one size -/
def Book (s : Int) (n : Nat) (ws : List (List Int)) : Prop := ws ≠ [] ∧ ws.Nodup ∧ ∀ w ∈ ws, w.length = n ∧ ∀ x ∈ w, 0 ≤ x ∧ x < s
theorem isW_li {s : Int} {w : List Int} (h : 1 ≤ w.length ∧ w.length ≤ 8) (hv : ∀ x ∈ w, 0 ≤ x ∧ x < s) : isW s (li w) = true := by
  simp only [isW, Bool.and_eq_true, decide_eq_true_eq, List.all_eq_true, List.length_map]
  refine ⟨h.1, h.2, fun d hd => ?_⟩
  obtain ⟨x, hx, rfl⟩ := List.mem_map.mp hd
  have := hv x hx
  simp; omega
theorem need_turn (s : Int) (n : Nat) (w : List Int) (l : List (List Int)) (x2 : Sl) (hw : w.length = n) (hn : 1 ≤ n ∧ n ≤ 8) (hv : ∀ x ∈ w, 0 ≤ x ∧ x < s) (hm : w ∉ l) (hl : l.length ≤ 10000) :
    b_need_book_1 [.sh (.int s), .sh (.int n), x2, .ow (.dT (trues l)), .sh (li w)] = .nx [.sh (.int s), .sh (.int n), x2, .ow (.dT (trues (l ++ [w]))), .sh (li w)] := by
  have f1 := F_is_word_eq s (li w) kn1_li
  rw [isW_li (by omega) hv] at f1
  have h5 : keyD (tupI w) = some (.t w) := keyD_ti w
  have d1 : inDO ⟨.sh, tupI w⟩ ⟨.ow, .dT (trues l)⟩ = some ⟨.sh, .bl false⟩ := by
    simp -implicitDefEqProofs only [inDO, lookD, h5, Option.map_some, valV_true]
    rw [if_neg hm]; rfl
  have h4 : (trues l).length < lim := lim_lt (by simp [trues]; omega)
  have q4 : addK l w = l ++ [w] := by unfold addK; rw [if_neg hm]
  have p1 : putDct (.dT (trues l)) (tupI w) (.bl true) = some (.dT (trues (l ++ [w]))) := by
    simp -implicitDefEqProofs only [putDct, h5, h4, if_true, putK_true, q4]
  have hlw : ((w.map D.int).length : Int) = n := by simp [hw]
  have t1 : D.tup (w.map .int) = tupI w := rfl
  generalize trues (l ++ [w]) = TG at *
  generalize trues l = TF at *
  generalize tupI w = tw at *
  simp only [li] at *
  generalize w.map D.int = WD at *
  simp -implicitDefEqProofs [b_need_book_1, f1, hlw, t1, d1, p1, toV]
theorem F_need_book_good (s : Int) (n : Nat) (ws : List (List Int)) (hf : fits (.int s) (.int n) = true) (hb : Book s n ws) (hl : ws.length ≤ 1000) : F_need_book [.int s, .int n, .lst (ws.map li)] = .ok ⟨.sh, .non⟩ := by
  have e1 := F_need_size_eq (.int s) (.int n) rfl rfl
  rw [if_pos hf] at e1
  obtain ⟨s', n', q1, q2, hs1, hs2, hn1, hn2, hbb⟩ := fits_int hf
  cases q1
  cases q2
  obtain ⟨b0, b1, b2⟩ := hb
  obtain ⟨e, l1, x4, l2⟩ := loop_do (g := b_need_book_1) (i := 4) (fun j e => ∃ x4, e = [.sh (.int s), .sh (.int n), .sh (.lst (ws.map li)), .ow (.dT (trues (ws.take j))), x4]) (ws.map li) [.sh (.int s), .sh (.int n), .sh (.lst (ws.map li)), .ow (.dT []), .un] ⟨_, rfl⟩ (by
    rintro j d e hd ⟨x4, rfl⟩
    rw [List.getElem?_map, Option.map_eq_some_iff] at hd
    obtain ⟨w, hw, rfl⟩ := hd
    obtain ⟨hj, ew⟩ := List.getElem?_eq_some_iff.mp hw
    have hwm := b2 w (List.mem_of_getElem? hw)
    have hnm : w ∉ ws.take j := by
      intro hm
      obtain ⟨i, hi⟩ := List.mem_iff_getElem?.mp hm
      rw [List.getElem?_take] at hi
      split at hi
      · rename_i hij
        obtain ⟨hi1, hi2⟩ := List.getElem?_eq_some_iff.mp hi
        exact List.pairwise_iff_getElem.mp b1 i j hi1 hj hij (hi2.trans ew.symm)
      · cases hi
    have b := need_turn s n w (ws.take j) (.sh (.lst (ws.map li))) hwm.1 (by omega) hwm.2 hnm (by simp; omega)
    refine ⟨_, .inl b, .sh (li w), ?_⟩
    rw [List.take_succ, hw]; rfl)
  subst l2
  have hne : ws.map li ≠ [] := fun z => b0 (List.map_eq_nil_iff.mp z)
  have ok := okEq_lis ws
  have h1 : eqL (ws.map li) [] = false := by
    cases ws with
    | nil => exact absurd rfl b0
    | cons a r => rfl
  generalize trues (ws.take (ws.map li).length) = TT at *
  generalize ws.map li = WL at *
  simp -implicitDefEqProofs [F_need_book, g_need_book, e1, ok, h1, l1]
end My
namespace My
open PySem PySem.Spec L2 DL
theorem F_lword_eq (s : Int) (n : Nat) (num : Int) (hs : 0 < s ∧ s < 1000) (hn : n ≤ 1000) : F__law_word [.int s, .int n, .int num] = .ok ⟨.fr, li (wb s n num)⟩ := by
  obtain ⟨e, l1, x4, l2⟩ := loop_do (g := b__law_word_1) (i := 4) (fun j e => ∃ x4, e = [.sh (.int s), .sh (.int n), .sh (.int (num / s ^ j)), .ow (li (wb s j num)), x4]) (rngD 0 n) [.sh (.int s), .sh (.int n), .sh (.int num), .ow (.lst []), .un] ⟨.un, by simp [wb]⟩ (by
    rintro j d e hd ⟨x4, rfl⟩
    obtain ⟨hj, rfl⟩ := rngD_get hd
    have hl : 1 + ((wb s j num).map D.int).length ≤ lim := lim_le (by simp; omega)
    have e1 : num / s ^ (j + 1) = num / s ^ j / s := by rw [Int.pow_succ, Int.ediv_ediv_of_nonneg (Int.pow_nonneg (by omega))]
    have hs1 : 0 < s ∧ s < 1073741824 := by omega
    have l1 : 1 ≤ lim := by decide
    have e2 : li (wb s (j + 1) num) = .lst (D.int (num / s ^ j % s) :: (wb s j num).map .int) := rfl
    refine ⟨_, .inl ?_, .sh (.int (0 + j)), rfl⟩
    rw [e1, e2]
    simp only [li]
    generalize (wb s j num).map D.int = W at *
    generalize num / s ^ j = q at *
    simp -implicitDefEqProofs [b__law_word_1, hs1, l1, hl])
  rw [rngD_length] at l2
  subst l2
  generalize wb s n num = w at *
  simp -implicitDefEqProofs [F__law_word, g__law_word, -rng1, rng1_nat (show n ≤ 1000000000 by omega), l1]
theorem any_li (met : List (List Int)) (x : List Int) : ((met.map li).any fun z => eqD z (li x)) = decide (x ∈ met) := by
  rw [List.any_map]
  induction met with
  | nil => rfl
  | cons y r ih =>
    rw [List.any_cons, ih]
    have e : ((fun z => eqD z (li x)) ∘ li) y = decide (y = x) := by
      show eqD (.lst _) (.lst _) = _
      rw [eqD_lst, eqL_ints]
    rw [e]
    by_cases h : y = x
    · subst h; simp
    · have h' : ¬ x = y := fun z => h z.symm
      simp [h, h']
def turnsL (w : List Int) : List (List Int) := (List.range w.length).foldl (fun f p => if w.drop p ++ w.take p ∈ f then f else f ++ [w.drop p ++ w.take p]) []
def turnsTo (w : List Int) (j : Nat) : List (List Int) := (List.range j).foldl (fun f p => if w.drop p ++ w.take p ∈ f then f else f ++ [w.drop p ++ w.take p]) []
theorem turnsTo_succ (w : List Int) (j : Nat) : turnsTo w (j + 1) = (if w.drop j ++ w.take j ∈ turnsTo w j then turnsTo w j else turnsTo w j ++ [w.drop j ++ w.take j]) := by
  unfold turnsTo; rw [List.range_succ, List.foldl_append]; rfl
theorem turnsTo_ok (w : List Int) : ∀ j, (turnsTo w j).Nodup ∧ (turnsTo w j).length ≤ j ∧ (∀ v ∈ turnsTo w j, v.length = w.length ∧ ∀ x ∈ v, x ∈ w) ∧ (0 < j → turnsTo w j ≠ [])
  | 0 => ⟨List.nodup_nil, by simp [turnsTo], by simp [turnsTo], by omega⟩
  | j + 1 => by
    obtain ⟨h1, h2, h3, _⟩ := turnsTo_ok w j
    rw [turnsTo_succ]
    split
    · rename_i q
      exact ⟨h1, by omega, h3, fun _ z => by rw [z] at q; cases q⟩
    · rename_i q
      refine ⟨List.nodup_append.mpr ⟨h1, by simp, fun a ha b hb => by rw [List.mem_singleton.mp hb]; rintro rfl; exact q ha⟩, by simp; omega, fun v hv => ?_, by simp⟩
      rcases List.mem_append.mp hv with hv | hv
      · exact h3 v hv
      · rw [List.mem_singleton.mp hv]
        refine ⟨by simp; omega, fun x hx => ?_⟩
        rcases List.mem_append.mp hx with hx | hx
        · exact List.mem_of_mem_drop hx
        · exact List.mem_of_mem_take hx
theorem F_turns_eq (w : List Int) (hw : w.length ≤ 100) : F__law_turns [li w] = .ok ⟨.fr, .lst ((turnsTo w w.length).map li)⟩ := by
  obtain ⟨e, l1, x2, x3, l2⟩ := loop_do (g := b__law_turns_1) (i := 2) (fun j e => ∃ x2 x3, e = [.sh (li w), .ow (.lst ((turnsTo w j).map li)), x2, x3]) (rngD 0 w.length) [.sh (li w), .ow (.lst []), .un, .un] ⟨_, _, rfl⟩ (by
    rintro j d e hd ⟨x2, x3, rfl⟩
    obtain ⟨hj, rfl⟩ := rngD_get hd
    rw [Int.zero_add]
    have c1 : DL.cut (w.map D.int) (some (j : Int)) none = (w.drop j).map .int := by rw [cut_from _ j (by simp; omega), List.map_drop]
    have c2 : DL.cut (w.map D.int) none (some (j : Int)) = (w.take j).map .int := by rw [cut_to _ j (by simp; omega), List.map_take]
    have t3 : (w.drop j).map D.int ++ (w.take j).map .int = (w.drop j ++ w.take j).map .int := by simp
    have ll : ((w.drop j).map D.int).length + ((w.take j).map D.int).length ≤ lim := lim_le (by simp; omega)
    have an := any_li (turnsTo w j) (w.drop j ++ w.take j)
    have o1 : okEq (.lst ((w.drop j ++ w.take j).map .int)) = true := okEq_ints
    have o2 := okEq_lis (turnsTo w j)
    obtain ⟨_, hlen, _, _⟩ := turnsTo_ok w j
    have hfl : ((turnsTo w j).map li).length < lim := lim_lt (by simp; omega)
    rw [turnsTo_succ]
    by_cases q : w.drop j ++ w.take j ∈ turnsTo w j
    · rw [if_pos q]
      rw [decide_eq_true q] at an
      refine ⟨[.sh (li w), .ow (.lst ((turnsTo w j).map li)), .sh (.int j), .ow (li (w.drop j ++ w.take j))], .inl ?_, _, _, rfl⟩
      simp only [li] at *
      generalize (turnsTo w j).map (fun w => D.lst (w.map .int)) = TT at *
      generalize (w.drop j ++ w.take j).map D.int = NW at *
      generalize (w.drop j).map D.int = A at *
      generalize (w.take j).map D.int = B at *
      generalize w.map D.int = WD at *
      simp -implicitDefEqProofs [-List.any_eq_true, -List.any_eq_false, b__law_turns_1, c1, c2, t3, ll, an, o1, o2]
    · rw [if_neg q]
      rw [decide_eq_false q] at an
      have em : (turnsTo w j ++ [w.drop j ++ w.take j]).map li = (turnsTo w j).map li ++ [li (w.drop j ++ w.take j)] := by simp
      rw [em]
      refine ⟨[.sh (li w), .ow (.lst ((turnsTo w j).map li ++ [li (w.drop j ++ w.take j)])), .sh (.int j), .sh (li (w.drop j ++ w.take j))], .inl ?_, _, _, rfl⟩
      simp only [li] at *
      generalize (turnsTo w j).map (fun w => D.lst (w.map .int)) = TT at *
      generalize (w.drop j ++ w.take j).map D.int = NW at *
      generalize (w.drop j).map D.int = A at *
      generalize (w.take j).map D.int = B at *
      generalize w.map D.int = WD at *
      simp -implicitDefEqProofs [-List.any_eq_true, -List.any_eq_false, b__law_turns_1, c1, c2, t3, ll, an, o1, o2, hfl])
  rw [rngD_length] at l2
  subst l2
  have hln : (w.map D.int).length = w.length := by simp
  have hn : w.length ≤ 1000000000 := by omega
  generalize (turnsTo w w.length).map li = TT at *
  simp only [li] at *
  generalize w.map D.int = WD at *
  rw [← hln] at hn l1
  simp -implicitDefEqProofs [F__law_turns, g__law_turns, -rng1, rng1_nat hn, l1]
end My
namespace My
open PySem PySem.Spec L2 DL
/-- words of one size over so many signs, each once -/
def Wds (s : Int) (n : Nat) (ws : List (List Int)) : Prop := ws.Nodup ∧ ∀ w ∈ ws, w.length = n ∧ ∀ x ∈ w, 0 ≤ x ∧ x < s
theorem wb_rng {s k : Int} (hs : 0 < s) : ∀ {n : Nat} {x : Int}, x ∈ wb s n k → 0 ≤ x ∧ x < s := fun h => fw_mem hs h
/-- more words behind -/
def addT (ws ts : List (List Int)) : List (List Int) := ws ++ ts.filter fun t => decide (t ∉ ws)
theorem addT_ok {s : Int} {n : Nat} {ws ts : List (List Int)} (h1 : Wds s n ws) (h2 : Wds s n ts) : Wds s n (addT ws ts) := by
  refine ⟨List.nodup_append.mpr ⟨h1.1, h2.1.filter _, fun a ha b hb e => ?_⟩, fun w hw => ?_⟩
  · have := (List.mem_filter.mp hb).2
    subst e
    simp at this
    exact this ha
  · rcases List.mem_append.mp hw with hw | hw
    · exact h1.2 w hw
    · exact h2.2 w (List.mem_filter.mp hw).1
theorem addT_len (ws ts : List (List Int)) : (addT ws ts).length ≤ ws.length + ts.length := by
  unfold addT
  rw [List.length_append]
  have := List.length_filter_le (fun t => decide (t ∉ ws)) ts
  omega
theorem turns_ok {s : Int} {n : Nat} {w : List Int} (hl : w.length = n) (hv : ∀ x ∈ w, 0 ≤ x ∧ x < s) : Wds s n (turnsTo w w.length) ∧ (turnsTo w w.length).length ≤ n ∧ (0 < n → turnsTo w w.length ≠ []) := by
  obtain ⟨h1, h2, h3, h4⟩ := turnsTo_ok w w.length
  exact ⟨⟨h1, fun v hv' => ⟨by rw [(h3 v hv').1, hl], fun x hx => hv x ((h3 v hv').2 x hx)⟩⟩, by omega, by rw [← hl]; exact h4⟩
/-- the rest of a turn of the loop: the turns of a word behind the book -/
theorem lbook_tail (a0 a1 s n a4 a5 : D) (ws : List (List Int)) (w : List Int) (x7 x8 x10 x11 : Sl) (k9 : Bool) (hw : w.length ≤ 100) (hl : ws.length ≤ 1000) :
    (fun s => (fSet 6 (fOp addO (fVar 6) (fLc (fItL (fFn F__law_turns (fCons (fVar 9) (fun _ => .ok [])))) 12 t__law_book_1 c__law_book_1))) (rel1 9 s)) [.sh a0, .sh a1, .sh s, .sh n, .sh a4, .sh a5, .ow (.lst (ws.map li)), x7, x8, if k9 then .ow (li w) else .sh (li w), x10, x11, .un] =
      .nx [.sh a0, .sh a1, .sh s, .sh n, .sh a4, .sh a5, .ow (.lst ((addT ws (turnsTo w w.length)).map li)), x7, x8, .sh (li w), x10, x11, .un] := by
  have ft := F_turns_eq w hw
  obtain ⟨_, htl, _, _⟩ := turnsTo_ok w w.length
  generalize turnsTo w w.length = ts at *
  have lf := lc_filter (ft := t__law_book_1) (fe := c__law_book_1) (i := 12) (s := [.sh a0, .sh a1, .sh s, .sh n, .sh a4, .sh a5, .ow (.lst (ws.map li)), x7, x8, .sh (li w), x10, x11, .un]) (p := fun d => !((ws.map li).any fun z => eqD z d)) (f := id) (ts.map li) (fun d hd => by
    obtain ⟨t, ht, rfl⟩ := List.mem_map.mp hd
    have o1 : okEq (li t) = true := okEq_ints
    have o2 := okEq_lis ws
    refine ⟨?_, fun _ => ⟨.sh, by simp, ?_⟩⟩
    · simp only [li] at *
      generalize ws.map (fun w => D.lst (w.map .int)) = WL at *
      generalize t.map D.int = T at *
      generalize w.map D.int = W at *
      simp -implicitDefEqProofs [-List.any_eq_true, -List.any_eq_false, t__law_book_1, o1, o2]
    · simp only [li] at *
      generalize ws.map (fun w => D.lst (w.map .int)) = WL at *
      generalize t.map D.int = T at *
      generalize w.map D.int = W at *
      simp -implicitDefEqProofs [c__law_book_1])
  have e1 : ((ts.map li).filter (fun d => !((ws.map li).any fun z => eqD z d))).map id = (ts.filter fun t => decide (t ∉ ws)).map li := by
    have e : ∀ t ∈ ts, ((fun d => !((ws.map li).any fun z => eqD z d)) ∘ li) t = decide (t ∉ ws) := fun t _ => by
      show (!((ws.map li).any fun z => eqD z (li t))) = _
      rw [any_li]; simp
    rw [List.map_id, List.filter_map, List.filter_congr e]
  rw [e1] at lf
  have e2 : (addT ws ts).map li = ws.map li ++ (ts.filter fun t => decide (t ∉ ws)).map li := by simp [addT]
  rw [e2]
  have hfl := List.length_filter_le (fun t => decide (t ∉ ws)) ts
  have l1 : ((ts.filter fun t => decide (t ∉ ws)).map li).length ≤ lim := lim_le (by rw [List.length_map]; omega)
  have l2 : (ws.map li).length + ((ts.filter fun t => decide (t ∉ ws)).map li).length ≤ lim := lim_le (by simp only [List.length_map]; omega)
  generalize (ts.filter fun t => decide (t ∉ ws)).map li = FL at *
  simp only [li] at *
  generalize ws.map (fun w => D.lst (w.map .int)) = WL at *
  generalize ts.map (fun w => D.lst (w.map .int)) = TL at *
  generalize w.map D.int = W at *
  cases k9 <;> simp -implicitDefEqProofs [ft, lf, l1, l2]
end My
namespace My
open PySem PySem.Spec L2 DL
theorem seq_nx {f g : Ev → Out} {s s' : Ev} (h : f s = .nx s') : fSeq f g s = g s' := by simp only [fSeq, h, bndO]
def numOf (ns : List Int) (f k : Nat) : Int := (cell ns (f + 2 + k) + 101 * (k : Int)) * 48271 % 1000003
theorem idx_pick {α : Type} (ws : List α) (c : Int) (h : ws ≠ []) : ∃ (i : Nat) (v : α), c % (ws.length : Int) = i ∧ ws[i]? = some v ∧ v ∈ ws := by
  have hl : 0 < ws.length := List.length_pos_iff.mpr h
  have h1 := Int.emod_nonneg c (show (ws.length : Int) ≠ 0 by omega)
  have h2 := Int.emod_lt_of_pos c (show (0 : Int) < ws.length by omega)
  have hi : (c % (ws.length : Int)).toNat < ws.length := by omega
  exact ⟨_, ws[(c % (ws.length : Int)).toNat], by omega, List.getElem?_eq_getElem hi, List.getElem_mem hi⟩
theorem lbook_body (ns : List Int) (f : Nat) (s : Int) (n : Nat) (a4 a5 : D) (ws : List (List Int)) (j : Nat) (x8 x9 x10 x11 : Sl) (hs : 0 < s ∧ s < 1000) (hn : 0 < n ∧ n ≤ 100) (h : Wds s n ws) (hl : ws.length ≤ 1000) :
    ∃ (w : List Int) (y8 : Sl), w.length = n ∧ (∀ x ∈ w, 0 ≤ x ∧ x < s) ∧ b__law_book_1 [.sh (.scr ns), .sh (.int f), .sh (.int s), .sh (.int n), .sh a4, .sh a5, .ow (.lst (ws.map li)), .sh (.int j), x8, x9, x10, x11, .un] =
      .nx [.sh (.scr ns), .sh (.int f), .sh (.int s), .sh (.int n), .sh a4, .sh a5, .ow (.lst ((addT ws (turnsTo w w.length)).map li)), .sh (.int j), y8, .sh (li w), x10, x11, .un] := by
  have fc := F_cell_at_eq ns (f + 2 + j)
  have ec : ((f : Int) + 2 + j) = ((f + 2 + j : Nat) : Int) := by push_cast; rfl
  have eN : (cell ns (f + 2 + j) + 101 * (j : Int)) * 48271 % 1000003 = numOf ns f j := rfl
  have fw := F_lword_eq s n (numOf ns f j) hs (by omega)
  have tl := fun w k9 (hw : w.length ≤ 100) => lbook_tail (.scr ns) (.int f) (.int s) (.int n) a4 a5 ws w (.sh (.int j)) (.sh (.int (numOf ns f j))) x10 x11 k9 hw hl
  have ok1 := okEq_lis ws
  have hs' := hs.1
  have p1 : (fSet 8 (fOp modO (fOp mulO (fOp addO (fFn F__law_cell_at (fCons (fVar 0) (fCons (fOp addO (fOp addO (fVar 1) (fC (.int 2))) (fVar 7)) (fun _ => .ok [])))) (fOp mulO (fC (.int 101)) (fVar 7))) (fC (.int 48271))) (fC (.int 1000003)))) [.sh (.scr ns), .sh (.int f), .sh (.int s), .sh (.int n), .sh a4, .sh a5, .ow (.lst (ws.map li)), .sh (.int j), x8, x9, x10, x11, .un] =
      .nx [.sh (.scr ns), .sh (.int f), .sh (.int s), .sh (.int n), .sh a4, .sh a5, .ow (.lst (ws.map li)), .sh (.int j), .sh (.int (numOf ns f j)), x9, x10, x11, .un] := by
    generalize ws.map li = WL at *
    generalize f + 2 + j = kk at *
    simp -implicitDefEqProofs [ec, fc, eN]
  have p2 : (fSet 9 (fFn F__law_word (fCons (fVar 2) (fCons (fVar 3) (fCons (fVar 8) (fun _ => .ok [])))))) [.sh (.scr ns), .sh (.int f), .sh (.int s), .sh (.int n), .sh a4, .sh a5, .ow (.lst (ws.map li)), .sh (.int j), .sh (.int (numOf ns f j)), x9, x10, x11, .un] =
      .nx [.sh (.scr ns), .sh (.int f), .sh (.int s), .sh (.int n), .sh a4, .sh a5, .ow (.lst (ws.map li)), .sh (.int j), .sh (.int (numOf ns f j)), .ow (li (wb s n (numOf ns f j))), x10, x11, .un] := by
    generalize ws.map li = WL at *
    generalize li (wb s n (numOf ns f j)) = WB at *
    simp -implicitDefEqProofs [fw]
  unfold b__law_book_1
  rw [seq_nx p1, seq_nx p2]
  clear p1 p2
  by_cases q : numOf ns f j / 65536 % 3 = 1 ∧ ws ≠ []
  · obtain ⟨q1, q2⟩ := q
    obtain ⟨i, v, e1, e2, e3⟩ := idx_pick ws (numOf ns f j / 7) q2
    obtain ⟨hv1, hv2⟩ := h.2 v e3
    refine ⟨v.drop 1 ++ [numOf ns f j % s], .sh (.int (numOf ns f j)), by simp; omega, fun x hx => ?_, ?_⟩
    · rcases List.mem_append.mp hx with hx | hx
      · exact hv2 x (List.mem_of_mem_drop hx)
      · rw [List.mem_singleton.mp hx]
        exact ⟨Int.emod_nonneg _ (by omega), Int.emod_lt_of_pos _ (by omega)⟩
    · have tl' := tl (v.drop 1 ++ [numOf ns f j % s]) true (by simp; omega)
      have a1 : atI (ws.map li) (i : Int) = some (li v) := atI_nat (by simp [e2])
      have c1 := cut_tail (w := v) (by omega)
      have hne : eqD (.lst (ws.map li)) (.lst []) = false := by
        cases ws with
        | nil => exact absurd rfl q2
        | cons a r => simp
      have hlp : (0 : Int) < ws.length := by have := List.length_pos_iff.mpr q2; omega
      have hlb : (ws.length : Int) < 1073741824 := by omega
      have hlm : (ws.map li).length = ws.length := by simp
      have ll : ((v.drop 1).map D.int).length + 1 ≤ lim := lim_le (by simp; omega)
      have l1 : 1 ≤ lim := by decide
      have e4 : (v.drop 1).map D.int ++ [D.int (numOf ns f j % s)] = (v.drop 1 ++ [numOf ns f j % s]).map .int := by simp
      rw [seq_nx (s' := [.sh (.scr ns), .sh (.int f), .sh (.int s), .sh (.int n), .sh a4, .sh a5, .ow (.lst (ws.map li)), .sh (.int j), .sh (.int (numOf ns f j)), .ow (li (v.drop 1 ++ [numOf ns f j % s])), x10, x11, .un])]
      · exact tl'
      · clear tl tl'
        have e5 : li (v.drop 1 ++ [numOf ns f j % s]) = .lst ((v.drop 1 ++ [numOf ns f j % s]).map .int) := rfl
        rw [e5, ← e4]
        simp only [li] at *
        generalize (v.drop 1).map D.int = VD at *
        generalize v.map D.int = VV at *
        generalize (wb s n (numOf ns f j)).map D.int = WB at *
        generalize ws.map (fun w => D.lst (w.map .int)) = WL at *
        rw [← hlm] at e1 hlp hlb
        clear h hl hv1 hv2 e2 e3 q2 fw
        have hnn : ¬ WL = [] := fun z => by rw [z] at hlp; simp at hlp
        simp -implicitDefEqProofs [-eqD_lst, q1, hne, hnn, ok1, hlp, hlb, e1, a1, c1, ll, l1, hs']
  · refine ⟨wb s n (numOf ns f j), .sh (.int (numOf ns f j)), by simp, fun x hx => wb_rng hs.1 hx, ?_⟩
    have tl' := tl (wb s n (numOf ns f j)) true (by simp; omega)
    rw [seq_nx (s' := [.sh (.scr ns), .sh (.int f), .sh (.int s), .sh (.int n), .sh a4, .sh a5, .ow (.lst (ws.map li)), .sh (.int j), .sh (.int (numOf ns f j)), .ow (li (wb s n (numOf ns f j))), x10, x11, .un])]
    · exact tl'
    clear tl tl'
    by_cases q1 : numOf ns f j / 65536 % 3 = 1
    · have q2 : ws = [] := Classical.byContradiction fun z => q ⟨q1, z⟩
      subst q2
      generalize li (wb s n (numOf ns f j)) = WB at *
      simp -implicitDefEqProofs [q1, hs']
    · generalize li (wb s n (numOf ns f j)) = WB at *
      generalize ws.map li = WL at *
      simp -implicitDefEqProofs [q1, hs']
end My
namespace My
open PySem PySem.Spec L2 DL
theorem wds_perm {s : Int} {n : Nat} {ws vs : List (List Int)} (h : Wds s n ws) (p : vs.Perm ws) : Wds s n vs := ⟨p.nodup_iff.mpr h.1, fun w hw => h.2 w (p.mem_iff.mp hw)⟩
theorem wds_sub {s : Int} {n : Nat} {ws vs : List (List Int)} (h : Wds s n ws) (p : vs.Sublist ws) : Wds s n vs := ⟨h.1.sublist p, fun w hw => h.2 w (p.subset hw)⟩
theorem lbook_loop (ns : List Int) (f : Nat) (s : Int) (n : Nat) (a4 a5 : D) (hs : 0 < s ∧ s < 1000) (hn : 0 < n ∧ n ≤ 20) (m : Nat) (hm : m ≤ 20) (x7 x8 x9 x10 x11 : Sl) :
    ∃ (ws : List (List Int)) (y7 y8 y9 : Sl), Wds s n ws ∧ ws.length ≤ m * n ∧ (0 < m → ws ≠ []) ∧ loopF b__law_book_1 7 (rngD 0 m) [.sh (.scr ns), .sh (.int f), .sh (.int s), .sh (.int n), .sh a4, .sh a5, .ow (.lst []), x7, x8, x9, x10, x11, .un] =
      .nx [.sh (.scr ns), .sh (.int f), .sh (.int s), .sh (.int n), .sh a4, .sh a5, .ow (.lst (ws.map li)), y7, y8, y9, x10, x11, .un] := by
  obtain ⟨e, h1, ws, y7, y8, y9, h2, h3, h4, h5⟩ := loop_do (g := b__law_book_1) (i := 7) (fun j e => ∃ (ws : List (List Int)) (y7 y8 y9 : Sl), e = [.sh (.scr ns), .sh (.int f), .sh (.int s), .sh (.int n), .sh a4, .sh a5, .ow (.lst (ws.map li)), y7, y8, y9, x10, x11, .un] ∧ Wds s n ws ∧ ws.length ≤ j * n ∧ (0 < j → ws ≠ [])) (rngD 0 m) [.sh (.scr ns), .sh (.int f), .sh (.int s), .sh (.int n), .sh a4, .sh a5, .ow (.lst []), x7, x8, x9, x10, x11, .un] ⟨[], x7, x8, x9, rfl, ⟨List.nodup_nil, by simp⟩, by simp, by omega⟩ (by
    rintro j d e hd ⟨ws, y7, y8, y9, rfl, g1, g2, g3⟩
    obtain ⟨hj, rfl⟩ := rngD_get hd
    rw [Int.zero_add]
    have hjn : j * n ≤ 20 * 20 := Nat.mul_le_mul (by omega) hn.2
    obtain ⟨w, z8, w1, w2, w3⟩ := lbook_body ns f s n a4 a5 ws j y8 y9 x10 x11 hs (by omega) g1 (by omega)
    obtain ⟨t1, t2, t3⟩ := turns_ok (s := s) w1 w2
    refine ⟨_, .inl w3, _, _, _, _, rfl, addT_ok g1 t1, ?_, fun _ => ?_⟩
    · have := addT_len ws (turnsTo w w.length)
      rw [Nat.add_mul]; omega
    · by_cases q : ws = []
      · subst q
        have : addT [] (turnsTo w w.length) = turnsTo w w.length := by simp [addT]
        rw [this]; exact t3 hn.1
      · intro z
        unfold addT at z
        exact q (List.append_eq_nil_iff.mp z).1)
  rw [rngD_length] at h4 h5
  exact ⟨ws, y7, y8, y9, h3, h4, h5, by rw [h1, h2]⟩
theorem F_lbook_eq (ns : List Int) (f : Nat) (s : Int) (n m : Nat) (hs : 0 < s ∧ s < 1000) (hn : 0 < n ∧ n ≤ 20) (hm : 0 < m ∧ m ≤ 20) :
    ∃ ws, F__law_book [.scr ns, .int f, .int s, .int n, .int m] = .ok ⟨.fr, .lst (ws.map li)⟩ ∧ Wds s n ws ∧ ws ≠ [] ∧ ws.length ≤ m * n + 1 := by
  have fc := F_cell_at_eq ns f
  have fc1 := F_cell_at_eq ns (f + 1)
  have ec : ((f : Int) + 1) = ((f + 1 : Nat) : Int) := by push_cast; rfl
  obtain ⟨c, hc⟩ : ∃ c, cell ns f = c := ⟨_, rfl⟩
  obtain ⟨r, hr⟩ : ∃ r, cell ns (f + 1) = r := ⟨_, rfl⟩
  rw [hc] at fc
  rw [hr] at fc1
  have c0 := Int.emod_nonneg c (show (m : Int) ≠ 0 by omega)
  have c1 := Int.emod_lt_of_pos c (show (0 : Int) < m by omega)
  obtain ⟨k, hk⟩ : ∃ k : Nat, 1 + c % (m : Int) = k := ⟨(1 + c % (m : Int)).toNat, by omega⟩
  have hkm : 0 < k ∧ k ≤ m := by omega
  have hkn : k * n ≤ m * n := Nat.mul_le_mul_right _ hkm.2
  have hmn : m * n ≤ 20 * 20 := Nat.mul_le_mul hm.2 hn.2
  obtain ⟨ws, y7, y8, y9, l1, l2, l3, l4⟩ := lbook_loop ns f s n (.int m) (.int c) hs hn k (by omega) .un .un .un .un .un
  have l3 := l3 hkm.1
  have hm0 : (0 : Int) < m ∧ (m : Int) < 1073741824 := by omega
  have hm1 := hm0.1
  have hm2 := hm.1
  have hm3 : ¬ m = 0 := by omega
  unfold F__law_book g__law_book
  have p1 : (fSet 5 (fFn F__law_cell_at (fCons (fVar 0) (fCons (fVar 1) (fun _ => .ok []))))) (start0 13 [.scr ns, .int f, .int s, .int n, .int m]) = .nx [.sh (.scr ns), .sh (.int f), .sh (.int s), .sh (.int n), .sh (.int m), .sh (.int c), .un, .un, .un, .un, .un, .un, .un] := by
    simp -implicitDefEqProofs [fc]
  rw [seq_nx p1]
  rw [seq_nx (s' := [.sh (.scr ns), .sh (.int f), .sh (.int s), .sh (.int n), .sh (.int m), .sh (.int c), .ow (.lst []), .un, .un, .un, .un, .un, .un]) (by simp)]
  rw [seq_nx (s' := [.sh (.scr ns), .sh (.int f), .sh (.int s), .sh (.int n), .sh (.int m), .sh (.int c), .ow (.lst (ws.map li)), y7, y8, y9, .un, .un, .un])]
  rotate_left
  · simp -implicitDefEqProofs [-rng1, hk, rng1_nat (show k ≤ 1000000000 by omega), hm1, hm2, hm3, l4]
  have p4 : (fSet 10 (fFn F__law_cell_at (fCons (fVar 0) (fCons (fOp addO (fVar 1) (fC (.int 1))) (fun _ => .ok []))))) [.sh (.scr ns), .sh (.int f), .sh (.int s), .sh (.int n), .sh (.int m), .sh (.int c), .ow (.lst (ws.map li)), y7, y8, y9, .un, .un, .un] =
      .nx [.sh (.scr ns), .sh (.int f), .sh (.int s), .sh (.int n), .sh (.int m), .sh (.int c), .ow (.lst (ws.map li)), y7, y8, y9, .sh (.int r), .un, .un] := by
    generalize ws.map li = WL at *
    generalize f + 1 = ff at *
    simp -implicitDefEqProofs [ec, fc1]
  rw [seq_nx p4]
  clear p1 p4 l4 fc fc1
  -- perhaps one taken away
  obtain ⟨vs, v1, v2, v3, v4⟩ : ∃ vs, (fIte (tAndF (fB (fOp eqO (fOp modO (fVar 10) (fC (.int 4))) (fC (.int 1)))) (fB (fOp gtO (fCall lenO (fCons (fVar 6) (fun _ => .ok []))) (fC (.int 1))))) (fMut 6 popAtG (fCons (fOp modO (fOp fdivO (fVar 10) (fC (.int 4))) (fCall lenO (fCons (fVar 6) (fun _ => .ok [])))) (fun _ => .ok []))) .nx) [.sh (.scr ns), .sh (.int f), .sh (.int s), .sh (.int n), .sh (.int m), .sh (.int c), .ow (.lst (ws.map li)), y7, y8, y9, .sh (.int r), .un, .un] =
      .nx [.sh (.scr ns), .sh (.int f), .sh (.int s), .sh (.int n), .sh (.int m), .sh (.int c), .ow (.lst (vs.map li)), y7, y8, y9, .sh (.int r), .un, .un] ∧ Wds s n vs ∧ vs ≠ [] ∧ vs.length ≤ m * n := by
    have hlm : (ws.map li).length = ws.length := by simp
    by_cases q : r % 4 = 1 ∧ 1 < ws.length
    · obtain ⟨q1, q2⟩ := q
      obtain ⟨i, v, e1, e2, e3⟩ := idx_pick ws (r / 4) l3
      have hi : i < ws.length := (List.getElem?_eq_some_iff.mp e2).1
      refine ⟨ws.eraseIdx i, ?_, wds_sub l1 (List.eraseIdx_sublist ..), fun z => ?_, ?_⟩
      · have e4 : (ws.eraseIdx i).map li = (ws.map li).eraseIdx i := by rw [List.eraseIdx_eq_take_drop_succ, List.eraseIdx_eq_take_drop_succ, List.map_append, List.map_take, List.map_drop]
        rw [e4]
        have e5 : ixN (ws.map li).length (i : Int) = some i := by
          simp only [ixN, hlm]; rw [if_pos (by omega)]; simp; omega
        have q2' : (1 : Int) < (ws.map li).length := by rw [hlm]; omega
        have hlp : (0 : Int) < (ws.map li).length := by omega
        have hl6 : (ws.map li).length ≤ 1000000 := by rw [hlm]; omega
        rw [← hlm] at e1
        generalize ws.map li = WL at *
        have hnn : ¬ WL = [] := fun z => by rw [z] at hlp; simp at hlp
        simp -implicitDefEqProofs [q1, q2', hlp, hnn, e1, e5, hl6]
      · have := List.length_eraseIdx_of_lt hi
        rw [z] at this; simp at this; omega
      · have := List.length_eraseIdx_of_lt hi
        omega
    · refine ⟨ws, ?_, l1, l3, by omega⟩
      by_cases q1 : r % 4 = 1
      · have q2 : ¬ (1 : Int) < (ws.map li).length := by
          rw [hlm]; intro z; exact q ⟨q1, by omega⟩
        generalize ws.map li = WL at *
        simp -implicitDefEqProofs [q1, q2]
      · generalize ws.map li = WL at *
        simp -implicitDefEqProofs [q1]
  rw [seq_nx v1]
  clear v1
  have fw := F_lword_eq s n (r / 4 * 48271 % 1000003) hs (by omega)
  have hwl : (wb s n (r / 4 * 48271 % 1000003)).length = n := by simp
  have hwr : ∀ x ∈ wb s n (r / 4 * 48271 % 1000003), 0 ≤ x ∧ x < s := fun x hx => wb_rng hs.1 hx
  generalize wb s n (r / 4 * 48271 % 1000003) = w at *
  have p6 : (fSet 9 (fFn F__law_word (fCons (fVar 2) (fCons (fVar 3) (fCons (fOp modO (fOp mulO (fOp fdivO (fVar 10) (fC (.int 4))) (fC (.int 48271))) (fC (.int 1000003))) (fun _ => .ok [])))))) [.sh (.scr ns), .sh (.int f), .sh (.int s), .sh (.int n), .sh (.int m), .sh (.int c), .ow (.lst (vs.map li)), y7, y8, y9, .sh (.int r), .un, .un] =
      .nx [.sh (.scr ns), .sh (.int f), .sh (.int s), .sh (.int n), .sh (.int m), .sh (.int c), .ow (.lst (vs.map li)), y7, y8, .ow (li w), .sh (.int r), .un, .un] := by
    generalize vs.map li = WL at *
    generalize li w = W at *
    simp -implicitDefEqProofs [fw]
  rw [seq_nx p6]
  clear p6
  -- perhaps one more
  obtain ⟨us, y9', u1, u2, u3, u4⟩ : ∃ us y9', (fIte (tAndF (fB (fOp eqO (fOp modO (fVar 10) (fC (.int 4))) (fC (.int 2)))) (fB (fOp (inO true) (fVar 9) (fVar 6)))) (fun s => (fMut 6 appG (fCons (fVar 9) (fun _ => .ok []))) (rel1 9 s)) .nx) [.sh (.scr ns), .sh (.int f), .sh (.int s), .sh (.int n), .sh (.int m), .sh (.int c), .ow (.lst (vs.map li)), y7, y8, .ow (li w), .sh (.int r), .un, .un] =
      .nx [.sh (.scr ns), .sh (.int f), .sh (.int s), .sh (.int n), .sh (.int m), .sh (.int c), .ow (.lst (us.map li)), y7, y8, y9', .sh (.int r), .un, .un] ∧ Wds s n us ∧ us ≠ [] ∧ us.length ≤ m * n + 1 := by
    have an := any_li vs w
    have o1 : okEq (li w) = true := okEq_ints
    have o2 := okEq_lis vs
    by_cases q : r % 4 = 2 ∧ w ∉ vs
    · obtain ⟨q1, q2⟩ := q
      rw [decide_eq_false q2] at an
      refine ⟨vs ++ [w], .sh (li w), ?_, ⟨List.nodup_append.mpr ⟨v2.1, by simp, fun a ha b hb e => ?_⟩, fun x hx => ?_⟩, by simp, by simp; omega⟩
      · have e4 : (vs ++ [w]).map li = vs.map li ++ [li w] := by simp
        have hl6 : (vs.map li).length < lim := lim_lt (by simp; omega)
        rw [e4]
        generalize vs.map li = WL at *
        generalize li w = W at *
        simp -implicitDefEqProofs [-List.any_eq_true, -List.any_eq_false, q1, an, o1, o2, hl6]
      · rw [List.mem_singleton.mp hb] at e
        subst e; exact q2 ha
      · rcases List.mem_append.mp hx with hx | hx
        · exact v2.2 x hx
        · rw [List.mem_singleton.mp hx]; exact ⟨hwl, hwr⟩
    · refine ⟨vs, .ow (li w), ?_, v2, v3, by omega⟩
      by_cases q1 : r % 4 = 2
      · have q2 : w ∈ vs := Classical.byContradiction fun z => q ⟨q1, z⟩
        rw [decide_eq_true q2] at an
        generalize vs.map li = WL at *
        generalize li w = W at *
        simp -implicitDefEqProofs [-List.any_eq_true, -List.any_eq_false, q1, an, o1, o2]
      · generalize vs.map li = WL at *
        generalize li w = W at *
        simp -implicitDefEqProofs [q1]
  rw [seq_nx u1]
  clear u1
  obtain ⟨i, v, e1, e2, e3⟩ := idx_pick us (c / (m : Int)) u3
  have hi : i < us.length := (List.getElem?_eq_some_iff.mp e2).1
  have hlm : (us.map li).length = us.length := by simp
  have hlp : (0 : Int) < (us.map li).length := by omega
  rw [← hlm] at e1
  rw [seq_nx (s' := [.sh (.scr ns), .sh (.int f), .sh (.int s), .sh (.int n), .sh (.int m), .sh (.int c), .ow (.lst (us.map li)), y7, y8, y9', .sh (.int r), .sh (.int i), .un])]
  rotate_left
  · generalize us.map li = WL at *
    have hnn : 0 < WL.length := by omega
    simp -implicitDefEqProofs [hm0, hm1, hm2, hm3, hlp, hnn, e1]
  have k1 : DL.cut (us.map li) (some (i : Int)) none = (us.drop i).map li := by rw [cut_from _ i (by omega), List.map_drop]
  have k2 : DL.cut (us.map li) none (some (i : Int)) = (us.take i).map li := by rw [cut_to _ i (by omega), List.map_take]
  have k3 : (us.drop i).map li ++ (us.take i).map li = (us.drop i ++ us.take i).map li := by simp
  have k4 : ((us.drop i).map li).length + ((us.take i).map li).length ≤ lim := lim_le (by simp only [List.length_map, List.length_drop, List.length_take]; omega)
  have kp : (us.drop i ++ us.take i).Perm us := List.perm_append_comm.trans (by rw [List.take_append_drop])
  rw [seq_nx (s' := [.sh (.scr ns), .sh (.int f), .sh (.int s), .sh (.int n), .sh (.int m), .sh (.int c), .ow (.lst ((us.drop i ++ us.take i).map li)), y7, y8, y9', .sh (.int r), .sh (.int i), .un])]
  rotate_left
  · rw [← k3]
    generalize (us.drop i).map li = W1 at *
    generalize (us.take i).map li = W2 at *
    generalize us.map li = WL at *
    simp -implicitDefEqProofs [k1, k2, k4]
  have sr := srtL_li (us.drop i ++ us.take i)
  by_cases q : r / 4 % 2 = 1
  · refine ⟨isrt (us.drop i ++ us.take i), ?_, wds_perm u2 ((isrt_perm _).trans kp), fun z => ?_, by rw [((isrt_perm _).trans kp).length_eq]; exact u4⟩
    · generalize (isrt (us.drop i ++ us.take i)).map li = W1 at *
      generalize (us.drop i ++ us.take i).map li = W2 at *
      simp -implicitDefEqProofs [-srtL, q, sr]
    · have := ((isrt_perm _).trans kp).length_eq
      rw [z] at this; simp at this; omega
  · refine ⟨us.drop i ++ us.take i, ?_, wds_perm u2 kp, fun z => ?_, by rw [kp.length_eq]; exact u4⟩
    · generalize (us.drop i ++ us.take i).map li = W2 at *
      simp -implicitDefEqProofs [q]
    · have := kp.length_eq
      rw [z] at this; simp at this; omega
end My
namespace My
open PySem PySem.Spec L2 DL
/-! where one comes to -/
/-- just the joints that one comes to from s -/
def Spread (ws : List (List Int)) (s : List Int) (F : List (List Int)) : Prop := s ∈ F ∧ (∀ w ∈ ws, w.dropLast ∈ F → w.drop 1 ∈ F) ∧ ∀ D : List Int → Prop, D s → (∀ w ∈ ws, D w.dropLast → D (w.drop 1)) → ∀ x ∈ F, D x
theorem spread_same {ws : List (List Int)} {s : List Int} {F G : List (List Int)} (h : Spread ws s F) (g : Spread ws s G) (x : List Int) : x ∈ F ↔ x ∈ G :=
  ⟨h.2.2 (fun x => x ∈ G) g.1 g.2.1 x, g.2.2 (fun x => x ∈ F) h.1 h.2.1 x⟩
def lstep (ws : List (List Int)) (a : List Int) (f : List (List Int)) : List (List Int) := f ++ (ws.filter fun w => decide (w.dropLast = a ∧ w.drop 1 ∉ f)).map (List.drop 1)
theorem word_of {n : Nat} {v w : List Int} (hv : v.length = n + 2) (hw : w.length = n + 2) (h1 : v.dropLast = w.dropLast) (h2 : v.drop 1 = w.drop 1) : v = w := by
  match v, w, hv, hw with
  | a :: b :: v, c :: d :: w, _, _ =>
    simp at h1 h2
    rw [h1.1, h2.1, h2.2]
theorem lstep_nodup {ws : List (List Int)} {n : Nat} (h : Sized (n + 1) ws) (hn : ws.Nodup) (a : List Int) (f : List (List Int)) (hf : f.Nodup) (h0 : n = 0 → [] ∈ f) : (lstep ws a f).Nodup := by
  refine List.nodup_append.mpr ⟨hf, ?_, fun x hx y hy e => ?_⟩
  · cases n with
    | zero =>
      have : ws.filter (fun w => decide (w.dropLast = a ∧ w.drop 1 ∉ f)) = [] := by
        refine List.filter_eq_nil_iff.mpr fun w hw => ?_
        have hl := h w hw
        have : w.drop 1 = [] := List.drop_eq_nil_of_le (by omega)
        simp [this, h0 rfl]
      rw [this]; simp
    | succ n =>
      refine nodup_map (fun x hx y hy e => ?_) (hn.filter _)
      obtain ⟨x1, x2⟩ := List.mem_filter.mp hx
      obtain ⟨y1, y2⟩ := List.mem_filter.mp hy
      simp only [decide_eq_true_eq] at x2 y2
      exact word_of (h x x1) (h y y1) (x2.1.trans y2.1.symm) e
  · obtain ⟨w, hw, rfl⟩ := List.mem_map.mp hy
    have := (List.mem_filter.mp hw).2
    simp only [decide_eq_true_eq] at this
    rw [e] at hx
    exact this.2 hx
theorem lstep_mem {ws : List (List Int)} {a : List Int} {f : List (List Int)} {x : List Int} (h : x ∈ lstep ws a f) : x ∈ f ∨ ∃ w ∈ ws, w.dropLast = a ∧ w.drop 1 = x := by
  rcases List.mem_append.mp h with h | h
  · exact .inl h
  · obtain ⟨w, hw, rfl⟩ := List.mem_map.mp h
    obtain ⟨w1, w2⟩ := List.mem_filter.mp hw
    simp only [decide_eq_true_eq] at w2
    exact .inr ⟨w, w1, w2.1, rfl⟩
theorem lstep_all {ws : List (List Int)} {a : List Int} {f : List (List Int)} {w : List Int} (hw : w ∈ ws) (h : w.dropLast = a) : w.drop 1 ∈ lstep ws a f := by
  by_cases q : w.drop 1 ∈ f
  · exact List.mem_append_left _ q
  · exact List.mem_append_right _ (List.mem_map.mpr ⟨w, List.mem_filter.mpr ⟨hw, by rw [decide_eq_true_eq]; exact ⟨h, q⟩⟩, rfl⟩)
/-- a search, as a while loop: the state S f p has found f, and has looked at the first p of them -/
theorem lwh {t : Ev → Res Bool} {g : Ev → Out} (S : List (List Int) → Nat → Ev → Prop) (ws : List (List Int)) (n : Nat) (h : Sized (n + 1) ws) (hn : ws.Nodup) (s : List Int) (h0 : n = 0 → s = [])
    (ht : ∀ f p e, f.length ≤ 2 * ws.length + 1 → S f p e → t e = .ok (decide (p < f.length))) (hb : ∀ f p e a, f.length ≤ 2 * ws.length + 1 → (lstep ws a f).length ≤ 2 * ws.length + 1 → S f p e → f[p]? = some a → ∃ e', g e = .nx e' ∧ S (lstep ws a f) (p + 1) e') :
    ∀ (c fuel p : Nat) (f : List (List Int)) (e : Ev), S f p e → f.Nodup → (∀ x ∈ f, x ∈ s :: jk ws) → s ∈ f → (∀ q a, q < p → f[q]? = some a → ∀ w ∈ ws, w.dropLast = a → w.drop 1 ∈ f) → (∀ D : List Int → Prop, D s → (∀ w ∈ ws, D w.dropLast → D (w.drop 1)) → ∀ x ∈ f, D x) → 2 * ws.length + 1 ≤ p + c → c < fuel → p ≤ f.length →
    ∃ F e', whF t g fuel e = .nx e' ∧ S F F.length e' ∧ Spread ws s F ∧ F.length ≤ 2 * ws.length + 1 := by
  intro c
  induction c with
  | zero =>
    intro fuel p f e hS hf hj hs hc hD hp hfu hpl
    have hsm := small hf hj
    obtain ⟨fuel, rfl⟩ : ∃ f, fuel = f + 1 := ⟨fuel - 1, by omega⟩
    have hpe : p = f.length := by omega
    have t1 := ht f p e hsm hS
    rw [decide_eq_false (by omega)] at t1
    refine ⟨f, e, by simp only [whF, t1, bndR_ok]; rfl, by rw [← hpe]; exact hS, ⟨hs, fun w hw hd => ?_, hD⟩, hsm⟩
    obtain ⟨q, hq⟩ := List.mem_iff_getElem?.mp hd
    exact hc q _ (by have := (List.getElem?_eq_some_iff.mp hq).1; omega) hq w hw rfl
  | succ c ih =>
    intro fuel p f e hS hf hj hs hc hD hp hfu hpl
    have hsm := small hf hj
    obtain ⟨fuel, rfl⟩ : ∃ f, fuel = f + 1 := ⟨fuel - 1, by omega⟩
    have t1 := ht f p e hsm hS
    by_cases q : p < f.length
    · rw [decide_eq_true q] at t1
      have ha : f[p]? = some f[p] := List.getElem?_eq_getElem q
      have nd := lstep_nodup h hn f[p] f hf (fun z => by rw [← h0 z]; exact hs)
      have hmj : ∀ x ∈ lstep ws f[p] f, x ∈ s :: jk ws := fun x hx => by
        rcases lstep_mem hx with hx | ⟨w, hw, _, rfl⟩
        · exact hj x hx
        · exact List.mem_cons_of_mem _ (jk_mem.mpr ⟨w, hw, .inr rfl⟩)
      obtain ⟨e1, g1, g2⟩ := hb f p e _ hsm (small nd hmj) hS ha
      obtain ⟨F, e', r1, r2, r3, r4⟩ := ih fuel (p + 1) (lstep ws f[p] f) e1 g2 nd hmj (List.mem_append_left _ hs) (fun j a hj ha w hw hd => by
          by_cases qj : j = p
          · subst qj
            rw [lstep, List.getElem?_append_left q, List.getElem?_eq_getElem q] at ha
            cases ha
            exact lstep_all hw hd
          · rw [lstep, List.getElem?_append_left (by omega)] at ha
            exact List.mem_append_left _ (hc j a (by omega) ha w hw hd))
        (fun D d1 d2 x hx => by
          rcases lstep_mem hx with hx | ⟨w, hw, e2, rfl⟩
          · exact hD D d1 d2 x hx
          · exact d2 w hw (by rw [e2]; exact hD D d1 d2 _ (List.getElem_mem _)))
        (by omega) (by omega) (by simp only [lstep, List.length_append]; omega)
      refine ⟨F, e', ?_, r2, r3, r4⟩
      simp only [whF, t1, bndR_ok, if_true, g1, r1]
    · rw [decide_eq_false q] at t1
      have hpe : p = f.length := by omega
      refine ⟨f, e, by simp only [whF, t1, bndR_ok]; rfl, by rw [← hpe]; exact hS, ⟨hs, fun w hw hd => ?_, hD⟩, hsm⟩
      obtain ⟨j, hj⟩ := List.mem_iff_getElem?.mp hd
      exact hc j _ (by have := (List.getElem?_eq_some_iff.mp hj).1; omega) hj w hw rfl
/-- come_to's own search -/
theorem cgo_closed (ws : List (List Int)) (s : List Int) : ∀ (c p : Nat) (f : List (List Int)), f.Nodup → (∀ x ∈ f, x ∈ s :: jk ws) → (∀ q a, q < p → f[q]? = some a → ∀ w ∈ ws, w.dropLast = a → w.drop 1 ∈ f) → 2 * ws.length + 1 < p + c → p ≤ f.length → ∀ w ∈ ws, w.dropLast ∈ cgo ws c p f → w.drop 1 ∈ cgo ws c p f
  | 0, p, f, hf, hj, _, hp, hpl => by
    have := small hf hj
    omega
  | c + 1, p, f, hf, hj, hc, hp, hpl => by
    simp only [cgo]
    split
    · rename_i q
      obtain ⟨g, e, nd, m, al⟩ := cstep_spec ws (f.getD p []) f
      have eg : f.getD p [] = f[p] := by simp [List.getD, q]
      rw [e]
      refine cgo_closed ws s c (p + 1) (f ++ g) (nd hf) (fun x hx => ?_) (fun j a hj ha w hw hd => ?_) (by omega) (by simp; omega)
      · rcases List.mem_append.mp hx with hx | hx
        · exact hj x hx
        · obtain ⟨w, hw, _, rfl⟩ := m x hx
          exact List.mem_cons_of_mem _ (jk_mem.mpr ⟨w, hw, .inr rfl⟩)
      · by_cases qj : j = p
        · subst qj
          rw [List.getElem?_append_left q, List.getElem?_eq_getElem q] at ha
          cases ha
          exact al w hw (by rw [eg]; exact hd)
        · rw [List.getElem?_append_left (by omega)] at ha
          exact List.mem_append_left _ (hc j a (by omega) ha w hw hd)
    · intro w hw hd
      obtain ⟨j, hj⟩ := List.mem_iff_getElem?.mp hd
      exact hc j _ (by have := (List.getElem?_eq_some_iff.mp hj).1; omega) hj w hw rfl
theorem come_spread (ws : List (List Int)) (s : List Int) : Spread ws s (come ws s) :=
  ⟨come_start ws s, cgo_closed ws s _ _ [s] (by simp) (by simp) (fun q a h => by omega) (by omega) (by simp), fun D h1 h2 => come_sub ws s D h1 h2⟩
/-- counts of words -/
def outs (ws : List (List Int)) (k : List Int) : Nat := (ws.filter fun w => decide (w.dropLast = k)).length
def ins (ws : List (List Int)) (k : List Int) : Nat := (ws.filter fun w => decide (w.drop 1 = k)).length
theorem outs_cons (w : List Int) (ws : List (List Int)) (k : List Int) : outs (w :: ws) k = (if w.dropLast = k then 1 else 0) + outs ws k := by
  unfold outs
  rw [List.filter_cons]
  by_cases h : w.dropLast = k
  · rw [if_pos h, if_pos (decide_eq_true h), List.length_cons]; omega
  · rw [if_neg h, if_neg (by rw [decide_eq_true_eq]; exact h)]; omega
theorem ins_cons (w : List Int) (ws : List (List Int)) (k : List Int) : ins (w :: ws) k = (if w.drop 1 = k then 1 else 0) + ins ws k := by
  unfold ins
  rw [List.filter_cons]
  by_cases h : w.drop 1 = k
  · rw [if_pos h, if_pos (decide_eq_true h), List.length_cons]; omega
  · rw [if_neg h, if_neg (by rw [decide_eq_true_eq]; exact h)]; omega
theorem bal_count (ws : List (List Int)) (k : List Int) : bal ws k = (outs ws k : Int) - (ins ws k : Int) := by
  induction ws with
  | nil => rfl
  | cons w ws ih =>
    rw [bal_cons, ih, outs_cons, ins_cons]
    split <;> split <;> omega
/-- an even book, of which one does not come to all joints: a word begins where one doesn't come to -/
theorem apart_word {ws : List (List Int)} {s : List Int} {F : List (List Int)} (hF : Spread ws s F) (even : ∀ k, bal ws k = 0) (hl : (come ws s).length < (isrt (jk ws)).length) : ∃ w ∈ ws, w.dropLast ∉ F := by
  refine Classical.byContradiction fun no => ?_
  have h1 : ∀ w ∈ ws, w.dropLast ∈ F := fun w hw => Classical.byContradiction fun z => no ⟨w, hw, z⟩
  have h2 : ∀ k ∈ jk ws, k ∈ come ws s := fun k hk => by
    rw [← spread_same hF (come_spread ws s)]
    obtain ⟨w, hw, rfl | rfl⟩ := jk_mem.mp hk
    · exact h1 w hw
    · exact hF.2.1 w hw (h1 w hw)
  have h3 := (nodup_sub (jk ws) (come ws s) (jk_nodup ws) h2).1
  have := (isrt_perm (jk ws)).length_eq
  omega
end My
namespace My
open PySem PySem.Spec L2 DL
theorem F_lpair_eq (c : Int) : ∃ (s : Int) (n : Nat), F__law_pair [.int c] = .ok ⟨.sh, .tup [.int s, .int n]⟩ ∧ (1 ≤ s ∧ s ≤ 9) ∧ (1 ≤ n ∧ n ≤ 8) ∧ fits (.int s) (.int n) = true := by
  have l12 : 12 ≤ lim := by decide
  have l2 : 2 ≤ lim := by decide
  have : c % 12 = 0 ∨ c % 12 = 1 ∨ c % 12 = 2 ∨ c % 12 = 3 ∨ c % 12 = 4 ∨ c % 12 = 5 ∨ c % 12 = 6 ∨ c % 12 = 7 ∨ c % 12 = 8 ∨ c % 12 = 9 ∨ c % 12 = 10 ∨ c % 12 = 11 := by omega
  rcases this with h2 | h2 | h2 | h2 | h2 | h2 | h2 | h2 | h2 | h2 | h2 | h2
  · exact ⟨2, 3, by simp [F__law_pair, g__law_pair, h2, l12, l2]; rfl, by decide, by decide, by decide +kernel⟩
  · exact ⟨3, 2, by simp [F__law_pair, g__law_pair, h2, l12, l2]; rfl, by decide, by decide, by decide +kernel⟩
  · exact ⟨2, 4, by simp [F__law_pair, g__law_pair, h2, l12, l2]; rfl, by decide, by decide, by decide +kernel⟩
  · exact ⟨3, 3, by simp [F__law_pair, g__law_pair, h2, l12, l2]; rfl, by decide, by decide, by decide +kernel⟩
  · exact ⟨2, 2, by simp [F__law_pair, g__law_pair, h2, l12, l2]; rfl, by decide, by decide, by decide +kernel⟩
  · exact ⟨4, 2, by simp [F__law_pair, g__law_pair, h2, l12, l2]; rfl, by decide, by decide, by decide +kernel⟩
  · exact ⟨2, 5, by simp [F__law_pair, g__law_pair, h2, l12, l2]; rfl, by decide, by decide, by decide +kernel⟩
  · exact ⟨5, 2, by simp [F__law_pair, g__law_pair, h2, l12, l2]; rfl, by decide, by decide, by decide +kernel⟩
  · exact ⟨3, 1, by simp [F__law_pair, g__law_pair, h2, l12, l2]; rfl, by decide, by decide, by decide +kernel⟩
  · exact ⟨1, 4, by simp [F__law_pair, g__law_pair, h2, l12, l2]; rfl, by decide, by decide, by decide +kernel⟩
  · exact ⟨6, 1, by simp [F__law_pair, g__law_pair, h2, l12, l2]; rfl, by decide, by decide, by decide +kernel⟩
  · exact ⟨2, 8, by simp [F__law_pair, g__law_pair, h2, l12, l2]; rfl, by decide, by decide, by decide +kernel⟩
theorem wds_book {s : Int} {n : Nat} {ws : List (List Int)} (h : Wds s n ws) (h0 : ws ≠ []) : Book s n ws := ⟨h0, h.1, h.2⟩
/-- is_ring_of, of a good book and a good ring -/
theorem F_is_ring_good (s : Int) (n : Nat) (ws : List (List Int)) (r : List Int) (nb : F_need_book [.int s, .int n, .lst (ws.map li)] = .ok ⟨.sh, .non⟩) (hr : isR s (li r) = true) (h0 : 0 < r.length) (hl : r.length ≤ 1000) (hn : n ≤ 1000) :
    F_is_ring_of [.int s, .int n, .lst (ws.map li), li r] = .ok ⟨.sh, .bl (decide (isrt (wrd r n) = isrt ws))⟩ := by
  have nr := F_need_ring_eq s (li r) kn1_li
  rw [if_pos hr] at nr
  have lc := lc_rng (fe := c_is_ring_of_1) (i := 4) (s := [.sh (.int s), .sh (.int n), .sh (.lst (ws.map li)), .sh (li r), .un]) (fun p => li (frm r p n)) r.length (by
    intro k hk
    have := F_signs_from_eq r k n h0 (by omega) (by omega) (by omega)
    exact ⟨.fr, by simp, by
      generalize ws.map li = WL at *
      generalize li (frm r k n) = FF at *
      generalize li r = RR at *
      simp -implicitDefEqProofs [c_is_ring_of_1, this]⟩)
  have e1 : (List.range r.length).map (fun p => li (frm r p n)) = (wrd r n).map li := by simp [wrd]
  rw [e1] at lc
  have s1 := srtL_li (wrd r n)
  have s2 := srtL_li ws
  have o1 := okEq_lis (isrt (wrd r n))
  have o2 := okEq_lis (isrt ws)
  have ee : eqL ((isrt (wrd r n)).map li) ((isrt ws).map li) = decide (isrt (wrd r n) = isrt ws) := eqL_ints2
  have hlw : ((wrd r n).map li).length ≤ lim := lim_le (by simp [wrd]; omega)
  have hln : (r.map D.int).length = r.length := by simp
  have hn9 : r.length ≤ 1000000000 := by omega
  generalize (isrt (wrd r n)).map li = A1 at *
  generalize (isrt ws).map li = A2 at *
  generalize (wrd r n).map li = A3 at *
  generalize ws.map li = A4 at *
  simp only [li] at *
  generalize r.map D.int = RD at *
  rw [← hln] at hn9 lc
  simp -implicitDefEqProofs [-srtL, F_is_ring_of, g_is_ring_of, nb, nr, -rng1, rng1_nat hn9, lc, hlw, s1, s2, o1, o2, ee]
theorem ring_same {r : List Int} {n : Nat} {ws : List (List Int)} (h : ws.Nodup) : isrt (wrd r n) = isrt ws ↔ r.length = ws.length ∧ ∀ w ∈ ws, w ∈ wrd r n := by
  have hlr : (wrd r n).length = r.length := by simp [wrd]
  constructor
  · intro e
    have p : (wrd r n).Perm ws := (isrt_perm _).symm.trans (by rw [e]; exact isrt_perm _)
    exact ⟨by rw [← hlr]; exact p.length_eq, fun w hw => p.mem_iff.mpr hw⟩
  · rintro ⟨h1, h2⟩
    exact isrt_perm_eq ((nodup_sub ws (wrd r n) h h2).2 (by omega))
end My
namespace My
open PySem PySem.Spec L2 DL
/-- a loop that returns at the first item of a kind -/
theorem loop_if {α : Type} {g : Ev → Out} {i : Nat} (to : α → D) (P : α → Prop) (r : Rv) (I : Ev → Prop) : ∀ (l : List α) (s : Ev), (∀ a ∈ l, ∀ s, I s → (P a ∧ g (st s i (.sh (to a))) = .rt r) ∨ (¬ P a ∧ ∃ s', g (st s i (.sh (to a))) = .nx s' ∧ I s')) → I s →
    ((∃ a ∈ l, P a) ∧ loopF g i (l.map to) s = .rt r) ∨ ((∀ a ∈ l, ¬ P a) ∧ ∃ s', loopF g i (l.map to) s = .nx s' ∧ I s')
  | [], s, _, h => .inr ⟨by simp, s, rfl, h⟩
  | a :: l, s, hs, h => by
    rcases hs a List.mem_cons_self s h with ⟨h1, h2⟩ | ⟨h1, s', h2, h3⟩
    · exact .inl ⟨⟨a, List.mem_cons_self, h1⟩, by simp only [List.map_cons, loopF, h2]⟩
    · rcases loop_if to P r I l s' (fun b hb => hs b (List.mem_cons_of_mem _ hb)) h3 with ⟨⟨b, hb, q⟩, e⟩ | ⟨q, e⟩
      · exact .inl ⟨⟨b, List.mem_cons_of_mem _ hb, q⟩, by simp only [List.map_cons, loopF, h2]; exact e⟩
      · refine .inr ⟨fun b hb => ?_, by simp only [List.map_cons, loopF, h2]; exact e⟩
        rcases List.mem_cons.mp hb with rfl | hb
        · exact h1
        · exact q b hb
theorem filt_li {ft : Ev → Res Bool} {fe : Ev → Res Rv} {i : Nat} {s : Ev} (ws : List (List Int)) (p : List Int → Bool) (h : ∀ w ∈ ws, ft (st s i (.sh (li w))) = .ok (p w)) (he : ∀ w ∈ ws, fe (st s i (.sh (li w))) = .ok ⟨.sh, li w⟩) : lcF ft fe i s (ws.map li) = .ok ((ws.filter p).map li) := by
  induction ws with
  | nil => rfl
  | cons w ws ih =>
    have i1 := ih (fun v hv => h v (List.mem_cons_of_mem _ hv)) (fun v hv => he v (List.mem_cons_of_mem _ hv))
    have h1 := h w List.mem_cons_self
    have h2 := he w List.mem_cons_self
    simp only [List.map_cons, lcF, h1, i1, List.filter_cons]
    cases p w <;> simp [h2]
theorem filt_liF {ft : Ev → Res Bool} {fe : Ev → Res Rv} {i : Nat} {s : Ev} (ws : List (List Int)) (p : List Int → Bool) (f : List Int → List Int) (h : ∀ w ∈ ws, ft (st s i (.sh (li w))) = .ok (p w)) (he : ∀ w ∈ ws, ∃ k, k ≠ .ow ∧ fe (st s i (.sh (li w))) = .ok ⟨k, li (f w)⟩) : lcF ft fe i s (ws.map li) = .ok (((ws.filter p).map f).map li) := by
  induction ws with
  | nil => rfl
  | cons w ws ih =>
    have i1 := ih (fun v hv => h v (List.mem_cons_of_mem _ hv)) (fun v hv => he v (List.mem_cons_of_mem _ hv))
    have h1 := h w List.mem_cons_self
    obtain ⟨k, hk, h2⟩ := he w List.mem_cons_self
    simp only [List.map_cons, lcF, h1, i1, List.filter_cons]
    cases p w
    · simp
    · cases k with
      | ow => exact absurd rfl hk
      | sh => simp [h2]
      | fr => simp [h2]
theorem eqD_li (a b : List Int) : eqD (li a) (li b) = decide (a = b) := by
  show eqD (.lst _) (.lst _) = _
  rw [eqD_lst, eqL_ints]
theorem isrt_head {ws : List (List Int)} (h : ws ≠ []) : ∃ l, isrt ws = minB ws :: l := by
  obtain ⟨m1, m2⟩ := minB_mem h
  cases e : isrt ws with
  | nil =>
    have := (isrt_perm ws).length_eq
    rw [e] at this
    exact absurd (List.length_eq_zero_iff.mp this.symm) h
  | cons x l =>
    have hs := isrt_sorted ws
    rw [e] at hs
    have hx : x ∈ ws := (isrt_perm ws).mem_iff.mp (by rw [e]; exact List.mem_cons_self)
    have hm : minB ws ∈ x :: l := by rw [← e]; exact (isrt_perm ws).mem_iff.mpr m1
    have h1 := m2 x hx
    rcases List.mem_cons.mp hm with hm | hm
    · exact ⟨l, by rw [hm]⟩
    · have h2 := (List.pairwise_cons.mp hs).1 _ hm
      exact ⟨l, by rw [List.le_antisymm h1 h2]⟩
/-- signs of so many -/
def Sgn (s : Int) (r : List Int) : Prop := 0 < r.length ∧ ∀ x ∈ r, 0 ≤ x ∧ x < s
theorem sgn_isR {s : Int} {r : List Int} (h : Sgn s r) (hl : r.length ≤ 256) : isR s (li r) = true := isR_li h.1 hl fun x hx => by have := h.2 x hx; omega
theorem sgn_turn {s : Int} {r : List Int} (h : Sgn s r) (i : Nat) : Sgn s (r.drop i ++ r.take i) := by
  have p : (r.drop i ++ r.take i).Perm r := List.perm_append_comm.trans (by rw [List.take_append_drop])
  exact ⟨by rw [p.length_eq]; exact h.1, fun x hx => h.2 x (p.mem_iff.mp hx)⟩
theorem lackNo {l : Lack} (h : isLackNo l = true) : l = .no := by
  cases l with
  | no => rfl
  | _ => cases h
/-- what the program tells of a good book -/
theorem ring_or_lack (s : Int) (n : Nat) (ws : List (List Int)) (hb : Book s (n + 1) ws) (hf : fits (.int s) (.int ((n + 1 : Nat) : Int)) = true) (hl : ws.length ≤ 1000) (hn : n ≤ 100) :
    F_need_book [.int s, .int ((n + 1 : Nat) : Int), .lst (ws.map li)] = .ok ⟨.sh, .non⟩ ∧ ((isLackNo (lackL ws) = false ∧ F_ring_of [.int s, .int ((n + 1 : Nat) : Int), .lst (ws.map li)] = .exc 5) ∨
    (isLackNo (lackL ws) = true ∧ ∃ r : List (List Int), trip ws = some (r.reverse.map some ++ [none]) ∧ r.Perm ws ∧ walk (minB ws).dropLast (minB ws).dropLast r ∧ F_ring_of [.int s, .int ((n + 1 : Nat) : Int), .lst (ws.map li)] = .ok ⟨.fr, li (heads r)⟩ ∧ Sgn s (heads r) ∧ wrd (heads r) (n + 1) = r ∧ (heads r).length = ws.length)) := by
  have nb := F_need_book_good s (n + 1) ws hf hb hl
  have hsz : Sized (n + 1) ws := fun w hw => (hb.2.2 w hw).1
  obtain ⟨f1, f2⟩ := F_ring_of_eq (.int s) (.int ((n + 1 : Nat) : Int)) ws n nb hsz hb.1 hl (by omega)
  refine ⟨nb, ?_⟩
  cases e : isLackNo (lackL ws) with
  | false => exact .inl ⟨rfl, f1 e⟩
  | true =>
    have hno := lackNo e
    obtain ⟨r, t1, t2, t3⟩ := trip_full ws hb.1 hno
    have hrs : ∀ w ∈ r, w.length = n + 1 := fun w hw => hsz w (t2.mem_iff.mp hw)
    have hr0 : 0 < r.length := by rw [t2.length_eq]; exact List.length_pos_iff.mpr hb.1
    refine .inr ⟨rfl, r, t1, t2, t3, f2 r hno t1 (fun w hw => by rw [hrs w hw]; omega) (by rw [t2.length_eq]; exact hl), ⟨by simp only [heads, List.length_map]; exact hr0, fun x hx => ?_⟩, heads_wrd hr0 t3 hrs, by simp [heads, t2.length_eq]⟩
    obtain ⟨w, hw, rfl⟩ := List.mem_map.mp hx
    have h1 := hrs w hw
    cases w with
    | nil => simp at h1
    | cons a w => exact (hb.2.2 (a :: w) (t2.mem_iff.mp hw)).2 a List.mem_cons_self
end My
namespace My
open PySem PySem.Spec L2 DL
def g__law_asked : Ev → Out :=
  (fTry 7 (fSeq (fIte (fB (fOp eqO (fVar 0) (fC (.int 0)))) (fRetTr (fFnT F_joints (fCons (fVar 1) (fCons (fVar 2) (fCons (fVar 3) (fun _ => .ok [])))))) .nx)
    (fRetTr (fFnT F_lack (fCons (fVar 1) (fCons (fVar 2) (fCons (fVar 3) (fun _ => .ok []))))))) (fun c => .rt ⟨.sh, .tup [.int c]⟩))
def F__law_asked : List D → Res Rv := fun ds => fin (g__law_asked (start0 5 ds))
def t__law_joints_1 : Ev → Res Bool :=
  (fB (fOp (inO true) (fOp ixO (fVar 1) (fVar 3)) (fSl (fVar 1) fNoP (fP (fVar 3)))))
def c__law_joints_1 : Ev → Res Rv :=
  (fOp ixO (fVar 1) (fVar 3))
def c__law_joints_2 : Ev → Res Rv :=
  (fSl (fVar 2) fNoP (fP (fNeg (fC (.int 1)))))
def c__law_joints_3 : Ev → Res Rv :=
  (fSl (fVar 2) (fP (fC (.int 1))) fNoP)
def g__law_joints : Ev → Out :=
  (fSeq (fSet 1 (fOp addO (fLc (fItL (fVar 0)) 2 (fun _ => .ok true) c__law_joints_2) (fLc (fItL (fVar 0)) 2 (fun _ => .ok true) c__law_joints_3)))
    (fRet (fCall (lstArg (srtL false)) (fCons (fLc (fRng rng1 (fCons (fCall lenO (fCons (fVar 1) (fun _ => .ok []))) (fun _ => .ok []))) 3 t__law_joints_1 c__law_joints_1) (fun _ => .ok [])))))
def F__law_joints : List D → Res Rv := fun ds => fin (g__law_joints (start0 4 ds))
def t__law_balance_1 : Ev → Res Bool :=
  (fB (fOp eqO (fSl (fVar 2) fNoP (fP (fNeg (fC (.int 1))))) (fVar 1)))
def c__law_balance_1 : Ev → Res Rv :=
  (fVar 2)
def t__law_balance_2 : Ev → Res Bool :=
  (fB (fOp eqO (fSl (fVar 2) (fP (fC (.int 1))) fNoP) (fVar 1)))
def c__law_balance_2 : Ev → Res Rv :=
  (fVar 2)
def g__law_balance : Ev → Out :=
  (fRet (fOp subO (fCall lenO (fCons (fLc (fItL (fVar 0)) 2 t__law_balance_1 c__law_balance_1) (fun _ => .ok []))) (fCall lenO (fCons (fLc (fItL (fVar 0)) 2 t__law_balance_2 c__law_balance_2) (fun _ => .ok [])))))
def F__law_balance : List D → Res Rv := fun ds => fin (g__law_balance (start0 3 ds))
def t__law_is_apart_1 : Ev → Res Bool :=
  (fB (fOp (inO true) (fSl (fVar 4) fNoP (fP (fNeg (fC (.int 1))))) (fVar 1)))
def c__law_is_apart_1 : Ev → Res Rv :=
  (fVar 4)
def t__law_is_apart_2 : Ev → Res Bool :=
  (fB (fOp (inO true) (fVar 5) (fVar 1)))
def c__law_is_apart_2 : Ev → Res Rv :=
  (fVar 5)
def t__law_is_apart_3 : Ev → Res Bool :=
  (fB (fOp (inO false) (fSl (fVar 4) fNoP (fP (fNeg (fC (.int 1))))) (fVar 1)))
def c__law_is_apart_3 : Ev → Res Rv :=
  (fSl (fVar 4) (fP (fC (.int 1))) fNoP)
def b__law_is_apart_1 : Ev → Out :=
  (fIte (tOrF (tNotF (fB (fIs .list (fOp ixO (fVar 1) (fVar 2))))) (tOrF (fB (fOp (inO false) (fOp ixO (fVar 1) (fVar 2)) (fSl (fVar 1) fNoP (fP (fVar 2))))) (fB (fOp (inO true) (fOp ixO (fVar 1) (fVar 2)) (fFn F__law_joints (fCons (fVar 0) (fun _ => .ok []))))))) (fRet (fC (.bl false))) .nx)
def g__law_is_apart : Ev → Out :=
  (fSeq (fIte (tOrF (tNotF (fB (fIs .list (fVar 1)))) (tOrF (fB (fOp neO (fVar 1) (fCall (lstArg (srtL false)) (fCons (fVar 1) (fun _ => .ok []))))) (fB (fOp (inO true) (fSl (fOp ixO (fCall (lstArg (srtL false)) (fCons (fVar 0) (fun _ => .ok []))) (fC (.int 0))) fNoP (fP (fNeg (fC (.int 1))))) (fVar 1))))) (fRet (fC (.bl false))) .nx)
    (fSeq (fFor (fRng rng1 (fCons (fCall lenO (fCons (fVar 1) (fun _ => .ok []))) (fun _ => .ok []))) 2 b__law_is_apart_1)
    (fSeq (fSet 3 (fLc (fItL (fVar 0)) 4 t__law_is_apart_3 c__law_is_apart_3))
    (fSeq (fIte (fB (fOp neO (fLc (fItL (fVar 3)) 5 t__law_is_apart_2 c__law_is_apart_2) (fLst (fun _ => .ok [])))) (fRet (fC (.bl false))) .nx)
    (fRet (fOp neO (fLc (fItL (fVar 0)) 4 t__law_is_apart_1 c__law_is_apart_1) (fLst (fun _ => .ok []))))))))
def F__law_is_apart : List D → Res Rv := fun ds => fin (g__law_is_apart (start0 6 ds))
def b__law_spread_1 : Ev → Out :=
  (fIte (tAndF (fB (fOp eqO (fSl (fVar 3) fNoP (fP (fNeg (fC (.int 1))))) (fOp ixO (fVar 1) (fVar 2)))) (fB (fOp (inO true) (fSl (fVar 3) (fP (fC (.int 1))) fNoP) (fVar 1)))) (fMut 1 appG (fCons (fSl (fVar 3) (fP (fC (.int 1))) fNoP) (fun _ => .ok []))) .nx)
def w__law_spread_1 : Ev → Res Bool :=
  (fB (fOp ltO (fVar 2) (fCall lenO (fCons (fVar 1) (fun _ => .ok [])))))
def b__law_spread_2 : Ev → Out :=
  (fSeq (fFor (fItL (fVar 0)) 3 b__law_spread_1)
    (fSet 2 (fOp addO (fVar 2) (fC (.int 1)))))
def g__law_spread : Ev → Out :=
  (fSeq (fSet 1 (fLst (fCons (fSl (fOp ixO (fCall (lstArg (srtL false)) (fCons (fVar 0) (fun _ => .ok []))) (fC (.int 0))) fNoP (fP (fNeg (fC (.int 1))))) (fun _ => .ok []))))
    (fSeq (fSet 2 (fC (.int 0)))
    (fSeq (fWhile w__law_spread_1 b__law_spread_2)
    (fRet (fVar 1)))))
def F__law_spread : List D → Res Rv := fun ds => fin (g__law_spread (start0 4 ds))
def t__law_right_1 : Ev → Res Bool :=
  (fB (fOp (inO true) (fVar 4) (fVar 3)))
def c__law_right_1 : Ev → Res Rv :=
  (fVar 4)
def t__law_right_2 : Ev → Res Bool :=
  (fB (fOp neO (fFn F__law_balance (fCons (fVar 0) (fCons (fVar 4) (fun _ => .ok [])))) (fC (.int 0))))
def c__law_right_2 : Ev → Res Rv :=
  (fVar 4)
def g__law_right : Ev → Out :=
  (fSeq (fSet 2 (fLc (fItL (fFn F__law_joints (fCons (fVar 0) (fun _ => .ok [])))) 4 t__law_right_2 c__law_right_2))
    (fSeq (fIte (fB (fOp neO (fVar 2) (fLst (fun _ => .ok [])))) (fRet (fAnd (fIs .tuple (fVar 1)) (fOp eqO (fVar 1) (fTup (fCons (fC (.str "uneven")) (fCons (fOp ixO (fVar 2) (fC (.int 0))) (fun _ => .ok []))))))) .nx)
    (fSeq (fSet 3 (fFn F__law_spread (fCons (fVar 0) (fun _ => .ok []))))
    (fSeq (fIte (fB (fOp eqO (fCall lenO (fCons (fVar 3) (fun _ => .ok []))) (fCall lenO (fCons (fFn F__law_joints (fCons (fVar 0) (fun _ => .ok []))) (fun _ => .ok []))))) (fRet (fOp (isO false) (fVar 1) (fC .non))) .nx)
    (fSeq (fIte (tOrF (tNotF (fB (fIs .tuple (fVar 1)))) (tOrF (fB (fOp neO (fCall lenO (fCons (fVar 1) (fun _ => .ok []))) (fC (.int 2)))) (tOrF (fB (fOp neO (fOp ixO (fVar 1) (fC (.int 0))) (fC (.str "apart")))) (tNotF (fB (fFn F__law_is_apart (fCons (fVar 0) (fCons (fOp ixO (fVar 1) (fC (.int 1))) (fun _ => .ok []))))))))) (fRet (fC (.bl false))) .nx)
    (fRet (fOp eqO (fLc (fItL (fOp ixO (fVar 1) (fC (.int 1)))) 4 t__law_right_1 c__law_right_1) (fLst (fun _ => .ok [])))))))))
def F__law_right : List D → Res Rv := fun ds => fin (g__law_right (start0 5 ds))
def k_law_14 : Ev → Out :=
  (fRet (fWk (fAnd (fOp eqO (fCall lenO (fCons (fVar 5) (fun _ => .ok []))) (fOp addO (fCall lenO (fCons (fVar 7) (fun _ => .ok []))) (fC (.int 1)))) (fOr (fOp (isO false) (fVar 6) (fC .non)) (fAnd (fOp eqO (fOp ixO (fOp ixO (fVar 6) (fC (.int 1))) (fNeg (fC (.int 1)))) (fC (.int 0))) (fOp eqO (fCall lenO (fCons (fOp ixO (fVar 6) (fC (.int 1))) (fun _ => .ok []))) (fOp addO (fCall lenO (fCons (fOp ixO (fVar 9) (fC (.int 1))) (fun _ => .ok []))) (fC (.int 1)))))))))
def c_law_1 : Ev → Res Rv :=
  (fCall listO (fCons (fVar 8) (fun _ => .ok [])))
def k_law_13 : Ev → Out :=
  (fSeq (fIte (fun s => (fB (fOp neO (fFn F__law_asked (fCons (fC (.int 0)) (fCons (fVar 1) (fCons (fVar 2) (fCons (fLc (fItL (fVar 3)) 8 (fun _ => .ok true) c_law_1) (fun _ => .ok [])))))) (fVar 7))) (wake s)) (fRet (fC (.bl false))) .nx)
    k_law_14)
def k_law_12 : Ev → Out :=
  (fSeq (fun s => (fun s => (fIte (tNotF (fB (fFn F__law_right (fCons (fVar 3) (fCons (fVar 9) (fun _ => .ok [])))))) (fRet (fC (.bl false))) .nx) (rel1 3 s)) (rel1 9 s))
    k_law_13)
def c_law_2 : Ev → Res Rv :=
  (fCall listO (fCons (fVar 8) (fun _ => .ok [])))
def k_law_11 : Ev → Out :=
  (fSeq (fSet 9 (fFn F__law_asked (fCons (fC (.int 1)) (fCons (fVar 1) (fCons (fVar 2) (fCons (fLc (fItL (fVar 3)) 8 (fun _ => .ok true) c_law_2) (fun _ => .ok [])))))))
    k_law_12)
def k_law_10 : Ev → Out :=
  (fSeq (fIte (fun s => (fB (fOp (isO true) (fVar 6) (fC .non))) (wake s)) (fAppP 6 [1] (fC (.int 0))) .nx)
    k_law_11)
def k_law_9 : Ev → Out :=
  (fSeq (fAppP 5 [] (fLst (fun _ => .ok [])))
    k_law_10)
def k_law_8 : Ev → Out :=
  (fSeq (fAppP 5 [0] (fC (.int 0)))
    k_law_9)
def k_law_7 : Ev → Out :=
  (fSeq (fAppForT 4 8 0)
    k_law_8)
def c_law_3 : Ev → Res D :=
  (fTr (fCall listO (fCons (fVar 10) (fun _ => .ok []))))
def k_law_6 : Ev → Out :=
  (fSetTr 7 (fLcT (fItL (fVar 5)) 10 (fun _ => .ok true) c_law_3)
    k_law_7)
def k_law_5 : Ev → Out :=
  (fSeq (fun s => (fIte (fun s => (tOrF (tNotF (fB (fIs .list (fVar 5)))) (tOrF (fB (fOp neO (fVar 5) (fFn F__law_joints (fCons (fVar 3) (fun _ => .ok []))))) (tOrF (tNotF (fB (fFn F__law_right (fCons (fVar 3) (fCons (fVar 6) (fun _ => .ok [])))))) (fB (fOp neO (fVar 4) (fVar 3)))))) (wake s)) (fRet (fC (.bl false))) .nx) (rel1 3 s))
    k_law_6)
def k_law_4 : Ev → Out :=
  (fSetTr 6 (fFnT F__law_asked (fCons (fC (.int 1)) (fCons (fVar 1) (fCons (fVar 2) (fCons (fVar 4) (fun _ => .ok []))))))
    k_law_5)
def k_law_3 : Ev → Out :=
  (fSetTr 5 (fFnT F__law_asked (fCons (fC (.int 0)) (fCons (fVar 1) (fCons (fVar 2) (fCons (fVar 4) (fun _ => .ok []))))))
    k_law_4)
def c_law_4 : Ev → Res D :=
  (fTr (fCall listO (fCons (fVar 8) (fun _ => .ok []))))
def k_law_2 : Ev → Out :=
  (fSetTr 4 (fLcT (fItL (fVar 3)) 8 (fun _ => .ok true) c_law_4)
    k_law_3)
def k_law_1 : Ev → Out :=
  (fSeq (fSet 3 (fFn F__law_book (fCons (fVar 0) (fCons (fC (.int 1)) (fCons (fVar 1) (fCons (fVar 2) (fCons (fC (.int 4)) (fun _ => .ok []))))))))
    k_law_2)
def g_law : Ev → Out :=
  (fSeq (fUnp [1, 2] (fFn F__law_pair (fCons (fFn F__law_cell_at (fCons (fVar 0) (fCons (fC (.int 0)) (fun _ => .ok [])))) (fun _ => .ok []))))
    k_law_1)
def F_law : List D → Res Rv := fun ds => fin (g_law (start0 11 ds))
end My
namespace My
open PySem PySem.Spec L2 DL
/-! the law's own joints -/
def ddl (l : List (List Int)) : List (List Int) := ((List.range l.length).filter fun k => decide (l.getD k [] ∉ l.take k)).map fun k => l.getD k []
theorem ddl_mem {l : List (List Int)} {x : List Int} : x ∈ ddl l ↔ x ∈ l := by
  constructor
  · intro h
    obtain ⟨k, hk, rfl⟩ := List.mem_map.mp h
    have := List.mem_range.mp (List.mem_filter.mp hk).1
    rw [List.getD_eq_getElem?_getD, List.getElem?_eq_getElem this]
    exact List.getElem_mem _
  · intro h
    have : ∀ n, n ≤ l.length → x ∈ l.take n → x ∈ ddl l := by
      intro n
      induction n with
      | zero => intro _ h; simp at h
      | succ n ih =>
        intro hn hx
        by_cases q : x ∈ l.take n
        · exact ih (by omega) q
        · have hl : n < l.length := by omega
          rw [List.take_add_one, List.getElem?_eq_getElem hl] at hx
          rcases List.mem_append.mp hx with hx | hx
          · exact absurd hx q
          · have e : x = l[n] := by simpa using hx
            have e2 : l.getD n [] = l[n] := by rw [List.getD_eq_getElem?_getD, List.getElem?_eq_getElem hl]; rfl
            refine List.mem_map.mpr ⟨n, List.mem_filter.mpr ⟨List.mem_range.mpr hl, ?_⟩, by rw [e2, e]⟩
            rw [e2, ← e]; exact decide_eq_true q
    exact this l.length (Nat.le_refl _) (by rw [List.take_length]; exact h)
theorem ddl_nodup (l : List (List Int)) : (ddl l).Nodup := by
  have key : ∀ i j, i < j → j < l.length → l.getD j [] ∉ l.take j → l.getD i [] ≠ l.getD j [] := fun i j hij hj hn e => by
    refine hn ?_
    rw [← e, List.getD_eq_getElem?_getD, List.getElem?_eq_getElem (by omega)]
    exact List.mem_take_iff_getElem.mpr ⟨i, by omega, rfl⟩
  refine nodup_map (fun x hx y hy e => ?_) (List.nodup_range.filter _)
  obtain ⟨x1, x2⟩ := List.mem_filter.mp hx
  obtain ⟨y1, y2⟩ := List.mem_filter.mp hy
  simp only [decide_eq_true_eq] at x2 y2
  rcases Nat.lt_trichotomy x y with q | q | q
  · exact absurd e (key x y q (List.mem_range.mp y1) y2)
  · exact q
  · exact absurd e.symm (key y x q (List.mem_range.mp x1) x2)
def someL (ws : List (List Int)) : List (List Int) := ws.map List.dropLast ++ ws.map (List.drop 1)
theorem ddl_jk (ws : List (List Int)) : isrt (ddl (someL ws)) = isrt (jk ws) := by
  refine isrt_perm_eq ((List.perm_ext_iff_of_nodup (ddl_nodup _) (jk_nodup ws)).mpr fun x => ?_)
  rw [ddl_mem, jk_mem]
  unfold someL
  rw [List.mem_append, List.mem_map, List.mem_map]
  constructor
  · rintro (⟨w, hw, rfl⟩ | ⟨w, hw, rfl⟩)
    · exact ⟨w, hw, .inl rfl⟩
    · exact ⟨w, hw, .inr rfl⟩
  · rintro ⟨w, hw, rfl | rfl⟩
    · exact .inl ⟨w, hw, rfl⟩
    · exact .inr ⟨w, hw, rfl⟩
theorem F_ljoints_eq (ws : List (List Int)) (n : Nat) (h : Sized (n + 1) ws) (hl : ws.length ≤ 1000) : F__law_joints [.lst (ws.map li)] = .ok ⟨.fr, .lst ((isrt (jk ws)).map li)⟩ := by
  have f1 := filt_liF (ft := fun _ => .ok true) (fe := c__law_joints_2) (i := 2) (s := [.sh (.lst (ws.map li)), .un, .un, .un]) ws (fun _ => true) List.dropLast (fun _ _ => rfl) (fun w hw => by
    have c1 := cut_last (w := w)
    refine ⟨.fr, by simp, ?_⟩
    simp only [li] at *
    generalize w.dropLast.map D.int = W1 at *
    generalize w.map D.int = W2 at *
    generalize ws.map (fun w => D.lst (w.map .int)) = WL at *
    simp -implicitDefEqProofs [c__law_joints_2, c1])
  have f2 := filt_liF (ft := fun _ => .ok true) (fe := c__law_joints_3) (i := 2) (s := [.sh (.lst (ws.map li)), .un, .un, .un]) ws (fun _ => true) (List.drop 1) (fun _ _ => rfl) (fun w hw => by
    have c1 := cut_tail (w := w) (by have := h w hw; omega)
    refine ⟨.fr, by simp, ?_⟩
    simp only [li] at *
    generalize (w.drop 1).map D.int = W1 at *
    generalize w.map D.int = W2 at *
    generalize ws.map (fun w => D.lst (w.map .int)) = WL at *
    simp -implicitDefEqProofs [c__law_joints_3, c1])
  have e0 : ws.filter (fun _ => true) = ws := List.filter_eq_self.mpr (by simp)
  rw [e0] at f1 f2
  have e1 : (ws.map List.dropLast).map li ++ (ws.map (List.drop 1)).map li = (someL ws).map li := by simp only [someL, List.map_append]
  have l0 : (someL ws).length = ws.length + ws.length := by simp [someL]
  have l1 : ((ws.map List.dropLast).map li).length ≤ lim := lim_le (by simp only [List.length_map]; omega)
  have l2 : ((ws.map (List.drop 1)).map li).length ≤ lim := lim_le (by simp only [List.length_map]; omega)
  have l3 : ((ws.map List.dropLast).map li).length + ((ws.map (List.drop 1)).map li).length ≤ lim := lim_le (by simp only [List.length_map]; omega)
  have f3 := lc_rngF (ft := t__law_joints_1) (fe := c__law_joints_1) (i := 3) (s := [.sh (.lst (ws.map li)), .ow (.lst ((someL ws).map li)), .un, .un]) (fun k => decide ((someL ws).getD k [] ∉ (someL ws).take k)) (fun k => li ((someL ws).getD k [])) (someL ws).length (by
    intro k hk
    have a1 : atI ((someL ws).map li) (k : Int) = some (li ((someL ws).getD k [])) := atI_nat (by simp [List.getD, hk])
    have c1 : DL.cut ((someL ws).map li) none (some (k : Int)) = ((someL ws).take k).map li := by rw [cut_to _ k (by simp; omega), List.map_take]
    have an := any_li ((someL ws).take k) ((someL ws).getD k [])
    have o1 : okEq (li ((someL ws).getD k [])) = true := okEq_ints
    have o2 := okEq_lis ((someL ws).take k)
    have e : decide ((someL ws).getD k [] ∉ (someL ws).take k) = !decide ((someL ws).getD k [] ∈ (someL ws).take k) := by simp
    rw [e, ← an]
    generalize ((someL ws).take k).map li = TL at *
    generalize (someL ws).map li = SL at *
    generalize li ((someL ws).getD k []) = X at *
    generalize ws.map li = WL at *
    exact ⟨by simp -implicitDefEqProofs [-List.any_eq_true, -List.any_eq_false, t__law_joints_1, a1, c1, o1, o2], fun _ => ⟨.sh, by simp, by simp -implicitDefEqProofs [c__law_joints_1, a1]⟩⟩)
  have e2 : ((List.range (someL ws).length).filter fun k => decide ((someL ws).getD k [] ∉ (someL ws).take k)).map (fun k => li ((someL ws).getD k [])) = (ddl (someL ws)).map li := by simp [ddl]
  rw [e2] at f3
  have l4 : ((ddl (someL ws)).map li).length ≤ lim := lim_le (by
    have := List.length_filter_le (fun k => decide ((someL ws).getD k [] ∉ (someL ws).take k)) (List.range (someL ws).length)
    rw [List.length_range] at this
    simp only [ddl, List.length_map]
    omega)
  have sr := srtL_li (ddl (someL ws))
  rw [ddl_jk] at sr
  have hln : ((someL ws).map li).length = (someL ws).length := by simp
  have hn9 : (someL ws).length ≤ 1000000000 := by omega
  generalize (isrt (jk ws)).map li = JJ at *
  generalize (ddl (someL ws)).map li = DD at *
  generalize (ws.map List.dropLast).map li = A1 at *
  generalize (ws.map (List.drop 1)).map li = A2 at *
  generalize (someL ws).map li = SL at *
  generalize ws.map li = WL at *
  rw [← hln] at f3 hn9
  clear hln l0 e2
  simp -implicitDefEqProofs [-srtL, F__law_joints, g__law_joints, f1, f2, l1, l2, l3, e1, -rng1, rng1_nat hn9, f3, l4, sr]
theorem F_balance_eq (ws : List (List Int)) (n : Nat) (h : Sized (n + 1) ws) (hl : ws.length ≤ 1000) (k : List Int) : F__law_balance [.lst (ws.map li), li k] = .ok ⟨.sh, .int (bal ws k)⟩ := by
  have f1 : lcF t__law_balance_1 c__law_balance_1 2 [.sh (.lst (ws.map li)), .sh (li k), .un] (ws.map li) = .ok ((ws.filter fun w => decide (w.dropLast = k)).map li) := filt_li ws _ (fun w hw => by
    have c1 := cut_last (w := w)
    have o1 : okEq (.lst (w.dropLast.map .int)) = true := okEq_ints
    have o2 : okEq (li k) = true := okEq_ints
    have e := eqD_li w.dropLast k
    simp only [li] at *
    generalize ws.map (fun w => D.lst (w.map .int)) = WL at *
    generalize w.dropLast.map D.int = W1 at *
    generalize w.map D.int = W2 at *
    generalize k.map D.int = W3 at *
    simp -implicitDefEqProofs [-eqD_lst, t__law_balance_1, c1, o1, o2, e]) (fun w hw => by
    generalize ws.map li = WL
    generalize li w = W
    generalize li k = KK
    simp -implicitDefEqProofs [c__law_balance_1])
  have f2 : lcF t__law_balance_2 c__law_balance_2 2 [.sh (.lst (ws.map li)), .sh (li k), .un] (ws.map li) = .ok ((ws.filter fun w => decide (w.drop 1 = k)).map li) := filt_li ws _ (fun w hw => by
    have c1 := cut_tail (w := w) (by have := h w hw; omega)
    have o1 : okEq (.lst ((w.drop 1).map .int)) = true := okEq_ints
    have o2 : okEq (li k) = true := okEq_ints
    have e := eqD_li (w.drop 1) k
    simp only [li] at *
    generalize ws.map (fun w => D.lst (w.map .int)) = WL at *
    generalize w.drop 1 = w1 at *
    generalize w1.map D.int = W1 at *
    generalize w.map D.int = W2 at *
    generalize k.map D.int = W3 at *
    simp -implicitDefEqProofs [-eqD_lst, t__law_balance_2, c1, o1, o2, e]) (fun w hw => by
    generalize ws.map li = WL
    generalize li w = W
    generalize li k = KK
    simp -implicitDefEqProofs [c__law_balance_2])
  have g1 := List.length_filter_le (fun w : List Int => decide (w.dropLast = k)) ws
  have g2 := List.length_filter_le (fun w : List Int => decide (w.drop 1 = k)) ws
  have n1 : ((ws.filter fun w => decide (w.dropLast = k)).map li).length = outs ws k := by simp [outs]
  have n2 : ((ws.filter fun w => decide (w.drop 1 = k)).map li).length = ins ws k := by rw [List.length_map]; rfl
  have g1' : ((ws.filter fun w => decide (w.dropLast = k)).map li).length ≤ lim := lim_le (by rw [List.length_map]; omega)
  have g2' : ((ws.filter fun w => decide (w.drop 1 = k)).map li).length ≤ lim := lim_le (by rw [List.length_map]; omega)
  have e : bal ws k = (((ws.filter fun w => decide (w.dropLast = k)).map li).length : Int) - (((ws.filter fun w => decide (w.drop 1 = k)).map li).length : Int) := by rw [n1, n2, bal_count]
  rw [e]
  clear e n1 n2 g1 g2
  generalize (ws.filter fun w => decide (w.dropLast = k)).map li = A1 at *
  generalize (ws.filter fun w => decide (w.drop 1 = k)).map li = A2 at *
  generalize ws.map li = WL at *
  generalize li k = kk at *
  simp -implicitDefEqProofs [F__law_balance, g__law_balance, f1, f2, g1', g2']
end My
namespace My
open PySem PySem.Spec L2 DL
theorem walk_in {D : List Int → Prop} : ∀ {r : List (List Int)} {a b : List Int}, walk a b r → D a → (∀ w ∈ r, D w.dropLast → D (w.drop 1)) → (∀ w ∈ r, D w.dropLast ∧ D (w.drop 1)) ∧ D b
  | [], a, b, h, ha, _ => ⟨by simp, by have h : a = b := h; rw [← h]; exact ha⟩
  | w :: r, a, b, h, ha, hc => by
    obtain ⟨h1, h2⟩ := h
    have hw : D w.dropLast := by rw [h1]; exact ha
    have hd := hc w List.mem_cons_self hw
    obtain ⟨h3, h4⟩ := walk_in h2 hd fun v hv => hc v (List.mem_cons_of_mem _ hv)
    refine ⟨fun v hv => ?_, h4⟩
    rcases List.mem_cons.mp hv with rfl | hv
    · exact ⟨hw, hd⟩
    · exact h3 v hv
/-- where all words make a closed row, nothing is lacking -/
theorem lack_of_walk {ws r : List (List Int)} (hp : r.Perm ws) (hw : walk (minB ws).dropLast (minB ws).dropLast r) : lackL ws = .no := by
  have even : ∀ k, bal ws k = 0 := fun k => by rw [← bal_perm hp, walk_bal hw]; omega
  have hun : uneven ws = none := List.find?_eq_none.mpr fun k _ => by rw [even k]; decide
  obtain ⟨s1, s2, _⟩ := come_spread ws (minB ws).dropLast
  obtain ⟨h1, _⟩ := walk_in (D := fun k => k ∈ come ws (minB ws).dropLast) hw s1 fun w hw => s2 w (hp.mem_iff.mp hw)
  have h2 : ∀ k ∈ jk ws, k ∈ come ws (minB ws).dropLast := fun k hk => by
    obtain ⟨w, hw, rfl | rfl⟩ := jk_mem.mp hk
    · exact (h1 w (hp.mem_iff.mpr hw)).1
    · exact (h1 w (hp.mem_iff.mpr hw)).2
  have h3 := (nodup_sub (jk ws) _ (jk_nodup ws) h2).1
  unfold lackL
  rw [hun]
  dsimp only
  rw [if_neg (by omega)]
theorem frm_last (r : List Int) (p m : Nat) : (frm r p (m + 1)).dropLast = frm r p m := by
  rw [List.dropLast_eq_take, frm_len]
  exact frm_init r p m
theorem ring_walk (r : List Int) (m : Nat) : ∀ (k p : Nat), walk (frm r p m) (frm r (p + k) m) ((List.range k).map fun j => frm r (p + j) (m + 1))
  | 0, p => rfl
  | k + 1, p => by
    rw [List.range_succ, List.map_append]
    have e : frm r (p + (k + 1)) m = (frm r (p + k) (m + 1)).drop 1 := by rw [frm_tail]; rfl
    rw [e]
    exact walk_snoc (ring_walk r m k p) (frm_last r (p + k) m)
theorem frm_round (r : List Int) (m : Nat) : frm r r.length m = frm r 0 m := by
  unfold frm
  exact List.map_congr_left fun j _ => by rw [cyc_add, Nat.zero_add]
theorem wrd_walk (r : List Int) (m : Nat) : walk (frm r 0 m) (frm r 0 m) (wrd r (m + 1)) := by
  have h := ring_walk r m r.length 0
  rw [Nat.zero_add, frm_round] at h
  have e : ((List.range r.length).map fun j => frm r (0 + j) (m + 1)) = wrd r (m + 1) := List.map_congr_left fun j _ => by rw [Nat.zero_add]
  rw [e] at h
  exact h
/-- a ring on which just the words of a book stand: the book lacks nothing -/
theorem lack_of_ring {ws : List (List Int)} {r : List Int} {m : Nat} (h0 : ws ≠ []) (hp : (wrd r (m + 1)).Perm ws) : lackL ws = .no := by
  have hm := hp.mem_iff.mpr (minB_mem h0).1
  obtain ⟨p, hpr, e⟩ := List.mem_map.mp hm
  have hpl := List.mem_range.mp hpr
  have hw := wrd_walk (r.drop p ++ r.take p) m
  have e2 : frm (r.drop p ++ r.take p) 0 m = (minB ws).dropLast := by
    rw [frm_turn (by omega) (by omega), ← e, frm_last]; rfl
  rw [e2] at hw
  exact lack_of_walk ((wrd_turn (by omega) (m + 1)).trans hp) hw
end My
namespace My
open PySem PySem.Spec L2 DL
theorem cstep_len (a : List Int) : ∀ (vs f : List (List Int)), (cstep vs a f).length ≤ f.length + vs.length := by
  intro vs
  induction vs with
  | nil => intro f; simp [cstep]
  | cons w vs ih =>
    intro f
    have e : cstep (w :: vs) a f = cstep vs a (if w.dropLast = a ∧ w.drop 1 ∉ f then f ++ [w.drop 1] else f) := rfl
    rw [e]
    have := ih (if w.dropLast = a ∧ w.drop 1 ∉ f then f ++ [w.drop 1] else f)
    split at this
    · rename_i q; rw [if_pos q]; simp at this ⊢; omega
    · rename_i q; rw [if_neg q]; simp at this ⊢; omega
/-- a search that looks at each word in turn -/
theorem cwh {t : Ev → Res Bool} {g : Ev → Out} (S : List (List Int) → Nat → Ev → Prop) (ws : List (List Int)) (s : List Int)
    (ht : ∀ f p e, f.length ≤ 2 * ws.length + 1 → S f p e → t e = .ok (decide (p < f.length))) (hb : ∀ f p e a, f.length ≤ 2 * ws.length + 1 → S f p e → f[p]? = some a → ∃ e', g e = .nx e' ∧ S (cstep ws a f) (p + 1) e') :
    ∀ (c fuel p : Nat) (f : List (List Int)) (e : Ev), S f p e → f.Nodup → (∀ x ∈ f, x ∈ s :: jk ws) → s ∈ f → (∀ q a, q < p → f[q]? = some a → ∀ w ∈ ws, w.dropLast = a → w.drop 1 ∈ f) → (∀ D : List Int → Prop, D s → (∀ w ∈ ws, D w.dropLast → D (w.drop 1)) → ∀ x ∈ f, D x) → 2 * ws.length + 1 ≤ p + c → c < fuel → p ≤ f.length →
    ∃ F e', whF t g fuel e = .nx e' ∧ S F F.length e' ∧ Spread ws s F ∧ F.length ≤ 2 * ws.length + 1 ∧ F.Nodup := by
  intro c
  induction c with
  | zero =>
    intro fuel p f e hS hf hj hs hc hD hp hfu hpl
    have hsm := small hf hj
    obtain ⟨fuel, rfl⟩ : ∃ f, fuel = f + 1 := ⟨fuel - 1, by omega⟩
    have hpe : p = f.length := by omega
    have t1 := ht f p e hsm hS
    rw [decide_eq_false (by omega)] at t1
    refine ⟨f, e, by simp only [whF, t1, bndR_ok]; rfl, by rw [← hpe]; exact hS, ⟨hs, fun w hw hd => ?_, hD⟩, hsm, hf⟩
    obtain ⟨q, hq⟩ := List.mem_iff_getElem?.mp hd
    exact hc q _ (by have := (List.getElem?_eq_some_iff.mp hq).1; omega) hq w hw rfl
  | succ c ih =>
    intro fuel p f e hS hf hj hs hc hD hp hfu hpl
    have hsm := small hf hj
    obtain ⟨fuel, rfl⟩ : ∃ f, fuel = f + 1 := ⟨fuel - 1, by omega⟩
    have t1 := ht f p e hsm hS
    by_cases q : p < f.length
    · rw [decide_eq_true q] at t1
      have ha : f[p]? = some f[p] := List.getElem?_eq_getElem q
      obtain ⟨g', eg, nd, m, al⟩ := cstep_spec ws f[p] f
      have nd := nd hf
      have hmj : ∀ x ∈ f ++ g', x ∈ s :: jk ws := fun x hx => by
        rcases List.mem_append.mp hx with hx | hx
        · exact hj x hx
        · obtain ⟨w, hw, _, rfl⟩ := m x hx
          exact List.mem_cons_of_mem _ (jk_mem.mpr ⟨w, hw, .inr rfl⟩)
      obtain ⟨e1, g1, g2⟩ := hb f p e _ hsm hS ha
      rw [eg] at g2
      obtain ⟨F, e', r1, r2, r3, r4, r5⟩ := ih fuel (p + 1) (f ++ g') e1 g2 nd hmj (List.mem_append_left _ hs) (fun j a hj hja w hw hd => by
          by_cases qj : j = p
          · subst qj
            rw [List.getElem?_append_left q, List.getElem?_eq_getElem q] at hja
            cases hja
            exact al w hw hd
          · rw [List.getElem?_append_left (by omega)] at hja
            exact List.mem_append_left _ (hc j a (by omega) hja w hw hd))
        (fun D d1 d2 x hx => by
          rcases List.mem_append.mp hx with hx | hx
          · exact hD D d1 d2 x hx
          · obtain ⟨w, hw, e2, rfl⟩ := m x hx
            exact d2 w hw (by rw [e2]; exact hD D d1 d2 _ (List.getElem_mem _)))
        (by omega) (by omega) (by simp only [List.length_append]; omega)
      refine ⟨F, e', ?_, r2, r3, r4, r5⟩
      simp only [whF, t1, bndR_ok, if_true, g1, r1]
    · rw [decide_eq_false q] at t1
      have hpe : p = f.length := by omega
      refine ⟨f, e, by simp only [whF, t1, bndR_ok]; rfl, by rw [← hpe]; exact hS, ⟨hs, fun w hw hd => ?_, hD⟩, hsm, hf⟩
      obtain ⟨j, hj⟩ := List.mem_iff_getElem?.mp hd
      exact hc j _ (by have := (List.getElem?_eq_some_iff.mp hj).1; omega) hj w hw rfl
theorem spread_body (ws : List (List Int)) (w : List Int) (f : List (List Int)) (p : Nat) (a : List Int) (hw : 0 < w.length) (ha : f[p]? = some a) (hl : f.length ≤ 10000) :
    b__law_spread_1 [.sh (.lst (ws.map li)), .ow (.lst (f.map li)), .sh (.int p), .sh (li w)] = .nx [.sh (.lst (ws.map li)), .ow (.lst ((if w.dropLast = a ∧ w.drop 1 ∉ f then f ++ [w.drop 1] else f).map li)), .sh (.int p), .sh (li w)] := by
  have c1 := cut_last (w := w)
  have c2 := cut_tail (w := w) hw
  have a1 : atI (f.map li) (p : Int) = some (li a) := atI_nat (by simp [ha])
  have o1 : okEq (.lst (w.dropLast.map .int)) = true := okEq_ints
  have o2 : okEq (li a) = true := okEq_ints
  have o3 : okEq (.lst ((w.drop 1).map .int)) = true := okEq_ints
  have o4 := okEq_lis f
  have e1 := eqD_li w.dropLast a
  have e2 := any_li f (w.drop 1)
  have l1 : (f.map li).length < lim := lim_lt (by simp; omega)
  by_cases q1 : w.dropLast = a
  · rw [decide_eq_true q1] at e1
    by_cases q2 : w.drop 1 ∈ f
    · rw [decide_eq_true q2] at e2
      rw [if_neg (fun z => z.2 q2)]
      simp only [li] at *
      generalize ws.map (fun w => D.lst (w.map .int)) = WL at *
      generalize f.map (fun w => D.lst (w.map .int)) = FL at *
      generalize (w.drop 1).map D.int = W1 at *
      generalize w.dropLast.map D.int = W3 at *
      generalize w.map D.int = W2 at *
      generalize a.map D.int = A at *
      simp -implicitDefEqProofs [-List.any_eq_true, -List.any_eq_false, -eqD_lst, b__law_spread_1, c1, c2, a1, o1, o2, o3, o4, e1, e2]
    · rw [decide_eq_false q2] at e2
      rw [if_pos ⟨q1, q2⟩]
      have em : (f ++ [w.drop 1]).map li = f.map li ++ [li (w.drop 1)] := by rw [List.map_append]; rfl
      rw [em]
      simp only [li] at *
      generalize ws.map (fun w => D.lst (w.map .int)) = WL at *
      generalize f.map (fun w => D.lst (w.map .int)) = FL at *
      generalize (w.drop 1).map D.int = W1 at *
      generalize w.dropLast.map D.int = W3 at *
      generalize w.map D.int = W2 at *
      generalize a.map D.int = A at *
      simp -implicitDefEqProofs [-List.any_eq_true, -List.any_eq_false, -eqD_lst, b__law_spread_1, c1, c2, a1, o1, o2, o3, o4, e1, e2, l1]
  · rw [decide_eq_false q1] at e1
    rw [if_neg (fun z => q1 z.1)]
    simp only [li] at *
    generalize ws.map (fun w => D.lst (w.map .int)) = WL at *
    generalize f.map (fun w => D.lst (w.map .int)) = FL at *
    generalize (w.drop 1).map D.int = W1 at *
    generalize w.dropLast.map D.int = W3 at *
    generalize w.map D.int = W2 at *
    generalize a.map D.int = A at *
    simp -implicitDefEqProofs [-List.any_eq_true, -List.any_eq_false, -eqD_lst, b__law_spread_1, c1, c2, a1, o1, o2, o3, o4, e1]
theorem F_spread_eq (ws : List (List Int)) (n : Nat) (h : Sized (n + 1) ws) (h0 : ws ≠ []) (hl : ws.length ≤ 1000) : ∃ F, F__law_spread [.lst (ws.map li)] = .ok ⟨.fr, .lst (F.map li)⟩ ∧ Spread ws (minB ws).dropLast F ∧ F.length ≤ 2 * ws.length + 1 ∧ F.Nodup := by
  obtain ⟨F, e', r1, ⟨y, r2⟩, r3, r4, r5⟩ := cwh (t := w__law_spread_1) (g := b__law_spread_2) (fun f p e => ∃ y, e = [.sh (.lst (ws.map li)), .ow (.lst (f.map li)), .sh (.int p), y]) ws (minB ws).dropLast (by
    rintro f p e hf ⟨y, rfl⟩
    have hlf : (f.map li).length = f.length := by simp
    have e : decide ((p : Int) < (f.map li).length) = decide (p < f.length) := by rw [decide_eq_decide, hlf]; omega
    rw [← e]
    generalize f.map li = FL
    generalize ws.map li = WL
    simp -implicitDefEqProofs [w__law_spread_1]) (by
    rintro f p e a hf ⟨y, rfl⟩ ha
    obtain ⟨s', l1, y', rfl⟩ := loop_do (g := b__law_spread_1) (i := 3) (fun j e => ∃ y, e = [.sh (.lst (ws.map li)), .ow (.lst ((cstep (ws.take j) a f).map li)), .sh (.int p), y]) (ws.map li) [.sh (.lst (ws.map li)), .ow (.lst (f.map li)), .sh (.int p), y] ⟨_, rfl⟩ (by
      rintro j d e hd ⟨y, rfl⟩
      rw [List.getElem?_map, Option.map_eq_some_iff] at hd
      obtain ⟨w, hw, rfl⟩ := hd
      have hs := h w (List.mem_of_getElem? hw)
      obtain ⟨g, c1, _⟩ := cstep_spec (ws.take j) a f
      have hp : (cstep (ws.take j) a f)[p]? = some a := by
        rw [c1, List.getElem?_append_left (List.getElem?_eq_some_iff.mp ha).1]; exact ha
      have hlen := cstep_len a (ws.take j) f
      have b := spread_body ws w (cstep (ws.take j) a f) p a (by omega) hp (by simp at hlen; omega)
      rw [← cstep_take hw] at b
      exact ⟨_, .inl b, _, rfl⟩)
    rw [List.length_map, List.take_length] at l1
    have e1 : ((p + 1 : Nat) : Int) = (p : Int) + 1 := by omega
    refine ⟨[.sh (.lst (ws.map li)), .ow (.lst ((cstep ws a f).map li)), .sh (.int (p + 1 : Nat)), y'], ?_, _, rfl⟩
    rw [e1]
    generalize (cstep ws a f).map li = G at *
    generalize f.map li = FF at *
    generalize ws.map li = WL at *
    simp -implicitDefEqProofs [-loopF, b__law_spread_2, l1]) (2 * ws.length + 2) DL.many 0 [(minB ws).dropLast] [.sh (.lst (ws.map li)), .ow (.lst [li (minB ws).dropLast]), .sh (.int 0), .un] ⟨.un, rfl⟩ (by simp) (by simp) (by simp) (fun q a hq => by omega) (fun D d1 d2 x hx => by rw [List.mem_singleton.mp hx]; exact d1) (by omega) (by unfold DL.many; omega) (by simp)
  subst r2
  refine ⟨F, ?_, r3, r4, r5⟩
  obtain ⟨l, hl2⟩ := isrt_head h0
  have sr := srtL_li ws
  rw [hl2] at sr
  have c1 := cut_last (w := minB ws)
  have a1 : atI ((minB ws :: l).map li) 0 = some (li (minB ws)) := atI_nat (j := 0) rfl
  have l1 : 1 ≤ lim := by decide
  generalize (minB ws :: l).map li = SL at *
  generalize F.map li = FL at *
  simp only [li] at *
  generalize (minB ws).dropLast.map D.int = W1 at *
  generalize (minB ws).map D.int = W2 at *
  generalize ws.map (fun w => D.lst (w.map .int)) = WL at *
  simp -implicitDefEqProofs [-srtL, F__law_spread, g__law_spread, sr, a1, c1, l1, fWhile, r1]
end My
namespace My
open PySem PySem.Spec L2 DL
theorem any_liF {l : List (List Int)} {x : List Int} (h : x ∉ l) : ((l.map li).any fun z => eqD z (li x)) = false := by rw [any_li, decide_eq_false h]
theorem any_liT {l : List (List Int)} {x : List Int} (h : x ∈ l) : ((l.map li).any fun z => eqD z (li x)) = true := by rw [any_li, decide_eq_true h]
theorem F_apart_eq (ws G : List (List Int)) (n : Nat) (h : Sized (n + 1) ws) (h0 : ws ≠ []) (hl : ws.length ≤ 1000) (hs : isrt G = G) (hn : G.Nodup) (hj : ∀ x ∈ G, x ∈ jk ws) (hb : (minB ws).dropLast ∈ G) (hc : ∀ w ∈ ws, w.dropLast ∈ G → w.drop 1 ∈ G) (ha : ∃ w ∈ ws, w.dropLast ∉ G) :
    F__law_is_apart [.lst (ws.map li), .lst (G.map li)] = .ok ⟨.sh, .bl true⟩ := by
  have hgl : G.length ≤ 2 * ws.length := by
    have := (nodup_sub G (jk ws) hn hj).1
    have := jk_len ws
    omega
  have lj := F_ljoints_eq ws n h hl
  obtain ⟨l, hl2⟩ := isrt_head h0
  have sr := srtL_li ws
  rw [hl2] at sr
  have sg := srtL_li G
  rw [hs] at sg
  have c1 := cut_last (w := minB ws)
  have a1 : atI ((minB ws :: l).map li) 0 = some (li (minB ws)) := atI_nat (j := 0) rfl
  have o1 := okEq_lis G
  have e1 : eqD (.lst (G.map li)) (.lst (G.map li)) = true := by rw [eqD_lst]; exact eqL_ll G
  have o2 : okEq (.lst ((minB ws).dropLast.map .int)) = true := okEq_ints
  have an := any_liT hb
  unfold F__law_is_apart g__law_is_apart
  have p1 : (fIte (tOrF (tNotF (fB (fIs .list (fVar 1)))) (tOrF (fB (fOp neO (fVar 1) (fCall (lstArg (srtL false)) (fCons (fVar 1) (fun _ => .ok []))))) (fB (fOp (inO true) (fSl (fOp ixO (fCall (lstArg (srtL false)) (fCons (fVar 0) (fun _ => .ok []))) (fC (.int 0))) fNoP (fP (fNeg (fC (.int 1))))) (fVar 1))))) (fRet (fC (.bl false))) .nx) (start0 6 [.lst (ws.map li), .lst (G.map li)]) = .nx [.sh (.lst (ws.map li)), .sh (.lst (G.map li)), .un, .un, .un, .un] := by
    generalize (minB ws :: l).map li = SL at *
    simp only [li] at *
    generalize (minB ws).dropLast.map D.int = W1 at *
    generalize (minB ws).map D.int = W2 at *
    generalize ws.map (fun w => D.lst (w.map .int)) = WL at *
    generalize G.map (fun w => D.lst (w.map .int)) = GL at *
    simp -implicitDefEqProofs [-srtL, -eqD_lst, -List.any_eq_true, -List.any_eq_false, sg, o1, e1, sr, a1, c1, o2, an]
  rw [seq_nx p1]
  clear p1 sr sg a1 c1 an o2
  obtain ⟨s', l1, x2, rfl⟩ := loop_do (g := b__law_is_apart_1) (i := 2) (fun j e => ∃ x2, e = [.sh (.lst (ws.map li)), .sh (.lst (G.map li)), x2, .un, .un, .un]) (rngD 0 G.length) [.sh (.lst (ws.map li)), .sh (.lst (G.map li)), .un, .un, .un, .un] ⟨_, rfl⟩ (by
    rintro j d e hd ⟨x2, rfl⟩
    obtain ⟨hjl, rfl⟩ := rngD_get hd
    rw [Int.zero_add]
    have hg : G[j]? = some G[j] := List.getElem?_eq_getElem hjl
    have a1 : atI (G.map li) (j : Int) = some (li G[j]) := atI_nat (by simp [hjl])
    have c1 : DL.cut (G.map li) none (some (j : Int)) = (G.take j).map li := by rw [cut_to _ j (by simp; omega), List.map_take]
    have n1 : G[j] ∉ G.take j := fun z => by
      obtain ⟨i, hi, e⟩ := List.mem_take_iff_getElem.mp z
      exact absurd e (List.pairwise_iff_getElem.mp hn i j (by omega) hjl (by omega))
    have an := any_liF n1
    have an2 := any_liT ((isrt_perm (jk ws)).mem_iff.mpr (hj _ (List.getElem_mem hjl)))
    have o3 : okEq (li G[j]) = true := okEq_ints
    have o4 := okEq_lis (G.take j)
    have o5 := okEq_lis (isrt (jk ws))
    refine ⟨[.sh (.lst (ws.map li)), .sh (.lst (G.map li)), .sh (.int j), .un, .un, .un], .inl ?_, _, rfl⟩
    generalize (isrt (jk ws)).map li = JJ at *
    generalize (G.take j).map li = TL at *
    simp only [li] at *
    generalize G[j].map D.int = GJ at *
    generalize ws.map (fun w => D.lst (w.map .int)) = WL at *
    generalize G.map (fun w => D.lst (w.map .int)) = GL at *
    simp -implicitDefEqProofs [-eqD_lst, -List.any_eq_true, -List.any_eq_false, b__law_is_apart_1, a1, c1, an, an2, o3, o4, o5, lj])
  have hln : (G.map li).length = G.length := by simp
  have hn9 : G.length ≤ 1000000000 := by omega
  have p2 : (fFor (fRng rng1 (fCons (fCall lenO (fCons (fVar 1) (fun _ => .ok []))) (fun _ => .ok []))) 2 b__law_is_apart_1) [.sh (.lst (ws.map li)), .sh (.lst (G.map li)), .un, .un, .un, .un] = .nx [.sh (.lst (ws.map li)), .sh (.lst (G.map li)), x2, .un, .un, .un] := by
    generalize ws.map li = WL at *
    generalize G.map li = GL at *
    rw [← hln] at hn9 l1
    simp -implicitDefEqProofs [-loopF, -rng1, rng1_nat hn9, l1]
  rw [seq_nx p2]
  clear p2 l1 lj
  have f3 := filt_liF (ft := t__law_is_apart_3) (fe := c__law_is_apart_3) (i := 4) (s := [.sh (.lst (ws.map li)), .sh (.lst (G.map li)), x2, .un, .un, .un]) ws (fun w => decide (w.dropLast ∈ G)) (List.drop 1) (fun w hw => by
    have c1 := cut_last (w := w)
    have o3 : okEq (.lst (w.dropLast.map .int)) = true := okEq_ints
    have e2 := any_li G w.dropLast
    rw [← e2]
    simp only [li] at *
    generalize ws.map (fun w => D.lst (w.map .int)) = WL at *
    generalize G.map (fun w => D.lst (w.map .int)) = GL at *
    generalize w.dropLast.map D.int = W1 at *
    generalize w.map D.int = W2 at *
    simp -implicitDefEqProofs [-List.any_eq_true, -List.any_eq_false, -eqD_lst, t__law_is_apart_3, c1, o3, o1]) (fun w hw => by
    have c2 := cut_tail (w := w) (by have := h w hw; omega)
    refine ⟨.fr, by simp, ?_⟩
    simp only [li] at *
    generalize ws.map (fun w => D.lst (w.map .int)) = WL at *
    generalize G.map (fun w => D.lst (w.map .int)) = GL at *
    generalize (w.drop 1).map D.int = W1 at *
    generalize w.map D.int = W2 at *
    simp -implicitDefEqProofs [c__law_is_apart_3, c2])
  have hen : ∀ k ∈ (ws.filter fun w => decide (w.dropLast ∈ G)).map (List.drop 1), k ∈ G := fun k hk => by
    obtain ⟨w, hw, rfl⟩ := List.mem_map.mp hk
    obtain ⟨w1, w2⟩ := List.mem_filter.mp hw
    exact hc w w1 (by simpa using w2)
  have l2 : (((ws.filter fun w => decide (w.dropLast ∈ G)).map (List.drop 1)).map li).length ≤ lim := lim_le (by
    have := List.length_filter_le (fun w : List Int => decide (w.dropLast ∈ G)) ws
    simp only [List.length_map]; omega)
  generalize (ws.filter fun w => decide (w.dropLast ∈ G)).map (List.drop 1) = ends at *
  have p3 : (fSet 3 (fLc (fItL (fVar 0)) 4 t__law_is_apart_3 c__law_is_apart_3)) [.sh (.lst (ws.map li)), .sh (.lst (G.map li)), x2, .un, .un, .un] = .nx [.sh (.lst (ws.map li)), .sh (.lst (G.map li)), x2, .ow (.lst (ends.map li)), .un, .un] := by
    generalize ws.map li = WL at *
    generalize G.map li = GL at *
    generalize ends.map li = EL at *
    simp -implicitDefEqProofs [f3, l2]
  rw [seq_nx p3]
  clear p3 f3
  have f2 := lc_filter (ft := t__law_is_apart_2) (fe := c__law_is_apart_2) (i := 5) (s := [.sh (.lst (ws.map li)), .sh (.lst (G.map li)), x2, .ow (.lst (ends.map li)), .un, .un]) (p := fun _ => false) (f := id) (ends.map li) (fun d hd => by
    obtain ⟨k, hk, rfl⟩ := List.mem_map.mp hd
    have an := any_liT (hen k hk)
    have o3 : okEq (li k) = true := okEq_ints
    refine ⟨?_, fun z => by cases z⟩
    generalize ws.map li = WL at *
    generalize G.map li = GL at *
    generalize ends.map li = EL at *
    generalize li k = KK at *
    simp -implicitDefEqProofs [-List.any_eq_true, -List.any_eq_false, t__law_is_apart_2, an, o3, o1])
  have e0 : ((ends.map li).filter fun _ => false).map id = [] := by simp
  rw [e0] at f2
  have e00 : eqD (.lst []) (.lst []) = true := by simp
  have p4 : (fIte (fB (fOp neO (fLc (fItL (fVar 3)) 5 t__law_is_apart_2 c__law_is_apart_2) (fLst (fun _ => .ok [])))) (fRet (fC (.bl false))) .nx) [.sh (.lst (ws.map li)), .sh (.lst (G.map li)), x2, .ow (.lst (ends.map li)), .un, .un] = .nx [.sh (.lst (ws.map li)), .sh (.lst (G.map li)), x2, .ow (.lst (ends.map li)), .un, .un] := by
    generalize ws.map li = WL at *
    generalize G.map li = GL at *
    generalize ends.map li = EL at *
    simp -implicitDefEqProofs [-eqD_lst, f2, e00]
  rw [seq_nx p4]
  clear p4 f2
  have lf := filt_li (ft := t__law_is_apart_1) (fe := c__law_is_apart_1) (i := 4) (s := [.sh (.lst (ws.map li)), .sh (.lst (G.map li)), x2, .ow (.lst (ends.map li)), .un, .un]) ws (fun w => decide (w.dropLast ∉ G)) (fun w hw => by
    have c1 := cut_last (w := w)
    have o3 : okEq (.lst (w.dropLast.map .int)) = true := okEq_ints
    have e2 := any_li G w.dropLast
    have e3 : decide (w.dropLast ∉ G) = !decide (w.dropLast ∈ G) := by simp
    rw [e3, ← e2]
    simp only [li] at *
    generalize ends.map (fun w => D.lst (w.map .int)) = EL at *
    generalize ws.map (fun w => D.lst (w.map .int)) = WL at *
    generalize G.map (fun w => D.lst (w.map .int)) = GL at *
    generalize w.dropLast.map D.int = W1 at *
    generalize w.map D.int = W2 at *
    simp -implicitDefEqProofs [-List.any_eq_true, -List.any_eq_false, -eqD_lst, t__law_is_apart_1, c1, o3, o1]) (fun w hw => by
    generalize ends.map li = EL at *
    generalize ws.map li = WL at *
    generalize G.map li = GL at *
    generalize li w = W
    simp -implicitDefEqProofs [c__law_is_apart_1])
  obtain ⟨w, hw, hwG⟩ := ha
  have hm : w ∈ ws.filter (fun w => decide (w.dropLast ∉ G)) := List.mem_filter.mpr ⟨hw, decide_eq_true hwG⟩
  have l3 : ((ws.filter fun w => decide (w.dropLast ∉ G)).map li).length ≤ lim := lim_le (by
    have := List.length_filter_le (fun w : List Int => decide (w.dropLast ∉ G)) ws
    rw [List.length_map]; omega)
  have o6 := okEq_lis (ws.filter fun w => decide (w.dropLast ∉ G))
  have ne : eqD (.lst ((ws.filter fun w => decide (w.dropLast ∉ G)).map li)) (.lst []) = false := by
    cases e : ws.filter (fun w => decide (w.dropLast ∉ G)) with
    | nil => rw [e] at hm; cases hm
    | cons a l => simp
  generalize (ws.filter fun w => decide (w.dropLast ∉ G)).map li = ML at *
  generalize ends.map li = EL at *
  generalize ws.map li = WL at *
  generalize G.map li = GL at *
  simp -implicitDefEqProofs [-eqD_lst, lf, l3, o6, ne]
end My
namespace My
open PySem PySem.Spec L2 DL
def lackD : Lack → D
  | .no => .non
  | .un k => .tup [.str "uneven", li k]
  | .ap l => .tup [.str "apart", .lst (l.map li)]
theorem trR_lack (l : Lack) : trR (lackR l) = some (lackD l) := by cases l <;> rfl
theorem F_lack_good (a b w : D) (l : Lack) (h1 : F_need_book [a, b, w] = .ok ⟨.sh, .non⟩) (h2 : F_lack_of [w] = .ok (lackR l)) : F_lack [a, b, w] = .ok ⟨.ow, .tup [.non, lackD l]⟩ := by
  have e := trR_lack l
  generalize lackR l = r at *
  simp -implicitDefEqProofs [F_lack, g_lack, h1, h2, e]
theorem okN_un : OkN 0 (.str "uneven") := ⟨by decide +kernel, by simp [toPy, PyData.depth]⟩
theorem okN_ap : OkN 0 (.str "apart") := ⟨by decide +kernel, by simp [toPy, PyData.depth]⟩
theorem eqD_uu : eqD (.str "uneven") (.str "uneven") = true := by decide +kernel
theorem eqD_aa : eqD (.str "apart") (.str "apart") = true := by decide +kernel
theorem okEq_lackU (k : List Int) : okEq (.tup [.str "uneven", li k]) = true := (OkN.tup (n := 1) fun d hd => by
  rcases List.mem_cons.mp hd with rfl | hd
  · exact okN_un.mono (by omega)
  · rw [List.mem_singleton.mp hd]; exact OkN.ints).okEq
theorem filter_head {α : Type} (p : α → Bool) (l : List α) : (l.filter p).head? = l.find? p := by
  induction l with
  | nil => rfl
  | cons a l ih =>
    rw [List.filter_cons, List.find?_cons]
    cases h : p a <;> simp [ih]
/-- what lack tells is right -/
theorem F_right_eq (ws : List (List Int)) (n : Nat) (h : Sized (n + 1) ws) (hnd : ws.Nodup) (h0 : ws ≠ []) (hl : ws.length ≤ 1000) : F__law_right [.lst (ws.map li), lackD (lackL ws)] = .ok ⟨.sh, .bl true⟩ := by
  have lj := F_ljoints_eq ws n h hl
  have f2 := filt_li (ft := t__law_right_2) (fe := c__law_right_2) (i := 4) (s := [.sh (.lst (ws.map li)), .sh (lackD (lackL ws)), .un, .un, .un]) (isrt (jk ws)) (fun k => decide (bal ws k ≠ 0)) (fun k hk => by
    have hb := F_balance_eq ws n h hl k
    have e : decide (bal ws k ≠ 0) = !decide (bal ws k = 0) := by simp
    rw [e]
    generalize lackD (lackL ws) = LD at *
    generalize ws.map li = WL at *
    generalize li k = KK at *
    simp -implicitDefEqProofs [t__law_right_2, hb]) (fun k hk => by
    generalize lackD (lackL ws) = LD at *
    generalize ws.map li = WL at *
    generalize li k = KK at *
    simp -implicitDefEqProofs [c__law_right_2])
  have hjl := jk_len ws
  have hil := (isrt_perm (jk ws)).length_eq
  have hfl := List.length_filter_le (fun k : List Int => decide (bal ws k ≠ 0)) (isrt (jk ws))
  have l1 : (((isrt (jk ws)).filter fun k => decide (bal ws k ≠ 0)).map li).length ≤ lim := lim_le (by rw [List.length_map]; omega)
  have o1 := okEq_lis ((isrt (jk ws)).filter fun k => decide (bal ws k ≠ 0))
  have hu : uneven ws = ((isrt (jk ws)).filter fun k => decide (bal ws k ≠ 0)).head? := (filter_head _ _).symm
  have l2 : 2 ≤ lim := by decide
  cases eu : uneven ws with
  | some k =>
    have eL : lackL ws = .un k := by unfold lackL; rw [eu]
    rw [eL] at f2 ⊢
    rw [eu] at hu
    cases ef : (isrt (jk ws)).filter fun k => decide (bal ws k ≠ 0) with
    | nil => rw [ef] at hu; cases hu
    | cons x r =>
      rw [ef] at hu f2 l1 o1
      cases hu
      have a1 : atI ((k :: r).map li) 0 = some (li k) := atI_nat (j := 0) rfl
      have ne : eqD (.lst ((k :: r).map li)) (.lst []) = false := by simp
      have o2 := okEq_lackU k
      have e2 : eqD (.tup [.str "uneven", li k]) (.tup [.str "uneven", li k]) = true := by
        rw [eqD_tup, eqL_cons, eqL_cons, eqD_uu, eqD_li]; simp
      show F__law_right [.lst (ws.map li), .tup [.str "uneven", li k]] = _
      have f2' : lcF t__law_right_2 c__law_right_2 4 [.sh (.lst (ws.map li)), .sh (.tup [.str "uneven", li k]), .un, .un, .un] ((isrt (jk ws)).map li) = .ok ((k :: r).map li) := f2
      clear f2
      generalize (k :: r).map li = FL at *
      generalize (isrt (jk ws)).map li = JJ at *
      generalize ws.map li = WL at *
      generalize li k = KK at *
      simp -implicitDefEqProofs [-eqD_lst, -eqD_tup, F__law_right, g__law_right, lj, f2', l1, o1, ne, a1, o2, e2, l2]
  | none =>
    rw [eu] at hu
    have ef : (isrt (jk ws)).filter (fun k => decide (bal ws k ≠ 0)) = [] := List.head?_eq_none_iff.mp hu.symm
    rw [ef] at f2 l1 o1
    have even := uneven_none eu
    obtain ⟨F, fs, s1, s2, s3⟩ := F_spread_eq ws n h h0 hl
    have hmin := (minB_mem h0).1
    have hFj : ∀ x ∈ F, x ∈ jk ws := s1.2.2 (fun x => x ∈ jk ws) (jk_mem.mpr ⟨_, hmin, .inl rfl⟩) fun w hw _ => jk_mem.mpr ⟨w, hw, .inr rfl⟩
    have hcp : (come ws (minB ws).dropLast).Perm F := (List.perm_ext_iff_of_nodup (come_nodup _ _).1 s3).mpr fun x => spread_same (come_spread _ _) s1 x
    have hcl := hcp.length_eq
    have e00 : eqD (.lst []) (.lst []) = true := by simp
    have lf1 : (F.map li).length = F.length := by simp
    have lf2 : ((isrt (jk ws)).map li).length = (jk ws).length := by rw [List.length_map, hil]
    by_cases q : (come ws (minB ws).dropLast).length < (jk ws).length
    · have eL : lackL ws = .ap (isrt (come ws (minB ws).dropLast)) := by
        unfold lackL
        rw [eu]
        dsimp only
        rw [if_pos q]
      rw [eL] at f2 ⊢
      have hg := isrt_perm (come ws (minB ws).dropLast)
      have hgm : ∀ x, x ∈ isrt (come ws (minB ws).dropLast) ↔ x ∈ F := fun x => (hg.trans hcp).mem_iff
      have ap := F_apart_eq ws (isrt (come ws (minB ws).dropLast)) n h h0 hl (isrt_perm_eq hg) (hg.nodup_iff.mpr (come_nodup _ _).1) (fun x hx => hFj x ((hgm x).mp hx)) ((hgm _).mpr s1.1) (fun w hw hd => (hgm _).mpr (s1.2.1 w hw ((hgm _).mp hd))) (by
        obtain ⟨w, hw, hn⟩ := apart_word s1 even (by rw [hil]; exact q)
        exact ⟨w, hw, fun z => hn ((hgm _).mp z)⟩)
      generalize isrt (come ws (minB ws).dropLast) = G at *
      have o2 := okEq_lis F
      have f1 := lc_filter (ft := t__law_right_1) (fe := c__law_right_1) (i := 4) (s := [.sh (.lst (ws.map li)), .sh (.tup [.str "apart", .lst (G.map li)]), .ow (.lst []), .ow (.lst (F.map li)), .un]) (p := fun _ => false) (f := id) (G.map li) (fun d hd => by
        obtain ⟨k, hk, rfl⟩ := List.mem_map.mp hd
        have an := any_liT ((hgm k).mp hk)
        have o3 : okEq (li k) = true := okEq_ints
        refine ⟨?_, fun z => by cases z⟩
        generalize ws.map li = WL at *
        generalize F.map li = FL at *
        generalize G.map li = GL at *
        generalize li k = KK at *
        simp -implicitDefEqProofs [-List.any_eq_true, -List.any_eq_false, t__law_right_1, an, o3, o2])
      have e0 : ((G.map li).filter fun _ => false).map id = [] := by simp
      rw [e0] at f1
      have q' : ¬ ((F.map li).length : Int) = ((isrt (jk ws)).map li).length := by omega
      have o4 : okEq (.str "apart") = true := okN_ap.okEq
      have e4 := eqD_aa
      have a0 : atI [D.str "apart", .lst (G.map li)] 0 = some (.str "apart") := rfl
      have a1 : atI [D.str "apart", .lst (G.map li)] 1 = some (.lst (G.map li)) := rfl
      show F__law_right [.lst (ws.map li), .tup [.str "apart", .lst (G.map li)]] = _
      have f2' : lcF t__law_right_2 c__law_right_2 4 [.sh (.lst (ws.map li)), .sh (.tup [.str "apart", .lst (G.map li)]), .un, .un, .un] ((isrt (jk ws)).map li) = .ok ([].map li) := f2
      clear f2 lf1 lf2 e0
      generalize (isrt (jk ws)).map li = JJ at *
      generalize F.map li = FL at *
      generalize G.map li = GL at *
      generalize ws.map li = WL at *
      simp only [List.map_nil] at *
      simp -implicitDefEqProofs [-eqD_lst, F__law_right, g__law_right, lj, f2', e00, fs, q', o4, e4, a0, a1, ap, f1]
    · have eL : lackL ws = .no := by
        unfold lackL
        rw [eu]
        dsimp only
        rw [if_neg q]
      rw [eL] at f2 ⊢
      have hfj := (nodup_sub F (jk ws) s3 hFj).1
      have q' : ((F.map li).length : Int) = ((isrt (jk ws)).map li).length := by omega
      show F__law_right [.lst (ws.map li), .non] = _
      have f2' : lcF t__law_right_2 c__law_right_2 4 [.sh (.lst (ws.map li)), .sh .non, .un, .un, .un] ((isrt (jk ws)).map li) = .ok ([].map li) := f2
      clear f2 lf1 lf2
      generalize (isrt (jk ws)).map li = JJ at *
      generalize F.map li = FL at *
      generalize ws.map li = WL at *
      simp only [List.map_nil] at *
      simp -implicitDefEqProofs [-eqD_lst, F__law_right, g__law_right, lj, f2', e00, fs, q']
end My
namespace My
open PySem PySem.Spec L2 DL
theorem F_joints_good (a b : D) (ws : List (List Int)) (n : Nat) (nb : F_need_book [a, b, .lst (ws.map li)] = .ok ⟨.sh, .non⟩) (h : Sized (n + 1) ws) (hl : ws.length ≤ 1000) (hn : n ≤ 1000) : F_joints [a, b, .lst (ws.map li)] = .ok ⟨.ow, .tup [.non, .lst ((isrt (jk ws)).map li)]⟩ := by
  have fj := F_joints_of_eq ws n h hl hn
  have lc := lct_map (fe := c_joints_1) (i := 3) (s := [.sh a, .sh b, .sh (.lst (ws.map li)), .un]) (f := fun d => match d with | .tup ds => .lst ds | d => d) ((isrt (jk ws)).map tupI) (by
    intro d hd
    obtain ⟨k, hk, rfl⟩ := List.mem_map.mp hd
    have hkn := jk_size h k ((isrt_perm _).mem_iff.mp hk)
    have hkl : (k.map D.int).length ≤ lim := lim_le (by rw [List.length_map, hkn]; omega)
    have hsc := scalD k
    show _ = Res.ok (D.lst (k.map .int))
    unfold tupI
    generalize k.map D.int = KK at *
    generalize ws.map li = WL at *
    simp -implicitDefEqProofs [c_joints_1, hkl, hsc])
  have lm : ((isrt (jk ws)).map tupI).map (fun d => match d with | .tup ds => D.lst ds | d => d) = (isrt (jk ws)).map li := by rw [List.map_map]; rfl
  rw [lm] at lc
  have hl2 : ((isrt (jk ws)).map li).length ≤ lim := lim_le (by
    have := jk_len ws
    rw [List.length_map, (isrt_perm _).length_eq]; omega)
  generalize (isrt (jk ws)).map li = J1 at *
  generalize (isrt (jk ws)).map tupI = J2 at *
  generalize ws.map li = WL at *
  simp -implicitDefEqProofs [F_joints, g_joints, nb, fj, lc, hl2]
theorem asked8_0 (a b w d : D) (h : F_joints [a, b, w] = .ok ⟨.ow, .tup [.non, d]⟩) : F__law_asked [.int 0, a, b, w] = .ok ⟨.ow, .tup [.non, d]⟩ := by
  simp -implicitDefEqProofs [F__law_asked, g__law_asked, h]
theorem asked8_1 (a b w d : D) (h : F_lack [a, b, w] = .ok ⟨.ow, .tup [.non, d]⟩) : F__law_asked [.int 1, a, b, w] = .ok ⟨.ow, .tup [.non, d]⟩ := by
  simp -implicitDefEqProofs [F__law_asked, g__law_asked, h]
theorem copiesT8 (fe : Ev → Res D) (i : Nat) (s : Ev) (rs : List (List Int)) (h : ∀ b ∈ rs, fe (st s i (.sh (li b))) = .ok (li b)) : lcT (fun _ => .ok true) fe i s (rs.map li) = .ok (rs.map li) := by
  have := lct_map (fe := fe) (i := i) (s := s) (f := id) (rs.map li) (fun d hd => by
    obtain ⟨b, hb, rfl⟩ := List.mem_map.mp hd
    exact h b hb)
  rw [List.map_id] at this
  exact this
theorem lackD_cases (ws : List (List Int)) (n : Nat) (h : Sized (n + 1) ws) (hl : ws.length ≤ 1000) (hn : n ≤ 1000) : lackD (lackL ws) = .non ∨ ∃ x X, lackD (lackL ws) = .tup [.str x, .lst X] ∧ X.length < lim := by
  cases e : lackL ws with
  | no => exact .inl rfl
  | un k =>
    refine .inr ⟨_, _, rfl, ?_⟩
    unfold lackL at e
    cases eu : uneven ws with
    | none => rw [eu] at e; dsimp only at e; split at e <;> cases e
    | some k' =>
      rw [eu] at e
      cases e
      have hm := (isrt_perm _).mem_iff.mp (List.mem_of_find?_eq_some eu)
      have := jk_size h k hm
      exact lim_lt (by simp; omega)
  | ap l =>
    refine .inr ⟨_, _, rfl, ?_⟩
    unfold lackL at e
    cases eu : uneven ws with
    | some k' => rw [eu] at e; cases e
    | none =>
      rw [eu] at e
      dsimp only at e
      split at e
      · rename_i q
        cases e
        have := jk_len ws
        exact lim_lt (by rw [List.length_map, (isrt_perm _).length_eq]; omega)
      · cases e
theorem law8_tail (ns : List Int) (s : Int) (m : Nat) (ws : List (List Int)) (hs : 1 ≤ s ∧ s ≤ 9) (hn : m + 1 ≤ 8) (hf : fits (.int s) (.int ((m + 1 : Nat) : Int)) = true) (hb : Book s (m + 1) ws) (hl : ws.length ≤ 40) :
    fin (k_law_2 [.sh (.scr ns), .sh (.int s), .sh (.int ((m + 1 : Nat) : Int)), .ow (.lst (ws.map li)), .un, .un, .un, .un, .un, .un, .un]) = .ok ⟨.sh, .bl true⟩ := by
  have nb := F_need_book_good s (m + 1) ws hf hb (by omega)
  have hsz : Sized (m + 1) ws := fun w hw => (hb.2.2 w hw).1
  have fl := F_lack_of_eq ws m hsz hb.1 (by omega) (by omega)
  have l2 := F_lack_good _ _ _ _ nb fl
  have j2 := F_joints_good _ _ ws m nb hsz (by omega) (by omega)
  have a0 := asked8_0 _ _ _ _ j2
  have a1 := asked8_1 _ _ _ _ l2
  have lj := F_ljoints_eq ws m hsz (by omega)
  have rt := F_right_eq ws m hsz hb.2.1 hb.1 (by omega)
  have hjl := jk_len ws
  have hil := (isrt_perm (jk ws)).length_eq
  have l1 : (ws.map li).length ≤ lim := lim_le (by simp; omega)
  have ok1 := okEq_lis ws
  have ee : eqD (.lst (ws.map li)) (.lst (ws.map li)) = true := by rw [eqD_lst]; exact eqL_ll ws
  have ok2 := okEq_lis (isrt (jk ws))
  have ee2 : eqD (.lst ((isrt (jk ws)).map li)) (.lst ((isrt (jk ws)).map li)) = true := by rw [eqD_lst]; exact eqL_ll _
  have lJ : ((isrt (jk ws)).map li).length ≤ lim := lim_le (by rw [List.length_map]; omega)
  have lJ2 : ((isrt (jk ws)).map li).length < lim := lim_lt (by rw [List.length_map]; omega)
  -- a joint, there is one
  obtain ⟨k0, J0, hJ⟩ : ∃ k0 J0, isrt (jk ws) = k0 :: J0 := by
    cases e : isrt (jk ws) with
    | nil =>
      have hm := (minB_mem hb.1).1
      have := (isrt_perm (jk ws)).mem_iff.mpr (jk_mem.mpr ⟨_, hm, .inl rfl⟩)
      rw [e] at this; cases this
    | cons a l => exact ⟨a, l, rfl⟩
  have hk0 : (k0.map D.int).length < lim := by
    have := jk_size hsz k0 ((isrt_perm _).mem_iff.mp (by rw [hJ]; exact List.mem_cons_self))
    exact lim_lt (by rw [List.length_map, this]; omega)
  have hcp : ∀ b ∈ isrt (jk ws), (b.map D.int).all scalar = true := fun b _ => scalD b
  have cp1 : lcT (fun _ => .ok true) c_law_4 8 [.sh (.scr ns), .sh (.int s), .sh (.int ((m + 1 : Nat) : Int)), .ow (.lst (ws.map li)), .un, .un, .un, .un, .un, .un, .un] (ws.map li) = .ok (ws.map li) := copiesT8 c_law_4 8 _ ws (fun b _ => by
    have hsc := scalD b
    simp only [li] at *
    generalize ws.map (fun w => D.lst (w.map .int)) = WL at *
    generalize ((m + 1 : Nat) : Int) = N at *
    generalize b.map D.int = B at *
    simp -implicitDefEqProofs [c_law_4, hsc])
  have cp3 : ∀ x3 x4 x6, lcT (fun _ => .ok true) c_law_3 10 [.sh (.scr ns), .sh (.int s), .sh (.int ((m + 1 : Nat) : Int)), x3, x4, .sh (.lst ((isrt (jk ws)).map li)), x6, .un, .un, .un, .un] ((isrt (jk ws)).map li) = .ok ((isrt (jk ws)).map li) := fun x3 x4 x6 => copiesT8 c_law_3 10 _ _ (fun b _ => by
    have hsc := scalD b
    simp only [li] at *
    generalize (isrt (jk ws)).map (fun w => D.lst (w.map .int)) = WL at *
    generalize ((m + 1 : Nat) : Int) = N at *
    generalize b.map D.int = B at *
    simp -implicitDefEqProofs [c_law_3, hsc])
  have cp2 : ∀ x3 x4 x5 x6 x7 x9, lcF (fun _ => .ok true) c_law_2 8 [.sh (.scr ns), .sh (.int s), .sh (.int ((m + 1 : Nat) : Int)), x3, x4, x5, x6, x7, .un, x9, .un] (ws.map li) = .ok (ws.map li) := fun x3 x4 x5 x6 x7 x9 => copies c_law_2 8 _ ws (fun b => by
    generalize ws.map li = WL
    generalize ((m + 1 : Nat) : Int) = N
    simp -implicitDefEqProofs [c_law_2])
  have cp4 : ∀ x3 x4 x5 x6 x7 x9, lcF (fun _ => .ok true) c_law_1 8 [.sh (.scr ns), .sh (.int s), .sh (.int ((m + 1 : Nat) : Int)), x3, x4, x5, x6, x7, .un, x9, .un] (ws.map li) = .ok (ws.map li) := fun x3 x4 x5 x6 x7 x9 => copies c_law_1 8 _ ws (fun b => by
    generalize ws.map li = WL
    generalize ((m + 1 : Nat) : Int) = N
    simp -implicitDefEqProofs [c_law_1])
  have oc1 : (ws.map li).all okC = true := List.all_eq_true.mpr fun d hd => by
    obtain ⟨w, hw, rfl⟩ := List.mem_map.mp hd
    have := hsz w hw
    simp only [okC, decide_eq_true_eq]
    exact lim_lt (by rw [List.length_map]; omega)
  have oc2 : (ws.map li).all isL = true := List.all_eq_true.mpr fun d hd => by
    obtain ⟨w, hw, rfl⟩ := List.mem_map.mp hd
    rfl
  have hJm : (isrt (jk ws)).map li = .lst (k0.map .int) :: J0.map li := by rw [hJ]; rfl
  have hsX := lackD_cases ws m hsz (by omega) (by omega)
  generalize lackD (lackL ws) = LD at *
  generalize (ws.map li).map (addC 0) = HH at *
  clear hb hf nb hsz fl l2 j2 hcp hJ
  generalize ((m + 1 : Nat) : Int) = N at *
  generalize ws.map li = WL at *
  generalize (isrt (jk ws)).map li = JJ at *
  subst hJm
  generalize J0.map li = JR at *
  generalize k0.map D.int = K0 at *
  have lJ3 : JR.length + 1 < lim := by simpa using lJ2
  have lJ4 : JR.length + 1 ≤ lim := Nat.le_of_lt lJ3
  rcases hsX with rfl | ⟨x, X, rfl, hX⟩
  · simp -implicitDefEqProofs [-lcT, -eqD_lst, k_law_2, k_law_3, k_law_4, k_law_5, cp1, l1, a0, a1, lj, rt, ok1, ok2, ee, ee2, noNx]
    simp -implicitDefEqProofs [-lcT, -eqD_lst, -List.all_eq_true, -List.all_map, k_law_6, k_law_7, k_law_8, k_law_9, k_law_10, cp3, lJ, lJ4, oc1, oc2, goP, atP, hk0, lJ3, noNx]
    simp -implicitDefEqProofs [-lcT, -eqD_lst, k_law_11, k_law_12, k_law_13, k_law_14, cp2, cp4, l1, a1, a0, rt, ok2, ee2, noNx]
  · have a10 : atI [D.str x, .lst (X ++ [.int 0])] 1 = some (.lst (X ++ [.int 0])) := rfl
    have a11 : atI [D.str x, .lst X] 1 = some (.lst X) := rfl
    have a12 : atI (X ++ [D.int 0]) (-1) = some (.int 0) := by
      unfold atI
      have e : ixN (X ++ [D.int 0]).length (-1) = some X.length := by
        simp only [ixN, List.length_append, List.length_singleton]
        rw [if_neg (by decide), if_pos (by omega)]
        congr 1
        omega
      rw [e]; simp
    simp -implicitDefEqProofs [-lcT, -eqD_lst, k_law_2, k_law_3, k_law_4, k_law_5, cp1, l1, a0, a1, lj, rt, ok1, ok2, ee, ee2, noNx]
    simp -implicitDefEqProofs [-lcT, -eqD_lst, -List.all_eq_true, -List.all_map, k_law_6, k_law_7, k_law_8, k_law_9, k_law_10, cp3, lJ, lJ4, oc1, oc2, goP, atP, hk0, lJ3, hX, noNx]
    simp -implicitDefEqProofs [-lcT, -eqD_lst, k_law_11, k_law_12, k_law_13, k_law_14, cp2, cp4, l1, a1, a0, rt, ok2, ee2, a10, a11, a12, noNx]
theorem law_true (ns : List Int) (hns : ns.length ≤ 63) : F_law [.scr ns] = .ok ⟨.sh, .bl true⟩ := by
  have c0 : F__law_cell_at [.scr ns, .int 0] = .ok ⟨.sh, .int (cell ns 0)⟩ := F_cell_at_eq ns 0
  obtain ⟨s, n, hp, hs, hn, hf⟩ := F_lpair_eq (cell ns 0)
  generalize cell ns 0 = c at c0 hp
  obtain ⟨ws, b1, b2, b3, b4⟩ := F_lbook_eq ns 1 s n 4 (by omega) (by omega) (by omega)
  obtain ⟨m, rfl⟩ : ∃ m, n = m + 1 := ⟨n - 1, by omega⟩
  have b1' : F__law_book [.scr ns, .int 1, .int s, .int ((m + 1 : Nat) : Int), .int 4] = .ok ⟨.fr, .lst (ws.map li)⟩ := b1
  have k := law8_tail ns s m ws hs (by omega) hf (wds_book b2 b3) (by omega)
  generalize ((m + 1 : Nat) : Int) = N at *
  generalize ws.map li = WL at *
  simp -implicitDefEqProofs [F_law, g_law, k_law_1, c0, hp, b1']
  exact k
end My
namespace My
open PySem PySem.Spec L2 DL
def topS (i : Nat) : Stmt := PySem.Challenge.pw_fullring_k08_joints_and_lacks.main.body.getD i (.Pass ⟨0, 0, 0, 0⟩)
structure Txt (K : PySem.W.Frag) (mg : Str → Option Value) (ca : Nat → Addr) : Prop where
  c_MOST_SIGNS : ∃ t, mg "MOST_SIGNS" = some (.int 9 t)
  c_MOST_SIZE : ∃ t, mg "MOST_SIZE" = some (.int 8 t)
  c_MOST_WORDS : ∃ t, mg "MOST_WORDS" = some (.int 256 t)
  e_BadBook : PySem.W.excIn K (ca 2) [.type "ValueError", .type "Exception", .type "BaseException", .type "object"] "ValueError.__new__" = true ∧ mg "BadBook" = some (.ref (ca 2)) ∧ PySem.W.keepIn K (.ref (ca 2)) = true ∧ PySem.W.subIn K (.ref (ca 2)) (.type "BaseException") = some true ∧ PySem.W.typeIn K (.ref (ca 2)) = some (.type "type")
  e_BadSize : PySem.W.excIn K (ca 0) [.type "ValueError", .type "Exception", .type "BaseException", .type "object"] "ValueError.__new__" = true ∧ mg "BadSize" = some (.ref (ca 0)) ∧ PySem.W.keepIn K (.ref (ca 0)) = true ∧ PySem.W.subIn K (.ref (ca 0)) (.type "BaseException") = some true ∧ PySem.W.typeIn K (.ref (ca 0)) = some (.type "type")
  z_ValueError : mg "ValueError" = none
  z_all : mg "all" = none
  z_bool : mg "bool" = none
  z_int : mg "int" = none
  z_isinstance : mg "isinstance" = none
  z_len : mg "len" = none
  z_list : mg "list" = none
  z_min : mg "min" = none
  z_range : mg "range" = none
  z_sorted : mg "sorted" = none
  z_tuple : mg "tuple" = none
  n_BadSize : mg "BadSize" = some (.ref (ca 0))
  n_BadWord : mg "BadWord" = some (.ref (ca 1))
  n_BadBook : mg "BadBook" = some (.ref (ca 2))
  n_BadRing : mg "BadRing" = some (.ref (ca 3))
  n_NoWord : mg "NoWord" = some (.ref (ca 4))
  n_NoRing : mg "NoRing" = some (.ref (ca 5))
  n_NoJoin : mg "NoJoin" = some (.ref (ca 6))
  n_RingError : mg "RingError" = some (.ref (ca 7))
  exm : ∀ c, c < 7 → PySem.W.exmOne K (.ref (ca c)) (.ref (ca 7)) = some true
  kit : ∀ c k, c < 7 → k < 7 → PySem.W.kitOne K (.ref (ca c)) (.ref (ca k)) = some (c == k)
  kitV : ∀ c, c < 7 → PySem.W.kitOne K (.ref (ca c)) (.type "ValueError") = some true
  excC : ∀ c, c < 7 → ExcC K (ca c)
section
variable {P : Program} {w : World} {K : PySem.W.Frag} {mg : Str → Option Value} {base : Heap} {ca : Nat → Addr}
abbrev s_is_among : Stmt := topS 13
theorem sc_is_among : FnScope ["thing", "least", "most"] ["thing", "least", "most"] (defScope s_is_among) := ⟨rfl, rfl, rfl, by decide +kernel, rfl, by decide +kernel, by decide +kernel⟩
theorem ok_is_among (T : Txt K mg ca) {f : Addr} {fd : FuncData} (Fn : L2.Fun K "is_among" "is_among" s_is_among f fd) (hm : mg "is_among" = some (.ref f)) (hb : Binds K fd ["thing", "least", "most"] [])  : Cal P w K mg base ca 1 "is_among" ["thing", "least", "most"] F_is_among :=
  cal_of Fn hm hb sc_is_among g_is_among (fun cdv A outer s H E hr tk hp =>
    have nd := sc_is_among.nd
    (dss_one (ds_ret (de_and (de_isi .int T.z_isinstance T.z_int (de_var 0)) (de_and (de_not (de_isi .bool T.z_isinstance T.z_bool (de_var 0))) (de_one (de_chain od_le od_le (de_var 1) (de_var 0) (de_var 2)))))))) (fun ds r h _ => h)
abbrev s_how_many : Stmt := topS 14
theorem sc_how_many : FnScope ["signs", "size", "found", "step"] ["signs", "size"] (defScope s_how_many) := ⟨rfl, rfl, rfl, by decide +kernel, rfl, by decide +kernel, by decide +kernel⟩
theorem ok_how_many (T : Txt K mg ca) {f : Addr} {fd : FuncData} (Fn : L2.Fun K "how_many" "how_many" s_how_many f fd) (hm : mg "how_many" = some (.ref f)) (hb : Binds K fd ["signs", "size"] [])  : Cal P w K mg base ca 1 "how_many" ["signs", "size"] F_how_many :=
  cal_of Fn hm hb sc_how_many g_how_many (fun cdv A outer s H E hr tk hp =>
    have nd := sc_how_many.nd
    (dss_cons (ds_set 2 de_int nd)
      (dss_cons (ds_for 3 (di_range1 T.z_range (da_cons (de_var 1) da_nil)) (dss_one (ds_set 2 (de_op od_mul (de_var 2) (de_var 0)) nd)) hp nd)
      (dss_one (ds_ret (de_var 2)))))) (fun ds r h _ => h)
abbrev s_need_size : Stmt := topS 15
theorem sc_need_size : FnScope ["signs", "size"] ["signs", "size"] (defScope s_need_size) := ⟨rfl, rfl, rfl, by decide +kernel, rfl, by decide +kernel, by decide +kernel⟩
theorem ok_need_size (T : Txt K mg ca) {f : Addr} {fd : FuncData} (Fn : L2.Fun K "need_size" "need_size" s_need_size f fd) (hm : mg "need_size" = some (.ref f)) (hb : Binds K fd ["signs", "size"] []) (c_how_many : Cal P w K mg base ca 1 "how_many" ["signs", "size"] F_how_many) (c_is_among : Cal P w K mg base ca 1 "is_among" ["thing", "least", "most"] F_is_among) : Cal P w K mg base ca 2 "need_size" ["signs", "size"] F_need_size :=
  cal_of Fn hm hb sc_need_size g_need_size (fun cdv A outer s H E hr tk hp =>
    have nd := sc_need_size.nd
    (dss_cons (ds_if (dt_w (dw_or (dt_not (dt_val (de_fn c_is_among hr (passAt tk) (da_cons (de_var 0) (da_cons de_int (da_cons (de_gint (by rfl) T.c_MOST_SIGNS) da_nil))) (len_cons (len_cons (len_cons len_nil)))))) (dw_or1 (dt_not (dt_val (de_fn c_is_among hr (passAt tk) (da_cons (de_var 1) (da_cons de_int (da_cons (de_gint (by rfl) T.c_MOST_SIZE) da_nil))) (len_cons (len_cons (len_cons len_nil))))))))) (dss_one (ds_raise 0 PySem.F.excBase_ValueError tk T.e_BadSize.1 T.e_BadSize.2.1 T.e_BadSize.2.2.1 T.e_BadSize.2.2.2.1 T.e_BadSize.2.2.2.2)) dss_nil)
      (dss_one (ds_if (dt_cmp od_gt (de_fn c_how_many hr (passAt tk) (da_cons (de_var 0) (da_cons (de_var 1) da_nil)) (len_cons (len_cons len_nil))) (de_gint (by rfl) T.c_MOST_WORDS)) (dss_one (ds_raise 0 PySem.F.excBase_ValueError tk T.e_BadSize.1 T.e_BadSize.2.1 T.e_BadSize.2.2.1 T.e_BadSize.2.2.2.1 T.e_BadSize.2.2.2.2)) dss_nil)))) (fun ds r h _ => h)
abbrev s_is_word : Stmt := topS 16
theorem sc_is_word : FnScope ["signs", "thing", "sign"] ["signs", "thing"] (defScope s_is_word) := ⟨rfl, rfl, rfl, by decide +kernel, rfl, by decide +kernel, by decide +kernel⟩
theorem ok_is_word (T : Txt K mg ca) {f : Addr} {fd : FuncData} (Fn : L2.Fun K "is_word" "is_word" s_is_word f fd) (hm : mg "is_word" = some (.ref f)) (hb : Binds K fd ["signs", "thing"] []) (c_is_among : Cal P w K mg base ca 1 "is_among" ["thing", "least", "most"] F_is_among) : Cal P w K mg base ca 2 "is_word" ["signs", "thing"] F_is_word :=
  cal_of Fn hm hb sc_is_word g_is_word (fun cdv A outer s H E hr tk hp =>
    have nd := sc_is_word.nd
    (dss_cons (ds_if (dt_w (dw_or (dt_not (dt_val (de_isi .list T.z_isinstance T.z_list (de_var 1)))) (dw_or1 (dt_not (dt_chain od_le od_le de_int (de_callB cd_len T.z_len (da_cons (de_var 1) da_nil)) (de_gint (by rfl) T.c_MOST_SIZE)))))) (dss_one (ds_ret de_bl)) dss_nil)
      (dss_one (ds_ret (de_callB (cd_all rfl) T.z_all (da_cons (de_lc 2 nd (di_list (de_var 1)) (show blkC ["signs", "thing", "sign"] (defScope s_is_word) _ _ = true from by decide +kernel) (fun _ _ _ _ _ => pg_name (i := 2) nd rfl (Or.inl rfl)) (fun _ _ _ _ _ => dts_nil) (fun _ _ _ _ _ => (de_fn c_is_among hr passW0 (da_cons (de_var 2) (da_cons de_int (da_cons (de_op od_sub (de_var 0) de_int) da_nil))) (len_cons (len_cons (len_cons len_nil)))))) da_nil)))))) (fun ds r h _ => h)
abbrev s_need_book : Stmt := topS 18
theorem sc_need_book : FnScope ["signs", "size", "thing", "met", "word"] ["signs", "size", "thing"] (defScope s_need_book) := ⟨rfl, rfl, rfl, by decide +kernel, rfl, by decide +kernel, by decide +kernel⟩
theorem ok_need_book (T : Txt K mg ca) {f : Addr} {fd : FuncData} (Fn : L2.Fun K "need_book" "need_book" s_need_book f fd) (hm : mg "need_book" = some (.ref f)) (hb : Binds K fd ["signs", "size", "thing"] []) (c_is_word : Cal P w K mg base ca 2 "is_word" ["signs", "thing"] F_is_word) (c_need_size : Cal P w K mg base ca 2 "need_size" ["signs", "size"] F_need_size) : Cal P w K mg base ca 3 "need_book" ["signs", "size", "thing"] F_need_book :=
  cal_of Fn hm hb sc_need_book g_need_book (fun cdv A outer s H E hr tk hp =>
    have nd := sc_need_book.nd
    (dss_cons (ds_expr (de_fn c_need_size hr (passAt tk) (da_cons (de_var 0) (da_cons (de_var 1) da_nil)) (len_cons (len_cons len_nil))))
      (dss_cons (ds_if (dt_w (dw_or (dt_not (dt_val (de_isi .list T.z_isinstance T.z_list (de_var 2)))) (dw_or1 (dt_cmp (od_eq hr.units) (de_var 2) (de_lst da_nil))))) (dss_one (ds_raise 2 PySem.F.excBase_ValueError tk T.e_BadBook.1 T.e_BadBook.2.1 T.e_BadBook.2.2.1 T.e_BadBook.2.2.2.1 T.e_BadBook.2.2.2.2)) dss_nil)
      (dss_cons (ds_set 3 de_dT nd)
      (dss_one (ds_for 4 (di_list (de_var 2)) (dss_cons (ds_if (dt_w (dw_or (dt_not (dt_val (de_fn c_is_word hr (passAt tk) (da_cons (de_var 0) (da_cons (de_var 4) da_nil)) (len_cons (len_cons len_nil))))) (dw_or (dt_cmp (od_ne hr.units) (de_callB cd_len T.z_len (da_cons (de_var 4) da_nil)) (de_var 1)) (dw_or1 (dt_inD (hu1 hr) (de_callTy cd_tup T.z_tuple (da_cons (de_var 4) da_nil)) (de_var 3)))))) (dss_one (ds_raise 2 PySem.F.excBase_ValueError tk T.e_BadBook.1 T.e_BadBook.2.1 T.e_BadBook.2.2.1 T.e_BadBook.2.2.2.1 T.e_BadBook.2.2.2.2)) dss_nil)
      (dss_one (ds_dput 3 (hu1 hr) (de_callTy cd_tup T.z_tuple (da_cons (de_var 4) da_nil)) de_bl))) hp nd)))))) (fun ds r h _ => h)
abbrev s_joints_of : Stmt := topS 19
theorem sc_joints_of : FnScope ["book", "met", "word"] ["book"] (defScope s_joints_of) := ⟨rfl, rfl, rfl, by decide +kernel, rfl, by decide +kernel, by decide +kernel⟩
theorem ok_joints_of (T : Txt K mg ca) {f : Addr} {fd : FuncData} (Fn : L2.Fun K "joints_of" "joints_of" s_joints_of f fd) (hm : mg "joints_of" = some (.ref f)) (hb : Binds K fd ["book"] [])  : Cal P w K mg base ca 1 "joints_of" ["book"] F_joints_of :=
  cal_of Fn hm hb sc_joints_of g_joints_of (fun cdv A outer s H E hr tk hp =>
    have nd := sc_joints_of.nd
    (dss_cons (ds_set 1 de_dT nd)
      (dss_cons (ds_for 2 (di_list (de_var 0)) (dss_cons (ds_dput 1 (hu1 hr) (de_callTy cd_tup T.z_tuple (da_cons (de_sl (de_var 2) do_none (do_some (de_neg de_int))) da_nil)) de_bl)
      (dss_one (ds_dput 1 (hu1 hr) (de_callTy cd_tup T.z_tuple (da_cons (de_sl (de_var 2) (do_some de_int) do_none) da_nil)) de_bl))) hp nd)
      (dss_one (ds_ret (de_callB (cd_sortedK rfl hr.units) T.z_sorted (da_cons (de_var 1) da_nil))))))) (fun ds r h _ => h)
abbrev s_joints : Stmt := topS 20
theorem sc_joints : FnScope ["signs", "size", "book", "joint"] ["signs", "size", "book"] (defScope s_joints) := ⟨rfl, rfl, rfl, by decide +kernel, rfl, by decide +kernel, by decide +kernel⟩
theorem ok_joints (T : Txt K mg ca) {f : Addr} {fd : FuncData} (Fn : L2.Fun K "joints" "joints" s_joints f fd) (hm : mg "joints" = some (.ref f)) (hb : Binds K fd ["signs", "size", "book"] []) (c_joints_of : Cal P w K mg base ca 1 "joints_of" ["book"] F_joints_of) (c_need_book : Cal P w K mg base ca 3 "need_book" ["signs", "size", "thing"] F_need_book) : Cal P w K mg base ca 4 "joints" ["signs", "size", "book"] F_joints :=
  cal_of Fn hm hb sc_joints g_joints (fun cdv A outer s H E hr tk hp =>
    have nd := sc_joints.nd
    (dss_cons (ds_expr (de_fn c_need_book hr (passAt tk) (da_cons (de_var 0) (da_cons (de_var 1) (da_cons (de_var 2) da_nil))) (len_cons (len_cons (len_cons len_nil)))))
      (dss_one (ds_retTr (dtr_lc 3 nd (di_list (de_fn c_joints_of hr (passAt tk) (da_cons (de_var 2) da_nil) (len_cons len_nil))) (show blkC ["signs", "size", "book", "joint"] (defScope s_joints) _ _ = true from by decide +kernel) (fun _ _ _ _ _ => pg_name (i := 3) nd rfl (Or.inl rfl)) (fun _ _ _ _ _ => dts_nil) (fun _ _ _ _ _ => (dtr_of (de_callTy cd_list T.z_list (da_cons (de_var 3) da_nil))))))))) (fun ds r h _ => h)
abbrev s_uneven_at : Stmt := topS 21
theorem sc_uneven_at : FnScope ["book", "more", "word", "joint"] ["book"] (defScope s_uneven_at) := ⟨rfl, rfl, rfl, by decide +kernel, rfl, by decide +kernel, by decide +kernel⟩
theorem ok_uneven_at (T : Txt K mg ca) {f : Addr} {fd : FuncData} (Fn : L2.Fun K "uneven_at" "uneven_at" s_uneven_at f fd) (hm : mg "uneven_at" = some (.ref f)) (hb : Binds K fd ["book"] []) (c_joints_of : Cal P w K mg base ca 1 "joints_of" ["book"] F_joints_of) : Cal P w K mg base ca 2 "uneven_at" ["book"] F_uneven_at :=
  cal_of Fn hm hb sc_uneven_at g_uneven_at (fun cdv A outer s H E hr tk hp =>
    have nd := sc_uneven_at.nd
    (dss_cons (ds_set 1 de_dT nd)
      (dss_cons (ds_for 2 (di_list (de_var 0)) (dss_cons (ds_dput 1 (hu1 hr) (de_callTy cd_tup T.z_tuple (da_cons (de_sl (de_var 2) do_none (do_some (de_neg de_int))) da_nil)) (de_op od_add (de_get2 (hu1 hr) (de_var 1) (de_callTy cd_tup T.z_tuple (da_cons (de_sl (de_var 2) do_none (do_some (de_neg de_int))) da_nil)) de_int) de_int))
      (dss_one (ds_dput 1 (hu1 hr) (de_callTy cd_tup T.z_tuple (da_cons (de_sl (de_var 2) (do_some de_int) do_none) da_nil)) (de_op od_sub (de_get2 (hu1 hr) (de_var 1) (de_callTy cd_tup T.z_tuple (da_cons (de_sl (de_var 2) (do_some de_int) do_none) da_nil)) de_int) de_int)))) hp nd)
      (dss_cons (ds_for 3 (di_list (de_fn c_joints_of hr (passAt tk) (da_cons (de_var 0) da_nil) (len_cons len_nil))) (dss_one (ds_if (dt_cmp (od_ne hr.units) (de_dget (hu1 hr) (de_var 1) (de_var 3)) de_int) (dss_one (ds_ret (de_var 3))) dss_nil)) hp nd)
      (dss_one (ds_ret de_non)))))) (fun ds r h _ => h)
abbrev s_come_to : Stmt := topS 22
theorem sc_come_to : FnScope ["book", "start", "found", "met", "at", "word", "joint"] ["book", "start"] (defScope s_come_to) := ⟨rfl, rfl, rfl, by decide +kernel, rfl, by decide +kernel, by decide +kernel⟩
theorem ok_come_to (T : Txt K mg ca) {f : Addr} {fd : FuncData} (Fn : L2.Fun K "come_to" "come_to" s_come_to f fd) (hm : mg "come_to" = some (.ref f)) (hb : Binds K fd ["book", "start"] [])  : Cal P w K mg base ca 1 "come_to" ["book", "start"] F_come_to :=
  cal_of Fn hm hb sc_come_to g_come_to (fun cdv A outer s H E hr tk hp =>
    have nd := sc_come_to.nd
    (dss_cons (ds_set 2 (de_lst (da_cons (de_var 1) da_nil)) nd)
      (dss_cons (ds_set 3 (de_disp1T (hu1 hr) (de_var 1) de_bl) nd)
      (dss_cons (ds_set 4 de_int nd)
      (dss_cons (ds_while (dt_cmp od_lt (de_var 4) (de_callB cd_len T.z_len (da_cons (de_var 2) da_nil))) (dss_cons (ds_for 5 (di_list (de_var 0)) (dss_cons (ds_set 6 (de_callTy cd_tup T.z_tuple (da_cons (de_sl (de_var 5) (do_some de_int) do_none) da_nil)) nd)
      (dss_one (ds_if (dt_w (dw_and (dt_cmp (od_eq hr.units) (de_callTy cd_tup T.z_tuple (da_cons (de_sl (de_var 5) do_none (do_some (de_neg de_int))) da_nil)) (de_ix (de_var 2) (de_var 4))) (dw_and1 (dt_notinD (hu1 hr) (de_var 6) (de_var 3))))) (dss_cons (ds_dput 3 (hu1 hr) (de_var 6) de_bl)
      (dss_one (ds_mut 2 md_append PySem.F.plainAttrs_list PySem.F.slot_list_append PySem.F.type_list_append (da_cons (de_var 6) da_nil)))) dss_nil))) hp nd)
      (dss_one (ds_set 4 (de_op od_add (de_var 4) de_int) nd))) hp)
      (dss_one (ds_ret (de_var 2)))))))) (fun ds r h _ => h)
abbrev s_lack_of : Stmt := topS 23
theorem sc_lack_of : FnScope ["book", "joint", "found", "one"] ["book"] (defScope s_lack_of) := ⟨rfl, rfl, rfl, by decide +kernel, rfl, by decide +kernel, by decide +kernel⟩
theorem ok_lack_of (T : Txt K mg ca) {f : Addr} {fd : FuncData} (Fn : L2.Fun K "lack_of" "lack_of" s_lack_of f fd) (hm : mg "lack_of" = some (.ref f)) (hb : Binds K fd ["book"] []) (c_joints_of : Cal P w K mg base ca 1 "joints_of" ["book"] F_joints_of) (c_come_to : Cal P w K mg base ca 1 "come_to" ["book", "start"] F_come_to) (c_uneven_at : Cal P w K mg base ca 2 "uneven_at" ["book"] F_uneven_at) : Cal P w K mg base ca 3 "lack_of" ["book"] F_lack_of :=
  cal_of Fn hm hb sc_lack_of g_lack_of (fun cdv A outer s H E hr tk hp =>
    have nd := sc_lack_of.nd
    (dss_cons (ds_set 1 (de_fn c_uneven_at hr (passAt tk) (da_cons (de_var 0) da_nil) (len_cons len_nil)) nd)
      (dss_cons (ds_if (dt_cmp od_isnot (de_var 1) de_non) (dss_one (ds_retTr (dtr_tup (dta_cons (dtr_of de_str) (dta_cons (dtr_of (de_callTy cd_list T.z_list (da_cons (de_var 1) da_nil))) dta_nil))))) dss_nil)
      (dss_cons (ds_set 2 (de_fn c_come_to hr (passAt tk) (da_cons (de_var 0) (da_cons (de_callTy cd_tup T.z_tuple (da_cons (de_sl (de_callB (cd_min hr.units rfl) T.z_min (da_cons (de_var 0) da_nil)) do_none (do_some (de_neg de_int))) da_nil)) da_nil)) (len_cons (len_cons len_nil))) nd)
      (dss_cons (ds_if (dt_cmp od_lt (de_callB cd_len T.z_len (da_cons (de_var 2) da_nil)) (de_callB cd_len T.z_len (da_cons (de_fn c_joints_of hr (passAt tk) (da_cons (de_var 0) da_nil) (len_cons len_nil)) da_nil))) (dss_one (ds_retTr (dtr_tup (dta_cons (dtr_of de_str) (dta_cons (dtr_lc 3 nd (di_list (de_callB (cd_sorted hr.units) T.z_sorted (da_cons (de_var 2) da_nil))) (show blkC ["book", "joint", "found", "one"] (defScope s_lack_of) _ _ = true from by decide +kernel) (fun _ _ _ _ _ => pg_name (i := 3) nd rfl (Or.inl rfl)) (fun _ _ _ _ _ => dts_nil) (fun _ _ _ _ _ => (dtr_of (de_callTy cd_list T.z_list (da_cons (de_var 3) da_nil))))) dta_nil))))) dss_nil)
      (dss_one (ds_ret de_non))))))) (fun ds r h _ => h)
abbrev s_lack : Stmt := topS 24
theorem sc_lack : FnScope ["signs", "size", "book"] ["signs", "size", "book"] (defScope s_lack) := ⟨rfl, rfl, rfl, by decide +kernel, rfl, by decide +kernel, by decide +kernel⟩
theorem ok_lack (T : Txt K mg ca) {f : Addr} {fd : FuncData} (Fn : L2.Fun K "lack" "lack" s_lack f fd) (hm : mg "lack" = some (.ref f)) (hb : Binds K fd ["signs", "size", "book"] []) (c_lack_of : Cal P w K mg base ca 3 "lack_of" ["book"] F_lack_of) (c_need_book : Cal P w K mg base ca 3 "need_book" ["signs", "size", "thing"] F_need_book) : Cal P w K mg base ca 4 "lack" ["signs", "size", "book"] F_lack :=
  cal_of Fn hm hb sc_lack g_lack (fun cdv A outer s H E hr tk hp =>
    have nd := sc_lack.nd
    (dss_cons (ds_expr (de_fn c_need_book hr (passAt tk) (da_cons (de_var 0) (da_cons (de_var 1) (da_cons (de_var 2) da_nil))) (len_cons (len_cons (len_cons len_nil)))))
      (dss_one (ds_retTr (dtr_fn c_lack_of hr (passAt tk) (da_cons (de_var 2) da_nil) (len_cons len_nil)))))) (fun ds r h _ => h)
abbrev s__law_cell_at : Stmt := topS 26
theorem sc__law_cell_at : FnScope ["_law_script", "_law_k"] ["_law_script", "_law_k"] (defScope s__law_cell_at) := ⟨rfl, rfl, rfl, by decide +kernel, rfl, by decide +kernel, by decide +kernel⟩
theorem ok__law_cell_at (T : Txt K mg ca) {f : Addr} {fd : FuncData} (Fn : L2.Fun K "_law_cell_at" "_law_cell_at" s__law_cell_at f fd) (hm : mg "_law_cell_at" = some (.ref f)) (hb : Binds K fd ["_law_script", "_law_k"] [])  : Cal P w K mg base ca 1 "_law_cell_at" ["_law_script", "_law_k"] F__law_cell_at :=
  cal_of Fn hm hb sc__law_cell_at g__law_cell_at (fun cdv A outer s H E hr tk hp =>
    have nd := sc__law_cell_at.nd
    (dss_cons (ds_if (dt_cmp od_lt (de_var 1) (de_callB cd_len T.z_len (da_cons (de_var 0) da_nil))) (dss_one (ds_ret (de_ix (de_var 0) (de_var 1)))) dss_nil)
      (dss_one (ds_ret de_int)))) (fun ds r h _ => h)
abbrev s__law_classes : Stmt := topS 27
theorem sc__law_classes : FnScope ["_law_e", "_law_found"] ["_law_e"] (defScope s__law_classes) := ⟨rfl, rfl, rfl, by decide +kernel, rfl, by decide +kernel, by decide +kernel⟩
theorem ok__law_classes (T : Txt K mg ca) {f : Addr} {fd : FuncData} (Fn : L2.Fun K "_law_classes" "_law_classes" s__law_classes f fd) (hm : mg "_law_classes" = some (.ref f)) (hb : Binds K fd ["_law_e"] [])  : CalP P w K mg base ca 1 7 "_law_classes" :=
  calP_of Fn hm hb sc__law_classes g__law_classes T.excC (fun cdv A outer s H p c hc ht =>
    have nd := sc__law_classes.nd
    (dss_cons (ds_set 1 (de_op od_add (de_op od_add (de_op od_mul (de_lst (da_cons de_int da_nil)) (de_callTy cd_int T.z_int (da_cons (de_isE ht T.z_isinstance T.n_BadSize (T.kit c 0 hc (by decide)) (de_var 0)) da_nil))) (de_op od_mul (de_lst (da_cons de_int da_nil)) (de_callTy cd_int T.z_int (da_cons (de_isE ht T.z_isinstance T.n_BadWord (T.kit c 1 hc (by decide)) (de_var 0)) da_nil)))) (de_op od_mul (de_lst (da_cons de_int da_nil)) (de_callTy cd_int T.z_int (da_cons (de_isE ht T.z_isinstance T.n_BadBook (T.kit c 2 hc (by decide)) (de_var 0)) da_nil)))) nd)
      (dss_cons (ds_set 1 (de_op od_add (de_op od_add (de_var 1) (de_op od_mul (de_lst (da_cons de_int da_nil)) (de_callTy cd_int T.z_int (da_cons (de_isE ht T.z_isinstance T.n_BadRing (T.kit c 3 hc (by decide)) (de_var 0)) da_nil)))) (de_op od_mul (de_lst (da_cons de_int da_nil)) (de_callTy cd_int T.z_int (da_cons (de_isE ht T.z_isinstance T.n_NoWord (T.kit c 4 hc (by decide)) (de_var 0)) da_nil)))) nd)
      (dss_cons (ds_set 1 (de_op od_add (de_op od_add (de_var 1) (de_op od_mul (de_lst (da_cons de_int da_nil)) (de_callTy cd_int T.z_int (da_cons (de_isE ht T.z_isinstance T.n_NoRing (T.kit c 5 hc (by decide)) (de_var 0)) da_nil)))) (de_op od_mul (de_lst (da_cons de_int da_nil)) (de_callTy cd_int T.z_int (da_cons (de_isE ht T.z_isinstance T.n_NoJoin (T.kit c 6 hc (by decide)) (de_var 0)) da_nil)))) nd)
      (dss_one (ds_ret (de_callTy cd_tup T.z_tuple (da_cons (de_op od_mul (de_var 1) (de_callTy cd_int T.z_int (da_cons (de_isEV ht T.z_isinstance T.z_ValueError (T.kitV c hc) (de_var 0)) da_nil))) da_nil)))))))) (fun a c hc => by
    match c, hc with
    | 0, _ => simp [g__law_classes, lim]
    | 1, _ => simp [g__law_classes, lim]
    | 2, _ => simp [g__law_classes, lim]
    | 3, _ => simp [g__law_classes, lim]
    | 4, _ => simp [g__law_classes, lim]
    | 5, _ => simp [g__law_classes, lim]
    | 6, _ => simp [g__law_classes, lim])
abbrev s__law_pair : Stmt := topS 28
theorem sc__law_pair : FnScope ["_law_cell", "_law_some"] ["_law_cell"] (defScope s__law_pair) := ⟨rfl, rfl, rfl, by decide +kernel, rfl, by decide +kernel, by decide +kernel⟩
theorem ok__law_pair (T : Txt K mg ca) {f : Addr} {fd : FuncData} (Fn : L2.Fun K "_law_pair" "_law_pair" s__law_pair f fd) (hm : mg "_law_pair" = some (.ref f)) (hb : Binds K fd ["_law_cell"] [])  : Cal P w K mg base ca 1 "_law_pair" ["_law_cell"] F__law_pair :=
  cal_of Fn hm hb sc__law_pair g__law_pair (fun cdv A outer s H E hr tk hp =>
    have nd := sc__law_pair.nd
    (dss_cons (ds_set 1 (de_lst (da_cons (de_tup (da_cons de_int (da_cons de_int da_nil))) (da_cons (de_tup (da_cons de_int (da_cons de_int da_nil))) (da_cons (de_tup (da_cons de_int (da_cons de_int da_nil))) (da_cons (de_tup (da_cons de_int (da_cons de_int da_nil))) (da_cons (de_tup (da_cons de_int (da_cons de_int da_nil))) (da_cons (de_tup (da_cons de_int (da_cons de_int da_nil))) (da_cons (de_tup (da_cons de_int (da_cons de_int da_nil))) (da_cons (de_tup (da_cons de_int (da_cons de_int da_nil))) (da_cons (de_tup (da_cons de_int (da_cons de_int da_nil))) (da_cons (de_tup (da_cons de_int (da_cons de_int da_nil))) (da_cons (de_tup (da_cons de_int (da_cons de_int da_nil))) (da_cons (de_tup (da_cons de_int (da_cons de_int da_nil))) da_nil))))))))))))) nd)
      (dss_one (ds_ret (de_ix (de_var 1) (de_op od_mod (de_var 0) de_int)))))) (fun ds r h _ => h)
abbrev s__law_word : Stmt := topS 29
theorem sc__law_word : FnScope ["_law_signs", "_law_size", "_law_number", "_law_found", "_law_step"] ["_law_signs", "_law_size", "_law_number"] (defScope s__law_word) := ⟨rfl, rfl, rfl, by decide +kernel, rfl, by decide +kernel, by decide +kernel⟩
theorem ok__law_word (T : Txt K mg ca) {f : Addr} {fd : FuncData} (Fn : L2.Fun K "_law_word" "_law_word" s__law_word f fd) (hm : mg "_law_word" = some (.ref f)) (hb : Binds K fd ["_law_signs", "_law_size", "_law_number"] [])  : Cal P w K mg base ca 1 "_law_word" ["_law_signs", "_law_size", "_law_number"] F__law_word :=
  cal_of Fn hm hb sc__law_word g__law_word (fun cdv A outer s H E hr tk hp =>
    have nd := sc__law_word.nd
    (dss_cons (ds_set 3 (de_lst da_nil) nd)
      (dss_cons (ds_for 4 (di_range1 T.z_range (da_cons (de_var 1) da_nil)) (dss_cons (ds_set 3 (de_op od_add (de_lst (da_cons (de_op od_mod (de_var 2) (de_var 0)) da_nil)) (de_var 3)) nd)
      (dss_one (ds_set 2 (de_op od_fdiv (de_var 2) (de_var 0)) nd))) hp nd)
      (dss_one (ds_ret (de_var 3)))))) (fun ds r h _ => h)
abbrev s__law_turns : Stmt := topS 30
theorem sc__law_turns : FnScope ["_law_word_here", "_law_found", "_law_place", "_law_turn"] ["_law_word_here"] (defScope s__law_turns) := ⟨rfl, rfl, rfl, by decide +kernel, rfl, by decide +kernel, by decide +kernel⟩
theorem ok__law_turns (T : Txt K mg ca) {f : Addr} {fd : FuncData} (Fn : L2.Fun K "_law_turns" "_law_turns" s__law_turns f fd) (hm : mg "_law_turns" = some (.ref f)) (hb : Binds K fd ["_law_word_here"] [])  : Cal P w K mg base ca 1 "_law_turns" ["_law_word_here"] F__law_turns :=
  cal_of Fn hm hb sc__law_turns g__law_turns (fun cdv A outer s H E hr tk hp =>
    have nd := sc__law_turns.nd
    (dss_cons (ds_set 1 (de_lst da_nil) nd)
      (dss_cons (ds_for 2 (di_range1 T.z_range (da_cons (de_callB cd_len T.z_len (da_cons (de_var 0) da_nil)) da_nil)) (dss_cons (ds_set 3 (de_op od_add (de_sl (de_var 0) (do_some (de_var 2)) do_none) (de_sl (de_var 0) do_none (do_some (de_var 2)))) nd)
      (dss_one (ds_if (dt_cmp (od_notin (hu65 hr)) (de_var 3) (de_var 1)) (dss_one (ds_rel 3 (ds_mut 1 md_append PySem.F.plainAttrs_list PySem.F.slot_list_append PySem.F.type_list_append (da_cons (de_var 3) da_nil)))) dss_nil))) hp nd)
      (dss_one (ds_ret (de_var 1)))))) (fun ds r h _ => h)
abbrev s__law_book : Stmt := topS 31
theorem sc__law_book : FnScope ["_law_script", "_law_first", "_law_signs", "_law_size", "_law_many", "_law_cell", "_law_book_here", "_law_k", "_law_number", "_law_word_here", "_law_more", "_law_at", "_law_turn"] ["_law_script", "_law_first", "_law_signs", "_law_size", "_law_many"] (defScope s__law_book) := ⟨rfl, rfl, rfl, by decide +kernel, rfl, by decide +kernel, by decide +kernel⟩
theorem ok__law_book (T : Txt K mg ca) {f : Addr} {fd : FuncData} (Fn : L2.Fun K "_law_book" "_law_book" s__law_book f fd) (hm : mg "_law_book" = some (.ref f)) (hb : Binds K fd ["_law_script", "_law_first", "_law_signs", "_law_size", "_law_many"] []) (c__law_word : Cal P w K mg base ca 1 "_law_word" ["_law_signs", "_law_size", "_law_number"] F__law_word) (c__law_cell_at : Cal P w K mg base ca 1 "_law_cell_at" ["_law_script", "_law_k"] F__law_cell_at) (c__law_turns : Cal P w K mg base ca 1 "_law_turns" ["_law_word_here"] F__law_turns) : Cal P w K mg base ca 2 "_law_book" ["_law_script", "_law_first", "_law_signs", "_law_size", "_law_many"] F__law_book :=
  cal_of Fn hm hb sc__law_book g__law_book (fun cdv A outer s H E hr tk hp =>
    have nd := sc__law_book.nd
    (dss_cons (ds_set 5 (de_fn c__law_cell_at hr (passAt tk) (da_cons (de_var 0) (da_cons (de_var 1) da_nil)) (len_cons (len_cons len_nil))) nd)
      (dss_cons (ds_set 6 (de_lst da_nil) nd)
      (dss_cons (ds_for 7 (di_range1 T.z_range (da_cons (de_op od_add de_int (de_op od_mod (de_var 5) (de_var 4))) da_nil)) (dss_cons (ds_set 8 (de_op od_mod (de_op od_mul (de_op od_add (de_fn c__law_cell_at hr (passAt tk) (da_cons (de_var 0) (da_cons (de_op od_add (de_op od_add (de_var 1) de_int) (de_var 7)) da_nil)) (len_cons (len_cons len_nil))) (de_op od_mul de_int (de_var 7))) de_int) de_int) nd)
      (dss_cons (ds_set 9 (de_fn c__law_word hr (passAt tk) (da_cons (de_var 2) (da_cons (de_var 3) (da_cons (de_var 8) da_nil))) (len_cons (len_cons (len_cons len_nil)))) nd)
      (dss_cons (ds_if (dt_w (dw_and (dt_cmp (od_eq hr.units) (de_op od_mod (de_op od_fdiv (de_var 8) de_int) de_int) de_int) (dw_and1 (dt_cmp (od_ne hr.units) (de_var 6) (de_lst da_nil))))) (dss_one (ds_set 9 (de_op od_add (de_sl (de_ix (de_var 6) (de_op od_mod (de_op od_fdiv (de_var 8) de_int) (de_callB cd_len T.z_len (da_cons (de_var 6) da_nil)))) (do_some de_int) do_none) (de_lst (da_cons (de_op od_mod (de_var 8) (de_var 2)) da_nil))) nd)) dss_nil)
      (dss_one (ds_rel 9 (ds_set 6 (de_op od_add (de_var 6) (de_lc 12 nd (di_list (de_fn c__law_turns hr (passAt tk) (da_cons (de_var 9) da_nil) (len_cons len_nil))) (show blkC ["_law_script", "_law_first", "_law_signs", "_law_size", "_law_many", "_law_cell", "_law_book_here", "_law_k", "_law_number", "_law_word_here", "_law_more", "_law_at", "_law_turn"] (defScope s__law_book) _ _ = true from by decide +kernel) (fun _ _ _ _ _ => pg_name (i := 12) nd rfl (Or.inl rfl)) (fun _ _ _ _ _ => (dts_one (dt_cmp (od_notin (hu65 hr)) (de_var 12) (de_var 6)))) (fun _ _ _ _ _ => (de_var 12)))) nd)))))) hp nd)
      (dss_cons (ds_set 10 (de_fn c__law_cell_at hr (passAt tk) (da_cons (de_var 0) (da_cons (de_op od_add (de_var 1) de_int) da_nil)) (len_cons (len_cons len_nil))) nd)
      (dss_cons (ds_if (dt_w (dw_and (dt_cmp (od_eq hr.units) (de_op od_mod (de_var 10) de_int) de_int) (dw_and1 (dt_cmp od_gt (de_callB cd_len T.z_len (da_cons (de_var 6) da_nil)) de_int)))) (dss_one (ds_mut 6 md_popAt PySem.F.plainAttrs_list PySem.F.slot_list_pop PySem.F.type_list_pop (da_cons (de_op od_mod (de_op od_fdiv (de_var 10) de_int) (de_callB cd_len T.z_len (da_cons (de_var 6) da_nil))) da_nil))) dss_nil)
      (dss_cons (ds_set 9 (de_fn c__law_word hr (passAt tk) (da_cons (de_var 2) (da_cons (de_var 3) (da_cons (de_op od_mod (de_op od_mul (de_op od_fdiv (de_var 10) de_int) de_int) de_int) da_nil))) (len_cons (len_cons (len_cons len_nil)))) nd)
      (dss_cons (ds_if (dt_w (dw_and (dt_cmp (od_eq hr.units) (de_op od_mod (de_var 10) de_int) de_int) (dw_and1 (dt_cmp (od_notin (hu65 hr)) (de_var 9) (de_var 6))))) (dss_one (ds_rel 9 (ds_mut 6 md_append PySem.F.plainAttrs_list PySem.F.slot_list_append PySem.F.type_list_append (da_cons (de_var 9) da_nil)))) dss_nil)
      (dss_cons (ds_set 11 (de_op od_mod (de_op od_fdiv (de_var 5) (de_var 4)) (de_callB cd_len T.z_len (da_cons (de_var 6) da_nil))) nd)
      (dss_cons (ds_set 6 (de_op od_add (de_sl (de_var 6) (do_some (de_var 11)) do_none) (de_sl (de_var 6) do_none (do_some (de_var 11)))) nd)
      (dss_cons (ds_if (dt_cmp (od_eq hr.units) (de_op od_mod (de_op od_fdiv (de_var 10) de_int) de_int) de_int) (dss_one (ds_set 6 (de_callB (cd_sorted hr.units) T.z_sorted (da_cons (de_var 6) da_nil)) nd)) dss_nil)
      (dss_one (ds_ret (de_var 6)))))))))))))) (fun ds r h _ => h)
abbrev s__law_asked : Stmt := topS 32
theorem sc__law_asked : FnScope ["_law_way", "_law_signs", "_law_size", "_law_book_here", "_law_e"] ["_law_way", "_law_signs", "_law_size", "_law_book_here"] (defScope s__law_asked) := ⟨rfl, rfl, rfl, by decide +kernel, rfl, by decide +kernel, by decide +kernel⟩
theorem ok__law_asked (T : Txt K mg ca) {f : Addr} {fd : FuncData} (Fn : L2.Fun K "_law_asked" "_law_asked" s__law_asked f fd) (hm : mg "_law_asked" = some (.ref f)) (hb : Binds K fd ["_law_way", "_law_signs", "_law_size", "_law_book_here"] []) (c_lack : Cal P w K mg base ca 4 "lack" ["signs", "size", "book"] F_lack) (c_joints : Cal P w K mg base ca 4 "joints" ["signs", "size", "book"] F_joints) (c__law_classes : CalP P w K mg base ca 1 7 "_law_classes") : Cal P w K mg base ca 5 "_law_asked" ["_law_way", "_law_signs", "_law_size", "_law_book_here"] F__law_asked :=
  cal_ofT Fn hm hb sc__law_asked g__law_asked (fun cdv A outer s H E hr tk hp =>
    have nd := sc__law_asked.nd
    (dss_oneT (ds_try (i := 4) nd tk T.n_RingError T.exm (fun W' pn xe tk =>
      (dss_cons (ds_if (dt_cmp (od_eq hr.units) (de_var 0) de_int) (dss_one (ds_retTr (dtr_fn c_joints hr (passAt tk) (da_cons (de_var 1) (da_cons (de_var 2) (da_cons (de_var 3) da_nil))) (len_cons (len_cons (len_cons len_nil)))))) dss_nil)
      (dss_one (ds_retTr (dtr_fn c_lack hr (passAt tk) (da_cons (de_var 1) (da_cons (de_var 2) (da_cons (de_var 3) da_nil))) (len_cons (len_cons (len_cons len_nil)))))))) (fun a oe c pn hc hz hf => (dss_one (ds_ret (de_fnP c__law_classes (roomP_of hr _) hc List.mem_cons_self hz hf (da_cons (de_var 4) da_nil) (len_cons len_nil))))) (fun a c hc => show (fRet (fFn (Fcls a c) (fCons (fVar 4) (fun _ => .ok [])))) (catch0 5 4 a) = _ from by simp) (fun c _ => ⟨_, rfl⟩)))) (fun ds r h _ => h)
abbrev s__law_joints : Stmt := topS 33
theorem sc__law_joints : FnScope ["_law_book_here", "_law_some", "_law_word_here", "_law_k"] ["_law_book_here"] (defScope s__law_joints) := ⟨rfl, rfl, rfl, by decide +kernel, rfl, by decide +kernel, by decide +kernel⟩
theorem ok__law_joints (T : Txt K mg ca) {f : Addr} {fd : FuncData} (Fn : L2.Fun K "_law_joints" "_law_joints" s__law_joints f fd) (hm : mg "_law_joints" = some (.ref f)) (hb : Binds K fd ["_law_book_here"] [])  : Cal P w K mg base ca 1 "_law_joints" ["_law_book_here"] F__law_joints :=
  cal_of Fn hm hb sc__law_joints g__law_joints (fun cdv A outer s H E hr tk hp =>
    have nd := sc__law_joints.nd
    (dss_cons (ds_set 1 (de_op od_add (de_lc 2 nd (di_list (de_var 0)) (show blkC ["_law_book_here", "_law_some", "_law_word_here", "_law_k"] (defScope s__law_joints) _ _ = true from by decide +kernel) (fun _ _ _ _ _ => pg_name (i := 2) nd rfl (Or.inl rfl)) (fun _ _ _ _ _ => dts_nil) (fun _ _ _ _ _ => (de_sl (de_var 2) do_none (do_some (de_neg de_int))))) (de_lc 2 nd (di_list (de_var 0)) (show blkC ["_law_book_here", "_law_some", "_law_word_here", "_law_k"] (defScope s__law_joints) _ _ = true from by decide +kernel) (fun _ _ _ _ _ => pg_name (i := 2) nd rfl (Or.inl rfl)) (fun _ _ _ _ _ => dts_nil) (fun _ _ _ _ _ => (de_sl (de_var 2) (do_some de_int) do_none)))) nd)
      (dss_one (ds_ret (de_callB (cd_sorted hr.units) T.z_sorted (da_cons (de_lc 3 nd (di_range1 T.z_range (da_cons (de_callB cd_len T.z_len (da_cons (de_var 1) da_nil)) da_nil)) (show blkC ["_law_book_here", "_law_some", "_law_word_here", "_law_k"] (defScope s__law_joints) _ _ = true from by decide +kernel) (fun _ _ _ _ _ => pg_name (i := 3) nd rfl (Or.inl rfl)) (fun _ _ _ _ _ => (dts_one (dt_cmp (od_notin (hu65 hr)) (de_ix (de_var 1) (de_var 3)) (de_sl (de_var 1) do_none (do_some (de_var 3)))))) (fun _ _ _ _ _ => (de_ix (de_var 1) (de_var 3)))) da_nil)))))) (fun ds r h _ => h)
abbrev s__law_balance : Stmt := topS 34
theorem sc__law_balance : FnScope ["_law_book_here", "_law_joint", "_law_word_here"] ["_law_book_here", "_law_joint"] (defScope s__law_balance) := ⟨rfl, rfl, rfl, by decide +kernel, rfl, by decide +kernel, by decide +kernel⟩
theorem ok__law_balance (T : Txt K mg ca) {f : Addr} {fd : FuncData} (Fn : L2.Fun K "_law_balance" "_law_balance" s__law_balance f fd) (hm : mg "_law_balance" = some (.ref f)) (hb : Binds K fd ["_law_book_here", "_law_joint"] [])  : Cal P w K mg base ca 1 "_law_balance" ["_law_book_here", "_law_joint"] F__law_balance :=
  cal_of Fn hm hb sc__law_balance g__law_balance (fun cdv A outer s H E hr tk hp =>
    have nd := sc__law_balance.nd
    (dss_one (ds_ret (de_op od_sub (de_callB cd_len T.z_len (da_cons (de_lc 2 nd (di_list (de_var 0)) (show blkC ["_law_book_here", "_law_joint", "_law_word_here"] (defScope s__law_balance) _ _ = true from by decide +kernel) (fun _ _ _ _ _ => pg_name (i := 2) nd rfl (Or.inl rfl)) (fun _ _ _ _ _ => (dts_one (dt_cmp (od_eq hr.units) (de_sl (de_var 2) do_none (do_some (de_neg de_int))) (de_var 1)))) (fun _ _ _ _ _ => (de_var 2))) da_nil)) (de_callB cd_len T.z_len (da_cons (de_lc 2 nd (di_list (de_var 0)) (show blkC ["_law_book_here", "_law_joint", "_law_word_here"] (defScope s__law_balance) _ _ = true from by decide +kernel) (fun _ _ _ _ _ => pg_name (i := 2) nd rfl (Or.inl rfl)) (fun _ _ _ _ _ => (dts_one (dt_cmp (od_eq hr.units) (de_sl (de_var 2) (do_some de_int) do_none) (de_var 1)))) (fun _ _ _ _ _ => (de_var 2))) da_nil)))))) (fun ds r h _ => h)
abbrev s__law_is_apart : Stmt := topS 35
theorem sc__law_is_apart : FnScope ["_law_book_here", "_law_found", "_law_k", "_law_ends", "_law_word_here", "_law_joint"] ["_law_book_here", "_law_found"] (defScope s__law_is_apart) := ⟨rfl, rfl, rfl, by decide +kernel, rfl, by decide +kernel, by decide +kernel⟩
theorem ok__law_is_apart (T : Txt K mg ca) {f : Addr} {fd : FuncData} (Fn : L2.Fun K "_law_is_apart" "_law_is_apart" s__law_is_apart f fd) (hm : mg "_law_is_apart" = some (.ref f)) (hb : Binds K fd ["_law_book_here", "_law_found"] []) (c__law_joints : Cal P w K mg base ca 1 "_law_joints" ["_law_book_here"] F__law_joints) : Cal P w K mg base ca 2 "_law_is_apart" ["_law_book_here", "_law_found"] F__law_is_apart :=
  cal_of Fn hm hb sc__law_is_apart g__law_is_apart (fun cdv A outer s H E hr tk hp =>
    have nd := sc__law_is_apart.nd
    (dss_cons (ds_if (dt_w (dw_or (dt_not (dt_val (de_isi .list T.z_isinstance T.z_list (de_var 1)))) (dw_or (dt_cmp (od_ne hr.units) (de_var 1) (de_callB (cd_sorted hr.units) T.z_sorted (da_cons (de_var 1) da_nil))) (dw_or1 (dt_cmp (od_notin (hu65 hr)) (de_sl (de_ix (de_callB (cd_sorted hr.units) T.z_sorted (da_cons (de_var 0) da_nil)) de_int) do_none (do_some (de_neg de_int))) (de_var 1)))))) (dss_one (ds_ret de_bl)) dss_nil)
      (dss_cons (ds_for 2 (di_range1 T.z_range (da_cons (de_callB cd_len T.z_len (da_cons (de_var 1) da_nil)) da_nil)) (dss_one (ds_if (dt_w (dw_or (dt_not (dt_val (de_isi .list T.z_isinstance T.z_list (de_ix (de_var 1) (de_var 2))))) (dw_or (dt_cmp (od_in (hu65 hr)) (de_ix (de_var 1) (de_var 2)) (de_sl (de_var 1) do_none (do_some (de_var 2)))) (dw_or1 (dt_cmp (od_notin (hu65 hr)) (de_ix (de_var 1) (de_var 2)) (de_fn c__law_joints hr (passAt tk) (da_cons (de_var 0) da_nil) (len_cons len_nil))))))) (dss_one (ds_ret de_bl)) dss_nil)) hp nd)
      (dss_cons (ds_setLc 3 4 nd (di_list (de_var 0)) (show blkC ["_law_book_here", "_law_found", "_law_k", "_law_ends", "_law_word_here", "_law_joint"] (defScope s__law_is_apart) _ _ = true from by decide +kernel) (fun _ _ _ _ _ => pg_name (i := 4) nd rfl (Or.inl rfl)) (fun _ _ _ _ _ => (dts_one (dt_cmp (od_in (hu65 hr)) (de_sl (de_var 4) do_none (do_some (de_neg de_int))) (de_var 1)))) (fun _ _ _ _ _ => (de_sl (de_var 4) (do_some de_int) do_none)) (sw_true rfl rfl rfl (by decide +kernel)))
      (dss_cons (ds_if (dt_cmp (od_ne hr.units) (de_lc 5 nd (di_list (de_var 3)) (show blkC ["_law_book_here", "_law_found", "_law_k", "_law_ends", "_law_word_here", "_law_joint"] (defScope s__law_is_apart) _ _ = true from by decide +kernel) (fun _ _ _ _ _ => pg_name (i := 5) nd rfl (Or.inl rfl)) (fun _ _ _ _ _ => (dts_one (dt_cmp (od_notin (hu65 hr)) (de_var 5) (de_var 1)))) (fun _ _ _ _ _ => (de_var 5))) (de_lst da_nil)) (dss_one (ds_ret de_bl)) dss_nil)
      (dss_one (ds_ret (de_cmp (od_ne hr.units) (de_lc 4 nd (di_list (de_var 0)) (show blkC ["_law_book_here", "_law_found", "_law_k", "_law_ends", "_law_word_here", "_law_joint"] (defScope s__law_is_apart) _ _ = true from by decide +kernel) (fun _ _ _ _ _ => pg_name (i := 4) nd rfl (Or.inl rfl)) (fun _ _ _ _ _ => (dts_one (dt_cmp (od_notin (hu65 hr)) (de_sl (de_var 4) do_none (do_some (de_neg de_int))) (de_var 1)))) (fun _ _ _ _ _ => (de_var 4))) (de_lst da_nil))))))))) (fun ds r h _ => h)
abbrev s__law_spread : Stmt := topS 36
theorem sc__law_spread : FnScope ["_law_book_here", "_law_found", "_law_at", "_law_word_here"] ["_law_book_here"] (defScope s__law_spread) := ⟨rfl, rfl, rfl, by decide +kernel, rfl, by decide +kernel, by decide +kernel⟩
theorem ok__law_spread (T : Txt K mg ca) {f : Addr} {fd : FuncData} (Fn : L2.Fun K "_law_spread" "_law_spread" s__law_spread f fd) (hm : mg "_law_spread" = some (.ref f)) (hb : Binds K fd ["_law_book_here"] [])  : Cal P w K mg base ca 1 "_law_spread" ["_law_book_here"] F__law_spread :=
  cal_of Fn hm hb sc__law_spread g__law_spread (fun cdv A outer s H E hr tk hp =>
    have nd := sc__law_spread.nd
    (dss_cons (ds_set 1 (de_lst (da_cons (de_sl (de_ix (de_callB (cd_sorted hr.units) T.z_sorted (da_cons (de_var 0) da_nil)) de_int) do_none (do_some (de_neg de_int))) da_nil)) nd)
      (dss_cons (ds_set 2 de_int nd)
      (dss_cons (ds_while (dt_cmp od_lt (de_var 2) (de_callB cd_len T.z_len (da_cons (de_var 1) da_nil))) (dss_cons (ds_for 3 (di_list (de_var 0)) (dss_one (ds_if (dt_w (dw_and (dt_cmp (od_eq hr.units) (de_sl (de_var 3) do_none (do_some (de_neg de_int))) (de_ix (de_var 1) (de_var 2))) (dw_and1 (dt_cmp (od_notin (hu65 hr)) (de_sl (de_var 3) (do_some de_int) do_none) (de_var 1))))) (dss_one (ds_mut 1 md_append PySem.F.plainAttrs_list PySem.F.slot_list_append PySem.F.type_list_append (da_cons (de_sl (de_var 3) (do_some de_int) do_none) da_nil))) dss_nil)) hp nd)
      (dss_one (ds_set 2 (de_op od_add (de_var 2) de_int) nd))) hp)
      (dss_one (ds_ret (de_var 1))))))) (fun ds r h _ => h)
abbrev s__law_right : Stmt := topS 37
theorem sc__law_right : FnScope ["_law_book_here", "_law_told", "_law_uneven", "_law_come", "_law_joint"] ["_law_book_here", "_law_told"] (defScope s__law_right) := ⟨rfl, rfl, rfl, by decide +kernel, rfl, by decide +kernel, by decide +kernel⟩
theorem ok__law_right (T : Txt K mg ca) {f : Addr} {fd : FuncData} (Fn : L2.Fun K "_law_right" "_law_right" s__law_right f fd) (hm : mg "_law_right" = some (.ref f)) (hb : Binds K fd ["_law_book_here", "_law_told"] []) (c__law_is_apart : Cal P w K mg base ca 2 "_law_is_apart" ["_law_book_here", "_law_found"] F__law_is_apart) (c__law_joints : Cal P w K mg base ca 1 "_law_joints" ["_law_book_here"] F__law_joints) (c__law_spread : Cal P w K mg base ca 1 "_law_spread" ["_law_book_here"] F__law_spread) (c__law_balance : Cal P w K mg base ca 1 "_law_balance" ["_law_book_here", "_law_joint"] F__law_balance) : Cal P w K mg base ca 3 "_law_right" ["_law_book_here", "_law_told"] F__law_right :=
  cal_of Fn hm hb sc__law_right g__law_right (fun cdv A outer s H E hr tk hp =>
    have nd := sc__law_right.nd
    (dss_cons (ds_setLc 2 4 nd (di_list (de_fn c__law_joints hr (passAt tk) (da_cons (de_var 0) da_nil) (len_cons len_nil))) (show blkC ["_law_book_here", "_law_told", "_law_uneven", "_law_come", "_law_joint"] (defScope s__law_right) _ _ = true from by decide +kernel) (fun _ _ _ _ _ => pg_name (i := 4) nd rfl (Or.inl rfl)) (fun _ _ _ _ _ => (dts_one (dt_cmp (od_ne hr.units) (de_fn c__law_balance hr passW0 (da_cons (de_var 0) (da_cons (de_var 4) da_nil)) (len_cons (len_cons len_nil))) de_int))) (fun _ _ _ _ _ => (de_var 4)) (sw_true rfl rfl rfl (by decide +kernel)))
      (dss_cons (ds_if (dt_cmp (od_ne hr.units) (de_var 2) (de_lst da_nil)) (dss_one (ds_ret (de_and (de_isi .tuple T.z_isinstance T.z_tuple (de_var 1)) (de_one (de_cmp (od_eq hr.units) (de_var 1) (de_tup (da_cons de_str (da_cons (de_ix (de_var 2) de_int) da_nil)))))))) dss_nil)
      (dss_cons (ds_set 3 (de_fn c__law_spread hr (passAt tk) (da_cons (de_var 0) da_nil) (len_cons len_nil)) nd)
      (dss_cons (ds_if (dt_cmp (od_eq hr.units) (de_callB cd_len T.z_len (da_cons (de_var 3) da_nil)) (de_callB cd_len T.z_len (da_cons (de_fn c__law_joints hr (passAt tk) (da_cons (de_var 0) da_nil) (len_cons len_nil)) da_nil))) (dss_one (ds_ret (de_cmp od_is (de_var 1) de_non))) dss_nil)
      (dss_cons (ds_if (dt_w (dw_or (dt_not (dt_val (de_isi .tuple T.z_isinstance T.z_tuple (de_var 1)))) (dw_or (dt_cmp (od_ne hr.units) (de_callB cd_len T.z_len (da_cons (de_var 1) da_nil)) de_int) (dw_or (dt_cmp (od_ne hr.units) (de_ix (de_var 1) de_int) de_str) (dw_or1 (dt_not (dt_val (de_fn c__law_is_apart hr (passAt tk) (da_cons (de_var 0) (da_cons (de_ix (de_var 1) de_int) da_nil)) (len_cons (len_cons len_nil)))))))))) (dss_one (ds_ret de_bl)) dss_nil)
      (dss_one (ds_ret (de_cmp (od_eq hr.units) (de_lc 4 nd (di_list (de_ix (de_var 1) de_int)) (show blkC ["_law_book_here", "_law_told", "_law_uneven", "_law_come", "_law_joint"] (defScope s__law_right) _ _ = true from by decide +kernel) (fun _ _ _ _ _ => pg_name (i := 4) nd rfl (Or.inl rfl)) (fun _ _ _ _ _ => (dts_one (dt_cmp (od_notin (hu65 hr)) (de_var 4) (de_var 3)))) (fun _ _ _ _ _ => (de_var 4))) (de_lst da_nil)))))))))) (fun ds r h _ => h)
abbrev s_law : Stmt := topS 38
theorem sc_law : FnScope ["_law_script", "_law_signs", "_law_size", "_law_book_here", "_law_handed", "_law_row", "_law_told", "_law_copy", "_law_word_here", "_law_again", "_law_joint"] ["_law_script"] (defScope s_law) := ⟨rfl, rfl, rfl, by decide +kernel, rfl, by decide +kernel, by decide +kernel⟩
theorem ok_law (T : Txt K mg ca) {f : Addr} {fd : FuncData} (Fn : L2.Fun K "law" "law" s_law f fd) (c__law_asked : Cal P w K mg base ca 5 "_law_asked" ["_law_way", "_law_signs", "_law_size", "_law_book_here"] F__law_asked) (c__law_right : Cal P w K mg base ca 3 "_law_right" ["_law_book_here", "_law_told"] F__law_right) (c__law_joints : Cal P w K mg base ca 1 "_law_joints" ["_law_book_here"] F__law_joints) (c__law_book : Cal P w K mg base ca 2 "_law_book" ["_law_script", "_law_first", "_law_signs", "_law_size", "_law_many"] F__law_book) (c__law_cell_at : Cal P w K mg base ca 1 "_law_cell_at" ["_law_script", "_law_k"] F__law_cell_at) (c__law_pair : Cal P w K mg base ca 1 "_law_pair" ["_law_cell"] F__law_pair) : FnOk P w K mg base (L2.CX P w) 6 f fd ["_law_script"] (spF K ca F_law 1) :=
  fnok_of (ps := ["_law_script"]) Fn sc_law g_law (fun cdv A outer s H E hr tk hp =>
    have nd := sc_law.nd
    (dss_cons (ds_unp [1, 2] (de_fn c__law_pair hr (passAt tk) (da_cons (de_fn c__law_cell_at hr (passAt tk) (da_cons (de_var 0) (da_cons de_int da_nil)) (len_cons (len_cons len_nil))) da_nil) (len_cons len_nil)) (pgs_cons (pg_name (i := 1) nd rfl (Or.inl rfl)) (pgs_cons (pg_name (i := 2) nd rfl (Or.inl rfl)) pgs_nil)))
      (dss_cons (ds_set 3 (de_fn c__law_book hr (passAt tk) (da_cons (de_var 0) (da_cons de_int (da_cons (de_var 1) (da_cons (de_var 2) (da_cons de_int da_nil))))) (len_cons (len_cons (len_cons (len_cons (len_cons len_nil)))))) nd)
      (dss_setTrLc 4 8 nd (di_list (de_var 3)) (show blkC ["_law_script", "_law_signs", "_law_size", "_law_book_here", "_law_handed", "_law_row", "_law_told", "_law_copy", "_law_word_here", "_law_again", "_law_joint"] (defScope s_law) _ _ = true from by decide +kernel) (fun _ _ _ _ _ => pg_name (i := 8) nd rfl (Or.inl rfl)) (fun _ _ _ _ _ => dts_nil) (fun _ _ _ _ _ => (dtr_of (de_callTy cd_list T.z_list (da_cons (de_var 8) da_nil)))) (sw_true rfl rfl rfl (by decide +kernel))
      (dss_setTr 5 (dtr_fn c__law_asked hr (passAt tk) (da_cons de_int (da_cons (de_var 1) (da_cons (de_var 2) (da_cons (de_var 4) da_nil)))) (len_cons (len_cons (len_cons (len_cons len_nil)))))
      (dss_setTr 6 (dtr_fn c__law_asked hr (passAt tk) (da_cons de_int (da_cons (de_var 1) (da_cons (de_var 2) (da_cons (de_var 4) da_nil)))) (len_cons (len_cons (len_cons (len_cons len_nil)))))
      (dss_cons (ds_rel 3 (ds_if (dt_wake (dt_w (dw_or (dt_not (dt_val (de_isi .list T.z_isinstance T.z_list (de_var 5)))) (dw_or (dt_cmp (od_ne hr.units) (de_var 5) (de_fn c__law_joints hr (passAt tk) (da_cons (de_var 3) da_nil) (len_cons len_nil))) (dw_or (dt_not (dt_val (de_fn c__law_right hr (passAt tk) (da_cons (de_var 3) (da_cons (de_var 6) da_nil)) (len_cons (len_cons len_nil))))) (dw_or1 (dt_cmp (od_ne hr.units) (de_var 4) (de_var 3)))))))) (dss_one (ds_ret de_bl)) dss_nil))
      (dss_setTrLc 7 10 nd (di_list (de_var 5)) (show blkC ["_law_script", "_law_signs", "_law_size", "_law_book_here", "_law_handed", "_law_row", "_law_told", "_law_copy", "_law_word_here", "_law_again", "_law_joint"] (defScope s_law) _ _ = true from by decide +kernel) (fun _ _ _ _ _ => pg_name (i := 10) nd rfl (Or.inl rfl)) (fun _ _ _ _ _ => dts_nil) (fun _ _ _ _ _ => (dtr_of (de_callTy cd_list T.z_list (da_cons (de_var 10) da_nil)))) (sw_true rfl rfl rfl (by decide +kernel))
      (dss_cons (ds_appForT 4 8 0 PySem.F.plainAttrs_list PySem.F.slot_list_append PySem.F.type_list_append hp nd)
      (dss_cons (ds_appP1 5 0 de_int PySem.F.plainAttrs_list PySem.F.slot_list_append PySem.F.type_list_append)
      (dss_cons (ds_appP0 5 (de_lst da_nil) PySem.F.plainAttrs_list PySem.F.slot_list_append PySem.F.type_list_append)
      (dss_cons (ds_if (dt_wake (dt_cmp od_isnot (de_var 6) de_non)) (dss_one (ds_appP1 6 1 de_int PySem.F.plainAttrs_list PySem.F.slot_list_append PySem.F.type_list_append)) dss_nil)
      (dss_cons (ds_set 9 (de_fn c__law_asked hr (passAt tk) (da_cons de_int (da_cons (de_var 1) (da_cons (de_var 2) (da_cons (de_lc 8 nd (di_list (de_var 3)) (show blkC ["_law_script", "_law_signs", "_law_size", "_law_book_here", "_law_handed", "_law_row", "_law_told", "_law_copy", "_law_word_here", "_law_again", "_law_joint"] (defScope s_law) _ _ = true from by decide +kernel) (fun _ _ _ _ _ => pg_name (i := 8) nd rfl (Or.inl rfl)) (fun _ _ _ _ _ => dts_nil) (fun _ _ _ _ _ => (de_callTy cd_list T.z_list (da_cons (de_var 8) da_nil)))) da_nil)))) (len_cons (len_cons (len_cons (len_cons len_nil))))) nd)
      (dss_cons (ds_rel 9 (ds_rel 3 (ds_if (dt_not (dt_val (de_fn c__law_right hr (passAt tk) (da_cons (de_var 3) (da_cons (de_var 9) da_nil)) (len_cons (len_cons len_nil))))) (dss_one (ds_ret de_bl)) dss_nil)))
      (dss_cons (ds_if (dt_wake (dt_cmp (od_ne hr.units) (de_fn c__law_asked hr (passAt tk) (da_cons de_int (da_cons (de_var 1) (da_cons (de_var 2) (da_cons (de_lc 8 nd (di_list (de_var 3)) (show blkC ["_law_script", "_law_signs", "_law_size", "_law_book_here", "_law_handed", "_law_row", "_law_told", "_law_copy", "_law_word_here", "_law_again", "_law_joint"] (defScope s_law) _ _ = true from by decide +kernel) (fun _ _ _ _ _ => pg_name (i := 8) nd rfl (Or.inl rfl)) (fun _ _ _ _ _ => dts_nil) (fun _ _ _ _ _ => (de_callTy cd_list T.z_list (da_cons (de_var 8) da_nil)))) da_nil)))) (len_cons (len_cons (len_cons (len_cons len_nil))))) (de_var 7))) (dss_one (ds_ret de_bl)) dss_nil)
      (dss_one (ds_ret (de_wake (de_and (de_cmp (od_eq hr.units) (de_callB cd_len T.z_len (da_cons (de_var 5) da_nil)) (de_op od_add (de_callB cd_len T.z_len (da_cons (de_var 7) da_nil)) de_int)) (de_one (de_or (de_cmp od_is (de_var 6) de_non) (de_one (de_and (de_cmp (od_eq hr.units) (de_ix (de_ix (de_var 6) de_int) (de_neg de_int)) de_int) (de_one (de_cmp (od_eq hr.units) (de_callB cd_len T.z_len (da_cons (de_ix (de_var 6) de_int) da_nil)) (de_op od_add (de_callB cd_len T.z_len (da_cons (de_ix (de_var 9) de_int) da_nil)) de_int)))))))))))))))))))) nd) nd))))) (fun ds r h _ => h)
end
end My
namespace My
open PySem PySem.Spec L2 DL
theorem all_mk {w : World} {K : PySem.W.Frag} {h : Heap} {mg : Str → Option Value} {fa C0 C1 C2 C3 C4 C5 C6 C7 f_is_among f_how_many f_need_size f_is_word f_need_book f_joints_of f_joints f_uneven_at f_come_to f_lack_of f_lack f__law_cell_at f__law_classes f__law_pair f__law_word f__law_turns f__law_book f__law_asked f__law_joints f__law_balance f__law_is_apart f__law_spread f__law_right f_law : Addr} (X : K.In h) (G : h.Ns mainGlobals mg) (hfa : mg "law" = some (.ref fa))
    {t_MOST_SIGNS t_MOST_SIZE t_MOST_WORDS : Tok}
    {od_is_among an_is_among od_how_many an_how_many od_need_size an_need_size od_is_word an_is_word od_need_book an_need_book od_joints_of an_joints_of od_joints an_joints od_uneven_at an_uneven_at od_come_to an_come_to od_lack_of an_lack_of od_lack an_lack od__law_cell_at an__law_cell_at od__law_classes an__law_classes od__law_pair an__law_pair od__law_word an__law_word od__law_turns an__law_turns od__law_book an__law_book od__law_asked an__law_asked od__law_joints an__law_joints od__law_balance an__law_balance od__law_is_apart an__law_is_apart od__law_spread an__law_spread od__law_right an__law_right od_law an_law : Option Addr} {sl_is_among sl_how_many sl_need_size sl_is_word sl_need_book sl_joints_of sl_joints sl_uneven_at sl_come_to sl_lack_of sl_lack sl__law_cell_at sl__law_classes sl__law_pair sl__law_word sl__law_turns sl__law_book sl__law_asked sl__law_joints sl__law_balance sl__law_is_apart sl__law_spread sl__law_right sl_law : Array (Option Value)} {oc_is_among kV_is_among dc_is_among pm_is_among cd_is_among ct_is_among oc_how_many kV_how_many dc_how_many pm_how_many cd_how_many ct_how_many oc_need_size kV_need_size dc_need_size pm_need_size cd_need_size ct_need_size oc_is_word kV_is_word dc_is_word pm_is_word cd_is_word ct_is_word oc_need_book kV_need_book dc_need_book pm_need_book cd_need_book ct_need_book oc_joints_of kV_joints_of dc_joints_of pm_joints_of cd_joints_of ct_joints_of oc_joints kV_joints dc_joints pm_joints cd_joints ct_joints oc_uneven_at kV_uneven_at dc_uneven_at pm_uneven_at cd_uneven_at ct_uneven_at oc_come_to kV_come_to dc_come_to pm_come_to cd_come_to ct_come_to oc_lack_of kV_lack_of dc_lack_of pm_lack_of cd_lack_of ct_lack_of oc_lack kV_lack dc_lack pm_lack cd_lack ct_lack oc__law_cell_at kV__law_cell_at dc__law_cell_at pm__law_cell_at cd__law_cell_at ct__law_cell_at oc__law_classes kV__law_classes dc__law_classes pm__law_classes cd__law_classes ct__law_classes oc__law_pair kV__law_pair dc__law_pair pm__law_pair cd__law_pair ct__law_pair oc__law_word kV__law_word dc__law_word pm__law_word cd__law_word ct__law_word oc__law_turns kV__law_turns dc__law_turns pm__law_turns cd__law_turns ct__law_turns oc__law_book kV__law_book dc__law_book pm__law_book cd__law_book ct__law_book oc__law_asked kV__law_asked dc__law_asked pm__law_asked cd__law_asked ct__law_asked oc__law_joints kV__law_joints dc__law_joints pm__law_joints cd__law_joints ct__law_joints oc__law_balance kV__law_balance dc__law_balance pm__law_balance cd__law_balance ct__law_balance oc__law_is_apart kV__law_is_apart dc__law_is_apart pm__law_is_apart cd__law_is_apart ct__law_is_apart oc__law_spread kV__law_spread dc__law_spread pm__law_spread cd__law_spread ct__law_spread oc__law_right kV__law_right dc__law_right pm__law_right cd__law_right ct__law_right oc_law kV_law dc_law pm_law cd_law ct_law : Value}
    (aC0 : PySem.W.nsIn K mainGlobals "BadSize" = some (some (.ref C0)))
    (aC1 : PySem.W.nsIn K mainGlobals "BadWord" = some (some (.ref C1)))
    (aC2 : PySem.W.nsIn K mainGlobals "BadBook" = some (some (.ref C2)))
    (aC3 : PySem.W.nsIn K mainGlobals "BadRing" = some (some (.ref C3)))
    (aC4 : PySem.W.nsIn K mainGlobals "NoWord" = some (some (.ref C4)))
    (aC5 : PySem.W.nsIn K mainGlobals "NoRing" = some (some (.ref C5)))
    (aC6 : PySem.W.nsIn K mainGlobals "NoJoin" = some (some (.ref C6)))
    (aC7 : PySem.W.nsIn K mainGlobals "RingError" = some (some (.ref C7)))
    (xC2 : PySem.W.excIn K C2 [.type "ValueError", .type "Exception", .type "BaseException", .type "object"] "ValueError.__new__" = true)
    (kC2 : PySem.W.keepIn K (.ref C2) = true)
    (xC0 : PySem.W.excIn K C0 [.type "ValueError", .type "Exception", .type "BaseException", .type "object"] "ValueError.__new__" = true)
    (kC0 : PySem.W.keepIn K (.ref C0) = true)
    (sC0 : PySem.W.subIn K (.ref C0) (.type "BaseException") = some true)
    (tC0 : PySem.W.typeIn K (.ref C0) = some (.type "type"))
    (sC1 : PySem.W.subIn K (.ref C1) (.type "BaseException") = some true)
    (tC1 : PySem.W.typeIn K (.ref C1) = some (.type "type"))
    (sC2 : PySem.W.subIn K (.ref C2) (.type "BaseException") = some true)
    (tC2 : PySem.W.typeIn K (.ref C2) = some (.type "type"))
    (sC3 : PySem.W.subIn K (.ref C3) (.type "BaseException") = some true)
    (tC3 : PySem.W.typeIn K (.ref C3) = some (.type "type"))
    (sC4 : PySem.W.subIn K (.ref C4) (.type "BaseException") = some true)
    (tC4 : PySem.W.typeIn K (.ref C4) = some (.type "type"))
    (sC5 : PySem.W.subIn K (.ref C5) (.type "BaseException") = some true)
    (tC5 : PySem.W.typeIn K (.ref C5) = some (.type "type"))
    (sC6 : PySem.W.subIn K (.ref C6) (.type "BaseException") = some true)
    (tC6 : PySem.W.typeIn K (.ref C6) = some (.type "type"))
    (sC7 : PySem.W.subIn K (.ref C7) (.type "BaseException") = some true)
    (tC7 : PySem.W.typeIn K (.ref C7) = some (.type "type"))
    (dC0 : PySem.W.hasDictIn K C0 = true)
    (dC1 : PySem.W.hasDictIn K C1 = true)
    (dC2 : PySem.W.hasDictIn K C2 = true)
    (dC3 : PySem.W.hasDictIn K C3 = true)
    (dC4 : PySem.W.hasDictIn K C4 = true)
    (dC5 : PySem.W.hasDictIn K C5 = true)
    (dC6 : PySem.W.hasDictIn K C6 = true)
    (dC7 : PySem.W.hasDictIn K C7 = true)
    (r0 : PySem.W.subIn K (.ref C0) (.ref C7) = some true)
    (gC0 : PySem.W.findIn K (.ref C0) "__getattribute__" = some (some (.builtin "BaseException.__getattribute__")))
    (hC0 : PySem.W.findIn K (.ref C0) "__getattr__" = some none)
    (cC0 : PySem.W.findIn K (.ref C0) "__class__" = some (some (.builtin "object.__class__")))
    (mC0 : PySem.W.mroIn K C0 (.type "object") = some true)
    (v0 : PySem.W.subIn K (.ref C0) (.type "ValueError") = some true)
    (q0_0 : PySem.W.subIn K (.ref C0) (.ref C0) = some true)
    (q0_1 : PySem.W.subIn K (.ref C0) (.ref C1) = some false)
    (q0_2 : PySem.W.subIn K (.ref C0) (.ref C2) = some false)
    (q0_3 : PySem.W.subIn K (.ref C0) (.ref C3) = some false)
    (q0_4 : PySem.W.subIn K (.ref C0) (.ref C4) = some false)
    (q0_5 : PySem.W.subIn K (.ref C0) (.ref C5) = some false)
    (q0_6 : PySem.W.subIn K (.ref C0) (.ref C6) = some false)
    (r1 : PySem.W.subIn K (.ref C1) (.ref C7) = some true)
    (gC1 : PySem.W.findIn K (.ref C1) "__getattribute__" = some (some (.builtin "BaseException.__getattribute__")))
    (hC1 : PySem.W.findIn K (.ref C1) "__getattr__" = some none)
    (cC1 : PySem.W.findIn K (.ref C1) "__class__" = some (some (.builtin "object.__class__")))
    (mC1 : PySem.W.mroIn K C1 (.type "object") = some true)
    (v1 : PySem.W.subIn K (.ref C1) (.type "ValueError") = some true)
    (q1_0 : PySem.W.subIn K (.ref C1) (.ref C0) = some false)
    (q1_1 : PySem.W.subIn K (.ref C1) (.ref C1) = some true)
    (q1_2 : PySem.W.subIn K (.ref C1) (.ref C2) = some false)
    (q1_3 : PySem.W.subIn K (.ref C1) (.ref C3) = some false)
    (q1_4 : PySem.W.subIn K (.ref C1) (.ref C4) = some false)
    (q1_5 : PySem.W.subIn K (.ref C1) (.ref C5) = some false)
    (q1_6 : PySem.W.subIn K (.ref C1) (.ref C6) = some false)
    (r2 : PySem.W.subIn K (.ref C2) (.ref C7) = some true)
    (gC2 : PySem.W.findIn K (.ref C2) "__getattribute__" = some (some (.builtin "BaseException.__getattribute__")))
    (hC2 : PySem.W.findIn K (.ref C2) "__getattr__" = some none)
    (cC2 : PySem.W.findIn K (.ref C2) "__class__" = some (some (.builtin "object.__class__")))
    (mC2 : PySem.W.mroIn K C2 (.type "object") = some true)
    (v2 : PySem.W.subIn K (.ref C2) (.type "ValueError") = some true)
    (q2_0 : PySem.W.subIn K (.ref C2) (.ref C0) = some false)
    (q2_1 : PySem.W.subIn K (.ref C2) (.ref C1) = some false)
    (q2_2 : PySem.W.subIn K (.ref C2) (.ref C2) = some true)
    (q2_3 : PySem.W.subIn K (.ref C2) (.ref C3) = some false)
    (q2_4 : PySem.W.subIn K (.ref C2) (.ref C4) = some false)
    (q2_5 : PySem.W.subIn K (.ref C2) (.ref C5) = some false)
    (q2_6 : PySem.W.subIn K (.ref C2) (.ref C6) = some false)
    (r3 : PySem.W.subIn K (.ref C3) (.ref C7) = some true)
    (gC3 : PySem.W.findIn K (.ref C3) "__getattribute__" = some (some (.builtin "BaseException.__getattribute__")))
    (hC3 : PySem.W.findIn K (.ref C3) "__getattr__" = some none)
    (cC3 : PySem.W.findIn K (.ref C3) "__class__" = some (some (.builtin "object.__class__")))
    (mC3 : PySem.W.mroIn K C3 (.type "object") = some true)
    (v3 : PySem.W.subIn K (.ref C3) (.type "ValueError") = some true)
    (q3_0 : PySem.W.subIn K (.ref C3) (.ref C0) = some false)
    (q3_1 : PySem.W.subIn K (.ref C3) (.ref C1) = some false)
    (q3_2 : PySem.W.subIn K (.ref C3) (.ref C2) = some false)
    (q3_3 : PySem.W.subIn K (.ref C3) (.ref C3) = some true)
    (q3_4 : PySem.W.subIn K (.ref C3) (.ref C4) = some false)
    (q3_5 : PySem.W.subIn K (.ref C3) (.ref C5) = some false)
    (q3_6 : PySem.W.subIn K (.ref C3) (.ref C6) = some false)
    (r4 : PySem.W.subIn K (.ref C4) (.ref C7) = some true)
    (gC4 : PySem.W.findIn K (.ref C4) "__getattribute__" = some (some (.builtin "BaseException.__getattribute__")))
    (hC4 : PySem.W.findIn K (.ref C4) "__getattr__" = some none)
    (cC4 : PySem.W.findIn K (.ref C4) "__class__" = some (some (.builtin "object.__class__")))
    (mC4 : PySem.W.mroIn K C4 (.type "object") = some true)
    (v4 : PySem.W.subIn K (.ref C4) (.type "ValueError") = some true)
    (q4_0 : PySem.W.subIn K (.ref C4) (.ref C0) = some false)
    (q4_1 : PySem.W.subIn K (.ref C4) (.ref C1) = some false)
    (q4_2 : PySem.W.subIn K (.ref C4) (.ref C2) = some false)
    (q4_3 : PySem.W.subIn K (.ref C4) (.ref C3) = some false)
    (q4_4 : PySem.W.subIn K (.ref C4) (.ref C4) = some true)
    (q4_5 : PySem.W.subIn K (.ref C4) (.ref C5) = some false)
    (q4_6 : PySem.W.subIn K (.ref C4) (.ref C6) = some false)
    (r5 : PySem.W.subIn K (.ref C5) (.ref C7) = some true)
    (gC5 : PySem.W.findIn K (.ref C5) "__getattribute__" = some (some (.builtin "BaseException.__getattribute__")))
    (hC5 : PySem.W.findIn K (.ref C5) "__getattr__" = some none)
    (cC5 : PySem.W.findIn K (.ref C5) "__class__" = some (some (.builtin "object.__class__")))
    (mC5 : PySem.W.mroIn K C5 (.type "object") = some true)
    (v5 : PySem.W.subIn K (.ref C5) (.type "ValueError") = some true)
    (q5_0 : PySem.W.subIn K (.ref C5) (.ref C0) = some false)
    (q5_1 : PySem.W.subIn K (.ref C5) (.ref C1) = some false)
    (q5_2 : PySem.W.subIn K (.ref C5) (.ref C2) = some false)
    (q5_3 : PySem.W.subIn K (.ref C5) (.ref C3) = some false)
    (q5_4 : PySem.W.subIn K (.ref C5) (.ref C4) = some false)
    (q5_5 : PySem.W.subIn K (.ref C5) (.ref C5) = some true)
    (q5_6 : PySem.W.subIn K (.ref C5) (.ref C6) = some false)
    (r6 : PySem.W.subIn K (.ref C6) (.ref C7) = some true)
    (gC6 : PySem.W.findIn K (.ref C6) "__getattribute__" = some (some (.builtin "BaseException.__getattribute__")))
    (hC6 : PySem.W.findIn K (.ref C6) "__getattr__" = some none)
    (cC6 : PySem.W.findIn K (.ref C6) "__class__" = some (some (.builtin "object.__class__")))
    (mC6 : PySem.W.mroIn K C6 (.type "object") = some true)
    (v6 : PySem.W.subIn K (.ref C6) (.type "ValueError") = some true)
    (q6_0 : PySem.W.subIn K (.ref C6) (.ref C0) = some false)
    (q6_1 : PySem.W.subIn K (.ref C6) (.ref C1) = some false)
    (q6_2 : PySem.W.subIn K (.ref C6) (.ref C2) = some false)
    (q6_3 : PySem.W.subIn K (.ref C6) (.ref C3) = some false)
    (q6_4 : PySem.W.subIn K (.ref C6) (.ref C4) = some false)
    (q6_5 : PySem.W.subIn K (.ref C6) (.ref C5) = some false)
    (q6_6 : PySem.W.subIn K (.ref C6) (.ref C6) = some true)
    (spc : PySem.W.specialIn K (.builtin "object.__class__") "__get__" = some (some (.builtin "getset_descriptor.__get__")))
    (tks : PySem.W.takesIn K (.builtin "object.__class__") = some true)
    (c_MOST_SIGNS : PySem.W.nsIn K mainGlobals "MOST_SIGNS" = some (some (.int 9 t_MOST_SIGNS)))
    (c_MOST_SIZE : PySem.W.nsIn K mainGlobals "MOST_SIZE" = some (some (.int 8 t_MOST_SIZE)))
    (c_MOST_WORDS : PySem.W.nsIn K mainGlobals "MOST_WORDS" = some (some (.int 256 t_MOST_WORDS)))
    (z_ValueError : PySem.W.nsIn K mainGlobals "ValueError" = some none)
    (z_all : PySem.W.nsIn K mainGlobals "all" = some none)
    (z_bool : PySem.W.nsIn K mainGlobals "bool" = some none)
    (z_int : PySem.W.nsIn K mainGlobals "int" = some none)
    (z_isinstance : PySem.W.nsIn K mainGlobals "isinstance" = some none)
    (z_len : PySem.W.nsIn K mainGlobals "len" = some none)
    (z_list : PySem.W.nsIn K mainGlobals "list" = some none)
    (z_min : PySem.W.nsIn K mainGlobals "min" = some none)
    (z_range : PySem.W.nsIn K mainGlobals "range" = some none)
    (z_sorted : PySem.W.nsIn K mainGlobals "sorted" = some none)
    (z_tuple : PySem.W.nsIn K mainGlobals "tuple" = some none)
    (a_is_among : PySem.W.nsIn K mainGlobals "is_among" = some (some (.ref f_is_among)))
    (l_is_among : K.lookup f_is_among = some ⟨oc_is_among, od_is_among, .func (PySem.W.fnOf "is_among" "is_among" (defArgs s_is_among) (defBody s_is_among) (defScope s_is_among) .none kV_is_among dc_is_among pm_is_among an_is_among cd_is_among ct_is_among), sl_is_among⟩)
    (cd_c_is_among : PySem.W.codeIn K cd_is_among "is_among" = true)
    (k_is_among : PySem.W.keepIn K (.ref f_is_among) = true)
    (a_how_many : PySem.W.nsIn K mainGlobals "how_many" = some (some (.ref f_how_many)))
    (l_how_many : K.lookup f_how_many = some ⟨oc_how_many, od_how_many, .func (PySem.W.fnOf "how_many" "how_many" (defArgs s_how_many) (defBody s_how_many) (defScope s_how_many) .none kV_how_many dc_how_many pm_how_many an_how_many cd_how_many ct_how_many), sl_how_many⟩)
    (cd_c_how_many : PySem.W.codeIn K cd_how_many "how_many" = true)
    (k_how_many : PySem.W.keepIn K (.ref f_how_many) = true)
    (a_need_size : PySem.W.nsIn K mainGlobals "need_size" = some (some (.ref f_need_size)))
    (l_need_size : K.lookup f_need_size = some ⟨oc_need_size, od_need_size, .func (PySem.W.fnOf "need_size" "need_size" (defArgs s_need_size) (defBody s_need_size) (defScope s_need_size) .none kV_need_size dc_need_size pm_need_size an_need_size cd_need_size ct_need_size), sl_need_size⟩)
    (cd_c_need_size : PySem.W.codeIn K cd_need_size "need_size" = true)
    (k_need_size : PySem.W.keepIn K (.ref f_need_size) = true)
    (a_is_word : PySem.W.nsIn K mainGlobals "is_word" = some (some (.ref f_is_word)))
    (l_is_word : K.lookup f_is_word = some ⟨oc_is_word, od_is_word, .func (PySem.W.fnOf "is_word" "is_word" (defArgs s_is_word) (defBody s_is_word) (defScope s_is_word) .none kV_is_word dc_is_word pm_is_word an_is_word cd_is_word ct_is_word), sl_is_word⟩)
    (cd_c_is_word : PySem.W.codeIn K cd_is_word "is_word" = true)
    (k_is_word : PySem.W.keepIn K (.ref f_is_word) = true)
    (a_need_book : PySem.W.nsIn K mainGlobals "need_book" = some (some (.ref f_need_book)))
    (l_need_book : K.lookup f_need_book = some ⟨oc_need_book, od_need_book, .func (PySem.W.fnOf "need_book" "need_book" (defArgs s_need_book) (defBody s_need_book) (defScope s_need_book) .none kV_need_book dc_need_book pm_need_book an_need_book cd_need_book ct_need_book), sl_need_book⟩)
    (cd_c_need_book : PySem.W.codeIn K cd_need_book "need_book" = true)
    (k_need_book : PySem.W.keepIn K (.ref f_need_book) = true)
    (a_joints_of : PySem.W.nsIn K mainGlobals "joints_of" = some (some (.ref f_joints_of)))
    (l_joints_of : K.lookup f_joints_of = some ⟨oc_joints_of, od_joints_of, .func (PySem.W.fnOf "joints_of" "joints_of" (defArgs s_joints_of) (defBody s_joints_of) (defScope s_joints_of) .none kV_joints_of dc_joints_of pm_joints_of an_joints_of cd_joints_of ct_joints_of), sl_joints_of⟩)
    (cd_c_joints_of : PySem.W.codeIn K cd_joints_of "joints_of" = true)
    (k_joints_of : PySem.W.keepIn K (.ref f_joints_of) = true)
    (a_joints : PySem.W.nsIn K mainGlobals "joints" = some (some (.ref f_joints)))
    (l_joints : K.lookup f_joints = some ⟨oc_joints, od_joints, .func (PySem.W.fnOf "joints" "joints" (defArgs s_joints) (defBody s_joints) (defScope s_joints) .none kV_joints dc_joints pm_joints an_joints cd_joints ct_joints), sl_joints⟩)
    (cd_c_joints : PySem.W.codeIn K cd_joints "joints" = true)
    (k_joints : PySem.W.keepIn K (.ref f_joints) = true)
    (a_uneven_at : PySem.W.nsIn K mainGlobals "uneven_at" = some (some (.ref f_uneven_at)))
    (l_uneven_at : K.lookup f_uneven_at = some ⟨oc_uneven_at, od_uneven_at, .func (PySem.W.fnOf "uneven_at" "uneven_at" (defArgs s_uneven_at) (defBody s_uneven_at) (defScope s_uneven_at) .none kV_uneven_at dc_uneven_at pm_uneven_at an_uneven_at cd_uneven_at ct_uneven_at), sl_uneven_at⟩)
    (cd_c_uneven_at : PySem.W.codeIn K cd_uneven_at "uneven_at" = true)
    (k_uneven_at : PySem.W.keepIn K (.ref f_uneven_at) = true)
    (a_come_to : PySem.W.nsIn K mainGlobals "come_to" = some (some (.ref f_come_to)))
    (l_come_to : K.lookup f_come_to = some ⟨oc_come_to, od_come_to, .func (PySem.W.fnOf "come_to" "come_to" (defArgs s_come_to) (defBody s_come_to) (defScope s_come_to) .none kV_come_to dc_come_to pm_come_to an_come_to cd_come_to ct_come_to), sl_come_to⟩)
    (cd_c_come_to : PySem.W.codeIn K cd_come_to "come_to" = true)
    (k_come_to : PySem.W.keepIn K (.ref f_come_to) = true)
    (a_lack_of : PySem.W.nsIn K mainGlobals "lack_of" = some (some (.ref f_lack_of)))
    (l_lack_of : K.lookup f_lack_of = some ⟨oc_lack_of, od_lack_of, .func (PySem.W.fnOf "lack_of" "lack_of" (defArgs s_lack_of) (defBody s_lack_of) (defScope s_lack_of) .none kV_lack_of dc_lack_of pm_lack_of an_lack_of cd_lack_of ct_lack_of), sl_lack_of⟩)
    (cd_c_lack_of : PySem.W.codeIn K cd_lack_of "lack_of" = true)
    (k_lack_of : PySem.W.keepIn K (.ref f_lack_of) = true)
    (a_lack : PySem.W.nsIn K mainGlobals "lack" = some (some (.ref f_lack)))
    (l_lack : K.lookup f_lack = some ⟨oc_lack, od_lack, .func (PySem.W.fnOf "lack" "lack" (defArgs s_lack) (defBody s_lack) (defScope s_lack) .none kV_lack dc_lack pm_lack an_lack cd_lack ct_lack), sl_lack⟩)
    (cd_c_lack : PySem.W.codeIn K cd_lack "lack" = true)
    (k_lack : PySem.W.keepIn K (.ref f_lack) = true)
    (a__law_cell_at : PySem.W.nsIn K mainGlobals "_law_cell_at" = some (some (.ref f__law_cell_at)))
    (l__law_cell_at : K.lookup f__law_cell_at = some ⟨oc__law_cell_at, od__law_cell_at, .func (PySem.W.fnOf "_law_cell_at" "_law_cell_at" (defArgs s__law_cell_at) (defBody s__law_cell_at) (defScope s__law_cell_at) .none kV__law_cell_at dc__law_cell_at pm__law_cell_at an__law_cell_at cd__law_cell_at ct__law_cell_at), sl__law_cell_at⟩)
    (cd_c__law_cell_at : PySem.W.codeIn K cd__law_cell_at "_law_cell_at" = true)
    (k__law_cell_at : PySem.W.keepIn K (.ref f__law_cell_at) = true)
    (a__law_classes : PySem.W.nsIn K mainGlobals "_law_classes" = some (some (.ref f__law_classes)))
    (l__law_classes : K.lookup f__law_classes = some ⟨oc__law_classes, od__law_classes, .func (PySem.W.fnOf "_law_classes" "_law_classes" (defArgs s__law_classes) (defBody s__law_classes) (defScope s__law_classes) .none kV__law_classes dc__law_classes pm__law_classes an__law_classes cd__law_classes ct__law_classes), sl__law_classes⟩)
    (cd_c__law_classes : PySem.W.codeIn K cd__law_classes "_law_classes" = true)
    (k__law_classes : PySem.W.keepIn K (.ref f__law_classes) = true)
    (a__law_pair : PySem.W.nsIn K mainGlobals "_law_pair" = some (some (.ref f__law_pair)))
    (l__law_pair : K.lookup f__law_pair = some ⟨oc__law_pair, od__law_pair, .func (PySem.W.fnOf "_law_pair" "_law_pair" (defArgs s__law_pair) (defBody s__law_pair) (defScope s__law_pair) .none kV__law_pair dc__law_pair pm__law_pair an__law_pair cd__law_pair ct__law_pair), sl__law_pair⟩)
    (cd_c__law_pair : PySem.W.codeIn K cd__law_pair "_law_pair" = true)
    (k__law_pair : PySem.W.keepIn K (.ref f__law_pair) = true)
    (a__law_word : PySem.W.nsIn K mainGlobals "_law_word" = some (some (.ref f__law_word)))
    (l__law_word : K.lookup f__law_word = some ⟨oc__law_word, od__law_word, .func (PySem.W.fnOf "_law_word" "_law_word" (defArgs s__law_word) (defBody s__law_word) (defScope s__law_word) .none kV__law_word dc__law_word pm__law_word an__law_word cd__law_word ct__law_word), sl__law_word⟩)
    (cd_c__law_word : PySem.W.codeIn K cd__law_word "_law_word" = true)
    (k__law_word : PySem.W.keepIn K (.ref f__law_word) = true)
    (a__law_turns : PySem.W.nsIn K mainGlobals "_law_turns" = some (some (.ref f__law_turns)))
    (l__law_turns : K.lookup f__law_turns = some ⟨oc__law_turns, od__law_turns, .func (PySem.W.fnOf "_law_turns" "_law_turns" (defArgs s__law_turns) (defBody s__law_turns) (defScope s__law_turns) .none kV__law_turns dc__law_turns pm__law_turns an__law_turns cd__law_turns ct__law_turns), sl__law_turns⟩)
    (cd_c__law_turns : PySem.W.codeIn K cd__law_turns "_law_turns" = true)
    (k__law_turns : PySem.W.keepIn K (.ref f__law_turns) = true)
    (a__law_book : PySem.W.nsIn K mainGlobals "_law_book" = some (some (.ref f__law_book)))
    (l__law_book : K.lookup f__law_book = some ⟨oc__law_book, od__law_book, .func (PySem.W.fnOf "_law_book" "_law_book" (defArgs s__law_book) (defBody s__law_book) (defScope s__law_book) .none kV__law_book dc__law_book pm__law_book an__law_book cd__law_book ct__law_book), sl__law_book⟩)
    (cd_c__law_book : PySem.W.codeIn K cd__law_book "_law_book" = true)
    (k__law_book : PySem.W.keepIn K (.ref f__law_book) = true)
    (a__law_asked : PySem.W.nsIn K mainGlobals "_law_asked" = some (some (.ref f__law_asked)))
    (l__law_asked : K.lookup f__law_asked = some ⟨oc__law_asked, od__law_asked, .func (PySem.W.fnOf "_law_asked" "_law_asked" (defArgs s__law_asked) (defBody s__law_asked) (defScope s__law_asked) .none kV__law_asked dc__law_asked pm__law_asked an__law_asked cd__law_asked ct__law_asked), sl__law_asked⟩)
    (cd_c__law_asked : PySem.W.codeIn K cd__law_asked "_law_asked" = true)
    (k__law_asked : PySem.W.keepIn K (.ref f__law_asked) = true)
    (a__law_joints : PySem.W.nsIn K mainGlobals "_law_joints" = some (some (.ref f__law_joints)))
    (l__law_joints : K.lookup f__law_joints = some ⟨oc__law_joints, od__law_joints, .func (PySem.W.fnOf "_law_joints" "_law_joints" (defArgs s__law_joints) (defBody s__law_joints) (defScope s__law_joints) .none kV__law_joints dc__law_joints pm__law_joints an__law_joints cd__law_joints ct__law_joints), sl__law_joints⟩)
    (cd_c__law_joints : PySem.W.codeIn K cd__law_joints "_law_joints" = true)
    (k__law_joints : PySem.W.keepIn K (.ref f__law_joints) = true)
    (a__law_balance : PySem.W.nsIn K mainGlobals "_law_balance" = some (some (.ref f__law_balance)))
    (l__law_balance : K.lookup f__law_balance = some ⟨oc__law_balance, od__law_balance, .func (PySem.W.fnOf "_law_balance" "_law_balance" (defArgs s__law_balance) (defBody s__law_balance) (defScope s__law_balance) .none kV__law_balance dc__law_balance pm__law_balance an__law_balance cd__law_balance ct__law_balance), sl__law_balance⟩)
    (cd_c__law_balance : PySem.W.codeIn K cd__law_balance "_law_balance" = true)
    (k__law_balance : PySem.W.keepIn K (.ref f__law_balance) = true)
    (a__law_is_apart : PySem.W.nsIn K mainGlobals "_law_is_apart" = some (some (.ref f__law_is_apart)))
    (l__law_is_apart : K.lookup f__law_is_apart = some ⟨oc__law_is_apart, od__law_is_apart, .func (PySem.W.fnOf "_law_is_apart" "_law_is_apart" (defArgs s__law_is_apart) (defBody s__law_is_apart) (defScope s__law_is_apart) .none kV__law_is_apart dc__law_is_apart pm__law_is_apart an__law_is_apart cd__law_is_apart ct__law_is_apart), sl__law_is_apart⟩)
    (cd_c__law_is_apart : PySem.W.codeIn K cd__law_is_apart "_law_is_apart" = true)
    (k__law_is_apart : PySem.W.keepIn K (.ref f__law_is_apart) = true)
    (a__law_spread : PySem.W.nsIn K mainGlobals "_law_spread" = some (some (.ref f__law_spread)))
    (l__law_spread : K.lookup f__law_spread = some ⟨oc__law_spread, od__law_spread, .func (PySem.W.fnOf "_law_spread" "_law_spread" (defArgs s__law_spread) (defBody s__law_spread) (defScope s__law_spread) .none kV__law_spread dc__law_spread pm__law_spread an__law_spread cd__law_spread ct__law_spread), sl__law_spread⟩)
    (cd_c__law_spread : PySem.W.codeIn K cd__law_spread "_law_spread" = true)
    (k__law_spread : PySem.W.keepIn K (.ref f__law_spread) = true)
    (a__law_right : PySem.W.nsIn K mainGlobals "_law_right" = some (some (.ref f__law_right)))
    (l__law_right : K.lookup f__law_right = some ⟨oc__law_right, od__law_right, .func (PySem.W.fnOf "_law_right" "_law_right" (defArgs s__law_right) (defBody s__law_right) (defScope s__law_right) .none kV__law_right dc__law_right pm__law_right an__law_right cd__law_right ct__law_right), sl__law_right⟩)
    (cd_c__law_right : PySem.W.codeIn K cd__law_right "_law_right" = true)
    (k__law_right : PySem.W.keepIn K (.ref f__law_right) = true)
    (a_law : PySem.W.nsIn K mainGlobals "law" = some (some (.ref f_law)))
    (l_law : K.lookup f_law = some ⟨oc_law, od_law, .func (PySem.W.fnOf "law" "law" (defArgs s_law) (defBody s_law) (defScope s_law) .none kV_law dc_law pm_law an_law cd_law ct_law), sl_law⟩)
    (cd_c_law : PySem.W.codeIn K cd_law "law" = true)
    (k_law : PySem.W.keepIn K (.ref f_law) = true) :
    LawAt PySem.Challenge.rw_fullring_k08_joints_and_lacks F_law "_law_script" 6 w K mg fa := by
  let ca : Nat → Addr := fun i => match i with
    | 0 => C0
    | 1 => C1
    | 2 => C2
    | 3 => C3
    | 4 => C4
    | 5 => C5
    | 6 => C6
    | _ => C7
  have T : Txt K mg ca := {
    c_MOST_SIGNS := ⟨_, PySem.W.mg_of X G c_MOST_SIGNS⟩,
    c_MOST_SIZE := ⟨_, PySem.W.mg_of X G c_MOST_SIZE⟩,
    c_MOST_WORDS := ⟨_, PySem.W.mg_of X G c_MOST_WORDS⟩,
    e_BadBook := ⟨xC2, PySem.W.mg_of X G aC2, kC2, sC2, tC2⟩,
    e_BadSize := ⟨xC0, PySem.W.mg_of X G aC0, kC0, sC0, tC0⟩,
    z_ValueError := PySem.W.mg_none_of X G z_ValueError,
    z_all := PySem.W.mg_none_of X G z_all,
    z_bool := PySem.W.mg_none_of X G z_bool,
    z_int := PySem.W.mg_none_of X G z_int,
    z_isinstance := PySem.W.mg_none_of X G z_isinstance,
    z_len := PySem.W.mg_none_of X G z_len,
    z_list := PySem.W.mg_none_of X G z_list,
    z_min := PySem.W.mg_none_of X G z_min,
    z_range := PySem.W.mg_none_of X G z_range,
    z_sorted := PySem.W.mg_none_of X G z_sorted,
    z_tuple := PySem.W.mg_none_of X G z_tuple,
    n_BadSize := PySem.W.mg_of X G aC0,
    n_BadWord := PySem.W.mg_of X G aC1,
    n_BadBook := PySem.W.mg_of X G aC2,
    n_BadRing := PySem.W.mg_of X G aC3,
    n_NoWord := PySem.W.mg_of X G aC4,
    n_NoRing := PySem.W.mg_of X G aC5,
    n_NoJoin := PySem.W.mg_of X G aC6,
    n_RingError := PySem.W.mg_of X G aC7,
    exm := fun c hc => match c, hc with | 0, _ => PySem.W.exm_ref sC7 dC7 tC7 r0 | 1, _ => PySem.W.exm_ref sC7 dC7 tC7 r1 | 2, _ => PySem.W.exm_ref sC7 dC7 tC7 r2 | 3, _ => PySem.W.exm_ref sC7 dC7 tC7 r3 | 4, _ => PySem.W.exm_ref sC7 dC7 tC7 r4 | 5, _ => PySem.W.exm_ref sC7 dC7 tC7 r5 | 6, _ => PySem.W.exm_ref sC7 dC7 tC7 r6,
    kit := fun c k hc hk => match c, k, hc, hk with | 0, 0, _, _ => kit_own dC0 tC0 q0_0 q0_0 | 0, 1, _, _ => kit_own dC1 tC1 q0_1 q0_0 | 0, 2, _, _ => kit_own dC2 tC2 q0_2 q0_0 | 0, 3, _, _ => kit_own dC3 tC3 q0_3 q0_0 | 0, 4, _, _ => kit_own dC4 tC4 q0_4 q0_0 | 0, 5, _, _ => kit_own dC5 tC5 q0_5 q0_0 | 0, 6, _, _ => kit_own dC6 tC6 q0_6 q0_0 | 1, 0, _, _ => kit_own dC0 tC0 q1_0 q1_1 | 1, 1, _, _ => kit_own dC1 tC1 q1_1 q1_1 | 1, 2, _, _ => kit_own dC2 tC2 q1_2 q1_1 | 1, 3, _, _ => kit_own dC3 tC3 q1_3 q1_1 | 1, 4, _, _ => kit_own dC4 tC4 q1_4 q1_1 | 1, 5, _, _ => kit_own dC5 tC5 q1_5 q1_1 | 1, 6, _, _ => kit_own dC6 tC6 q1_6 q1_1 | 2, 0, _, _ => kit_own dC0 tC0 q2_0 q2_2 | 2, 1, _, _ => kit_own dC1 tC1 q2_1 q2_2 | 2, 2, _, _ => kit_own dC2 tC2 q2_2 q2_2 | 2, 3, _, _ => kit_own dC3 tC3 q2_3 q2_2 | 2, 4, _, _ => kit_own dC4 tC4 q2_4 q2_2 | 2, 5, _, _ => kit_own dC5 tC5 q2_5 q2_2 | 2, 6, _, _ => kit_own dC6 tC6 q2_6 q2_2 | 3, 0, _, _ => kit_own dC0 tC0 q3_0 q3_3 | 3, 1, _, _ => kit_own dC1 tC1 q3_1 q3_3 | 3, 2, _, _ => kit_own dC2 tC2 q3_2 q3_3 | 3, 3, _, _ => kit_own dC3 tC3 q3_3 q3_3 | 3, 4, _, _ => kit_own dC4 tC4 q3_4 q3_3 | 3, 5, _, _ => kit_own dC5 tC5 q3_5 q3_3 | 3, 6, _, _ => kit_own dC6 tC6 q3_6 q3_3 | 4, 0, _, _ => kit_own dC0 tC0 q4_0 q4_4 | 4, 1, _, _ => kit_own dC1 tC1 q4_1 q4_4 | 4, 2, _, _ => kit_own dC2 tC2 q4_2 q4_4 | 4, 3, _, _ => kit_own dC3 tC3 q4_3 q4_4 | 4, 4, _, _ => kit_own dC4 tC4 q4_4 q4_4 | 4, 5, _, _ => kit_own dC5 tC5 q4_5 q4_4 | 4, 6, _, _ => kit_own dC6 tC6 q4_6 q4_4 | 5, 0, _, _ => kit_own dC0 tC0 q5_0 q5_5 | 5, 1, _, _ => kit_own dC1 tC1 q5_1 q5_5 | 5, 2, _, _ => kit_own dC2 tC2 q5_2 q5_5 | 5, 3, _, _ => kit_own dC3 tC3 q5_3 q5_5 | 5, 4, _, _ => kit_own dC4 tC4 q5_4 q5_5 | 5, 5, _, _ => kit_own dC5 tC5 q5_5 q5_5 | 5, 6, _, _ => kit_own dC6 tC6 q5_6 q5_5 | 6, 0, _, _ => kit_own dC0 tC0 q6_0 q6_6 | 6, 1, _, _ => kit_own dC1 tC1 q6_1 q6_6 | 6, 2, _, _ => kit_own dC2 tC2 q6_2 q6_6 | 6, 3, _, _ => kit_own dC3 tC3 q6_3 q6_6 | 6, 4, _, _ => kit_own dC4 tC4 q6_4 q6_6 | 6, 5, _, _ => kit_own dC5 tC5 q6_5 q6_6 | 6, 6, _, _ => kit_own dC6 tC6 q6_6 q6_6,
    kitV := fun c hc => match c, hc with | 0, _ => kit_val v0 | 1, _ => kit_val v1 | 2, _ => kit_val v2 | 3, _ => kit_val v3 | 4, _ => kit_val v4 | 5, _ => kit_val v5 | 6, _ => kit_val v6,
    excC := fun c hc => match c, hc with | 0, _ => ⟨gC0, hC0, sC0, dC0, cC0, spc, tks, mC0⟩ | 1, _ => ⟨gC1, hC1, sC1, dC1, cC1, spc, tks, mC1⟩ | 2, _ => ⟨gC2, hC2, sC2, dC2, cC2, spc, tks, mC2⟩ | 3, _ => ⟨gC3, hC3, sC3, dC3, cC3, spc, tks, mC3⟩ | 4, _ => ⟨gC4, hC4, sC4, dC4, cC4, spc, tks, mC4⟩ | 5, _ => ⟨gC5, hC5, sC5, dC5, cC5, spc, tks, mC5⟩ | 6, _ => ⟨gC6, hC6, sC6, dC6, cC6, spc, tks, mC6⟩ }
  have F_is_among := fun_mk (st := s_is_among) l_is_among cd_c_is_among k_is_among
  have b_is_among := F_is_among.binds (ps := ["thing", "least", "most"]) fun _ _ _ _ _ _ us hl => match us, hl with | [_, _, _], _ => rfl
  have F_how_many := fun_mk (st := s_how_many) l_how_many cd_c_how_many k_how_many
  have b_how_many := F_how_many.binds (ps := ["signs", "size"]) fun _ _ _ _ _ _ us hl => match us, hl with | [_, _], _ => rfl
  have F_need_size := fun_mk (st := s_need_size) l_need_size cd_c_need_size k_need_size
  have b_need_size := F_need_size.binds (ps := ["signs", "size"]) fun _ _ _ _ _ _ us hl => match us, hl with | [_, _], _ => rfl
  have F_is_word := fun_mk (st := s_is_word) l_is_word cd_c_is_word k_is_word
  have b_is_word := F_is_word.binds (ps := ["signs", "thing"]) fun _ _ _ _ _ _ us hl => match us, hl with | [_, _], _ => rfl
  have F_need_book := fun_mk (st := s_need_book) l_need_book cd_c_need_book k_need_book
  have b_need_book := F_need_book.binds (ps := ["signs", "size", "thing"]) fun _ _ _ _ _ _ us hl => match us, hl with | [_, _, _], _ => rfl
  have F_joints_of := fun_mk (st := s_joints_of) l_joints_of cd_c_joints_of k_joints_of
  have b_joints_of := F_joints_of.binds (ps := ["book"]) fun _ _ _ _ _ _ us hl => match us, hl with | [_], _ => rfl
  have F_joints := fun_mk (st := s_joints) l_joints cd_c_joints k_joints
  have b_joints := F_joints.binds (ps := ["signs", "size", "book"]) fun _ _ _ _ _ _ us hl => match us, hl with | [_, _, _], _ => rfl
  have F_uneven_at := fun_mk (st := s_uneven_at) l_uneven_at cd_c_uneven_at k_uneven_at
  have b_uneven_at := F_uneven_at.binds (ps := ["book"]) fun _ _ _ _ _ _ us hl => match us, hl with | [_], _ => rfl
  have F_come_to := fun_mk (st := s_come_to) l_come_to cd_c_come_to k_come_to
  have b_come_to := F_come_to.binds (ps := ["book", "start"]) fun _ _ _ _ _ _ us hl => match us, hl with | [_, _], _ => rfl
  have F_lack_of := fun_mk (st := s_lack_of) l_lack_of cd_c_lack_of k_lack_of
  have b_lack_of := F_lack_of.binds (ps := ["book"]) fun _ _ _ _ _ _ us hl => match us, hl with | [_], _ => rfl
  have F_lack := fun_mk (st := s_lack) l_lack cd_c_lack k_lack
  have b_lack := F_lack.binds (ps := ["signs", "size", "book"]) fun _ _ _ _ _ _ us hl => match us, hl with | [_, _, _], _ => rfl
  have F__law_cell_at := fun_mk (st := s__law_cell_at) l__law_cell_at cd_c__law_cell_at k__law_cell_at
  have b__law_cell_at := F__law_cell_at.binds (ps := ["_law_script", "_law_k"]) fun _ _ _ _ _ _ us hl => match us, hl with | [_, _], _ => rfl
  have F__law_classes := fun_mk (st := s__law_classes) l__law_classes cd_c__law_classes k__law_classes
  have b__law_classes := F__law_classes.binds (ps := ["_law_e"]) fun _ _ _ _ _ _ us hl => match us, hl with | [_], _ => rfl
  have F__law_pair := fun_mk (st := s__law_pair) l__law_pair cd_c__law_pair k__law_pair
  have b__law_pair := F__law_pair.binds (ps := ["_law_cell"]) fun _ _ _ _ _ _ us hl => match us, hl with | [_], _ => rfl
  have F__law_word := fun_mk (st := s__law_word) l__law_word cd_c__law_word k__law_word
  have b__law_word := F__law_word.binds (ps := ["_law_signs", "_law_size", "_law_number"]) fun _ _ _ _ _ _ us hl => match us, hl with | [_, _, _], _ => rfl
  have F__law_turns := fun_mk (st := s__law_turns) l__law_turns cd_c__law_turns k__law_turns
  have b__law_turns := F__law_turns.binds (ps := ["_law_word_here"]) fun _ _ _ _ _ _ us hl => match us, hl with | [_], _ => rfl
  have F__law_book := fun_mk (st := s__law_book) l__law_book cd_c__law_book k__law_book
  have b__law_book := F__law_book.binds (ps := ["_law_script", "_law_first", "_law_signs", "_law_size", "_law_many"]) fun _ _ _ _ _ _ us hl => match us, hl with | [_, _, _, _, _], _ => rfl
  have F__law_asked := fun_mk (st := s__law_asked) l__law_asked cd_c__law_asked k__law_asked
  have b__law_asked := F__law_asked.binds (ps := ["_law_way", "_law_signs", "_law_size", "_law_book_here"]) fun _ _ _ _ _ _ us hl => match us, hl with | [_, _, _, _], _ => rfl
  have F__law_joints := fun_mk (st := s__law_joints) l__law_joints cd_c__law_joints k__law_joints
  have b__law_joints := F__law_joints.binds (ps := ["_law_book_here"]) fun _ _ _ _ _ _ us hl => match us, hl with | [_], _ => rfl
  have F__law_balance := fun_mk (st := s__law_balance) l__law_balance cd_c__law_balance k__law_balance
  have b__law_balance := F__law_balance.binds (ps := ["_law_book_here", "_law_joint"]) fun _ _ _ _ _ _ us hl => match us, hl with | [_, _], _ => rfl
  have F__law_is_apart := fun_mk (st := s__law_is_apart) l__law_is_apart cd_c__law_is_apart k__law_is_apart
  have b__law_is_apart := F__law_is_apart.binds (ps := ["_law_book_here", "_law_found"]) fun _ _ _ _ _ _ us hl => match us, hl with | [_, _], _ => rfl
  have F__law_spread := fun_mk (st := s__law_spread) l__law_spread cd_c__law_spread k__law_spread
  have b__law_spread := F__law_spread.binds (ps := ["_law_book_here"]) fun _ _ _ _ _ _ us hl => match us, hl with | [_], _ => rfl
  have F__law_right := fun_mk (st := s__law_right) l__law_right cd_c__law_right k__law_right
  have b__law_right := F__law_right.binds (ps := ["_law_book_here", "_law_told"]) fun _ _ _ _ _ _ us hl => match us, hl with | [_, _], _ => rfl
  have F_law := fun_mk (st := s_law) l_law cd_c_law k_law
  refine lawAt_of (ca := ca) (fd := PySem.W.fnOf "law" "law" (defArgs s_law) (defBody s_law) (defScope s_law) .none kV_law dc_law pm_law an_law cd_law ct_law) (PySem.W.mg_of X G a_law) hfa (fun s u => .of_eq rfl) (fun base => ?_)
  have c_is_among := ok_is_among (P := (PySem.Challenge.rw_fullring_k08_joints_and_lacks).prog) (w := w) (base := base) T F_is_among (PySem.W.mg_of X G a_is_among) b_is_among 
  have c_how_many := ok_how_many (P := (PySem.Challenge.rw_fullring_k08_joints_and_lacks).prog) (w := w) (base := base) T F_how_many (PySem.W.mg_of X G a_how_many) b_how_many 
  have c_need_size := ok_need_size (P := (PySem.Challenge.rw_fullring_k08_joints_and_lacks).prog) (w := w) (base := base) T F_need_size (PySem.W.mg_of X G a_need_size) b_need_size c_how_many c_is_among
  have c_is_word := ok_is_word (P := (PySem.Challenge.rw_fullring_k08_joints_and_lacks).prog) (w := w) (base := base) T F_is_word (PySem.W.mg_of X G a_is_word) b_is_word c_is_among
  have c_need_book := ok_need_book (P := (PySem.Challenge.rw_fullring_k08_joints_and_lacks).prog) (w := w) (base := base) T F_need_book (PySem.W.mg_of X G a_need_book) b_need_book c_is_word c_need_size
  have c_joints_of := ok_joints_of (P := (PySem.Challenge.rw_fullring_k08_joints_and_lacks).prog) (w := w) (base := base) T F_joints_of (PySem.W.mg_of X G a_joints_of) b_joints_of 
  have c_joints := ok_joints (P := (PySem.Challenge.rw_fullring_k08_joints_and_lacks).prog) (w := w) (base := base) T F_joints (PySem.W.mg_of X G a_joints) b_joints c_joints_of c_need_book
  have c_uneven_at := ok_uneven_at (P := (PySem.Challenge.rw_fullring_k08_joints_and_lacks).prog) (w := w) (base := base) T F_uneven_at (PySem.W.mg_of X G a_uneven_at) b_uneven_at c_joints_of
  have c_come_to := ok_come_to (P := (PySem.Challenge.rw_fullring_k08_joints_and_lacks).prog) (w := w) (base := base) T F_come_to (PySem.W.mg_of X G a_come_to) b_come_to 
  have c_lack_of := ok_lack_of (P := (PySem.Challenge.rw_fullring_k08_joints_and_lacks).prog) (w := w) (base := base) T F_lack_of (PySem.W.mg_of X G a_lack_of) b_lack_of c_joints_of c_come_to c_uneven_at
  have c_lack := ok_lack (P := (PySem.Challenge.rw_fullring_k08_joints_and_lacks).prog) (w := w) (base := base) T F_lack (PySem.W.mg_of X G a_lack) b_lack c_lack_of c_need_book
  have c__law_cell_at := ok__law_cell_at (P := (PySem.Challenge.rw_fullring_k08_joints_and_lacks).prog) (w := w) (base := base) T F__law_cell_at (PySem.W.mg_of X G a__law_cell_at) b__law_cell_at 
  have c__law_classes := ok__law_classes (P := (PySem.Challenge.rw_fullring_k08_joints_and_lacks).prog) (w := w) (base := base) T F__law_classes (PySem.W.mg_of X G a__law_classes) b__law_classes 
  have c__law_pair := ok__law_pair (P := (PySem.Challenge.rw_fullring_k08_joints_and_lacks).prog) (w := w) (base := base) T F__law_pair (PySem.W.mg_of X G a__law_pair) b__law_pair 
  have c__law_word := ok__law_word (P := (PySem.Challenge.rw_fullring_k08_joints_and_lacks).prog) (w := w) (base := base) T F__law_word (PySem.W.mg_of X G a__law_word) b__law_word 
  have c__law_turns := ok__law_turns (P := (PySem.Challenge.rw_fullring_k08_joints_and_lacks).prog) (w := w) (base := base) T F__law_turns (PySem.W.mg_of X G a__law_turns) b__law_turns 
  have c__law_book := ok__law_book (P := (PySem.Challenge.rw_fullring_k08_joints_and_lacks).prog) (w := w) (base := base) T F__law_book (PySem.W.mg_of X G a__law_book) b__law_book c__law_word c__law_cell_at c__law_turns
  have c__law_asked := ok__law_asked (P := (PySem.Challenge.rw_fullring_k08_joints_and_lacks).prog) (w := w) (base := base) T F__law_asked (PySem.W.mg_of X G a__law_asked) b__law_asked c_lack c_joints c__law_classes
  have c__law_joints := ok__law_joints (P := (PySem.Challenge.rw_fullring_k08_joints_and_lacks).prog) (w := w) (base := base) T F__law_joints (PySem.W.mg_of X G a__law_joints) b__law_joints 
  have c__law_balance := ok__law_balance (P := (PySem.Challenge.rw_fullring_k08_joints_and_lacks).prog) (w := w) (base := base) T F__law_balance (PySem.W.mg_of X G a__law_balance) b__law_balance 
  have c__law_is_apart := ok__law_is_apart (P := (PySem.Challenge.rw_fullring_k08_joints_and_lacks).prog) (w := w) (base := base) T F__law_is_apart (PySem.W.mg_of X G a__law_is_apart) b__law_is_apart c__law_joints
  have c__law_spread := ok__law_spread (P := (PySem.Challenge.rw_fullring_k08_joints_and_lacks).prog) (w := w) (base := base) T F__law_spread (PySem.W.mg_of X G a__law_spread) b__law_spread 
  have c__law_right := ok__law_right (P := (PySem.Challenge.rw_fullring_k08_joints_and_lacks).prog) (w := w) (base := base) T F__law_right (PySem.W.mg_of X G a__law_right) b__law_right c__law_is_apart c__law_joints c__law_spread c__law_balance
  exact ok_law (P := (PySem.Challenge.rw_fullring_k08_joints_and_lacks).prog) (w := w) (base := base) T F_law c__law_asked c__law_right c__law_joints c__law_book c__law_cell_at c__law_pair
end My
open PySem PySem.W PyProof.Rows in
set_option maxRecDepth 100000 in
set_option maxHeartbeats 0 in
theorem PySem.Challenge.cw_fullring_k08_joints_and_lacks_holds : PySem.Challenge.rw_fullring_k08_joints_and_lacks.Holds := by
  w_on; o_law; k_head; (case hw => w_witness2)
  k_fill
  refine DL.walk_dl (l := PySem.Challenge.rw_fullring_k08_joints_and_lacks) (F := My.F_law) (x := "_law_script") (k := 6) rfl rfl ⟨rfl, by decide, by decide⟩ My.law_true (fun w h Y => PySem.W.kIn_of Y) ?F
  case F =>
    intro w mg fa h KX G hmg
    refine' My.all_mk KX G hmg ?aC0 ?aC1 ?aC2 ?aC3 ?aC4 ?aC5 ?aC6 ?aC7 ?xC2 ?kC2 ?xC0 ?kC0 ?sC0 ?tC0 ?sC1 ?tC1 ?sC2 ?tC2 ?sC3 ?tC3 ?sC4 ?tC4 ?sC5 ?tC5 ?sC6 ?tC6 ?sC7 ?tC7 ?dC0 ?dC1 ?dC2 ?dC3 ?dC4 ?dC5 ?dC6 ?dC7 ?r0 ?gC0 ?hC0 ?cC0 ?mC0 ?v0 ?q0_0 ?q0_1 ?q0_2 ?q0_3 ?q0_4 ?q0_5 ?q0_6 ?r1 ?gC1 ?hC1 ?cC1 ?mC1 ?v1 ?q1_0 ?q1_1 ?q1_2 ?q1_3 ?q1_4 ?q1_5 ?q1_6 ?r2 ?gC2 ?hC2 ?cC2 ?mC2 ?v2 ?q2_0 ?q2_1 ?q2_2 ?q2_3 ?q2_4 ?q2_5 ?q2_6 ?r3 ?gC3 ?hC3 ?cC3 ?mC3 ?v3 ?q3_0 ?q3_1 ?q3_2 ?q3_3 ?q3_4 ?q3_5 ?q3_6 ?r4 ?gC4 ?hC4 ?cC4 ?mC4 ?v4 ?q4_0 ?q4_1 ?q4_2 ?q4_3 ?q4_4 ?q4_5 ?q4_6 ?r5 ?gC5 ?hC5 ?cC5 ?mC5 ?v5 ?q5_0 ?q5_1 ?q5_2 ?q5_3 ?q5_4 ?q5_5 ?q5_6 ?r6 ?gC6 ?hC6 ?cC6 ?mC6 ?v6 ?q6_0 ?q6_1 ?q6_2 ?q6_3 ?q6_4 ?q6_5 ?q6_6 ?spc ?tks ?c_MOST_SIGNS ?c_MOST_SIZE ?c_MOST_WORDS ?z_ValueError ?z_all ?z_bool ?z_int ?z_isinstance ?z_len ?z_list ?z_min ?z_range ?z_sorted ?z_tuple ?a_is_among ?l_is_among ?cd_c_is_among ?k_is_among ?a_how_many ?l_how_many ?cd_c_how_many ?k_how_many ?a_need_size ?l_need_size ?cd_c_need_size ?k_need_size ?a_is_word ?l_is_word ?cd_c_is_word ?k_is_word ?a_need_book ?l_need_book ?cd_c_need_book ?k_need_book ?a_joints_of ?l_joints_of ?cd_c_joints_of ?k_joints_of ?a_joints ?l_joints ?cd_c_joints ?k_joints ?a_uneven_at ?l_uneven_at ?cd_c_uneven_at ?k_uneven_at ?a_come_to ?l_come_to ?cd_c_come_to ?k_come_to ?a_lack_of ?l_lack_of ?cd_c_lack_of ?k_lack_of ?a_lack ?l_lack ?cd_c_lack ?k_lack ?a__law_cell_at ?l__law_cell_at ?cd_c__law_cell_at ?k__law_cell_at ?a__law_classes ?l__law_classes ?cd_c__law_classes ?k__law_classes ?a__law_pair ?l__law_pair ?cd_c__law_pair ?k__law_pair ?a__law_word ?l__law_word ?cd_c__law_word ?k__law_word ?a__law_turns ?l__law_turns ?cd_c__law_turns ?k__law_turns ?a__law_book ?l__law_book ?cd_c__law_book ?k__law_book ?a__law_asked ?l__law_asked ?cd_c__law_asked ?k__law_asked ?a__law_joints ?l__law_joints ?cd_c__law_joints ?k__law_joints ?a__law_balance ?l__law_balance ?cd_c__law_balance ?k__law_balance ?a__law_is_apart ?l__law_is_apart ?cd_c__law_is_apart ?k__law_is_apart ?a__law_spread ?l__law_spread ?cd_c__law_spread ?k__law_spread ?a__law_right ?l__law_right ?cd_c__law_right ?k__law_right ?a_law ?l_law ?cd_c_law ?k_law
    (case aC0 => k_is)
    (case aC1 => k_is)
    (case aC2 => k_is)
    (case aC3 => k_is)
    (case aC4 => k_is)
    (case aC5 => k_is)
    (case aC6 => k_is)
    (case aC7 => k_is)
    (case xC2 => k_exc)
    (case kC2 => k_is)
    (case xC0 => k_exc)
    (case kC0 => k_is)
    (case sC0 => k_is)
    (case tC0 => k_is)
    (case sC1 => k_is)
    (case tC1 => k_is)
    (case sC2 => k_is)
    (case tC2 => k_is)
    (case sC3 => k_is)
    (case tC3 => k_is)
    (case sC4 => k_is)
    (case tC4 => k_is)
    (case sC5 => k_is)
    (case tC5 => k_is)
    (case sC6 => k_is)
    (case tC6 => k_is)
    (case sC7 => k_is)
    (case tC7 => k_is)
    (case dC0 => k_is)
    (case dC1 => k_is)
    (case dC2 => k_is)
    (case dC3 => k_is)
    (case dC4 => k_is)
    (case dC5 => k_is)
    (case dC6 => k_is)
    (case dC7 => k_is)
    (case r0 => k_is)
    (case gC0 => k_is)
    (case hC0 => k_is)
    (case cC0 => k_is)
    (case mC0 => k_is)
    (case v0 => k_is)
    (case q0_0 => first | rfl | k_is)
    (case q0_1 => k_is)
    (case q0_2 => k_is)
    (case q0_3 => k_is)
    (case q0_4 => k_is)
    (case q0_5 => k_is)
    (case q0_6 => k_is)
    (case r1 => k_is)
    (case gC1 => k_is)
    (case hC1 => k_is)
    (case cC1 => k_is)
    (case mC1 => k_is)
    (case v1 => k_is)
    (case q1_0 => k_is)
    (case q1_1 => first | rfl | k_is)
    (case q1_2 => k_is)
    (case q1_3 => k_is)
    (case q1_4 => k_is)
    (case q1_5 => k_is)
    (case q1_6 => k_is)
    (case r2 => k_is)
    (case gC2 => k_is)
    (case hC2 => k_is)
    (case cC2 => k_is)
    (case mC2 => k_is)
    (case v2 => k_is)
    (case q2_0 => k_is)
    (case q2_1 => k_is)
    (case q2_2 => first | rfl | k_is)
    (case q2_3 => k_is)
    (case q2_4 => k_is)
    (case q2_5 => k_is)
    (case q2_6 => k_is)
    (case r3 => k_is)
    (case gC3 => k_is)
    (case hC3 => k_is)
    (case cC3 => k_is)
    (case mC3 => k_is)
    (case v3 => k_is)
    (case q3_0 => k_is)
    (case q3_1 => k_is)
    (case q3_2 => k_is)
    (case q3_3 => first | rfl | k_is)
    (case q3_4 => k_is)
    (case q3_5 => k_is)
    (case q3_6 => k_is)
    (case r4 => k_is)
    (case gC4 => k_is)
    (case hC4 => k_is)
    (case cC4 => k_is)
    (case mC4 => k_is)
    (case v4 => k_is)
    (case q4_0 => k_is)
    (case q4_1 => k_is)
    (case q4_2 => k_is)
    (case q4_3 => k_is)
    (case q4_4 => first | rfl | k_is)
    (case q4_5 => k_is)
    (case q4_6 => k_is)
    (case r5 => k_is)
    (case gC5 => k_is)
    (case hC5 => k_is)
    (case cC5 => k_is)
    (case mC5 => k_is)
    (case v5 => k_is)
    (case q5_0 => k_is)
    (case q5_1 => k_is)
    (case q5_2 => k_is)
    (case q5_3 => k_is)
    (case q5_4 => k_is)
    (case q5_5 => first | rfl | k_is)
    (case q5_6 => k_is)
    (case r6 => k_is)
    (case gC6 => k_is)
    (case hC6 => k_is)
    (case cC6 => k_is)
    (case mC6 => k_is)
    (case v6 => k_is)
    (case q6_0 => k_is)
    (case q6_1 => k_is)
    (case q6_2 => k_is)
    (case q6_3 => k_is)
    (case q6_4 => k_is)
    (case q6_5 => k_is)
    (case q6_6 => first | rfl | k_is)
    (case spc => k_is)
    (case tks => k_is)
    (case c_MOST_SIGNS => k_is)
    (case c_MOST_SIZE => k_is)
    (case c_MOST_WORDS => k_is)
    (case z_ValueError => k_is)
    (case z_all => k_is)
    (case z_bool => k_is)
    (case z_int => k_is)
    (case z_isinstance => k_is)
    (case z_len => k_is)
    (case z_list => k_is)
    (case z_min => k_is)
    (case z_range => k_is)
    (case z_sorted => k_is)
    (case z_tuple => k_is)
    (case a_is_among => k_is)
    (case l_is_among => k_is)
    (case cd_c_is_among => k_is)
    (case k_is_among => k_is)
    (case a_how_many => k_is)
    (case l_how_many => k_is)
    (case cd_c_how_many => k_is)
    (case k_how_many => k_is)
    (case a_need_size => k_is)
    (case l_need_size => k_is)
    (case cd_c_need_size => k_is)
    (case k_need_size => k_is)
    (case a_is_word => k_is)
    (case l_is_word => k_is)
    (case cd_c_is_word => k_is)
    (case k_is_word => k_is)
    (case a_need_book => k_is)
    (case l_need_book => k_is)
    (case cd_c_need_book => k_is)
    (case k_need_book => k_is)
    (case a_joints_of => k_is)
    (case l_joints_of => k_is)
    (case cd_c_joints_of => k_is)
    (case k_joints_of => k_is)
    (case a_joints => k_is)
    (case l_joints => k_is)
    (case cd_c_joints => k_is)
    (case k_joints => k_is)
    (case a_uneven_at => k_is)
    (case l_uneven_at => k_is)
    (case cd_c_uneven_at => k_is)
    (case k_uneven_at => k_is)
    (case a_come_to => k_is)
    (case l_come_to => k_is)
    (case cd_c_come_to => k_is)
    (case k_come_to => k_is)
    (case a_lack_of => k_is)
    (case l_lack_of => k_is)
    (case cd_c_lack_of => k_is)
    (case k_lack_of => k_is)
    (case a_lack => k_is)
    (case l_lack => k_is)
    (case cd_c_lack => k_is)
    (case k_lack => k_is)
    (case a__law_cell_at => k_is)
    (case l__law_cell_at => k_is)
    (case cd_c__law_cell_at => k_is)
    (case k__law_cell_at => k_is)
    (case a__law_classes => k_is)
    (case l__law_classes => k_is)
    (case cd_c__law_classes => k_is)
    (case k__law_classes => k_is)
    (case a__law_pair => k_is)
    (case l__law_pair => k_is)
    (case cd_c__law_pair => k_is)
    (case k__law_pair => k_is)
    (case a__law_word => k_is)
    (case l__law_word => k_is)
    (case cd_c__law_word => k_is)
    (case k__law_word => k_is)
    (case a__law_turns => k_is)
    (case l__law_turns => k_is)
    (case cd_c__law_turns => k_is)
    (case k__law_turns => k_is)
    (case a__law_book => k_is)
    (case l__law_book => k_is)
    (case cd_c__law_book => k_is)
    (case k__law_book => k_is)
    (case a__law_asked => k_is)
    (case l__law_asked => k_is)
    (case cd_c__law_asked => k_is)
    (case k__law_asked => k_is)
    (case a__law_joints => k_is)
    (case l__law_joints => k_is)
    (case cd_c__law_joints => k_is)
    (case k__law_joints => k_is)
    (case a__law_balance => k_is)
    (case l__law_balance => k_is)
    (case cd_c__law_balance => k_is)
    (case k__law_balance => k_is)
    (case a__law_is_apart => k_is)
    (case l__law_is_apart => k_is)
    (case cd_c__law_is_apart => k_is)
    (case k__law_is_apart => k_is)
    (case a__law_spread => k_is)
    (case l__law_spread => k_is)
    (case cd_c__law_spread => k_is)
    (case k__law_spread => k_is)
    (case a__law_right => k_is)
    (case l__law_right => k_is)
    (case cd_c__law_right => k_is)
    (case k__law_right => k_is)
    (case a_law => k_is)
    (case l_law => k_is)
    (case cd_c_law => k_is)
    (case k_law => k_is)
