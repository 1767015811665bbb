import PyProof.Rows.All
import Wide.All
import OpenK.AllK
import Wide.FinOn
import HandS.ForMost
import HandS.Deep
import HandS.Flow
import HandS.Wide
import HandS.TupMul
import PyProof.TupleOfSeq
import HandS.IsInst
import KE.KUnpack
import HandS.Comp
import HandS.Ends
import HandS.More
import HandS.Remove
import KE.SortData
import KE.KRevSl
import PyProof.ReprRoads
import PyProof.ReprBulk
import KE.GoesEnum
import KE.GoesMore
import HandS.EndBits
import HandS.Conv
import KE.KIndexOf
import HandS.Zip
import HandS.Set
import HandS.SetFor
import PyProof.FitsInt
import HandS.Zip0
import KE.GoesEnumKw
import HandS.SortKw
import KE.DataMinMax
import KE.KDictKeyed
import HandS.TupLen
import HandS.TupSets
import KE.KTupSum
import KE.KMathGC
import PySem.Challenge.RW_netcodes_k73_whole_spans_and_partings
import KE.DatumOrd
set_option Elab.async false
set_option linter.all false
set_option maxRecDepth 100000
set_option maxHeartbeats 4000000
/-! Nt: a layer of whole data (PyData) over the hand layer: what a def makes of its arguments is one Lean function -/
namespace Nt
open PySem PySem.Spec PyProof.Rows L2

abbrev D := PyData
/-- all that G knows stands in H -/
def Sub (G H : Hp) : Prop := ∀ a o, G a = some o → H a = some o
theorem Sub.refl (G : Hp) : Sub G G := fun _ _ h => h
theorem Sub.trans {G H I : Hp} (x : Sub G H) (y : Sub H I) : Sub G I := fun a o h => y a o (x a o h)
theorem Sub.new {G H : Hp} {p : Addr} {o : HO} (x : Sub G H) (h : H p = none) : Sub G (upd H p o) := fun a u e => by
  have q := x a u e
  have hn : a ≠ p := by
    intro z
    subst z
    rw [h] at q
    cases q
  rw [upd_ne hn]
  exact q
theorem Sub.none {G H : Hp} {a : Addr} (x : Sub G H) (h : H a = none) : G a = none := by
  cases e : G a with
  | none => rfl
  | some o =>
    have q := x a o e
    rw [h] at q
    cases q
theorem Sub.rd {G H : Hp} {a : Addr} {u : HO} (x : Sub G H) (h : Rd G a u) : Rd H a u := by
  rcases h with h | ⟨o, h⟩
  · exact .inl (x _ _ h)
  · exact .inr ⟨o, x _ _ h⟩
theorem Sub.sqT {K : PySem.W.Frag} {G H : Hp} {a : Addr} {xs : List V} (x : Sub G H) (h : SqT K G a xs) : SqT K H a xs := by
  rcases h with h | h
  · exact .inl (x.rd h)
  · exact .inr h

def kD : Key → D
  | .inl i => .int i
  | .inr s => .str s

/-- a tuple without a dict of its own -/
def NdT (G : Hp) (a : Addr) (xs : List V) : Prop := ∃ o : Obj, G a = some (.frz o (.tup xs)) ∧ o.dict = none
theorem NdT.sqT {K : PySem.W.Frag} {G : Hp} {a : Addr} {xs : List V} (h : NdT G a xs) : SqT K G a xs := .inl (.inr ⟨h.choose, h.choose_spec.1⟩)
theorem NdT.mono {G H : Hp} {a : Addr} {xs : List V} (x : Sub G H) (h : NdT G a xs) : NdT H a xs := ⟨h.choose, x _ _ h.choose_spec.1, h.choose_spec.2⟩
theorem NdT.of {G : Hp} {a : Addr} {o : Obj} {xs : List V} (h : o.dict = none) : NdT (upd G a (.frz o (.tup xs))) a xs := ⟨o, upd_same, h⟩
/-! ### data that stand in a heap for good -/
mutual
inductive Rp (K : PySem.W.Frag) (G : Hp) : V → D → Prop
  | non : Rp K G .non .none
  | bl (b : Bool) : Rp K G (.bl b) (.bool b)
  | int (i : Int) : Rp K G (.int i) (.int i)
  | str (x : Str) : Rp K G (.str x) (.str x)
  | lst {a : Addr} {xs : List V} {ds : List D} : G a = some (.lst xs) → RpA K G xs ds → Rp K G (.ref a) (.list ds)
  | tup {a : Addr} {xs : List V} {ds : List D} : NdT G a xs → RpA K G xs ds → Rp K G (.ref a) (.tuple ds)
  | dic {a : Addr} {ks : List (Key × V)} {ds : List (D × D)} : G a = some (.dK ks) → RpK K G ks ds → Rp K G (.ref a) (.dict ds)
inductive RpA (K : PySem.W.Frag) (G : Hp) : List V → List D → Prop
  | nil : RpA K G [] []
  | cons {v : V} {vs : List V} {d : D} {ds : List D} : Rp K G v d → RpA K G vs ds → RpA K G (v :: vs) (d :: ds)
inductive RpK (K : PySem.W.Frag) (G : Hp) : List (Key × V) → List (D × D) → Prop
  | nil : RpK K G [] []
  | cons {k : Key} {v : V} {r : List (Key × V)} {d : D} {rs : List (D × D)} : Rp K G v d → RpK K G r rs → RpK K G ((k, v) :: r) ((kD k, d) :: rs)
end

section
variable {K : PySem.W.Frag} {G H : Hp}
mutual
theorem Rp.mono (s : Sub G H) : ∀ {v : V} {d : D}, Rp K G v d → Rp K H v d
  | _, _, .non => .non
  | _, _, .bl b => .bl b
  | _, _, .int i => .int i
  | _, _, .str x => .str x
  | _, _, .lst h r => .lst (s _ _ h) (RpA.mono s r)
  | _, _, .tup h r => .tup (h.mono s) (RpA.mono s r)
  | _, _, .dic h r => .dic (s _ _ h) (RpK.mono s r)
theorem RpA.mono (s : Sub G H) : ∀ {v : List V} {d : List D}, RpA K G v d → RpA K H v d
  | _, _, .nil => .nil
  | _, _, .cons h r => .cons (Rp.mono s h) (RpA.mono s r)
theorem RpK.mono (s : Sub G H) : ∀ {v : List (Key × V)} {d : List (D × D)}, RpK K G v d → RpK K H v d
  | _, _, .nil => .nil
  | _, _, .cons h r => .cons (Rp.mono s h) (RpK.mono s r)
end
theorem RpA.length : ∀ {vs : List V} {ds : List D}, RpA K G vs ds → vs.length = ds.length
  | _, _, .nil => rfl
  | _, _, .cons _ r => congrArg (· + 1) (RpA.length r)
theorem RpK.length : ∀ {vs : List (Key × V)} {ds : List (D × D)}, RpK K G vs ds → vs.length = ds.length
  | _, _, .nil => rfl
  | _, _, .cons _ r => congrArg (· + 1) (RpK.length r)
theorem RpA.append : ∀ {vs ws : List V} {ds es : List D}, RpA K G vs ds → RpA K G ws es → RpA K G (vs ++ ws) (ds ++ es)
  | _, _, _, _, .nil, s => s
  | _, _, _, _, .cons h r, s => .cons h (RpA.append r s)
theorem RpA.get : ∀ {vs : List V} {ds : List D} {i : Nat} {d : D}, RpA K G vs ds → ds[i]? = some d → ∃ v, vs[i]? = some v ∧ Rp K G v d
  | _, _, _, _, .nil, e => by simp at e
  | _, _, 0, _, .cons h r, e => by
    simp at e
    subst e
    exact ⟨_, rfl, h⟩
  | _, _, i + 1, _, .cons h r, e => by
    obtain ⟨v, h1, h2⟩ := RpA.get (i := i) r (by simpa using e)
    exact ⟨v, by simpa using h1, h2⟩
theorem RpA.take : ∀ {vs : List V} {ds : List D} (n : Nat), RpA K G vs ds → RpA K G (vs.take n) (ds.take n)
  | _, _, 0, _ => .nil
  | _, _, _ + 1, .nil => .nil
  | _, _, n + 1, .cons h r => .cons h (RpA.take n r)
theorem RpA.drop : ∀ {vs : List V} {ds : List D} (n : Nat), RpA K G vs ds → RpA K G (vs.drop n) (ds.drop n)
  | _, _, 0, r => r
  | _, _, _ + 1, .nil => .nil
  | _, _, n + 1, .cons h r => RpA.drop n r
theorem RpA.rev {vs : List V} {ds : List D} (h : RpA K G vs ds) : RpA K G vs.reverse ds.reverse := by
  have : ∀ {vs : List V} {ds : List D}, RpA K G vs ds → RpA K G vs.reverse ds.reverse := by
    intro vs
    induction vs with
    | nil => intro ds h; cases h; exact .nil
    | cons v vs ih =>
      intro ds h
      cases h with
      | cons h r =>
        rw [List.reverse_cons, List.reverse_cons]
        exact RpA.append (ih r) (.cons h .nil)
  exact this h
theorem RpA.set : ∀ {vs : List V} {ds : List D} (i : Nat) {v : V} {d : D}, RpA K G vs ds → Rp K G v d → RpA K G (vs.set i v) (ds.set i d)
  | _, _, _, _, _, .nil, _ => .nil
  | _, _, 0, _, _, .cons _ r, q => .cons q r
  | _, _, i + 1, _, _, .cons h r, q => .cons h (RpA.set i r q)
theorem RpA.erase : ∀ {vs : List V} {ds : List D} (i : Nat), RpA K G vs ds → RpA K G (vs.eraseIdx i) (ds.eraseIdx i)
  | _, _, _, .nil => .nil
  | _, _, 0, .cons _ r => r
  | _, _, i + 1, .cons h r => .cons h (RpA.erase i r)
theorem RpA.ints : ∀ {ns : List Int} {vs : List V}, RpA K G vs (ns.map PyData.int) → vs = ns.map V.int
  | [], _, .nil => rfl
  | _ :: _, _, .cons (.int i) r => by rw [List.map_cons, ← RpA.ints r]
theorem RpA.ofInts : ∀ ns : List Int, RpA K G (ns.map V.int) (ns.map PyData.int)
  | [] => .nil
  | n :: ns => .cons (.int n) (RpA.ofInts ns)
end

/-! ### owned data -/
inductive OwL (P : V → D → List Addr → Prop) : List V → List D → List Addr → Prop
  | nil : OwL P [] [] []
  | cons {v : V} {vs : List V} {d : D} {ds : List D} {f g : List Addr} : P v d f → OwL P vs ds g → OwL P (v :: vs) (d :: ds) (f ++ g)
def isCell : D → Bool
  | .list _ => true
  | .dict _ => true
  | _ => false
/-- v reads d, its cells of the first n layers (at f) are this value's own -/
def Ow (K : PySem.W.Frag) (G H : Hp) : Nat → V → D → List Addr → Prop
  | 0 => fun v d f => f = [] ∧ Rp K G v d
  | n + 1 => fun v d f => (isCell d = false ∧ f = [] ∧ Rp K G v d) ∨
      (∃ a vs ds g, v = .ref a ∧ d = .list ds ∧ f = a :: g ∧ H a = some (.lst vs) ∧ OwL (Ow K G H n) vs ds g) ∨
      (∃ a ks ds g, v = .ref a ∧ d = .dict ds ∧ f = a :: g ∧ H a = some (.dK ks) ∧ ds.map (·.1) = ks.map (fun p => kD p.1) ∧ OwL (Ow K G H n) (ks.map (·.2)) (ds.map (·.2)) g)

section
variable {K : PySem.W.Frag} {G G' H H' : Hp}
theorem OwL.imp {P Q : V → D → List Addr → Prop} : ∀ {vs : List V} {ds : List D} {f : List Addr}, OwL P vs ds f → (∀ v d g, (∀ a ∈ g, a ∈ f) → P v d g → Q v d g) → OwL Q vs ds f := by
  intro vs ds f h
  induction h with
  | nil => intro _; exact .nil
  | cons p r ih =>
    intro q
    exact .cons (q _ _ _ (fun a h => List.mem_append_left _ h) p) (ih fun v d g hg => q v d g fun a ha => List.mem_append_right _ (hg a ha))
theorem OwL.length {P : V → D → List Addr → Prop} {vs : List V} {ds : List D} {f : List Addr} (h : OwL P vs ds f) : vs.length = ds.length := by
  induction h with
  | nil => rfl
  | cons _ _ ih => rw [List.length_cons, List.length_cons, ih]
theorem OwL.append {P : V → D → List Addr → Prop} {vs ws : List V} {ds es : List D} {f g : List Addr} (h : OwL P vs ds f) (k : OwL P ws es g) : OwL P (vs ++ ws) (ds ++ es) (f ++ g) := by
  induction h with
  | nil => exact k
  | cons p r ih =>
    rw [List.append_assoc]
    exact .cons p ih
theorem Ow.mono (s : Sub G G') : ∀ {n : Nat} {v : V} {d : D} {f : List Addr}, (∀ a ∈ f, H' a = H a) → Ow K G H n v d f → Ow K G' H' n v d f := by
  intro n
  induction n with
  | zero => intro v d f _ h; exact ⟨h.1, h.2.mono s⟩
  | succ n ih =>
    intro v d f k h
    rcases h with ⟨a, b, c⟩ | ⟨a, vs, ds, g, e1, e2, e3, e4, r⟩ | ⟨a, ks, ds, g, e1, e2, e3, e4, e5, r⟩
    · exact .inl ⟨a, b, c.mono s⟩
    · subst e3
      exact .inr (.inl ⟨a, vs, ds, g, e1, e2, rfl, (k a List.mem_cons_self).trans e4, r.imp fun v d g' hg q => ih (fun b hb => k b (List.mem_cons_of_mem _ (hg b hb))) q⟩)
    · subst e3
      exact .inr (.inr ⟨a, ks, ds, g, e1, e2, rfl, (k a List.mem_cons_self).trans e4, e5, r.imp fun v d g' hg q => ih (fun b hb => k b (List.mem_cons_of_mem _ (hg b hb))) q⟩)
theorem OwL.rpA {P : V → D → List Addr → Prop} {vs : List V} {ds : List D} {f : List Addr} (h : OwL P vs ds f) (q : ∀ v d g, (∀ a ∈ g, a ∈ f) → P v d g → Rp K G v d) : RpA K G vs ds := by
  induction h with
  | nil => exact .nil
  | cons p r ih => exact .cons (q _ _ _ (fun a h => List.mem_append_left _ h) p) (ih fun v d g hg => q v d g fun a ha => List.mem_append_right _ (hg a ha))
theorem rpK_of : ∀ {ks : List (Key × V)} {ds : List (D × D)}, ds.map (·.1) = ks.map (fun p => kD p.1) → RpA K G (ks.map (·.2)) (ds.map (·.2)) → RpK K G ks ds
  | [], [], _, _ => .nil
  | [], _ :: _, e, _ => by simp at e
  | _ :: _, [], e, _ => by simp at e
  | (k, v) :: ks, (x, d) :: ds, e, r => by
    simp only [List.map_cons, List.cons.injEq] at e
    obtain ⟨e1, e2⟩ := e
    subst e1
    cases r with
    | cons h r => exact .cons h (rpK_of e2 r)
theorem rpK_keys : ∀ {ks : List (Key × V)} {ds : List (D × D)}, RpK K G ks ds → ds.map (·.1) = ks.map (fun p => kD p.1) ∧ RpA K G (ks.map (·.2)) (ds.map (·.2))
  | _, _, .nil => ⟨rfl, .nil⟩
  | _, _, .cons h r => ⟨by rw [List.map_cons, List.map_cons, (rpK_keys r).1], .cons h (rpK_keys r).2⟩
/-- what is owned, frozen -/
theorem Ow.rp : ∀ {n : Nat} {v : V} {d : D} {f : List Addr}, Sub G G' → (∀ a ∈ f, G' a = H a) → Ow K G H n v d f → Rp K G' v d := by
  intro n
  induction n with
  | zero => intro v d f s _ h; exact h.2.mono s
  | succ n ih =>
    intro v d f s k h
    rcases h with ⟨a, b, c⟩ | ⟨a, vs, ds, g, e1, e2, e3, e4, r⟩ | ⟨a, ks, ds, g, e1, e2, e3, e4, e5, r⟩
    · exact c.mono s
    · subst e1 e2 e3
      exact .lst ((k a List.mem_cons_self).trans e4) (r.rpA fun v d g' hg q => ih s (fun b hb => k b (List.mem_cons_of_mem _ (hg b hb))) q)
    · subst e1 e2 e3
      exact .dic ((k a List.mem_cons_self).trans e4) (rpK_of e5 (r.rpA fun v d g' hg q => ih s (fun b hb => k b (List.mem_cons_of_mem _ (hg b hb))) q))
theorem OwL.all {P : V → D → List Addr → Prop} {R : Addr → Prop} {vs : List V} {ds : List D} {f : List Addr} (h : OwL P vs ds f) (q : ∀ v d g, P v d g → ∀ a ∈ g, R a) : ∀ a ∈ f, R a := by
  induction h with
  | nil => intro a h; cases h
  | cons p r ih =>
    intro a h
    rcases List.mem_append.mp h with h | h
    · exact q _ _ _ p a h
    · exact ih a h
theorem Ow.live : ∀ {n : Nat} {v : V} {d : D} {f : List Addr}, Ow K G H n v d f → ∀ a ∈ f, H a ≠ none := by
  intro n
  induction n with
  | zero => intro v d f h a ha; rw [h.1] at ha; cases ha
  | succ n ih =>
    intro v d f h b hb
    rcases h with ⟨_, e, _⟩ | ⟨a, vs, ds, g, e1, e2, e3, e4, r⟩ | ⟨a, ks, ds, g, e1, e2, e3, e4, e5, r⟩
    · rw [e] at hb; cases hb
    · subst e3
      rcases List.mem_cons.mp hb with e | hb
      · subst e; rw [e4]; exact fun z => nomatch z
      · exact r.all (fun v d g q => ih q) b hb
    · subst e3
      rcases List.mem_cons.mp hb with e | hb
      · subst e; rw [e4]; exact fun z => nomatch z
      · exact r.all (fun v d g q => ih q) b hb
/-- shared data as owned ones -/
theorem RpA.owL0 : ∀ {vs : List V} {ds : List D}, RpA K G vs ds → OwL (Ow K G H 0) vs ds []
  | _, _, .nil => .nil
  | _, _, .cons h r => OwL.cons (f := []) (g := []) ⟨rfl, h⟩ (RpA.owL0 r)
theorem OwL.nil0 {vs : List V} {ds : List D} {f : List Addr} (h : OwL (Ow K G H 0) vs ds f) : f = [] ∧ RpA K G vs ds := by
  induction h with
  | nil => exact ⟨rfl, .nil⟩
  | cons p r ih =>
    obtain ⟨e, q⟩ := ih
    subst e
    obtain ⟨e, q'⟩ := p
    subst e
    exact ⟨rfl, .cons q' q⟩
/-- a new list of shared data is one's own -/
theorem Ow.new1 {a : Addr} {vs : List V} {ds : List D} (h : H a = some (.lst vs)) (r : RpA K G vs ds) : Ow K G H 1 (.ref a) (.list ds) [a] :=
  .inr (.inl ⟨a, vs, ds, [], rfl, rfl, rfl, h, r.owL0⟩)
theorem Ow.lst1 {v : V} {ds : List D} {f : List Addr} (h : Ow K G H 1 v (.list ds) f) : ∃ a vs, v = .ref a ∧ f = [a] ∧ H a = some (.lst vs) ∧ RpA K G vs ds := by
  rcases h with ⟨a, _, _⟩ | ⟨a, vs, ds', g, e1, e2, e3, e4, r⟩ | ⟨a, ks, ds', g, e1, e2, e3, e4, e5, r⟩
  · cases a
  · injection e2 with e2
    subst e2
    obtain ⟨e, q⟩ := r.nil0
    subst e
    exact ⟨a, vs, e1, e3, e4, q⟩
  · cases e2
theorem Ow.lstN {n : Nat} {v : V} {ds : List D} {f : List Addr} (h : Ow K G H (n + 1) v (.list ds) f) : ∃ a vs g, v = .ref a ∧ f = a :: g ∧ H a = some (.lst vs) ∧ OwL (Ow K G H n) vs ds g := by
  rcases h with ⟨a, _, _⟩ | ⟨a, vs, ds', g, e1, e2, e3, e4, r⟩ | ⟨a, ks, ds', g, e1, e2, e3, e4, e5, r⟩
  · cases a
  · injection e2 with e2
    subst e2
    exact ⟨a, vs, g, e1, e3, e4, r⟩
  · cases e2
theorem Ow.dicN {n : Nat} {v : V} {ds : List (D × D)} {f : List Addr} (h : Ow K G H (n + 1) v (.dict ds) f) : ∃ a ks g, v = .ref a ∧ f = a :: g ∧ H a = some (.dK ks) ∧ ds.map (·.1) = ks.map (fun p => kD p.1) ∧ OwL (Ow K G H n) (ks.map (·.2)) (ds.map (·.2)) g := by
  rcases h with ⟨a, _, _⟩ | ⟨a, vs, ds', g, e1, e2, e3, e4, r⟩ | ⟨a, ks, ds', g, e1, e2, e3, e4, e5, r⟩
  · cases a
  · cases e2
  · injection e2 with e2
    subst e2
    exact ⟨a, ks, g, e1, e3, e4, e5, r⟩
end

/-! ### slots -/
inductive Sl where
  | un
  | sh (d : D)
  | ow (n : Nat) (d : D)
abbrev Env := List Sl
def Rl (K : PySem.W.Frag) (G H : Hp) : Sl → Option (Option V) → List Addr → Prop
  | .un, _, f => f = []
  | .sh d, o, f => f = [] ∧ ∃ v, o = some (some v) ∧ Rp K G v d
  | .ow n d, o, f => ∃ v, o = some (some v) ∧ Ow K G H n v d f
abbrev Fp := Nat → List Addr
def fset (fp : Fp) (i : Nat) (f : List Addr) : Fp := fun j => if j = i then f else fp j
theorem fset_same {fp : Fp} {i : Nat} {f : List Addr} : fset fp i f i = f := if_pos rfl
theorem fset_ne {fp : Fp} {i j : Nat} {f : List Addr} (h : j ≠ i) : fset fp i f j = fp j := if_neg h
structure Sat (K : PySem.W.Frag) (ρ : Env) (σ : L2.St) (G H : Hp) (fp : Fp) : Prop where
  len : σ.length = ρ.length
  sl : ∀ i s, ρ[i]? = some s → Rl K G H s (σ[i]?) (fp i)
  out : ∀ i, ρ.length ≤ i → fp i = []
  dis : ∀ i j a, a ∈ fp i → a ∈ fp j → i = j
  nod : ∀ i, (fp i).Nodup
  fr : ∀ i a, a ∈ fp i → G a = none
  sub : Sub G H
/-- what an expression, a statement may do to the heaps -/
structure Stp (G H : Hp) (fp : Fp) (G' H' : Hp) (fp' : Fp) : Prop where
  g : Sub G G'
  h : ∀ a, (∀ i, a ∉ fp i) → H a ≠ none → H' a = H a
  t : ∀ a, H a ≠ none → H' a ≠ none
  f : ∀ i a, a ∈ fp' i → (∃ j, a ∈ fp j) ∨ H a = none
  n : ∀ a, G' a ≠ none → G a ≠ none ∨ (∃ j, a ∈ fp j) ∨ H a = none
theorem Stp.refl (G H : Hp) (fp : Fp) : Stp G H fp G H fp := ⟨Sub.refl G, fun _ _ _ => rfl, fun _ h => h, fun i a h => .inl ⟨i, h⟩, fun a h => .inl h⟩
theorem Stp.trans {G H G1 H1 G2 H2 : Hp} {fp fp1 fp2 : Fp} (x : Stp G H fp G1 H1 fp1) (y : Stp G1 H1 fp1 G2 H2 fp2) : Stp G H fp G2 H2 fp2 where
  g := x.g.trans y.g
  h := fun a h1 h2 => by
    have e := x.h a h1 h2
    refine (y.h a (fun i hi => ?_) (by rw [e]; exact h2)).trans e
    rcases x.f i a hi with ⟨j, z⟩ | z
    · exact h1 j z
    · exact h2 z
  t := fun a h => y.t a (x.t a h)
  f := fun i a h => by
    rcases y.f i a h with ⟨j, z⟩ | z
    · exact x.f j a z
    · exact .inr (Classical.byContradiction fun q => x.t a q z)
  n := fun a h => by
    rcases y.n a h with z | ⟨j, z⟩ | z
    · exact x.n a z
    · rcases x.f j a z with q | q
      · exact .inr (.inl q)
      · exact .inr (.inr q)
    · exact .inr (.inr (Classical.byContradiction fun q => x.t a q z))

section
variable {K : PySem.W.Frag} {ρ : Env} {σ : L2.St} {G H G' H' : Hp} {fp : Fp} {i : Nat} {d : D} {v : V} {n : Nat}
theorem Rl.mono {s : Sl} {o : Option (Option V)} {f : List Addr} (g : Sub G G') (k : ∀ a ∈ f, H' a = H a) (h : Rl K G H s o f) : Rl K G' H' s o f := by
  cases s with
  | un => exact h
  | sh d => obtain ⟨e, v, e2, r⟩ := h; exact ⟨e, v, e2, r.mono g⟩
  | ow n d => obtain ⟨v, e, r⟩ := h; exact ⟨v, e, r.mono g k⟩
/-- the slots are not touched -/
theorem Sat.keep (S : Sat K ρ σ G H fp) (g : Sub G G') (k : ∀ i a, a ∈ fp i → H' a = H a) (nn : ∀ i a, a ∈ fp i → G' a = none) (s : Sub G' H') : Sat K ρ σ G' H' fp :=
  ⟨S.len, fun i s e => (S.sl i s e).mono g (k i), S.out, S.dis, S.nod, nn, s⟩
theorem Sat.sh (S : Sat K ρ σ G H fp) (e : ρ[i]? = some (.sh d)) : ∃ v, σ[i]? = some (some v) ∧ Rp K G v d := (S.sl i _ e).2
theorem Sat.owd (S : Sat K ρ σ G H fp) (e : ρ[i]? = some (.ow n d)) : ∃ v, σ[i]? = some (some v) ∧ Ow K G H n v d (fp i) := S.sl i _ e
theorem Sat.live (S : Sat K ρ σ G H fp) {a : Addr} (h : a ∈ fp i) : H a ≠ none := by
  by_cases hi : i < ρ.length
  · have q := S.sl i ρ[i] (List.getElem?_eq_getElem hi)
    cases hs : ρ[i] with
    | un => rw [hs] at q; rw [show fp i = [] from q] at h; cases h
    | sh d => rw [hs] at q; rw [q.1] at h; cases h
    | ow n d => rw [hs] at q; obtain ⟨v, _, r⟩ := q; exact r.live a h
  · rw [S.out i (by omega)] at h; cases h
/-- a slot is stored -/
theorem Sat.put {s : Sl} {f : List Addr} (S : Sat K ρ σ G H fp) (hi : i < ρ.length) (r : Rl K G H s (some (some v)) f) (nd : f.Nodup) (fg : ∀ a ∈ f, G a = none) (df : ∀ j a, j ≠ i → a ∈ fp j → a ∉ f) :
    Sat K (ρ.set i s) (σ.set i (some v)) G H (fset fp i f) where
  len := by rw [List.length_set, List.length_set]; exact S.len
  sl := fun j t e => by
    by_cases hj : j = i
    · subst hj
      rw [List.getElem?_set_self hi] at e
      cases e
      rw [List.getElem?_set_self (by rw [S.len]; exact hi), fset_same]
      exact r
    · rw [List.getElem?_set_ne (Ne.symm hj)] at e
      rw [List.getElem?_set_ne (Ne.symm hj), fset_ne hj]
      exact S.sl j t e
  out := fun j hj => by
    rw [List.length_set] at hj
    rw [fset_ne (by omega)]
    exact S.out j hj
  dis := fun j k a h1 h2 => by
    by_cases hj : j = i
    · by_cases hk : k = i
      · rw [hj, hk]
      · subst hj
        rw [fset_same] at h1
        rw [fset_ne hk] at h2
        exact (df k a hk h2 h1).elim
    · by_cases hk : k = i
      · subst hk
        rw [fset_same] at h2
        rw [fset_ne hj] at h1
        exact (df j a hj h1 h2).elim
      · rw [fset_ne hj] at h1
        rw [fset_ne hk] at h2
        exact S.dis j k a h1 h2
  nod := fun j => by
    by_cases hj : j = i
    · subst hj; rw [fset_same]; exact nd
    · rw [fset_ne hj]; exact S.nod j
  fr := fun j a h => by
    by_cases hj : j = i
    · subst hj; rw [fset_same] at h; exact fg a h
    · rw [fset_ne hj] at h; exact S.fr j a h
  sub := S.sub
/-- a slot's reading changes, its value stays -/
theorem Sat.swap {s : Sl} {f : List Addr} (S : Sat K ρ σ G H fp) (hi : i < ρ.length) (r : Rl K G H s (σ[i]?) f) (nd : f.Nodup) (fg : ∀ a ∈ f, G a = none) (df : ∀ j a, j ≠ i → a ∈ fp j → a ∉ f) :
    Sat K (ρ.set i s) σ G H (fset fp i f) where
  len := by rw [List.length_set]; exact S.len
  sl := fun j t e => by
    by_cases hj : j = i
    · subst hj
      rw [List.getElem?_set_self hi] at e
      cases e
      rw [fset_same]
      exact r
    · rw [List.getElem?_set_ne (Ne.symm hj)] at e
      rw [fset_ne hj]
      exact S.sl j t e
  out := fun j hj => by
    rw [List.length_set] at hj
    rw [fset_ne (by omega)]
    exact S.out j hj
  dis := fun j k a h1 h2 => by
    by_cases hj : j = i
    · by_cases hk : k = i
      · rw [hj, hk]
      · subst hj
        rw [fset_same] at h1
        rw [fset_ne hk] at h2
        exact (df k a hk h2 h1).elim
    · by_cases hk : k = i
      · subst hk
        rw [fset_same] at h2
        rw [fset_ne hj] at h1
        exact (df j a hj h1 h2).elim
      · rw [fset_ne hj] at h1
        rw [fset_ne hk] at h2
        exact S.dis j k a h1 h2
  nod := fun j => by
    by_cases hj : j = i
    · subst hj; rw [fset_same]; exact nd
    · rw [fset_ne hj]; exact S.nod j
  fr := fun j a h => by
    by_cases hj : j = i
    · subst hj; rw [fset_same] at h; exact fg a h
    · rw [fset_ne hj] at h; exact S.fr j a h
  sub := S.sub

/-- the cells at f are frozen -/
def frz (G H : Hp) (f : List Addr) : Hp := fun a => if a ∈ f then H a else G a
theorem frz_in {f : List Addr} {a : Addr} (h : a ∈ f) : frz G H f a = H a := if_pos h
theorem frz_out {f : List Addr} {a : Addr} (h : a ∉ f) : frz G H f a = G a := if_neg h
theorem frz_sub {f : List Addr} (fg : ∀ a ∈ f, G a = none) : Sub G (frz G H f) := fun a o e => by
  by_cases h : a ∈ f
  · rw [fg a h] at e; cases e
  · rw [frz_out h]; exact e
theorem frz_sub' {f : List Addr} (s : Sub G H) : Sub (frz G H f) H := fun a o e => by
  by_cases h : a ∈ f
  · rw [frz_in h] at e; exact e
  · rw [frz_out h] at e; exact s a o e
/-- the name's data are shared from here on -/
theorem Sat.freeze (S : Sat K ρ σ G H fp) (e : ρ[i]? = some (.ow n d)) : ∃ v G', σ[i]? = some (some v) ∧ Rp K G' v d ∧ Sat K (ρ.set i (.sh d)) σ G' H (fset fp i []) ∧ Stp G H fp G' H (fset fp i []) := by
  obtain ⟨v, e2, r⟩ := S.owd e
  have hi : i < ρ.length := (List.getElem?_eq_some_iff.mp e).1
  have s1 : Sub G (frz G H (fp i)) := frz_sub fun a h => S.fr i a h
  have rp : Rp K (frz G H (fp i)) v d := Ow.rp s1 (fun a h => frz_in h) r
  refine ⟨v, frz G H (fp i), e2, rp, ?_, ?_⟩
  · have S1 : Sat K (ρ.set i (.sh d)) σ G H (fset fp i []) → True := fun _ => trivial
    refine ⟨by rw [List.length_set]; exact S.len, fun j t e => ?_, fun j hj => ?_, fun j k a h1 h2 => ?_, fun j => ?_, fun j a h => ?_, frz_sub' S.sub⟩
    · by_cases hj : j = i
      · subst hj
        rw [List.getElem?_set_self hi] at e
        cases e
        rw [fset_same]
        exact ⟨rfl, v, e2, rp⟩
      · rw [List.getElem?_set_ne (Ne.symm hj)] at e
        rw [fset_ne hj]
        exact (S.sl j t e).mono s1 fun _ _ => rfl
    · rw [List.length_set] at hj
      rw [fset_ne (by omega)]
      exact S.out j hj
    · by_cases hj : j = i
      · subst hj; rw [fset_same] at h1; cases h1
      · by_cases hk : k = i
        · subst hk; rw [fset_same] at h2; cases h2
        · rw [fset_ne hj] at h1
          rw [fset_ne hk] at h2
          exact S.dis j k a h1 h2
    · by_cases hj : j = i
      · subst hj; rw [fset_same]; exact List.nodup_nil
      · rw [fset_ne hj]; exact S.nod j
    · by_cases hj : j = i
      · subst hj; rw [fset_same] at h; cases h
      · rw [fset_ne hj] at h
        rw [frz_out fun z => hj (S.dis j i a h z)]
        exact S.fr j a h
  · refine ⟨s1, fun _ _ _ => rfl, fun _ h => h, fun j a h => ?_, fun a h => ?_⟩
    · by_cases hj : j = i
      · subst hj; rw [fset_same] at h; cases h
      · rw [fset_ne hj] at h; exact .inl ⟨j, h⟩
    · by_cases ha : a ∈ fp i
      · exact .inr (.inl ⟨i, ha⟩)
      · rw [frz_out ha] at h; exact .inl h
/-- a new object, not yet anybody's -/
theorem Stp.new {p : Addr} {o : HO} (h : H p = none) : Stp G H fp G (upd H p o) fp where
  g := Sub.refl G
  h := fun a _ ha => upd_ne fun z => ha (by rw [z]; exact h)
  t := fun a ha => by
    by_cases z : a = p
    · subst z; rw [upd_same]; exact fun q => nomatch q
    · rw [upd_ne z]; exact ha
  f := fun i a h => .inl ⟨i, h⟩
  n := fun a h => .inl h
theorem Sat.new (S : Sat K ρ σ G H fp) {p : Addr} {o : HO} (h : H p = none) : Sat K ρ σ G (upd H p o) fp :=
  S.keep (Sub.refl G) (fun i a ha => upd_ne fun z => S.live ha (by rw [z]; exact h)) (fun i a ha => S.fr i a ha) (S.sub.new h)
/-- a new object, frozen -/
theorem Sat.newF (S : Sat K ρ σ G H fp) {p : Addr} {o : HO} (h : H p = none) : Sat K ρ σ (upd G p o) (upd H p o) fp :=
  S.keep (Sub.new (Sub.refl G) (S.sub.none h)) (fun i a ha => upd_ne fun z => S.live ha (by rw [z]; exact h)) (fun i a ha => by
    rw [upd_ne fun z => S.live ha (by rw [z]; exact h)]; exact S.fr i a ha) (fun a u e => by
    by_cases z : a = p
    · subst z; rw [upd_same] at e ⊢; exact e
    · rw [upd_ne z] at e ⊢; exact S.sub a u e)
theorem Stp.newF {p : Addr} {o : HO} (s : Sub G H) (h : H p = none) : Stp G H fp (upd G p o) (upd H p o) fp where
  g := Sub.new (Sub.refl G) (s.none h)
  h := fun a _ ha => upd_ne fun z => ha (by rw [z]; exact h)
  t := fun a ha => by
    by_cases z : a = p
    · subst z; rw [upd_same]; exact fun q => nomatch q
    · rw [upd_ne z]; exact ha
  f := fun i a h => .inl ⟨i, h⟩
  n := fun a ha => by
    by_cases z : a = p
    · subst z; exact .inr (.inr h)
    · rw [upd_ne z] at ha; exact .inl ha
end
end Nt

/-! tuples that are made: they have no dict of their own -/
namespace Nt
open PySem PySem.Spec PyProof.Rows L2
section
variable {X : Cx} {pins : List (Addr × Obj)} {σ : L2.St} {H : Hp} {s : Shared}
abbrev tupO (us : Array Value) : Obj := { cls := .type "tuple", data := .seq us }
/-- where a new tuple may stand -/
def NewT (H : Hp) (xs : List V) (Q : VK) : Prop := ∀ p o, H p = none → o.dict = none → Q (.ref p) (upd H p (.frz o (.tup xs)))
theorem tup_at {H2 : Hp} {h2 : Heap} {xs : List V} {us : List Value} {o : Obj} {a : Addr} (hz : xs.length ≤ sizeLine) (r : Vals xs us) (g : h2.get? a = some o) (hc : o.cls = .type "tuple") (hd : o.data = .seq us.toArray) :
    ObjOk X.prog X.w H2 h2 a (.frz o (.tup xs)) := ⟨g, hz, us, r, o, g, hc, 0, hd⟩
theorem tup_new {xs : List V} {us : List Value} {t' : Nat} (I : Inv X pins σ H s) (hz : xs.length ≤ sizeLine) (r : Vals xs us) : Inv X pins σ (upd H s.heap.objs.size (.frz (tupO us.toArray) (.tup xs))) { s with heap := s.heap.push (tupO us.toArray), toks := t' } :=
  Inv.laid I (fun _ _ g => Heap.get?_push_of_some _ g) (Nat.le_refl _) (tup_at hz r (Heap.get?_push_size _ rfl) rfl rfl)
theorem tup_fin {xs : List V} {us : List Value} {Q : VK} (I : Inv X pins σ H s) (hz : xs.length ≤ sizeLine) (r : Vals xs us) (q : NewT H xs Q) : EP X pins σ Q (.ref s.heap.objs.size) { s with heap := s.heap.push (tupO us.toArray) } :=
  ⟨.ref s.heap.objs.size, _, tup_new (t' := s.toks) I hz r, rfl, q _ _ I.fresh rfl⟩
/-! ### a display -/
def tTupN (t : TA) : TE := fun σ H Q => t σ H fun xs H1 => xs.length ≤ sizeLine ∧ NewT H1 xs Q
theorem pe_tupN {t : TA} {es : List Expr} {j : Nat} {pos : Pos} (h : PA X es t) : PE X (.Tuple es j pos) (tTupN t) :=
  ⟨fun ps s0 σ0 H0 Q I0 q0 => wpAny_Tuple_spliced (thn (h.run pos ps s0 σ0 H0 _ I0 q0) fun us s2 ⟨xs, H2, I2, r, hz, q⟩ => ⟨by have := r.length; omega, tup_fin I2 hz r q⟩)⟩
/-! ### t + u, t not empty -/
def rCatN (K : PySem.W.Frag) : R2 := fun x y H Q => ∃ a b xs ys, x = .ref a ∧ y = .ref b ∧ SqT K H a xs ∧ SqT K H b ys ∧ xs ≠ [] ∧ xs.length + ys.length ≤ sizeLine ∧ (ys = [] → Q (.ref a) H) ∧ (ys ≠ [] → NewT H (xs ++ ys) Q)
theorem op_catN : OpR X (binaryOp .Add) (rCatN X.K) := fun ps s0 σ0 H0 x y v u Q I0 rx ry ⟨a, b, xs, ys, ex, ey, ha, hb, hx, hz, q1, q2⟩ => by
  subst ex ey
  cases rx; cases ry
  obtain ⟨us, ru, pu, _⟩ := I0.tuple ha
  obtain ⟨ws, rw_, pw, _⟩ := I0.tuple hb
  have l1 := ru.length
  have l2 := rw_.length
  exact HT.cat_tup pu pw (fun e => hx (ru.nil_iff.mp e)) (fun e => ⟨.ref a, H0, I0, rfl, q1 (rw_.nil_iff.mp e)⟩) (fun e => tup_fin I0 (by rw [List.length_append]; omega) (ru.append rw_) (q2 fun z => e (rw_.nil_iff.mpr z))) (by omega)
/-! ### t[lo:hi] -/
def rSlN (K : PySem.W.Frag) : V → Option Int → Option Int → Hp → VK → Prop := fun x lo hi H Q => ∃ a xs, x = .ref a ∧ SqT K H a xs ∧ ¬ (HT.sIx xs.length 0 lo = 0 ∧ HT.sIx xs.length xs.length hi = xs.length) ∧ NewT H (cutV xs lo hi) Q
theorem sl_tupN : SlR X (rSlN X.K) := fun ps s0 σ0 H0 x v vl vu lo hi sl Q I0 rx hs pl pu ⟨a, xs, ex, hx, hw, q⟩ => by
  subst ex
  cases rx
  obtain ⟨us, r, ht, hz⟩ := I0.tuple hx
  have hn : us.toArray.size = xs.length := by have := r.length; rw [List.size_toArray]; omega
  have ln := cutV_length xs lo hi
  refine ⟨"tuple", _, PyProof.Rows.slot_tuple_getitem.lookup, ht.typeIs, HT.getItem_tuple_cut ht hs pl pu (by rw [hn]; exact hw) ?_ (by omega)⟩
  rw [hn]
  exact tup_fin (xs := cutV xs lo hi) I0 (by omega) ((r.drop _).take _) q
/-! ### tuple(x) -/
def rTupN (K : PySem.W.Frag) : List V → Hp → VK → Prop := fun xs H Q => ∃ p ys, xs = [.ref p] ∧ (SqL K H p ys ∧ NewT H ys Q ∨ SqT K H p ys ∧ Q (.ref p) H)
theorem call_tupN : CallR X (.type "tuple") (rTupN X.K) := fun ps s0 σ0 H0 xs us Q I0 r ⟨p, ys, e, h⟩ => by
  subst e
  obtain ⟨u, rfl, ru⟩ := vals1 r
  cases ru
  rcases h with ⟨hq, q⟩ | ⟨hq, q⟩
  · obtain ⟨ws, r2, pl, hz⟩ := I0.list hq
    have hn := r2.length
    exact call_tuple_list pl.isList (fun h' kp => tup_fin (I0.kept (t' := s0.toks) kp) hz r2 q) (by rw [List.size_toArray]; omega)
  · obtain ⟨ws, r2, pl, hz⟩ := I0.tuple hq
    exact call_tuple_same pl ⟨.ref p, H0, I0, rfl, q⟩
end
end Nt

/-! the readings by one function each -/
namespace Nt
open PySem PySem.Spec PyProof.Rows L2

abbrev Mo (α : Type) := Env → Option (α × Env)
inductive Opd where
  | val (d : D)
  | sl (i : Nat)
def OpdR (K : PySem.W.Frag) (G : Hp) (σ : L2.St) (v : V) : Opd → Prop
  | .val d => Rp K G v d
  | .sl i => σ[i]? = some (some v)
/-- data that are at hand -/
def rs (ρ : Env) : Opd → Option D
  | .val d => some d
  | .sl i => match ρ[i]? with
    | some (.sh d) => some d
    | some (.ow _ d) => some d
    | _ => none
/-- .. whose items are shared -/
def rs1 (ρ : Env) : Opd → Option D
  | .val d => some d
  | .sl i => match ρ[i]? with
    | some (.sh d) => some d
    | some (.ow 0 d) => some d
    | some (.ow 1 d) => some d
    | _ => none
/-- a value that nobody else has: its cells -/
structure Tmp (H : Hp) (fp : Fp) (G' : Hp) (fp' : Fp) (f : List Addr) : Prop where
  nd : f.Nodup
  g : ∀ a ∈ f, G' a = none
  d : ∀ a ∈ f, ∀ i, a ∉ fp' i
  o : ∀ a ∈ f, (∃ j, a ∈ fp j) ∨ H a = none

def RE (K : PySem.W.Frag) (t : TE) (f : Mo D) : Prop := ∀ ρ d ρ', f ρ = some (d, ρ') → ∀ σ G H fp, Sat K ρ σ G H fp → ∀ Q : VK,
  (∀ v G' H' fp', Stp G H fp G' H' fp' → Sat K ρ' σ G' H' fp' → Rp K G' v d → Q v H') → t σ H Q
def RO (K : PySem.W.Frag) (t : TE) (f : Mo Opd) : Prop := ∀ ρ d ρ', f ρ = some (d, ρ') → ∀ σ G H fp, Sat K ρ σ G H fp → ∀ Q : VK,
  (∀ v G' H' fp', Stp G H fp G' H' fp' → Sat K ρ' σ G' H' fp' → OpdR K G' σ v d → Q v H') → t σ H Q
def RW (K : PySem.W.Frag) (n : Nat) (t : TE) (f : Mo D) : Prop := ∀ ρ d ρ', f ρ = some (d, ρ') → ∀ σ G H fp, Sat K ρ σ G H fp → ∀ Q : VK,
  (∀ v G' H' fp' f0, Stp G H fp G' H' fp' → Sat K ρ' σ G' H' fp' → Ow K G' H' n v d f0 → Tmp H fp G' fp' f0 → Q v H') → t σ H Q
def RT (K : PySem.W.Frag) (t : TT) (f : Mo Bool) : Prop := ∀ ρ d ρ', f ρ = some (d, ρ') → ∀ σ G H fp, Sat K ρ σ G H fp → ∀ Q : Bool → Hp → Prop,
  (∀ G' H' fp', Stp G H fp G' H' fp' → Sat K ρ' σ G' H' fp' → Q d H') → t σ H Q
inductive OpdsR (K : PySem.W.Frag) (G : Hp) (σ : L2.St) : List V → List Opd → Prop
  | nil : OpdsR K G σ [] []
  | cons {v : V} {vs : List V} {o : Opd} {os : List Opd} : OpdR K G σ v o → OpdsR K G σ vs os → OpdsR K G σ (v :: vs) (o :: os)
def RA (K : PySem.W.Frag) (t : TA) (f : Mo (List Opd)) : Prop := ∀ ρ d ρ', f ρ = some (d, ρ') → ∀ σ G H fp, Sat K ρ σ G H fp → ∀ Q : List V → Hp → Prop,
  (∀ v G' H' fp', Stp G H fp G' H' fp' → Sat K ρ' σ G' H' fp' → OpdsR K G' σ v d → Q v H') → t σ H Q

section
variable {K : PySem.W.Frag} {ρ ρ' : Env} {σ : L2.St} {G G' H H' : Hp} {fp fp' : Fp} {v w : V} {d e : D} {o : Opd}
theorem OpdR.mono (s : Sub G G') (h : OpdR K G σ v o) : OpdR K G' σ v o := by
  cases o with
  | val d => exact Rp.mono s h
  | sl i => exact h
theorem OpdsR.mono (s : Sub G G') {vs : List V} {os : List Opd} (h : OpdsR K G σ vs os) : OpdsR K G' σ vs os := by
  induction h with
  | nil => exact .nil
  | cons p r ih => exact .cons (p.mono s) ih
/-- as it stands now -/
theorem rs_rp (S : Sat K ρ σ G H fp) (h : OpdR K G σ v o) (e : rs ρ o = some d) : Rp K H v d := by
  cases o with
  | val d' =>
    simp only [rs, Option.some.injEq] at e
    subst e
    exact Rp.mono S.sub h
  | sl i =>
    simp only [rs] at e
    split at e
    · rename_i d' e1
      cases e
      obtain ⟨v', e2, r⟩ := S.sh e1
      rw [show σ[i]? = some (some v) from h] at e2
      cases e2
      exact r.mono S.sub
    · rename_i n d' e1
      cases e
      obtain ⟨v', e2, r⟩ := S.owd e1
      rw [show σ[i]? = some (some v) from h] at e2
      cases e2
      exact r.rp S.sub fun a _ => rfl
    · cases e
/-- its items are shared -/
inductive R1 (K : PySem.W.Frag) (G H : Hp) : V → D → Prop
  | rp {v : V} {d : D} : Rp K G v d → R1 K G H v d
  | lst {a : Addr} {vs : List V} {ds : List D} : H a = some (.lst vs) → RpA K G vs ds → R1 K G H (.ref a) (.list ds)
  | dic {a : Addr} {ks : List (Key × V)} {ds : List (D × D)} : H a = some (.dK ks) → RpK K G ks ds → R1 K G H (.ref a) (.dict ds)
theorem Ow.r1 {f : List Addr} (h : Ow K G H 1 v d f) : R1 K G H v d := by
  rcases h with ⟨_, _, c⟩ | ⟨a, vs, ds, g, e1, e2, e3, e4, r⟩ | ⟨a, ks, ds, g, e1, e2, e3, e4, e5, r⟩
  · exact .rp c
  · subst e1 e2
    exact .lst e4 r.nil0.2
  · subst e1 e2
    exact .dic e4 (rpK_of e5 r.nil0.2)
theorem rs1_r (S : Sat K ρ σ G H fp) (h : OpdR K G σ v o) (e : rs1 ρ o = some d) : R1 K G H v d := by
  cases o with
  | val d' =>
    simp only [rs1, Option.some.injEq] at e
    subst e
    exact .rp h
  | sl i =>
    simp only [rs1] at e
    split at e
    · rename_i d' e1
      cases e
      obtain ⟨v', e2, r⟩ := S.sh e1
      rw [show σ[i]? = some (some v) from h] at e2
      cases e2
      exact .rp r
    · rename_i d' e1
      cases e
      obtain ⟨v', e2, r⟩ := S.owd e1
      rw [show σ[i]? = some (some v) from h] at e2
      cases e2
      exact .rp r.2
    · rename_i d' e1
      cases e
      obtain ⟨v', e2, r⟩ := S.owd e1
      rw [show σ[i]? = some (some v) from h] at e2
      cases e2
      exact r.r1
    · cases e
theorem R1.list {ds : List D} (s : Sub G H) (h : R1 K G H v (.list ds)) : ∃ a vs, v = .ref a ∧ H a = some (.lst vs) ∧ RpA K G vs ds := by
  cases h with
  | rp h =>
    cases h with
    | lst e r => exact ⟨_, _, rfl, s _ _ e, r⟩
  | lst e r => exact ⟨_, _, rfl, e, r⟩
theorem R1.tuple {ds : List D} (s : Sub G H) (h : R1 K G H v (.tuple ds)) : ∃ a vs, v = .ref a ∧ SqT K H a vs ∧ NdT G a vs ∧ RpA K G vs ds := by
  cases h with
  | rp h =>
    cases h with
    | tup e r => exact ⟨_, _, rfl, s.sqT e.sqT, e, r⟩
theorem R1.dict {ds : List (D × D)} (s : Sub G H) (h : R1 K G H v (.dict ds)) : ∃ a ks, v = .ref a ∧ H a = some (.dK ks) ∧ RpK K G ks ds := by
  cases h with
  | rp h =>
    cases h with
    | dic e r => exact ⟨_, _, rfl, s _ _ e, r⟩
  | dic e r => exact ⟨_, _, rfl, e, r⟩
theorem R1.int {i : Int} (h : R1 K G H v (.int i)) : v = .int i := by
  cases h with
  | rp h => cases h; rfl
theorem R1.str {i : Str} (h : R1 K G H v (.str i)) : v = .str i := by
  cases h with
  | rp h => cases h; rfl
theorem R1.bool {i : Bool} (h : R1 K G H v (.bool i)) : v = .bl i := by
  cases h with
  | rp h => cases h; rfl
theorem R1.none (h : R1 K G H v .none) : v = .non := by
  cases h with
  | rp h => cases h; rfl
theorem Rp.list' {ds : List D} (h : Rp K G v (.list ds)) : ∃ a vs, v = .ref a ∧ G a = some (.lst vs) ∧ RpA K G vs ds := by
  cases h with
  | lst e r => exact ⟨_, _, rfl, e, r⟩
theorem Rp.tuple' {ds : List D} (h : Rp K G v (.tuple ds)) : ∃ a vs, v = .ref a ∧ SqT K G a vs ∧ RpA K G vs ds := by
  cases h with
  | tup e r => exact ⟨_, _, rfl, e.sqT, r⟩
theorem Rp.tupN {ds : List D} (h : Rp K G v (.tuple ds)) : ∃ a vs, v = .ref a ∧ NdT G a vs ∧ RpA K G vs ds := by
  cases h with
  | tup e r => exact ⟨_, _, rfl, e, r⟩
theorem Rp.dict' {ds : List (D × D)} (h : Rp K G v (.dict ds)) : ∃ a ks, v = .ref a ∧ G a = some (.dK ks) ∧ RpK K G ks ds := by
  cases h with
  | dic e r => exact ⟨_, _, rfl, e, r⟩
theorem Rp.int' {i : Int} (h : Rp K G v (.int i)) : v = .int i := by cases h; rfl
theorem Rp.str' {i : Str} (h : Rp K G v (.str i)) : v = .str i := by cases h; rfl
theorem Rp.bool' {i : Bool} (h : Rp K G v (.bool i)) : v = .bl i := by cases h; rfl
theorem Rp.none' (h : Rp K G v .none) : v = .non := by cases h; rfl
/-- what is owned becomes shared -/
theorem Tmp.freeze {n : Nat} {f : List Addr} {G0 H0 : Hp} {fp0 : Fp} (S : Sat K ρ σ G H fp) (st : Stp G0 H0 fp0 G H fp) (h : Ow K G H n v d f) (t : Tmp H0 fp0 G fp f) :
    ∃ G', Stp G0 H0 fp0 G' H fp ∧ Sat K ρ σ G' H fp ∧ Rp K G' v d := by
  have s1 : Sub G (frz G H f) := frz_sub t.g
  refine ⟨frz G H f, ⟨st.g.trans s1, st.h, st.t, st.f, fun a ha => ?_⟩, S.keep s1 (fun _ _ _ => rfl) (fun i a ha => ?_) (frz_sub' S.sub), h.rp s1 fun a ha => frz_in ha⟩
  · by_cases hf : a ∈ f
    · exact .inr (t.o a hf)
    · rw [frz_out hf] at ha
      exact st.n a ha
  · rw [frz_out fun hf => t.d a hf i ha]
    exact S.fr i a ha
end

/-! ### from one kind to another -/
def mV (f : Mo D) : Mo Opd := fun ρ => match f ρ with
  | some (d, ρ1) => some (.val d, ρ1)
  | none => none
section
variable {K : PySem.W.Frag} {t ta tb : TE} {n : Nat}
theorem re_of_rw {f : Mo D} (h : RW K n t f) : RE K t f := fun ρ d ρ' e σ G H fp S Q q =>
  h ρ d ρ' e σ G H fp S Q fun v G' H' fp' f0 st S' ow tm => by
    obtain ⟨G2, st2, S2, rp⟩ := tm.freeze S' st ow
    exact q v G2 H' fp' st2 S2 rp
theorem rw0_of_re {f : Mo D} (h : RE K t f) : RW K 0 t f := fun ρ d ρ' e σ G H fp S Q q =>
  h ρ d ρ' e σ G H fp S Q fun v G' H' fp' st S' rp => q v G' H' fp' [] st S' ⟨rfl, rp⟩ ⟨List.nodup_nil, fun _ h => (nomatch h), fun _ h => (nomatch h), fun _ h => (nomatch h)⟩
theorem ro_of_re {f : Mo D} (h : RE K t f) : RO K t (mV f) := fun ρ d ρ' e σ G H fp S Q q => by
  unfold mV at e
  split at e
  · rename_i d' ρ1 e1
    cases e
    exact h ρ _ _ e1 σ G H fp S Q fun v G' H' fp' st S' rp => q v G' H' fp' st S' rp
  · cases e

/-! ### names, constants -/
def mName (i : Nat) : Mo D := fun ρ => match ρ[i]? with
  | some (.sh d) => some (d, ρ)
  | some (.ow _ d) => some (d, ρ.set i (.sh d))
  | _ => none
def mSlot (i : Nat) : Mo Opd := fun ρ => if (rs ρ (.sl i)).isSome then some (.sl i, ρ) else none
def mC (d : D) : Mo D := fun ρ => some (d, ρ)
theorem re_name {i : Nat} : RE K (tVar i) (mName i) := fun ρ d ρ' e σ G H fp S Q q => by
  unfold mName at e
  split at e
  · rename_i d' e1
    cases e
    obtain ⟨v, e2, r⟩ := S.sh e1
    exact ⟨v, e2, q v G H fp (Stp.refl _ _ _) S r⟩
  · rename_i n d' e1
    cases e
    obtain ⟨v, G', e2, r, S', st⟩ := S.freeze e1
    exact ⟨v, e2, q v G' H _ st S' r⟩
  · cases e
theorem ro_slot {i : Nat} : RO K (tVar i) (mSlot i) := fun ρ d ρ' e σ G H fp S Q q => by
  unfold mSlot at e
  split at e
  · rename_i h
    cases e
    simp only [rs] at h
    split at h
    · rename_i d' e1
      obtain ⟨v, e2, r⟩ := S.sh e1
      exact ⟨v, e2, q v G H fp (Stp.refl _ _ _) S e2⟩
    · rename_i n d' e1
      obtain ⟨v, e2, r⟩ := S.owd e1
      exact ⟨v, e2, q v G H fp (Stp.refl _ _ _) S e2⟩
    · cases h
  · cases e
theorem re_c {v : V} {d : D} (h : ∀ G, Rp K G v d) : RE K (tC v) (mC d) := fun ρ d' ρ' e σ G H fp S Q q => by
  cases e
  exact q v G H fp (Stp.refl _ _ _) S (h G)
theorem re_int {i : Int} : RE K (tC (.int i)) (mC (.int i)) := re_c fun _ => .int i
theorem re_bl {b : Bool} : RE K (tC (.bl b)) (mC (.bool b)) := re_c fun _ => .bl b
theorem re_non : RE K (tC .non) (mC .none) := re_c fun _ => .non
theorem re_str {x : Str} : RE K (tC (.str x)) (mC (.str x)) := re_c fun _ => .str x

/-! ### two operands -/
/-- scalars as values -/
def toV : D → Option V
  | .none => some .non
  | .bool b => some (.bl b)
  | .int i => some (.int i)
  | .str x => some (.str x)
  | _ => none
theorem toV_rp {G : Hp} {d : D} {v : V} (h : toV d = some v) : Rp K G v d := by
  cases d <;> simp only [toV, Option.some.injEq, reduceCtorEq] at h <;> subst h <;> constructor
def m2 (r : Env → Opd → Option D) (g : D → D → Option D) (fa fb : Mo Opd) : Mo D := fun ρ => match fa ρ with
  | none => none
  | some (a, ρ1) => match fb ρ1 with
    | none => none
    | some (b, ρ2) => match r ρ2 a, r ρ2 b with
      | some x, some y => match g x y with
        | some z => some (z, ρ2)
        | none => none
      | _, _ => none
theorem m2_some {r : Env → Opd → Option D} {g : D → D → Option D} {fa fb : Mo Opd} {ρ ρ' : Env} {z : D} (h : m2 r g fa fb ρ = some (z, ρ')) :
    ∃ a ρ1 b x y, fa ρ = some (a, ρ1) ∧ fb ρ1 = some (b, ρ') ∧ r ρ' a = some x ∧ r ρ' b = some y ∧ g x y = some z := by
  unfold m2 at h
  split at h
  · cases h
  · rename_i a ρ1 e1
    split at h
    · cases h
    · rename_i b ρ2 e2
      split at h
      · rename_i x y e3 e4
        split at h
        · rename_i z' e5
          cases h
          exact ⟨a, ρ1, b, x, y, e1, e2, e3, e4, e5⟩
        · cases h
      · cases h
/-- a two-place operation whose result is a scalar -/
theorem re_op {fa fb : Mo Opd} {r : R2} {g : D → D → Option D} (ha : RO K ta fa) (hb : RO K tb fb)
    (ok : ∀ (H : Hp) (v w : V) (d e z : D), Rp K H v d → Rp K H w e → g d e = some z → ∃ u, toV z = some u ∧ ∀ Q : VK, Q u H → r v w H Q) : RE K (tOp r ta tb) (m2 rs g fa fb) := fun ρ z ρ' e σ G H fp S Q q => by
  obtain ⟨a, ρ1, b, x, y, e1, e2, e3, e4, e5⟩ := m2_some e
  refine ha ρ a ρ1 e1 σ G H fp S _ fun v G1 H1 fp1 st1 S1 r1 => ?_
  refine hb ρ1 b ρ' e2 σ G1 H1 fp1 S1 _ fun w G2 H2 fp2 st2 S2 r2 => ?_
  obtain ⟨u, hu, k⟩ := ok H2 v w x y z (rs_rp S2 (r1.mono st2.g) e3) (rs_rp S2 r2 e4) e5
  exact k Q (q u G2 H2 fp2 (st1.trans st2) S2 (toV_rp hu))
/-- .. whose result may be a new object -/
theorem re_opN {fa fb : Mo Opd} {r : R2} {g : D → D → Option D} (ha : RO K ta fa) (hb : RO K tb fb)
    (ok : ∀ (G H : Hp) (v w : V) (d e z : D), Sub G H → R1 K G H v d → R1 K G H w e → g d e = some z →
      ∀ Q : VK, (∀ u, Rp K G u z → Q u H) → (∀ p o u, H p = none → Rp K (upd G p o) u z → Q u (upd H p o)) → r v w H Q) : RE K (tOp r ta tb) (m2 rs1 g fa fb) := fun ρ z ρ' e σ G H fp S Q q => by
  obtain ⟨a, ρ1, b, x, y, e1, e2, e3, e4, e5⟩ := m2_some e
  refine ha ρ a ρ1 e1 σ G H fp S _ fun v G1 H1 fp1 st1 S1 r1 => ?_
  refine hb ρ1 b ρ' e2 σ G1 H1 fp1 S1 _ fun w G2 H2 fp2 st2 S2 r2 => ?_
  refine ok G2 H2 v w x y z S2.sub (rs1_r S2 (r1.mono st2.g) e3) (rs1_r S2 r2 e4) e5 Q (fun u ru => q u G2 H2 fp2 (st1.trans st2) S2 ru) fun p o u hp ru => ?_
  exact q u (upd G2 p o) (upd H2 p o) fp2 ((st1.trans st2).trans (Stp.newF S2.sub hp)) (S2.newF hp) ru
/-- .. is a new list of one's own -/
theorem rw_opL {fa fb : Mo Opd} {r : R2} {g : D → D → Option D} (ha : RO K ta fa) (hb : RO K tb fb)
    (ok : ∀ (G H : Hp) (v w : V) (d e z : D), Sub G H → R1 K G H v d → R1 K G H w e → g d e = some z →
      ∀ Q : VK, (∀ p vs ds, H p = none → z = .list ds → RpA K G vs ds → Q (.ref p) (upd H p (.lst vs))) → r v w H Q) : RW K 1 (tOp r ta tb) (m2 rs1 g fa fb) := fun ρ z ρ' e σ G H fp S Q q => by
  obtain ⟨a, ρ1, b, x, y, e1, e2, e3, e4, e5⟩ := m2_some e
  refine ha ρ a ρ1 e1 σ G H fp S _ fun v G1 H1 fp1 st1 S1 r1 => ?_
  refine hb ρ1 b ρ' e2 σ G1 H1 fp1 S1 _ fun w G2 H2 fp2 st2 S2 r2 => ?_
  refine ok G2 H2 v w x y z S2.sub (rs1_r S2 (r1.mono st2.g) e3) (rs1_r S2 r2 e4) e5 Q fun p vs ds hp hz rp => ?_
  subst hz
  refine q _ G2 _ fp2 [p] ((st1.trans st2).trans (Stp.new hp)) (S2.new hp) (Ow.new1 upd_same rp) ⟨by simp, fun a ha => ?_, fun a ha i hi => ?_, fun a ha => ?_⟩
  · rw [List.mem_singleton.mp ha]; exact S2.sub.none hp
  · rw [List.mem_singleton.mp ha] at hi; exact S2.live hi hp
  · rw [List.mem_singleton.mp ha]; exact .inr (Classical.byContradiction fun z => (st1.trans st2).t p z hp)
end
end Nt

/-! operators on data -/
namespace Nt
open PySem PySem.Spec PyProof.Rows L2

/-! ### + -/
def rCatT0 (K : PySem.W.Frag) : R2 := fun x y H Q => ∃ a b ys, x = .ref a ∧ y = .ref b ∧ SqT K H a [] ∧ SqT K H b ys ∧ Q (.ref b) H
theorem op_catT0 {X : Cx} : OpR X (binaryOp .Add) (rCatT0 X.K) := by
  intro pins s σ H x y v u Q I rx ry h
  obtain ⟨a, b, ys, rfl, rfl, ha, hb, q⟩ := h
  cases rx
  cases ry
  obtain ⟨its, r, p, z⟩ := I.tuple ha
  obtain ⟨its2, r2, p2, z2⟩ := I.tuple hb
  cases r
  obtain ⟨⟨cls, dd, data, sl⟩, ho, hc, n, hd⟩ := id p
  obtain ⟨⟨cls2, dd2, data2, sl2⟩, ho2, hc2, n2, hd2⟩ := id p2
  simp only at hc hd hc2 hd2
  subst hc hd hc2 hd2
  exact concat_meets ⟨_, ho, rfl⟩ ⟨_, ho2, rfl⟩ noFill_tuple_add seq_tuple_add PySem.F.slot_tuple_add PySem.F.entry_tuple_add (PySem.F.args_tuple_add_2 _ _)
    (tuple_addW0 a b _ its2.toArray n n2 dd dd2 sl sl2 (by rfl)) ⟨ho, ho2, ⟨.ref b, H, I, rfl, q⟩⟩
def rAddD (K : PySem.W.Frag) : R2 := fun x y H Q => rI0 (fun i j => .int (i + j)) x y H Q ∨ ((∃ i j, x = .str i ∧ y = .str j ∧ i.length + j.length ≤ sizeLine ∧ Q (.str (i ++ j)) H) ∨ (rCat x y H Q ∨ (rCatN K x y H Q ∨ rCatT0 K x y H Q)))
theorem op_addD {X : Cx} : OpR X (binaryOp .Add) (rAddD X.K) := op_add.or (op_add_str.or (op_cat.or (op_catN.or op_catT0)))
def dAdd : D → D → Option D
  | .int i, .int j => some (.int (i + j))
  | .str i, .str j => if i.length + j.length ≤ sizeLine then some (.str (i ++ j)) else none
  | .list a, .list b => if a.length + b.length ≤ sizeLine then some (.list (a ++ b)) else none
  | .tuple a, .tuple b => if a.length + b.length ≤ sizeLine then some (.tuple (a ++ b)) else none
  | _, _ => none
section
variable {K : PySem.W.Frag} {ta tb : TE} {fa fb : Mo Opd}
theorem dAdd_inv {d e z : D} (h : dAdd d e = some z) : (∃ i j, d = .int i ∧ e = .int j ∧ z = .int (i + j)) ∨ (∃ i j, d = .str i ∧ e = .str j ∧ z = .str (i ++ j) ∧ i.length + j.length ≤ sizeLine) ∨
    (∃ i j, d = .list i ∧ e = .list j ∧ z = .list (i ++ j) ∧ i.length + j.length ≤ sizeLine) ∨ (∃ i j, d = .tuple i ∧ e = .tuple j ∧ z = .tuple (i ++ j) ∧ i.length + j.length ≤ sizeLine) := by
  unfold dAdd at h
  split at h
  · cases h; exact .inl ⟨_, _, rfl, rfl, rfl⟩
  · split at h
    · cases h; exact .inr (.inl ⟨_, _, rfl, rfl, rfl, by assumption⟩)
    · cases h
  · split at h
    · cases h; exact .inr (.inr (.inl ⟨_, _, rfl, rfl, rfl, by assumption⟩))
    · cases h
  · split at h
    · cases h; exact .inr (.inr (.inr ⟨_, _, rfl, rfl, rfl, by assumption⟩))
    · cases h
  · cases h
theorem re_add (ha : RO K ta fa) (hb : RO K tb fb) : RE K (tOp (rAddD K) ta tb) (m2 rs1 dAdd fa fb) := re_opN ha hb fun G H v w d e z s r1 r2 hz Q q1 q2 => by
  rcases dAdd_inv hz with ⟨i, j, rfl, rfl, rfl⟩ | ⟨i, j, rfl, rfl, rfl, hl⟩ | ⟨i, j, rfl, rfl, rfl, hl⟩ | ⟨i, j, rfl, rfl, rfl, hl⟩
  · cases r1.int; cases r2.int
    exact .inl ⟨i, j, rfl, rfl, q1 _ (.int _)⟩
  · cases r1.str; cases r2.str
    exact .inr (.inl ⟨i, j, rfl, rfl, hl, q1 _ (.str _)⟩)
  · obtain ⟨a, vs, rfl, h1, p1⟩ := r1.list s
    obtain ⟨b, ws, rfl, h2, p2⟩ := r2.list s
    refine .inr (.inr (.inl ⟨a, b, vs, ws, rfl, rfl, h1, h2, by rw [p1.length, p2.length]; exact hl, fun p hp => q2 p _ _ hp (.lst upd_same ((p1.append p2).mono (Sub.new (Sub.refl G) (s.none hp))))⟩))
  · obtain ⟨a, vs, rfl, h1, g1, p1⟩ := r1.tuple s
    obtain ⟨b, ws, rfl, h2, g2, p2⟩ := r2.tuple s
    by_cases hv : vs = []
    · subst hv
      cases p1
      exact .inr (.inr (.inr (.inr ⟨a, b, ws, rfl, rfl, h1, h2, q1 _ (.tup g2 p2)⟩)))
    · refine .inr (.inr (.inr (.inl ⟨a, b, vs, ws, rfl, rfl, h1, h2, hv, by rw [p1.length, p2.length]; exact hl, fun e => ?_, fun hw p o hp ho => ?_⟩)))
      · subst e
        cases p2
        rw [List.append_nil] at q1
        exact q1 _ (.tup g1 p1)
      · exact q2 p _ _ hp (.tup (NdT.of ho) ((p1.append p2).mono (Sub.new (Sub.refl G) (s.none hp))))
theorem rw_cat (ha : RO K ta fa) (hb : RO K tb fb) : RW K 1 (tOp (rAddD K) ta tb) (m2 rs1 (fun d e => match d, e with | .list a, .list b => dAdd (.list a) (.list b) | _, _ => none) fa fb) := rw_opL ha hb fun G H v w d e z s r1 r2 hz Q q2 => by
  split at hz
  · rename_i i j
    simp only [dAdd] at hz
    split at hz
    · rename_i hl
      cases hz
      obtain ⟨a, vs, rfl, h1, p1⟩ := r1.list s
      obtain ⟨b, ws, rfl, h2, p2⟩ := r2.list s
      exact .inr (.inr (.inl ⟨a, b, vs, ws, rfl, rfl, h1, h2, by rw [p1.length, p2.length]; exact hl, fun p hp => q2 p _ _ hp rfl (p1.append p2)⟩))
    · cases hz
  · cases hz

/-! ### the other operators of ints -/
def dI (C : Int → Int → Bool) (g : Int → Int → D) : D → D → Option D
  | .int i, .int j => if C i j then some (g i j) else none
  | _, _ => none
theorem re_i {C : Int → Int → Bool} {P : Int → Int → Prop} {g : Int → Int → Int} (hC : ∀ i j, C i j = true → P i j) (ha : RO K ta fa) (hb : RO K tb fb) :
    RE K (tOp (rI P fun i j => .int (g i j)) ta tb) (m2 rs (dI C fun i j => .int (g i j)) fa fb) := re_op ha hb fun H v w d e z r1 r2 hz => by
  unfold dI at hz
  split at hz
  · rename_i i j
    split at hz
    · rename_i hc
      cases hz
      cases r1.int'; cases r2.int'
      exact ⟨_, rfl, fun Q q => ⟨i, j, rfl, rfl, hC _ _ hc, q⟩⟩
    · cases hz
  · cases hz
theorem re_i0 {g : Int → Int → Int} (ha : RO K ta fa) (hb : RO K tb fb) :
    RE K (tOp (rI0 fun i j => .int (g i j)) ta tb) (m2 rs (dI (fun _ _ => true) fun i j => .int (g i j)) fa fb) := re_op ha hb fun H v w d e z r1 r2 hz => by
  unfold dI at hz
  split at hz
  · rename_i i j
    rw [if_pos rfl] at hz
    cases hz
    cases r1.int'; cases r2.int'
    exact ⟨_, rfl, fun Q q => ⟨i, j, rfl, rfl, q⟩⟩
  · cases hz
theorem re_ib {g : Int → Int → Bool} (ha : RO K ta fa) (hb : RO K tb fb) :
    RE K (tOp (rI0 fun i j => .bl (g i j)) ta tb) (m2 rs (dI (fun _ _ => true) fun i j => .bool (g i j)) fa fb) := re_op ha hb fun H v w d e z r1 r2 hz => by
  unfold dI at hz
  split at hz
  · rename_i i j
    rw [if_pos rfl] at hz
    cases hz
    cases r1.int'; cases r2.int'
    exact ⟨_, rfl, fun Q q => ⟨i, j, rfl, rfl, q⟩⟩
  · cases hz
def cMul (i j : Int) : Bool := decide (i.natAbs < 2 ^ 64) || decide (j.natAbs < 2 ^ 64)
theorem cMul_ok (i j : Int) (h : cMul i j = true) : CMul i j := by
  have e : (2 : Nat) ^ 64 = 18446744073709551616 := by decide
  have e' : (2 : Int) ^ 64 = 18446744073709551616 := by decide
  unfold cMul at h
  rw [Bool.or_eq_true, decide_eq_true_eq, decide_eq_true_eq] at h
  unfold CMul
  rcases h with h | h
  · exact .inl (by omega)
  · exact .inr (by omega)
def cDiv (i j : Int) : Bool := decide (0 < j) && decide (j < 1073741824)
theorem cDiv_ok (i j : Int) (h : cDiv i j = true) : CDiv i j := by
  unfold cDiv at h
  rw [Bool.and_eq_true, decide_eq_true_eq, decide_eq_true_eq] at h
  exact h
def cPos (i j : Int) : Bool := decide (0 < j)
theorem cPos_ok (i j : Int) (h : cPos i j = true) : 0 < j := of_decide_eq_true h
def cPow (i j : Int) : Bool := decide (0 ≤ j) && decide (j ≤ 1000000) && decide (i.natAbs < 2 ^ 64)
theorem cPow_ok (i j : Int) (h : cPow i j = true) : CPow i j := by
  unfold cPow at h
  rw [Bool.and_eq_true, Bool.and_eq_true, decide_eq_true_eq, decide_eq_true_eq, decide_eq_true_eq] at h
  exact ⟨h.1.1, h.1.2, h.2⟩
def cNn (i j : Int) : Bool := decide (0 ≤ j)
theorem cNn_ok (i j : Int) (h : cNn i j = true) : 0 ≤ j := of_decide_eq_true h

/-! ### unary -/
def m1 (r : Env → Opd → Option D) (g : D → Option D) (fa : Mo Opd) : Mo D := fun ρ => match fa ρ with
  | none => none
  | some (a, ρ1) => match r ρ1 a with
    | some x => match g x with
      | some z => some (z, ρ1)
      | none => none
    | none => none
theorem m1_some {r : Env → Opd → Option D} {g : D → Option D} {fa : Mo Opd} {ρ ρ' : Env} {z : D} (h : m1 r g fa ρ = some (z, ρ')) : ∃ a x, fa ρ = some (a, ρ') ∧ r ρ' a = some x ∧ g x = some z := by
  unfold m1 at h
  split at h
  · cases h
  · rename_i a ρ1 e1
    split at h
    · rename_i x e2
      split at h
      · rename_i z' e3
        cases h
        exact ⟨a, x, e1, e2, e3⟩
      · cases h
    · cases h
theorem re_un {r : V → Hp → VK → Prop} {g : D → Option D} (ha : RO K ta fa) (ok : ∀ (H : Hp) (v : V) (d z : D), Rp K H v d → g d = some z → ∃ u, toV z = some u ∧ ∀ Q : VK, Q u H → r v H Q) :
    RE K (tUn r ta) (m1 rs g fa) := fun ρ z ρ' e σ G H fp S Q q => by
  obtain ⟨a, x, e1, e2, e3⟩ := m1_some e
  refine ha ρ a ρ' e1 σ G H fp S _ fun v G1 H1 fp1 st1 S1 r1 => ?_
  obtain ⟨u, hu, k⟩ := ok H1 v x z (rs_rp S1 r1 e2) e3
  exact k Q (q u G1 H1 fp1 st1 S1 (toV_rp hu))
def dNeg : D → Option D
  | .int i => some (.int (-i))
  | _ => none
theorem re_neg (ha : RO K ta fa) : RE K (tUn (rU fun i => .int (-i)) ta) (m1 rs dNeg fa) := re_un ha fun H v d z r hz => by
  unfold dNeg at hz
  split at hz
  · cases hz
    cases r.int'
    exact ⟨_, rfl, fun Q q => ⟨_, rfl, q⟩⟩
  · cases hz

/-! ### == and != -/
def rEqA (K : PySem.W.Frag) : R2 := fun x y H Q => rEqD K x y H Q
mutual
theorem Rp.dp {K : PySem.W.Frag} {H : Hp} : ∀ {v : V} {d : D}, d.canLay0 = true → Rp K H v d → Dp K H v d
  | _, _, _, .non => .non
  | _, _, _, .bl b => .bl b
  | _, _, _, .int i => .int i
  | _, _, _, .str x => .str x
  | _, _, c, .lst h r => .lst (SqL.of h) (RpA.dp (by simpa only [PyData.canLay0] using c) r)
  | _, _, c, .tup h r => .tup h.sqT (RpA.dp (by simpa only [PyData.canLay0] using c) r)
  | _, _, c, .dic h r => by simp only [PyData.canLay0, Bool.false_eq_true] at c
theorem RpA.dp {K : PySem.W.Frag} {H : Hp} : ∀ {vs : List V} {ds : List D}, PyData.canLayAll0 ds = true → RpA K H vs ds → DpAll K H vs ds
  | _, _, _, .nil => .nil
  | _, _, c, .cons h r => by
    simp only [PyData.canLayAll0, Bool.and_eq_true] at c
    exact .cons (Rp.dp c.1 h) (RpA.dp c.2 r)
end
def rEqX (K : PySem.W.Frag) : R2 := fun x y H Q => rEqD K x y H Q ∨ rEq x y H Q
def rNeX (K : PySem.W.Frag) : R2 := fun x y H Q => rNeD K x y H Q ∨ rNe x y H Q
def dEq (neg : Bool) (d e : D) : Option D := match d, e with
  | .str x, .str y => some (.bool (if neg then !(x == y) else x == y))
  | .int x, .int y => some (.bool (if neg then !(x == y) else x == y))
  | d, e => if SeqAt.shaped d && SeqAt.shaped e then some (.bool (if neg then !PyData.eqv d e else PyData.eqv d e)) else none
theorem re_eq (ha : RO K ta fa) (hb : RO K tb fb) : RE K (tOp (rEqX K) ta tb) (m2 rs (dEq false) fa fb) := re_op ha hb fun H v w d e z r1 r2 hz => by
  unfold dEq at hz
  split at hz
  · rename_i x y
    cases hz
    cases r1.str'; cases r2.str'
    exact ⟨_, rfl, fun Q q => .inr ⟨rfl, by rw [dec_str]; exact q⟩⟩
  · rename_i x y
    cases hz
    cases r1.int'; cases r2.int'
    exact ⟨_, rfl, fun Q q => .inr ⟨rfl, by rw [dec_int]; exact q⟩⟩
  · split at hz
    · rename_i hc
      cases hz
      rw [Bool.and_eq_true] at hc
      exact ⟨_, rfl, fun Q q => .inl ⟨d, e, r1.dp (SeqAt.canLay_of_shaped hc.1), r2.dp (SeqAt.canLay_of_shaped hc.2), hc.1, hc.2, q⟩⟩
    · cases hz
theorem re_ne (ha : RO K ta fa) (hb : RO K tb fb) : RE K (tOp (rNeX K) ta tb) (m2 rs (dEq true) fa fb) := re_op ha hb fun H v w d e z r1 r2 hz => by
  unfold dEq at hz
  split at hz
  · rename_i x y
    cases hz
    cases r1.str'; cases r2.str'
    exact ⟨_, rfl, fun Q q => .inr ⟨rfl, by rw [dec_str]; exact q⟩⟩
  · rename_i x y
    cases hz
    cases r1.int'; cases r2.int'
    exact ⟨_, rfl, fun Q q => .inr ⟨rfl, by rw [dec_int]; exact q⟩⟩
  · split at hz
    · rename_i hc
      cases hz
      rw [Bool.and_eq_true] at hc
      exact ⟨_, rfl, fun Q q => .inl ⟨d, e, r1.dp (SeqAt.canLay_of_shaped hc.1), r2.dp (SeqAt.canLay_of_shaped hc.2), hc.1, hc.2, q⟩⟩
    · cases hz
/-- is None -/
def dIsN (neg : Bool) (d e : D) : Option D := match e with
  | .none => some (.bool (match d with | .none => !neg | _ => neg))
  | _ => none
theorem isN_val {H : Hp} {v : V} {d : D} (r : Rp K H v d) : decide (v = V.non) = (match d with | .none => true | _ => false) := by
  cases r <;> rfl
theorem re_isN (ha : RO K ta fa) (hb : RO K tb fb) : RE K (tOp (fun x y H Q => y = .non ∧ Q (.bl (decide (x = .non))) H) ta tb) (m2 rs (dIsN false) fa fb) := re_op ha hb fun H v w d e z r1 r2 hz => by
  unfold dIsN at hz
  split at hz
  · cases hz
    cases r2.none'
    refine ⟨_, rfl, fun Q q => ⟨rfl, ?_⟩⟩
    rw [isN_val r1]
    cases d <;> exact q
  · cases hz
theorem re_notN (ha : RO K ta fa) (hb : RO K tb fb) : RE K (tOp (fun x y H Q => y = .non ∧ Q (.bl (!decide (x = .non))) H) ta tb) (m2 rs (dIsN true) fa fb) := re_op ha hb fun H v w d e z r1 r2 hz => by
  unfold dIsN at hz
  split at hz
  · cases hz
    cases r2.none'
    refine ⟨_, rfl, fun Q q => ⟨rfl, ?_⟩⟩
    rw [isN_val r1]
    cases d <;> exact q
  · cases hz

/-! ### in, not in (lists, tuples of data) -/
def dIn (neg : Bool) (d e : D) : Option D := match e with
  | .list ds => if SeqAt.shaped d && SeqAt.shaped (.list ds) then some (.bool (if neg then !ds.any (fun z => PyData.eqv z d) else ds.any fun z => PyData.eqv z d)) else none
  | _ => none
theorem re_in (ha : RO K ta fa) (hb : RO K tb fb) : RE K (tOp (rInD K) ta tb) (m2 rs (dIn false) fa fb) := re_op ha hb fun H v w d e z r1 r2 hz => by
  unfold dIn at hz
  split at hz
  · split at hz
    · rename_i ds hc
      cases hz
      rw [Bool.and_eq_true] at hc
      exact ⟨_, rfl, fun Q q => ⟨d, ds, r1.dp (SeqAt.canLay_of_shaped hc.1), r2.dp (SeqAt.canLay_of_shaped hc.2), hc.1, hc.2, q⟩⟩
    · cases hz
  · cases hz
theorem re_notIn (ha : RO K ta fa) (hb : RO K tb fb) : RE K (tOp (rNotInD K) ta tb) (m2 rs (dIn true) fa fb) := re_op ha hb fun H v w d e z r1 r2 hz => by
  unfold dIn at hz
  split at hz
  · split at hz
    · rename_i ds hc
      cases hz
      rw [Bool.and_eq_true] at hc
      exact ⟨_, rfl, fun Q q => ⟨d, ds, r1.dp (SeqAt.canLay_of_shaped hc.1), r2.dp (SeqAt.canLay_of_shaped hc.2), hc.1, hc.2, q⟩⟩
    · cases hz
  · cases hz

/-! ### tests -/
def mTest (f : Mo D) : Mo Bool := fun ρ => match f ρ with
  | some (.bool b, ρ1) => some (b, ρ1)
  | _ => none
theorem rt_test {t : TE} {f : Mo D} (h : RE K t f) : RT K (tTest t) (mTest f) := fun ρ d ρ' e σ G H fp S Q q => by
  unfold mTest at e
  split at e
  · rename_i b ρ1 e1
    cases e
    refine h ρ _ _ e1 σ G H fp S _ fun v G' H' fp' st S' rp => ?_
    exact ⟨d, rp.bool', q G' H' fp' st S'⟩
  · cases e
def mNot (f : Mo Bool) : Mo Bool := fun ρ => match f ρ with
  | some (b, ρ1) => some (!b, ρ1)
  | none => none
theorem rt_not {t : TT} {f : Mo Bool} (h : RT K t f) : RT K (tNot t) (mNot f) := fun ρ d ρ' e σ G H fp S Q q => by
  unfold mNot at e
  split at e
  · rename_i b ρ1 e1
    cases e
    exact h ρ _ _ e1 σ G H fp S _ fun G' H' fp' st S' => q G' H' fp' st S'
  · cases e
def mAnd (f g : Mo Bool) : Mo Bool := fun ρ => match f ρ with
  | some (true, ρ1) => g ρ1
  | some (false, ρ1) => some (false, ρ1)
  | none => none
def mOr (f g : Mo Bool) : Mo Bool := fun ρ => match f ρ with
  | some (false, ρ1) => g ρ1
  | some (true, ρ1) => some (true, ρ1)
  | none => none
theorem rt_and {t u : TT} {f g : Mo Bool} (h : RT K t f) (k : RT K u g) : RT K (tAnd t u) (mAnd f g) := fun ρ d ρ' e σ G H fp S Q q => by
  unfold mAnd at e
  split at e
  · rename_i ρ1 e1
    refine h ρ _ _ e1 σ G H fp S _ fun G1 H1 fp1 st1 S1 => ?_
    rw [if_pos rfl]
    exact k ρ1 _ _ e σ G1 H1 fp1 S1 _ fun G2 H2 fp2 st2 S2 => q G2 H2 fp2 (st1.trans st2) S2
  · rename_i ρ1 e1
    cases e
    refine h ρ _ _ e1 σ G H fp S _ fun G1 H1 fp1 st1 S1 => ?_
    rw [if_neg Bool.false_ne_true]
    exact q G1 H1 fp1 st1 S1
  · cases e
theorem rt_or {t u : TT} {f g : Mo Bool} (h : RT K t f) (k : RT K u g) : RT K (tOr t u) (mOr f g) := fun ρ d ρ' e σ G H fp S Q q => by
  unfold mOr at e
  split at e
  · rename_i ρ1 e1
    refine h ρ _ _ e1 σ G H fp S _ fun G1 H1 fp1 st1 S1 => ?_
    rw [if_neg Bool.false_ne_true]
    exact k ρ1 _ _ e σ G1 H1 fp1 S1 _ fun G2 H2 fp2 st2 S2 => q G2 H2 fp2 (st1.trans st2) S2
  · rename_i ρ1 e1
    cases e
    refine h ρ _ _ e1 σ G H fp S _ fun G1 H1 fp1 st1 S1 => ?_
    rw [if_pos rfl]
    exact q G1 H1 fp1 st1 S1
  · cases e
/-- and, or, not as values -/
def mAndV (f g : Mo D) : Mo D := fun ρ => match f ρ with
  | some (.bool true, ρ1) => g ρ1
  | some (.bool false, ρ1) => some (.bool false, ρ1)
  | _ => none
def mOrV (f g : Mo D) : Mo D := fun ρ => match f ρ with
  | some (.bool false, ρ1) => g ρ1
  | some (.bool true, ρ1) => some (.bool true, ρ1)
  | _ => none
def mNotV (f : Mo D) : Mo D := fun ρ => match f ρ with
  | some (.bool b, ρ1) => some (.bool (!b), ρ1)
  | _ => none
theorem re_andV {f g : Mo D} (h : RE K ta f) (k : RE K tb g) : RE K (tAndV ta tb) (mAndV f g) := fun ρ d ρ' e σ G H fp S Q q => by
  unfold mAndV at e
  split at e
  · rename_i ρ1 e1
    refine h ρ _ _ e1 σ G H fp S _ fun v G1 H1 fp1 st1 S1 r1 => ⟨true, r1.bool', ?_⟩
    rw [if_pos rfl]
    exact k ρ1 _ _ e σ G1 H1 fp1 S1 _ fun w G2 H2 fp2 st2 S2 r2 => q w G2 H2 fp2 (st1.trans st2) S2 r2
  · rename_i ρ1 e1
    cases e
    refine h ρ _ _ e1 σ G H fp S _ fun v G1 H1 fp1 st1 S1 r1 => ⟨false, r1.bool', ?_⟩
    rw [if_neg Bool.false_ne_true]
    exact q _ G1 H1 fp1 st1 S1 (.bl false)
  · cases e
theorem re_orV {f g : Mo D} (h : RE K ta f) (k : RE K tb g) : RE K (tOrV ta tb) (mOrV f g) := fun ρ d ρ' e σ G H fp S Q q => by
  unfold mOrV at e
  split at e
  · rename_i ρ1 e1
    refine h ρ _ _ e1 σ G H fp S _ fun v G1 H1 fp1 st1 S1 r1 => ⟨false, r1.bool', ?_⟩
    rw [if_neg Bool.false_ne_true]
    exact k ρ1 _ _ e σ G1 H1 fp1 S1 _ fun w G2 H2 fp2 st2 S2 r2 => q w G2 H2 fp2 (st1.trans st2) S2 r2
  · rename_i ρ1 e1
    cases e
    refine h ρ _ _ e1 σ G H fp S _ fun v G1 H1 fp1 st1 S1 r1 => ⟨true, r1.bool', ?_⟩
    rw [if_pos rfl]
    exact q _ G1 H1 fp1 st1 S1 (.bl true)
  · cases e
theorem re_notV {f : Mo D} (h : RE K ta f) : RE K (tNotV ta) (mNotV f) := fun ρ d ρ' e σ G H fp S Q q => by
  unfold mNotV at e
  split at e
  · rename_i b ρ1 e1
    cases e
    exact h ρ _ _ e1 σ G H fp S _ fun v G1 H1 fp1 st1 S1 r1 => ⟨b, r1.bool', q _ G1 H1 fp1 st1 S1 (.bl _)⟩
  · cases e
def mIf {α : Type} (c : Mo Bool) (f g : Mo α) : Mo α := fun ρ => match c ρ with
  | some (true, ρ1) => f ρ1
  | some (false, ρ1) => g ρ1
  | none => none
theorem re_if {c : TT} {fc : Mo Bool} {f g : Mo D} (hc : RT K c fc) (h : RE K ta f) (k : RE K tb g) : RE K (tIf c ta tb) (mIf fc f g) := fun ρ d ρ' e σ G H fp S Q q => by
  unfold mIf at e
  split at e
  · rename_i ρ1 e1
    refine hc ρ _ _ e1 σ G H fp S _ fun G1 H1 fp1 st1 S1 => ?_
    rw [if_pos rfl]
    exact h ρ1 _ _ e σ G1 H1 fp1 S1 _ fun w G2 H2 fp2 st2 S2 r2 => q w G2 H2 fp2 (st1.trans st2) S2 r2
  · rename_i ρ1 e1
    refine hc ρ _ _ e1 σ G H fp S _ fun G1 H1 fp1 st1 S1 => ?_
    rw [if_neg Bool.false_ne_true]
    exact k ρ1 _ _ e σ G1 H1 fp1 S1 _ fun w G2 H2 fp2 st2 S2 r2 => q w G2 H2 fp2 (st1.trans st2) S2 r2
  · cases e
/-- a < b < c -/
def mChain (g g' : D → D → Option D) (fa fb fc : Mo Opd) : Mo D := fun ρ => match fa ρ with
  | none => none
  | some (a, ρ1) => match fb ρ1 with
    | none => none
    | some (b, ρ2) => match rs ρ2 a, rs ρ2 b with
      | some x, some y => match g x y with
        | some (.bool true) => match fc ρ2 with
          | none => none
          | some (c, ρ3) => match rs ρ3 b, rs ρ3 c with
            | some y', some z => match g' y' z with
              | some (.bool k) => some (.bool k, ρ3)
              | _ => none
            | _, _ => none
        | some (.bool false) => some (.bool false, ρ2)
        | _ => none
      | _, _ => none
end
end Nt

/-! arguments, displays, items, calls -/
namespace Nt
open PySem PySem.Spec PyProof.Rows L2

/-- just a shared value -/
def rsV (_ : Env) : Opd → Option D
  | .val d => some d
  | .sl _ => none
def rsA (r : Env → Opd → Option D) (ρ : Env) : List Opd → Option (List D)
  | [] => some []
  | o :: os => match r ρ o, rsA r ρ os with
    | some d, some ds => some (d :: ds)
    | _, _ => none
theorem rsA_cons {r : Env → Opd → Option D} {ρ : Env} {o : Opd} {os : List Opd} {l : List D} (h : rsA r ρ (o :: os) = some l) : ∃ d ds, l = d :: ds ∧ r ρ o = some d ∧ rsA r ρ os = some ds := by
  unfold rsA at h
  split at h
  · rename_i d ds e1 e2
    cases h
    exact ⟨d, ds, rfl, e1, e2⟩
  · cases h
inductive R1A (K : PySem.W.Frag) (G H : Hp) : List V → List D → Prop
  | nil : R1A K G H [] []
  | cons {v : V} {vs : List V} {d : D} {ds : List D} : R1 K G H v d → R1A K G H vs ds → R1A K G H (v :: vs) (d :: ds)
section
variable {K : PySem.W.Frag} {ρ ρ' : Env} {σ : L2.St} {G G' H H' : Hp} {fp fp' : Fp}
theorem rsA_rp (S : Sat K ρ σ G H fp) {vs : List V} {os : List Opd} (h : OpdsR K G σ vs os) : ∀ {ds : List D}, rsA rs ρ os = some ds → RpA K H vs ds := by
  induction h with
  | nil => intro ds e; cases e; exact .nil
  | cons p r ih =>
    intro ds e
    obtain ⟨d, ds', rfl, e1, e2⟩ := rsA_cons e
    exact .cons (rs_rp S p e1) (ih e2)
theorem rsA_r1 (S : Sat K ρ σ G H fp) {vs : List V} {os : List Opd} (h : OpdsR K G σ vs os) : ∀ {ds : List D}, rsA rs1 ρ os = some ds → R1A K G H vs ds := by
  induction h with
  | nil => intro ds e; cases e; exact .nil
  | cons p r ih =>
    intro ds e
    obtain ⟨d, ds', rfl, e1, e2⟩ := rsA_cons e
    exact .cons (rs1_r S p e1) (ih e2)
theorem rsA_v {vs : List V} {os : List Opd} (h : OpdsR K G σ vs os) : ∀ {ds : List D}, rsA rsV ρ os = some ds → RpA K G vs ds := by
  induction h with
  | nil => intro ds e; cases e; exact .nil
  | @cons v vs o os p r ih =>
    intro ds e
    obtain ⟨d, ds', rfl, e1, e2⟩ := rsA_cons e
    cases o with
    | val d' => cases e1; exact .cons p (ih e2)
    | sl i => cases e1
end
def mANil : Mo (List Opd) := fun ρ => some ([], ρ)
def mACons (f : Mo Opd) (g : Mo (List Opd)) : Mo (List Opd) := fun ρ => match f ρ with
  | none => none
  | some (o, ρ1) => match g ρ1 with
    | none => none
    | some (os, ρ2) => some (o :: os, ρ2)
section
variable {K : PySem.W.Frag} {ta tb tc te : TE} {t : TA} {fa fb fc : Mo Opd} {fs : Mo (List Opd)}
theorem ra_nil : RA K tNil mANil := fun ρ d ρ' e σ G H fp S Q q => by
  cases e
  exact q [] G H fp (Stp.refl _ _ _) S .nil
theorem ra_cons (h : RO K ta fa) (k : RA K t fs) : RA K (tCons ta t) (mACons fa fs) := fun ρ d ρ' e σ G H fp S Q q => by
  unfold mACons at e
  split at e
  · cases e
  · rename_i o ρ1 e1
    split at e
    · cases e
    · rename_i os ρ2 e2
      cases e
      refine h ρ _ _ e1 σ G H fp S _ fun v G1 H1 fp1 st1 S1 r1 => ?_
      exact k ρ1 _ _ e2 σ G1 H1 fp1 S1 _ fun vs G2 H2 fp2 st2 S2 r2 => q _ G2 H2 fp2 (st1.trans st2) S2 (.cons (r1.mono st2.g) r2)
/-- a new object p, nobody's yet: as a temporary of one's own -/
theorem Tmp.one {ρ : Env} {σ : L2.St} {G H G0 H0 : Hp} {fp fp0 : Fp} {p : Addr} (S : Sat K ρ σ G H fp) (st : Stp G0 H0 fp0 G H fp) (hp : H p = none) : Tmp H0 fp0 G fp [p] where
  nd := by simp
  g := fun a ha => by rw [List.mem_singleton.mp ha]; exact S.sub.none hp
  d := fun a ha i hi => by rw [List.mem_singleton.mp ha] at hi; exact S.live hi hp
  o := fun a ha => by rw [List.mem_singleton.mp ha]; exact .inr (Classical.byContradiction fun z => st.t p z hp)

/-! ### displays -/
def mTup (fs : Mo (List Opd)) : Mo D := fun ρ => match fs ρ with
  | none => none
  | some (os, ρ1) => match rsA rsV ρ1 os with
    | some ds => if ds.length ≤ sizeLine then some (.tuple ds, ρ1) else none
    | none => none
def mLst (fs : Mo (List Opd)) : Mo D := fun ρ => match fs ρ with
  | none => none
  | some (os, ρ1) => match rsA rsV ρ1 os with
    | some ds => if ds.length ≤ sizeLine then some (.list ds, ρ1) else none
    | none => none
theorem re_tup (h : RA K t fs) : RE K (tTupN t) (mTup fs) := fun ρ d ρ' e σ G H fp S Q q => by
  unfold mTup at e
  split at e
  · cases e
  · rename_i os ρ1 e1
    split at e
    · rename_i ds e2
      split at e
      · rename_i hl
        cases e
        refine h ρ _ _ e1 σ G H fp S _ fun vs G1 H1 fp1 st1 S1 r1 => ?_
        have r := rsA_v r1 e2
        refine ⟨by rw [r.length]; exact hl, fun p o hp ho => ?_⟩
        exact q _ _ _ fp1 (st1.trans (Stp.newF S1.sub hp)) (S1.newF hp) (.tup (NdT.of ho) (r.mono (Sub.new (Sub.refl G1) (S1.sub.none hp))))
      · cases e
    · cases e
theorem rw_lst (h : RA K t fs) : RW K 1 (tLst t) (mLst fs) := fun ρ d ρ' e σ G H fp S Q q => by
  unfold mLst at e
  split at e
  · cases e
  · rename_i os ρ1 e1
    split at e
    · rename_i ds e2
      split at e
      · rename_i hl
        cases e
        refine h ρ _ _ e1 σ G H fp S _ fun vs G1 H1 fp1 st1 S1 r1 => ?_
        have r := rsA_v r1 e2
        refine ⟨by rw [r.length]; exact hl, fun p hp => ?_⟩
        exact q _ G1 _ fp1 [p] (st1.trans (Stp.new hp)) (S1.new hp) (Ow.new1 upd_same r) (Tmp.one S1 st1 hp)
      · cases e
    · cases e

/-! ### items -/
def dIx : D → D → Option D
  | .list ds, .int i => atI ds i
  | .tuple ds, .int i => atI ds i
  | .str z, .int i => if z.length ≤ sizeLine then (atI z.cps.toList i).map fun c => .str ⟨#[c]⟩ else none
  | _, _ => none
theorem rpA_at {G : Hp} {vs : List V} {ds : List D} {i : Int} {d : D} (r : RpA K G vs ds) (h : atI ds i = some d) : ∃ v, atI vs i = some v ∧ Rp K G v d := by
  unfold atI at h ⊢
  rw [r.length]
  cases e : ixN ds.length i with
  | none => rw [e] at h; cases h
  | some j =>
    rw [e] at h
    exact r.get (i := j) h
theorem re_ix (ha : RO K ta fa) (hb : RO K tb fb) : RE K (tOp (rIx K) ta tb) (m2 rs1 dIx fa fb) := re_opN ha hb fun G H v w d e z s r1 r2 hz Q q1 q2 => by
  unfold dIx at hz
  split at hz
  · rename_i ds i
    obtain ⟨a, vs, rfl, h1, p1⟩ := r1.list s
    cases r2.int
    obtain ⟨u, e1, ru⟩ := rpA_at p1 hz
    exact .inl ⟨a, vs, i, u, rfl, rfl, SqL.of h1, e1, q1 u ru⟩
  · rename_i ds i
    obtain ⟨a, vs, rfl, h1, g1, p1⟩ := r1.tuple s
    cases r2.int
    obtain ⟨u, e1, ru⟩ := rpA_at p1 hz
    exact .inr (.inl ⟨a, vs, i, u, rfl, rfl, h1, e1, q1 u ru⟩)
  · rename_i x i
    split at hz
    · rename_i hl
      cases r1.str
      cases r2.int
      cases e1 : atI x.cps.toList i with
      | none => rw [e1] at hz; cases hz
      | some c =>
        rw [e1] at hz
        cases hz
        exact .inr (.inr ⟨x, i, c, rfl, rfl, hl, e1, q1 _ (.str _)⟩)
    · cases hz
  · cases hz

/-! ### what changes nothing at all -/
def RH (K : PySem.W.Frag) (t : TE) (f : Env → Option D) : Prop := ∀ ρ d, f ρ = some d → ∀ σ G H fp, Sat K ρ σ G H fp → ∀ Q : VK, (∀ v, Rp K H v d → Q v H) → t σ H Q
theorem rh_name {i : Nat} : RH K (tVar i) (fun ρ => rs ρ (.sl i)) := fun ρ d e σ G H fp S Q q => by
  obtain ⟨v, e1⟩ : ∃ v, σ[i]? = some (some v) := by
    simp only [rs] at e
    split at e
    · rename_i d' e1
      obtain ⟨v, e2, _⟩ := S.sh e1
      exact ⟨v, e2⟩
    · rename_i n d' e1
      obtain ⟨v, e2, _⟩ := S.owd e1
      exact ⟨v, e2⟩
    · cases e
  exact ⟨v, e1, q v (rs_rp (o := .sl i) S e1 e)⟩
theorem rh_c {v : V} {d : D} (h : ∀ G, Rp K G v d) : RH K (tC v) (fun _ => some d) := fun ρ d' e σ G H fp S Q q => by
  cases e
  exact q v (h H)
def h2 (g : D → D → Option D) (fa fb : Env → Option D) : Env → Option D := fun ρ => match fa ρ, fb ρ with
  | some x, some y => g x y
  | _, _ => none
theorem rh_op {fa fb : Env → Option D} {r : R2} {g : D → D → Option D} (ha : RH K ta fa) (hb : RH K tb fb)
    (ok : ∀ (H : Hp) (v w : V) (d e z : D), Rp K H v d → Rp K H w e → g d e = some z → ∀ Q : VK, (∀ u, Rp K H u z → Q u H) → r v w H Q) : RH K (tOp r ta tb) (h2 g fa fb) := fun ρ z e σ G H fp S Q q => by
  unfold h2 at e
  split at e
  · rename_i x y e1 e2
    exact ha ρ x e1 σ G H fp S _ fun v r1 => hb ρ y e2 σ G H fp S _ fun w r2 => ok H v w x y z r1 r2 e Q q
  · cases e
theorem rh_ix {fa fb : Env → Option D} (ha : RH K ta fa) (hb : RH K tb fb) : RH K (tOp (rIx K) ta tb) (h2 dIx fa fb) := rh_op ha hb fun H v w d e z r1 r2 hz Q q1 => by
  unfold dIx at hz
  split at hz
  · rename_i ds i
    obtain ⟨a, vs, rfl, h1, p1⟩ := r1.list'
    cases r2.int'
    obtain ⟨u, e1, ru⟩ := rpA_at p1 hz
    exact .inl ⟨a, vs, i, u, rfl, rfl, SqL.of h1, e1, q1 u ru⟩
  · rename_i ds i
    obtain ⟨a, vs, rfl, h1, p1⟩ := r1.tuple'
    cases r2.int'
    obtain ⟨u, e1, ru⟩ := rpA_at p1 hz
    exact .inr (.inl ⟨a, vs, i, u, rfl, rfl, h1, e1, q1 u ru⟩)
  · rename_i x i
    split at hz
    · rename_i hl
      cases r1.str'
      cases r2.int'
      cases e1 : atI x.cps.toList i with
      | none => rw [e1] at hz; cases hz
      | some c =>
        rw [e1] at hz
        cases hz
        exact .inr (.inr ⟨x, i, c, rfl, rfl, hl, e1, q1 _ (.str _)⟩)
    · cases hz
  · cases hz
/-- .. as an expression, where it is a scalar -/
def mH (f : Env → Option D) : Mo D := fun ρ => match f ρ with
  | some d => if (toV d).isSome then some (d, ρ) else none
  | none => none
theorem rp_scal {G H : Hp} {v : V} {d : D} (h : (toV d).isSome = true) (r : Rp K H v d) : Rp K G v d := by
  cases r with
  | non => exact .non
  | bl b => exact .bl b
  | int i => exact .int i
  | str x => exact .str x
  | lst _ _ => cases h
  | tup _ _ => cases h
  | dic _ _ => cases h
theorem re_of_rh {f : Env → Option D} (h : RH K te f) : RE K te (mH f) := fun ρ d ρ' e σ G H fp S Q q => by
  unfold mH at e
  split at e
  · rename_i d' e1
    split at e
    · rename_i hs
      cases e
      exact h ρ _ e1 σ G H fp S _ fun v r => q v G H fp (Stp.refl _ _ _) S (rp_scal hs r)
    · cases e
  · cases e

/-! ### a < b < c -/
theorem re_chain {r r' : R2} {g g' : D → D → Option D} (ha : RO K ta fa) (hb : RO K tb fb) (hc : RO K tc fc)
    (ok : ∀ (H : Hp) (v w : V) (d e z : D), Rp K H v d → Rp K H w e → g d e = some z → ∃ u, toV z = some u ∧ ∀ Q : VK, Q u H → r v w H Q)
    (ok' : ∀ (H : Hp) (v w : V) (d e z : D), Rp K H v d → Rp K H w e → g' d e = some z → ∃ u, toV z = some u ∧ ∀ Q : VK, Q u H → r' v w H Q) :
    RE K (tChain r r' ta tb tc) (mChain g g' fa fb fc) := fun ρ d ρ' e σ G H fp S Q q => by
  unfold mChain at e
  split at e
  · cases e
  · rename_i a ρ1 e1
    split at e
    · cases e
    · rename_i b ρ2 e2
      split at e
      · rename_i x y e3 e4
        refine ha ρ _ _ e1 σ G H fp S _ fun v G1 H1 fp1 st1 S1 r1 => ?_
        refine hb ρ1 _ _ e2 σ G1 H1 fp1 S1 _ fun w G2 H2 fp2 st2 S2 r2 => ?_
        have p1 := rs_rp S2 (r1.mono st2.g) e3
        have p2 := rs_rp S2 r2 e4
        split at e
        · rename_i e5
          obtain ⟨u, hu, k⟩ := ok H2 v w x y _ p1 p2 e5
          cases hu
          refine k _ ⟨true, rfl, ?_⟩
          rw [if_pos rfl]
          split at e
          · cases e
          · rename_i c ρ3 e6
            split at e
            · rename_i y' z e7 e8
              split at e
              · rename_i k' e9
                cases e
                refine hc ρ2 _ _ e6 σ G2 H2 fp2 S2 _ fun w' G3 H3 fp3 st3 S3 r3 => ?_
                obtain ⟨u', hu', k2⟩ := ok' H3 w w' y' z _ (rs_rp S3 (r2.mono st3.g) e7) (rs_rp S3 r3 e8) e9
                cases hu'
                exact k2 _ (q _ G3 H3 fp3 ((st1.trans st2).trans st3) S3 (.bl _))
              · cases e
            · cases e
        · rename_i e5
          cases e
          obtain ⟨u, hu, k⟩ := ok H2 v w x y _ p1 p2 e5
          cases hu
          refine k _ ⟨false, rfl, ?_⟩
          rw [if_neg Bool.false_ne_true]
          exact q _ G2 H2 fp2 (st1.trans st2) S2 (.bl _)
        · cases e
      · cases e
theorem ok_ib {g : Int → Int → Bool} : ∀ (H : Hp) (v w : V) (d e z : D), Rp K H v d → Rp K H w e → dI (fun _ _ => true) (fun i j => .bool (g i j)) d e = some z → ∃ u, toV z = some u ∧ ∀ Q : VK, Q u H → rI0 (fun i j => .bl (g i j)) v w H Q := fun H v w d e z r1 r2 hz => by
  unfold dI at hz
  split at hz
  · rename_i i j
    rw [if_pos rfl] at hz
    cases hz
    cases r1.int'; cases r2.int'
    exact ⟨_, rfl, fun Q q => ⟨i, j, rfl, rfl, q⟩⟩
  · cases hz

/-! ### calls of built-in functions -/
def mCB (r : Env → Opd → Option D) (g : List D → Option D) (fs : Mo (List Opd)) : Mo D := fun ρ => match fs ρ with
  | none => none
  | some (os, ρ1) => match rsA r ρ1 os with
    | some ds => match g ds with
      | some z => some (z, ρ1)
      | none => none
    | none => none
theorem mCB_some {r : Env → Opd → Option D} {g : List D → Option D} {ρ ρ' : Env} {z : D} (h : mCB r g fs ρ = some (z, ρ')) : ∃ os ds, fs ρ = some (os, ρ') ∧ rsA r ρ' os = some ds ∧ g ds = some z := by
  unfold mCB at h
  split at h
  · cases h
  · rename_i os ρ1 e1
    split at h
    · rename_i ds e2
      split at h
      · rename_i z' e3
        cases h
        exact ⟨os, ds, e1, e2, e3⟩
      · cases h
    · cases h
theorem re_cb {r : List V → Hp → VK → Prop} {g : List D → Option D} (h : RA K t fs) (ok : ∀ (H : Hp) (vs : List V) (ds : List D) (z : D), RpA K H vs ds → g ds = some z → ∃ u, toV z = some u ∧ ∀ Q : VK, Q u H → r vs H Q) :
    RE K (tCB r t) (mCB rs g fs) := fun ρ d ρ' e σ G H fp S Q q => by
  obtain ⟨os, ds, e1, e2, e3⟩ := mCB_some e
  refine h ρ _ _ e1 σ G H fp S _ fun vs G1 H1 fp1 st1 S1 r1 => ?_
  obtain ⟨u, hu, k⟩ := ok H1 vs ds _ (rsA_rp S1 r1 e2) e3
  exact k Q (q u G1 H1 fp1 st1 S1 (toV_rp hu))
theorem re_cbN {r : List V → Hp → VK → Prop} {g : List D → Option D} (h : RA K t fs)
    (ok : ∀ (G H : Hp) (vs : List V) (ds : List D) (z : D), Sub G H → R1A K G H vs ds → g ds = some z → ∀ Q : VK, (∀ u, Rp K G u z → Q u H) → (∀ p o u, H p = none → Rp K (upd G p o) u z → Q u (upd H p o)) → r vs H Q) :
    RE K (tCB r t) (mCB rs1 g fs) := fun ρ d ρ' e σ G H fp S Q q => by
  obtain ⟨os, ds, e1, e2, e3⟩ := mCB_some e
  refine h ρ _ _ e1 σ G H fp S _ fun vs G1 H1 fp1 st1 S1 r1 => ?_
  refine ok G1 H1 vs ds _ S1.sub (rsA_r1 S1 r1 e2) e3 Q (fun u ru => q u G1 H1 fp1 st1 S1 ru) fun p o u hp ru => ?_
  exact q u _ _ fp1 (st1.trans (Stp.newF S1.sub hp)) (S1.newF hp) ru
theorem rw_cbL {r : List V → Hp → VK → Prop} {g : List D → Option D} (h : RA K t fs)
    (ok : ∀ (G H : Hp) (vs : List V) (ds : List D) (z : D), Sub G H → R1A K G H vs ds → g ds = some z → ∀ Q : VK, (∀ p ws es, H p = none → z = .list es → RpA K G ws es → Q (.ref p) (upd H p (.lst ws))) → r vs H Q) :
    RW K 1 (tCB r t) (mCB rs1 g fs) := fun ρ d ρ' e σ G H fp S Q q => by
  obtain ⟨os, ds, e1, e2, e3⟩ := mCB_some e
  refine h ρ _ _ e1 σ G H fp S _ fun vs G1 H1 fp1 st1 S1 r1 => ?_
  refine ok G1 H1 vs ds _ S1.sub (rsA_r1 S1 r1 e2) e3 Q fun p ws es hp hz rp => ?_
  subst hz
  exact q _ G1 _ fp1 [p] (st1.trans (Stp.new hp)) (S1.new hp) (Ow.new1 upd_same rp) (Tmp.one S1 st1 hp)
/-- len -/
def dLen : List D → Option D
  | [.list xs] => some (.int xs.length)
  | [.tuple xs] => some (.int xs.length)
  | _ => none
theorem re_len (h : RA K t fs) : RE K (tCB (fun xs H Q => ∃ p ys, xs = [.ref p] ∧ (SqL K H p ys ∨ SqT K H p ys) ∧ Q (.int ys.length) H) t) (mCB rs dLen fs) := re_cb h fun H vs ds z r hz => by
  unfold dLen at hz
  split at hz
  · cases hz
    cases r with
    | cons r1 r2 =>
      cases r2
      obtain ⟨a, ws, rfl, h1, p1⟩ := r1.list'
      exact ⟨_, rfl, fun Q q => ⟨a, ws, rfl, .inl (SqL.of h1), by rw [p1.length]; exact q⟩⟩
  · cases hz
    cases r with
    | cons r1 r2 =>
      cases r2
      obtain ⟨a, ws, rfl, h1, p1⟩ := r1.tuple'
      exact ⟨_, rfl, fun Q q => ⟨a, ws, rfl, .inr h1, by rw [p1.length]; exact q⟩⟩
  · cases hz
def dInt : List D → Option D
  | [.int i] => some (.int i)
  | [.bool b] => some (.int (if b then 1 else 0))
  | _ => none
theorem re_int1 (h : RA K t fs) : RE K (tCB (fun xs H Q => (∃ i, xs = [.int i] ∧ Q (.int i) H) ∨ ∃ k, xs = [.bl k] ∧ Q (.int (if k then 1 else 0)) H) t) (mCB rs dInt fs) := re_cb h fun H vs ds z r hz => by
  unfold dInt at hz
  split at hz
  · cases hz
    cases r with
    | cons r1 r2 =>
      cases r2
      cases r1.int'
      exact ⟨_, rfl, fun Q q => .inl ⟨_, rfl, q⟩⟩
  · cases hz
    cases r with
    | cons r1 r2 =>
      cases r2
      cases r1.bool'
      exact ⟨_, rfl, fun Q q => .inr ⟨_, rfl, q⟩⟩
  · cases hz
def dMax2 : List D → Option D
  | [.int i, .int j] => some (.int (if j > i then j else i))
  | _ => none
theorem re_max2 (h : RA K t fs) : RE K (tCB (fun xs H Q => ∃ i j, xs = [.int i, .int j] ∧ Q (.int (if j > i then j else i)) H) t) (mCB rs dMax2 fs) := re_cb h fun H vs ds z r hz => by
  unfold dMax2 at hz
  split at hz
  · cases hz
    cases r with
    | cons r1 r2 =>
      cases r2 with
      | cons r2 r3 =>
        cases r3
        cases r1.int'; cases r2.int'
        exact ⟨_, rfl, fun Q q => ⟨_, _, rfl, q⟩⟩
  · cases hz
def dMin2 : List D → Option D
  | [.int i, .int j] => some (.int (if j < i then j else i))
  | _ => none
theorem re_min2 (h : RA K t fs) : RE K (tCB (fun xs H Q => ∃ i j, xs = [.int i, .int j] ∧ Q (.int (if j < i then j else i)) H) t) (mCB rs dMin2 fs) := re_cb h fun H vs ds z r hz => by
  unfold dMin2 at hz
  split at hz
  · cases hz
    cases r with
    | cons r1 r2 =>
      cases r2 with
      | cons r2 r3 =>
        cases r3
        cases r1.int'; cases r2.int'
        exact ⟨_, rfl, fun Q q => ⟨_, _, rfl, q⟩⟩
  · cases hz
/-- list(xs), tuple(xs) -/
def dList : List D → Option D
  | [.list xs] => some (.list xs)
  | [.tuple xs] => some (.list xs)
  | _ => none
theorem rw_list (h : RA K t fs) : RW K 1 (tCB (fun xs H Q => ∃ p ys, xs = [.ref p] ∧ (SqL K H p ys ∨ SqT K H p ys) ∧ ∀ l, H l = none → Q (.ref l) (upd H l (.lst ys))) t) (mCB rs1 dList fs) := rw_cbL h fun G H vs ds z s r hz Q q => by
  unfold dList at hz
  split at hz
  · cases hz
    cases r with
    | cons r1 r2 =>
      cases r2
      obtain ⟨a, ws, rfl, h1, p1⟩ := r1.list s
      exact ⟨a, ws, rfl, .inl (SqL.of h1), fun l hl => q l ws _ hl rfl p1⟩
  · cases hz
    cases r with
    | cons r1 r2 =>
      cases r2
      obtain ⟨a, ws, rfl, h1, g1, p1⟩ := r1.tuple s
      exact ⟨a, ws, rfl, .inr h1, fun l hl => q l ws _ hl rfl p1⟩
  · cases hz
def dTuple : List D → Option D
  | [.list xs] => some (.tuple xs)
  | [.tuple xs] => some (.tuple xs)
  | _ => none
theorem re_tupleOf (h : RA K t fs) : RE K (tCB (rTupN K) t) (mCB rs1 dTuple fs) := re_cbN h fun G H vs ds z s r hz Q q1 q2 => by
  unfold dTuple at hz
  split at hz
  · cases hz
    cases r with
    | cons r1 r2 =>
      cases r2
      obtain ⟨a, ws, rfl, h1, p1⟩ := r1.list s
      exact ⟨a, ws, rfl, .inl ⟨SqL.of h1, fun l o hl ho => q2 l _ _ hl (.tup (NdT.of ho) (p1.mono (Sub.new (Sub.refl G) (s.none hl))))⟩⟩
  · cases hz
    cases r with
    | cons r1 r2 =>
      cases r2
      obtain ⟨a, ws, rfl, h1, g1, p1⟩ := r1.tuple s
      exact ⟨a, ws, rfl, .inr ⟨h1, q1 _ (.tup g1 p1)⟩⟩
  · cases hz
end
end Nt

/-! statements -/
namespace Nt
open PySem PySem.Spec PyProof.Rows L2

/-! ### a, b, .. = a tuple or a list -/
def gSeq (K : PySem.W.Frag) (n : Nat) (t : TGs) : TG := fun v σ H Q => ∃ a xs, v = .ref a ∧ (SqT K H a xs ∨ SqL K H a xs) ∧ xs.length = n ∧ t xs σ H Q
theorem pg_seq {X : Cx} {pos : Pos} {es : List Expr} {k : Nat} {t : TGs} {n : Nat} (hc : X.calm = true) (h : PGs X es t)
    (hn : (assignEach es X.env).length = n := by rfl) (hst : (assignEach es X.env).findIdx? (·.1) = none := by rfl) : PG X (.Tuple es k pos) (gSeq X.K n t) := by
  refine ⟨fun pins s σ H v u Q I r hw => ?_⟩
  obtain ⟨a, xs, e1, hq, hl, hw⟩ := hw
  subst e1
  cases r
  rcases hq with hq | hq
  · obtain ⟨its, rv, ht, hz⟩ := I.tuple hq
    refine assign_Tuple_tuple (I.ok.hd hc) ht (by simp [hn, ← hl, rv.length]) hst fun h' hx => ?_
    have I1 : Inv X pins σ H { s with heap := h' } := I.kept (t' := s.toks) fun b o e => hx b o (Nat.ne_of_lt (Heap.lt_size e)) e
    exact h.run pins _ σ H xs _ Q I1 (by simpa using rv) hw
  · obtain ⟨its, rv, pl, hz⟩ := I.list hq
    rw [assign_Tuple]
    refine wpAny_bind (wpAny_standAt ?_)
    unfold unpack
    have hsz : (assignEach es X.env).length = its.toArray.size := by simp [hn, ← hl, rv.length]
    rw [hsz, hst]
    refine wpAny_bind (wpAny_holding (PySem.W.kun_itemsOf (I.ok.hd hc) pl.isList fun h' hx => ?_))
    have I1 : Inv X pins σ H { s with heap := h' } := I.kept (t' := s.toks) fun b o e => hx b o (Nat.ne_of_lt (Heap.lt_size e)) e
    exact h.run pins _ σ H xs _ Q I1 (by simpa using rv) hw

/-! ### targets: T the slots that are stored -/
def RG (K : PySem.W.Frag) (T : List Nat) (g : TG) (f : D → Env → Option Env) : Prop := ∀ d ρ ρ', f d ρ = some ρ' → ∀ v σ G H fp, Sat K ρ σ G H fp → Rp K G v d → ∀ Q : L2.St → Hp → Prop,
  (∀ σ' fp', Sat K ρ' σ' G H fp' → (∀ i a, a ∈ fp' i → a ∈ fp i) → (∀ i, i ∉ T → σ'[i]? = σ[i]?) → σ'.length = σ.length → Q σ' H) → g v σ H Q
def RGs (K : PySem.W.Frag) (T : List Nat) (g : TGs) (f : List D → Env → Option Env) : Prop := ∀ d ρ ρ', f d ρ = some ρ' → ∀ v σ G H fp, Sat K ρ σ G H fp → RpA K G v d → ∀ Q : L2.St → Hp → Prop,
  (∀ σ' fp', Sat K ρ' σ' G H fp' → (∀ i a, a ∈ fp' i → a ∈ fp i) → (∀ i, i ∉ T → σ'[i]? = σ[i]?) → σ'.length = σ.length → Q σ' H) → g v σ H Q
def fName (i : Nat) : D → Env → Option Env := fun d ρ => if i < ρ.length then some (ρ.set i (.sh d)) else none
def fNil : List D → Env → Option Env := fun ds ρ => match ds with
  | [] => some ρ
  | _ => none
def fCons (f : D → Env → Option Env) (g : List D → Env → Option Env) : List D → Env → Option Env := fun ds ρ => match ds with
  | [] => none
  | d :: r => match f d ρ with
    | some ρ1 => g r ρ1
    | none => none
def fSeq (n : Nat) (g : List D → Env → Option Env) : D → Env → Option Env := fun d ρ => match d with
  | .tuple ds => if ds.length = n then g ds ρ else none
  | .list ds => if ds.length = n then g ds ρ else none
  | _ => none
section
variable {K : PySem.W.Frag} {T T' : List Nat}
theorem rg_name {i : Nat} : RG K [i] (gName i) (fName i) := fun d ρ ρ' e v σ G H fp S r Q q => by
  unfold fName at e
  split at e
  · rename_i hi
    cases e
    refine q _ (fset fp i []) (S.put hi ⟨rfl, v, rfl, r⟩ List.nodup_nil (fun _ h => (nomatch h)) fun _ _ _ _ h => (nomatch h)) (fun j a h => ?_) (fun j hj => ?_) (by rw [List.length_set])
    · by_cases hj : j = i
      · subst hj; rw [fset_same] at h; cases h
      · rw [fset_ne hj] at h; exact h
    · rw [List.getElem?_set_ne (fun z => hj (by simp [z]))]
  · cases e
theorem rgs_nil : RGs K [] gNil fNil := fun d ρ ρ' e v σ G H fp S r Q q => by
  unfold fNil at e
  split at e
  · cases e
    cases r
    exact ⟨rfl, q σ fp S (fun _ _ h => h) (fun _ _ => rfl) rfl⟩
  · cases e
theorem rgs_cons {g : TG} {f : D → Env → Option Env} {gs : TGs} {fs : List D → Env → Option Env} (h : RG K T g f) (k : RGs K T' gs fs) : RGs K (T ++ T') (gCons g gs) (fCons f fs) := fun d ρ ρ' e v σ G H fp S r Q q => by
  unfold fCons at e
  split at e
  · cases e
  · rename_i d1 ds
    cases r with
    | cons r1 r2 =>
      rename_i v1 vs
      split at e
      · rename_i ρ1 e1
        refine ⟨v1, vs, rfl, h d1 ρ ρ1 e1 v1 σ G H fp S r1 _ fun σ1 fp1 S1 h1 h2 h3 => ?_⟩
        refine k ds ρ1 ρ' e vs σ1 G H fp1 S1 r2 Q fun σ2 fp2 S2 k1 k2 k3 => ?_
        refine q σ2 fp2 S2 (fun i a ha => h1 i a (k1 i a ha)) (fun i hi => ?_) (k3.trans h3)
        rw [List.mem_append, not_or] at hi
        exact (k2 i hi.2).trans (h2 i hi.1)
      · cases e
theorem rg_seq {n : Nat} {gs : TGs} {fs : List D → Env → Option Env} (h : RGs K T gs fs) : RG K T (gSeq K n gs) (fSeq n fs) := fun d ρ ρ' e v σ G H fp S r Q q => by
  unfold fSeq at e
  split at e
  · rename_i ds
    split at e
    · rename_i hn
      obtain ⟨a, vs, rfl, g1, p1⟩ := r.tuple'
      exact ⟨a, vs, rfl, .inl (S.sub.sqT g1), by rw [p1.length]; exact hn, h ds ρ ρ' e vs σ G H fp S p1 Q q⟩
    · cases e
  · rename_i ds
    split at e
    · rename_i hn
      obtain ⟨a, vs, rfl, g1, p1⟩ := r.list'
      exact ⟨a, vs, rfl, .inr (SqL.of (S.sub _ _ g1)), by rw [p1.length]; exact hn, h ds ρ ρ' e vs σ G H fp S p1 Q q⟩
    · cases e
  · cases e
end

/-! ### statements -/
inductive Out where
  | nx (ρ : Env)
  | rt (d : D) (ρ : Env)
  | bk (ρ : Env)
  | ct (ρ : Env)
abbrev MoS := Env → Option Out
/-- n: what is handed back is owned so deep; P: the slots that stay as they are -/
def OutOk (K : PySem.W.Frag) (n : Nat) (P : List Nat) (σ : L2.St) (G H : Hp) (fp : Fp) (Dn : Ends) : Out → Prop
  | .nx ρ' => ∀ σ' G' H' fp', Stp G H fp G' H' fp' → Sat K ρ' σ' G' H' fp' → (∀ i ∈ P, σ'[i]? = σ[i]?) → Dn.nx σ' H'
  | .bk ρ' => ∀ σ' G' H' fp', Stp G H fp G' H' fp' → Sat K ρ' σ' G' H' fp' → (∀ i ∈ P, σ'[i]? = σ[i]?) → Dn.bk σ' H'
  | .ct ρ' => ∀ σ' G' H' fp', Stp G H fp G' H' fp' → Sat K ρ' σ' G' H' fp' → (∀ i ∈ P, σ'[i]? = σ[i]?) → Dn.ct σ' H'
  | .rt d ρ' => ∀ v σ' G' H' fp' f0, Stp G H fp G' H' fp' → Sat K ρ' σ' G' H' fp' → (∀ i ∈ P, σ'[i]? = σ[i]?) → Ow K G' H' n v d f0 → Tmp H fp G' fp' f0 → Dn.rt v H'
def RS (K : PySem.W.Frag) (n : Nat) (P : List Nat) (t : TS) (g : MoS) : Prop := ∀ ρ o, g ρ = some o → ∀ σ G H fp, Sat K ρ σ G H fp → ∀ Dn : Ends, OutOk K n P σ G H fp Dn o → t Dn σ H
theorem Tmp.from {H0 : Hp} {fp0 : Fp} {G1 H1 : Hp} {fp1 : Fp} {G0 G' : Hp} {fp' : Fp} {f : List Addr} (st : Stp G0 H0 fp0 G1 H1 fp1) (t : Tmp H1 fp1 G' fp' f) : Tmp H0 fp0 G' fp' f :=
  ⟨t.nd, t.g, t.d, fun a ha => by
    rcases t.o a ha with ⟨j, z⟩ | z
    · exact st.f j a z
    · exact .inr (Classical.byContradiction fun q => st.t a q z)⟩
/-- a later outcome told from an earlier state -/
theorem OutOk.from {K : PySem.W.Frag} {n : Nat} {P : List Nat} {σ σ1 : L2.St} {G H G1 H1 : Hp} {fp fp1 : Fp} {Dn : Ends} {o : Out} (st : Stp G H fp G1 H1 fp1) (k : ∀ i ∈ P, σ1[i]? = σ[i]?) (h : OutOk K n P σ G H fp Dn o) : OutOk K n P σ1 G1 H1 fp1 Dn o := by
  cases o with
  | nx ρ' => exact fun σ' G' H' fp' st' S' k' => h σ' G' H' fp' (st.trans st') S' fun i hi => (k' i hi).trans (k i hi)
  | bk ρ' => exact fun σ' G' H' fp' st' S' k' => h σ' G' H' fp' (st.trans st') S' fun i hi => (k' i hi).trans (k i hi)
  | ct ρ' => exact fun σ' G' H' fp' st' S' k' => h σ' G' H' fp' (st.trans st') S' fun i hi => (k' i hi).trans (k i hi)
  | rt d ρ' => exact fun v σ' G' H' fp' f0 st' S' k' ow tm => h v σ' G' H' fp' f0 (st.trans st') S' (fun i hi => (k' i hi).trans (k i hi)) ow (tm.from st)
section
variable {K : PySem.W.Frag} {n : Nat} {P : List Nat} {t u : TS} {f g : MoS} {te : TE}
def sPass : MoS := fun ρ => some (.nx ρ)
theorem rs_pass : RS K n P tNext sPass := fun ρ o e σ G H fp S Dn q => by
  cases e
  exact q σ G H fp (Stp.refl _ _ _) S fun _ _ => rfl
def sSeq (f g : MoS) : MoS := fun ρ => match f ρ with
  | some (.nx ρ1) => g ρ1
  | some o => some o
  | none => none
theorem rs_seq (h : RS K n P t f) (k : RS K n P u g) : RS K n P (tSeq t u) (sSeq f g) := fun ρ o e σ G H fp S Dn q => by
  unfold sSeq at e
  split at e
  · rename_i ρ1 e1
    exact h ρ _ e1 σ G H fp S _ fun σ1 G1 H1 fp1 st1 S1 k1 => k ρ1 o e σ1 G1 H1 fp1 S1 Dn (q.from st1 k1)
  · rename_i o' hne e1
    cases e
    refine h ρ _ e1 σ G H fp S _ ?_
    cases o with
    | nx ρ' => exact absurd rfl (hne ρ')
    | bk ρ' => exact q
    | ct ρ' => exact q
    | rt d ρ' => exact q
  · cases e
def sRet (f : Mo D) : MoS := fun ρ => match f ρ with
  | some (d, ρ1) => some (.rt d ρ1)
  | none => none
theorem rs_ret {f : Mo D} (h : RW K n te f) : RS K n P (tRet te) (sRet f) := fun ρ o e σ G H fp S Dn q => by
  unfold sRet at e
  split at e
  · rename_i d ρ1 e1
    cases e
    exact h ρ _ _ e1 σ G H fp S _ fun v G' H' fp' f0 st S' ow tm => q v σ G' H' fp' f0 st S' (fun _ _ => rfl) ow tm
  · cases e
def sIf (c : Mo Bool) (f g : MoS) : MoS := fun ρ => match c ρ with
  | some (true, ρ1) => f ρ1
  | some (false, ρ1) => g ρ1
  | none => none
theorem rs_if {tc : TT} {c : Mo Bool} (hc : RT K tc c) (h : RS K n P t f) (k : RS K n P u g) : RS K n P (tIfS tc t u) (sIf c f g) := fun ρ o e σ G H fp S Dn q => by
  unfold sIf at e
  split at e
  · rename_i ρ1 e1
    refine hc ρ _ _ e1 σ G H fp S _ fun G1 H1 fp1 st1 S1 => ?_
    rw [if_pos rfl]
    exact h ρ1 o e σ G1 H1 fp1 S1 Dn (q.from st1 fun _ _ => rfl)
  · rename_i ρ1 e1
    refine hc ρ _ _ e1 σ G H fp S _ fun G1 H1 fp1 st1 S1 => ?_
    rw [if_neg Bool.false_ne_true]
    exact k ρ1 o e σ G1 H1 fp1 S1 Dn (q.from st1 fun _ _ => rfl)
  · cases e
def sBreak : MoS := fun ρ => some (.bk ρ)
def sCont : MoS := fun ρ => some (.ct ρ)
theorem rs_break : RS K n P tBreak sBreak := fun ρ o e σ G H fp S Dn q => by
  cases e
  exact q σ G H fp (Stp.refl _ _ _) S fun _ _ => rfl
theorem rs_cont : RS K n P tCont sCont := fun ρ o e σ G H fp S Dn q => by
  cases e
  exact q σ G H fp (Stp.refl _ _ _) S fun _ _ => rfl
/-- target = shared data -/
def sAsg (f : Mo D) (g : D → Env → Option Env) : MoS := fun ρ => match f ρ with
  | some (d, ρ1) => match g d ρ1 with
    | some ρ2 => some (.nx ρ2)
    | none => none
  | none => none
theorem Stp.less {G H G' H' : Hp} {fp fp1 fp2 : Fp} (st : Stp G H fp G' H' fp1) (h : ∀ i a, a ∈ fp2 i → a ∈ fp1 i) : Stp G H fp G' H' fp2 := ⟨st.g, st.h, st.t, fun i a ha => st.f i a (h i a ha), st.n⟩
theorem rs_asg {T : List Nat} {tg : TG} {f : Mo D} {g : D → Env → Option Env} (h : RE K te f) (k : RG K T tg g) (hT : ∀ i ∈ P, i ∉ T) : RS K n P (tAsg te tg) (sAsg f g) := fun ρ o e σ G H fp S Dn q => by
  unfold sAsg at e
  split at e
  · rename_i d ρ1 e1
    split at e
    · rename_i ρ2 e2
      cases e
      refine h ρ _ _ e1 σ G H fp S _ fun v G1 H1 fp1 st1 S1 r1 => ?_
      refine k d ρ1 ρ2 e2 v σ G1 H1 fp1 S1 r1 _ fun σ' fp' S' h1 h2 h3 => ?_
      exact q σ' G1 H1 fp' (st1.less h1) S' fun i hi => h2 i (hT i hi)
    · cases e
  · cases e
/-- name = data of one's own -/
def sSetW (m i : Nat) (f : Mo D) : MoS := fun ρ => match f ρ with
  | some (d, ρ1) => if i < ρ1.length then some (.nx (ρ1.set i (.ow m d))) else none
  | none => none
theorem Sat.own {ρ : Env} {σ : L2.St} {G H H0 : Hp} {fp fp0 : Fp} {i m : Nat} {v : V} {d : D} {f0 : List Addr} (S : Sat K ρ σ G H fp) (hi : i < ρ.length) (ow : Ow K G H m v d f0) (tm : Tmp H0 fp0 G fp f0) : Sat K (ρ.set i (.ow m d)) (σ.set i (some v)) G H (fset fp i f0) :=
  S.put hi ⟨v, rfl, ow⟩ tm.nd tm.g fun j a _ h z => tm.d a z j h
theorem Stp.own {G H G' H' : Hp} {fp fp' : Fp} {i : Nat} {f0 : List Addr} (st : Stp G H fp G' H' fp') (tm : Tmp H fp G' fp' f0) : Stp G H fp G' H' (fset fp' i f0) := ⟨st.g, st.h, st.t, fun j a h => by
  by_cases hj : j = i
  · subst hj; rw [fset_same] at h; exact tm.o a h
  · rw [fset_ne hj] at h; exact st.f j a h, st.n⟩
theorem rs_setW {m i : Nat} {f : Mo D} (h : RW K m te f) (hT : ∀ j ∈ P, j ≠ i) : RS K n P (tAsg te (gName i)) (sSetW m i f) := fun ρ o e σ G H fp S Dn q => by
  unfold sSetW at e
  split at e
  · rename_i d ρ1 e1
    split at e
    · rename_i hi
      cases e
      refine h ρ _ _ e1 σ G H fp S _ fun v G1 H1 fp1 f0 st1 S1 ow tm => ?_
      exact q _ G1 H1 _ (st1.own tm) (S1.own hi ow tm) fun j hj => List.getElem?_set_ne (Ne.symm (hT j hj))
    · cases e
  · cases e
/-- an expression, its value dropped -/
def sDrop (f : Mo D) : MoS := fun ρ => match f ρ with
  | some (_, ρ1) => some (.nx ρ1)
  | none => none
theorem rs_drop {f : Mo D} (h : RE K te f) : RS K n P (tDrop te) (sDrop f) := fun ρ o e σ G H fp S Dn q => by
  unfold sDrop at e
  split at e
  · rename_i d ρ1 e1
    cases e
    exact h ρ _ _ e1 σ G H fp S _ fun v G1 H1 fp1 st1 S1 r1 => q σ G1 H1 fp1 st1 S1 fun _ _ => rfl
  · cases e
/-- slots that are not read any more -/
def forget (l : List Nat) (ρ : Env) : Env := l.foldl (fun r i => r.set i .un) ρ
theorem Sat.un1 {ρ : Env} {σ : L2.St} {G H : Hp} {fp : Fp} (S : Sat K ρ σ G H fp) (i : Nat) : Sat K (ρ.set i .un) σ G H (fset fp i []) := by
  by_cases hi : i < ρ.length
  · exact S.swap hi rfl List.nodup_nil (fun _ h => (nomatch h)) fun _ _ _ _ h => (nomatch h)
  · rw [List.set_eq_of_length_le (by omega)]
    have e : fset fp i [] = fp := by
      funext j
      by_cases hj : j = i
      · subst hj; rw [fset_same, S.out j (by omega)]
      · exact fset_ne hj
    rw [e]
    exact S
theorem Sat.forget {G H : Hp} {σ : L2.St} : ∀ (l : List Nat) {ρ : Env} {fp : Fp}, Sat K ρ σ G H fp → ∃ fp', Sat K (forget l ρ) σ G H fp' ∧ ∀ i a, a ∈ fp' i → a ∈ fp i
  | [], ρ, fp, S => ⟨fp, S, fun _ _ h => h⟩
  | i :: l, ρ, fp, S => by
    obtain ⟨fp', S', h⟩ := Sat.forget l (S.un1 i)
    refine ⟨fp', S', fun j a ha => ?_⟩
    have q := h j a ha
    by_cases hj : j = i
    · subst hj; rw [fset_same] at q; cases q
    · rw [fset_ne hj] at q; exact q
/-- .. behind a statement -/
def sFor (l : List Nat) (f : MoS) : MoS := fun ρ => match f ρ with
  | some (.nx ρ1) => some (.nx (forget l ρ1))
  | some (.ct ρ1) => some (.ct (forget l ρ1))
  | some (.bk ρ1) => some (.bk (forget l ρ1))
  | o => o
theorem rs_forget (l : List Nat) (h : RS K n P t f) : RS K n P t (sFor l f) := fun ρ o e σ G H fp S Dn q => by
  unfold sFor at e
  split at e
  · rename_i ρ1 e1
    cases e
    refine h ρ _ e1 σ G H fp S Dn fun σ' G' H' fp' st S' k => ?_
    obtain ⟨fp2, S2, h2⟩ := S'.forget l
    exact q σ' G' H' fp2 (st.less h2) S2 k
  · rename_i ρ1 e1
    cases e
    refine h ρ _ e1 σ G H fp S Dn fun σ' G' H' fp' st S' k => ?_
    obtain ⟨fp2, S2, h2⟩ := S'.forget l
    exact q σ' G' H' fp2 (st.less h2) S2 k
  · rename_i ρ1 e1
    cases e
    refine h ρ _ e1 σ G H fp S Dn fun σ' G' H' fp' st S' k => ?_
    obtain ⟨fp2, S2, h2⟩ := S'.forget l
    exact q σ' G' H' fp2 (st.less h2) S2 k
  · exact h ρ o e σ G H fp S Dn q
end

/-! ### loops -/
def Nxt (K : PySem.W.Frag) (P : List Nat) (σ : L2.St) (G1 H1 : Hp) (fp1 : Fp) (f : MoS) (o : Out) : L2.St → Hp → Prop := fun σ3 H3 => ∃ ρ3 G3 fp3, Sat K ρ3 σ3 G3 H3 fp3 ∧ Stp G1 H1 fp1 G3 H3 fp3 ∧ (∀ j ∈ P, σ3[j]? = σ[j]?) ∧ f ρ3 = some o
/-- J serves ds from the shared data of G -/
def Srv (K : PySem.W.Frag) (J : It) (G : Hp) (ds : List D) : Prop := ∀ G' H', Sub G G' → Sub G' H' → ∀ i,
  (∀ d, ds[i]? = some d → J.go i H' ∧ ∀ x H2, J.yld i H' x H2 → (H2 = H' ∧ Rp K G' x d) ∨ ∃ p o, H' p = none ∧ H2 = upd H' p o ∧ Rp K (upd G' p o) x d) ∧ (ds.length ≤ i → J.stop i H')
def RI (K : PySem.W.Frag) (t : TI) (f : Mo (List D)) : Prop := ∀ ρ ds ρ', f ρ = some (ds, ρ') → ∀ σ G H fp, Sat K ρ σ G H fp → ∀ R : It → Hp → Prop,
  (∀ J G' H' fp', Stp G H fp G' H' fp' → Sat K ρ' σ G' H' fp' → Srv K J G' ds → R J H') → t σ H R
def forD (set : D → Env → Option Env) (body : MoS) : List D → MoS
  | [], ρ => some (.nx ρ)
  | d :: ds, ρ => match set d ρ with
    | none => none
    | some ρ1 => match body ρ1 with
      | some (.nx ρ2) => forD set body ds ρ2
      | some (.ct ρ2) => forD set body ds ρ2
      | some (.bk ρ2) => some (.nx ρ2)
      | some (.rt z ρ2) => some (.rt z ρ2)
      | none => none
def sForIn (it : Mo (List D)) (set : D → Env → Option Env) (body : MoS) : MoS := fun ρ => match it ρ with
  | none => none
  | some (ds, ρ1) => forD set body ds ρ1
section
variable {K : PySem.W.Frag} {n : Nat} {P T : List Nat} {ti : TI} {tg : TG} {tb : TS} {it : Mo (List D)} {set : D → Env → Option Env} {body : MoS}
theorem rs_for (hi : RI K ti it) (hg : RG K T tg set) (hb : RS K n P tb body) (hT : ∀ i ∈ P, i ∉ T) : RS K n P (tFor ti tg tb) (sForIn it set body) := fun ρ o e σ G H fp S Dn q => by
  unfold sForIn at e
  split at e
  · cases e
  · rename_i ds ρ1 e1
    refine hi ρ _ _ e1 σ G H fp S _ fun J G1 H1 fp1 st1 S1 srv => ?_
    refine ⟨fun i m σ' H' => m = ds.length - i ∧ i ≤ ds.length ∧ ∃ ρi Gi fpi, Sat K ρi σ' Gi H' fpi ∧ Stp G1 H1 fp1 Gi H' fpi ∧ (∀ j ∈ P, σ'[j]? = σ[j]?) ∧ forD set body (ds.drop i) ρi = some o,
      ⟨ds.length, by simp, Nat.zero_le _, ρ1, G1, fp1, S1, Stp.refl _ _ _, fun _ _ => rfl, e⟩, ?_⟩
    rintro i m σ' H' ⟨rfl, hile, ρi, Gi, fpi, Si, sti, ki, ei⟩
    have sv := srv Gi H' sti.g Si.sub i
    by_cases hlt : i < ds.length
    · have hd : ds.drop i = ds[i] :: ds.drop (i + 1) := List.drop_eq_getElem_cons hlt
      rw [hd] at ei
      obtain ⟨hgo, hy⟩ := sv.1 ds[i] (List.getElem?_eq_getElem hlt)
      unfold forD at ei
      split at ei
      · cases ei
      · rename_i ρ2 e2
        refine .inr ⟨hgo, Nxt K P σ G1 H1 fp1 (forD set body (ds.drop (i + 1))) o, ?_, ?_⟩
        · rintro σ3 H3 ⟨ρ3, G3, fp3, S3, st3, k3, e3⟩
          exact ⟨ds.length - (i + 1), by omega, rfl, hlt, ρ3, G3, fp3, S3, st3, k3, e3⟩
        · intro x H2 hyx
          have core : ∀ G2 H2', Sat K ρi σ' G2 H2' fpi → Stp G1 H1 fp1 G2 H2' fpi → Rp K G2 x ds[i] → tg x σ' H2' fun σ2 H2 => tb { Dn with nx := Nxt K P σ G1 H1 fp1 (forD set body (ds.drop (i + 1))) o, ct := Nxt K P σ G1 H1 fp1 (forD set body (ds.drop (i + 1))) o, bk := Dn.nx } σ2 H2 := by
            intro G2 H2' S2 st2 rx
            refine hg _ ρi ρ2 e2 x σ' G2 H2' fpi S2 rx _ fun σ4 fp4 S4 h1 h2 h3 => ?_
            have st4 : Stp G1 H1 fp1 G2 H2' fp4 := st2.less h1
            have k4 : ∀ j ∈ P, σ4[j]? = σ[j]? := fun j hj => (h2 j (hT j hj)).trans (ki j hj)
            cases hbo : body ρ2 with
            | none => rw [hbo] at ei; cases ei
            | some ob =>
              rw [hbo] at ei
              refine hb ρ2 ob hbo σ4 G2 H2' fp4 S4 _ ?_
              cases ob with
              | nx ρ5 => exact fun σ5 G5 H5 fp5 st5 S5 k5 => ⟨ρ5, G5, fp5, S5, st4.trans st5, fun j hj => (k5 j hj).trans (k4 j hj), ei⟩
              | ct ρ5 => exact fun σ5 G5 H5 fp5 st5 S5 k5 => ⟨ρ5, G5, fp5, S5, st4.trans st5, fun j hj => (k5 j hj).trans (k4 j hj), ei⟩
              | bk ρ5 =>
                cases ei
                exact fun σ5 G5 H5 fp5 st5 S5 k5 => q σ5 G5 H5 fp5 (st1.trans (st4.trans st5)) S5 fun j hj => (k5 j hj).trans (k4 j hj)
              | rt z ρ5 =>
                cases ei
                exact fun v σ5 G5 H5 fp5 f0 st5 S5 k5 ow tm => q v σ5 G5 H5 fp5 f0 (st1.trans (st4.trans st5)) S5 (fun j hj => (k5 j hj).trans (k4 j hj)) ow (tm.from (st1.trans st4))
          rcases hy x H2 hyx with ⟨rfl, rx⟩ | ⟨p, ob, hp, rfl, rx⟩
          · exact core Gi _ Si sti rx
          · exact core _ _ (Si.newF hp) (sti.trans (Stp.newF Si.sub hp)) rx
    · have ei' : ds.drop i = [] := List.drop_eq_nil_of_le (by omega)
      rw [ei'] at ei
      cases ei
      exact .inl ⟨sv.2 (by omega), q σ' Gi H' fpi (st1.trans sti) Si ki⟩
/-- while, with its fuel -/
def whD (c : Mo Bool) (body : MoS) : Nat → MoS
  | 0, _ => none
  | m + 1, ρ => match c ρ with
    | none => none
    | some (false, ρ1) => some (.nx ρ1)
    | some (true, ρ1) => match body ρ1 with
      | some (.nx ρ2) => whD c body m ρ2
      | some (.ct ρ2) => whD c body m ρ2
      | some (.bk ρ2) => some (.nx ρ2)
      | some (.rt z ρ2) => some (.rt z ρ2)
      | none => none
def sWhile (m : Env → Nat) (c : Mo Bool) (body : MoS) : MoS := fun ρ => whD c body (m ρ) ρ
theorem rs_while {tc : TT} {c : Mo Bool} {m : Env → Nat} (hc : RT K tc c) (hb : RS K n P tb body) : RS K n P (tWhile tc tb) (sWhile m c body) := fun ρ o e σ G H fp S Dn q => by
  unfold sWhile at e
  refine ⟨fun k σ' H' => ∃ ρi Gi fpi, Sat K ρi σ' Gi H' fpi ∧ Stp G H fp Gi H' fpi ∧ (∀ j ∈ P, σ'[j]? = σ[j]?) ∧ whD c body k ρi = some o, ⟨m ρ, ρ, G, fp, S, Stp.refl _ _ _, fun _ _ => rfl, e⟩, ?_⟩
  rintro k σ' H' ⟨ρi, Gi, fpi, Si, sti, ki, ei⟩
  cases k with
  | zero => cases ei
  | succ k =>
    unfold whD at ei
    cases hco : c ρi with
    | none => rw [hco] at ei; cases ei
    | some cb =>
      obtain ⟨b, ρ1⟩ := cb
      rw [hco] at ei
      refine hc ρi b ρ1 hco σ' Gi H' fpi Si _ fun G1 H1 fp1 st1 S1 => ?_
      cases b with
      | false =>
        cases ei
        rw [if_neg Bool.false_ne_true]
        exact q σ' G1 H1 fp1 (sti.trans st1) S1 ki
      | true =>
        rw [if_pos rfl]
        refine ⟨fun σ3 H3 => ∃ ρ3 G3 fp3, Sat K ρ3 σ3 G3 H3 fp3 ∧ Stp G H fp G3 H3 fp3 ∧ (∀ j ∈ P, σ3[j]? = σ[j]?) ∧ whD c body k ρ3 = some o, fun σ3 H3 h => ⟨k, by omega, h⟩, ?_⟩
        cases hbo : body ρ1 with
        | none => simp only [hbo] at ei; cases ei
        | some ob =>
          simp only [hbo] at ei
          refine hb ρ1 ob hbo σ' G1 H1 fp1 S1 _ ?_
          cases ob with
          | nx ρ5 => exact fun σ5 G5 H5 fp5 st5 S5 k5 => ⟨ρ5, G5, fp5, S5, (sti.trans st1).trans st5, fun j hj => (k5 j hj).trans (ki j hj), ei⟩
          | ct ρ5 => exact fun σ5 G5 H5 fp5 st5 S5 k5 => ⟨ρ5, G5, fp5, S5, (sti.trans st1).trans st5, fun j hj => (k5 j hj).trans (ki j hj), ei⟩
          | bk ρ5 =>
            cases ei
            exact fun σ5 G5 H5 fp5 st5 S5 k5 => q σ5 G5 H5 fp5 ((sti.trans st1).trans st5) S5 fun j hj => (k5 j hj).trans (ki j hj)
          | rt z ρ5 =>
            cases ei
            exact fun v σ5 G5 H5 fp5 f0 st5 S5 k5 ow tm => q v σ5 G5 H5 fp5 f0 ((sti.trans st1).trans st5) S5 (fun j hj => (k5 j hj).trans (ki j hj)) ow (tm.from (sti.trans st1))
/-- what is walked: a list, a tuple -/
def iSeq (f : Mo D) : Mo (List D) := fun ρ => match f ρ with
  | some (.list ds, ρ1) => some (ds, ρ1)
  | some (.tuple ds, ρ1) => some (ds, ρ1)
  | _ => none
theorem ri_list {te : TE} {f : Mo D} (h : RE K te f) : RI K (iList K te) (fun ρ => match f ρ with | some (.list ds, ρ1) => some (ds, ρ1) | _ => none) := fun ρ ds ρ' e σ G H fp S R q => by
  simp only at e
  split at e
  · rename_i ds' ρ1 e1
    cases e
    refine h ρ _ _ e1 σ G H fp S _ fun v G1 H1 fp1 st1 S1 r1 => ?_
    obtain ⟨a, vs, rfl, g1, p1⟩ := r1.list'
    refine ⟨a, rfl, ⟨vs, SqL.of (S1.sub _ _ g1)⟩, q _ G1 H1 fp1 st1 S1 fun G' H' s1 s2 i => ⟨fun d hd => ?_, fun hl => ?_⟩⟩
    · have e2 : H' a = some (.lst vs) := s2 _ _ (s1 _ _ g1)
      obtain ⟨x, hx, rx⟩ := p1.get hd
      refine ⟨⟨vs, x, SqL.of e2, hx⟩, fun y H2 hy => .inl ⟨hy.1, ?_⟩⟩
      have := hy.2 vs (SqL.of e2)
      rw [hx] at this
      cases this
      exact rx.mono s1
    · exact ⟨vs, SqL.of (s2 _ _ (s1 _ _ g1)), by rw [p1.length]; exact hl⟩
  · cases e
theorem ri_tup {te : TE} {f : Mo D} (h : RE K te f) : RI K (iTup K te) (fun ρ => match f ρ with | some (.tuple ds, ρ1) => some (ds, ρ1) | _ => none) := fun ρ ds ρ' e σ G H fp S R q => by
  simp only at e
  split at e
  · rename_i ds' ρ1 e1
    cases e
    refine h ρ _ _ e1 σ G H fp S _ fun v G1 H1 fp1 st1 S1 r1 => ?_
    obtain ⟨a, vs, rfl, g1, p1⟩ := r1.tuple'
    refine ⟨a, rfl, ⟨vs, S1.sub.sqT g1⟩, q _ G1 H1 fp1 st1 S1 fun G' H' s1 s2 i => ⟨fun d hd => ?_, fun hl => ?_⟩⟩
    · have e2 : SqT K H' a vs := s2.sqT (s1.sqT g1)
      obtain ⟨x, hx, rx⟩ := p1.get hd
      refine ⟨⟨vs, x, e2, hx⟩, fun y H2 hy => .inl ⟨hy.1, ?_⟩⟩
      have := hy.2 vs e2
      rw [hx] at this
      cases this
      exact rx.mono s1
    · exact ⟨vs, s2.sqT (s1.sqT g1), by rw [p1.length]; exact hl⟩
  · cases e
/-- range(b), range(a, b) -/
def rangeD (lo : Int) (n : Nat) : List D := (List.range n).map fun (i : Nat) => PyData.int (lo + (i : Int))
theorem srv_range {G : Hp} {lo : Int} {m : Nat} : Srv K (Itr lo m) G (rangeD lo m) := fun G' H' s1 s2 i => by
  constructor
  · intro d hd
    unfold rangeD at hd
    rw [List.getElem?_map] at hd
    by_cases hi : i < m
    · rw [List.getElem?_range hi] at hd
      cases hd
      refine ⟨hi, fun x H2 hy => .inl ⟨hy.1, ?_⟩⟩
      rw [hy.2]
      exact .int _
    · rw [List.getElem?_eq_none (by simp; omega)] at hd
      cases hd
  · intro h
    unfold rangeD at h
    rw [List.length_map, List.length_range] at h
    exact h
def cRng (i : Int) : Bool := decide (-4611686018427387904 ≤ i) && decide (i < 4611686018427387904)
def iR1 (fs : Mo (List Opd)) : Mo (List D) := fun ρ => match fs ρ with
  | none => none
  | some (os, ρ1) => match rsA rs ρ1 os with
    | some [.int j] => if cRng j then some (rangeD 0 j.toNat, ρ1) else none
    | _ => none
def iR2 (fs : Mo (List Opd)) : Mo (List D) := fun ρ => match fs ρ with
  | none => none
  | some (os, ρ1) => match rsA rs ρ1 os with
    | some [.int i, .int j] => if cRng i && cRng j then some (rangeD i (j - i).toNat, ρ1) else none
    | _ => none
theorem cRng_ok {i : Int} (h : cRng i = true) : -(2 ^ 62) ≤ i ∧ i < 2 ^ 62 := by
  unfold cRng at h
  rw [Bool.and_eq_true, decide_eq_true_eq, decide_eq_true_eq] at h
  have e : (2 : Int) ^ 62 = 4611686018427387904 := by decide
  omega
theorem ri_r1 {ta : TA} {fs : Mo (List Opd)} (h : RA K ta fs) : RI K (iRng1 ta) (iR1 fs) := fun ρ ds ρ' e σ G H fp S R q => by
  unfold iR1 at e
  split at e
  · cases e
  · rename_i os ρ1 e1
    split at e
    · rename_i j e2
      split at e
      · rename_i hj
        cases e
        refine h ρ _ _ e1 σ G H fp S _ fun vs G1 H1 fp1 st1 S1 ra => ?_
        have r := rsA_rp S1 ra e2
        cases r with
        | cons r1 r2 =>
          cases r2
          cases r1.int'
          obtain ⟨h1, h2⟩ := cRng_ok hj
          exact ⟨j, rfl, h1, h2, q _ G1 H1 fp1 st1 S1 srv_range⟩
      · cases e
    · cases e
theorem ri_r2 {ta : TA} {fs : Mo (List Opd)} (h : RA K ta fs) : RI K (iRng2 ta) (iR2 fs) := fun ρ ds ρ' e σ G H fp S R q => by
  unfold iR2 at e
  split at e
  · cases e
  · rename_i os ρ1 e1
    split at e
    · rename_i i j e2
      split at e
      · rename_i hj
        cases e
        refine h ρ _ _ e1 σ G H fp S _ fun vs G1 H1 fp1 st1 S1 ra => ?_
        have r := rsA_rp S1 ra e2
        cases r with
        | cons r1 r2 =>
          cases r2 with
          | cons r2 r3 =>
            cases r3
            cases r1.int'; cases r2.int'
            rw [Bool.and_eq_true] at hj
            obtain ⟨h1, h2⟩ := cRng_ok hj.1
            obtain ⟨h3, h4⟩ := cRng_ok hj.2
            exact ⟨i, j, rfl, ⟨h1, h2, h3, h4⟩, q _ G1 H1 fp1 st1 S1 srv_range⟩
      · cases e
    · cases e
end
end Nt

/-! comprehensions, defs, calls -/
namespace Nt
open PySem PySem.Spec PyProof.Rows L2

/-! ### comprehensions -/
theorem wipe_out' {σ : L2.St} {i : Nat} : ∀ {vs : List Nat}, i ∉ vs → (wipe σ vs)[i]? = σ[i]?
  | [], _ => rfl
  | v :: vs, h => by
    unfold wipe
    rw [List.mem_cons, not_or] at h
    rw [List.getElem?_set_ne (fun z => h.1 z.symm)]
    exact wipe_out' h.2
theorem wipe_in {σ : L2.St} {i : Nat} (hi : i < σ.length) : ∀ {vs : List Nat}, i ∈ vs → (wipe σ vs)[i]? = some none
  | v :: vs, h => by
    unfold wipe
    by_cases e : v = i
    · subst e
      rw [List.getElem?_set_self (by rw [wipe_length]; exact hi)]
    · rw [List.getElem?_set_ne e]
      exact wipe_in hi (by
        rcases List.mem_cons.mp h with z | z
        · exact absurd z.symm e
        · exact z)
theorem wipe_same {σ σ2 : L2.St} {vs : List Nat} (hl : σ2.length = σ.length) (h : ∀ i, i ∉ vs → σ2[i]? = (wipe σ vs)[i]?) : wipe σ2 vs = wipe σ vs := by
  refine List.ext_getElem? fun i => ?_
  by_cases hi : i ∈ vs
  · by_cases hlt : i < σ.length
    · rw [wipe_in hlt hi, wipe_in (by rw [hl]; exact hlt) hi]
    · rw [List.getElem?_eq_none (by rw [wipe_length]; omega), List.getElem?_eq_none (by rw [wipe_length]; omega)]
  · rw [wipe_out' hi, h i hi]
/-- the own names of a block are not owned outside -/
def okOwn (ρ : Env) (vs : List Nat) : Bool := vs.all fun i => match ρ[i]? with
  | some (.ow _ _) => false
  | _ => true
/-- back to the outer names -/
def back (ρ0 ρ : Env) (vs : List Nat) : Env := vs.foldl (fun r i => match ρ0[i]? with | some s => r.set i s | none => r) ρ
def compD (set : D → Env → Option Env) (tst : Mo Bool) (el : Mo D) (vs : List Nat) : List D → Mo (List D)
  | [], ρ => some ([], forget vs ρ)
  | d :: ds, ρ => match set d (forget vs ρ) with
    | none => none
    | some ρ1 => match tst ρ1 with
      | none => none
      | some (false, ρ2) => compD set tst el vs ds ρ2
      | some (true, ρ2) => match el ρ2 with
        | none => none
        | some (z, ρ3) => match compD set tst el vs ds ρ3 with
          | none => none
          | some (zs, ρ4) => some (z :: zs, ρ4)
def mComp (it : Mo (List D)) (set : D → Env → Option Env) (tst : Mo Bool) (el : Mo D) (vs : List Nat) : Mo D := fun ρ => match it ρ with
  | none => none
  | some (ds, ρ1) => if ds.length ≤ 16777216 then (if okOwn ρ1 vs then match compD set tst el vs ds ρ1 with
      | none => none
      | some (zs, ρ2) => some (.list zs, back ρ1 ρ2 vs)
    else none) else none
def mYes : Mo Bool := fun ρ => some (true, ρ)
section
variable {K : PySem.W.Frag}
theorem rt_yes : RT K tYes mYes := fun ρ d ρ' e σ G H fp S Q q => by
  cases e
  exact q G H fp (Stp.refl _ _ _) S
theorem forget_get {ρ : Env} {i : Nat} : ∀ (vs : List Nat), (forget vs ρ)[i]? = if i ∈ vs ∧ i < ρ.length then some .un else ρ[i]? := by
  intro vs
  induction vs generalizing ρ with
  | nil => simp [forget]
  | cons v vs ih =>
    show (forget vs (ρ.set v .un))[i]? = _
    rw [ih, List.length_set]
    by_cases h1 : i ∈ vs
    · by_cases h2 : i < ρ.length
      · rw [if_pos ⟨h1, h2⟩, if_pos ⟨List.mem_cons_of_mem _ h1, h2⟩]
      · rw [if_neg (fun z => h2 z.2), if_neg (fun z => h2 z.2), List.getElem?_eq_none (by rw [List.length_set]; omega), List.getElem?_eq_none (by omega)]
    · rw [if_neg (fun z => h1 z.1)]
      by_cases h3 : i = v
      · subst h3
        by_cases h2 : i < ρ.length
        · rw [List.getElem?_set_self h2, if_pos ⟨List.mem_cons_self, h2⟩]
        · rw [if_neg (fun z => h2 z.2), List.getElem?_eq_none (by rw [List.length_set]; omega), List.getElem?_eq_none (by omega)]
      · rw [List.getElem?_set_ne (fun z => h3 z.symm), if_neg (fun z => (List.mem_cons.mp z.1).elim h3 h1)]
theorem forget_length {ρ : Env} : ∀ (vs : List Nat), (forget vs ρ).length = ρ.length := by
  intro vs
  induction vs generalizing ρ with
  | nil => rfl
  | cons v vs ih =>
    show (forget vs (ρ.set v .un)).length = _
    rw [ih, List.length_set]
theorem back_get {ρ0 ρ : Env} {i : Nat} (hl : ρ.length = ρ0.length) : ∀ (vs : List Nat), (back ρ0 ρ vs)[i]? = if i ∈ vs then ρ0[i]? else ρ[i]? := by
  intro vs
  induction vs generalizing ρ with
  | nil => simp [back]
  | cons v vs ih =>
    have step : (back ρ0 ρ (v :: vs)) = back ρ0 (match ρ0[v]? with | some s => ρ.set v s | none => ρ) vs := rfl
    rw [step]
    have hl' : (match ρ0[v]? with | some s => ρ.set v s | none => ρ).length = ρ0.length := by
      split
      · rw [List.length_set]; exact hl
      · exact hl
    rw [ih hl']
    by_cases h1 : i ∈ vs
    · rw [if_pos h1, if_pos (List.mem_cons_of_mem _ h1)]
    · rw [if_neg h1]
      by_cases h3 : i = v
      · subst h3
        rw [if_pos List.mem_cons_self]
        by_cases h2 : i < ρ0.length
        · rw [List.getElem?_eq_getElem h2]
          simp only
          rw [List.getElem?_set_self (by omega)]
        · rw [List.getElem?_eq_none (by omega : ρ0.length ≤ i)]
          simp only
          exact List.getElem?_eq_none (by omega)
      · rw [if_neg (fun z => (List.mem_cons.mp z).elim h3 h1)]
        split
        · rw [List.getElem?_set_ne (fun z => h3 z.symm)]
        · rfl
theorem back_length {ρ0 ρ : Env} : ∀ (vs : List Nat), (back ρ0 ρ vs).length = ρ.length := by
  intro vs
  induction vs generalizing ρ with
  | nil => rfl
  | cons v vs ih =>
    show (back ρ0 (match ρ0[v]? with | some s => ρ.set v s | none => ρ) vs).length = _
    rw [ih]
    split
    · rw [List.length_set]
    · rfl
def fpw (fp : Fp) (vs : List Nat) : Fp := fun i => if i ∈ vs then [] else fp i
theorem fpw_in {fp : Fp} {vs : List Nat} {i : Nat} (h : i ∈ vs) : fpw fp vs i = [] := if_pos h
theorem fpw_out {fp : Fp} {vs : List Nat} {i : Nat} (h : i ∉ vs) : fpw fp vs i = fp i := if_neg h
theorem fpw_sub {fp : Fp} {vs : List Nat} {i : Nat} {a : Addr} (h : a ∈ fpw fp vs i) : i ∉ vs ∧ a ∈ fp i := by
  by_cases hi : i ∈ vs
  · rw [fpw_in hi] at h; cases h
  · rw [fpw_out hi] at h; exact ⟨hi, h⟩
theorem forget_idem {ρ : Env} {vs : List Nat} : forget vs (forget vs ρ) = forget vs ρ := by
  refine List.ext_getElem? fun i => ?_
  rw [forget_get, forget_get, forget_length]
  by_cases h : i ∈ vs ∧ i < ρ.length
  · rw [if_pos h, if_pos h]
  · rw [if_neg h]
/-- into the block: its own names are not yet there -/
theorem Sat.enter {ρ : Env} {σ : L2.St} {G H : Hp} {fp : Fp} {vs : List Nat} (S : Sat K ρ σ G H fp) : Sat K (Nt.forget vs ρ) (L2.wipe σ vs) G H (fpw fp vs) where
  len := by rw [forget_length, wipe_length]; exact S.len
  sl := fun i s e => by
    rw [forget_get] at e
    by_cases h : i ∈ vs ∧ i < ρ.length
    · rw [if_pos h] at e
      cases e
      exact fpw_in h.1
    · rw [if_neg h] at e
      have hi : i < ρ.length := (List.getElem?_eq_some_iff.mp e).1
      have hv : i ∉ vs := fun z => h ⟨z, hi⟩
      rw [wipe_out' hv, fpw_out hv]
      exact S.sl i s e
  out := fun i hi => by
    by_cases hv : i ∈ vs
    · exact fpw_in hv
    · rw [fpw_out hv]; exact S.out i (by rw [forget_length] at hi; exact hi)
  dis := fun i j a h1 h2 => S.dis i j a (fpw_sub h1).2 (fpw_sub h2).2
  nod := fun i => by
    by_cases hv : i ∈ vs
    · rw [fpw_in hv]; exact List.nodup_nil
    · rw [fpw_out hv]; exact S.nod i
  fr := fun i a h => S.fr i a (fpw_sub h).2
  sub := S.sub
/-- out of the block -/
theorem Sat.leave {ρ0 ρ : Env} {σ : L2.St} {G0 H0 G H : Hp} {fp0 fp : Fp} {vs : List Nat} (S0 : Sat K ρ0 σ G0 H0 fp0) (ok : okOwn ρ0 vs = true) (g : Sub G0 G) (S : Sat K ρ (L2.wipe σ vs) G H fp) : Sat K (back ρ0 ρ vs) σ G H (fpw fp vs) := by
  have hl : ρ.length = ρ0.length := by rw [← S.len, wipe_length, S0.len]
  refine ⟨by rw [back_length, hl]; exact S0.len, fun i s e => ?_, fun i hi => ?_, fun i j a h1 h2 => S.dis i j a (fpw_sub h1).2 (fpw_sub h2).2, fun i => ?_, fun i a h => S.fr i a (fpw_sub h).2, S.sub⟩
  · rw [back_get hl] at e
    by_cases h : i ∈ vs
    · rw [if_pos h] at e
      rw [fpw_in h]
      have q := S0.sl i s e
      have o := (List.all_eq_true.mp ok) i h
      rw [e] at o
      cases s with
      | un => exact rfl
      | sh d => obtain ⟨_, v, e2, r⟩ := q; exact ⟨rfl, v, e2, r.mono g⟩
      | ow n d => cases o
    · rw [if_neg h] at e
      rw [fpw_out h, ← wipe_out' h]
      exact S.sl i s e
  · rw [back_length] at hi
    by_cases hv : i ∈ vs
    · exact fpw_in hv
    · rw [fpw_out hv]; exact S.out i hi
  · by_cases hv : i ∈ vs
    · rw [fpw_in hv]; exact List.nodup_nil
    · rw [fpw_out hv]; exact S.nod i
variable {ti : TI} {tg : TG} {tt : TT} {te : TE} {it : Mo (List D)} {set : D → Env → Option Env} {tst : Mo Bool} {el : Mo D} {T vs : List Nat} {m : Nat}
theorem OwL.snoc {P : V → D → List Addr → Prop} {us : List V} {ds : List D} {f g : List Addr} {v : V} {d : D} (h : OwL P us ds f) (p : P v d g) : OwL P (us ++ [v]) (ds ++ [d]) (f ++ g) := by
  have q := h.append (OwL.cons p OwL.nil)
  rw [List.append_nil] at q
  exact q
theorem compD_forget {ρ : Env} : ∀ ds : List D, compD set tst el vs ds (forget vs ρ) = compD set tst el vs ds ρ
  | [] => by unfold compD; rw [forget_idem]
  | d :: ds => by unfold compD; rw [forget_idem]
/-- a list that grows at Dl, its items' own cells at g -/
structure Pend (K : PySem.W.Frag) (m : Nat) (G H : Hp) (fp : Fp) (Dl : Addr) (us : List V) (acc : List D) (g : List Addr) : Prop where
  e : H Dl = some (.lst us)
  ow : OwL (Ow K G H m) us acc g
  ap : ∀ a ∈ Dl :: g, G a = none ∧ (∀ j, a ∉ fp j) ∧ H a ≠ none
  nd : (Dl :: g).Nodup
theorem Pend.stp {G H G' H' : Hp} {fp fp' : Fp} {Dl : Addr} {us : List V} {acc : List D} {g : List Addr} (p : Pend K m G H fp Dl us acc g) (st : Stp G H fp G' H' fp') : Pend K m G' H' fp' Dl us acc g := by
  have same : ∀ a ∈ Dl :: g, H' a = H a := fun a ha => st.h a (p.ap a ha).2.1 (p.ap a ha).2.2
  refine ⟨(same Dl List.mem_cons_self).trans p.e, p.ow.imp fun v d g' hg q => q.mono st.g fun a ha => same a (List.mem_cons_of_mem _ (hg a ha)), fun a ha => ⟨?_, fun j hj => ?_, ?_⟩, p.nd⟩
  · cases e : G' a with
    | none => rfl
    | some o =>
      rcases st.n a (by rw [e]; exact fun z => nomatch z) with z | ⟨j, z⟩ | z
      · exact absurd (p.ap a ha).1 z
      · exact absurd z ((p.ap a ha).2.1 j)
      · exact absurd z (p.ap a ha).2.2
  · rcases st.f j a hj with ⟨k, z⟩ | z
    · exact (p.ap a ha).2.1 k z
    · exact (p.ap a ha).2.2 z
  · rw [same a ha]; exact (p.ap a ha).2.2
theorem Pend.less {G H : Hp} {fp fp' : Fp} {Dl : Addr} {us : List V} {acc : List D} {g : List Addr} (p : Pend K m G H fp Dl us acc g) (h : ∀ i a, a ∈ fp' i → a ∈ fp i) : Pend K m G H fp' Dl us acc g :=
  ⟨p.e, p.ow, fun a ha => ⟨(p.ap a ha).1, fun j hj => (p.ap a ha).2.1 j (h j a hj), (p.ap a ha).2.2⟩, p.nd⟩
/-- one item more -/
theorem Pend.snoc {ρ : Env} {σ : L2.St} {G H H0 : Hp} {fp fp0 : Fp} {Dl : Addr} {us : List V} {acc : List D} {g f0 : List Addr} {v : V} {d : D} (p : Pend K m G H fp Dl us acc g) (S : Sat K ρ σ G H fp)
    (ow : Ow K G H m v d f0) (tm : Tmp H0 fp0 G fp f0) (h0 : ∀ a ∈ Dl :: g, (∀ j, a ∉ fp0 j) ∧ H0 a ≠ none) : Pend K m G (upd H Dl (.lst (us ++ [v]))) fp Dl (us ++ [v]) (acc ++ [d]) (g ++ f0) ∧
      Sat K ρ σ G (upd H Dl (.lst (us ++ [v]))) fp := by
  have apart : ∀ a ∈ f0, a ∉ Dl :: g := fun a ha hz => by
    rcases tm.o a ha with ⟨j, z⟩ | z
    · exact (h0 a hz).1 j z
    · exact (h0 a hz).2 z
  have nD : ∀ a, a ∈ g ∨ a ∈ f0 → upd H Dl (.lst (us ++ [v])) a = H a := fun a ha => upd_ne fun z => by
    subst z
    rcases ha with h | h
    · exact (List.nodup_cons.mp p.nd).1 h
    · exact apart a h List.mem_cons_self
  refine ⟨⟨upd_same, OwL.snoc (p.ow.imp fun v d g' hg q => q.mono (Sub.refl G) fun a ha => nD a (.inl (hg a ha))) (ow.mono (Sub.refl G) fun a ha => nD a (.inr ha)), fun a ha => ?_, ?_⟩, S.keep (Sub.refl G) (fun i a ha => upd_ne fun z => ?_) S.fr fun a o e => ?_⟩
  · have hcase : a = Dl ∨ a ∈ g ∨ a ∈ f0 := by
      rcases List.mem_cons.mp ha with h | h
      · exact .inl h
      · exact .inr (List.mem_append.mp h)
    rcases hcase with h | h | h
    · subst h
      exact ⟨(p.ap a List.mem_cons_self).1, (p.ap a List.mem_cons_self).2.1, by rw [upd_same]; exact fun z => nomatch z⟩
    · have q := p.ap a (List.mem_cons_of_mem _ h)
      exact ⟨q.1, q.2.1, by rw [nD a (.inl h)]; exact q.2.2⟩
    · exact ⟨tm.g a h, tm.d a h, by rw [nD a (.inr h)]; exact ow.live a h⟩
  · have q := List.nodup_cons.mp p.nd
    refine List.nodup_cons.mpr ⟨fun h => ?_, List.nodup_append.mpr ⟨q.2, tm.nd, fun a ha b hb z => ?_⟩⟩
    · rcases List.mem_append.mp h with h | h
      · exact q.1 h
      · exact apart _ h List.mem_cons_self
    · subst z
      exact apart a hb (List.mem_cons_of_mem _ ha)
  · subst z
    exact (p.ap a List.mem_cons_self).2.1 i ha
  · rw [upd_ne fun z => by rw [z, (p.ap Dl List.mem_cons_self).1] at e; cases e]
    exact S.sub a o e
theorem rw_comp (hi : RI K ti it) (hg : RG K T tg set) (ht : RT K tt tst) (he : RW K m te el) (hT : ∀ i ∈ T, i ∈ vs) : RW K (m + 1) (tLc ti tg tt te vs) (mComp it set tst el vs) := fun ρ d ρ' e σ G H fp S Q q => by
  unfold mComp at e
  split at e
  · cases e
  · rename_i ds ρ1 e1
    split at e
    · rename_i hlen
      split at e
      · rename_i hown
        split at e
        · cases e
        · rename_i zs ρ2 e2
          cases e
          refine hi ρ _ _ e1 σ G H fp S _ fun J G1 H1 fp1 st1 S1 srv => fun Dl hD => ?_
          have hsz : sizeLine = 16777216 := sizeLine_eq
          have S2 := (S1.enter (vs := vs)).new (o := .lst []) hD
          have st2 : Stp G1 H1 fp1 G1 (upd H1 Dl (.lst [])) (fpw fp1 vs) := (Stp.new hD).less fun i a h => (fpw_sub h).2
          refine ⟨fun i k H' => k = ds.length - i ∧ i ≤ ds.length ∧ ∃ ρi Gi fpi acc us g, Sat K ρi (L2.wipe σ vs) Gi H' fpi ∧ Stp G1 H1 fp1 Gi H' fpi ∧ acc.length ≤ i ∧ Pend K m Gi H' fpi Dl us acc g ∧
              (∀ a ∈ g, (∃ j, a ∈ fp1 j) ∨ H1 a = none) ∧ ∃ zs', compD set tst el vs (ds.drop i) ρi = some (zs', ρ2) ∧ acc ++ zs' = zs,
            ⟨ds.length, by simp, Nat.zero_le _, _, G1, _, [], [], [], S2, st2, Nat.le_refl _, ⟨upd_same, .nil, fun a ha => ?_, by simp⟩, fun _ h => (nomatch h), zs, (compD_forget ds).trans e2, rfl⟩, ?_⟩
          · rw [List.mem_singleton.mp ha]
            exact ⟨S1.sub.none hD, fun j hj => S1.live (fpw_sub hj).2 hD, by rw [upd_same]; exact fun z => nomatch z⟩
          · rintro i k H' ⟨rfl, hile, ρi, Gi, fpi, acc, us, g, Si, sti, hai, pe, og, zs', ei, hz⟩
            have sv := srv Gi H' sti.g Si.sub i
            by_cases hlt : i < ds.length
            · have hd : ds.drop i = ds[i] :: ds.drop (i + 1) := List.drop_eq_getElem_cons hlt
              rw [hd] at ei
              obtain ⟨hgo, hy⟩ := sv.1 ds[i] (List.getElem?_eq_getElem hlt)
              unfold compD at ei
              split at ei
              · cases ei
              · rename_i ρ3 e3
                refine .inr ⟨hgo, fun H4 => ∃ ρj Gj fpj acc us g, Sat K ρj (L2.wipe σ vs) Gj H4 fpj ∧ Stp G1 H1 fp1 Gj H4 fpj ∧ acc.length ≤ i + 1 ∧ Pend K m Gj H4 fpj Dl us acc g ∧
                    (∀ a ∈ g, (∃ j, a ∈ fp1 j) ∨ H1 a = none) ∧ ∃ zs', compD set tst el vs (ds.drop (i + 1)) ρj = some (zs', ρ2) ∧ acc ++ zs' = zs, fun H4 h => ⟨ds.length - (i + 1), by omega, rfl, hlt, h⟩, ?_⟩
                intro x H2 hyx
                have core : ∀ G2 H2', Sat K ρi (L2.wipe σ vs) G2 H2' fpi → Stp G1 H1 fp1 G2 H2' fpi → Pend K m G2 H2' fpi Dl us acc g → Rp K G2 x ds[i] →
                    tg x (L2.wipe σ vs) H2' fun σ2 H2 => L2.wipe σ2 vs = L2.wipe σ vs ∧ tt σ2 H2 fun b H3 =>
                      if b = true then te σ2 H3 fun y H4 => ∃ acc, H4 Dl = some (.lst acc) ∧ acc.length < sizeLine ∧ (∃ ρj Gj fpj acc_1 us g, Sat K ρj (L2.wipe σ vs) Gj (upd H4 Dl (.lst (acc ++ [y]))) fpj ∧ Stp G1 H1 fp1 Gj (upd H4 Dl (.lst (acc ++ [y]))) fpj ∧ acc_1.length ≤ i + 1 ∧ Pend K m Gj (upd H4 Dl (.lst (acc ++ [y]))) fpj Dl us acc_1 g ∧
                        (∀ a ∈ g, (∃ j, a ∈ fp1 j) ∨ H1 a = none) ∧ ∃ zs', compD set tst el vs (ds.drop (i + 1)) ρj = some (zs', ρ2) ∧ acc_1 ++ zs' = zs)
                      else (∃ ρj Gj fpj acc us g, Sat K ρj (L2.wipe σ vs) Gj H3 fpj ∧ Stp G1 H1 fp1 Gj H3 fpj ∧ acc.length ≤ i + 1 ∧ Pend K m Gj H3 fpj Dl us acc g ∧
                        (∀ a ∈ g, (∃ j, a ∈ fp1 j) ∨ H1 a = none) ∧ ∃ zs', compD set tst el vs (ds.drop (i + 1)) ρj = some (zs', ρ2) ∧ acc ++ zs' = zs) := by
                  intro G2 H2' Sa sta pa rx
                  have Sb : Sat K (forget vs ρi) (L2.wipe σ vs) G2 H2' (fpw fpi vs) := by
                    have h := Sa.enter (vs := vs)
                    have ww : L2.wipe (L2.wipe σ vs) vs = L2.wipe σ vs := wipe_same (by rw [wipe_length]) fun i hi => rfl
                    rw [ww] at h
                    exact h
                  have stb := sta.less fun j a (h : a ∈ fpw fpi vs j) => (fpw_sub h).2
                  have pb := pa.less fun j a (h : a ∈ fpw fpi vs j) => (fpw_sub h).2
                  refine hg _ _ ρ3 e3 x _ G2 H2' _ Sb rx _ fun σ2 fp4 S4 h1 h2 h3 => ?_
                  have st4 := stb.less h1
                  have p4 := pb.less h1
                  have hw : L2.wipe σ2 vs = L2.wipe σ vs := wipe_same (by rw [h3, wipe_length]) fun j hj => h2 j fun z => hj (hT j z)
                  refine ⟨hw, ?_⟩
                  split at ei
                  · cases ei
                  · rename_i ρ5 e5
                    refine ht ρ3 _ _ e5 σ2 G2 H2' fp4 S4 _ fun G5 H5 fp5 st5 S5 => ?_
                    rw [if_neg Bool.false_ne_true]
                    have S6 := S5.enter (vs := vs)
                    rw [hw] at S6
                    exact ⟨_, G5, _, acc, us, g, S6, (st4.trans st5).less fun j a h => (fpw_sub h).2, by omega, (p4.stp st5).less fun j a h => (fpw_sub h).2, og, zs', (compD_forget _).trans ei, hz⟩
                  · rename_i ρ5 e5
                    refine ht ρ3 _ _ e5 σ2 G2 H2' fp4 S4 _ fun G5 H5 fp5 st5 S5 => ?_
                    rw [if_pos rfl]
                    split at ei
                    · cases ei
                    · rename_i z ρ6 e6
                      split at ei
                      · cases ei
                      · rename_i zs2 ρ7 e7
                        cases ei
                        have p5 := p4.stp st5
                        refine he ρ5 _ _ e6 σ2 G5 H5 fp5 S5 _ fun y G6 H6 fp6 f6 st6 S6 ow6 tm6 => ?_
                        have p6 := p5.stp st6
                        obtain ⟨p7, S7⟩ := p6.snoc S6 ow6 tm6 fun a ha => ⟨(p5.ap a ha).2.1, (p5.ap a ha).2.2⟩
                        have S8 := S7.enter (vs := vs)
                        rw [hw] at S8
                        have st6' := (st4.trans st5).trans st6
                        refine ⟨us, p6.e, by rw [p6.ow.length]; omega, _, G6, _, acc ++ [z], us ++ [y], g ++ f6, S8, ?_, by rw [List.length_append, List.length_singleton]; omega, p7.less fun j a h => (fpw_sub h).2, fun a ha => ?_, zs2, (compD_forget _).trans e7, by rw [← hz]; simp⟩
                        · have hDn : H1 Dl = none := hD
                          refine ⟨st6'.g, fun a h1 h2 => (upd_ne fun z => h2 (by rw [z]; exact hDn)).trans (st6'.h a h1 h2), fun a h => ?_, fun j a h => st6'.f j a (fpw_sub h).2, st6'.n⟩
                          by_cases z : a = Dl
                          · subst z; exact absurd hDn h
                          · rw [upd_ne z]; exact st6'.t a h
                        · rcases List.mem_append.mp ha with h | h
                          · exact og a h
                          · rcases tm6.o a h with ⟨j, z⟩ | z
                            · exact (st4.trans st5).f j a z
                            · exact .inr (Classical.byContradiction fun w => (st4.trans st5).t a w z)
                rcases hy x H2 hyx with ⟨rfl, rx⟩ | ⟨p, ob, hp, rfl, rx⟩
                · exact core Gi _ Si sti pe rx
                · exact core _ _ (Si.newF hp) (sti.trans (Stp.newF Si.sub hp)) (pe.stp (Stp.newF Si.sub hp)) rx
            · have ei' : ds.drop i = [] := List.drop_eq_nil_of_le (by omega)
              rw [ei'] at ei
              cases ei
              rw [List.append_nil] at hz
              subst hz
              refine .inl ⟨sv.2 (by omega), ?_⟩
              have hb : back ρ1 (forget vs ρi) vs = back ρ1 ρi vs := by
                have hl : ρi.length = ρ1.length := by rw [← Si.len, wipe_length, S1.len]
                refine List.ext_getElem? fun j => ?_
                rw [back_get (by rw [forget_length]; exact hl), back_get hl, forget_get]
                by_cases hj : j ∈ vs
                · rw [if_pos hj, if_pos hj]
                · rw [if_neg hj, if_neg hj, if_neg fun z => hj z.1]
              rw [hb] at q
              refine q _ Gi H' _ (Dl :: g) ((st1.trans sti).less fun j a h => (fpw_sub h).2) (S1.leave hown sti.g Si) (.inr (.inl ⟨Dl, us, acc, g, rfl, rfl, rfl, pe.e, pe.ow⟩)) ⟨pe.nd, fun a ha => (pe.ap a ha).1, fun a ha j hj => (pe.ap a ha).2.1 j (fpw_sub hj).2, fun a ha => ?_⟩
              rcases List.mem_cons.mp ha with h | h
              · subst h
                exact .inr (Classical.byContradiction fun z => st1.t a z hD)
              · rcases og a h with ⟨j, z⟩ | z
                · exact st1.f j a z
                · exact .inr (Classical.byContradiction fun w => st1.t a w z)
      · cases e
    · cases e
end
end Nt

/-! defs and calls; the guards of repr are known to be none -/
namespace Nt
open PySem PySem.Spec PyProof.Rows L2

/-- no exception leaves -/
def CXn : CXT := fun _ _ _ _ _ _ => False
/-- a def's promise where no repr runs around -/
structure FnG (P : Program) (w : World) (K : PySem.W.Frag) (mg : Str → Option Value) (base : Heap) (k : Nat) (f : Addr) (fd : FuncData) (ps : List Str) (sp : Sp) : Prop where
  len : ∀ vs H Q E, sp vs H Q E → vs.length = ps.length
  run : ∀ (A : Around) (outer : List PySem.Env) (s : Shared) (H : Hp) (args : Args) (us : List Value) (vs : List V) (Q : VK), A.guards = some [] → Room k A → Env0 P w K mg base A outer s H → BindsTo s fd args (ps.zip us) → Vals vs us →
    sp vs H Q (fun _ _ _ => False) → codeAny (model P w) A (.call (.ref f) args) (CR CXn outer P w H s Q fun _ _ _ => False) s
theorem FnG.imp {P : Program} {w : World} {K : PySem.W.Frag} {mg : Str → Option Value} {base : Heap} {k : Nat} {f : Addr} {fd : FuncData} {ps : List Str} {sp sp' : Sp} (F : FnG P w K mg base k f fd ps sp) (h : ∀ vs H Q E, sp' vs H Q E → sp vs H Q E) : FnG P w K mg base k f fd ps sp' :=
  ⟨fun vs H Q E q => F.len vs H Q E (h _ _ _ _ q), fun A outer s H args us vs Q hg hr e b v q => F.run A outer s H args us vs Q hg hr e b v (h _ _ _ _ q)⟩
theorem FnG.lift {P : Program} {w : World} {K : PySem.W.Frag} {mg : Str → Option Value} {base : Heap} {j k : Nat} {f : Addr} {fd : FuncData} {ps : List Str} {sp : Sp} (F : FnG P w K mg base j f fd ps sp) (h : j ≤ k) : FnG P w K mg base k f fd ps sp :=
  ⟨F.len, fun A outer s H args us vs Q hg hr => F.run A outer s H args us vs Q hg (hr.mono h)⟩
theorem FnG.of {P : Program} {w : World} {K : PySem.W.Frag} {mg : Str → Option Value} {base : Heap} {k : Nat} {f : Addr} {fd : FuncData} {ps : List Str} {sp : Sp} (F : FnOk P w K mg base CXn k f fd ps sp) : FnG P w K mg base k f fd ps sp :=
  ⟨F.len, fun A outer s H args us vs Q _ hr e b v q => F.run A outer s H args us vs Q _ hr e b v q⟩
/-- the context of a def's body -/
abbrev cxG (P : Program) (w : World) (K : PySem.W.Frag) (mg : Str → Option Value) (base : Heap) (N : List Str) (qual : Str) (sc : Scope) (f : Addr) (cdv : Value) (A : Around) (outer : List PySem.Env) (s : Shared) (H : Hp) : Cx :=
  (cxOf CXn P w K mg base N qual sc f cdv A outer s H fun _ _ _ => False).nox
theorem fnG_of {P : Program} {w : World} {K : PySem.W.Frag} {mg : Str → Option Value} {base : Heap} {x qual : Str} {st : Stmt} {f : Addr} {fd : FuncData} {N ps : List Str} {k : Nat} {sp : Sp} (F : Fun K x qual st f fd) (S : FnScope N ps (defScope st)) (len : ∀ vs H Q E, sp vs H Q E → vs.length = ps.length)
    (hbody : ∀ (cdv : Value) (A : Around) (outer : List PySem.Env) (s : Shared) (H : Hp) (vs : List V) (Q : VK), A.guards = some [] → Room k (A.deeper (envOfC qual (defScope st) s.heap.objs.size f cdv)) → sp vs H Q (fun _ _ _ => False) →
      ∃ t, PSs (cxG P w K mg base N qual (defScope st) f cdv A outer s H) (defBody st) t ∧ t { nx := fun _ H' => Q .non H', rt := Q } (start N vs) H) : FnG P w K mg base (k + 1) f fd ps sp := by
  obtain ⟨oc, od, kV, doc, pm, an, cdv, ct, osl, rfl, lk, hcd⟩ := F.ex
  refine ⟨len, fun A outer s H args us vs Q hgd hr en hb rv hsp => ?_⟩
  have hlen := len _ _ _ _ hsp
  have kin : K.In s.heap := en.mod.kin.keeps fun b o q => (en.bs b o q).1
  have nol : s.heap.NoLimit := en.mod.nolimit.keeps fun b o q => (en.bs b o q).1
  have kinds : ∀ z ∈ ps.zip us, (defScope st).names.lookup z.1 = some .local ∨ ((defScope st).names.lookup z.1 = some .cell ∧ ((cellsFrom (s.heap.objs.size + 1) (defScope st).names []).lookup z.1).isSome = true) := by
    rintro ⟨nm, vl⟩ hz
    cases S.par nm (List.of_mem_zip hz).1 with
    | inl q => exact .inl q
    | inr q => exact .inr ⟨q, PySem.W.cellsFrom_some _ _ _ (.inl q)⟩
  refine codeAny_call_function hr.depth (kin _ _ lk) rfl S.co S.gen rfl (PySem.W.codeRec_of kin hcd) (hb _ _ _ _ ?_)
  refine wpAny_newFunctionEnv_cells S.kind kinds fun env he s1 xx => ?_
  subst he
  refine ⟨nol.keeps xx.toInCall.keep, codeAny_func ?_⟩
  obtain ⟨t, ht, hq⟩ := hbody cdv A outer s H vs Q hgd (hr.deeper _) hsp
  have I0 : Inv (cxOf CXn P w K mg base N qual (defScope st) f cdv A outer s H fun _ _ _ => False) [] (start N vs) H s1 := inv_start S hr.hd en hlen rv xx
  refine wpAny_mono (ht.run [] s1 (start N vs) H _ (I0.wish _) hq) (fun fl s' hs => ?_) fun e s' hs => hs.elim
  cases fl with
  | ret u =>
    obtain ⟨v, σ', H', J, rw', q⟩ := hs
    exact ⟨v, H', J.os, J.bare, J.base, J.hok, rw', q⟩
  | next =>
    obtain ⟨σ', H', J, q⟩ := hs
    exact ⟨.non, H', J.os, J.bare, J.base, J.hok, (rfl : Value.none = Value.none), q⟩
  | brk =>
    obtain ⟨_, _, _, q⟩ := hs
    cases q
  | cont =>
    obtain ⟨_, _, _, q⟩ := hs
    cases q

section
variable {X : Cx} {k : Nat} {f : Addr} {fd : FuncData} {ps : List Str} {sp : Sp} {x : Str} {p pos : Pos} {e : Expr} {es : List Expr} {t : TA}
def tCallG (sp : Sp) (t : TA) : TE := fun σ H Q => t σ H fun vs H1 => sp vs H1 Q (fun _ _ _ => False)
theorem runG {pins : List (Addr × Obj)} {σ : L2.St} {H : Hp} {s : Shared} {Q : VK} {us : List Value} {vs : List V} (F : FnG X.prog X.w X.K X.mg X.base k f fd ps sp) (hgd : X.A.guards = some []) (hr : Room k X.A) (hb : Binds X.K fd ps [])
    (I : Inv X pins σ H s) (r : Vals vs us) (h : sp vs H Q (fun _ _ _ => False)) : wpAny (model X.prog X.w) X.A (call (.ref f) us) (EP X pins σ Q) X.xe s := by
  have hl : (us ++ []).length = ps.length := by rw [List.append_nil, ← r.length]; exact F.len _ _ _ _ h
  have hbs := hb s us I.kIn hl
  rw [List.append_nil] at hbs
  refine wpAny_call (codeAny_mono (F.run X.A X.stack s H ⟨us, []⟩ us vs Q hgd hr I.env0 hbs r h) fun rr s' hq => ?_)
  cases rr with
  | error e => exact False.elim hq
  | ok fl =>
    cases fl with
    | ret u => exact I.after hq
    | next => exact False.elim hq
    | brk => exact False.elim hq
    | cont => exact False.elim hq
theorem pe_callG (F : FnG X.prog X.w X.K X.mg X.base k f fd ps sp) (hgd : X.A.guards = some []) (hr : Room k X.A) (hg : Gl X x) (hm : X.mg x = some (.ref f)) (hk : PySem.W.keepIn X.K (.ref f) = true) (hb : Binds X.K fd ps [])
    (ha : PA X (e :: es) t) (hdb : (x == ("__debug__" : Str)) = false := by decide) (he : starEach (e :: es) X.env = (false, eval e X.env) :: starEach es X.env := by rfl) (hpl : (backTo pos (starEach es X.env)).any (·.1) = false := by rfl) :
    PE X (.Call (.Name x p) (e :: es) [] pos) (tCallG sp t) := by
  refine ⟨fun pins s σ H Q I h => wpAny_Call_Name_kw (ld_glob I hg hm ?_ hdb)⟩
  refine PySem.W.callWith_K (h₀ := X.base) I.ok.mod.kin hk (thn (ha.run pos pins s σ H _ I h) fun us s1 hq => ?_) he hpl
  obtain ⟨vs, H1, I1, r, q⟩ := hq
  exact ⟨I1.kIn, runG F hgd hr hb I1 r q⟩
end

/-! ### a def as one function of its data -/
def nof : Fp := fun _ => []
def one (f : List Addr) : Fp := fun i => if i = 0 then f else []
/-- m arguments, all shared; the result is owned n layers deep -/
def spF (K : PySem.W.Frag) (m n : Nat) (F : List D → Option D) : Sp := fun vs H Q _ => ∃ G ds z, Sub G H ∧ RpA K G vs ds ∧ ds.length = m ∧ F ds = some z ∧
  ∀ v G' H' f0, Stp G H nof G' H' nof → Sub G' H' → Ow K G' H' n v z f0 → Tmp H nof G' nof f0 → Q v H'
/-- the first argument is owned p layers deep, and changed -/
def spI (K : PySem.W.Frag) (m n p : Nat) (F : D → List D → Option (D × D)) : Sp := fun vs H Q _ => ∃ G x ws s ds z s' f, vs = x :: ws ∧ Sub G H ∧ Ow K G H p x s f ∧ f.Nodup ∧ (∀ a ∈ f, G a = none) ∧ RpA K G ws ds ∧ ds.length = m ∧ F s ds = some (z, s') ∧
  ∀ v G' H' f' f0, Stp G H (one f) G' H' (one f') → Sub G' H' → Ow K G' H' p x s' f' → f'.Nodup → (∀ a ∈ f', G' a = none) → Ow K G' H' n v z f0 → Tmp H (one f) G' (one f') f0 → Q v H'
theorem spF_len {K : PySem.W.Frag} {m n : Nat} {F : List D → Option D} {ps : List Str} (h : ps.length = m) : ∀ vs H Q E, spF K m n F vs H Q E → vs.length = ps.length := fun vs H Q E ⟨_, _, _, _, r, e, _⟩ => by rw [r.length, e, h]
theorem spI_len {K : PySem.W.Frag} {m n p : Nat} {F : D → List D → Option (D × D)} {ps : List Str} (h : ps.length = m + 1) : ∀ vs H Q E, spI K m n p F vs H Q E → vs.length = ps.length := fun vs H Q E ⟨_, _, _, _, _, _, _, _, e0, _, _, _, _, r, e, _⟩ => by rw [e0, List.length_cons, r.length, e, h]
def runF (N : Nat) (g : MoS) (ds : List D) : Option D := match g (ds.map Sl.sh ++ List.replicate (N - ds.length) Sl.un) with
  | some (.rt z _) => some z
  | some (.nx _) => some .none
  | _ => none
def runI (N p : Nat) (g : MoS) (s : D) (ds : List D) : Option (D × D) := match g (Sl.ow p s :: (ds.map Sl.sh ++ List.replicate (N - (ds.length + 1)) Sl.un)) with
  | some (.rt z ρ') => match ρ'[0]? with
    | some (Sl.ow p' s') => if p' = p then some (z, s') else none
    | _ => none
  | some (.nx ρ') => match ρ'[0]? with
    | some (Sl.ow p' s') => if p' = p then some (.none, s') else none
    | _ => none
  | _ => none
section
variable {K : PySem.W.Frag}
theorem Ow.non {G H : Hp} : ∀ n, Ow K G H n .non .none []
  | 0 => ⟨rfl, .non⟩
  | _ + 1 => .inl ⟨rfl, rfl, .non⟩
theorem Tmp.nil {H : Hp} {fp : Fp} {G' : Hp} {fp' : Fp} : Tmp H fp G' fp' [] := ⟨List.nodup_nil, fun _ h => (nomatch h), fun _ h => (nomatch h), fun _ h => (nomatch h)⟩
theorem RpA.at {G : Hp} {vs : List V} {ds : List D} (r : RpA K G vs ds) {i : Nat} (hi : i < ds.length) : ∃ v, vs[i]? = some v ∧ Rp K G v ds[i] := r.get (List.getElem?_eq_getElem hi)
/-- the slots at a def's entry -/
theorem sat_start {G H : Hp} {vs : List V} {ds : List D} {N : List Str} (s : Sub G H) (r : RpA K G vs ds) (hN : ds.length ≤ N.length) : Sat K (ds.map Sl.sh ++ List.replicate (N.length - ds.length) Sl.un) (start N vs) G H nof where
  len := by
    unfold L2.start
    rw [List.length_append, List.length_append, List.length_map, List.length_map, List.length_replicate, List.length_replicate, r.length]
  sl := fun i sl e => by
    unfold L2.start
    by_cases hi : i < ds.length
    · rw [List.getElem?_append_left (by rw [List.length_map]; exact hi), List.getElem?_map, List.getElem?_eq_getElem hi] at e
      cases e
      obtain ⟨v, e2, rv⟩ := r.at hi
      refine ⟨rfl, v, ?_, rv⟩
      rw [List.getElem?_append_left (by rw [List.length_map, r.length]; exact hi), List.getElem?_map, e2]
      rfl
    · rw [List.getElem?_append_right (by rw [List.length_map]; omega), List.getElem?_replicate] at e
      split at e
      · cases e; rfl
      · cases e
  out := fun _ _ => rfl
  dis := fun _ _ _ h => (nomatch h)
  nod := fun _ => List.nodup_nil
  fr := fun _ _ h => (nomatch h)
  sub := s
theorem rsF {m n : Nat} {g : MoS} {t : TS} {N ps : List Str} {F : List D → Option D} (h : RS K n [] t g) (hm : m ≤ N.length) (hF : ∀ ds z, ds.length = m → F ds = some z → runF N.length g ds = some z)
    {vs : List V} {H : Hp} {Q : VK} {E : XK} (hsp : spF K m n F vs H Q E) : t { nx := fun _ H' => Q .non H', rt := Q } (start N vs) H := by
  obtain ⟨G, ds, z, s, r, hl, hz, k⟩ := hsp
  have e := hF ds z hl hz
  have S := sat_start (N := N) s r (by omega)
  unfold runF at e
  split at e
  · rename_i z' ρ' e1
    cases e
    refine h _ _ e1 _ G H nof S _ fun v σ' G' H' fp' f0 st S' _ ow tm => ?_
    exact k v G' H' f0 (st.less fun _ _ h => (nomatch h)) S'.sub ow ⟨tm.nd, tm.g, fun _ _ _ h => (nomatch h), tm.o⟩
  · rename_i ρ' e1
    cases e
    refine h _ _ e1 _ G H nof S _ fun σ' G' H' fp' st S' _ => ?_
    exact k .non G' H' [] (st.less fun _ _ h => (nomatch h)) S'.sub (Ow.non n) Tmp.nil
  · cases e
theorem sat_startI {G H : Hp} {x : V} {ws : List V} {s : D} {ds : List D} {p : Nat} {f : List Addr} {N : List Str} (sb : Sub G H) (ow : Ow K G H p x s f) (nd : f.Nodup) (fg : ∀ a ∈ f, G a = none) (r : RpA K G ws ds) (hN : ds.length + 1 ≤ N.length) :
    Sat K (.ow p s :: (ds.map Sl.sh ++ List.replicate (N.length - (ds.length + 1)) Sl.un)) (start N (x :: ws)) G H (one f) where
  len := by
    unfold L2.start
    simp only [List.length_append, List.length_map, List.length_replicate, List.length_cons, r.length]
    omega
  sl := fun i sl e => by
    unfold L2.start
    cases i with
    | zero =>
      cases e
      exact ⟨x, rfl, ow⟩
    | succ i =>
      rw [List.getElem?_cons_succ] at e
      rw [List.map_cons, List.cons_append, List.getElem?_cons_succ]
      show Rl K G H sl _ []
      by_cases hi : i < ds.length
      · rw [List.getElem?_append_left (by rw [List.length_map]; exact hi), List.getElem?_map, List.getElem?_eq_getElem hi] at e
        cases e
        obtain ⟨v, e2, rv⟩ := r.at hi
        refine ⟨rfl, v, ?_, rv⟩
        rw [List.getElem?_append_left (by rw [List.length_map, r.length]; exact hi), List.getElem?_map, e2]
        rfl
      · rw [List.getElem?_append_right (by rw [List.length_map]; omega), List.getElem?_replicate] at e
        split at e
        · cases e; rfl
        · cases e
  out := fun i hi => by
    cases i with
    | zero => simp at hi
    | succ i => rfl
  dis := fun i j a h1 h2 => by
    cases i with
    | zero =>
      cases j with
      | zero => rfl
      | succ j => cases h2
    | succ i => cases h1
  nod := fun i => by
    cases i with
    | zero => exact nd
    | succ i => exact List.nodup_nil
  fr := fun i a h => by
    cases i with
    | zero => exact fg a h
    | succ i => cases h
  sub := sb
theorem rsI {m n p : Nat} {g : MoS} {t : TS} {N ps : List Str} {F : D → List D → Option (D × D)} (h : RS K n [0] t g) (hm : m + 1 ≤ N.length) (hF : ∀ s ds z, ds.length = m → F s ds = some z → runI N.length p g s ds = some z)
    {vs : List V} {H : Hp} {Q : VK} {E : XK} (hsp : spI K m n p F vs H Q E) : t { nx := fun _ H' => Q .non H', rt := Q } (start N vs) H := by
  obtain ⟨G, x, ws, s, ds, z, s', f, rfl, sb, ow, nd, fg, r, hl, hz, k⟩ := hsp
  have e := hF s ds _ hl hz
  have S := sat_startI (N := N) sb ow nd fg r (by omega)
  have h0 : (start N (x :: ws))[0]? = some (some x) := rfl
  unfold runI at e
  split at e
  · rename_i z' ρ' e1
    split at e
    · rename_i p' s2 e2
      split at e
      · rename_i hp
        subst hp
        cases e
        refine h _ _ e1 _ G H (one f) S _ fun v σ' G' H' fp' f0 st S' kp ow' tm => ?_
        obtain ⟨x', e3, owx⟩ := S'.owd e2
        rw [kp 0 (by simp), h0] at e3
        cases e3
        have ls : ∀ i a, a ∈ one (fp' 0) i → a ∈ fp' i := fun i a ha => by
          cases i with
          | zero => exact ha
          | succ i => cases ha
        exact k v G' H' (fp' 0) f0 (st.less ls) S'.sub owx (S'.nod 0) (S'.fr 0) ow' ⟨tm.nd, tm.g, fun a ha i hi => tm.d a ha i (ls i a hi), tm.o⟩
      · cases e
    · cases e
  · rename_i ρ' e1
    split at e
    · rename_i p' s2 e2
      split at e
      · rename_i hp
        subst hp
        cases e
        refine h _ _ e1 _ G H (one f) S _ fun σ' G' H' fp' st S' kp => ?_
        obtain ⟨x', e3, owx⟩ := S'.owd e2
        rw [kp 0 (by simp), h0] at e3
        cases e3
        have ls : ∀ i a, a ∈ one (fp' 0) i → a ∈ fp' i := fun i a ha => by
          cases i with
          | zero => exact ha
          | succ i => cases ha
        exact k .non G' H' (fp' 0) [] (st.less ls) S'.sub owx (S'.nod 0) (S'.fr 0) (Ow.non n) Tmp.nil
      · cases e
    · cases e
  · cases e

/-! ### calls of defs -/
def mCall (m : Nat) (F : List D → Option D) (fs : Mo (List Opd)) : Mo D := fun ρ => match fs ρ with
  | none => none
  | some (os, ρ1) => match rsA rsV ρ1 os with
    | none => none
    | some ds => if ds.length = m then (match F ds with
      | some z => some (z, ρ1)
      | none => none) else none
theorem rw_call {m n : Nat} {F : List D → Option D} {t : TA} {fs : Mo (List Opd)} (h : RA K t fs) : RW K n (tCallG (spF K m n F) t) (mCall m F fs) := fun ρ d ρ' e σ G H fp S Q q => by
  unfold mCall at e
  split at e
  · cases e
  · rename_i os ρ1 e1
    split at e
    · cases e
    · rename_i ds e2
      split at e
      · rename_i hm
        split at e
        · rename_i z e3
          cases e
          refine h ρ _ _ e1 σ G H fp S _ fun vs G1 H1 fp1 st1 S1 r1 => ?_
          refine ⟨G1, ds, _, S1.sub, rsA_v r1 e2, hm, e3, fun v G' H' f0 st' s' ow tm => ?_⟩
          have st2 : Stp G1 H1 fp1 G' H' fp1 := ⟨st'.g, fun a _ ha => st'.h a (fun _ h => (nomatch h)) ha, st'.t, fun i a h => .inl ⟨i, h⟩, fun a ha => by
            rcases st'.n a ha with z | ⟨_, z⟩ | z
            · exact .inl z
            · cases z
            · exact .inr (.inr z)⟩
          have fresh : ∀ a, G' a ≠ none → ∀ i, a ∉ fp1 i := fun a ha i hi => by
            rcases st'.n a ha with z | ⟨_, z⟩ | z
            · exact z (S1.fr i a hi)
            · cases z
            · exact S1.live hi z
          refine q v G' H' fp1 f0 (st1.trans st2) (S1.keep st'.g (fun i a ha => st'.h a (fun _ h => (nomatch h)) (S1.live ha)) (fun i a ha => Classical.byContradiction fun z => fresh a z i ha) s') ow (Tmp.from st1 ⟨tm.nd, tm.g, fun a ha i hi => ?_, fun a ha => ?_⟩)
          · rcases tm.o a ha with ⟨_, z⟩ | z
            · cases z
            · exact S1.live hi z
          · rcases tm.o a ha with ⟨_, z⟩ | z
            · cases z
            · exact .inr z
        · cases e
      · cases e
def mCallI (m p : Nat) (F : D → List D → Option (D × D)) (fs : Mo (List Opd)) : Mo D := fun ρ => match fs ρ with
  | some (.sl i :: os, ρ1) => match ρ1[i]? with
    | some (.ow p' s) => if p' = p then (match rsA rsV ρ1 os with
      | none => none
      | some ds => if ds.length = m then (match F s ds with
        | some (z, s') => some (z, ρ1.set i (.ow p s'))
        | none => none) else none) else none
    | _ => none
  | _ => none
theorem rw_callI {m n p : Nat} {F : D → List D → Option (D × D)} {t : TA} {fs : Mo (List Opd)} (h : RA K t fs) : RW K n (tCallG (spI K m n p F) t) (mCallI m p F fs) := fun ρ d ρ' e σ G H fp S Q q => by
  unfold mCallI at e
  split at e
  · rename_i i os ρ1 e1
    split at e
    · rename_i p' s e2
      split at e
      · rename_i hp
        subst hp
        split at e
        · cases e
        · rename_i ds e3
          split at e
          · rename_i hm
            split at e
            · rename_i z s' e4
              cases e
              refine h ρ _ _ e1 σ G H fp S _ fun vs G1 H1 fp1 st1 S1 r1 => ?_
              cases r1 with
              | cons rx rr =>
                rename_i x ws
                obtain ⟨x', ex, owx⟩ := S1.owd e2
                rw [show σ[i]? = some (some x) from rx] at ex
                cases ex
                have hi : i < ρ1.length := (List.getElem?_eq_some_iff.mp e2).1
                refine ⟨G1, x, ws, s, ds, _, s', fp1 i, rfl, S1.sub, owx, S1.nod i, S1.fr i, rsA_v rr e3, hm, e4, fun v G' H' f' f0 st' sb owx' nd' fg' ow tm => ?_⟩
                have oneI : ∀ j a, a ∈ one (fp1 i) j → a ∈ fp1 i := fun j a ha => by
                  cases j with
                  | zero => exact ha
                  | succ j => cases ha
                have other : ∀ j a, j ≠ i → a ∈ fp1 j → ∀ l, a ∉ one (fp1 i) l := fun j a hj ha l hl => hj (S1.dis j i a ha (oneI l a hl))
                have gno : ∀ j a, j ≠ i → a ∈ fp1 j → G' a = none := fun j a hj ha => Classical.byContradiction fun z => by
                  rcases st'.n a z with w | ⟨l, w⟩ | w
                  · exact w (S1.fr j a ha)
                  · exact other j a hj ha l w
                  · exact S1.live ha w
                have fnew : ∀ a ∈ f', a ∈ fp1 i ∨ H1 a = none := fun a ha => by
                  rcases st'.f 0 a ha with ⟨l, w⟩ | w
                  · exact .inl (oneI l a w)
                  · exact .inr w
                -- the other slots
                have Sa : Sat K (ρ1.set i .un) σ G1 H1 (fset fp1 i []) := S1.un1 i
                have Sb : Sat K (ρ1.set i .un) σ G' H' (fset fp1 i []) := Sa.keep st'.g (fun j a ha => by
                  by_cases hj : j = i
                  · subst hj; rw [fset_same] at ha; cases ha
                  · rw [fset_ne hj] at ha; exact st'.h a (other j a hj ha) (S1.live ha)) (fun j a ha => by
                  by_cases hj : j = i
                  · subst hj; rw [fset_same] at ha; cases ha
                  · rw [fset_ne hj] at ha; exact gno j a hj ha) sb
                have Sc := Sb.swap (s := .ow p' s') (f := f') (i := i) (by rw [List.length_set]; exact hi) ⟨x, rx, owx'⟩ nd' fg' (fun j a hj ha hz => by
                  rw [fset_ne hj] at ha
                  rcases fnew a hz with w | w
                  · exact hj (S1.dis j i a ha w)
                  · exact S1.live ha w)
                rw [List.set_set] at Sc
                have ff : fset (fset fp1 i []) i f' = fset fp1 i f' := by
                  funext j
                  by_cases hj : j = i
                  · subst hj; rw [fset_same, fset_same]
                  · rw [fset_ne hj, fset_ne hj, fset_ne hj]
                rw [ff] at Sc
                have st2 : Stp G1 H1 fp1 G' H' (fset fp1 i f') := ⟨st'.g, fun a ha h1 => st'.h a (fun l hl => ha i (oneI l a hl)) h1, st'.t, fun j a ha => by
                  by_cases hj : j = i
                  · subst hj
                    rw [fset_same] at ha
                    rcases fnew a ha with w | w
                    · exact .inl ⟨_, w⟩
                    · exact .inr w
                  · rw [fset_ne hj] at ha; exact .inl ⟨j, ha⟩, fun a ha => by
                  rcases st'.n a ha with w | ⟨l, w⟩ | w
                  · exact .inl w
                  · exact .inr (.inl ⟨i, oneI l a w⟩)
                  · exact .inr (.inr w)⟩
                refine q v G' H' _ f0 (st1.trans st2) Sc ow (Tmp.from st1 ⟨tm.nd, tm.g, fun a ha j hj => ?_, fun a ha => ?_⟩)
                · by_cases hji : j = i
                  · subst hji
                    rw [fset_same] at hj
                    exact tm.d a ha 0 hj
                  · rw [fset_ne hji] at hj
                    rcases tm.o a ha with ⟨l, w⟩ | w
                    · exact other j a hji hj l w
                    · exact S1.live hj w
                · rcases tm.o a ha with ⟨l, w⟩ | w
                  · exact .inl ⟨i, oneI l a w⟩
                  · exact .inr w
            · cases e
          · cases e
      · cases e
    · cases e
  · cases e
end
end Nt

/-! lists and dicts of one's own -/
namespace Nt
open PySem PySem.Spec PyProof.Rows L2
section
variable {K : PySem.W.Frag} {te ti tj : TE} {f fi : Mo D} {k : Nat}

theorem OwL.at {P : V → D → List Addr → Prop} : ∀ {vs : List V} {ds : List D} {f : List Addr} {j : Nat} {d : D}, OwL P vs ds f → ds[j]? = some d →
    ∃ v f1 g f2, vs[j]? = some v ∧ f = f1 ++ (g ++ f2) ∧ P v d g ∧ ∀ (Q : V → D → List Addr → Prop) (d' : D) (g' : List Addr), (∀ v d h, (∀ a ∈ h, a ∈ f1 ∨ a ∈ f2) → P v d h → Q v d h) → Q v d' g' → OwL Q vs (ds.set j d') (f1 ++ (g' ++ f2)) := by
  intro vs ds f j d h
  induction h generalizing j with
  | nil => intro e; simp at e
  | @cons v vs d0 ds f g p r ih =>
    intro e
    cases j with
    | zero =>
      simp at e
      subst e
      exact ⟨v, [], f, g, rfl, rfl, p, fun Q d' g' hq q => OwL.cons (f := g') q (r.imp fun v d h hh p => hq v d h (fun a ha => .inr (hh a ha)) p)⟩
    | succ j =>
      obtain ⟨v', f1, g1, f2, e1, e2, e3, e4⟩ := ih (by simpa using e)
      refine ⟨v', f ++ f1, g1, f2, by simpa using e1, by rw [e2, List.append_assoc], e3, fun Q d' g' hq q => ?_⟩
      rw [List.append_assoc]
      exact OwL.cons (hq v d0 f (fun a ha => .inl (List.mem_append_left _ ha)) p) (e4 Q d' g' (fun v d h hh p => hq v d h (fun a ha => (hh a ha).elim (fun z => .inl (List.mem_append_right _ z)) .inr) p) q)

/-- the slot's own list -/
theorem Sat.lstN {ρ : Env} {σ : L2.St} {G H : Hp} {fp : Fp} {i n : Nat} {ds : List D} (S : Sat K ρ σ G H fp) (e : ρ[i]? = some (.ow (n + 1) (.list ds))) :
    ∃ a vs g, σ[i]? = some (some (.ref a)) ∧ fp i = a :: g ∧ H a = some (.lst vs) ∧ OwL (Ow K G H n) vs ds g := by
  obtain ⟨v, e1, ow⟩ := S.owd e
  obtain ⟨a, vs, g, e2, e3, e4, e5⟩ := ow.lstN
  subst e2
  exact ⟨a, vs, g, e1, e3, e4, e5⟩
/-- its top changes -/
theorem Sat.relist {ρ : Env} {σ : L2.St} {G H : Hp} {fp : Fp} {i n : Nat} {ds es : List D} {a : Addr} {us : List V} {g g' : List Addr} (S : Sat K ρ σ G H fp) (e : ρ[i]? = some (.ow (n + 1) (.list ds))) (ea : σ[i]? = some (some (.ref a))) (ef : fp i = a :: g)
    (ow : OwL (Ow K G H n) us es g') (nd : (a :: g').Nodup) (fg : ∀ b ∈ g', G b = none) (df : ∀ j b, j ≠ i → b ∈ fp j → b ∉ g') :
    Sat K (ρ.set i (.ow (n + 1) (.list es))) σ G (upd H a (.lst us)) (fset fp i (a :: g')) := by
  have hi : i < ρ.length := (List.getElem?_eq_some_iff.mp e).1
  have ha : a ∈ fp i := by rw [ef]; exact List.mem_cons_self
  have nn : a ∉ g' := (List.nodup_cons.mp nd).1
  have Sa := S.un1 i
  have Sb : Sat K (ρ.set i .un) σ G (upd H a (.lst us)) (fset fp i []) := Sa.keep (Sub.refl G) (fun j b hb => by
    by_cases hj : j = i
    · subst hj; rw [fset_same] at hb; cases hb
    · rw [fset_ne hj] at hb
      exact upd_ne fun z => hj (S.dis j i b hb (by rw [z]; exact ha))) (fun j b hb => Sa.fr j b hb) fun b o q => by
    rw [upd_ne fun z => by rw [z, S.fr i a ha] at q; cases q]
    exact S.sub b o q
  have Sc := Sb.swap (s := .ow (n + 1) (.list es)) (f := a :: g') (i := i) (by rw [List.length_set]; exact hi) ⟨.ref a, ea, .inr (.inl ⟨a, us, es, g', rfl, rfl, rfl, upd_same, ow.imp fun v d h hh q => q.mono (Sub.refl G) fun b hb => upd_ne fun z => nn (by rw [← z]; exact hh b hb)⟩)⟩ nd
    (fun b hb => by
      rcases List.mem_cons.mp hb with z | z
      · rw [z]; exact S.fr i a ha
      · exact fg b z) (fun j b hj hb hz => by
      rw [fset_ne hj] at hb
      rcases List.mem_cons.mp hz with z | z
      · exact hj (S.dis j i b hb (by rw [z]; exact ha))
      · exact df j b hj hb z)
  rw [List.set_set] at Sc
  have ff : fset (fset fp i []) i (a :: g') = fset fp i (a :: g') := by
    funext j
    by_cases hj : j = i
    · subst hj; rw [fset_same, fset_same]
    · rw [fset_ne hj, fset_ne hj, fset_ne hj]
  rw [ff] at Sc
  exact Sc
theorem Stp.relist {G0 H0 G H : Hp} {fp0 fp : Fp} {i : Nat} {a : Addr} {o : HO} {g' : List Addr} (st : Stp G0 H0 fp0 G H fp) (ha : a ∈ fp i) (hg : ∀ b ∈ g', b ∈ fp i ∨ (∃ j, b ∈ fp0 j) ∨ H0 b = none) : Stp G0 H0 fp0 G (upd H a o) (fset fp i (a :: g')) where
  g := st.g
  h := fun b hb h0 => by
    have e := st.h b hb h0
    rw [upd_ne fun z => ?_]
    · exact e
    · subst z
      rcases st.f i b ha with ⟨j, w⟩ | w
      · exact hb j w
      · exact h0 w
  t := fun b hb => by
    by_cases z : b = a
    · subst z; rw [upd_same]; exact fun q => nomatch q
    · rw [upd_ne z]; exact st.t b hb
  f := fun j b hb => by
    by_cases hj : j = i
    · subst hj
      rw [fset_same] at hb
      rcases List.mem_cons.mp hb with z | z
      · rw [z]; exact st.f _ _ ha
      · rcases hg b z with w | w
        · exact st.f _ _ w
        · exact w
    · rw [fset_ne hj] at hb; exact st.f j b hb
  n := st.n
theorem tyL {H : Hp} {a : Addr} {vs : List V} (h : H a = some (.lst vs)) : tyV K "list" (.ref a) H := Or.inl ⟨rfl, _, Or.inl (Or.inl h)⟩

/-! ### append -/
def mApp (k i : Nat) (f : Mo D) : Mo D := fun ρ => match ρ[i]? with
  | some (.ow _ (.list _)) => match f ρ with
    | some (d, ρ1) => match ρ1[i]? with
      | some (.ow m (.list ds)) => if m = k + 1 ∧ ds.length < 16777216 then some (.none, ρ1.set i (.ow (k + 1) (.list (ds ++ [d])))) else none
      | _ => none
    | none => none
  | _ => none
theorem re_append {i : Nat} (h : RW K k te f) : RE K (tBM K "list" rAppend (tVar i) (tCons te tNil)) (mApp k i f) := fun ρ d ρ' e σ G H fp S Q q => by
  unfold mApp at e
  split at e
  · rename_i n0 ds0 e0
    split at e
    · rename_i d1 ρ1 e1
      split at e
      · rename_i m ds e2
        split at e
        · rename_i hm
          obtain ⟨hm, hl⟩ := hm
          subst hm
          cases e
          have hsz : sizeLine = 16777216 := sizeLine_eq
          obtain ⟨x, ex, owx⟩ := S.owd e0
          -- the list stands there at the start
          have hty : ∃ a, x = .ref a ∧ tyV K "list" x H := by
            cases n0 with
            | zero =>
              obtain ⟨a, vs, rfl, g1, _⟩ := owx.2.list'
              exact ⟨a, rfl, tyL (S.sub _ _ g1)⟩
            | succ n0 =>
              obtain ⟨a, vs, g, rfl, _, h1, _⟩ := owx.lstN
              exact ⟨a, rfl, tyL h1⟩
          obtain ⟨a, rfl, ty⟩ := hty
          refine ⟨.ref a, ex, ty, h ρ _ _ e1 σ G H fp S _ fun y G1 H1 fp1 f0 st1 S1 ow1 tm1 => ?_⟩
          obtain ⟨a', vs, g, ea, ef, h1, owl⟩ := S1.lstN e2
          rw [ex] at ea
          cases ea
          refine ⟨a, vs, y, rfl, rfl, h1, by rw [owl.length]; omega, ?_⟩
          have ha : a ∈ fp1 i := by rw [ef]; exact List.mem_cons_self
          have nd := S1.nod i
          rw [ef] at nd
          have ap : ∀ b ∈ f0, b ∉ a :: g := fun b hb hz => tm1.d b hb i (by rw [ef]; exact hz)
          refine q .non G1 _ _ (st1.relist (i := i) (g' := g ++ f0) ha fun b hb => ?_) (S1.relist e2 ex ef (OwL.snoc owl ow1) (List.nodup_cons.mpr ⟨fun hz => ?_, List.nodup_append.mpr ⟨(List.nodup_cons.mp nd).2, tm1.nd, fun b hb c hc z => ?_⟩⟩) (fun b hb => ?_) fun j b hj hb hz => ?_) .non
          · rcases List.mem_append.mp hb with z | z
            · exact .inl (by rw [ef]; exact List.mem_cons_of_mem _ z)
            · exact .inr (tm1.o b z)
          · rcases List.mem_append.mp hz with z | z
            · exact (List.nodup_cons.mp nd).1 z
            · exact ap a z List.mem_cons_self
          · subst z
            exact ap b hc (List.mem_cons_of_mem _ hb)
          · rcases List.mem_append.mp hb with z | z
            · exact S1.fr i b (by rw [ef]; exact List.mem_cons_of_mem _ z)
            · exact tm1.g b z
          · rcases List.mem_append.mp hz with z | z
            · exact hj (S1.dis j i b hb (by rw [ef]; exact List.mem_cons_of_mem _ z))
            · exact tm1.d b z j hb
        · cases e
      · cases e
    · cases e
  · cases e

/-! ### pop -/
/-- the slot's list is there, as a thing of the type list -/
theorem Sat.isL {ρ : Env} {σ : L2.St} {G H : Hp} {fp : Fp} {i n : Nat} {ds : List D} (S : Sat K ρ σ G H fp) (e : ρ[i]? = some (.ow n (.list ds))) : ∃ a, σ[i]? = some (some (.ref a)) ∧ tyV K "list" (.ref a) H := by
  obtain ⟨x, ex, owx⟩ := S.owd e
  cases n with
  | zero =>
    obtain ⟨a, vs, rfl, g1, _⟩ := owx.2.list'
    exact ⟨a, ex, tyL (S.sub _ _ g1)⟩
  | succ n0 =>
    obtain ⟨a, vs, g, rfl, _, h1, _⟩ := owx.lstN
    exact ⟨a, ex, tyL h1⟩
theorem Sat.lst1 {ρ : Env} {σ : L2.St} {G H : Hp} {fp : Fp} {i : Nat} {ds : List D} (S : Sat K ρ σ G H fp) (e : ρ[i]? = some (.ow 1 (.list ds))) : ∃ a vs, σ[i]? = some (some (.ref a)) ∧ fp i = [a] ∧ H a = some (.lst vs) ∧ RpA K G vs ds := by
  obtain ⟨v, e1, ow⟩ := S.owd e
  obtain ⟨a, vs, e2, e3, e4, e5⟩ := ow.lst1
  subst e2
  exact ⟨a, vs, e1, e3, e4, e5⟩
/-- a list of shared items gets other ones -/
theorem Sat.set1 {ρ : Env} {σ : L2.St} {G H G0 H0 : Hp} {fp fp0 : Fp} {i : Nat} {ds es : List D} {a : Addr} {us : List V} (S : Sat K ρ σ G H fp) (st : Stp G0 H0 fp0 G H fp) (e : ρ[i]? = some (.ow 1 (.list ds))) (ea : σ[i]? = some (some (.ref a))) (ef : fp i = [a]) (r : RpA K G us es) :
    Sat K (ρ.set i (.ow 1 (.list es))) σ G (upd H a (.lst us)) (fset fp i [a]) ∧ Stp G0 H0 fp0 G (upd H a (.lst us)) (fset fp i [a]) :=
  ⟨S.relist e ea ef r.owL0 (by simp) (fun _ h => (nomatch h)) fun _ _ _ _ h => (nomatch h), st.relist (g' := []) (by rw [ef]; exact List.mem_cons_self) fun _ h => (nomatch h)⟩
def mPop (i : Nat) : Mo D := fun ρ => match ρ[i]? with
  | some (.ow 1 (.list ds)) => match ds.getLast? with
    | some d => some (d, ρ.set i (.ow 1 (.list ds.dropLast)))
    | none => none
  | _ => none
theorem RpA.dropLast {G : Hp} : ∀ {vs : List V} {ds : List D}, RpA K G vs ds → RpA K G vs.dropLast ds.dropLast
  | _, _, .nil => .nil
  | _, _, .cons _ .nil => .nil
  | _, _, .cons h (.cons h' r) => .cons h (RpA.dropLast (.cons h' r))
theorem re_pop {i : Nat} : RE K (tBM0 K "list" rPop (tVar i)) (mPop i) := fun ρ d ρ' e σ G H fp S Q q => by
  unfold mPop at e
  split at e
  · rename_i ds e0
    split at e
    · rename_i d1 e1
      cases e
      obtain ⟨a, vs, ea, ef, h1, r⟩ := S.lst1 e0
      rw [List.getLast?_eq_getElem?, ← r.length] at e1
      obtain ⟨v, hv, rv⟩ := r.get e1
      obtain ⟨S', st'⟩ := S.set1 (Stp.refl _ _ _) e0 ea ef r.dropLast
      exact ⟨.ref a, ea, tyL h1, a, vs, v, rfl, rfl, h1, hv, q v G _ _ st' S' rv⟩
    · cases e
  · cases e
def mPopAt (i : Nat) (f : Mo D) : Mo D := fun ρ => match ρ[i]? with
  | some (.ow 1 (.list _)) => match f ρ with
    | some (.int j, ρ1) => match ρ1[i]? with
      | some (.ow 1 (.list ds)) => if 0 ≤ j ∧ ds.length ≤ 16777216 then (match ds[j.toNat]? with
        | some d => some (d, ρ1.set i (.ow 1 (.list (ds.eraseIdx j.toNat))))
        | none => none) else none
      | _ => none
    | _ => none
  | _ => none
theorem seqIndex_nat {j : Int} {n : Nat} (h0 : 0 ≤ j) (h : j.toNat < n) : seqIndex? j n = some j.toNat := by
  have q : ixN n j = some j.toNat := by
    unfold ixN
    rw [if_pos h0, if_pos (by omega)]
  exact (ixN_seq q).1
theorem re_popAt {i : Nat} (h : RE K te f) : RE K (tBM K "list" rPopAt (tVar i) (tCons te tNil)) (mPopAt i f) := fun ρ d ρ' e σ G H fp S Q q => by
  unfold mPopAt at e
  split at e
  · rename_i ds0 e0
    split at e
    · rename_i j ρ1 e1
      split at e
      · rename_i ds e2
        split at e
        · rename_i hj
          split at e
          · rename_i d1 e3
            cases e
            obtain ⟨a, ea, ty⟩ := S.isL e0
            refine ⟨.ref a, ea, ty, h ρ _ _ e1 σ G H fp S _ fun y G1 H1 fp1 st1 S1 r1 => ?_⟩
            cases r1.int'
            obtain ⟨a', vs, ea', ef, h1, r⟩ := S1.lst1 e2
            rw [ea] at ea'
            cases ea'
            obtain ⟨v, hv, rv⟩ := r.get e3
            obtain ⟨S', st'⟩ := S1.set1 st1 e2 ea ef (r.erase j.toNat)
            have hlt := (List.getElem?_eq_some_iff.mp hv).1
            have hl := r.length
            exact ⟨a, vs, j, j.toNat, v, rfl, rfl, h1, by omega, by omega, seqIndex_nat hj.1 hlt, hv, q v G1 _ _ st' S' rv⟩
          · cases e
        · cases e
      · cases e
    · cases e
  · cases e

/-! ### a list in a list of one's own: x[i].append(e) -/
def mApp2 (i : Nat) (fj fe : Env → Option D) : Mo D := fun ρ => match ρ[i]?, fj ρ, fe ρ with
  | some (.ow 2 (.list ds)), some (.int j), some d => match ixN ds.length j with
    | some j' => match ds[j']? with
      | some (.list es) => if (toV d).isSome ∧ es.length < 16777216 then some (.none, ρ.set i (.ow 2 (.list (ds.set j' (.list (es ++ [d])))))) else none
      | _ => none
    | none => none
  | _, _, _ => none
theorem atI_of {α : Type} {xs : List α} {j : Int} {j' : Nat} {v : α} (h : ixN xs.length j = some j') (e : xs[j']? = some v) : atI xs j = some v := by
  unfold atI
  rw [h]
  exact e
theorem Sat.in2 {ρ : Env} {σ : L2.St} {G H : Hp} {fp : Fp} {i j' : Nat} {ds es : List D} (S : Sat K ρ σ G H fp) (e0 : ρ[i]? = some (.ow 2 (.list ds))) (ee : ds[j']? = some (.list es)) :
    ∃ a vs b us, σ[i]? = some (some (.ref a)) ∧ H a = some (.lst vs) ∧ vs[j']? = some (.ref b) ∧ vs.length = ds.length ∧ H b = some (.lst us) ∧ RpA K G us es ∧
      ∀ us' es', RpA K G us' es' → Sat K (ρ.set i (.ow 2 (.list (ds.set j' (.list es'))))) σ G (upd H b (.lst us')) fp ∧ Stp G H fp G (upd H b (.lst us')) fp := by
  have hi : i < ρ.length := (List.getElem?_eq_some_iff.mp e0).1
  obtain ⟨a, vs, g, ea, ef, ha, owl⟩ := S.lstN e0
  obtain ⟨v, f1, g1, f2, hv, eg, ow1, re⟩ := owl.at ee
  obtain ⟨b, us, e2, e3, hb, r⟩ := ow1.lst1
  subst e2 e3
  have nd := S.nod i
  rw [ef, eg] at nd
  have bin : b ∈ fp i := by rw [ef, eg]; simp
  have nba : a ≠ b := fun z => by
    subst z
    exact (List.nodup_cons.mp nd).1 (by simp)
  have nb1 : b ∉ f1 := fun z => by
    have q := (List.nodup_append.mp (List.nodup_cons.mp nd).2).2.2 b z b (by simp)
    exact q rfl
  have nb2 : b ∉ f2 := fun z => by
    have q := (List.nodup_append.mp (List.nodup_cons.mp nd).2).2.1
    exact (List.nodup_cons.mp q).1 z
  refine ⟨a, vs, b, us, ea, ha, hv, owl.length, hb, r, fun us' es' r' => ?_⟩
  have st : Stp G H fp G (upd H b (.lst us')) fp := by
    refine ⟨Sub.refl G, fun c hc _ => upd_ne fun z => hc i (by rw [z]; exact bin), fun c hc => ?_, fun j c h => .inl ⟨j, h⟩, fun c h => .inl h⟩
    by_cases z : c = b
    · subst z; rw [upd_same]; exact fun q => nomatch q
    · rw [upd_ne z]; exact hc
  refine ⟨⟨by rw [List.length_set]; exact S.len, fun j t e => ?_, fun j hj => S.out j (by rw [List.length_set] at hj; exact hj), S.dis, S.nod, S.fr, fun c o q => ?_⟩, st⟩
  · by_cases hj : j = i
    · subst hj
      rw [List.getElem?_set_self hi] at e
      cases e
      refine ⟨.ref a, ea, .inr (.inl ⟨a, vs, _, g, rfl, rfl, ef, (upd_ne nba).trans ha, ?_⟩)⟩
      rw [eg]
      exact re _ _ [b] (fun v d h hh q => q.mono (Sub.refl G) fun c hc => upd_ne fun z => by
        subst z
        rcases hh c hc with w | w
        · exact nb1 w
        · exact nb2 w) (.inr (.inl ⟨b, us', es', [], rfl, rfl, rfl, upd_same, r'.owL0⟩))
    · rw [List.getElem?_set_ne (Ne.symm hj)] at e
      exact (S.sl j t e).mono (Sub.refl G) fun c hc => upd_ne fun z => hj (S.dis j i c hc (by rw [z]; exact bin))
  · rw [upd_ne fun z => by rw [z, S.fr i b bin] at q; cases q]
    exact S.sub c o q
theorem toV_any {G H : Hp} {v : V} {d : D} (h : (toV d).isSome = true) (r : Rp K H v d) : Rp K G v d := rp_scal h r
theorem re_app2 {i : Nat} {fj fe : Env → Option D} (hj : RH K tj fj) (he : RH K te fe) : RE K (tBM K "list" rAppend (tOp (rIx K) (tVar i) tj) (tCons te tNil)) (mApp2 i fj fe) := fun ρ d ρ' e σ G H fp S Q q => by
  unfold mApp2 at e
  split at e
  · rename_i ds j d1 e0 e1 e2
    split at e
    · rename_i j' e3
      split at e
      · rename_i es e4
        split at e
        · rename_i hc
          cases e
          obtain ⟨a, vs, b, us, ea, ha, hv, hl, hb, r, k⟩ := S.in2 e0 e4
          have hsz : sizeLine = 16777216 := sizeLine_eq
          refine ⟨.ref a, ea, hj ρ _ e1 σ G H fp S _ fun x rx => ?_⟩
          cases rx.int'
          refine .inl ⟨a, vs, j, .ref b, rfl, rfl, SqL.of ha, atI_of (by rw [hl]; exact e3) hv, tyL hb, he ρ _ e2 σ G H fp S _ fun y ry => ?_⟩
          refine ⟨b, us, y, rfl, rfl, hb, by rw [r.length]; omega, ?_⟩
          obtain ⟨S', st'⟩ := k (us ++ [y]) (es ++ [d1]) (r.append (.cons (rp_scal hc.1 ry) .nil))
          exact q .non G _ fp st' S' .non
        · cases e
      · cases e
    · cases e
  · cases e

/-! ### x[i] = e -/
def sStore (i : Nat) (f : Mo D) (fj : Env → Option D) : MoS := fun ρ => match f ρ with
  | some (d, ρ1) => match ρ1[i]?, fj ρ1 with
    | some (.ow 1 (.list ds)), some (.int j) => match ixN ds.length j with
      | some j' => some (.nx (ρ1.set i (.ow 1 (.list (ds.set j' d)))))
      | none => none
    | _, _ => none
  | none => none
theorem rs_store {n i : Nat} {P : List Nat} {fj : Env → Option D} (h : RE K te f) (hj : RH K tj fj) : RS K n P (tAsg te (gSub (tVar i) tj rSetL)) (sStore i f fj) := fun ρ o e σ G H fp S Dn q => by
  unfold sStore at e
  split at e
  · rename_i d ρ1 e1
    split at e
    · rename_i ds j e2 e3
      split at e
      · rename_i j' e4
        cases e
        refine h ρ _ _ e1 σ G H fp S _ fun v G1 H1 fp1 st1 S1 r1 => ?_
        obtain ⟨a, vs, ea, ef, h1, r⟩ := S1.lst1 e2
        refine ⟨.ref a, ea, hj ρ1 _ e3 σ G1 H1 fp1 S1 _ fun x rx => ?_⟩
        cases rx.int'
        obtain ⟨S', st'⟩ := S1.set1 st1 e2 ea ef (r.set j' r1)
        exact ⟨a, vs, j, j', rfl, rfl, h1, by rw [r.length]; exact e4, q σ G1 _ _ st' S' fun _ _ => rfl⟩
      · cases e
    · cases e
  · cases e
end
end Nt

/-! several names at once; slices; isinstance; all; remove -/
namespace Nt
open PySem PySem.Spec PyProof.Rows L2

/-! ### values of one's own, several -/
inductive OwM (K : PySem.W.Frag) (G H : Hp) : List Nat → List V → List D → List Addr → Prop
  | nil : OwM K G H [] [] [] []
  | cons {n : Nat} {ns : List Nat} {v : V} {vs : List V} {d : D} {ds : List D} {f g : List Addr} : Ow K G H n v d f → OwM K G H ns vs ds g → OwM K G H (n :: ns) (v :: vs) (d :: ds) (f ++ g)
def RAW (K : PySem.W.Frag) (ns : List Nat) (t : TA) (f : Mo (List D)) : Prop := ∀ ρ d ρ', f ρ = some (d, ρ') → ∀ σ G H fp, Sat K ρ σ G H fp → ∀ Q : List V → Hp → Prop,
  (∀ v G' H' fp' f0, Stp G H fp G' H' fp' → Sat K ρ' σ G' H' fp' → OwM K G' H' ns v d f0 → Tmp H fp G' fp' f0 → Q v H') → t σ H Q
def mWNil : Mo (List D) := fun ρ => some ([], ρ)
def mWCons (f : Mo D) (g : Mo (List D)) : Mo (List D) := fun ρ => match f ρ with
  | none => none
  | some (d, ρ1) => match g ρ1 with
    | none => none
    | some (ds, ρ2) => some (d :: ds, ρ2)
/-- a slot that holds what is owned m layers deep -/
def mkSl (m : Nat) (d : D) : Sl := match m with
  | 0 => .sh d
  | m + 1 => .ow (m + 1) d
section
variable {K : PySem.W.Frag} {te : TE} {ta : TA} {n m : Nat} {P : List Nat}
theorem raw_nil : RAW K [] tNil mWNil := fun ρ d ρ' e σ G H fp S Q q => by
  cases e
  exact q [] G H fp [] (Stp.refl _ _ _) S .nil Tmp.nil
theorem raw_cons {ns : List Nat} {f : Mo D} {g : Mo (List D)} (h : RW K n te f) (k : RAW K ns ta g) : RAW K (n :: ns) (tCons te ta) (mWCons f g) := fun ρ d ρ' e σ G H fp S Q q => by
  unfold mWCons at e
  split at e
  · cases e
  · rename_i d1 ρ1 e1
    split at e
    · cases e
    · rename_i ds ρ2 e2
      cases e
      refine h ρ _ _ e1 σ G H fp S _ fun v G1 H1 fp1 f1 st1 S1 ow1 tm1 => ?_
      refine k ρ1 _ _ e2 σ G1 H1 fp1 S1 _ fun vs G2 H2 fp2 f2 st2 S2 ow2 tm2 => ?_
      have live : ∀ a ∈ f1, H1 a ≠ none := ow1.live
      have nofp : ∀ a ∈ f1, ∀ i, a ∉ fp1 i := tm1.d
      have g2 : ∀ a ∈ f1, G2 a = none := fun a ha => Classical.byContradiction fun z => by
        rcases st2.n a z with w | ⟨j, w⟩ | w
        · exact w (tm1.g a ha)
        · exact nofp a ha j w
        · exact live a ha w
      refine q _ G2 H2 fp2 (f1 ++ f2) (st1.trans st2) S2 (.cons (ow1.mono st2.g fun a ha => st2.h a (nofp a ha) (live a ha)) ow2) ⟨?_, fun a ha => ?_, fun a ha i hi => ?_, fun a ha => ?_⟩
      · refine List.nodup_append.mpr ⟨tm1.nd, tm2.nd, fun a ha b hb z => ?_⟩
        subst z
        rcases tm2.o a hb with ⟨j, w⟩ | w
        · exact nofp a ha j w
        · exact live a ha w
      · rcases List.mem_append.mp ha with z | z
        · exact g2 a z
        · exact tm2.g a z
      · rcases List.mem_append.mp ha with z | z
        · rcases st2.f i a hi with ⟨j, w⟩ | w
          · exact nofp a z j w
          · exact live a z w
        · exact tm2.d a z i hi
      · rcases List.mem_append.mp ha with z | z
        · exact tm1.o a z
        · exact (tm2.from st1).o a z
theorem Rl.mk {G H : Hp} {v : V} {d : D} {f : List Addr} (h : Ow K G H m v d f) : Rl K G H (mkSl m d) (some (some v)) f := by
  cases m with
  | zero => exact ⟨h.1, v, rfl, h.2⟩
  | succ m => exact ⟨v, rfl, h⟩
/-- the names is, from the left; what they held is let go -/
def putM : List Nat → List Nat → List D → Env → Option Env
  | [], [], [], ρ => some ρ
  | n :: ns, i :: is, d :: ds, ρ => if i < ρ.length then putM ns is ds (ρ.set i (mkSl n d)) else none
  | _, _, _, _ => none
def setS : List Nat → List V → L2.St → L2.St
  | i :: is, v :: vs, σ => setS is vs (σ.set i (some v))
  | _, _, σ => σ
theorem setS_out {j : Nat} : ∀ (is : List Nat) (vs : List V) (σ : L2.St), j ∉ is → (setS is vs σ)[j]? = σ[j]?
  | [], _, _, _ => rfl
  | i :: is, [], _, _ => rfl
  | i :: is, v :: vs, σ, h => by
    rw [List.mem_cons, not_or] at h
    show (setS is vs (σ.set i (some v)))[j]? = _
    rw [setS_out is vs _ h.2, List.getElem?_set_ne (fun z => h.1 z.symm)]
theorem putM_sat {G H H0 : Hp} {fp0 : Fp} : ∀ (ns is : List Nat) (ds : List D) {ρ ρ' : Env} {σ : L2.St} {fp : Fp} {vs : List V} {f : List Addr}, putM ns is ds ρ = some ρ' → Sat K ρ σ G H fp → OwM K G H ns vs ds f → Tmp H0 fp0 G fp f →
    ∃ fp', Sat K ρ' (setS is vs σ) G H fp' ∧ ∀ i a, a ∈ fp' i → a ∈ fp i ∨ a ∈ f
  | [], [], [], ρ, ρ', σ, fp, vs, f, e, S, ow, tm => by
    cases e
    cases ow
    exact ⟨fp, S, fun i a h => .inl h⟩
  | n :: ns, i :: is, d :: ds, ρ, ρ', σ, fp, vs, f, e, S, ow, tm => by
    unfold putM at e
    split at e
    · rename_i hi
      cases ow with
      | cons o1 o2 =>
        rename_i v vs f1 f2
        have nd := List.nodup_append.mp tm.nd
        have S1 : Sat K (ρ.set i (mkSl n d)) (σ.set i (some v)) G H (fset fp i f1) := S.put hi (Rl.mk o1) nd.1 (fun a ha => tm.g a (List.mem_append_left _ ha)) fun j a hj ha hz => tm.d a (List.mem_append_left _ hz) j ha
        obtain ⟨fp', S2, h2⟩ := putM_sat (H0 := H0) (fp0 := fp0) ns is ds e S1 o2 ⟨nd.2.1, fun a ha => tm.g a (List.mem_append_right _ ha), fun a ha j hj => by
          by_cases hji : j = i
          · subst hji
            rw [fset_same] at hj
            exact nd.2.2 a hj a ha rfl
          · rw [fset_ne hji] at hj
            exact tm.d a (List.mem_append_right _ ha) j hj, fun a ha => tm.o a (List.mem_append_right _ ha)⟩
        refine ⟨fp', S2, fun j a ha => ?_⟩
        rcases h2 j a ha with z | z
        · by_cases hji : j = i
          · subst hji
            rw [fset_same] at z
            exact .inr (List.mem_append_left _ z)
          · rw [fset_ne hji] at z
            exact .inl z
        · exact .inr (List.mem_append_right _ z)
    · cases e
  | [], [], _ :: _, _, _, _, _, _, _, e, _, _, _ => by cases e
  | [], _ :: _, _, _, _, _, _, _, _, e, _, _, _ => by cases e
  | _ :: _, [], _, _, _, _, _, _, _, e, _, _, _ => by cases e
  | _ :: _, _ :: _, [], _, _, _, _, _, _, e, _, _, _ => by cases e
def sPar (ns is : List Nat) (f : Mo (List D)) : MoS := fun ρ => match f ρ with
  | none => none
  | some (ds, ρ1) => match putM ns is ds ρ1 with
    | some ρ2 => some (.nx ρ2)
    | none => none
theorem OwM.length {G H : Hp} {ns : List Nat} {vs : List V} {ds : List D} {f : List Addr} (h : OwM K G H ns vs ds f) : vs.length = ns.length := by
  induction h with
  | nil => rfl
  | cons _ _ ih => rw [List.length_cons, List.length_cons, ih]
theorem OwM.new {G H : Hp} {p : Addr} {ob : HO} {ns : List Nat} {vs : List V} {ds : List D} {f : List Addr} (h : OwM K G H ns vs ds f) (hp : H p = none) : OwM K G (upd H p ob) ns vs ds f := by
  induction h with
  | nil => exact .nil
  | cons p1 _ ih => exact .cons (p1.mono (Sub.refl G) fun a ha => upd_ne fun z => p1.live a ha (by rw [z]; exact hp)) ih
theorem sPar_ok {ns is : List Nat} {f : Mo (List D)} (h : RAW K ns ta f) (hP : ∀ j ∈ P, j ∉ is) {ρ : Env} {o : Out} (e : sPar ns is f ρ = some o) {σ : L2.St} {G H : Hp} {fp : Fp} (S : Sat K ρ σ G H fp) {Dn : Ends} (q : OutOk K n P σ G H fp Dn o)
    (Q : List V → Hp → Prop) (hQ : ∀ vs H1, vs.length = ns.length → Dn.nx (setS is vs σ) H1 → (∀ p o, H1 p = none → Dn.nx (setS is vs σ) (upd H1 p o)) → Q vs H1) : ta σ H Q := by
  unfold sPar at e
  split at e
  · cases e
  · rename_i ds ρ1 e1
    split at e
    · rename_i ρ2 e2
      cases e
      refine h ρ _ _ e1 σ G H fp S _ fun vs G1 H1 fp1 f0 st1 S1 ow tm => ?_
      refine hQ vs H1 ow.length ?_ fun p ob hp => ?_
      · obtain ⟨fp', S', h'⟩ := putM_sat ns is ds e2 S1 ow tm
        refine q _ G1 H1 fp' ⟨st1.g, st1.h, st1.t, fun j a ha => ?_, st1.n⟩ S' fun j hj => setS_out is vs σ (hP j hj)
        rcases h' j a ha with z | z
        · exact st1.f j a z
        · exact tm.o a z
      · have ow2 : OwM K G1 (upd H1 p ob) ns vs ds f0 := ow.new hp
        obtain ⟨fp', S', h'⟩ := putM_sat ns is ds e2 (S1.new hp) ow2 tm
        have st2 := st1.trans (Stp.new (o := ob) hp)
        refine q _ G1 _ fp' ⟨st2.g, st2.h, st2.t, fun j a ha => ?_, st2.n⟩ S' fun j hj => setS_out is vs σ (hP j hj)
        rcases h' j a ha with z | z
        · exact st1.f j a z
        · exact tm.o a z
    · cases e
theorem two_of {α : Type} {l : List α} (h : l.length = 2) : ∃ a b, l = [a, b] := match l, h with
  | [a, b], _ => ⟨a, b, rfl⟩
theorem three_of {α : Type} {l : List α} (h : l.length = 3) : ∃ a b c, l = [a, b, c] := match l, h with
  | [a, b, c], _ => ⟨a, b, c, rfl⟩
theorem rs_par2 {i j n1 n2 : Nat} {f : Mo (List D)} (h : RAW K [n1, n2] ta f) (hP : ∀ k ∈ P, k ∉ [i, j]) : RS K n P (tPar i j ta) (sPar [n1, n2] [i, j] f) := fun ρ o e σ G H fp S Dn q =>
  sPar_ok (n := n) h hP e S q _ fun vs H1 hl hq _ => by
    obtain ⟨a, b, rfl⟩ := two_of hl
    exact ⟨a, b, rfl, hq⟩
/-- a, b, c = x, y, z with plain local names -/
def tPar3 (i j k : Nat) (ta : TA) : TS := fun D σ H => ta σ H fun vs H1 => ∃ u v w, vs = [u, v, w] ∧ D.nx (((σ.set i (some u)).set j (some v)).set k (some w)) H1
theorem rs_par3 {i j l n1 n2 n3 : Nat} {f : Mo (List D)} (h : RAW K [n1, n2, n3] ta f) (hP : ∀ k ∈ P, k ∉ [i, j, l]) : RS K n P (tPar3 i j l ta) (sPar [n1, n2, n3] [i, j, l] f) := fun ρ o e σ G H fp S Dn q =>
  sPar_ok (n := n) h hP e S q _ fun vs H1 hl hq _ => by
    obtain ⟨a, b, c, rfl⟩ := three_of hl
    exact ⟨a, b, c, rfl, hq⟩
theorem ps_par3 {X : Cx} {i j k : Nat} {x y z : Str} {a b c : Expr} {ta : TA} {px py pz pt : Pos} {kt k2 pt2} {pos : Pos} (hc : X.calm = true) (hN : X.N.Nodup) (hi : X.N[i]? = some x) (hj : X.N[j]? = some y) (hk : X.N[k]? = some z) (hij : i ≠ j) (hik : i ≠ k) (hjk : j ≠ k)
    (hx : X.env.scope.names.lookup x = some .local) (hy : X.env.scope.names.lookup y = some .local) (hz : X.env.scope.names.lookup z = some .local) (ha : PA X [a, b, c] ta)
    (hw : swappedStores [.Tuple [.Name x px, .Name y py, .Name z pz] kt pt] (.Tuple [a, b, c] k2 pt2) X.env = pure (some [x, y, z]))
    (hs : swapsWithSole [.Tuple [.Name x px, .Name y py, .Name z pz] kt pt] (.Tuple [a, b, c] k2 pt2) pos.line X.env = pure false := by rfl) :
    PS X (.Assign [.Tuple [.Name x px, .Name y py, .Name z pz] kt pt] (.Tuple [a, b, c] k2 pt2) pos) (tPar3 i j k ta) := by
  refine ⟨fun pins s σ H D I h => ?_⟩
  rw [exec_Assign_arm]
  refine wpAny_bind (wpAny_standAt ?_)
  rw [hs]
  refine wpAny_bind (wpAny_pure ?_)
  rw [if_neg (by decide)]
  refine wpAny_bind (Tuple_ (thn (ha.run _ pins s σ H _ I h) fun us s1 ⟨vs, H1, I1, r1, q1⟩ => ?_))
  obtain ⟨v1, v2, v3, e1, q1⟩ := q1
  subst e1
  obtain ⟨u1, u2, u3, rfl, rv1, rv2, rv3⟩ : ∃ u1 u2 u3, us = [u1, u2, u3] ∧ RelV v1 u1 ∧ RelV v2 u2 ∧ RelV v3 u3 := by
    cases r1 with
    | cons p q =>
      cases q with
      | cons p' q' =>
        cases q' with
        | cons p'' q'' =>
          cases q''
          exact ⟨_, _, _, rfl, p, p', p''⟩
  refine wpAny_newObj_type ?_ (by show 3 ≤ sizeLine; decide)
  have I2 : Inv X pins σ H1 { s1 with heap := s1.heap.push { cls := .type "tuple", data := .seq [u1, u2, u3].toArray } } := I1.kept (t' := s1.toks) fun b o e => Heap.get?_push_of_some _ e
  rw [hw]
  refine wpAny_bind (wpAny_pure ?_)
  show wpAny (model X.prog X.w) X.A (do rule "assign.swapped-stores"; let items ← unpackItems (.ref s1.heap.objs.size) 3 none; assignInOrder [fun v => bindName X.env z v, fun v => bindName X.env y v, fun v => bindName X.env x v] items.reverse; pure Flow.next) _ _ _
  refine wpAny_bind (wpAny_rule (wpAny_bind (unpackItems_tuple (items := #[u1, u2, u3]) (I.ok.hd hc) (IsTup.new s1.heap _) fun h' hx' => ?_)))
  have I3 := I2.kept (h' := h') (t' := s1.toks) fun b o e => hx' b o (Nat.ne_of_lt (Heap.lt_size e)) e
  show wpAny _ _ (assignInOrder [fun v => bindName X.env z v, fun v => bindName X.env y v, fun v => bindName X.env x v] [u3, u2, u1] >>= fun _ => pure Flow.next) _ _ _
  refine wpAny_bind (assignInOrder_cons (wpAny_bindName (store_ok I3 hN hk (.inl hz) rv3 (fun s2 I4 => ?_) (.inr hz))))
  refine assignInOrder_cons (wpAny_bindName (store_ok I4 hN hj (.inl hy) rv2 (fun s3 I5 => ?_) (.inr hy)))
  refine assignInOrder_cons (wpAny_bindName (store_ok I5 hN hi (.inl hx) rv1 (fun s4 I6 => assignInOrder_nil (wpAny_pure ?_)) (.inr hx)))
  have e : (((σ.set k (some v3)).set j (some v2)).set i (some v1)) = (((σ.set i (some v1)).set j (some v2)).set k (some v3)) := by
    rw [List.set_comm (some v2) (some v1) (Ne.symm hij), List.set_comm (some v3) (some v1) (Ne.symm hik), List.set_comm (some v3) (some v2) (Ne.symm hjk)]
  rw [e] at I6
  exact ⟨_, H1, I6, q1⟩
/-- .. by a tuple: any names -/
def gNames : List Nat → TGs
  | [] => gNil
  | i :: is => gCons (gName i) (gNames is)
theorem gNames_ok : ∀ (is : List Nat) (vs : List V) (σ : L2.St) (H : Hp) (Q : L2.St → Hp → Prop), vs.length = is.length → Q (setS is vs σ) H → gNames is vs σ H Q
  | [], [], _, _, _, _, q => ⟨rfl, q⟩
  | i :: is, v :: vs, σ, H, Q, h, q => ⟨v, vs, rfl, gNames_ok is vs _ H Q (by simpa using h) q⟩
  | [], _ :: _, _, _, _, h, _ => by simp at h
  | _ :: _, [], _, _, _, h, _ => by simp at h
theorem rs_parT {ns is : List Nat} {f : Mo (List D)} {kk : Nat} (h : RAW K ns ta f) (hP : ∀ k ∈ P, k ∉ is) (hl : is.length = kk) (hn : ns.length = kk) (hk : kk ≤ 1000) : RS K n P (tAsg (tTup ta) (gSeq K kk (gNames is))) (sPar ns is f) := fun ρ o e σ G H fp S Dn q =>
  sPar_ok (n := n) h hP e S q _ fun vs H1 hlen _ hq => by
    have hsz : sizeLine = 16777216 := sizeLine_eq
    exact ⟨by omega, fun p hp => ⟨p, vs, rfl, .inl (SqT.of upd_same), by omega, gNames_ok is vs σ _ _ (by omega) (hq p _ hp)⟩⟩
end
end Nt

/-! slices -/
namespace Nt
open PySem PySem.Spec PyProof.Rows L2
section
variable {prog : Program} {w : World} {A : Around} {E : Value → Shared → Prop} {s : Shared}
/-- what a tuple's slice is, whatever its three parts come to -/
theorem getItem_tupleG {t sl : Addr} {items : Array Value} {Q : Value → Shared → Prop} {lo step : Int} {n : Nat} (ht : IsTup s.heap t items) (hTs : s.TypeIs (.ref sl) "slice")
    (happ : ∀ Q' : Int × Int × Nat → Shared → Prop, Q' (lo, step, n) s → wpAny (model prog w) A.in1 (Builtin.Slice.sliceApplied (.ref sl) (pure (items.size : Int))) Q' (fun e s' => E e s') s)
    (h1 : lo = 0 ∧ step = 1 ∧ n = items.size → Q (.ref t) s)
    (h2 : ¬ (lo = 0 ∧ step = 1 ∧ n = items.size) → Q (.ref s.heap.objs.size) { s with heap := s.heap.push { cls := .type "tuple", data := .seq ((List.range n).filterMap fun (k : Nat) => items[(lo + (k : Int) * step).toNat]?).toArray } })
    (hsz : n ≤ sizeLine) : wpAny (model prog w) A (getItem (.ref t) (.ref sl)) Q E s := by
  unfold getItem
  try with_reducible refine wpAny_holding ?_
  first | refine wpAny_bind (wpAny_pure ?_) | skip
  refine wpAny_bind (wpAny_sequenceKey ht.typeIs (by decide) ?_)
  refine wpAny_bind (wpAny_callSpecial?_slot (name := Str.ofString "__getitem__") ht.typeIs PyProof.Rows.slot_tuple_getitem
    (wpAny_call_entry PyProof.Rows.slot_tuple_getitem ht.typeIs entry_tuple_getitem ?_ (args_tuple_getitem _ _)))
  show wpAny _ _ (Builtin.Tuple.tupleItemsOf (.ref t) >>= _) _ _ s
  refine wpAny_bind (tupleItemsOf_ ht ?_)
  refine wpAny_bind (wpAny_typeOf hTs ?_)
  rw [if_pos (by decide)]
  refine wpAny_bind (happ _ ?_)
  show wpAny _ _ (if (lo == 0 && step == 1 && n == items.size) = true then _ else _) _ _ s
  by_cases hw : lo = 0 ∧ step = 1 ∧ n = items.size
  · have hb : (lo == 0 && step == 1 && n == items.size) = true := by
      obtain ⟨a, b, c⟩ := hw
      subst a b c
      simp
    rw [if_pos hb]
    have q := h1 hw
    unfold Builtin.Tuple.tupleIsExact
    refine wpAny_bind (wpAny_bind (wpAny_typeOf ht.typeIs (wpAny_pure ?_)))
    rw [if_pos (by decide)]
    first
      | exact wpAny_bind (wpAny_rule (wpAny_bind (wpAny_pure (wpAny_pure ⟨_, rfl, wpAny_pure q⟩))))
      | exact wpAny_bind (wpAny_rule (wpAny_pure ⟨_, rfl, wpAny_pure q⟩))
      | exact wpAny_bind (wpAny_rule (wpAny_bind (wpAny_pure ⟨_, rfl, wpAny_pure q⟩)))
  · have hb : ¬ (lo == 0 && step == 1 && n == items.size) = true := fun q => by
      rw [Bool.and_eq_true, Bool.and_eq_true] at q
      exact hw ⟨eq_of_beq q.1.1, eq_of_beq q.1.2, eq_of_beq q.2⟩
    rw [if_neg hb]
    have htake : sizeOk (.seq ((List.range n).filterMap fun (k : Nat) => items[(lo + (k : Int) * step).toNat]?).toArray) := by
      show ((List.range n).filterMap fun (k : Nat) => items[(lo + (k : Int) * step).toNat]?).toArray.size ≤ sizeLine
      rw [List.size_toArray]
      exact Nat.le_trans (List.length_filterMap_le _ _) (by rw [List.length_range]; exact hsz)
    have h3 := h2 hw
    first
      | exact wpAny_bind (m := Builtin.Tuple.tupleExact _) (wpAny_newObj_type (wpAny_pure ⟨_, rfl, wpAny_pure h3⟩) htake)
      | exact wpAny_bind (m := Builtin.Tuple.tupleExact _) (wpAny_newObj_type (wpAny_bind (wpAny_pure (wpAny_pure ⟨_, rfl, wpAny_pure h3⟩))) htake)
      | exact wpAny_bind (wpAny_bind (m := Builtin.Tuple.tupleExact _) (wpAny_newObj_type (wpAny_pure (wpAny_pure ⟨_, rfl, wpAny_pure h3⟩)) htake))
      | exact wpAny_bind (wpAny_bind (m := Builtin.Tuple.tupleExact _) (wpAny_newObj_type (wpAny_pure ⟨_, rfl, wpAny_pure h3⟩) htake))

theorem applied_rev {sl : Addr} {vk : Value} {n : Nat} {Q : Int × Int × Nat → Shared → Prop} (hs : s.heap.IsSliceOf sl .none .none vk) (pk : IsPart vk (some (-1))) (h : Q ((n : Int) - 1, -1, n) s) :
    wpAny (model prog w) A (Builtin.Slice.sliceApplied (.ref sl) (pure (n : Int))) Q E s := by
  obtain ⟨os, hos, hcs, hds⟩ := id hs
  unfold Builtin.Slice.sliceApplied Builtin.Slice.sliceFields
  refine wpAny_bind (wpAny_bind (wpAny_field hos hds (x := .none) rfl (wpAny_bind (wpAny_field hos hds (x := .none) rfl (wpAny_bind (wpAny_field hos hds (x := vk) rfl (wpAny_pure ?_)))))))
  refine wpAny_bind (HT.slicePart_ pk ?_)
  show wpAny _ _ (if ((-1 : Int) == 0) = true then _ else _) _ _ s
  rw [if_neg (by decide)]
  refine wpAny_bind (slicePart_none (wpAny_bind (slicePart_none (wpAny_bind (wpAny_pure ?_)))))
  show wpAny _ _ (match Builtin.Slice.sliceAdjust none none (-1) (n : Int) with | (lo, hi) => pure (lo, (-1 : Int), Builtin.Slice.slicePlaces lo hi (-1))) _ _ s
  have e1 : Builtin.Slice.sliceAdjust none none (-1) (n : Int) = ((n : Int) - 1, -1) := rfl
  have e2 : Builtin.Slice.slicePlaces ((n : Int) - 1) (-1) (-1) = n := by
    unfold Builtin.Slice.slicePlaces
    rw [if_neg (by decide)]
    by_cases hn : n = 0
    · subst hn; rfl
    · rw [if_pos (by omega), show (- -1 : Int) = 1 by decide, Int.ediv_one]
      omega
  rw [e1]
  show wpAny _ _ (pure ((n : Int) - 1, (-1 : Int), Builtin.Slice.slicePlaces ((n : Int) - 1) (-1) (-1))) _ _ s
  rw [e2]
  exact wpAny_pure h
theorem pick_rev (xs : Array Value) : ((List.range xs.size).filterMap fun (k : Nat) => xs[(((xs.size : Int) - 1) + (k : Int) * (-1)).toNat]?).toArray = xs.toList.reverse.toArray := by
  have e : (List.range xs.size).filterMap (fun (k : Nat) => xs[(((xs.size : Int) - 1) + (k : Int) * (-1)).toNat]?) = ((List.range xs.size).map fun k => xs.size - 1 - k).filterMap (xs[·]?) := by
    rw [List.filterMap_map]
    have go : ∀ l : List Nat, (∀ k ∈ l, k < xs.size) → l.filterMap (fun (k : Nat) => xs[(((xs.size : Int) - 1) + (k : Int) * (-1)).toNat]?) = l.filterMap ((xs[·]?) ∘ fun k => xs.size - 1 - k) := by
      intro l
      induction l with
      | nil => intro _; rfl
      | cons k l ih =>
        intro hl
        have hk := hl k List.mem_cons_self
        rw [List.filterMap_cons, List.filterMap_cons, ih fun j hj => hl j (List.mem_cons_of_mem _ hj)]
        have e : ((((xs.size : Int) - 1) + (k : Int) * (-1)).toNat) = xs.size - 1 - k := by omega
        rw [e]
        rfl
    exact go _ fun k hk => List.mem_range.mp hk
  rw [e, PySem.W.krv_range, List.filterMap_reverse, PySem.W.krv_all]
end

/-! ### the rules -/
/-- x[::-1], by values -/
def SlRv (X : Cx) (r : V → Hp → VK → Prop) : Prop :=
  ∀ (pins : List (Addr × Obj)) (s : Shared) (σ : L2.St) (H : Hp) (x : V) (v vk : Value) (sl : Addr) (Q : VK), Inv X pins σ H s → RelV x v → s.heap.IsSliceOf sl .none .none vk → IsPart vk (some (-1)) → r x H Q →
    ∃ T id, typeLookup (.type T) "__getitem__" = pure (some (.builtin id)) ∧ s.TypeIs v T ∧ wpAny (model X.prog X.w) X.A (getItem v (.ref sl)) (EP X pins σ Q) X.xe s
section
variable {X : Cx}
def rRevL (K : PySem.W.Frag) : V → Hp → VK → Prop := fun x H Q => ∃ a xs, x = .ref a ∧ SqL K H a xs ∧ ∀ p, H p = none → Q (.ref p) (upd H p (.lst xs.reverse))
def rRevT (K : PySem.W.Frag) : V → Hp → VK → Prop := fun x H Q => ∃ a xs, x = .ref a ∧ SqT K H a xs ∧ NewT H xs.reverse Q
theorem rev_list : SlRv X (rRevL X.K) := by
  intro pins s σ H x v vk sl Q I rx hs pk h
  obtain ⟨a, xs, rfl, hx, q⟩ := h
  cases rx
  obtain ⟨its, r, pl, hz⟩ := I.list hx
  have hlen := r.length
  refine ⟨"list", _, list_getitem_lookup, pl.isList.typeIs, ?_⟩
  refine wpAny_getItem_list_slice pl.isList hs .none .none pk (by decide) ?_ (by simp only [List.size_toArray]; omega)
  rw [PySem.W.krv_pick]
  refine ⟨.ref s.heap.objs.size, _, I.lnew (its := its.reverse) (t' := s.toks) ?_ (by rw [List.length_reverse]; exact hz), rfl, q _ I.fresh⟩
  exact r.reverse
theorem rev_tup : SlRv X (rRevT X.K) := by
  intro pins s σ H x v vk sl Q I rx hs pk h
  obtain ⟨a, xs, rfl, hx, q⟩ := h
  cases rx
  obtain ⟨its, r, ht, hz⟩ := I.tuple hx
  have hlen := r.length
  obtain ⟨os, hos, hcs, hds⟩ := id hs
  refine ⟨"tuple", _, PyProof.Rows.slot_tuple_getitem.lookup, ht.typeIs, ?_⟩
  have hsz : its.toArray.size = its.length := by simp
  refine getItem_tupleG (lo := (its.toArray.size : Int) - 1) (step := -1) (n := its.toArray.size) ht ⟨os, hos, hcs⟩ (fun Q' hq => applied_rev hs pk hq) (fun z => absurd z.2.1 (by decide)) (fun _ => ?_) (by rw [hsz]; omega)
  rw [pick_rev]
  exact tup_fin (us := its.reverse) I (by rw [List.length_reverse]; exact hz) r.reverse q
theorem SlRv.or {r r' : V → Hp → VK → Prop} (h : SlRv X r) (h' : SlRv X r') : SlRv X (fun x H Q => r x H Q ∨ r' x H Q) := by
  intro pins s σ H x v vk sl Q I rx hs pk q
  rcases q with q | q
  · exact h pins s σ H x v vk sl Q I rx hs pk q
  · exact h' pins s σ H x v vk sl Q I rx hs pk q
def tRevS (r : V → Hp → VK → Prop) (te : TE) : TE := fun σ H Q => te σ H fun x H1 => r x H1 Q
theorem pe_rev {r : V → Hp → VK → Prop} {e : Expr} {te : TE} {pos p1 p2 p3 : Pos} {k : Nat} (hr : SlRv X r) (he : PE X e te) : PE X (.Subscript e (.Slice none none (some (.UnaryOp .USub (.Constant (.int 1) k p1) p3)) p2) pos) (tRevS r te) := by
  refine ⟨fun pins s σ H Q I h => ?_⟩
  refine Subscript_ (thn (he.run pins s σ H _ I h) fun v s1 ⟨x, H1, I1, r1, q1⟩ => ?_)
  refine wpAny_Slice ?_
  rw [evalPart_none]
  refine wpAny_pure ?_
  refine wpAny_pure ?_
  rw [evalPart_some]
  have hk : PE X (.UnaryOp .USub (.Constant (.int 1) k p1) p3) (tUn (rU fun i => .int (-i)) (tC (.int 1))) := pe_un un_neg pe_int
  refine thn (hk.run pins s1 σ H1 (fun x H' => x = .int (-1) ∧ H' = H1) I1 ⟨1, rfl, rfl, rfl⟩) fun vk s3 ⟨y, H3, I3, r3, q3⟩ => ?_
  obtain ⟨rfl, rfl⟩ := q3
  obtain ⟨t, rfl⟩ := r3
  have I4 : Inv X pins σ H3 { s3 with heap := s3.heap.push { cls := .type "slice", data := .fields #[.none, .none, .int (-1) t] } } := I3.kept (t' := s3.toks) fun b ob q => Heap.get?_push_of_some _ q
  obtain ⟨T, id, hT, ht, hg⟩ := hr pins { s3 with heap := s3.heap.push { cls := .type "slice", data := .fields #[.none, .none, .int (-1) t] } } σ H3 x v (.int (-1) t) s3.heap.objs.size Q I4 r1 (Heap.IsSliceOf.new ..) (.int _ _) q1
  exact tail_any (ops := [v, .ref s3.heap.objs.size]) ht hT hg (by with_unfolding_all rfl)
/-- t[lo:hi], the whole of it: t itself -/
def rSlTW (K : PySem.W.Frag) : V → Option Int → Option Int → Hp → VK → Prop := fun x lo hi H Q => ∃ a xs, x = .ref a ∧ SqT K H a xs ∧ (HT.sIx xs.length 0 lo = 0 ∧ HT.sIx xs.length xs.length hi = xs.length) ∧ Q (.ref a) H
theorem sl_tupW : SlR X (rSlTW X.K) := by
  intro pins s σ H x v vl vu lo hi sl Q I rx hs pl pu h
  obtain ⟨a, xs, rfl, hx, hw, q⟩ := h
  cases rx
  obtain ⟨its, r, ht, hz⟩ := I.tuple hx
  have hlen : its.toArray.size = xs.length := by rw [List.size_toArray]; exact r.length.symm
  obtain ⟨os, hos, hcs, hds⟩ := id hs
  refine ⟨"tuple", _, PyProof.Rows.slot_tuple_getitem.lookup, ht.typeIs, ?_⟩
  refine getItem_tupleG (lo := 0) (step := 1) (n := its.toArray.size) ht ⟨os, hos, hcs⟩ (fun Q' hq => HT.sliceApplied_gen hs pl pu ?_) (fun _ => ⟨.ref a, H, I, rfl, q⟩) (fun z => absurd ⟨rfl, rfl, rfl⟩ z) (by rw [hlen]; exact hz)
  rw [hlen, hw.1, hw.2, Nat.sub_zero, ← hlen]
  exact hq
end

/-! ### .. of data -/
def RP (K : PySem.W.Frag) (t : TO) (f : Mo (Option Int)) : Prop := ∀ ρ d ρ', f ρ = some (d, ρ') → ∀ σ G H fp, Sat K ρ σ G H fp → ∀ Q : Option Int → Hp → Prop,
  (∀ G' H' fp', Stp G H fp G' H' fp' → Sat K ρ' σ G' H' fp' → Q d H') → t σ H Q
def mNoPart : Mo (Option Int) := fun ρ => some (none, ρ)
def mPart (f : Mo D) : Mo (Option Int) := fun ρ => match f ρ with
  | some (.int i, ρ1) => some (some i, ρ1)
  | _ => none
/-- the slice, from lo to hi -/
def cutD {α : Type} (xs : List α) (lo hi : Option Int) : List α := (xs.drop (HT.sIx xs.length 0 lo)).take (HT.sIx xs.length xs.length hi - HT.sIx xs.length 0 lo)
def mSl (fe : Mo Opd) (fl fh : Mo (Option Int)) : Mo D := fun ρ => match fe ρ with
  | none => none
  | some (o, ρ1) => match fl ρ1 with
    | none => none
    | some (lo, ρ2) => match fh ρ2 with
      | none => none
      | some (hi, ρ3) => match rs1 ρ3 o with
        | some (.list ds) => some (.list (cutD ds lo hi), ρ3)
        | some (.tuple ds) => some (.tuple (cutD ds lo hi), ρ3)
        | _ => none
def rSlA (K : PySem.W.Frag) : V → Option Int → Option Int → Hp → VK → Prop := fun x lo hi H Q => rSlL K x lo hi H Q ∨ (rSlN K x lo hi H Q ∨ rSlTW K x lo hi H Q)
theorem sl_all {X : Cx} : SlR X (rSlA X.K) := sl_list.or (sl_tupN.or sl_tupW)
section
variable {K : PySem.W.Frag} {te : TE} {tl th : TO} {fe : Mo Opd} {fl fh : Mo (Option Int)} {f : Mo D}
theorem rp_none : RP K tNoPart mNoPart := fun ρ d ρ' e σ G H fp S Q q => by
  cases e
  exact q G H fp (Stp.refl _ _ _) S
theorem rp_some (h : RE K te f) : RP K (tPart te) (mPart f) := fun ρ d ρ' e σ G H fp S Q q => by
  unfold mPart at e
  split at e
  · rename_i i ρ1 e1
    cases e
    refine h ρ _ _ e1 σ G H fp S _ fun v G1 H1 fp1 st1 S1 r1 => ?_
    exact ⟨i, r1.int', q G1 H1 fp1 st1 S1⟩
  · cases e
theorem RpA.cut {G : Hp} {vs : List V} {ds : List D} (r : RpA K G vs ds) (lo hi : Option Int) : RpA K G (cutV vs lo hi) (cutD ds lo hi) := by
  unfold cutV cutD
  rw [r.length]
  exact (r.drop _).take _
theorem cut_whole {α : Type} {xs : List α} {lo hi : Option Int} (h : HT.sIx xs.length 0 lo = 0 ∧ HT.sIx xs.length xs.length hi = xs.length) : cutD xs lo hi = xs := by
  unfold cutD
  rw [h.1, h.2, List.drop_zero, Nat.sub_zero, List.take_length]
theorem re_sl (he : RO K te fe) (hl : RP K tl fl) (hh : RP K th fh) : RE K (tSl (rSlA K) te tl th) (mSl fe fl fh) := fun ρ d ρ' e σ G H fp S Q q => by
  unfold mSl at e
  split at e
  · cases e
  · rename_i o ρ1 e1
    split at e
    · cases e
    · rename_i lo ρ2 e2
      split at e
      · cases e
      · rename_i hi ρ3 e3
        refine he ρ _ _ e1 σ G H fp S _ fun v G1 H1 fp1 st1 S1 r1 => ?_
        refine hl ρ1 _ _ e2 σ G1 H1 fp1 S1 _ fun G2 H2 fp2 st2 S2 => ?_
        refine hh ρ2 _ _ e3 σ G2 H2 fp2 S2 _ fun G3 H3 fp3 st3 S3 => ?_
        have st := (st1.trans st2).trans st3
        split at e
        · rename_i ds e4
          cases e
          obtain ⟨a, vs, rfl, h1, p1⟩ := (rs1_r S3 ((r1.mono st2.g).mono st3.g) e4).list S3.sub
          exact .inl ⟨a, vs, rfl, SqL.of h1, fun p hp => q _ _ _ fp3 (st.trans (Stp.newF S3.sub hp)) (S3.newF hp) (.lst upd_same ((p1.cut lo hi).mono (Sub.new (Sub.refl G3) (S3.sub.none hp))))⟩
        · rename_i ds e4
          cases e
          obtain ⟨a, vs, rfl, h1, g1, p1⟩ := (rs1_r S3 ((r1.mono st2.g).mono st3.g) e4).tuple S3.sub
          by_cases hw : HT.sIx vs.length 0 lo = 0 ∧ HT.sIx vs.length vs.length hi = vs.length
          · have hw' := hw
            rw [p1.length] at hw'
            refine .inr (.inr ⟨a, vs, rfl, h1, hw, q _ _ _ fp3 st S3 ?_⟩)
            rw [cut_whole hw']
            exact .tup g1 p1
          · exact .inr (.inl ⟨a, vs, rfl, h1, hw, fun p o hp ho => q _ _ _ fp3 (st.trans (Stp.newF S3.sub hp)) (S3.newF hp) (.tup (NdT.of ho) ((p1.cut lo hi).mono (Sub.new (Sub.refl G3) (S3.sub.none hp))))⟩)
        · cases e
/-- .. a list of one's own -/
def mSlL (fe : Mo Opd) (fl fh : Mo (Option Int)) : Mo D := fun ρ => match fe ρ with
  | none => none
  | some (o, ρ1) => match fl ρ1 with
    | none => none
    | some (lo, ρ2) => match fh ρ2 with
      | none => none
      | some (hi, ρ3) => match rs1 ρ3 o with
        | some (.list ds) => some (.list (cutD ds lo hi), ρ3)
        | _ => none
theorem rw_sl (he : RO K te fe) (hl : RP K tl fl) (hh : RP K th fh) : RW K 1 (tSl (rSlA K) te tl th) (mSlL fe fl fh) := fun ρ d ρ' e σ G H fp S Q q => by
  unfold mSlL at e
  split at e
  · cases e
  · rename_i o ρ1 e1
    split at e
    · cases e
    · rename_i lo ρ2 e2
      split at e
      · cases e
      · rename_i hi ρ3 e3
        refine he ρ _ _ e1 σ G H fp S _ fun v G1 H1 fp1 st1 S1 r1 => ?_
        refine hl ρ1 _ _ e2 σ G1 H1 fp1 S1 _ fun G2 H2 fp2 st2 S2 => ?_
        refine hh ρ2 _ _ e3 σ G2 H2 fp2 S2 _ fun G3 H3 fp3 st3 S3 => ?_
        have st := (st1.trans st2).trans st3
        split at e
        · rename_i ds e4
          cases e
          obtain ⟨a, vs, rfl, h1, p1⟩ := (rs1_r S3 ((r1.mono st2.g).mono st3.g) e4).list S3.sub
          exact .inl ⟨a, vs, rfl, SqL.of h1, fun p hp => q _ G3 _ fp3 [p] (st.trans (Stp.new hp)) (S3.new hp) (Ow.new1 upd_same (p1.cut lo hi)) (Tmp.one S3 st hp)⟩
        · cases e
def dRev : D → Option D
  | .list ds => some (.list ds.reverse)
  | .tuple ds => some (.tuple ds.reverse)
  | _ => none
theorem re_rev (he : RO K te fe) : RE K (tRevS (fun x H Q => rRevL K x H Q ∨ rRevT K x H Q) te) (m1 rs1 dRev fe) := fun ρ d ρ' e σ G H fp S Q q => by
  obtain ⟨o, x, e1, e2, e3⟩ := m1_some e
  refine he ρ _ _ e1 σ G H fp S _ fun v G1 H1 fp1 st1 S1 r1 => ?_
  unfold dRev at e3
  split at e3
  · cases e3
    obtain ⟨a, vs, rfl, h1, p1⟩ := (rs1_r S1 r1 e2).list S1.sub
    exact .inl ⟨a, vs, rfl, SqL.of h1, fun p hp => q _ _ _ fp1 (st1.trans (Stp.newF S1.sub hp)) (S1.newF hp) (.lst upd_same (p1.rev.mono (Sub.new (Sub.refl G1) (S1.sub.none hp))))⟩
  · cases e3
    obtain ⟨a, vs, rfl, h1, g1, p1⟩ := (rs1_r S1 r1 e2).tuple S1.sub
    exact .inr ⟨a, vs, rfl, h1, fun p o hp ho => q _ _ _ fp1 (st1.trans (Stp.newF S1.sub hp)) (S1.newF hp) (.tup (NdT.of ho) (p1.rev.mono (Sub.new (Sub.refl G1) (S1.sub.none hp))))⟩
  · cases e3
end
end Nt

/-! repr, isinstance, all, in a tuple, remove -/
namespace Nt
open PySem PySem.Spec PyProof.Rows L2

/-! ### reading the real heap -/
/-! no dict but the empty one, and then no list -/
mutual
def noD : D → Bool
  | .none | .bool _ | .int _ | .str _ => true
  | .list xs | .tuple xs => noDs xs
  | .dict _ => false
def noDs : List D → Bool
  | [] => true
  | x :: xs => noD x && noDs xs
end
mutual
/-- no dict but the empty one -/
def noK : D → Bool
  | .none | .bool _ | .int _ | .str _ => true
  | .list xs | .tuple xs => noKs xs
  | .dict [] => true
  | .dict (_ :: _) => false
def noKs : List D → Bool
  | [] => true
  | x :: xs => noK x && noKs xs
end
section
variable {X : Cx} {pins : List (Addr × Obj)} {σ : L2.St} {H : Hp} {s : Shared}
mutual
theorem Rp.reads (I : Inv X pins σ H s) : ∀ (d : D) (v : V) (u : Value), noD d = true → Rp X.K H v d → RelV v u → ∃ as, Reads s.heap u d as
  | .none, _, _, _, h, r => by
    cases h
    cases r
    exact ⟨_, Reads.none⟩
  | .bool b, _, _, _, h, r => by
    cases h
    cases r
    exact ⟨_, Reads.bool b⟩
  | .int i, _, _, _, h, r => by
    cases h
    obtain ⟨t, rfl⟩ := r
    exact ⟨_, Reads.int i t⟩
  | .str x, _, _, _, h, r => by
    cases h
    obtain ⟨t, rfl⟩ := r
    exact ⟨_, Reads.str x t⟩
  | .list ds, _, _, n, h, r => by
    cases h with
    | lst hs ha =>
      cases r
      obtain ⟨its, rv, ⟨o, k, ho, hc, _, hd⟩, _⟩ := I.list (SqL.of hs)
      obtain ⟨as, hr⟩ := RpA.reads I ds _ its (by simpa only [noD] using n) ha rv
      exact ⟨_, Reads.list ho hc hd hr⟩
  | .tuple ds, _, _, n, h, r => by
    cases h with
    | tup hs ha =>
      cases r
      obtain ⟨its, rv, ⟨o, ho, hc, k, hd⟩, _⟩ := I.tuple hs.sqT
      obtain ⟨as, hr⟩ := RpA.reads I ds _ its (by simpa only [noD] using n) ha rv
      exact ⟨_, Reads.tuple ho hc hd hr⟩
  | .dict _, _, _, n, _, _ => by simp only [noD, Bool.false_eq_true] at n
theorem RpA.reads (I : Inv X pins σ H s) : ∀ (ds : List D) (vs : List V) (us : List Value), noDs ds = true → RpA X.K H vs ds → Vals vs us → ∃ as, ReadsAll s.heap us ds as
  | [], _, _, _, h, r => by
    cases h
    cases r
    exact ⟨_, ReadsAll.nil⟩
  | d :: ds, _, _, n, h, r => by
    simp only [noDs, Bool.and_eq_true] at n
    cases h with
    | cons h1 h2 =>
      cases r with
      | cons r1 r2 =>
        obtain ⟨as, q1⟩ := Rp.reads I d _ _ n.1 h1 r1
        obtain ⟨bs, q2⟩ := RpA.reads I ds _ _ n.2 h2 r2
        exact ⟨_, ReadsAll.cons q1 q2⟩
end
theorem dic_nil_reads (I : Inv X pins σ H s) {a : Addr} (e : H a = some (.dK [])) : ∃ as, Reads s.heap (.ref a) (.dict []) as ∧ sysModules ∉ as := by
  obtain ⟨_, hsys, vs, kv, o, es, ep, e1, e2, e3, _, ps, _⟩ : ([] : List (Key × V)).length ≤ sizeLine ∧ (a == sysModules) = false ∧ ∃ vs, KV ([] : List (Key × V)) vs ∧ s.heap.DictOf (mixKind X.prog X.w) a vs := I.hok a _ e
  cases kv
  have he : es.toList = [] := by cases h : es.toList with
    | nil => rfl
    | cons x xs => rw [h] at ps; cases ps
  refine ⟨_, Reads.dict (as := []) (bs := []) (kvs := []) e1 e2.1 e3 (by rw [he]; exact .nil) (by rw [he]; exact .nil), fun hz => ?_⟩
  rw [List.append_nil, List.mem_singleton] at hz
  rw [hz] at hsys
  simp at hsys
mutual
/-- what is read is shown -/
theorem Rp.shows (I : Inv X pins σ H s) : ∀ (d : D) (v : V) (u : Value), noK d = true → d.showable = true → d.shown.length ≤ sizeLine → Rp X.K H v d → RelV v u →
    ∃ as, Reads s.heap u d as ∧ ∃ bs, ReadAtMost s.heap d.depth bs ∧ ReprK X.prog X.w bs s.heap d.depth u d.shown
  | .none, _, _, _, h1, h2, h, r => by
    cases h
    cases r
    exact ⟨_, Reads.none, ReprK.of_reads Reads.none h1 (fun z => by simp [PyData.hasDict] at z) h2⟩
  | .bool b, _, _, _, h1, h2, h, r => by
    cases h
    cases r
    exact ⟨_, Reads.bool b, ReprK.of_reads (Reads.bool b) h1 (fun z => by simp [PyData.hasDict] at z) h2⟩
  | .int i, _, _, _, h1, h2, h, r => by
    cases h
    obtain ⟨t, rfl⟩ := r
    exact ⟨_, Reads.int i t, ReprK.of_reads (Reads.int i t) h1 (fun z => by simp [PyData.hasDict] at z) h2⟩
  | .str x, _, _, _, h1, h2, h, r => by
    cases h
    obtain ⟨t, rfl⟩ := r
    exact ⟨_, Reads.str x t, ReprK.of_reads (Reads.str x t) h1 (fun z => by simp [PyData.hasDict] at z) h2⟩
  | .list ds, _, _, n, h1, h2, h, r => by
    cases h with
    | lst hs ha =>
      cases r
      obtain ⟨its, rv, ⟨o, k, ho, hc, _, hd⟩, _⟩ := I.list (SqL.of hs)
      simp only [PyData.shown] at h2 ⊢
      obtain ⟨as, hr, bs, ba, rp⟩ := RpA.shows I ds _ its (by simpa only [noK] using n) (by simpa only [PyData.showable] using h1) (fun t ht => Nat.le_trans (listText_mem_le ht) h2) ha rv
      have rd := Reads.list ho hc hd hr
      have out := not_mem_of_deeper rd (n := PyData.depthAll ds) (by simp only [PyData.depth]; omega) ba
      refine ⟨_, rd, _, ReadAtMost.cons rd (by simp only [PyData.depth]; omega) ba, ?_⟩
      simp only [PyData.depth]
      cases its with
      | nil =>
        cases hr
        simp only [PyData.shownAll, listText_nil]
        exact .listEmpty ho hc hd
      | cons y its => exact .list ho hc hd out (by simpa using rp.length_eq) fun i z e => rp.item i z (by simpa using e)
  | .tuple ds, _, _, n, h1, h2, h, r => by
    cases h with
    | tup hs ha =>
      cases r
      obtain ⟨its, rv, ⟨o, ho, hc, k, hd⟩, _⟩ := I.tuple hs.sqT
      simp only [PyData.shown] at h2 ⊢
      obtain ⟨as, hr, bs, ba, rp⟩ := RpA.shows I ds _ its (by simpa only [noK] using n) (by simpa only [PyData.showable] using h1) (fun t ht => Nat.le_trans (tupleText_mem_le ht) h2) ha rv
      have rd := Reads.tuple ho hc hd hr
      have out := not_mem_of_deeper rd (n := PyData.depthAll ds) (by simp only [PyData.depth]; omega) ba
      refine ⟨_, rd, _, ReadAtMost.cons rd (by simp only [PyData.depth]; omega) ba, ?_⟩
      simp only [PyData.depth]
      exact .tuple ho hc hd out rp
  | .dict [], _, _, n, h1, h2, h, r => by
    cases h with
    | dic e rk =>
      rename_i a ks
      cases rk
      cases r
      obtain ⟨_, rd, hz⟩ := dic_nil_reads I e
      exact ⟨_, rd, ReprK.of_reads rd h1 (fun _ => hz) h2⟩
  | .dict (_ :: _), _, _, n, _, _, _, _ => by simp only [noK, Bool.false_eq_true] at n
theorem RpA.shows (I : Inv X pins σ H s) : ∀ (ds : List D) (vs : List V) (us : List Value), noKs ds = true → PyData.showableAll ds = true → (∀ t ∈ PyData.shownAll ds, t.length ≤ sizeLine) → RpA X.K H vs ds → Vals vs us →
    ∃ as, ReadsAll s.heap us ds as ∧ ∃ bs, ReadAtMost s.heap (PyData.depthAll ds) bs ∧ ReprAllK X.prog X.w bs s.heap (PyData.depthAll ds) us (PyData.shownAll ds)
  | [], _, _, _, _, _, h, r => by
    cases h
    cases r
    exact ⟨_, ReadsAll.nil, [], (fun _ z => nomatch z), by simp only [PyData.shownAll]; exact .nil⟩
  | d :: ds, _, _, n, h1, h2, h, r => by
    simp only [noKs, Bool.and_eq_true] at n
    simp only [PyData.showableAll, Bool.and_eq_true] at h1
    simp only [PyData.shownAll, List.forall_mem_cons] at h2
    cases h with
    | cons q1 q2 =>
      cases r with
      | cons r1 r2 =>
        obtain ⟨as, w1, xs, a1, k1⟩ := Rp.shows I d _ _ n.1 h1.1 h2.1 q1 r1
        obtain ⟨bs, w2, ys, a2, k2⟩ := RpA.shows I ds _ _ n.2 h1.2 h2.2 q2 r2
        have m1 : d.depth ≤ PyData.depthAll (d :: ds) := by simp only [PyData.depthAll]; exact Nat.le_max_left _ _
        have m2 : PyData.depthAll ds ≤ PyData.depthAll (d :: ds) := by simp only [PyData.depthAll]; exact Nat.le_max_right _ _
        refine ⟨_, ReadsAll.cons w1 w2, xs ++ ys, (a1.mono m1).append (a2.mono m2), ?_⟩
        simp only [PyData.shownAll]
        exact .cons ((k1.more fun b z => List.mem_append_left _ z).level_le m1) (k2.more_le (fun b z => List.mem_append_right _ z) m2)
end
mutual
theorem noD_has : ∀ d : D, noD d = true → d.hasDict = false
  | .none, _ => by simp only [PyData.hasDict]
  | .bool _, _ => by simp only [PyData.hasDict]
  | .int _, _ => by simp only [PyData.hasDict]
  | .str _, _ => by simp only [PyData.hasDict]
  | .list xs, h => by simp only [PyData.hasDict]; exact noDs_has xs (by simpa only [noD] using h)
  | .tuple xs, h => by simp only [PyData.hasDict]; exact noDs_has xs (by simpa only [noD] using h)
  | .dict _, h => by simp only [noD, Bool.false_eq_true] at h
theorem noDs_has : ∀ xs : List D, noDs xs = true → PyData.hasDictAll xs = false
  | [], _ => by simp only [PyData.hasDictAll]
  | x :: xs, h => by
    simp only [noDs, Bool.and_eq_true] at h
    simp only [PyData.hasDictAll, noD_has x h.1, noDs_has xs h.2, Bool.or_self]
end
end

/-! ### repr -/
def okR (d : D) : Bool := noK d && d.showable && decide (d.depth ≤ 60) && d.leavesShort 13 && decide (d.bulk ≤ 1048576)
def rRepr (K : PySem.W.Frag) : List V → Hp → VK → Prop := fun xs H Q => ∃ v d, xs = [v] ∧ Rp K H v d ∧ okR d = true ∧ Q (.str d.shown) H
theorem call_reprD {X : Cx} (hg : X.A.guards = some []) (hu : X.A.units + 64 < cLine) : CallR X (.builtin "repr") (rRepr X.K) := by
  intro pins s σ H xs us Q I r h
  obtain ⟨v, d, rfl, rp, ok, q⟩ := h
  obtain ⟨u, rfl, ru⟩ := vals1 r
  unfold okR at ok
  simp only [Bool.and_eq_true, decide_eq_true_eq] at ok
  obtain ⟨⟨⟨⟨hn, hs⟩, hd⟩, hl⟩, hb⟩ := ok
  have hsz : d.shown.length ≤ sizeLine := PyData.shown_fits_bulk (B := 13) (by decide) (by decide) hl (by
    have e : (2 : Nat) ^ 20 = 1048576 := by decide
    rw [e]; exact hb)
  have fin : ∀ h' u' tk, (∀ b o, s.heap.get? b = some o → h'.get? b = some o) → EP X pins σ Q (.str d.shown u') { s with heap := h', toks := tk } := fun h' u' tk hk => ⟨.str d.shown, H, I.kept (t' := tk) hk, ⟨_, rfl⟩, q⟩
  cases rp with
  | non =>
    cases ru
    simp only [PyData.shown] at q
    exact PySem.P.repr_of_none ⟨.str _, H, I.tok _, ⟨_, rfl⟩, q⟩
  | bl b =>
    cases ru
    simp only [PyData.shown] at q
    exact PySem.P.repr_of_bool ⟨.str _, H, I.tok _, ⟨_, rfl⟩, q⟩
  | int i =>
    obtain ⟨t, rfl⟩ := ru
    simp only [PyData.shown] at q
    exact PySem.P.repr_of_int (by simpa only [PyData.showable, decide_eq_true_eq] using hs) ⟨.str _, H, I.tok _, ⟨_, rfl⟩, q⟩
  | str x =>
    obtain ⟨t, rfl⟩ := ru
    simp only [PyData.shown] at q hsz
    exact PySem.P.repr_of_str ⟨.str _, H, I.tok _, ⟨_, rfl⟩, q⟩ hsz
  | @lst a xs ds g ra =>
    cases ru
    obtain ⟨its, rv, ⟨o, k, ho, hc, _, hdt⟩, _⟩ := I.list (SqL.of g)
    simp only [PyData.shown] at hsz
    obtain ⟨as, hr, bs, ba, rp⟩ := RpA.shows I ds _ its (by simpa only [noK] using hn) (by simpa only [PyData.showable] using hs) (fun t ht => Nat.le_trans (listText_mem_le ht) hsz) ra rv
    have rd := Reads.list ho hc hdt hr
    have out := not_mem_of_deeper rd (n := PyData.depthAll ds) (by simp only [PyData.depth]; omega) ba
    simp only [PyData.shown] at fin
    simp only [PyData.depth] at hd
    refine call_repr_slot (by omega) ⟨o, ho, hc⟩ F.slot_list_repr.toG ?_
    cases its with
    | nil =>
      cases hr
      simp only [PyData.shownAll, listText_nil] at fin
      exact call_list_repr_empty ⟨o, ho, hc⟩ ho hdt ⟨_, _, rfl, fin s.heap _ _ fun _ _ e => e⟩
    | cons y its =>
      exact call_list_reprK ho hc hdt out (by simpa using rp.length_eq) (fun i z e => rp.item i z (by simpa using e)) hg (fun b _ => Clear.nil b) (by show X.A.units + 1 + (PyData.depthAll ds + 1) < cLine; omega) (fun _ _ e => e) (fun h' u' tk hk => ⟨_, _, rfl, fin h' u' tk hk⟩) hsz
  | @tup a xs ds g ra =>
    cases ru
    obtain ⟨its, rv, ⟨o, ho, hc, k, hdt⟩, _⟩ := I.tuple g.sqT
    simp only [PyData.shown] at hsz
    obtain ⟨as, hr, bs, ba, rp⟩ := RpA.shows I ds _ its (by simpa only [noK] using hn) (by simpa only [PyData.showable] using hs) (fun t ht => Nat.le_trans (tupleText_mem_le ht) hsz) ra rv
    have rd := Reads.tuple ho hc hdt hr
    have out := not_mem_of_deeper rd (n := PyData.depthAll ds) (by simp only [PyData.depth]; omega) ba
    simp only [PyData.shown] at fin
    simp only [PyData.depth] at hd
    exact call_repr_slot (by omega) ⟨o, ho, hc⟩ F.slot_tuple_repr (call_tuple_reprK ho hc hdt out rp hg (fun b _ => Clear.nil b) (by show X.A.units + 1 + (PyData.depthAll ds + 1) < cLine; omega) (fun _ _ e => e) (fun h' u' tk hk => ⟨_, _, rfl, fin h' u' tk hk⟩) hsz)
  | dic e rk =>
    rename_i a ks ds
    cases ru
    cases ds with
    | nil =>
      cases rk
      obtain ⟨_, rd, hz⟩ := dic_nil_reads I e
      exact repr_of_reads' rd hs (fun _ => hz) hg (by omega) (fun _ _ e => e) fin hsz
    | cons x xs => simp only [noK, Bool.false_eq_true] at hn
def dRepr : List D → Option D
  | [d] => if okR d then some (.str d.shown) else none
  | _ => none
section
variable {K : PySem.W.Frag} {t : TA} {fs : Mo (List Opd)} {ta tb : TE} {fa fb : Mo Opd}
theorem re_repr (h : RA K t fs) : RE K (tCB (rRepr K) t) (mCB rs dRepr fs) := re_cb h fun H vs ds z r hz => by
  unfold dRepr at hz
  split at hz
  · rename_i d
    split at hz
    · rename_i ok
      cases hz
      cases r with
      | cons r1 r2 =>
        cases r2
        exact ⟨_, rfl, fun Q q => ⟨_, d, rfl, r1, ok, q⟩⟩
    · cases hz
  · cases hz

/-! ### isinstance(x, T), T a built-in class -/
def tyName : D → String
  | .none => "NoneType"
  | .bool _ => "bool"
  | .int _ => "int"
  | .str _ => "str"
  | .list _ => "list"
  | .tuple _ => "tuple"
  | .dict _ => "dict"
theorem Rp.ty {H : Hp} {v : V} {d : D} (r : Rp K H v d) : TyX K H v (.type (tyName d)) := by
  cases r with
  | non => exact .base .non
  | bl b => exact .base (.bl b)
  | int i => exact .base (.int i)
  | str x => exact .base (.str x)
  | lst h _ => exact .base (.lst h)
  | tup h _ =>
    obtain ⟨o, h, _⟩ := h
    exact .fTuple h
  | dic h _ => exact .base (.dK h)
def tIsiB (K : PySem.W.Frag) (T : String) (ta : TE) : TE := tCB (rIsi K) (tCons ta (tCons (tC (.ty T)) tNil))
def dIsi (T : String) (d : D) : Option D := (kitB (tyName d) T).map .bool
theorem re_isi {T : String} (ha : RO K ta fa) : RE K (tCB (rIsi K) (tCons ta (tCons (tC (.ty T)) tNil))) (m1 rs (dIsi T) fa) := fun ρ d ρ' e σ G H fp S Q q => by
  obtain ⟨o, x, e1, e2, e3⟩ := m1_some e
  refine ha ρ _ _ e1 σ G H fp S _ fun v G1 H1 fp1 st1 S1 r1 => ?_
  unfold dIsi at e3
  cases hk : kitB (tyName x) T with
  | none => rw [hk] at e3; cases e3
  | some b =>
    rw [hk] at e3
    cases e3
    exact ⟨v, .ty T, _, _, b, rfl, .ty T, (rs_rp S1 r1 e2).ty, kit_ty hk, q _ G1 H1 fp1 st1 S1 (.bl b)⟩

/-! ### all, any -/
def bools : List D → Option (List Bool)
  | [] => some []
  | .bool b :: ds => match bools ds with
    | some bs => some (b :: bs)
    | none => none
  | _ => none
theorem bools_rp {H : Hp} : ∀ {vs : List V} {ds : List D} {bs : List Bool}, RpA K H vs ds → bools ds = some bs → vs = bs.map V.bl
  | _, _, _, .nil, e => by cases e; rfl
  | _, _, _, .cons h r, e => by
    unfold bools at e
    split at e
    · rename_i e'; cases e'
    · rename_i b ds e'
      cases e'
      split at e
      · rename_i bs' e2
        cases e
        rw [List.map_cons, h.bool', bools_rp r e2]
      · cases e
    · cases e
def dAll : List D → Option D
  | [.list ds] => (bools ds).map fun bs => .bool (bs.all id)
  | _ => none
theorem re_all (h : RA K t fs) : RE K (tCB (rAll K) t) (mCB rs dAll fs) := re_cb h fun H vs ds z r hz => by
  unfold dAll at hz
  split at hz
  · rename_i xs
    cases hb : bools xs with
    | none => rw [hb] at hz; cases hz
    | some bs =>
      rw [hb] at hz
      cases hz
      cases r with
      | cons r1 r2 =>
        cases r2
        obtain ⟨a, ws, rfl, h1, p1⟩ := r1.list'
        refine ⟨_, rfl, fun Q q => ⟨a, bs, rfl, ?_, q⟩⟩
        rw [← bools_rp p1 hb]
        exact SqL.of h1
  · cases hz

/-! ### in a tuple of scalars -/
def flatD : D → Bool
  | .int _ => true
  | .str _ => true
  | _ => false
def eqF : D → D → Bool
  | .int i, .int j => i == j
  | .str x, .str y => x == y
  | _, _ => false
def dInT (neg : Bool) (d e : D) : Option D := match e with
  | .tuple ds => if flatD d && ds.all flatD then some (.bool (if neg then !ds.any (fun z => eqF z d) else ds.any fun z => eqF z d)) else none
  | .list ds => if flatD d && ds.all flatD then some (.bool (if neg then !ds.any (fun z => eqF z d) else ds.any fun z => eqF z d)) else none
  | _ => none
theorem flat_rp {H : Hp} {v : V} {d : D} (f : flatD d = true) (r : Rp K H v d) : flatV v = true := by
  cases r <;> first | rfl | exact absurd f Bool.false_ne_true
theorem flat_all {H : Hp} : ∀ {vs : List V} {ds : List D}, ds.all flatD = true → RpA K H vs ds → vs.all flatV = true
  | _, _, _, .nil => rfl
  | _, _, f, .cons h r => by
    rw [List.all_cons, Bool.and_eq_true] at f
    rw [List.all_cons, flat_rp f.1 h, flat_all f.2 r]
    rfl
theorem eqF_rp {H : Hp} {v w : V} {d e : D} (fd : flatD d = true) (fe : flatD e = true) (r : Rp K H v d) (r' : Rp K H w e) : eqV v w = eqF d e := by
  cases r with
  | int i => cases r' <;> first | rfl | exact absurd fe Bool.false_ne_true
  | str i => cases r' <;> first | rfl | exact absurd fe Bool.false_ne_true
  | non => exact absurd fd Bool.false_ne_true
  | bl _ => exact absurd fd Bool.false_ne_true
  | lst _ _ => exact absurd fd Bool.false_ne_true
  | tup _ _ => exact absurd fd Bool.false_ne_true
  | dic _ _ => exact absurd fd Bool.false_ne_true
theorem inV_rp {H : Hp} {x : V} {d : D} (fd : flatD d = true) (r : Rp K H x d) : ∀ {vs : List V} {ds : List D}, ds.all flatD = true → RpA K H vs ds → inV x vs = ds.any fun z => eqF z d
  | _, _, _, .nil => rfl
  | _, _, f, .cons h rr => by
    rw [List.all_cons, Bool.and_eq_true] at f
    have q := inV_rp fd r f.2 rr
    unfold inV at q ⊢
    rw [List.any_cons, List.any_cons, q, eqF_rp f.1 fd h r]
theorem dInT_ok (neg : Bool) : ∀ (H : Hp) (v w : V) (d e z : D), Rp K H v d → Rp K H w e → dInT neg d e = some z → ∃ u, toV z = some u ∧ ∀ Q : VK, Q u H → rIn K neg v w H Q := fun H v w d e z r1 r2 hz => by
  unfold dInT at hz
  split at hz
  · rename_i ds
    split at hz
    · rename_i hc
      cases hz
      rw [Bool.and_eq_true] at hc
      obtain ⟨a, vs, rfl, h1, p1⟩ := r2.tuple'
      refine ⟨_, rfl, fun Q q => ⟨a, vs, rfl, .inr h1, flat_rp hc.1 r1, flat_all hc.2 p1, ?_⟩⟩
      rw [inV_rp hc.1 r1 hc.2 p1]
      cases neg <;> exact q
    · cases hz
  · rename_i ds
    split at hz
    · rename_i hc
      cases hz
      rw [Bool.and_eq_true] at hc
      obtain ⟨a, vs, rfl, h1, p1⟩ := r2.list'
      refine ⟨_, rfl, fun Q q => ⟨a, vs, rfl, .inl (SqL.of h1), flat_rp hc.1 r1, flat_all hc.2 p1, ?_⟩⟩
      rw [inV_rp hc.1 r1 hc.2 p1]
      cases neg <;> exact q
    · cases hz
  · cases hz
theorem re_inT (ha : RO K ta fa) (hb : RO K tb fb) : RE K (tOp (rIn K false) ta tb) (m2 rs (dInT false) fa fb) := re_op ha hb (dInT_ok false)
theorem re_notInT (ha : RO K ta fa) (hb : RO K tb fb) : RE K (tOp (rIn K true) ta tb) (m2 rs (dInT true) fa fb) := re_op ha hb (dInT_ok true)
end
end Nt

/-! sorted -/
namespace Nt
open PySem PySem.Spec PyProof.Rows L2

def okSort (ds : List D) : Bool := (ds.all fun d => ds.all fun e => PySem.W.alike d e) && ((ds.all fun d => match d with | .tuple (_ :: _) => true | _ => false) || (ds.all fun d => match d with | .none => false | .tuple _ => false | _ => true)) && (ds.all fun d => decide (d.depth ≤ 60) && noD d)
def dSorted (ds : List D) : List D := ds.mergeSort (PySem.W.dataLe false id)
theorem okSort_alike {ds : List D} (h : okSort ds = true) : PySem.W.AllAlike (ds.map id) := by
  unfold okSort at h
  rw [Bool.and_eq_true, Bool.and_eq_true] at h
  rw [List.map_id]
  intro d hd e he
  exact List.all_eq_true.mp (List.all_eq_true.mp h.1.1 d hd) e he
theorem okSort_sort {ds : List D} (h : okSort ds = true) : PySem.W.Sortable (ds.map id) := by
  unfold okSort at h
  rw [Bool.and_eq_true, Bool.and_eq_true, Bool.or_eq_true] at h
  rw [List.map_id]
  rcases h.1.2 with q | q
  · refine .inl fun d hd => ?_
    have := List.all_eq_true.mp q d hd
    split at this
    · exact ⟨_, _, rfl⟩
    · cases this
  · refine .inr fun d hd => ?_
    have := List.all_eq_true.mp q d hd
    constructor
    · intro e; subst e; cases this
    · intro xs e; subst e; cases this
theorem okSort_each {ds : List D} (h : okSort ds = true) : ∀ d ∈ ds, d.depth ≤ 60 ∧ noD d = true := by
  unfold okSort at h
  rw [Bool.and_eq_true] at h
  intro d hd
  have := List.all_eq_true.mp h.2 d hd
  rw [Bool.and_eq_true, decide_eq_true_eq] at this
  exact this
def rSortD (K : PySem.W.Frag) : List V → Hp → VK → Prop := fun xs H Q => ∃ a vs ds G, xs = [.ref a] ∧ (SqL K H a vs ∨ SqT K H a vs) ∧ Sub G H ∧ RpA K G vs ds ∧ okSort ds = true ∧ ∀ p ws, H p = none → RpA K G ws (dSorted ds) → Q (.ref p) (upd H p (.lst ws))
section
variable {X : Cx} {pins : List (Addr × Obj)} {σ : L2.St} {H G : Hp} {s : Shared}
theorem each_reads (I : Inv X pins σ H s) (sb : Sub G H) : ∀ {vs : List V} {ds : List D} {us : List Value}, (∀ d ∈ ds, noD d = true) → RpA X.K G vs ds → Vals vs us → PySem.W.EachIs (fun u d => ∃ as, Reads s.heap u (id d) as) us ds
  | _, _, _, _, .nil, .nil => .nil
  | _, _, _, n, .cons h r, .cons q t => .cons (Rp.reads I _ _ _ (n _ List.mem_cons_self) (h.mono sb) q) (each_reads I sb (fun d hd => n d (List.mem_cons_of_mem _ hd)) r t)
theorem each_rp {K : PySem.W.Frag} : ∀ {vs : List V} {ds : List D} {us : List Value}, RpA K G vs ds → Vals vs us → PySem.W.EachIs (fun u d => ∃ v, RelV v u ∧ Rp K G v d) us ds
  | _, _, _, .nil, .nil => .nil
  | _, _, _, .cons h r, .cons q t => .cons ⟨_, q, h⟩ (each_rp r t)
theorem rp_each {K : PySem.W.Frag} : ∀ {ds : List D} {us : List Value}, PySem.W.EachIs (fun u d => ∃ v, RelV v u ∧ Rp K G v d) us ds → ∃ vs, Vals vs us ∧ RpA K G vs ds
  | _, _, .nil => ⟨[], .nil, .nil⟩
  | _, _, .cons h r => by
    obtain ⟨v, q, rp⟩ := h
    obtain ⟨vs, qs, rs⟩ := rp_each r
    exact ⟨v :: vs, .cons q qs, .cons rp rs⟩

/-- sorted(x), x a list or a tuple of data -/
theorem call_sortD (hu : X.A.units + 128 < cLine) : CallR X (.builtin "sorted") (rSortD X.K) := by
  intro pins s σ H xs us Q I r h
  obtain ⟨a, vs, ds, G, rfl, hsq, sb, rp, ok, q⟩ := h
  obtain ⟨u, rfl, ru⟩ := vals1 r
  cases ru
  -- the source's own object
  have hsrc : ∃ (its : List Value) (T : String) (o : Obj) (n : Nat), Vals vs its ∧ (T = "list" ∨ T = "tuple") ∧ s.heap.get? a = some o ∧ o.cls = .type T ∧ o.data = .seq its.toArray n ∧ vs.length ≤ sizeLine := by
    rcases hsq with hl | ht
    · obtain ⟨its, rv, ⟨o, n, e1, e2, _, e3⟩, hz⟩ := I.list hl
      exact ⟨its, "list", o, n, rv, .inl rfl, e1, e2, e3, hz⟩
    · obtain ⟨its, rv, ⟨o, e1, e2, n, e3⟩, hz⟩ := I.tuple ht
      exact ⟨its, "tuple", o, n, rv, .inr rfl, e1, e2, e3, hz⟩
  obtain ⟨its, T, o, n, rv, hT, ho, hc, hd, hz⟩ := hsrc
  have hlen : its.length ≤ sizeLine := by rw [← rv.length]; exact hz
  refine Calls.call_function_entry kind_sorted plain_sorted entry_sorted (args_sorted1 _) ?_
  unfold Builtin.«sorted»
  refine wpAny_bind (m := checkCount "sorted" 1 1 _) (wpAny_pure ?_)
  refine wpAny_bind (wpAny_collect_seq a hT ho hc hd (fun h1 k1 => ?_) (by simpa using hlen))
  have e0 : its.toArray.toList = its := by simp
  rw [e0]
  refine wpAny_bind (wpAny_newList ?_ hlen)
  have at2 : (h1.push (seqObj "list" its.toArray 0)).get? h1.objs.size = some (seqObj "list" its.toArray 0) := Heap.get?_push_size _ rfl
  have k2 : ∀ b ob, s.heap.get? b = some ob → (h1.push (seqObj "list" its.toArray 0)).get? b = some ob := fun b ob e => Heap.get?_push_of_some _ (k1 b ob e)
  have I1 : Inv X pins σ H { s with heap := h1 } := I.kept (t' := s.toks) k1
  have hp : H h1.objs.size = none := I1.hok.fresh (Nat.le_refl _)
  have I2 : Inv X pins σ H { s with heap := h1.push (seqObj "list" its.toArray 0) } := I.kept (t' := s.toks) k2
  have h2sz : (h1.push (seqObj "list" its.toArray 0)).objs.size = h1.objs.size + 1 := size_push' _ _
  have kS : ∀ b ob, s.heap.get? b = some ob → (PySem.W.sortingHeap (h1.push (seqObj "list" its.toArray 0)) h1.objs.size its).get? b = some ob := fun b ob e =>
    PySem.W.sortingHeap_old (Nat.ne_of_lt (Heap.lt_size (k1 b ob e))) (k2 b ob e)
  have I3 : Inv X pins σ H { s with heap := PySem.W.sortingHeap (h1.push (seqObj "list" its.toArray 0)) h1.objs.size its } := I.kept (t' := s.toks) kS
  have nd : ∀ d ∈ ds, noD d = true := fun d hd => (okSort_each ok d hd).2
  have er := each_reads I3 sb nd rp rv
  have ee := each_rp rp rv
  have al := okSort_alike ok
  have so := okSort_sort ok
  refine wpAny_bind (wpAny_holding (PySem.wpAny_call_entry slot_list_sort ⟨_, at2, rfl⟩ entry_list_sort ?body (args_list_sort _)))
  case body =>
    show wpAny (model X.prog X.w) X.A.in1.in1 (Builtin.«list.sort» ⟨[.ref h1.objs.size], []⟩) _ _ _
    refine PySem.W.list_sort_vals (s := { s with heap := h1.push (seqObj "list" its.toArray 0) }) at2 (PySem.W.SortsAt.data (s := { s with heap := PySem.W.sortingHeap (h1.push (seqObj "list" its.toArray 0)) h1.objs.size its }) (PySem.W.each_map (R := fun v d => ∃ as, Reads (PySem.W.sortingHeap (h1.push (seqObj "list" its.toArray 0)) h1.objs.size its) v d as) id er) al so fun d hd => ?_) hlen ?_
    · rw [List.map_id] at hd
      have := (okSort_each ok d hd).1
      show X.A.units + 1 + 1 + d.depth < cLine
      omega
    · have out := PySem.W.sortVals_data false ee er al
      obtain ⟨ws, rw', rs⟩ := rp_each out
      refine ⟨_, rfl, wpAny_pure ⟨_, rfl, ?_⟩⟩
      obtain ⟨ep, he⟩ := sortedHeap_at (vs := its) (out := (PySem.W.sortVals (PySem.W.dataKind (PySem.W.sortingHeap (h1.push (seqObj "list" its.toArray 0)) h1.objs.size its) (ds.map id)) false its its).toArray) at2
      have lw : ws.length = vs.length := by
        rw [rw'.length, PySem.W.sortVals_length false rfl, rv.length]
      refine ⟨.ref h1.objs.size, _, I1.laid (t' := s.toks) (o := .lst ws) (fun b ob e => ?_) (Nat.le_refl _) ⟨by rw [lw]; exact hz, _, ep, rw', he⟩, rfl, q h1.objs.size ws hp rs⟩
      rw [sortedHeap_old (Nat.ne_of_lt (Heap.lt_size e)) (by rw [h2sz]; exact Nat.lt_succ_of_lt (Heap.lt_size e))]
      exact Heap.get?_push_of_some _ e
end

def dSortedC : List D → Option D
  | [.list ds] => if okSort ds then some (.list (dSorted ds)) else none
  | [.tuple ds] => if okSort ds then some (.list (dSorted ds)) else none
  | _ => none
theorem rw_sorted {K : PySem.W.Frag} {t : TA} {fs : Mo (List Opd)} (h : RA K t fs) : RW K 1 (tCB (rSortD K) t) (mCB rs1 dSortedC fs) := rw_cbL h fun G H vs ds z s r hz Q q => by
  unfold dSortedC at hz
  split at hz
  · split at hz
    · rename_i xs hok
      cases hz
      cases r with
      | cons r1 r2 =>
        cases r2
        obtain ⟨a, ws, rfl, h1, p1⟩ := r1.list s
        exact ⟨a, ws, xs, G, rfl, .inl (SqL.of h1), s, p1, hok, fun p us hp ru => q p us _ hp rfl ru⟩
    · cases hz
  · split at hz
    · rename_i xs hok
      cases hz
      cases r with
      | cons r1 r2 =>
        cases r2
        obtain ⟨a, ws, rfl, h1, g1, p1⟩ := r1.tuple s
        exact ⟨a, ws, xs, G, rfl, .inr h1, s, p1, hok, fun p us hp ru => q p us _ hp rfl ru⟩
    · cases hz
  · cases hz
end Nt

/-! enumerate of a list or a tuple -/
namespace Nt
open PySem PySem.Spec PyProof.Rows L2

theorem meets_enum1 {v : Value} {o : Obj} {H : Heap → Prop} (B : PySem.Begins v o H) :
    Meets (Builtin.«enumerate.__new__» ⟨[.type "enumerate", v], []⟩) (fun _ R s => H s.heap ∧
      R (.ok (.ret (.ref (s.heap.push o).objs.size))) { s with heap := (s.heap.push o).push { cls := .type "enumerate", data := .fields #[.none, .bool false, .ref s.heap.objs.size, rawInt 0, .none, .none] } }) :=
  .of_wp fun prog w A R s h => by
    obtain ⟨hp, g, d, tk, os⟩ := s
    obtain ⟨h1, h⟩ := h
    have hsub := sub_enumerate
    have q1 : ∀ {A' : Around} {E : Value → Shared → Prop} {Q : Value → Shared → Prop}, Q (.ref hp.objs.size) ⟨hp.push o, g, d, tk, os⟩ → wpAny (model prog w) A' (pyIter v) Q E ⟨hp, g, d, tk, os⟩ :=
      fun q => B.iter prog w _ _ ⟨hp, g, d, tk, os⟩ _ h1 q
    wp_walk using q1
    refine wpAny_stack_any fun st => wpAny_pure ?_
    split
    · rename_i c _ _ _ _ _
      cases (c == Value.type "enumerate")
      · wp_walk using q1
        exact ⟨_, rfl, h⟩
      · wp_walk using q1
        exact ⟨_, rfl, h⟩
    · wp_walk using q1
      exact ⟨_, rfl, h⟩
section
variable {prog : Program} {w : World} {A : Around} {E : Value → Shared → Prop} {s : Shared}
theorem enum_begins1 {v : Value} {o : Obj} {H : Heap → Prop} {Q : Value → Shared → Prop} (B : PySem.Begins v o H) (h1 : H s.heap)
    (h : ∀ h', IsEnum h' (s.heap.objs.size + 1) s.heap.objs.size 0 .none → h'.get? s.heap.objs.size = some o → h'.objs.size = s.heap.objs.size + 2 →
      (∀ b o, s.heap.get? b = some o → h'.get? b = some o) → Q (.ref (s.heap.objs.size + 1)) { s with heap := h' }) :
    wpAny (model prog w) A (call (.type "enumerate") [v]) Q E s := by
  refine callType_new F.called_enumerate (by decide) (F.typeCall_enumerate_1 _) (F.newCall_enumerate_1 _) (fun obj => F.args_object_init_2 obj _) F.entry_enumerate_new (meets_enum1 B) ⟨h1, ?_⟩
  have sz : (s.heap.push o).objs.size = s.heap.objs.size + 1 := Heap.size_push ..
  show _ ∧ _
  rw [sz]
  have en : IsEnum ((s.heap.push o).push { cls := .type "enumerate", data := .fields #[.none, .bool false, .ref s.heap.objs.size, rawInt 0, .none, .none] }) (s.heap.objs.size + 1) s.heap.objs.size 0 .none := by
    have q := Heap.get?_push_size (s.heap.push o) (o := { cls := .type "enumerate", data := .fields #[.none, .bool false, .ref s.heap.objs.size, rawInt 0, .none, .none] }) rfl
    rw [sz] at q
    exact q
  exact ⟨⟨_, en, rfl⟩, h _ en (Heap.get?_push_of_some _ (Heap.get?_push_size _ B.free)) (by rw [Heap.size_push, sz]) fun b ob x => Heap.get?_push_of_some _ (Heap.get?_push_of_some _ x)⟩
end
/-- the list at a, each item in a new pair -/
def IteL (K : PySem.W.Frag) (a : Addr) : It :=
  ⟨fun i H => ∃ (xs : List V) (x : V), SqL K H a xs ∧ xs[i]? = some x, fun i H v H' => ∃ T x o, v = .ref T ∧ H T = none ∧ o.dict = none ∧ H' = upd H T (.frz o (.tup [.int (i : Nat), x])) ∧ ∀ xs, SqL K H a xs → xs[i]? = some x, fun i H => ∃ xs : List V, SqL K H a xs ∧ xs.length ≤ i⟩
theorem turn_enumL {P : Program} {w : World} {K : PySem.W.Frag} {elts : List Expr} {kk : Nat} {tpos : Pos} (a e it : Addr) :
    Turn P w K (.Tuple elts kk tpos) (IteL K a) [e, it] e (fun i h => (∃ old, IsEnum h e it ((i : Nat) : Int) old) ∧ h.IsListIter it a i ∧ e ≠ it) where
  mem := by simp
  obj := fun i h st b hb => by
    obtain ⟨⟨old, he⟩, ⟨o, ho, hc, hd⟩, _⟩ := st
    have e' : b = e ∨ b = it := by simpa using hb
    rcases e' with z | z
    · subst z
      exact ⟨_, he, fun v q => nomatch q⟩
    · subst z
      exact ⟨o, ho, fun v q => by rw [hd] at q; cases q⟩
  keep := fun i h h' st k => by
    obtain ⟨⟨old, he⟩, hi, hne⟩ := st
    exact ⟨⟨old, k e (by simp) _ he⟩, hi.at fun o q => k it (by simp) o q, hne⟩
  item := by
    intro X hP hw hK hc i pins s σ H E I hf st hg
    subst hP hw hK
    obtain ⟨⟨old, he⟩, hit, hne⟩ := st
    obtain ⟨xs, x, hq, hx⟩ := hg
    obtain ⟨its, rv, p, hz⟩ := I.list hq
    obtain ⟨u, hu, ru⟩ := rv.get hx
    have hel : e < s.heap.objs.size := Heap.lt_size he
    have hil : it < s.heap.objs.size := by obtain ⟨_, q, _⟩ := hit; exact Heap.lt_size q
    refine wpAny_pyNext_enum_item he hit p.isList (x := u) (by simpa using hu) hne fun h' ho hit' hT hsz hk => ?_
    refine ⟨_, rfl, wpAny_letOwnedTupleGo_enum (s := { s with heap := h', toks := s.toks + 1 }) ho fun h'' he' sb => ?_⟩
    have hT2 : h''.get? s.heap.objs.size = some { cls := .type "tuple", data := .seq #[.int i s.toks, u] } := (sb.2 _ (Nat.ne_of_gt hel)).trans hT
    have I1 : Inv X pins σ (upd H s.heap.objs.size (.frz (tupO #[.int i s.toks, u]) (.tup [.int (i : Nat), x]))) { s with heap := h'', toks := s.toks + 1 } :=
      I.turnedNew (ch := [e, it]) (fun b ob hb q => (sb.2 b (fun z => hb (by simp [z]))).trans (hk b ob (fun z => hb (by simp [z])) (fun z => hb (by simp [z])) q)) hf (Nat.le_refl _) (tup_at (us := [.int i s.toks, u]) (by show 2 ≤ sizeLine; decide) (.cons ⟨_, rfl⟩ (.cons ru .nil)) hT2 rfl rfl)
    refine ⟨.ref s.heap.objs.size, _, I1, rfl, ⟨_, x, _, rfl, I.hok.fresh (Nat.le_refl _), rfl, rfl, fun ys hy => by rw [I.list_inj hy hq]; exact hx⟩, ⟨⟨u, ?_⟩, hit'.at fun o q => (sb.2 it (Ne.symm hne)).trans q, hne⟩, fun b hb => ?_⟩
    · have e1 : ((i + 1 : Nat) : Int) = (i : Int) + 1 := by omega
      rw [e1]
      exact he'
    · have hb' : b < s.heap.objs.size := by
        have e' : b = e ∨ b = it := by simpa using hb
        rcases e' with z | z
        · rw [z]; exact hel
        · rw [z]; exact hil
      rw [upd_ne (Nat.ne_of_lt hb')]
      exact (hf b hb).1
  done := by
    intro X hP hw hK hc i pins s σ H E I hf st hg
    subst hP hw hK
    obtain ⟨⟨old, he⟩, hit, hne⟩ := st
    obtain ⟨xs, hq, hx⟩ := hg
    obtain ⟨its, rv, p, hz⟩ := I.list hq
    obtain ⟨f0, f1, f2, f3, f4, f5⟩ := hf it (by simp)
    have hl := rv.length
    exact wpAny_pyNext_enum_end (I.ok.hd hc) he hit p.isList (by simp; omega) fun h' eb => ⟨rfl, I.turned (t' := s.toks) (fun b o hb q => eb b o hb q) f0 f1 f3 f4 f5⟩
  self := fun A i s Q E st h => by
    obtain ⟨⟨_, he⟩, _⟩ := st
    exact wpAny_pyIter_enum he h
/-- the tuple at a, each item in a new pair -/
def IteT (K : PySem.W.Frag) (a : Addr) : It :=
  ⟨fun i H => ∃ (xs : List V) (x : V), SqT K H a xs ∧ xs[i]? = some x, fun i H v H' => ∃ T x o, v = .ref T ∧ H T = none ∧ o.dict = none ∧ H' = upd H T (.frz o (.tup [.int (i : Nat), x])) ∧ ∀ xs, SqT K H a xs → xs[i]? = some x, fun i H => ∃ xs : List V, SqT K H a xs ∧ xs.length ≤ i⟩
theorem turn_enumT {P : Program} {w : World} {K : PySem.W.Frag} {elts : List Expr} {kk : Nat} {tpos : Pos} (a e it : Addr) :
    Turn P w K (.Tuple elts kk tpos) (IteT K a) [e, it] e (fun i h => (∃ old, IsEnum h e it ((i : Nat) : Int) old) ∧ h.IsTupleIter it a i ∧ e ≠ it) where
  mem := by simp
  obj := fun i h st b hb => by
    obtain ⟨⟨old, he⟩, ⟨o, ho, hc, hd⟩, _⟩ := st
    have e' : b = e ∨ b = it := by simpa using hb
    rcases e' with z | z
    · subst z
      exact ⟨_, he, fun v q => nomatch q⟩
    · subst z
      exact ⟨o, ho, fun v q => by rw [hd] at q; cases q⟩
  keep := fun i h h' st k => by
    obtain ⟨⟨old, he⟩, hi, hne⟩ := st
    exact ⟨⟨old, k e (by simp) _ he⟩, hi.at fun o q => k it (by simp) o q, hne⟩
  item := by
    intro X hP hw hK hc i pins s σ H E I hf st hg
    subst hP hw hK
    obtain ⟨⟨old, he⟩, hit, hne⟩ := st
    obtain ⟨xs, x, hq, hx⟩ := hg
    obtain ⟨its, rv, p, hz⟩ := I.tuple hq
    obtain ⟨u, hu, ru⟩ := rv.get hx
    have hel : e < s.heap.objs.size := Heap.lt_size he
    have hil : it < s.heap.objs.size := by obtain ⟨_, q, _⟩ := hit; exact Heap.lt_size q
    -- a is tracked (or written), the records are not
    have hae : a ≠ e := fun z => by
      obtain ⟨o, ho, hcl, _⟩ := p
      rw [z] at ho
      have hcc := congrArg Obj.cls (Option.some.inj (he.symm.trans ho))
      have h2 : Value.type "enumerate" = Value.type "tuple" := hcc.trans hcl
      exact absurd h2 (by decide)
    have hai : a ≠ it := fun z => by
      obtain ⟨o, ho, hcl, _⟩ := p
      obtain ⟨o2, ho2, hc2, _⟩ := hit
      rw [z, ho2] at ho
      cases ho
      rw [hc2] at hcl
      exact absurd hcl (by decide)
    have hlt : i < its.toArray.size := by
      rw [List.size_toArray]
      exact (List.getElem?_eq_some_iff.mp hu).1
    have hef : e ∉ [it, a] := by simp [hne, Ne.symm hae]
    refine wpAny_pyNext_enum_itemD (PySem.Draws.tuple (A := X.A.in1) (I.ok.hd hc) it a hai its.toArray) he (show s.heap.IsTupleIter it a i ∧ s.heap.IsTuple a its.toArray from ⟨hit, p⟩) hlt hne hef fun y h' tk hy ho hst hT hsz hk => ?_
    have hyu : y = u := by
      have : its.toArray[i]? = some u := by simpa using hu
      rw [this] at hy
      exact (Option.some.inj hy).symm
    subst hyu
    refine ⟨_, rfl, wpAny_letOwnedTupleGo_enum (s := { s with heap := h', toks := tk + 1 }) ho fun h'' he' sb => ?_⟩
    have hT2 : h''.get? s.heap.objs.size = some { cls := .type "tuple", data := .seq #[.int i tk, y] } := (sb.2 _ (Nat.ne_of_gt hel)).trans hT
    have I1 : Inv X pins σ (upd H s.heap.objs.size (.frz (tupO #[.int i tk, y]) (.tup [.int (i : Nat), x]))) { s with heap := h'', toks := tk + 1 } :=
      I.turnedNew (ch := [e, it]) (fun b ob hb q => (sb.2 b (fun z => hb (by simp [z]))).trans (hk b ob (fun z => hb (by simp [z])) (fun z => hb (by simp [z])) q)) hf (Nat.le_refl _) (tup_at (us := [.int i tk, y]) (by show 2 ≤ sizeLine; decide) (.cons ⟨_, rfl⟩ (.cons ru .nil)) hT2 rfl rfl)
    refine ⟨.ref s.heap.objs.size, _, I1, rfl, ⟨_, x, _, rfl, I.hok.fresh (Nat.le_refl _), rfl, rfl, fun ys hy => by rw [I.tuple_inj hy hq]; exact hx⟩, ⟨⟨y, ?_⟩, hst.1.at fun o q => (sb.2 it (Ne.symm hne)).trans q, hne⟩, fun b hb => ?_⟩
    · have e1 : ((i + 1 : Nat) : Int) = (i : Int) + 1 := by omega
      rw [e1]
      exact he'
    · have hb' : b < s.heap.objs.size := by
        have e' : b = e ∨ b = it := by simpa using hb
        rcases e' with z | z
        · rw [z]; exact hel
        · rw [z]; exact hil
      rw [upd_ne (Nat.ne_of_lt hb')]
      exact (hf b hb).1
  done := by
    intro X hP hw hK hc i pins s σ H E I hf st hg
    subst hP hw hK
    obtain ⟨⟨old, he⟩, hit, hne⟩ := st
    obtain ⟨xs, hq, hx⟩ := hg
    obtain ⟨its, rv, p, hz⟩ := I.tuple hq
    obtain ⟨f0, f1, f2, f3, f4, f5⟩ := hf it (by simp)
    have hl := rv.length
    have hai : a ≠ it := fun z => by
      obtain ⟨o, ho, hcl, _⟩ := p
      obtain ⟨o2, ho2, hc2, _⟩ := hit
      rw [z, ho2] at ho
      cases ho
      rw [hc2] at hcl
      exact absurd hcl (by decide)
    -- nothing is left to draw
    have D0 := PySem.Draws.tuple (prog := X.prog) (w := X.w) (A := X.A.in1) (I.ok.hd hc) it a hai its.toArray
    have D : PySem.Draws X.prog X.w X.A.in1 it [it, a] i (fun _ _ => True) (fun j h => j = i ∧ h.IsTupleIter it a j ∧ h.IsTuple a its.toArray) :=
      ⟨fun j h q => D0.live j h q.2, fun j h h' q k => ⟨q.1, D0.frame j h h' q.2 k⟩, fun j s Q E hj st hQ => absurd st.1 (Nat.ne_of_lt hj),
        fun s Q E st hE => PySem.wpAny_nextOf_tuple_end (A := X.A.in1) (I.ok.hd hc) st.2.1 st.2.2 (by
          have hl2 : its.length ≤ i := by omega
          simp [hl2]) hE⟩
    exact wpAny_pyNext_enum_endD D he (show i = i ∧ s.heap.IsTupleIter it a i ∧ s.heap.IsTuple a its.toArray from ⟨rfl, hit, p⟩) fun h' eb => ⟨rfl, I.turned (t' := s.toks) (fun b o hb q => eb b o hb q) f0 f1 f3 f4 f5⟩
  self := fun A i s Q E st h => by
    obtain ⟨⟨_, he⟩, _⟩ := st
    exact wpAny_pyIter_enum he h
def iEnumA (K : PySem.W.Frag) (ta : TA) : TI := fun σ H R => ta σ H fun vs H1 => ∃ a xs, vs = [.ref a] ∧ ((SqL K H1 a xs ∧ R (IteL K a) H1) ∨ (SqT K H1 a xs ∧ R (IteT K a) H1))
theorem pi_enumA {X : Cx} {e : Expr} {ta : TA} {p pos tpos : Pos} {elts : List Expr} {kk : Nat} (hg : Gl X "enumerate") (hm : X.mg "enumerate" = none) (ha : PA X [e] ta) (hs : starEach [e] X.env = [(false, eval e X.env)] := by rfl) :
    PI X (.Tuple elts kk tpos) (.Call (.Name "enumerate" p) [e] [] pos) (iEnumA X.K ta) := by
  refine ⟨fun pins s σ H R I h => ?_⟩
  refine Call_ (ld_blt I hg hm boot_enumerate (PyProof.Rows.callWith_type1 (thn (ha.run pos pins s σ H _ I h) fun us s1 hq1 => ?_) hs rfl))
  obtain ⟨vs, H1, I1, r1, a, xs, ex, q⟩ := hq1
  subst ex
  obtain ⟨u, rfl, ru⟩ := vals1 r1
  cases ru
  have fpo : ∀ b ∈ [s1.heap.objs.size + 1, s1.heap.objs.size], FpOk X pins H1 b := fun b hb => by
    have e' : b = s1.heap.objs.size + 1 ∨ b = s1.heap.objs.size := by simpa using hb
    have hle : s1.heap.objs.size ≤ b := by
      rcases e' with z | z
      · rw [z]; exact Nat.le_add_right _ _
      · rw [z]; exact Nat.le_refl _
    exact I1.fpOk hle (I1.hok.fresh hle)
  rcases q with ⟨hq, q⟩ | ⟨hq, q⟩
  · obtain ⟨its, rv, pl, hz⟩ := I1.list hq
    refine call_enumerate_list pl.isList fun h' he hit hsz hk => wpAny_pyIter_enum he ?_
    have I2 : Inv X pins σ H1 { s1 with heap := h' } := I1.kept (t' := s1.toks) hk
    exact ⟨s1.heap.objs.size + 1, [s1.heap.objs.size + 1, s1.heap.objs.size], _, _, H1, rfl, I2, turn_enumL a (s1.heap.objs.size + 1) s1.heap.objs.size, ⟨⟨.none, he⟩, hit, Nat.succ_ne_self _⟩, fpo, q⟩
  · obtain ⟨its, rv, pl, hz⟩ := I1.tuple hq
    refine enum_begins1 (PySem.begins_tuple a its.toArray) (show s1.heap.IsTuple a its.toArray from pl) fun h' he hit hsz hk => wpAny_pyIter_enum he ?_
    have I2 : Inv X pins σ H1 { s1 with heap := h' } := I1.kept (t' := s1.toks) hk
    exact ⟨s1.heap.objs.size + 1, [s1.heap.objs.size + 1, s1.heap.objs.size], _, _, H1, rfl, I2, turn_enumT a (s1.heap.objs.size + 1) s1.heap.objs.size, ⟨⟨.none, he⟩, ⟨_, hit, rfl, rfl⟩, Nat.succ_ne_self _⟩, fpo, q⟩
end Nt

/-! enumerate as a loop; remove; dicts; a tuple many times -/
namespace Nt
open PySem PySem.Spec PyProof.Rows L2

/-! ### enumerate -/
def enumD (ds : List D) : List D := ds.zipIdx.map fun p => PyData.tuple [.int (p.2 : Nat), p.1]
theorem enumD_get {ds : List D} {i : Nat} {d : D} (h : (enumD ds)[i]? = some d) : ∃ e, ds[i]? = some e ∧ d = .tuple [.int (i : Nat), e] := by
  unfold enumD at h
  rw [List.getElem?_map, List.getElem?_zipIdx] at h
  cases hd : ds[i]? with
  | none => rw [hd] at h; cases h
  | some e =>
    rw [hd] at h
    simp at h
    exact ⟨e, rfl, h.symm⟩
theorem enumD_len {ds : List D} : (enumD ds).length = ds.length := by unfold enumD; rw [List.length_map, List.length_zipIdx]
def iEn (fs : Mo (List Opd)) : Mo (List D) := fun ρ => match fs ρ with
  | some ([.val (.list ds)], ρ1) => some (enumD ds, ρ1)
  | some ([.val (.tuple ds)], ρ1) => some (enumD ds, ρ1)
  | _ => none
section
variable {K : PySem.W.Frag} {ta : TA} {fs : Mo (List Opd)}
theorem rp_pair {G : Hp} {i : Nat} {x : V} {d : D} {p : Addr} {o : Obj} (ho : o.dict = none) (hp : G p = none) (r : Rp K G x d) : Rp K (upd G p (.frz o (.tup [.int (i : Nat), x]))) (.ref p) (.tuple [.int (i : Nat), d]) :=
  .tup (NdT.of ho) (.cons (.int _) (.cons (r.mono (Sub.new (Sub.refl G) hp)) .nil))
theorem ri_enum (h : RA K ta fs) : RI K (iEnumA K ta) (iEn fs) := fun ρ ds ρ' e σ G H fp S R q => by
  unfold iEn at e
  split at e
  · rename_i xs ρ1 e1
    cases e
    refine h ρ _ _ e1 σ G H fp S _ fun vs G1 H1 fp1 st1 S1 ra => ?_
    cases ra with
    | cons r1 r2 =>
      cases r2
      obtain ⟨a, ws, rfl, g1, p1⟩ := Rp.list' r1
      refine ⟨a, ws, rfl, .inl ⟨SqL.of (S1.sub _ _ g1), q _ G1 H1 fp1 st1 S1 fun G' H' s1 s2 i => ⟨fun d hd => ?_, fun hl => ?_⟩⟩⟩
      · have e2 : H' a = some (.lst ws) := s2 _ _ (s1 _ _ g1)
        obtain ⟨e, he, rfl⟩ := enumD_get hd
        obtain ⟨x, hx, rx⟩ := p1.get he
        refine ⟨⟨ws, x, SqL.of e2, hx⟩, fun y H2 hy => ?_⟩
        obtain ⟨T, z, o, rfl, hT, ho, rfl, hz⟩ := hy
        have := hz ws (SqL.of e2)
        rw [hx] at this
        cases this
        exact .inr ⟨T, _, hT, rfl, rp_pair ho (s2.none hT) (rx.mono s1)⟩
      · exact ⟨ws, SqL.of (s2 _ _ (s1 _ _ g1)), by rw [p1.length]; rw [enumD_len] at hl; exact hl⟩
  · rename_i xs ρ1 e1
    cases e
    refine h ρ _ _ e1 σ G H fp S _ fun vs G1 H1 fp1 st1 S1 ra => ?_
    cases ra with
    | cons r1 r2 =>
      cases r2
      obtain ⟨a, ws, rfl, g1, p1⟩ := Rp.tuple' r1
      refine ⟨a, ws, rfl, .inr ⟨S1.sub.sqT g1, q _ G1 H1 fp1 st1 S1 fun G' H' s1 s2 i => ⟨fun d hd => ?_, fun hl => ?_⟩⟩⟩
      · have e2 : SqT K H' a ws := s2.sqT (s1.sqT g1)
        obtain ⟨e, he, rfl⟩ := enumD_get hd
        obtain ⟨x, hx, rx⟩ := p1.get he
        refine ⟨⟨ws, x, e2, hx⟩, fun y H2 hy => ?_⟩
        obtain ⟨T, z, o, rfl, hT, ho, rfl, hz⟩ := hy
        have := hz ws e2
        rw [hx] at this
        cases this
        exact .inr ⟨T, _, hT, rfl, rp_pair ho (s2.none hT) (rx.mono s1)⟩
      · exact ⟨ws, s2.sqT (s1.sqT g1), by rw [p1.length]; rw [enumD_len] at hl; exact hl⟩
  · cases e
end

/-! ### x.remove(k), whole numbers -/
def ints? : List D → Option (List Int)
  | [] => some []
  | .int i :: r => (ints? r).map (i :: ·)
  | _ => none
theorem ints?_ok : ∀ {ds : List D} {ns : List Int}, ints? ds = some ns → ds = ns.map PyData.int
  | [], _, h => by cases h; rfl
  | .int i :: r, _, h => by
    unfold ints? at h
    cases hr : ints? r with
    | none => rw [hr] at h; cases h
    | some ms =>
      rw [hr] at h
      cases h
      rw [ints?_ok hr] <;> rfl
  | .none :: _, _, h => by cases h
  | .bool _ :: _, _, h => by cases h
  | .str _ :: _, _, h => by cases h
  | .list _ :: _, _, h => by cases h
  | .tuple _ :: _, _, h => by cases h
  | .dict _ :: _, _, h => by cases h
def mRem (i : Nat) (f : Mo D) : Mo D := fun ρ => match ρ[i]? with
  | some (.ow 1 (.list _)) => match f ρ with
    | some (.int k, ρ1) => match ρ1[i]? with
      | some (.ow 1 (.list ds)) => match ints? ds with
        | some ns => if k ∈ ns then some (.none, ρ1.set i (.ow 1 (.list ((ns.erase k).map PyData.int)))) else none
        | none => none
      | _ => none
    | _ => none
  | _ => none
section
variable {K : PySem.W.Frag} {te : TE} {f : Mo D}
theorem re_remove {i : Nat} {W : WX} (h : RE K te f) : RE K (tRemX K W (tVar i) te) (mRem i f) := fun ρ d ρ' e σ G H fp S Q q => by
  unfold mRem at e
  split at e
  · rename_i ds0 e0
    split at e
    · rename_i k ρ1 e1
      split at e
      · rename_i ds e2
        split at e
        · rename_i ns e3
          split at e
          · rename_i hk
            cases e
            have hds := ints?_ok e3
            subst hds
            obtain ⟨a, ea, ty⟩ := S.isL e0
            refine ⟨.ref a, ea, ty, h ρ _ _ e1 σ G H fp S _ fun y G1 H1 fp1 st1 S1 r1 => ?_⟩
            cases r1.int'
            obtain ⟨a', vs, ea', ef, h1, r⟩ := S1.lst1 e2
            rw [ea] at ea'
            cases ea'
            have hvs := r.ints
            subst hvs
            obtain ⟨S', st'⟩ := S1.set1 st1 e2 ea ef (RpA.ofInts (ns.erase k))
            exact ⟨a, ns, k, rfl, rfl, h1, fun _ => q .non G1 _ _ st' S' .non, fun hn => absurd hk hn⟩
          · cases e
        · cases e
      · cases e
    · cases e
  · cases e
end

/-! ### dicts, keys whole numbers or texts -/
def kO : D → Option Key
  | .int i => some (.inl i)
  | .str x => some (.inr x)
  | _ => none
theorem kO_kD (k : Key) : kO (kD k) = some k := by cases k <;> rfl
theorem kO_rp {K : PySem.W.Frag} {G : Hp} {v : V} {d : D} {k : Key} (h : kO d = some k) (r : Rp K G v d) : v = kV k := by
  cases r <;> simp only [kO, Option.some.injEq, reduceCtorEq] at h <;> subst h <;> rfl
def kIs (k : Key) (p : D × D) : Bool := decide (kO p.1 = some k)
def lookD (ds : List (D × D)) (k : Key) : Option D := (ds.find? (kIs k)).map (·.2)
def putD (ds : List (D × D)) (k : Key) (d : D) : List (D × D) := if ds.any (kIs k) then ds.map (fun p => if kIs k p then (p.1, d) else p) else ds ++ [(kD k, d)]
section
variable {K : PySem.W.Frag} {G : Hp}
theorem kIs_kD {k k' : Key} {d : D} {v : V} : kIs k (kD k', d) = decide ((k', v).1 = k) := by
  unfold kIs
  rw [kO_kD]
  by_cases h : k' = k
  · simp [h]
  · simp [h]
theorem RpK.look : ∀ {ks : List (Key × V)} {ds : List (D × D)} {k : Key}, RpK K G ks ds → match lookD ds k with
    | some d => ∃ v, valV ks k = some v ∧ Rp K G v d
    | none => valV ks k = none
  | _, _, k, .nil => rfl
  | _, _, k, @RpK.cons _ _ k' v r d rs h t => by
    unfold lookD
    rw [List.find?_cons, kIs_kD (v := v)]
    by_cases e : k' = k
    · subst e
      simp only [decide_true, Option.map_some]
      exact ⟨v, valV_pos rfl, h⟩
    · simp only [e, decide_false]
      have := RpK.look (k := k) t
      unfold lookD at this
      rw [valV_neg (show ¬ ((k', v) : Key × V).1 = k from e)]
      exact this
theorem RpK.any : ∀ {ks : List (Key × V)} {ds : List (D × D)} {k : Key}, RpK K G ks ds → ds.any (kIs k) = ks.any fun kv => decide (kv.1 = k)
  | _, _, k, .nil => rfl
  | _, _, k, @RpK.cons _ _ k' v r d rs h t => by
    rw [List.any_cons, List.any_cons, RpK.any (k := k) t, kIs_kD (v := v)]
theorem RpK.repl : ∀ {ks : List (Key × V)} {ds : List (D × D)} {k : Key} {y : V} {e : D}, RpK K G ks ds → Rp K G y e → RpK K G (ks.map fun kv => if kv.1 = k then (kv.1, y) else kv) (ds.map fun p => if kIs k p then (p.1, e) else p)
  | _, _, k, _, _, .nil, _ => .nil
  | _, _, k, y, e, @RpK.cons _ _ k' v r d rs h t, q => by
    rw [List.map_cons, List.map_cons, kIs_kD (v := v)]
    by_cases z : k' = k
    · simp only [z, decide_true, if_true]
      exact .cons q (RpK.repl t q)
    · simp only [z, decide_false, if_false]
      exact .cons h (RpK.repl t q)
theorem RpK.append : ∀ {ks ls : List (Key × V)} {ds es : List (D × D)}, RpK K G ks ds → RpK K G ls es → RpK K G (ks ++ ls) (ds ++ es)
  | _, _, _, _, .nil, s => s
  | _, _, _, _, .cons h r, s => .cons h (RpK.append r s)
theorem RpK.put {ks : List (Key × V)} {ds : List (D × D)} {k : Key} {y : V} {e : D} (r : RpK K G ks ds) (q : Rp K G y e) : RpK K G (putK ks k y) (putD ds k e) := by
  unfold putK putD
  rw [r.any]
  split
  · exact r.repl q
  · exact r.append (.cons q .nil)
def mergeD (ds : List (D × D)) : List (Key × D) → List (D × D) := List.foldl (fun acc p => putD acc p.1 p.2) ds
/-- keys and readings -/
inductive RpM (K : PySem.W.Frag) (G : Hp) : List (Key × V) → List (Key × D) → Prop
  | nil : RpM K G [] []
  | cons {k : Key} {v : V} {d : D} {r : List (Key × V)} {s : List (Key × D)} : Rp K G v d → RpM K G r s → RpM K G ((k, v) :: r) ((k, d) :: s)
theorem RpK.merge {ks : List (Key × V)} {ds : List (D × D)} {more : List (Key × V)} {ms : List (Key × D)} (r : RpK K G ks ds) (m : RpM K G more ms) : RpK K G (mergeK ks more) (mergeD ds ms) := by
  induction m generalizing ks ds with
  | nil => exact r
  | cons h t ih => exact ih (r.put h)
def keyed : List (D × D) → Option (List (Key × D))
  | [] => some []
  | (a, d) :: r => match kO a, keyed r with
    | some k, some s => some ((k, d) :: s)
    | _, _ => none
theorem RpK.keyed : ∀ {ks : List (Key × V)} {ds : List (D × D)}, RpK K G ks ds → ∃ ms, Nt.keyed ds = some ms ∧ RpM K G ks ms
  | _, _, .nil => ⟨[], rfl, .nil⟩
  | _, _, @RpK.cons _ _ k' v r d rs h t => by
    obtain ⟨ms, e1, e2⟩ := RpK.keyed t
    refine ⟨(k', d) :: ms, ?_, .cons h e2⟩
    unfold Nt.keyed
    rw [kO_kD, e1]
theorem RpM.length {ks : List (Key × V)} {ms : List (Key × D)} (m : RpM K G ks ms) : ks.length = ms.length := by
  induction m with
  | nil => rfl
  | cons _ _ ih => rw [List.length_cons, List.length_cons, ih]
end
/-- d[k] -/
def rDG : R2 := fun x y H Q => ∃ a v, x = .ref a ∧ DGet H a y (some v) ∧ Q v H
def rDI : R2 := fun y x H Q => ∃ a o, x = .ref a ∧ DGet H a y o ∧ Q (.bl o.isSome) H
def rDN : R2 := fun y x H Q => ∃ a o, x = .ref a ∧ DGet H a y o ∧ Q (.bl (!o.isSome)) H
def dDG (d k : D) : Option D := match d, kO k with
  | .dict ds, some k => lookD ds k
  | _, _ => none
def dDI (neg : Bool) (k d : D) : Option D := match d, kO k with
  | .dict ds, some k => some (.bool (if neg then !(lookD ds k).isSome else (lookD ds k).isSome))
  | _, _ => none
section
variable {K : PySem.W.Frag} {ta tb : TE} {fa fb : Mo Opd}
theorem R1.key {G H : Hp} {v : V} {d : D} {k : Key} (h : kO d = some k) (r : R1 K G H v d) : v = kV k := by
  cases r with
  | rp r => exact kO_rp h r
  | lst => cases h
  | dic => cases h
theorem re_dget (ha : RO K ta fa) (hb : RO K tb fb) : RE K (tDGet ta tb) (m2 rs1 dDG fa fb) := re_opN (r := rDG) ha hb fun G H v w d e z s r1 r2 hz Q q1 q2 => by
  unfold dDG at hz
  split at hz
  · rename_i ds k hk
    obtain ⟨a, ks, rfl, h1, rk⟩ := r1.dict s
    have q := rk.look (k := k)
    rw [hz] at q
    obtain ⟨v', hv, rv⟩ := q
    rw [r2.key hk]
    exact ⟨a, v', rfl, by rw [← hv]; exact DGet.k h1, q1 _ rv⟩
  · cases hz
theorem re_din (ha : RO K ta fa) (hb : RO K tb fb) : RE K (tDIn ta tb) (m2 rs (dDI false) fa fb) := re_op (r := rDI) ha hb fun H v w d e z r1 r2 hz => by
  unfold dDI at hz
  split at hz
  · rename_i ds k hk
    cases hz
    obtain ⟨a, ks, rfl, h1, rk⟩ := r2.dict'
    have q := rk.look (k := k)
    rw [kO_rp hk r1]
    refine ⟨_, rfl, fun Q q' => ⟨a, valV ks k, rfl, DGet.k h1, ?_⟩⟩
    cases hl : lookD ds k with
    | none => rw [hl] at q q'; simp only at q; rw [q]; exact q'
    | some d => rw [hl] at q q'; obtain ⟨v', hv, _⟩ := q; rw [hv]; exact q'
  · cases hz
theorem re_dnotin (ha : RO K ta fa) (hb : RO K tb fb) : RE K (tDNotIn ta tb) (m2 rs (dDI true) fa fb) := re_op (r := rDN) ha hb fun H v w d e z r1 r2 hz => by
  unfold dDI at hz
  split at hz
  · rename_i ds k hk
    cases hz
    obtain ⟨a, ks, rfl, h1, rk⟩ := r2.dict'
    have q := rk.look (k := k)
    rw [kO_rp hk r1]
    refine ⟨_, rfl, fun Q q' => ⟨a, valV ks k, rfl, DGet.k h1, ?_⟩⟩
    cases hl : lookD ds k with
    | none => rw [hl] at q q'; simp only at q; rw [q]; exact q'
    | some d => rw [hl] at q q'; obtain ⟨v', hv, _⟩ := q; rw [hv]; exact q'
  · cases hz
/-- {} -/
theorem rw_dnew : RW K 1 tDNewK (mC (.dict [])) := fun ρ d ρ' e σ G H fp S Q q => by
  cases e
  refine fun p hp => q _ G _ fp [p] (Stp.new hp) (S.new hp) (.inr (.inr ⟨p, [], [], [], rfl, rfl, rfl, upd_same, rfl, .nil⟩)) ⟨by simp, fun a ha => ?_, fun a ha i hi => ?_, fun a ha => ?_⟩
  · rw [List.mem_singleton.mp ha]; exact S.sub.none hp
  · rw [List.mem_singleton.mp ha] at hi; exact S.live hi hp
  · rw [List.mem_singleton.mp ha]; exact .inr hp
/-- dict(pairs) -/
def pairsD : List D → Option (List (Key × D))
  | [] => some []
  | .tuple [a, d] :: r => match kO a, pairsD r with
    | some k, some s => some ((k, d) :: s)
    | _, _ => none
  | _ => none
theorem RpA.pairs {G : Hp} : ∀ {vs : List V} {ds : List D} {ms : List (Key × D)}, RpA K G vs ds → pairsD ds = some ms → ∃ ps kvs, vs = ps.map V.ref ∧ Paired (fun p kv => SqT K G p [kV kv.1, kv.2]) ps kvs ∧ RpM K G kvs ms
  | _, [], ms, .nil, e => by cases e; exact ⟨[], [], rfl, .nil, .nil⟩
  | _, d :: ds, ms, .cons h t, e => by
    unfold pairsD at e
    split at e
    · rename_i e1; cases e1
    · rename_i a d' r e1
      cases e1
      split at e
      · rename_i k s e2 e3
        cases e
        obtain ⟨ps, kvs, rfl, hp, hm⟩ := RpA.pairs t e3
        obtain ⟨b, ws, rfl, hb, rb⟩ := h.tuple'
        cases rb with
        | cons r1 r2 =>
          cases r2 with
          | cons r2 r3 =>
            cases r3
            rw [kO_rp e2 r1] at hb
            exact ⟨b :: ps, (k, _) :: kvs, rfl, .cons hb hp, .cons r2 hm⟩
      · cases e
    · cases e
def dDict : List D → Option D
  | [.list ds] => (pairsD ds).map fun ms => .dict (mergeD [] ms)
  | _ => none
def rDct (K : PySem.W.Frag) : List V → Hp → VK → Prop := fun xs H Q => ∃ (a : Addr) (ps : List Addr) (kvs : List (Key × V)), xs = [.ref a] ∧ SqL K H a (ps.map V.ref) ∧ Paired (fun p kv => SqT K H p [kV kv.1, kv.2]) ps kvs ∧
    ∀ p, H p = none → Q (.ref p) (upd H p (.dK (mergeK [] kvs)))
theorem Paired.imp' {α β : Type} {R S : α → β → Prop} (f : ∀ a b, R a b → S a b) : ∀ {xs : List α} {ys : List β}, Paired R xs ys → Paired S xs ys
  | _, _, .nil => .nil
  | _, _, .cons h t => .cons (f _ _ h) (Paired.imp' f t)
theorem re_dict {t : TA} {fs : Mo (List Opd)} (h : RA K t fs) : RE K (tCB (rDct K) t) (mCB rs1 dDict fs) := re_cbN h fun G H vs ds z s r hz Q q1 q2 => by
  unfold dDict at hz
  split at hz
  · rename_i xs
    cases hp : pairsD xs with
    | none => rw [hp] at hz; cases hz
    | some ms =>
      rw [hp] at hz
      cases hz
      cases r with
      | cons r1 r2 =>
        cases r2
        obtain ⟨a, ws, rfl, h1, p1⟩ := r1.list s
        obtain ⟨ps, kvs, rfl, pp, hm⟩ := p1.pairs hp
        refine ⟨a, ps, kvs, rfl, SqL.of h1, Paired.imp' (fun p kv h => s.sqT h) pp, fun p hn => q2 p _ _ hn ?_⟩
        exact .dic upd_same ((RpK.merge .nil hm).mono (Sub.new (Sub.refl G) (s.none hn)))
  · cases hz
end

/-! ### a dict of one's own -/
section
variable {K : PySem.W.Frag}
theorem Ow.dic1 {G H : Hp} {v : V} {ds : List (D × D)} {f : List Addr} (h : Ow K G H 1 v (.dict ds) f) : ∃ a ks, v = .ref a ∧ f = [a] ∧ H a = some (.dK ks) ∧ RpK K G ks ds := by
  obtain ⟨a, ks, g, e1, e2, e3, e4, e5⟩ := h.dicN
  obtain ⟨e, r⟩ := e5.nil0
  subst e
  exact ⟨a, ks, e1, e2, e3, rpK_of e4 r⟩
theorem Sat.dic1 {ρ : Env} {σ : L2.St} {G H : Hp} {fp : Fp} {i : Nat} {ds : List (D × D)} (S : Sat K ρ σ G H fp) (e : ρ[i]? = some (.ow 1 (.dict ds))) : ∃ a ks, σ[i]? = some (some (.ref a)) ∧ fp i = [a] ∧ H a = some (.dK ks) ∧ RpK K G ks ds := by
  obtain ⟨v, e1, ow⟩ := S.owd e
  obtain ⟨a, vs, e2, e3, e4, e5⟩ := ow.dic1
  subst e2
  exact ⟨a, vs, e1, e3, e4, e5⟩
/-- its items change -/
theorem Sat.redic {ρ : Env} {σ : L2.St} {G H : Hp} {fp : Fp} {i : Nat} {ds es : List (D × D)} {a : Addr} {us : List (Key × V)} (S : Sat K ρ σ G H fp) (e : ρ[i]? = some (.ow 1 (.dict ds))) (ea : σ[i]? = some (some (.ref a))) (ef : fp i = [a])
    (r : RpK K G us es) : Sat K (ρ.set i (.ow 1 (.dict es))) σ G (upd H a (.dK us)) (fset fp i [a]) := by
  have hi : i < ρ.length := (List.getElem?_eq_some_iff.mp e).1
  have ha : a ∈ fp i := by rw [ef]; exact List.mem_cons_self
  have Sa := S.un1 i
  have Sb : Sat K (ρ.set i .un) σ G (upd H a (.dK us)) (fset fp i []) := Sa.keep (Sub.refl G) (fun j b hb => by
    by_cases hj : j = i
    · subst hj; rw [fset_same] at hb; cases hb
    · rw [fset_ne hj] at hb
      exact upd_ne fun z => hj (S.dis j i b hb (by rw [z]; exact ha))) (fun j b hb => Sa.fr j b hb) fun b o q => by
    rw [upd_ne fun z => by rw [z, S.fr i a ha] at q; cases q]
    exact S.sub b o q
  have Sc := Sb.swap (s := .ow 1 (.dict es)) (f := [a]) (i := i) (by rw [List.length_set]; exact hi) ⟨.ref a, ea, .inr (.inr ⟨a, us, es, [], rfl, rfl, rfl, upd_same, (rpK_keys r).1, (rpK_keys r).2.owL0⟩)⟩ (by simp)
    (fun b hb => by rw [List.mem_singleton.mp hb]; exact S.fr i a ha) (fun j b hj hb hz => by
      rw [fset_ne hj] at hb
      rw [List.mem_singleton.mp hz] at hb
      exact hj (S.dis j i a hb ha))
  rw [List.set_set] at Sc
  have ff : fset (fset fp i []) i [a] = fset fp i [a] := by
    funext j
    by_cases hj : j = i
    · subst hj; rw [fset_same, fset_same]
    · rw [fset_ne hj, fset_ne hj, fset_ne hj]
  rw [ff] at Sc
  exact Sc
/-- d[k] = e -/
def sDPut1 (i : Nat) (f : Mo D) (fj : Env → Option D) : MoS := fun ρ => match f ρ with
  | some (d, ρ1) => match ρ1[i]?, (fj ρ1).bind kO with
    | some (.ow 1 (.dict ds)), some k => if ds.length < 16777216 then some (.nx (ρ1.set i (.ow 1 (.dict (putD ds k d))))) else none
    | _, _ => none
  | none => none
theorem rs_dput {n i : Nat} {P : List Nat} {te tj : TE} {f : Mo D} {fj : Env → Option D} (h : RE K te f) (hj : RH K tj fj) : RS K n P (sDPut (tVar i) tj te) (sDPut1 i f fj) := fun ρ o e σ G H fp S Dn q => by
  unfold sDPut1 at e
  split at e
  · rename_i d ρ1 e1
    split at e
    · rename_i ds k e2 e3
      split at e
      · rename_i hl
        cases e
        have hsz : sizeLine = 16777216 := sizeLine_eq
        obtain ⟨dk, e4, e5⟩ := Option.bind_eq_some_iff.mp e3
        refine h ρ _ _ e1 σ G H fp S _ fun v G1 H1 fp1 st1 S1 r1 => ?_
        obtain ⟨a, ks, ea, ef, h1, r⟩ := S1.dic1 e2
        refine ⟨.ref a, ea, hj ρ1 _ e4 σ G1 H1 fp1 S1 _ fun x rx => ?_⟩
        rw [kO_rp e5 rx]
        refine ⟨a, _, rfl, DPut.k h1 (by rw [r.length]; omega), q σ G1 _ _ (st1.relist (g' := []) (by rw [ef]; exact List.mem_cons_self) fun _ h => (nomatch h)) (S1.redic e2 ea ef (r.put r1)) fun _ _ => rfl⟩
      · cases e
    · cases e
  · cases e
/-- d.update(e) -/
def rDUpd : V → List V → Hp → VK → Prop := fun x vs H Q => ∃ (a b : Addr) (kvs more : List (Key × V)), x = .ref a ∧ vs = [.ref b] ∧ a ≠ b ∧ H a = some (.dK kvs) ∧ H b = some (.dK more) ∧ kvs.length + more.length ≤ sizeLine ∧ Q .non (upd H a (.dK (mergeK kvs more)))
theorem mt_dupdate {X : Cx} : MtR X "dict.update" rDUpd := by
  intro pins s σ H x vs v us Q I rx rv h
  obtain ⟨a, b, kvs, more, ex, ev, hne, e1, e2, hz, q⟩ := h
  subst ex ev
  obtain rfl : v = Value.ref a := rx
  obtain ⟨u, rfl, ru⟩ := vals1 rv
  obtain rfl : u = Value.ref b := ru
  obtain ⟨z1, hd1, vs1, rel1, dd1⟩ := dk_of I.hok e1
  obtain ⟨z2, hd2, vs2, rel2, dd2⟩ := dk_of I.hok e2
  have hz' : vs1.length + vs2.length ≤ sizeLine := by rw [← rel1.length, ← rel2.length]; exact hz
  refine call_meetsIn PySem.F.slot_dict_update dd1.typeIs PySem.F.entry_dict_update (PySem.F.args_dict_update_2 _ _) (meets_dict_update (mixKind X.prog X.w) a b hne hd2) ⟨vs1, vs2, dd1, dd2, hz', fun h' dd' _ hs => ?_⟩
  have he : ∃ q, h'.get? a = some q := let ⟨q, _, _, hq, _⟩ := dd'; ⟨q, hq⟩
  have hl : (mergeK kvs more).length ≤ sizeLine := Nat.le_trans (length_mergeK more kvs) hz
  exact ⟨.non, _, d_write I (by rw [e1]; exact True.intro) hs he (dk_new hl hd1 (KV.merge rel2 rel1) dd'), rfl, q⟩
def mUpd (i : Nat) (f : Mo D) : Mo D := fun ρ => match ρ[i]? with
  | some (.ow 1 (.dict _)) => match f ρ with
    | some (.dict es, ρ1) => match ρ1[i]?, keyed es with
      | some (.ow 1 (.dict ds)), some ms => if ds.length + ms.length ≤ 16777216 then some (.none, ρ1.set i (.ow 1 (.dict (mergeD ds ms)))) else none
      | _, _ => none
    | _ => none
  | _ => none
theorem re_update {i : Nat} {te : TE} {f : Mo D} (h : RE K te f) : RE K (tBM K "dict" rDUpd (tVar i) (tCons te tNil)) (mUpd i f) := fun ρ d ρ' e σ G H fp S Q q => by
  unfold mUpd at e
  split at e
  · rename_i ds0 e0
    split at e
    · rename_i es ρ1 e1
      split at e
      · rename_i ds ms e2 e3
        split at e
        · rename_i hl
          cases e
          have hsz : sizeLine = 16777216 := sizeLine_eq
          obtain ⟨a, ks0, ea, ef0, h0, r0⟩ := S.dic1 e0
          refine ⟨.ref a, ea, .inr (.inr (.inl ⟨rfl, .inl ⟨ks0, h0⟩⟩)), h ρ _ _ e1 σ G H fp S _ fun y G1 H1 fp1 st1 S1 r1 => ?_⟩
          obtain ⟨b, ks1, rfl, g1, rk1⟩ := r1.dict'
          obtain ⟨a', ks, ea', ef, h1, r⟩ := S1.dic1 e2
          rw [ea] at ea'
          cases ea'
          obtain ⟨ms', e4, rm⟩ := rk1.keyed
          rw [e3] at e4
          cases e4
          have ga := S1.fr i a (by rw [ef]; exact List.mem_cons_self)
          refine ⟨a, b, ks, ks1, rfl, rfl, fun z => ?_, h1, S1.sub _ _ g1, by rw [r.length, rm.length, hsz]; exact hl, q .non G1 _ _ (st1.relist (g' := []) (by rw [ef]; exact List.mem_cons_self) fun _ h => (nomatch h)) (S1.redic e2 ea ef (r.merge rm)) .non⟩
          subst z
          rw [ga] at g1
          cases g1
        · cases e
      · cases e
    · cases e
  · cases e
end
end Nt

/-! a tuple many times; the head of a law whose defs run without guards -/
namespace Nt
open PySem PySem.Spec PyProof.Rows L2

/-- the tuple itself: it is empty, or once -/
theorem tuple_mulS (l : Addr) (items : Array Value) (n : Nat) (dd : Option Addr) (sl : Array (Option Value)) (x : Int) (u : Tok) (c0 : (decide (x < -(2 ^ 63)) || decide (x ≥ 2 ^ 63)) = false) (c1 : (items.isEmpty || x == 1) = true) :
    Meets (Builtin.«tuple.__mul__» ⟨[.ref l, .int x u], []⟩) (fun _ R s => s.heap.get? l = some { cls := .type "tuple", dict := dd, data := .seq items n, slots := sl } ∧ R (.ok (.ret (Value.ref l))) s) :=
  .of_wp fun prog w A R s h => by
    obtain ⟨hp, g, d, tk, os⟩ := s
    obtain ⟨hl, h⟩ := h
    have f1 := AutoSeq1.idx_int
    wp_walk using wpAny_loadPart' hl
    repeat (first
      | (refine wpAny_ite_false (decide_eq_false (by rw [c0]; exact Bool.false_ne_true)) ?_; wp_walk using wpAny_loadPart' hl)
      | (refine wpAny_ite_true (decide_eq_true c1) ?_; wp_walk using wpAny_loadPart' hl))
    exact ⟨_, rfl, h⟩
def rRepS (K : PySem.W.Frag) : R2 := fun x y H Q => ∃ l k xs, x = .ref l ∧ y = .int k ∧ SqT K H l xs ∧ (xs = [] ∨ k = 1) ∧ -1000 ≤ k ∧ k ≤ 1000 ∧ Q (.ref l) H
theorem op_repS {X : Cx} : OpR X (binaryOp .Mult) (rRepS X.K) := by
  intro pins s σ H x y v u Q I rx ry h
  obtain ⟨l, k, xs, rfl, rfl, hT, hne, h1, h2, q⟩ := h
  cases rx
  obtain ⟨t, rfl⟩ := ry
  obtain ⟨its, r, p, hs⟩ := I.tuple hT
  obtain ⟨⟨cls, dd, data, sl⟩, ho, hc, n, hd⟩ := id p
  simp only at hc hd
  subst hc hd
  have hle : its.length = xs.length := r.length.symm
  have hi : (its.toArray.isEmpty || k == 1) = true := by
    rcases hne with z | z
    · subst z
      cases r
      rfl
    · subst z
      rw [beq_self_eq_true, Bool.or_true]
  have c0 : (decide (k < -(2 ^ 63)) || decide (k ≥ 2 ^ 63)) = false := by
    rw [decide_eq_false (by omega), decide_eq_false (by omega)] <;> rfl
  refine wpAny_binaryOp_repeat_ref (T := "tuple") (U := "int") (by decide) ⟨_, ho, rfl⟩ (fun s' => typeIs_int s' k t) noFill_tuple_mul F.fills_int_mul F.slot_int_rmul repeat_tuple F.slot_int_index.lookup
    (call_meets F.slot_int_rmul (typeIs_int s k t) F.entry_int_rmul (F.args_int_rmul_2 _ _) (int_rmul_tuple k t l its.toArray n dd sl)
      ⟨ho, rfl, ⟨_, ho, rfl⟩, call_meets F.slot_tuple_mul ⟨_, ho, rfl⟩ F.entry_tuple_mul (F.args_tuple_mul_2 _ _) (tuple_mulS l its.toArray n dd sl k t c0 hi) ⟨ho, ?_⟩⟩)
  exact ⟨.ref l, _, I, rfl, q⟩
def rRepD (K : PySem.W.Frag) : R2 := rRepS K
theorem op_repD {X : Cx} : OpR X (binaryOp .Mult) (rRepD X.K) := op_repS
def dRep : D → D → Option D
  | .tuple ds, .int k => if k = 1 then some (.tuple ds) else none
  | _, _ => none
theorem RpA.rep {K : PySem.W.Frag} {G : Hp} {vs : List V} {ds : List D} (r : RpA K G vs ds) : ∀ n, RpA K G (List.replicate n vs).flatten (List.replicate n ds).flatten
  | 0 => .nil
  | n + 1 => by
    rw [List.replicate_succ, List.replicate_succ, List.flatten_cons, List.flatten_cons]
    exact r.append (RpA.rep r n)
theorem re_rep {K : PySem.W.Frag} {ta tb : TE} {fa fb : Mo Opd} (ha : RO K ta fa) (hb : RO K tb fb) : RE K (tOp (rRepD K) ta tb) (m2 rs1 dRep fa fb) := re_opN ha hb fun G H v w d e z s r1 r2 hz Q q1 q2 => by
  unfold dRep at hz
  split at hz
  · rename_i ds k
    split at hz
    · rename_i hk
      cases hz
      obtain ⟨a, vs, rfl, h1, g1, p1⟩ := r1.tuple s
      cases r2.int
      subst hk
      exact ⟨a, 1, vs, rfl, rfl, h1, .inr rfl, by decide, by decide, q1 _ (.tup g1 p1)⟩
    · cases hz
  · cases hz

/-! ### the head -/
section
variable {P : Program} {w : World} {K : PySem.W.Frag} {mg mb : Str → Option Value} {k : Nat} {fa a : Addr} {fd : FuncData} {x : Str} {sp : Sp} {s₁ : Shared} {vs : List Value} {ns : List Int}
/-- the abstract heap at the start: the script, or nothing (where it is one of the module's own) -/
theorem start_heap (KX : K.In s₁.heap) (ha : s₁.heap.get? a = some { cls := .type "list", data := .seq vs.toArray }) (hi : IntsAre vs ns) (hl : ns.length ≤ sizeLine) :
    ∃ H0 : Hp, Only H0 ∧ SqL K H0 a (ns.map V.int) ∧ HOk P w H0 s₁.heap ∧ (∀ b, H0 b ≠ none → b = a) ∧ (H0 a ≠ none → K.lookup a = none) := by
  have hv := vals_ints hi
  have hlv := hi.length
  cases hk : K.lookup a with
  | some ob =>
    have g := (KX a ob hk).symm.trans ha
    cases g
    exact ⟨fun _ => none, fun _ => .inl rfl, .inr ⟨_, vs.toArray, _, hk, rfl, rfl, rfl, by rw [List.size_toArray, hlv]; exact hl, by simpa using hv⟩, fun b u z => (nomatch (show (none : Option HO) = some u from z)), fun b z => (z rfl).elim, fun z => (z rfl).elim⟩
  | none =>
    let T : HO := .frz { cls := .type "list", data := .seq vs.toArray } (.lst (ns.map V.int))
    have at_ : (fun b => if b = a then some T else none : Hp) a = some T := if_pos rfl
    have off : ∀ {b : Addr}, b ≠ a → (fun b => if b = a then some T else none : Hp) b = none := fun h => if_neg h
    refine ⟨fun b => if b = a then some T else none, fun b => ?_, .inl (.inr ⟨_, at_⟩), fun b u z => ?_, fun b z => Classical.byContradiction fun h => z (off h), fun _ => rfl⟩
    · rcases Classical.em (b = a) with h | h
      · subst h; exact .inr ⟨_, _, at_⟩
      · exact .inl (off h)
    · rcases Classical.em (b = a) with h | h
      · subst h
        cases at_.symm.trans z
        exact ⟨ha, by rw [List.length_map]; exact hl, vs, _, hv, ha⟩
      · cases (off h).symm.trans z
theorem law_callG (KX : K.In s₁.heap) (hns : s₁.heap.Ns mainGlobals mg) (hb : s₁.heap.Ns builtinsNs mb) (hbb : ∀ y : Str, y ≠ "__name__" → mb y = bootBuiltins y) (hlim : s₁.heap.NoLimit) (hg : s₁.gens = #[])
    (ha : s₁.heap.get? a = some { cls := .type "list", data := .seq vs.toArray }) (hi : IntsAre vs ns) (hl : ns.length ≤ sizeLine) (hr : Room k callerA) (hgd : callerA.guards = some [])
    (F : ∀ base : Heap, K.In base → base.Ns mainGlobals mg → FnG P w K mg base k fa fd [x] sp) (hbind : ∀ (s : Shared) (u : Value), BindsTo s fd ⟨[u], []⟩ [(x, u)])
    (hsp : ∀ H : Hp, Only H → SqL K H a (ns.map V.int) → sp [.ref a] H (fun v _ => v = .bl true) fun _ _ _ => False) :
    codeAny (model P w) callerA (.call (.ref fa) ⟨[.ref a], []⟩) (fun r s' => r = .ok (.ret (.bool true)) ∧ OldK s₁.heap s'.heap ∧ s'.os = s₁.os ∧ AllBare s'.gens) s₁ := by
  obtain ⟨H0, only, hS, hok, hA, hK⟩ := start_heap (P := P) (w := w) KX ha hi hl
  have free : ∀ {b : Addr} {o : Obj} {es : Array DictEntry} {ep : Nat}, s₁.heap.get? b = some o → o.data = .dict es ep → H0 b = none := fun {b o es ep} g d => Classical.byContradiction fun z => by
    have hba := hA b z
    subst hba
    cases ha.symm.trans g
    exact nomatch (show Data.seq vs.toArray _ = Data.dict es ep from d)
  have names : ∀ {b : Addr} {m : Str → Option Value}, s₁.heap.Ns b m → (hidT s₁.heap H0).Ns b m := fun ⟨o, es, ep, g, d, r⟩ => ⟨o, es, ep, hidT_get g (free g d), d, r⟩
  have kin : K.In (hidT s₁.heap H0) := fun b o g => hidT_get (KX b o g) (Classical.byContradiction fun z => by
    have hba := hA b z
    subst hba
    exact nomatch (hK z).symm.trans g)
  have md : Mod K mg (hidT s₁.heap H0) := ⟨kin, names hns, ⟨mb, names hb, hbb⟩, let ⟨mc, l1, l2⟩ := hlim; ⟨mc, names l1, l2⟩⟩
  have en : Env0 P w K mg (hidT s₁.heap H0) callerA [] s₁ H0 := ⟨rfl, md, fun _ _ g => of_hidT g, Nat.le_of_eq (hidT_size _ _), trivial, fun _ hb => (nomatch hb), hok, .of_eq hg⟩
  have go := (F _ kin (names hns)).run callerA [] s₁ H0 ⟨[.ref a], []⟩ [.ref a] [.ref a] _ hgd hr en (hbind s₁ (.ref a)) (.cons rfl .nil) (hsp H0 only hS)
  refine codeAny_mono go fun r s' out => ?_
  cases r with
  | error e => exact False.elim out
  | ok fl =>
    cases fl with
    | next => exact False.elim out
    | brk => exact False.elim out
    | cont => exact False.elim out
    | ret u =>
      obtain ⟨v, H1, os, bare, un, hok1, ru, hv⟩ := out
      obtain rfl : v = .bl true := hv
      obtain rfl : u = Value.bool true := ru
      refine ⟨rfl, OldK.of_keep fun b o g => ?_, os, bare⟩
      rcases only b with z | ⟨ob, xs, z⟩
      · exact un.keep b o g z (fun h => (nomatch h)) (by simp)
      · obtain ⟨g1, _⟩ := hok b _ z
        cases g.symm.trans g1
        exact (hok1 b _ (un.frzs b _ _ z)).1
end
theorem walkG {l : PySem.W.OpenLaw} {n k : Nat} {q : Program} {loose : List Str} {XP : (Str → Option Value) → Heap → Prop} {YP : World → Heap → Prop} {d : DefRec} {K : Params → PySem.W.Frag} {sp : PySem.W.Frag → Sp} {x : Str}
    (hn : l.most = some n) (hn2 : n ≤ sizeLine) (hdf : d.params.defaults = []) (hr : Room k callerA) (hgd : callerA.guards = some [])
    (hY : ∀ (w : World) (h : Heap), YP w h → (K w.params).In h)
    (F : ∀ (w : World) (mg : Str → Option Value) (fa : Addr) (h : Heap), (K w.params).In h → h.Ns mainGlobals mg → mg d.name = some (.ref fa) →
      ∃ fd : FuncData, (∀ (s : Shared) (u : Value), BindsTo s fd ⟨[u], []⟩ [(x, u)]) ∧ ∀ base : Heap, (K w.params).In base → base.Ns mainGlobals mg → FnG l.prog w (K w.params) mg base k fa fd [x] (sp (K w.params)))
    (hsp : ∀ (K : PySem.W.Frag) (H : Hp) (a : Addr) (ns : List Int), ns.length ≤ n → (∀ z ∈ ns, Builtin.Int.intBits z ≤ 1048576) → Only H → SqL K H a (ns.map V.int) → sp K [.ref a] H (fun v _ => v = .bl true) fun _ _ _ => False) :
    PySem.W.WalkO q loose XP YP l.row.toRowW d [] (fun f vs => PySem.call f vs) := by
  refine Att.attach_callB hn hdf fun w s₀ s₁ mg mb fa o pm cd doc a vs ns G Y ho hd hcd hmg hobj hints hlen hbits hg => ?_
  obtain ⟨fd, hb, hF⟩ := F w mg fa _ (hY w _ Y) G.T.g hmg
  exact law_callG (hY w _ Y) G.T.g G.T.b G.T.builtins G.T.nolimit hg hobj hints (Nat.le_trans hlen hn2) hr hgd hF hb (hsp (K w.params) · a ns hlen hbits · ·)
end Nt

/-! one rule for each form of the text: the text and its function at once -/
namespace Nt
open PySem PySem.Spec PyProof.Rows L2

section
variable {X : Cx}
theorem PEx {e : Expr} {t t' : TE} (h : PE X e t) (i : ∀ σ H Q, t' σ H Q → t σ H Q) : PE X e t' := ⟨fun pins s σ H Q I q => h.run pins s σ H Q I (i _ _ _ q)⟩
theorem PTx {e : Expr} {t t' : TT} (h : PT X e t) (i : ∀ σ H Q, t' σ H Q → t σ H Q) : PT X e t' := ⟨fun pins s σ H Q I q => h.run pins s σ H Q I (i _ _ _ q)⟩
theorem PAx {e : List Expr} {t t' : TA} (h : PA X e t) (i : ∀ σ H Q, t' σ H Q → t σ H Q) : PA X e t' := ⟨fun pos pins s σ H Q I q => h.run pos pins s σ H Q I (i _ _ _ q)⟩
theorem PSx {e : Stmt} {t t' : TS} (h : PS X e t) (i : ∀ D σ H, t' D σ H → t D σ H) : PS X e t' := ⟨fun pins s σ H D I q => h.run pins s σ H D I (i _ _ _ q)⟩
theorem PSsx {e : List Stmt} {t t' : TS} (h : PSs X e t) (i : ∀ D σ H, t' D σ H → t D σ H) : PSs X e t' := ⟨fun pins s σ H D I q => h.run pins s σ H D I (i _ _ _ q)⟩
theorem PIx {tg e : Expr} {t t' : TI} (h : PI X tg e t) (i : ∀ σ H R, t' σ H R → t σ H R) : PI X tg e t' := ⟨fun pins s σ H R I q => h.run pins s σ H R I (i _ _ _ q)⟩
end
/-! ### the readings that say just what the functions say -/
section
variable (K : PySem.W.Frag)
def tE (f : Mo D) : TE := fun σ H Q => ∃ ρ d ρ' G fp, f ρ = some (d, ρ') ∧ Sat K ρ σ G H fp ∧ ∀ v G' H' fp', Stp G H fp G' H' fp' → Sat K ρ' σ G' H' fp' → Rp K G' v d → Q v H'
def tO (f : Mo Opd) : TE := fun σ H Q => ∃ ρ d ρ' G fp, f ρ = some (d, ρ') ∧ Sat K ρ σ G H fp ∧ ∀ v G' H' fp', Stp G H fp G' H' fp' → Sat K ρ' σ G' H' fp' → OpdR K G' σ v d → Q v H'
def tW (n : Nat) (f : Mo D) : TE := fun σ H Q => ∃ ρ d ρ' G fp, f ρ = some (d, ρ') ∧ Sat K ρ σ G H fp ∧ ∀ v G' H' fp' f0, Stp G H fp G' H' fp' → Sat K ρ' σ G' H' fp' → Ow K G' H' n v d f0 → Tmp H fp G' fp' f0 → Q v H'
def tT (f : Mo Bool) : TT := fun σ H Q => ∃ ρ d ρ' G fp, f ρ = some (d, ρ') ∧ Sat K ρ σ G H fp ∧ ∀ G' H' fp', Stp G H fp G' H' fp' → Sat K ρ' σ G' H' fp' → Q d H'
def tL (f : Mo (List Opd)) : TA := fun σ H Q => ∃ ρ d ρ' G fp, f ρ = some (d, ρ') ∧ Sat K ρ σ G H fp ∧ ∀ v G' H' fp', Stp G H fp G' H' fp' → Sat K ρ' σ G' H' fp' → OpdsR K G' σ v d → Q v H'
def tH (f : Nt.Env → Option D) : TE := fun σ H Q => ∃ ρ d G fp, f ρ = some d ∧ Sat K ρ σ G H fp ∧ ∀ v, Rp K H v d → Q v H
def tSt (n : Nat) (P : List Nat) (g : MoS) : TS := fun Dn σ H => ∃ ρ o G fp, g ρ = some o ∧ Sat K ρ σ G H fp ∧ OutOk K n P σ G H fp Dn o
def tJ (f : Mo (List D)) : TI := fun σ H R => ∃ ρ ds ρ' G fp, f ρ = some (ds, ρ') ∧ Sat K ρ σ G H fp ∧ ∀ J G' H' fp', Stp G H fp G' H' fp' → Sat K ρ' σ G' H' fp' → Srv K J G' ds → R J H'
variable {K}
theorem xE {f : Mo D} : RE K (tE K f) f := fun ρ d ρ' e σ G H fp S Q q => ⟨ρ, d, ρ', G, fp, e, S, q⟩
theorem xO {f : Mo Opd} : RO K (tO K f) f := fun ρ d ρ' e σ G H fp S Q q => ⟨ρ, d, ρ', G, fp, e, S, q⟩
theorem xW {n : Nat} {f : Mo D} : RW K n (tW K n f) f := fun ρ d ρ' e σ G H fp S Q q => ⟨ρ, d, ρ', G, fp, e, S, q⟩
theorem xT {f : Mo Bool} : RT K (tT K f) f := fun ρ d ρ' e σ G H fp S Q q => ⟨ρ, d, ρ', G, fp, e, S, q⟩
theorem xA {f : Mo (List Opd)} : RA K (tL K f) f := fun ρ d ρ' e σ G H fp S Q q => ⟨ρ, d, ρ', G, fp, e, S, q⟩
theorem xH {f : Nt.Env → Option D} : RH K (tH K f) f := fun ρ d e σ G H fp S Q q => ⟨ρ, d, G, fp, e, S, q⟩
theorem xS {n : Nat} {P : List Nat} {g : MoS} : RS K n P (tSt K n P g) g := fun ρ o e σ G H fp S Dn q => ⟨ρ, o, G, fp, e, S, q⟩
theorem xI {f : Mo (List D)} : RI K (tJ K f) f := fun ρ ds ρ' e σ G H fp S R q => ⟨ρ, ds, ρ', G, fp, e, S, q⟩
end
/-! ### text and function -/
section
variable (X : Cx)
abbrev GE (e : Expr) (f : Mo D) : Prop := PE X e (tE X.K f)
abbrev GO (e : Expr) (f : Mo Opd) : Prop := PE X e (tO X.K f)
abbrev GW (n : Nat) (e : Expr) (f : Mo D) : Prop := PE X e (tW X.K n f)
abbrev GT (e : Expr) (f : Mo Bool) : Prop := PT X e (tT X.K f)
abbrev GV (e : Expr) (f : Mo Bool) : Prop := PW X e (tT X.K f)
abbrev GA (e : List Expr) (f : Mo (List Opd)) : Prop := PA X e (tL X.K f)
abbrev GH (e : Expr) (f : Nt.Env → Option D) : Prop := PE X e (tH X.K f)
abbrev GS (n : Nat) (P : List Nat) (st : Stmt) (g : MoS) : Prop := PS X st (tSt X.K n P g)
abbrev GB (n : Nat) (P : List Nat) (st : List Stmt) (g : MoS) : Prop := PSs X st (tSt X.K n P g)
abbrev GI (tg e : Expr) (f : Mo (List D)) : Prop := PI X tg e (tJ X.K f)
def GG (tg : Expr) (T : List Nat) (g : TG) (f : D → Nt.Env → Option Nt.Env) : Prop := PG X tg g ∧ RG X.K T g f
def GGs (tg : List Expr) (T : List Nat) (g : TGs) (f : List D → Nt.Env → Option Nt.Env) : Prop := PGs X tg g ∧ RGs X.K T g f
/-- what the rules need of the context -/
structure Cok (k : Nat) : Prop where
  calm : X.calm = true
  nd : X.N.Nodup
  gd : X.A.guards = some []
  room : Room k X.A
end
section
variable {X : Cx} {k n : Nat}
theorem Cok.un (c : Cok X k) : X.A.units + 200 < cLine := by have := c.room.un; omega
theorem Cok.blk (c : Cok X k) (s : Shared) (H : Hp) (sc : Scope) (ce : PySem.Env) (fp : List Addr) : Cok (X.blk s H sc ce fp) k := ⟨c.calm, c.nd, c.gd, c.room⟩
variable {e a b c : Expr} {es : List Expr} {pos p p2 p3 : Pos} {t ta : TE} {f fa fb fc : Mo D} {oa ob oc : Mo Opd} {fs : Mo (List Opd)}
theorem mkE (h : PE X e t) (r : RE X.K t f) : GE X e f := PEx h fun σ H Q ⟨ρ, d, ρ', G, fp, q, S, k⟩ => r ρ d ρ' q σ G H fp S Q k
theorem mkO {f : Mo Opd} (h : PE X e t) (r : RO X.K t f) : GO X e f := PEx h fun σ H Q ⟨ρ, d, ρ', G, fp, q, S, k⟩ => r ρ d ρ' q σ G H fp S Q k
theorem mkW (h : PE X e t) (r : RW X.K n t f) : GW X n e f := PEx h fun σ H Q ⟨ρ, d, ρ', G, fp, q, S, k⟩ => r ρ d ρ' q σ G H fp S Q k
theorem mkT {t : TT} {f : Mo Bool} (h : PT X e t) (r : RT X.K t f) : GT X e f := PTx h fun σ H Q ⟨ρ, d, ρ', G, fp, q, S, k⟩ => r ρ d ρ' q σ G H fp S Q k
theorem mkV {t : TT} {f : Mo Bool} (h : PW X e t) (r : RT X.K t f) : GV X e f := ⟨fun wh pins s σ H Q I ⟨ρ, d, ρ', G, fp, q, S, k⟩ => h.run wh pins s σ H Q I (r ρ d ρ' q σ G H fp S Q k)⟩
theorem mkA {t : TA} (h : PA X es t) (r : RA X.K t fs) : GA X es fs := PAx h fun σ H Q ⟨ρ, d, ρ', G, fp, q, S, k⟩ => r ρ d ρ' q σ G H fp S Q k
theorem mkHh {f : Nt.Env → Option D} (h : PE X e t) (r : RH X.K t f) : GH X e f := PEx h fun σ H Q ⟨ρ, d, G, fp, q, S, k⟩ => r ρ d q σ G H fp S Q k
theorem mkS {P : List Nat} {st : Stmt} {t : TS} {g : MoS} (h : PS X st t) (r : RS X.K n P t g) : GS X n P st g := PSx h fun D σ H ⟨ρ, o, G, fp, q, S, k⟩ => r ρ o q σ G H fp S D k
theorem mkB {P : List Nat} {st : List Stmt} {t : TS} {g : MoS} (h : PSs X st t) (r : RS X.K n P t g) : GB X n P st g := PSsx h fun D σ H ⟨ρ, o, G, fp, q, S, k⟩ => r ρ o q σ G H fp S D k
theorem mkI {tg : Expr} {t : TI} {f : Mo (List D)} (h : PI X tg e t) (r : RI X.K t f) : GI X tg e f := PIx h fun σ H R ⟨ρ, ds, ρ', G, fp, q, S, k⟩ => r ρ ds ρ' q σ G H fp S R k
/-! ### between the kinds -/
theorem eW (h : GW X n e f) : GE X e f := mkE h (re_of_rw xW)
theorem w0 (h : GE X e f) : GW X 0 e f := mkW h (rw0_of_re xE)
theorem oE (h : GE X e f) : GO X e (mV f) := mkO h (ro_of_re xE)
theorem eH {f : Nt.Env → Option D} (h : GH X e f) : GE X e (mH f) := mkE h (re_of_rh xH)
/-! ### names, constants -/
variable {i : Nat} {x : Str}
theorem g_name (i : Nat) (hN : X.N[i]? = some x) (hv : Vis X.env.scope x) (hd : (x == ("__debug__" : Str)) = false := by decide) (hcd : (x == ("__classdict__" : Str)) = false := by decide) : GE X (.Name x p) (mName i) := mkE (pe_var hN hv hd hcd) re_name
theorem o_name (i : Nat) (hN : X.N[i]? = some x) (hv : Vis X.env.scope x) (hd : (x == ("__debug__" : Str)) = false := by decide) (hcd : (x == ("__classdict__" : Str)) = false := by decide) : GO X (.Name x p) (mSlot i) := mkO (pe_var hN hv hd hcd) ro_slot
theorem h_name (i : Nat) (hN : X.N[i]? = some x) (hv : Vis X.env.scope x) (hd : (x == ("__debug__" : Str)) = false := by decide) (hcd : (x == ("__classdict__" : Str)) = false := by decide) : GH X (.Name x p) (fun ρ => rs ρ (.sl i)) := mkHh (pe_var hN hv hd hcd) rh_name
theorem g_int {i : Int} {j : Nat} : GE X (.Constant (.int i) j p) (mC (.int i)) := mkE pe_int re_int
theorem g_bl {i : Bool} {j : Nat} : GE X (.Constant (.bool i) j p) (mC (.bool i)) := mkE pe_bl re_bl
theorem g_non {j : Nat} : GE X (.Constant .none j p) (mC .none) := mkE pe_non re_non
theorem g_str {i : Str} {j : Nat} : GE X (.Constant (.str i) j p) (mC (.str i)) := mkE pe_str re_str
theorem h_int {i : Int} {j : Nat} : GH X (.Constant (.int i) j p) (fun _ => some (.int i)) := mkHh pe_int (rh_c fun _ => .int i)
theorem h_str {i : Str} {j : Nat} : GH X (.Constant (.str i) j p) (fun _ => some (.str i)) := mkHh pe_str (rh_c fun _ => .str i)
theorem h_bl {i : Bool} {j : Nat} : GH X (.Constant (.bool i) j p) (fun _ => some (.bool i)) := mkHh pe_bl (rh_c fun _ => .bl i)
theorem h_non {j : Nat} : GH X (.Constant .none j p) (fun _ => some .none) := mkHh pe_non (rh_c fun _ => .non)
theorem g_globI {i : Int} {tk : Tok} (hg : Gl X x) (hm : X.mg x = some (.int i tk)) (hd : (x == ("__debug__" : Str)) = false := by decide) : GE X (.Name x p) (mC (.int i)) := mkE (pe_glob (v := .int i) hg hm ⟨_, rfl⟩ hd) re_int
/-! ### operators -/
theorem g_add (ha : GO X a oa) (hb : GO X b ob) : GE X (.BinOp a .Add b p) (m2 rs1 dAdd oa ob) := mkE (pe_op op_addD ha hb) (re_add xO xO)
def mCat (oa ob : Mo Opd) : Mo D := m2 rs1 (fun d e => match d, e with | .list a, .list b => dAdd (.list a) (.list b) | _, _ => none) oa ob
theorem w_cat (ha : GO X a oa) (hb : GO X b ob) : GW X 1 (.BinOp a .Add b p) (mCat oa ob) := mkW (pe_op op_addD ha hb) (rw_cat xO xO)
def dSub := dI (fun _ _ => true) fun i j => .int (i - j)
def dMul := dI cMul fun i j => .int (i * j)
def dDiv := dI cDiv fun i j => .int (i / j)
def dMod := dI cPos fun i j => .int (i % j)
def dPow := dI cPow fun i j => .int (i ^ j.toNat)
def dLt := dI (fun _ _ => true) fun i j => .bool (decide (i < j))
def dLe := dI (fun _ _ => true) fun i j => .bool (decide (i ≤ j))
def dGt := dI (fun _ _ => true) fun i j => .bool (decide (j < i))
def dGe := dI (fun _ _ => true) fun i j => .bool (decide (j ≤ i))
theorem g_sub (ha : GO X a oa) (hb : GO X b ob) : GE X (.BinOp a .Sub b p) (m2 rs dSub oa ob) := mkE (pe_op op_sub ha hb) (re_i0 xO xO)
theorem g_mul (ha : GO X a oa) (hb : GO X b ob) : GE X (.BinOp a .Mult b p) (m2 rs dMul oa ob) := mkE (pe_op op_mul ha hb) (re_i cMul_ok xO xO)
theorem g_div (ha : GO X a oa) (hb : GO X b ob) : GE X (.BinOp a .FloorDiv b p) (m2 rs dDiv oa ob) := mkE (pe_op op_fdiv ha hb) (re_i cDiv_ok xO xO)
theorem g_mod (ha : GO X a oa) (hb : GO X b ob) : GE X (.BinOp a .Mod b p) (m2 rs dMod oa ob) := mkE (pe_op op_mod ha hb) (re_i cPos_ok xO xO)
theorem g_pow (ha : GO X a oa) (hb : GO X b ob) : GE X (.BinOp a .Pow b p) (m2 rs dPow oa ob) := mkE (pe_op op_pow ha hb) (re_i cPow_ok xO xO)
theorem g_rep (ha : GO X a oa) (hb : GO X b ob) : GE X (.BinOp a .Mult b p) (m2 rs1 dRep oa ob) := mkE (pe_op op_repD ha hb) (re_rep xO xO)
theorem g_neg (ha : GO X a oa) : GE X (.UnaryOp .USub a p) (m1 rs dNeg oa) := mkE (pe_un un_neg ha) (re_neg xO)
theorem g_not (ha : GE X a fa) : GE X (.UnaryOp .Not a p) (mNotV fa) := mkE (pe_not ha) (re_notV xE)
theorem g_lt (ha : GO X a oa) (hb : GO X b ob) : GE X (.Compare a [.Lt] [b] p) (m2 rs dLt oa ob) := mkE (pe_cmpR op_lt ha hb (nomark b)) (re_ib xO xO)
theorem g_le (ha : GO X a oa) (hb : GO X b ob) : GE X (.Compare a [.LtE] [b] p) (m2 rs dLe oa ob) := mkE (pe_cmpR op_le ha hb (nomark b)) (re_ib xO xO)
theorem g_gt (ha : GO X a oa) (hb : GO X b ob) : GE X (.Compare a [.Gt] [b] p) (m2 rs dGt oa ob) := mkE (pe_cmpR op_gt ha hb (nomark b)) (re_ib xO xO)
theorem g_ge (ha : GO X a oa) (hb : GO X b ob) : GE X (.Compare a [.GtE] [b] p) (m2 rs dGe oa ob) := mkE (pe_cmpR op_ge ha hb (nomark b)) (re_ib xO xO)
theorem g_eq (c : Cok X k) (ha : GO X a oa) (hb : GO X b ob) : GE X (.Compare a [.Eq] [b] p) (m2 rs (dEq false) oa ob) := mkE (pe_cmpR ((op_eqD (by have := c.un; omega)).or op_eq) ha hb (nomark b)) (re_eq xO xO)
theorem g_ne (c : Cok X k) (ha : GO X a oa) (hb : GO X b ob) : GE X (.Compare a [.NotEq] [b] p) (m2 rs (dEq true) oa ob) := mkE (pe_cmpR ((op_neD (by have := c.un; omega)).or op_ne) ha hb (nomark b)) (re_ne xO xO)
theorem g_isN (ha : GO X a oa) (hb : GO X b ob) : GE X (.Compare a [.Is] [b] p) (m2 rs (dIsN false) oa ob) := mkE (pe_cmpR op_isN ha hb (nomark b)) (re_isN xO xO)
theorem g_notN (ha : GO X a oa) (hb : GO X b ob) : GE X (.Compare a [.IsNot] [b] p) (m2 rs (dIsN true) oa ob) := mkE (pe_cmpR op_notN ha hb (nomark b)) (re_notN xO xO)
theorem g_in (c : Cok X k) (ha : GO X a oa) (hb : GO X b ob) (hm : behindInMarks .In b = false) : GE X (.Compare a [.In] [b] p) (m2 rs (dIn false) oa ob) := mkE (pe_cmpR (op_inD (by have := c.un; omega)) ha hb hm) (re_in xO xO)
theorem g_notIn (c : Cok X k) (ha : GO X a oa) (hb : GO X b ob) (hm : behindInMarks .NotIn b = false) : GE X (.Compare a [.NotIn] [b] p) (m2 rs (dIn true) oa ob) := mkE (pe_cmpR (op_notInD (by have := c.un; omega)) ha hb hm) (re_notIn xO xO)
theorem g_inT (ha : GO X a oa) (hb : GO X b ob) (hm : behindInMarks .In b = false) : GE X (.Compare a [.In] [b] p) (m2 rs (dInT false) oa ob) := mkE (pe_cmpR op_in_seq ha hb hm) (re_inT xO xO)
theorem g_notInT (ha : GO X a oa) (hb : GO X b ob) (hm : behindInMarks .NotIn b = false) : GE X (.Compare a [.NotIn] [b] p) (m2 rs (dInT true) oa ob) := mkE (pe_cmpR op_notIn_seq ha hb hm) (re_notInT xO xO)
/-! ### and, or, if -/
theorem g_and (ha : GE X a fa) (hb : GE X (.BoolOp .And (b :: es) p) fb) : GE X (.BoolOp .And (a :: b :: es) p) (mAndV fa fb) := mkE (pe_and ha hb) (re_andV xE xE)
theorem g_or (ha : GE X a fa) (hb : GE X (.BoolOp .Or (b :: es) p) fb) : GE X (.BoolOp .Or (a :: b :: es) p) (mOrV fa fb) := mkE (pe_or ha hb) (re_orV xE xE)
theorem g_one {op : BoolOp} (ha : GE X a fa) : GE X (.BoolOp op [a] p) fa := pe_one ha
variable {qa qb qc : Mo Bool}
theorem g_if (hc : GT X c qc) (ha : GE X a fa) (hb : GE X b fb) : GE X (.IfExp c a b p) (mIf qc fa fb) := mkE (pe_ifExp hc ha hb) (re_if xT xE xE)
/-! ### tests -/
theorem tTest_eq (t : TE) : tB t = tTest t := rfl
theorem q_val (h : GE X e f) (he : ∀ whole, isTrue e X.env whole = (do let v ← whole; standAt e.pos; holding [v] (truthy v)) := by intro _; rfl) : GT X e (mTest f) := mkT (pt_val h he) (rt_test xE)
/-- a comparison, as a test -/
theorem q_cmp {op : CmpOp} {r : R2} {t : TE} (ho : OpR X (compareOp op) r) (ha : GO X a oa) (hb : GO X b ob) (hm : behindInMarks op b = false) (hr : RE X.K (tOp r (tO X.K oa) (tO X.K ob)) f) : GT X (.Compare a [op] [b] p) (mTest f) := mkT (pt_cmpR ho ha hb hm) (rt_test hr)
theorem q_lt (ha : GO X a oa) (hb : GO X b ob) : GT X (.Compare a [.Lt] [b] p) (mTest (m2 rs dLt oa ob)) := mkT (pt_cmpR op_lt ha hb (nomark b)) (rt_test (re_ib xO xO))
theorem q_le (ha : GO X a oa) (hb : GO X b ob) : GT X (.Compare a [.LtE] [b] p) (mTest (m2 rs dLe oa ob)) := mkT (pt_cmpR op_le ha hb (nomark b)) (rt_test (re_ib xO xO))
theorem q_gt (ha : GO X a oa) (hb : GO X b ob) : GT X (.Compare a [.Gt] [b] p) (mTest (m2 rs dGt oa ob)) := mkT (pt_cmpR op_gt ha hb (nomark b)) (rt_test (re_ib xO xO))
theorem q_ge (ha : GO X a oa) (hb : GO X b ob) : GT X (.Compare a [.GtE] [b] p) (mTest (m2 rs dGe oa ob)) := mkT (pt_cmpR op_ge ha hb (nomark b)) (rt_test (re_ib xO xO))
theorem q_eq (c : Cok X k) (ha : GO X a oa) (hb : GO X b ob) : GT X (.Compare a [.Eq] [b] p) (mTest (m2 rs (dEq false) oa ob)) := mkT (pt_cmpR ((op_eqD (by have := c.un; omega)).or op_eq) ha hb (nomark b)) (rt_test (re_eq xO xO))
theorem q_ne (c : Cok X k) (ha : GO X a oa) (hb : GO X b ob) : GT X (.Compare a [.NotEq] [b] p) (mTest (m2 rs (dEq true) oa ob)) := mkT (pt_cmpR ((op_neD (by have := c.un; omega)).or op_ne) ha hb (nomark b)) (rt_test (re_ne xO xO))
theorem q_isN (ha : GO X a oa) (hb : GO X b ob) : GT X (.Compare a [.Is] [b] p) (mTest (m2 rs (dIsN false) oa ob)) := mkT (pt_cmpR op_isN ha hb (nomark b)) (rt_test (re_isN xO xO))
theorem q_notN (ha : GO X a oa) (hb : GO X b ob) : GT X (.Compare a [.IsNot] [b] p) (mTest (m2 rs (dIsN true) oa ob)) := mkT (pt_cmpR op_notN ha hb (nomark b)) (rt_test (re_notN xO xO))
theorem q_in (c : Cok X k) (ha : GO X a oa) (hb : GO X b ob) (hm : behindInMarks .In b = false) : GT X (.Compare a [.In] [b] p) (mTest (m2 rs (dIn false) oa ob)) := mkT (pt_cmpR (op_inD (by have := c.un; omega)) ha hb hm) (rt_test (re_in xO xO))
theorem q_notIn (c : Cok X k) (ha : GO X a oa) (hb : GO X b ob) (hm : behindInMarks .NotIn b = false) : GT X (.Compare a [.NotIn] [b] p) (mTest (m2 rs (dIn true) oa ob)) := mkT (pt_cmpR (op_notInD (by have := c.un; omega)) ha hb hm) (rt_test (re_notIn xO xO))
theorem q_inT (ha : GO X a oa) (hb : GO X b ob) (hm : behindInMarks .In b = false) : GT X (.Compare a [.In] [b] p) (mTest (m2 rs (dInT false) oa ob)) := mkT (pt_cmpR op_in_seq ha hb hm) (rt_test (re_inT xO xO))
theorem q_notInT (ha : GO X a oa) (hb : GO X b ob) (hm : behindInMarks .NotIn b = false) : GT X (.Compare a [.NotIn] [b] p) (mTest (m2 rs (dInT true) oa ob)) := mkT (pt_cmpR op_notIn_seq ha hb hm) (rt_test (re_notInT xO xO))
theorem q_not (h : GT X e qa) : GT X (.UnaryOp .Not e p) (mNot qa) := mkT (pt_not h) (rt_not xT)
theorem v_and1 (h : GT X a qa) : GV X (.BoolOp .And [a] p) qa := pw_and1 h
theorem v_or1 (h : GT X a qa) : GV X (.BoolOp .Or [a] p) qa := pw_or1 h
theorem v_and (h : GT X a qa) (k : GV X (.BoolOp .And (b :: es) p) qb) : GV X (.BoolOp .And (a :: b :: es) p) (mAnd qa qb) := mkV (pw_and h k) (rt_and xT xT)
theorem v_or (h : GT X a qa) (k : GV X (.BoolOp .Or (b :: es) p) qb) : GV X (.BoolOp .Or (a :: b :: es) p) (mOr qa qb) := mkV (pw_or h k) (rt_or xT xT)
theorem q_v (h : GV X e qa) : GT X e qa := h.pt
/-! ### arguments, displays -/
theorem a_nil : GA X [] mANil := mkA pa_nil ra_nil
theorem a_cons (ha : GO X e oa) (h : GA X es fs) (hs : starEach (e :: es) X.env = (false, eval e X.env) :: starEach es X.env := by rfl) : GA X (e :: es) (mACons oa fs) := mkA (pa_cons ha h hs) (ra_cons xO xA)
theorem g_tup (h : GA X es fs) {j : Nat} : GE X (.Tuple es j p) (mTup fs) := mkE (pe_tupN h) (re_tup xA)
theorem w_lst (h : GA X es fs) : GW X 1 (.List es p) (mLst fs) := mkW (pe_lst h) (rw_lst xA)
/-! ### subscripts -/
theorem g_ix (ha : GO X a oa) (hb : GO X b ob) (hs : PlainIx b) : GE X (.Subscript a b p) (m2 rs1 dIx oa ob) := mkE (pe_ix ix_seq ha hb hs) (re_ix xO xO)
theorem h_ix {fa fb : Nt.Env → Option D} (ha : GH X a fa) (hb : GH X b fb) (hs : PlainIx b) : GH X (.Subscript a b p) (h2 dIx fa fb) := mkHh (pe_ix ix_seq ha hb hs) (rh_ix xH xH)
theorem g_dget (c : Cok X k) (ha : GO X a oa) (hb : GO X b ob) (hs : NoSl b) : GE X (.Subscript a b p) (m2 rs1 dDG oa ob) := mkE (pe_dget (by have := c.un; omega) ha hb hs) (re_dget xO xO)
theorem g_rev {j : Nat} {p1 : Pos} (ha : GO X a oa) : GE X (.Subscript a (.Slice none none (some (.UnaryOp .USub (.Constant (.int 1) j p1) p3)) p2) p) (m1 rs1 dRev oa) := mkE (pe_rev (rev_list.or rev_tup) ha) (re_rev xO)
end
end Nt

/-! one rule for each form of the text, second part: slices, calls, comprehensions, statements -/
namespace Nt
open PySem PySem.Spec PyProof.Rows L2

section
variable (K : PySem.W.Frag)
def tP (f : Mo (Option Int)) : TO := fun σ H Q => ∃ ρ d ρ' G fp, f ρ = some (d, ρ') ∧ Sat K ρ σ G H fp ∧ ∀ G' H' fp', Stp G H fp G' H' fp' → Sat K ρ' σ G' H' fp' → Q d H'
def tAw (ns : List Nat) (f : Mo (List D)) : TA := fun σ H Q => ∃ ρ d ρ' G fp, f ρ = some (d, ρ') ∧ Sat K ρ σ G H fp ∧ ∀ v G' H' fp' f0, Stp G H fp G' H' fp' → Sat K ρ' σ G' H' fp' → OwM K G' H' ns v d f0 → Tmp H fp G' fp' f0 → Q v H'
variable {K}
theorem xP {f : Mo (Option Int)} : RP K (tP K f) f := fun ρ d ρ' e σ G H fp S Q q => ⟨ρ, d, ρ', G, fp, e, S, q⟩
theorem xAw {ns : List Nat} {f : Mo (List D)} : RAW K ns (tAw K ns f) f := fun ρ d ρ' e σ G H fp S Q q => ⟨ρ, d, ρ', G, fp, e, S, q⟩
end
section
variable {X : Cx} {k n m : Nat} {e a b c : Expr} {es : List Expr} {pos p p2 p3 : Pos} {f fa fb fc : Mo D} {oa ob oc : Mo Opd} {fs : Mo (List Opd)}
abbrev GP (X : Cx) (e : Option Expr) (f : Mo (Option Int)) : Prop := PO X e (tP X.K f)
abbrev GAW (X : Cx) (ns : List Nat) (es : List Expr) (f : Mo (List D)) : Prop := PA X es (tAw X.K ns f)
theorem POx {e : Option Expr} {t t' : TO} (h : PO X e t) (i : ∀ σ H Q, t' σ H Q → t σ H Q) : PO X e t' := ⟨fun pins s σ H Q I q => h.run pins s σ H Q I (i _ _ _ q)⟩
theorem mkP {e : Option Expr} {t : TO} {f : Mo (Option Int)} (h : PO X e t) (r : RP X.K t f) : GP X e f := POx h fun σ H Q ⟨ρ, d, ρ', G, fp, q, S, k⟩ => r ρ d ρ' q σ G H fp S Q k
theorem mkAW {ns : List Nat} {t : TA} {f : Mo (List D)} (h : PA X es t) (r : RAW X.K ns t f) : GAW X ns es f := PAx h fun σ H Q ⟨ρ, d, ρ', G, fp, q, S, k⟩ => r ρ d ρ' q σ G H fp S Q k
theorem p_none : GP X none mNoPart := mkP po_none rp_none
theorem p_some (h : GE X e f) : GP X (some e) (mPart f) := mkP (po_some h) (rp_some xE)
theorem aw_nil : GAW X [] [] mWNil := mkAW pa_nil raw_nil
theorem aw_cons {ns : List Nat} {g : Mo (List D)} (h : GW X n e f) (k : GAW X ns es g) (hs : starEach (e :: es) X.env = (false, eval e X.env) :: starEach es X.env := by rfl) : GAW X (n :: ns) (e :: es) (mWCons f g) := mkAW (pa_cons h k hs) (raw_cons xW xAw)
variable {fl fh : Mo (Option Int)} {lo hi : Option Expr}
theorem g_sl (h : GO X e oa) (hl : GP X lo fl) (hh : GP X hi fh) : GE X (.Subscript e (.Slice lo hi none p2) p) (mSl oa fl fh) := mkE (pe_slice sl_all h hl hh) (re_sl xO xP xP)
theorem w_sl (h : GO X e oa) (hl : GP X lo fl) (hh : GP X hi fh) : GW X 1 (.Subscript e (.Slice lo hi none p2) p) (mSlL oa fl fh) := mkW (pe_slice sl_all h hl hh) (rw_sl xO xP xP)

/-! ### built-ins -/
structure Bt (X : Cx) (x : Str) : Prop where
  gl : Gl X x
  mg : X.mg x = none
variable (hs : starEach (e :: es) X.env = (false, eval e X.env) :: starEach es X.env) (hpl : (backTo pos (starEach es X.env)).any (·.1) = false)
theorem g_len (B : Bt X "len") (h : GA X (e :: es) fs) (hs : starEach (e :: es) X.env = (false, eval e X.env) :: starEach es X.env := by rfl) (hpl : (backTo pos (starEach es X.env)).any (·.1) = false := by rfl) : GE X (.Call (.Name "len" p) (e :: es) [] pos) (mCB rs dLen fs) :=
  mkE (pe_callB call_len_seq B.gl B.mg PySem.boot_len h (by decide) (by decide) hs hpl) (re_len xA)
theorem g_int1 (B : Bt X "int") (h : GA X (e :: es) fs) (hs : starEach (e :: es) X.env = (false, eval e X.env) :: starEach es X.env := by rfl) (hpl : (backTo pos (starEach es X.env)).any (·.1) = false := by rfl) : GE X (.Call (.Name "int" p) (e :: es) [] pos) (mCB rs dInt fs) :=
  mkE (pe_callTy call_int1 B.gl B.mg PyProof.Rows.boot_int h (by decide) (by decide) hs hpl) (re_int1 xA)
theorem g_max2 (c : Cok X k) (B : Bt X "max") (h : GA X (e :: es) fs) (hs : starEach (e :: es) X.env = (false, eval e X.env) :: starEach es X.env := by rfl) (hpl : (backTo pos (starEach es X.env)).any (·.1) = false := by rfl) : GE X (.Call (.Name "max" p) (e :: es) [] pos) (mCB rs dMax2 fs) :=
  mkE (pe_callB (call_max2 c.calm) B.gl B.mg PyProof.Rows.boot_max h (by decide) (by decide) hs hpl) (re_max2 xA)
theorem g_min2 (c : Cok X k) (B : Bt X "min") (h : GA X (e :: es) fs) (hs : starEach (e :: es) X.env = (false, eval e X.env) :: starEach es X.env := by rfl) (hpl : (backTo pos (starEach es X.env)).any (·.1) = false := by rfl) : GE X (.Call (.Name "min" p) (e :: es) [] pos) (mCB rs dMin2 fs) :=
  mkE (pe_callB (call_min2 c.calm) B.gl B.mg PyProof.Rows.boot_min h (by decide) (by decide) hs hpl) (re_min2 xA)
theorem w_list (B : Bt X "list") (h : GA X (e :: es) fs) (hs : starEach (e :: es) X.env = (false, eval e X.env) :: starEach es X.env := by rfl) (hpl : (backTo pos (starEach es X.env)).any (·.1) = false := by rfl) : GW X 1 (.Call (.Name "list" p) (e :: es) [] pos) (mCB rs1 dList fs) :=
  mkW (pe_callTy call_list_of B.gl B.mg PyProof.Rows.boot_list h (by decide) (by decide) hs hpl) (rw_list xA)
theorem g_tuple (B : Bt X "tuple") (h : GA X (e :: es) fs) (hs : starEach (e :: es) X.env = (false, eval e X.env) :: starEach es X.env := by rfl) (hpl : (backTo pos (starEach es X.env)).any (·.1) = false := by rfl) : GE X (.Call (.Name "tuple" p) (e :: es) [] pos) (mCB rs1 dTuple fs) :=
  mkE (pe_callTy call_tupN B.gl B.mg PyProof.Rows.boot_tuple h (by decide) (by decide) hs hpl) (re_tupleOf xA)
theorem g_repr (c : Cok X k) (B : Bt X "repr") (h : GA X (e :: es) fs) (hs : starEach (e :: es) X.env = (false, eval e X.env) :: starEach es X.env := by rfl) (hpl : (backTo pos (starEach es X.env)).any (·.1) = false := by rfl) : GE X (.Call (.Name "repr" p) (e :: es) [] pos) (mCB rs dRepr fs) :=
  mkE (pe_callB (call_reprD c.gd (by have := c.un; omega)) B.gl B.mg PyProof.Rows.boot_repr h (by decide) (by decide) hs hpl) (re_repr xA)
theorem g_all (c : Cok X k) (B : Bt X "all") (h : GA X (e :: es) fs) (hs : starEach (e :: es) X.env = (false, eval e X.env) :: starEach es X.env := by rfl) (hpl : (backTo pos (starEach es X.env)).any (·.1) = false := by rfl) : GE X (.Call (.Name "all" p) (e :: es) [] pos) (mCB rs dAll fs) :=
  mkE (pe_callB (cr_all c.calm) B.gl B.mg PyProof.Rows.boot_all h (by decide) (by decide) hs hpl) (re_all xA)
theorem w_sorted (c : Cok X k) (B : Bt X "sorted") (h : GA X (e :: es) fs) (hs : starEach (e :: es) X.env = (false, eval e X.env) :: starEach es X.env := by rfl) (hpl : (backTo pos (starEach es X.env)).any (·.1) = false := by rfl) : GW X 1 (.Call (.Name "sorted" p) (e :: es) [] pos) (mCB rs1 dSortedC fs) :=
  mkW (pe_callB (call_sortD (by have := c.un; omega)) B.gl B.mg PyProof.Rows.boot_sorted h (by decide) (by decide) hs hpl) (rw_sorted xA)
theorem g_dict (c : Cok X k) (B : Bt X "dict") (h : GA X (e :: es) fs) (hs : starEach (e :: es) X.env = (false, eval e X.env) :: starEach es X.env := by rfl) (hpl : (backTo pos (starEach es X.env)).any (·.1) = false := by rfl) : GE X (.Call (.Name "dict" p) (e :: es) [] pos) (mCB rs1 dDict fs) :=
  mkE (pe_callTy (call_dictP c.calm) B.gl B.mg PyProof.Rows.boot_dict h (by decide) (by decide) hs hpl) (re_dict xA)
theorem w_dnew : GW X 1 (.Dict [] [] p) (mC (.dict [])) := mkW pe_dnewK rw_dnew
/-- isinstance(a, T), T a built-in class's name -/
theorem g_isi (B : Bt X "isinstance") {y : Str} {T : String} (B2 : Bt X y) (hb : bootBuiltins y = some (.type T)) (h : GO X a oa) (hn : y ≠ "__name__" := by decide) (hd : (y == ("__debug__" : Str)) = false := by decide)
    (hs1 : starEach [.Name y p2] X.env = (false, eval (.Name y p2) X.env) :: starEach [] X.env := by rfl)
    (hs : starEach [a, .Name y p2] X.env = (false, eval a X.env) :: starEach [.Name y p2] X.env := by rfl) (hpl : (backTo pos (starEach [.Name y p2] X.env)).any (·.1) = false := by rfl) : GE X (.Call (.Name "isinstance" p) [a, .Name y p2] [] pos) (m1 rs (dIsi T) oa) :=
  mkE (pe_callB call_isi B.gl B.mg PyProof.Rows.boot_isinstance (pa_cons h (pa_cons (pe_bltn (v := .ty T) B2.gl B2.mg hb rfl hn hd) pa_nil hs1) hs) (by decide) (by decide) hs hpl) (re_isi xO)
/-! ### list(range(..)), tuple(range(..)) -/
def mRng1 (tup : Bool) (fa : Mo Opd) : Mo D := fun ρ => match fa ρ with
  | none => none
  | some (o, ρ1) => match rs ρ1 o with
    | some (.int j) => if j ≤ 16777216 ∧ -16777216 ≤ j then some (if tup then .tuple (rangeD 0 j.toNat) else .list (rangeD 0 j.toNat), ρ1) else none
    | _ => none
def mRng2 (tup : Bool) (fa fb : Mo Opd) : Mo D := fun ρ => match fa ρ with
  | none => none
  | some (o, ρ1) => match fb ρ1 with
    | none => none
    | some (o2, ρ2) => match rs ρ2 o, rs ρ2 o2 with
      | some (.int i), some (.int j) => if j ≤ 16777216 ∧ 0 ≤ i ∧ i ≤ 16777216 ∧ 0 ≤ j then some (if tup then .tuple (rangeD i (j - i).toNat) else .list (rangeD i (j - i).toNat), ρ2) else none
      | _, _ => none
theorem rgV_rp {K : PySem.W.Frag} {G : Hp} (a b : Int) : RpA K G (rgV a b) (rangeD a (b - a).toNat) := by
  unfold rgV rangeD
  generalize List.range (b - a).toNat = l
  induction l with
  | nil => exact .nil
  | cons i l ih => exact .cons (.int _) ih
theorem w_rng1 (c : Cok X k) (B : Bt X "list") (B2 : Bt X "range") (h : GO X a oa) (na : starEach [a] X.env = (false, eval a X.env) :: starEach [] X.env := by rfl)
    (na2 : starEach [.Call (.Name "range" p2) [a] [] p3] X.env = (false, eval (.Call (.Name "range" p2) [a] [] p3) X.env) :: starEach [] X.env := by rfl) : GW X 1 (.Call (.Name "list" p) [.Call (.Name "range" p2) [a] [] p3] [] pos) (mRng1 false oa) :=
  mkW (pe_listRg c.calm B.gl B.mg (prg_1 B2.gl B2.mg h na) na2) fun ρ d ρ' e σ G H fp S Q q => by
    unfold mRng1 at e
    split at e
    · cases e
    · rename_i o ρ1 e1
      split at e
      · rename_i j e2
        split at e
        · rename_i hj
          cases e
          refine xO ρ _ _ e1 σ G H fp S _ fun v G1 H1 fp1 st1 S1 r1 => ?_
          cases (rs_rp S1 r1 e2).int'
          refine ⟨j, rfl, ⟨by omega, by omega, by omega, by omega, by omega⟩, fun l hl => q _ G1 _ fp1 [l] (st1.trans (Stp.new hl)) (S1.new hl) (Ow.new1 upd_same ?_) (Tmp.one S1 st1 hl)⟩
          have := rgV_rp (K := X.K) (G := G1) 0 j
          rw [Int.sub_zero] at this
          exact this
        · cases e
      · cases e
theorem w_rng2 (c : Cok X k) (B : Bt X "list") (B2 : Bt X "range") (h : GO X a oa) (h2 : GO X b ob) (na : starEach [a, b] X.env = (false, eval a X.env) :: starEach [b] X.env := by rfl) (nb : starEach [b] X.env = (false, eval b X.env) :: starEach [] X.env := by rfl) (hp : (backTo p3 (starEach [b] X.env)).any (·.1) = false := by rfl)
    (na2 : starEach [.Call (.Name "range" p2) [a, b] [] p3] X.env = (false, eval (.Call (.Name "range" p2) [a, b] [] p3) X.env) :: starEach [] X.env := by rfl) : GW X 1 (.Call (.Name "list" p) [.Call (.Name "range" p2) [a, b] [] p3] [] pos) (mRng2 false oa ob) :=
  mkW (pe_listRg c.calm B.gl B.mg (prg_2 B2.gl B2.mg h h2 na nb hp) na2) fun ρ d ρ' e σ G H fp S Q q => by
    unfold mRng2 at e
    split at e
    · cases e
    · rename_i o ρ1 e1
      split at e
      · cases e
      · rename_i o2 ρ2 e2
        split at e
        · rename_i i j e3 e4
          split at e
          · rename_i hj
            cases e
            refine xO ρ _ _ e1 σ G H fp S _ fun v G1 H1 fp1 st1 S1 r1 => ?_
            refine xO ρ1 _ _ e2 σ G1 H1 fp1 S1 _ fun v2 G2 H2 fp2 st2 S2 r2 => ?_
            cases (rs_rp S2 (r1.mono st2.g) e3).int'
            cases (rs_rp S2 r2 e4).int'
            have st := st1.trans st2
            exact ⟨i, j, rfl, rfl, ⟨by omega, by omega, by omega, by omega, by omega⟩, fun l hl => q _ G2 _ fp2 [l] (st.trans (Stp.new hl)) (S2.new hl) (Ow.new1 upd_same (rgV_rp i j)) (Tmp.one S2 st hl)⟩
          · cases e
        · cases e
/-! ### calls of defs, methods -/
variable {fd : FuncData} {ps : List Str} {sp : Sp} {x : Str} {g : Addr}
structure Df (X : Cx) (k : Nat) (x : Str) (ps : List Str) (sp : Sp) : Prop where
  gl : Gl X x
  ex : ∃ g fd, X.mg x = some (.ref g) ∧ FnG X.prog X.w X.K X.mg X.base k g fd ps sp ∧ PySem.W.keepIn X.K (.ref g) = true ∧ Binds X.K fd ps []
theorem w_call {F : List D → Option D} (c : Cok X k) (Dd : Df X k x ps (spF X.K m n F)) (h : GA X (e :: es) fs) (hdb : (x == ("__debug__" : Str)) = false := by decide) (he : starEach (e :: es) X.env = (false, eval e X.env) :: starEach es X.env := by rfl) (hpl : (backTo pos (starEach es X.env)).any (·.1) = false := by rfl) :
    GW X n (.Call (.Name x p) (e :: es) [] pos) (mCall m F fs) := by
  obtain ⟨g, fd, hm, hF, hk, hb⟩ := Dd.ex
  exact mkW (pe_callG hF c.gd c.room Dd.gl hm hk hb h hdb he hpl) (rw_call xA)
theorem w_callI {r : Nat} {F : D → List D → Option (D × D)} (c : Cok X k) (Dd : Df X k x ps (spI X.K m n r F)) (h : GA X (e :: es) fs) (hdb : (x == ("__debug__" : Str)) = false := by decide) (he : starEach (e :: es) X.env = (false, eval e X.env) :: starEach es X.env := by rfl) (hpl : (backTo pos (starEach es X.env)).any (·.1) = false := by rfl) :
    GW X n (.Call (.Name x p) (e :: es) [] pos) (mCallI m r F fs) := by
  obtain ⟨g, fd, hm, hF, hk, hb⟩ := Dd.ex
  exact mkW (pe_callG hF c.gd c.room Dd.gl hm hk hb h hdb he hpl) (rw_callI xA)
end
end Nt

/-! one rule for each form of the text, third part: comprehensions, statements, methods, defs -/
namespace Nt
open PySem PySem.Spec PyProof.Rows L2

section
variable {X : Cx} {k n m : Nat} {e a b c : Expr} {es : List Expr} {pos p p2 p3 : Pos} {f fa fb fc : Mo D} {oa ob oc : Mo Opd} {fs : Mo (List Opd)} {P : List Nat} {i j : Nat} {x y : Str}
/-! ### targets -/
theorem t_name (c : Cok X k) (i : Nat) (hi : X.N[i]? = some x) (hx : Loc X.env.scope x) (hf : X.fn x = true ∨ X.env.scope.names.lookup x = some .local := by first | exact .inl rfl | exact .inr rfl) : GG X (.Name x p) [i] (gName i) (fName i) := ⟨pg_name c.nd hi hx hf, rg_name⟩
theorem t_nil : GGs X [] [] gNil fNil := ⟨pgs_nil, rgs_nil⟩
theorem t_cons {T T' : List Nat} {g : TG} {f : D → Nt.Env → Option Nt.Env} {gs : TGs} {fs : List D → Nt.Env → Option Nt.Env} (h : GG X e T g f) (k : GGs X es T' gs fs) (hs : (assignEach (e :: es) X.env).map (·.2) = assign e X.env :: (assignEach es X.env).map (·.2) := by rfl) : GGs X (e :: es) (T ++ T') (gCons g gs) (fCons f fs) :=
  ⟨pgs_cons h.1 k.1 hs, rgs_cons h.2 k.2⟩
theorem t_seq (c : Cok X k) {T : List Nat} {gs : TGs} {fs : List D → Nt.Env → Option Nt.Env} {kk : Nat} (h : GGs X es T gs fs) (hn : (assignEach es X.env).length = n := by rfl) (hst : (assignEach es X.env).findIdx? (·.1) = none := by rfl) : GG X (.Tuple es kk p) T (gSeq X.K n gs) (fSeq n fs) :=
  ⟨pg_seq c.calm h.1 hn hst, rg_seq h.2⟩
/-! ### what is walked -/
theorem i_list {tg : Expr} (h : GE X e f) : GI X tg e (fun ρ => match f ρ with | some (.list ds, ρ1) => some (ds, ρ1) | _ => none) := mkI (pi_list h) (ri_list xE)
theorem i_tup {tg : Expr} (h : GE X e f) : GI X tg e (fun ρ => match f ρ with | some (.tuple ds, ρ1) => some (ds, ρ1) | _ => none) := mkI (pi_tup h) (ri_tup xE)
def iL (f : Mo D) : Mo (List D) := fun ρ => match f ρ with | some (.list ds, ρ1) => some (ds, ρ1) | _ => none
def iT (f : Mo D) : Mo (List D) := fun ρ => match f ρ with | some (.tuple ds, ρ1) => some (ds, ρ1) | _ => none
theorem i_l {tg : Expr} (h : GE X e f) : GI X tg e (iL f) := i_list h
theorem i_t {tg : Expr} (h : GE X e f) : GI X tg e (iT f) := i_tup h
theorem i_r1 {tg : Expr} (B : Bt X "range") (h : GA X [a] fs) (hs : starEach [a] X.env = [(false, eval a X.env)] := by rfl) : GI X tg (.Call (.Name "range" p) [a] [] pos) (iR1 fs) := mkI (pi_range1 B.gl B.mg h hs) (ri_r1 xA)
theorem i_r2 {tg : Expr} (B : Bt X "range") (h : GA X [a, b] fs) (hs : starEach [a, b] X.env = [(false, eval a X.env), (false, eval b X.env)] := by rfl) (hs2 : starEach [b] X.env = [(false, eval b X.env)] := by rfl) : GI X tg (.Call (.Name "range" p) [a, b] [] pos) (iR2 fs) := mkI (pi_range2 B.gl B.mg h hs hs2) (ri_r2 xA)
theorem i_en {elts : List Expr} {kk : Nat} {tpos : Pos} (B : Bt X "enumerate") (h : GA X [a] fs) (hs : starEach [a] X.env = [(false, eval a X.env)] := by rfl) : GI X (.Tuple elts kk tpos) (.Call (.Name "enumerate" p) [a] [] pos) (iEn fs) := mkI (pi_enumA B.gl B.mg h hs) (ri_enum xA)
/-! ### comprehensions -/
section
variable {elt tg iter : Expr} {scope : Scope} {own : List (Str × Nat)} {T : List Nat} {g : TG} {set : D → Nt.Env → Option Nt.Env} {it : Mo (List D)} {tst : Mo Bool} {el : Mo D}
/-- the block of a comprehension -/
abbrev Bl (X : Cx) (scope : Scope) (s : Shared) (H : Hp) (C : Addr) (cl : List (Str × Addr)) (fp : List Addr) : Cx := X.blk s H scope (compEnvC scope cl C X.env) fp
theorem w_comp (c : Cok X k) (ok : BlkOk X.N X.env.scope scope own) (hi : GI X tg iter it) (hg : ∀ s H C cl fp, Cok (Bl X scope s H C cl fp) k → GG (Bl X scope s H C cl fp) tg T g set) (he : ∀ s H C cl fp, Cok (Bl X scope s H C cl fp) k → GW (Bl X scope s H C cl fp) m elt el)
    (hT : ∀ i ∈ T, i ∈ own.map (·.2)) (hs : ∀ x, foldedSetIterable iter X.env x = pure x := by intro _; rfl) : GW X (m + 1) (.ListComp elt [⟨tg, iter, [], 0⟩] scope p) (mComp it set mYes el (own.map (·.2))) :=
  ⟨fun pins s σ H Q I q => (mkW (f := mComp it set mYes el (own.map (·.2))) (pe_lc c.calm c.nd hi ok (fun s H C cl fp => (hg s H C cl fp (c.blk ..)).1) (fun s H C cl fp => pts_nil) (fun s H C cl fp => he s H C cl fp (c.blk ..)) hs)
    (rw_comp xI (hg s H 0 [] [] (c.blk ..)).2 rt_yes xW hT)).run pins s σ H Q I q⟩
theorem w_comp1 (c : Cok X k) {cnd : Expr} (ok : BlkOk X.N X.env.scope scope own) (hi : GI X tg iter it) (hg : ∀ s H C cl fp, Cok (Bl X scope s H C cl fp) k → GG (Bl X scope s H C cl fp) tg T g set) (ht : ∀ s H C cl fp, Cok (Bl X scope s H C cl fp) k → GT (Bl X scope s H C cl fp) cnd tst)
    (he : ∀ s H C cl fp, Cok (Bl X scope s H C cl fp) k → GW (Bl X scope s H C cl fp) m elt el)
    (hT : ∀ i ∈ T, i ∈ own.map (·.2)) (hs : ∀ x, foldedSetIterable iter X.env x = pure x := by intro _; rfl) : GW X (m + 1) (.ListComp elt [⟨tg, iter, [cnd], 0⟩] scope p) (mComp it set tst el (own.map (·.2))) :=
  ⟨fun pins s σ H Q I q => (mkW (f := mComp it set tst el (own.map (·.2))) (pe_lc c.calm c.nd hi ok (fun s H C cl fp => (hg s H C cl fp (c.blk ..)).1) (fun s H C cl fp => pts_one (ht s H C cl fp (c.blk ..))) (fun s H C cl fp => he s H C cl fp (c.blk ..)) hs)
    (rw_comp xI (hg s H 0 [] [] (c.blk ..)).2 xT xW hT)).run pins s σ H Q I q⟩
/-- name = [..] on one line, a plain local -/
theorem s_comp (c : Cok X k) {py : Pos} (ok : BlkOk X.N X.env.scope scope own) (hN : X.N[i]? = some y) (hy : X.env.scope.names.lookup y = some .local) (hsw : swapsWith (.ListComp elt [⟨tg, iter, [], 0⟩] scope p) (some (.Name y py)) pos.line X.env = pure true)
    (hi : GI X tg iter it) (hg : ∀ s H C cl fp, Cok (Bl X scope s H C cl fp) k → GG (Bl X scope s H C cl fp) tg T g set) (he : ∀ s H C cl fp, Cok (Bl X scope s H C cl fp) k → GW (Bl X scope s H C cl fp) m elt el)
    (hT : ∀ i ∈ T, i ∈ own.map (·.2)) (hP : ∀ j ∈ P, j ≠ i) (hs : ∀ x, foldedSetIterable iter X.env x = pure x := by intro _; rfl) : GS X n P (.Assign [.Name y py] (.ListComp elt [⟨tg, iter, [], 0⟩] scope p) pos) (sSetW (m + 1) i (mComp it set mYes el (own.map (·.2)))) :=
  ⟨fun pins s σ H D I q => (mkS (ps_setLc c.calm c.nd hN hy hsw hi ok (fun s H C cl fp => (hg s H C cl fp (c.blk ..)).1) (fun s H C cl fp => pts_nil) (fun s H C cl fp => he s H C cl fp (c.blk ..)) hs)
    (rs_setW (rw_comp xI (hg s H 0 [] [] (c.blk ..)).2 rt_yes xW hT) hP)).run pins s σ H D I q⟩
theorem s_comp1 (c : Cok X k) {py : Pos} {cnd : Expr} (ok : BlkOk X.N X.env.scope scope own) (hN : X.N[i]? = some y) (hy : X.env.scope.names.lookup y = some .local) (hsw : swapsWith (.ListComp elt [⟨tg, iter, [cnd], 0⟩] scope p) (some (.Name y py)) pos.line X.env = pure true)
    (hi : GI X tg iter it) (hg : ∀ s H C cl fp, Cok (Bl X scope s H C cl fp) k → GG (Bl X scope s H C cl fp) tg T g set) (ht : ∀ s H C cl fp, Cok (Bl X scope s H C cl fp) k → GT (Bl X scope s H C cl fp) cnd tst)
    (he : ∀ s H C cl fp, Cok (Bl X scope s H C cl fp) k → GW (Bl X scope s H C cl fp) m elt el)
    (hT : ∀ i ∈ T, i ∈ own.map (·.2)) (hP : ∀ j ∈ P, j ≠ i) (hs : ∀ x, foldedSetIterable iter X.env x = pure x := by intro _; rfl) : GS X n P (.Assign [.Name y py] (.ListComp elt [⟨tg, iter, [cnd], 0⟩] scope p) pos) (sSetW (m + 1) i (mComp it set tst el (own.map (·.2)))) :=
  ⟨fun pins s σ H D I q => (mkS (ps_setLc c.calm c.nd hN hy hsw hi ok (fun s H C cl fp => (hg s H C cl fp (c.blk ..)).1) (fun s H C cl fp => pts_one (ht s H C cl fp (c.blk ..))) (fun s H C cl fp => he s H C cl fp (c.blk ..)) hs)
    (rs_setW (rw_comp xI (hg s H 0 [] [] (c.blk ..)).2 xT xW hT) hP)).run pins s σ H D I q⟩
end
/-! ### methods -/
section
variable (hfew : ((backTo pos (starEach (e :: es) X.env)).all (fun x => !x.1) && (backToKw pos (keywordEach [] X.env)).all (fun x => x.1.isSome) && decide ((e :: es).length + ([] : List Keyword).length + (if ([] : List Keyword).isEmpty then 0 else 1) < 30)) = true)
/-- what a method call wants of its text -/
structure Ml (X : Cx) (o : Expr) (name : Str) (apos : Pos) (e : Expr) (es : List Expr) (cpos : Pos) : Prop where
  base : attributeBase o name X.env (eval o X.env) = eval o X.env
  few : ((backTo cpos (starEach (e :: es) X.env)).all (fun x => !x.1) && (backToKw cpos (keywordEach [] X.env)).all (fun x => x.1.isSome) && decide ((e :: es).length + ([] : List Keyword).length + (if ([] : List Keyword).isEmpty then 0 else 1) < 30)) = true
  line : (apos.endLine == cpos.line) = true
  st : starEach (e :: es) X.env = (false, eval e X.env) :: starEach es X.env
  plain : (backTo cpos (starEach es X.env)).any (·.1) = false
theorem g_append (i : Nat) (hN : X.N[i]? = some x) (hv : Vis X.env.scope x) (h : GW X m e f) (M : Ml X (.Name x p2) "append" p3 e [] pos) (hd : (x == ("__debug__" : Str)) = false := by decide) (hcd : (x == ("__classdict__" : Str)) = false := by decide) : GE X (.Call (.Attribute (.Name x p2) "append" p3) [e] [] pos) (mApp m i f) :=
  mkE (pe_bm PySem.F.plainAttrs_list PySem.F.slot_list_append PySem.F.type_list_append mt_append (pe_var hN hv hd hcd) (pa_cons h pa_nil M.st) M.base M.few M.line M.st M.plain) (re_append xW)
theorem g_pop (i : Nat) (hN : X.N[i]? = some x) (hv : Vis X.env.scope x) (hd : (x == ("__debug__" : Str)) = false := by decide) (hcd : (x == ("__classdict__" : Str)) = false := by decide) (hbase : attributeBase (.Name x p2) "pop" X.env (eval (.Name x p2) X.env) = eval (.Name x p2) X.env := by rfl) (hline : (p3.endLine == pos.line) = true := by rfl) : GE X (.Call (.Attribute (.Name x p2) "pop" p3) [] [] pos) (mPop i) :=
  mkE (pe_bm0 PySem.F.plainAttrs_list PySem.F.slot_list_pop PySem.F.type_list_pop mt_pop (pe_var hN hv hd hcd) hbase hline) re_pop
theorem g_popAt (i : Nat) (hN : X.N[i]? = some x) (hv : Vis X.env.scope x) (h : GE X e f) (M : Ml X (.Name x p2) "pop" p3 e [] pos) (hd : (x == ("__debug__" : Str)) = false := by decide) (hcd : (x == ("__classdict__" : Str)) = false := by decide) : GE X (.Call (.Attribute (.Name x p2) "pop" p3) [e] [] pos) (mPopAt i f) :=
  mkE (pe_bm PySem.F.plainAttrs_list PySem.F.slot_list_pop PySem.F.type_list_pop mt_popAt (pe_var hN hv hd hcd) (pa_cons h pa_nil M.st) M.base M.few M.line M.st M.plain) (re_popAt xE)
theorem g_app2 (i : Nat) (hN : X.N[i]? = some x) (hv : Vis X.env.scope x) {fj fe : Nt.Env → Option D} (hj : GH X a fj) (hs : PlainIx a) (h : GH X e fe) (M : Ml X (.Subscript (.Name x p2) a p) "append" p3 e [] pos) (hd : (x == ("__debug__" : Str)) = false := by decide) (hcd : (x == ("__classdict__" : Str)) = false := by decide) : GE X (.Call (.Attribute (.Subscript (.Name x p2) a p) "append" p3) [e] [] pos) (mApp2 i fj fe) :=
  mkE (pe_bm PySem.F.plainAttrs_list PySem.F.slot_list_append PySem.F.type_list_append mt_append (pe_ix ix_seq (pe_var hN hv hd hcd) hj hs) (pa_cons h pa_nil M.st) M.base M.few M.line M.st M.plain) (re_app2 xH xH)
theorem g_remove (c : Cok X k) (i : Nat) (hN : X.N[i]? = some x) (hv : Vis X.env.scope x) (h : GE X e f) (M : Ml X (.Name x p2) "remove" p3 e [] pos) (hd : (x == ("__debug__" : Str)) = false := by decide) (hcd : (x == ("__classdict__" : Str)) = false := by decide) : GE X (.Call (.Attribute (.Name x p2) "remove" p3) [e] [] pos) (mRem i f) :=
  mkE (pe_remX (W := fun _ _ _ _ => False) c.calm (fun _ _ ⟨_, _, _, _, _, _, _, _, _, _, _, _, _, _, _, _, w⟩ => w.elim) (pe_var hN hv hd hcd) h M.base M.few M.line M.st M.plain) (re_remove xE)
theorem g_update (i : Nat) (hN : X.N[i]? = some x) (hv : Vis X.env.scope x) (h : GE X e f) (M : Ml X (.Name x p2) "update" p3 e [] pos) (hd : (x == ("__debug__" : Str)) = false := by decide) (hcd : (x == ("__classdict__" : Str)) = false := by decide) : GE X (.Call (.Attribute (.Name x p2) "update" p3) [e] [] pos) (mUpd i f) :=
  mkE (pe_bm PySem.F.plainAttrs_dict PySem.F.slot_dict_update PySem.F.type_dict_update mt_dupdate (pe_var hN hv hd hcd) (pa_cons h pa_nil M.st) M.base M.few M.line M.st M.plain) (re_update xE)
end
/-! ### statements -/
section
variable {g g1 g2 : MoS} {st : Stmt} {rest : List Stmt} {q : Mo Bool}
theorem b_nil : GB X n P [] sPass := mkB pss_nil rs_pass
theorem b_one (h : GS X n P st g) : GB X n P [st] g := pss_one h
theorem b_cons (h : GS X n P st g1) (k : GB X n P rest g2) : GB X n P (st :: rest) (sSeq g1 g2) := mkB (pss_cons h k) (rs_seq xS xS)
theorem s_ret (h : GW X n e f) : GS X n P (.Return (some e) p) (sRet f) := mkS (ps_ret h) (rs_ret xW)
theorem s_if (hc : GT X c q) (h : GB X n P rest g1) {rest2 : List Stmt} (k : GB X n P rest2 g2) : GS X n P (.If c rest rest2 p) (sIf q g1 g2) := mkS (ps_if hc h k) (rs_if xT xS xS)
theorem s_brk : GS X n P (.Break p) sBreak := mkS ps_break rs_break
theorem s_cont : GS X n P (.Continue p) sCont := mkS ps_continue rs_cont
theorem s_pass : GS X n P (.Pass p) sPass := mkS ps_pass rs_pass
theorem s_expr (h : GE X e f) (hs : swapsWith e none pos.line X.env = pure false := by rfl) : GS X n P (.Expr e pos) (sDrop f) := mkS (ps_expr h hs) (rs_drop xE)
theorem s_set (c : Cok X k) (i : Nat) (hi : X.N[i]? = some x) (hx : Loc X.env.scope x) (h : GE X e f) (hP : ∀ j ∈ P, j ∉ [i]) (hs : swapsWith e (some (.Name x p2)) pos.line X.env = pure false := by rfl) (hf : X.fn x = true ∨ X.env.scope.names.lookup x = some .local := by first | exact .inl rfl | exact .inr rfl) : GS X n P (.Assign [.Name x p2] e pos) (sAsg f (fName i)) :=
  mkS (ps_set c.nd hi hx h hs hf) (rs_asg xE rg_name hP)
theorem s_setW (c : Cok X k) (i : Nat) (hi : X.N[i]? = some x) (hx : Loc X.env.scope x) (h : GW X m e f) (hP : ∀ j ∈ P, j ≠ i) (hs : swapsWith e (some (.Name x p2)) pos.line X.env = pure false := by rfl) (hf : X.fn x = true ∨ X.env.scope.names.lookup x = some .local := by first | exact .inl rfl | exact .inr rfl) : GS X n P (.Assign [.Name x p2] e pos) (sSetW m i f) :=
  mkS (ps_set c.nd hi hx h hs hf) (rs_setW xW hP)
theorem s_asg {tg : Expr} {T : List Nat} {gt : TG} {set : D → Nt.Env → Option Nt.Env} (h : GE X e f) (hg : GG X tg T gt set) (hP : ∀ j ∈ P, j ∉ T) (hs : swapsWithSole [tg] e pos.line X.env = pure false := by rfl) (hw : swappedStores [tg] e X.env = pure none := by rfl)
    (h1 : (assignEach [tg] X.env).map (·.2) = [assign tg X.env] := by rfl) : GS X n P (.Assign [tg] e pos) (sAsg f set) := mkS (ps_asg h hg.1 hs hw h1) (rs_asg xE hg.2 hP)
theorem s_for (c : Cok X k) {tg iter : Expr} {T : List Nat} {gt : TG} {set : D → Nt.Env → Option Nt.Env} {it : Mo (List D)} (hp : PassesOwn (model X.prog X.w) X.A X.env X.xe) (hi : GI X tg iter it) (hg : GG X tg T gt set) (hb : GB X n P rest g) (hP : ∀ j ∈ P, j ∉ T)
    (hs : ∀ x, foldedSetIterable iter X.env x = pure x := by intro _; rfl) : GS X n P (.For tg iter rest [] pos) (sForIn it set g) := mkS (ps_for hp c.calm hi hg.1 hb hs) (rs_for xI hg.2 xS hP)
theorem s_while {cnd : Expr} (mu : Nt.Env → Nat) (hp : PassesOwn (model X.prog X.w) X.A X.env X.xe) (hc : GT X cnd q) (hb : GB X n P rest g) : GS X n P (.While cnd rest [] pos) (sWhile mu q g) := mkS (ps_while hp hc hb) (rs_while xT xS)
theorem s_forget (l : List Nat) (h : GS X n P st g) : GS X n P st (sFor l g) := mkS h (rs_forget l xS)
/-- x[i] = e -/
theorem s_store (i : Nat) (hN : X.N[i]? = some x) (hv : Vis X.env.scope x) (h : GE X e f) {fj : Nt.Env → Option D} (hj : GH X a fj) (hd : (x == ("__debug__" : Str)) = false := by decide) (hcd : (x == ("__classdict__" : Str)) = false := by decide)
    (ha : ∀ v, assign (.Subscript (.Name x p2) a p) X.env v = (do
      let ov ← holding [v] (eval (.Name x p2) X.env)
      let iv ← holding [v, ov] (eval a X.env)
      standAt p
      holding [v, ov, iv] (setItem ov iv v)
      release [v, ov, iv] []) := by intro _; rfl) (hs : swapsWithSole [.Subscript (.Name x p2) a p] e pos.line X.env = pure false := by rfl) (hw : swappedStores [.Subscript (.Name x p2) a p] e X.env = pure none := by rfl)
    (h1 : (assignEach [.Subscript (.Name x p2) a p] X.env).map (·.2) = [assign (.Subscript (.Name x p2) a p) X.env] := by rfl) : GS X n P (.Assign [.Subscript (.Name x p2) a p] e pos) (sStore i f fj) :=
  mkS (ps_asg h (pg_sub (pe_var hN hv hd hcd) hj set_list ha) hs hw h1) (rs_store xE xH)
theorem s_dput (c : Cok X k) (i : Nat) (hN : X.N[i]? = some x) (hv : Vis X.env.scope x) (h : GE X e f) {fj : Nt.Env → Option D} (hj : GH X a fj) (hs : swapsWith e (some (.Subscript (.Name x p2) a p)) pos.line X.env = pure false := by rfl) (hd : (x == ("__debug__" : Str)) = false := by decide) (hcd : (x == ("__classdict__" : Str)) = false := by decide) : GS X n P (.Assign [.Subscript (.Name x p2) a p] e pos) (sDPut1 i f fj) :=
  mkS (ps_dput (by have := c.un; omega) (pe_var hN hv hd hcd) hj h hs) (rs_dput xE xH)
variable {kt k2 : Nat} {px py pz pt pt2 : Pos} {z : Str} {l n1 n2 n3 : Nat} {gs : Mo (List D)}
theorem s_par2 (c : Cok X k) (i j : Nat) (hi : X.N[i]? = some x) (hj : X.N[j]? = some y) (hij : i ≠ j) (hx : X.env.scope.names.lookup x = some .local) (hy : X.env.scope.names.lookup y = some .local) (h : GAW X [n1, n2] [a, b] gs) (hP : ∀ k ∈ P, k ∉ [i, j])
    (hw : swappedStores [.Tuple [.Name x px, .Name y py] kt pt] (.Tuple [a, b] k2 pt2) X.env = pure (some [x, y]) := by rfl) (hs : swapsWithSole [.Tuple [.Name x px, .Name y py] kt pt] (.Tuple [a, b] k2 pt2) pos.line X.env = pure false := by rfl) : GS X n P (.Assign [.Tuple [.Name x px, .Name y py] kt pt] (.Tuple [a, b] k2 pt2) pos) (sPar [n1, n2] [i, j] gs) :=
  mkS (ps_par c.calm c.nd hi hj hij hx hy h hw hs) (rs_par2 xAw hP)
theorem s_par3 (ck : Cok X k) (i j l : Nat) (hi : X.N[i]? = some x) (hj : X.N[j]? = some y) (hl : X.N[l]? = some z) (hij : i ≠ j) (hil : i ≠ l) (hjl : j ≠ l) (hx : X.env.scope.names.lookup x = some .local) (hy : X.env.scope.names.lookup y = some .local) (hz : X.env.scope.names.lookup z = some .local) (h : GAW X [n1, n2, n3] [a, b, c] gs) (hP : ∀ k ∈ P, k ∉ [i, j, l])
    (hw : swappedStores [.Tuple [.Name x px, .Name y py, .Name z pz] kt pt] (.Tuple [a, b, c] k2 pt2) X.env = pure (some [x, y, z]) := by rfl) (hs : swapsWithSole [.Tuple [.Name x px, .Name y py, .Name z pz] kt pt] (.Tuple [a, b, c] k2 pt2) pos.line X.env = pure false := by rfl) : GS X n P (.Assign [.Tuple [.Name x px, .Name y py, .Name z pz] kt pt] (.Tuple [a, b, c] k2 pt2) pos) (sPar [n1, n2, n3] [i, j, l] gs) :=
  mkS (ps_par3 ck.calm ck.nd hi hj hl hij hil hjl hx hy hz h hw hs) (rs_par3 xAw hP)
/-- .. by a real tuple; the targets are names -/
inductive Names (X : Cx) : List Expr → List Nat → Prop
  | nil : Names X [] []
  | cons {x : Str} {p : Pos} {es : List Expr} {i : Nat} {is : List Nat} (hi : X.N[i]? = some x) (hx : Loc X.env.scope x) (hf : X.fn x = true ∨ X.env.scope.names.lookup x = some .local) (hs : (assignEach (.Name x p :: es) X.env).map (·.2) = assign (.Name x p) X.env :: (assignEach es X.env).map (·.2)) (r : Names X es is) : Names X (.Name x p :: es) (i :: is)
theorem Names.pg {ts : List Expr} {is : List Nat} (c : Cok X k) (h : Names X ts is) : PGs X ts (gNames is) := by
  induction h with
  | nil => exact pgs_nil
  | cons hi hx hf hs r ih => exact pgs_cons (pg_name c.nd hi hx hf) ih hs
theorem s_parT (c : Cok X k) {ts : List Expr} {is ns : List Nat} {kk : Nat} (N : Names X ts is) (h : GAW X ns es gs) (hP : ∀ k ∈ P, k ∉ is) (hl : is.length = kk) (hn : ns.length = kk) (hk : kk ≤ 1000) (hn2 : (assignEach ts X.env).length = kk := by rfl) (hst : (assignEach ts X.env).findIdx? (·.1) = none := by rfl)
    (hs : swapsWithSole [.Tuple ts kt pt] (.Tuple es k2 pt2) pos.line X.env = pure false := by rfl) (hw : swappedStores [.Tuple ts kt pt] (.Tuple es k2 pt2) X.env = pure none := by rfl)
    (h1 : (assignEach [.Tuple ts kt pt] X.env).map (·.2) = [assign (.Tuple ts kt pt) X.env] := by rfl) : GS X n P (.Assign [.Tuple ts kt pt] (.Tuple es k2 pt2) pos) (sPar ns is gs) :=
  mkS (ps_asg (pe_tup h) (pg_seq c.calm (N.pg c) hn2 hst) hs hw h1) (rs_parT xAw hP hl hn hk)
end
/-! ### defs -/
section
variable {Pr : Program} {w : World} {K : PySem.W.Frag} {mg : Str → Option Value} {base : Heap} {nm qual : Str} {st : Stmt} {fa : Addr} {fd : FuncData} {N ps : List Str} {g : MoS}
theorem cxG_ok {cdv : Value} {A : Around} {outer : List PySem.Env} {s : Shared} {H : Hp} (nd : N.Nodup) (hg : A.guards = some []) (hr : Room k (A.deeper (envOfC qual (defScope st) s.heap.objs.size fa cdv))) : Cok (cxG Pr w K mg base N qual (defScope st) fa cdv A outer s H) k := ⟨rfl, nd, hg, hr⟩
theorem pre_len (S : FnScope N ps (defScope st)) : ps.length ≤ N.length := by
  have h := congrArg List.length S.pre
  rw [List.length_take] at h
  omega
theorem fn_F {F : List D → Option D} (Fu : Fun K nm qual st fa fd) (S : FnScope N ps (defScope st)) (hm : ps.length = m) (hb : ∀ cdv A outer s H, Cok (cxG Pr w K mg base N qual (defScope st) fa cdv A outer s H) k → GB (cxG Pr w K mg base N qual (defScope st) fa cdv A outer s H) n [] (defBody st) g)
    (hF : ∀ ds z, ds.length = m → F ds = some z → runF N.length g ds = some z) : FnG Pr w K mg base (k + 1) fa fd ps (spF K m n F) :=
  fnG_of Fu S (spF_len hm) fun cdv A outer s H vs Q hgd hr hsp => ⟨_, hb cdv A outer s H (cxG_ok S.nd hgd hr), rsF (ps := ps) xS (by have := pre_len S; omega) hF hsp⟩
theorem fn_I {r : Nat} {F : D → List D → Option (D × D)} (Fu : Fun K nm qual st fa fd) (S : FnScope N ps (defScope st)) (hm : ps.length = m + 1) (hb : ∀ cdv A outer s H, Cok (cxG Pr w K mg base N qual (defScope st) fa cdv A outer s H) k → GB (cxG Pr w K mg base N qual (defScope st) fa cdv A outer s H) n [0] (defBody st) g)
    (hF : ∀ s ds z, ds.length = m → F s ds = some z → runI N.length r g s ds = some z) : FnG Pr w K mg base (k + 1) fa fd ps (spI K m n r F) :=
  fnG_of Fu S (spI_len hm) fun cdv A outer s H vs Q hgd hr hsp => ⟨_, hb cdv A outer s H (cxG_ok S.nd hgd hr), rsI (ps := ps) xS (by have := pre_len S; omega) hF hsp⟩
end
end
end Nt

/-! more rules: chains, what is walked whatever it is, moves, truth, subscripts and * whatever they are -/
namespace Nt
open PySem PySem.Spec PyProof.Rows L2

section
variable {X : Cx} {k n m : Nat} {e a b c : Expr} {es : List Expr} {pos p p2 p3 : Pos} {f fa fb fc : Mo D} {oa ob oc : Mo Opd} {fs : Mo (List Opd)} {P : List Nat} {i j : Nat} {x y : Str}
/-- a comparison of whole numbers -/
structure IC (op : CmpOp) (g : Int → Int → Bool) : Prop where
  ok : ∀ X : Cx, OpR X (compareOp op) (rI0 fun i j => .bl (g i j))
theorem cLt : IC .Lt fun i j => decide (i < j) := ⟨fun _ => op_lt⟩
theorem cLe : IC .LtE fun i j => decide (i ≤ j) := ⟨fun _ => op_le⟩
theorem cGt : IC .Gt fun i j => decide (j < i) := ⟨fun _ => op_gt⟩
theorem cGe : IC .GtE fun i j => decide (j ≤ i) := ⟨fun _ => op_ge⟩
def dB (g : Int → Int → Bool) : D → D → Option D := dI (fun _ _ => true) fun i j => .bool (g i j)
theorem g_chain {o1 o2 : CmpOp} {g1 g2 : Int → Int → Bool} (C1 : IC o1 g1) (C2 : IC o2 g2) (ha : GO X a oa) (hb : GO X b ob) (hc : GO X c oc) (hm : lastMarks [o1, o2] [b, c] = false := by with_unfolding_all rfl) : GE X (.Compare a [o1, o2] [b, c] p) (mChain (dB g1) (dB g2) oa ob oc) :=
  mkE (pe_chain (C1.ok X) (C2.ok X) ha hb hc hm) (re_chain xO xO xO ok_ib ok_ib)
theorem q_chain {o1 o2 : CmpOp} {g1 g2 : Int → Int → Bool} (C1 : IC o1 g1) (C2 : IC o2 g2) (ha : GO X a oa) (hb : GO X b ob) (hc : GO X c oc) (hm : lastMarks [o1, o2] [b, c] = false := by with_unfolding_all rfl) : GT X (.Compare a [o1, o2] [b, c] p) (mTest (mChain (dB g1) (dB g2) oa ob oc)) :=
  mkT (pt_chain (C1.ok X) (C2.ok X) ha hb hc hm) (rt_test (re_chain xO xO xO ok_ib ok_ib))
/-- a list or a tuple is walked -/
def iS (f : Mo D) : Mo (List D) := fun ρ => match f ρ with
  | some (.list ds, ρ1) => some (ds, ρ1)
  | some (.tuple ds, ρ1) => some (ds, ρ1)
  | _ => none
theorem i_s {tg : Expr} (h : GE X e f) : GI X tg e (iS f) := ⟨fun pins s σ H R I q => by
  obtain ⟨ρ, ds, ρ', G, fp, e1, S, k⟩ := q
  unfold iS at e1
  split at e1
  · rename_i ds1 ρ1 e2
    cases e1
    exact (i_l (tg := tg) h).run pins s σ H R I ⟨ρ, ds, ρ', G, fp, by unfold iL; rw [e2], S, k⟩
  · rename_i ds1 ρ1 e2
    cases e1
    exact (i_t (tg := tg) h).run pins s σ H R I ⟨ρ, ds, ρ', G, fp, by unfold iT; rw [e2], S, k⟩
  · cases e1⟩
/-- a name's data move out of it -/
def mMv (n i : Nat) : Mo D := fun ρ => match ρ[i]? with
  | some (.ow m d) => if m = n then some (d, ρ.set i .un) else none
  | _ => none
theorem rw_mv {K : PySem.W.Frag} {n i : Nat} : RW K n (tVar i) (mMv n i) := fun ρ d ρ' e σ G H fp S Q q => by
  unfold mMv at e
  split at e
  · rename_i m d1 e1
    split at e
    · rename_i hm
      subst hm
      cases e
      obtain ⟨v, e2, ow⟩ := S.owd e1
      refine ⟨v, e2, q v G H _ (fp i) ⟨Sub.refl G, fun _ _ _ => rfl, fun _ h => h, fun j a h => ?_, fun a h => .inl h⟩ (S.un1 i) ow ⟨S.nod i, S.fr i, fun a ha j hj => ?_, fun a ha => .inl ⟨i, ha⟩⟩⟩
      · by_cases hj : j = i
        · subst hj; rw [fset_same] at h; cases h
        · rw [fset_ne hj] at h; exact .inl ⟨j, h⟩
      · by_cases hji : j = i
        · subst hji; rw [fset_same] at hj; cases hj
        · rw [fset_ne hji] at hj; exact hji (S.dis j i a hj ha)
    · cases e
  · cases e
theorem w_mv (i : Nat) (hN : X.N[i]? = some x) (hv : Vis X.env.scope x) (hd : (x == ("__debug__" : Str)) = false := by decide) (hcd : (x == ("__classdict__" : Str)) = false := by decide) : GW X n (.Name x p) (mMv n i) := mkW (pe_var hN hv hd hcd) rw_mv
/-- a[b], a list, a tuple, a dict -/
def dGetX (d k : D) : Option D := match d with
  | .dict _ => dDG d k
  | _ => dIx d k
theorem m2_mk {r : Nt.Env → Opd → Option D} {g : D → D → Option D} {fa fb : Mo Opd} {ρ ρ1 ρ' : Nt.Env} {a b : Opd} {x y z : D} (h1 : fa ρ = some (a, ρ1)) (h2 : fb ρ1 = some (b, ρ')) (h3 : r ρ' a = some x) (h4 : r ρ' b = some y) (h5 : g x y = some z) : m2 r g fa fb ρ = some (z, ρ') := by
  unfold m2
  rw [h1]
  simp only [h2, h3, h4, h5]
theorem g_sub' (c : Cok X k) (ha : GO X a oa) (hb : GO X b ob) (hs : PlainIx b) (hs2 : NoSl b) : GE X (.Subscript a b p) (m2 rs1 dGetX oa ob) := ⟨fun pins s σ H Q I q => by
  obtain ⟨ρ, d, ρ', G, fp, e1, S, k⟩ := q
  obtain ⟨o1, ρ1, o2, x, y, q1, q2, q3, q4, q5⟩ := m2_some e1
  by_cases hd : ∃ kvs, x = .dict kvs
  · obtain ⟨kvs, rfl⟩ := hd
    exact (g_dget c ha hb hs2).run pins s σ H Q I ⟨ρ, d, ρ', G, fp, m2_mk q1 q2 q3 q4 q5, S, k⟩
  · refine (g_ix ha hb hs).run pins s σ H Q I ⟨ρ, d, ρ', G, fp, m2_mk q1 q2 q3 q4 ?_, S, k⟩
    rw [← q5]
    cases x <;> first | rfl | exact absurd ⟨_, rfl⟩ hd⟩
theorem g_subS (c : Cok X k) (ha : GO X a oa) (hb : GO X b ob) (hs : PlainIx b := by intro _ _; rfl) (hs2 : NoSl b := by intro _ _; rfl) : GE X (.Subscript a b p) (m2 rs1 dGetX oa ob) := g_sub' c ha hb hs hs2
theorem rs1_rs {ρ : Nt.Env} {o : Opd} {d : D} (h : rs1 ρ o = some d) : rs ρ o = some d := by
  cases o with
  | val d' => exact h
  | sl i =>
    simp only [rs1] at h
    simp only [rs]
    split at h <;> first | exact h | cases h
    · rename_i e; rw [e]
    · rename_i e; rw [e]
    · rename_i e; rw [e]
/-- a * b -/
def dMulX (d e : D) : Option D := match d with
  | .tuple _ => dRep d e
  | _ => dMul d e
theorem g_mulX (ha : GO X a oa) (hb : GO X b ob) : GE X (.BinOp a .Mult b p) (m2 rs1 dMulX oa ob) := ⟨fun pins s σ H Q I q => by
  obtain ⟨ρ, d, ρ', G, fp, e1, S, k⟩ := q
  obtain ⟨o1, ρ1, o2, x, y, q1, q2, q3, q4, q5⟩ := m2_some e1
  by_cases hd : ∃ kvs, x = .tuple kvs
  · obtain ⟨kvs, rfl⟩ := hd
    exact (g_rep ha hb).run pins s σ H Q I ⟨ρ, d, ρ', G, fp, m2_mk q1 q2 q3 q4 q5, S, k⟩
  · refine (g_mul ha hb).run pins s σ H Q I ⟨ρ, d, ρ', G, fp, m2_mk q1 q2 (rs1_rs q3) (rs1_rs q4) ?_, S, k⟩
    rw [← q5]
    cases x <;> first | rfl | exact absurd ⟨_, rfl⟩ hd⟩
/-- [..] * n -/
def mRepL (oa ob : Mo Opd) : Mo D := m2 rs1 (fun d e => match d, e with
  | .list ds, .int k => if k ≤ 16777216 ∧ -16777216 ≤ k ∧ ds.length * k.toNat ≤ 16777216 then some (.list (List.replicate k.toNat ds).flatten) else none
  | _, _ => none) oa ob
theorem w_repL (ha : GO X a oa) (hb : GO X b ob) : GW X 1 (.BinOp a .Mult b p) (mRepL oa ob) := mkW (pe_op op_rep ha hb) (rw_opL xO xO fun G H v w d e z s r1 r2 hz Q q => by
  split at hz
  · rename_i ds k
    split at hz
    · rename_i hk
      cases hz
      obtain ⟨l, vs, rfl, h1, p1⟩ := r1.list s
      cases r2.int
      have hsz : sizeLine = 16777216 := sizeLine_eq
      exact ⟨l, k, vs, rfl, rfl, h1, by omega, by omega, by rw [p1.length, hsz]; exact hk.2.2, fun p hp => q p _ _ hp rfl (p1.rep k.toNat)⟩
    · cases hz
  · cases hz)
/-- the truth of a value -/
def truD : D → Option Bool
  | .none => some false
  | .bool b => some b
  | .int i => some (i != 0)
  | .list ds => some (!ds.isEmpty)
  | .tuple ds => some (!ds.isEmpty)
  | .dict ds => some (!ds.isEmpty)
  | .str _ => none
def mTru (oa : Mo Opd) : Mo Bool := fun ρ => match oa ρ with
  | none => none
  | some (o, ρ1) => match rs ρ1 o with
    | none => none
    | some d => match truD d with
      | some b => some (b, ρ1)
      | none => none
theorem RpA.empty {K : PySem.W.Frag} {G : Hp} {vs : List V} {ds : List D} (r : RpA K G vs ds) : vs.isEmpty = ds.isEmpty := by cases r <;> rfl
theorem RpK.empty {K : PySem.W.Frag} {G : Hp} {vs : List (Key × V)} {ds : List (D × D)} (r : RpK K G vs ds) : vs.isEmpty = ds.isEmpty := by cases r <;> rfl
theorem tru_rp {K : PySem.W.Frag} {H : Hp} {v : V} {d : D} {b : Bool} (r : Rp K H v d) (h : truD d = some b) : TruV K v H b := by
  cases r with
  | non => cases h; rfl
  | bl b => cases h; rfl
  | int i => cases h; rfl
  | str x => cases h
  | lst e r => cases h; exact .inl ⟨_, SqL.of e, by rw [r.empty]⟩
  | tup e r => cases h; exact .inr (.inl ⟨_, e.sqT, by rw [r.empty]⟩)
  | dic e r => cases h; exact .inr (.inr ⟨_, e, by rw [r.empty]⟩)
theorem q_tru (h : GO X e oa) (he : ∀ whole, isTrue e X.env whole = (do let v ← whole; standAt e.pos; holding [v] (truthy v)) := by intro _; rfl) : GT X e (mTru oa) := mkT (pt_truth h he) fun ρ d ρ' e σ G H fp S Q q => by
  unfold mTru at e
  split at e
  · cases e
  · rename_i o ρ1 e1
    split at e
    · cases e
    · rename_i d1 e2
      split at e
      · rename_i b e3
        cases e
        exact xO ρ _ _ e1 σ G H fp S _ fun v G1 H1 fp1 st1 S1 r1 => ⟨_, tru_rp (rs_rp S1 r1 e2) e3, q G1 H1 fp1 st1 S1⟩
      · cases e
end
end Nt

/-! the laws' source of draws: a dict of four items, the first of them a list of its own -/
namespace Nt
open PySem PySem.Spec PyProof.Rows L2

def srcD (cs : List D) (l m t : Int) : D := .dict [(.str "cells", .list cs), (.str "left", .int l), (.str "mixed", .int m), (.str "turn", .int t)]
def srcV (b : Addr) (l m t : Int) : List (Key × V) := [(.inr "cells", .ref b), (.inr "left", .int l), (.inr "mixed", .int m), (.inr "turn", .int t)]
def kC : Str := "cells"
def kL : Str := "left"
def kM : Str := "mixed"
def kT : Str := "turn"
def asSrc : D → Option (List D × Int × Int × Int)
  | .dict [(.str a, .list cs), (.str b, .int l), (.str c, .int m), (.str d, .int t)] => if a = "cells" ∧ b = "left" ∧ c = "mixed" ∧ d = "turn" then some (cs, l, m, t) else none
  | _ => none
theorem asSrc_src (cs : List D) (l m t : Int) : asSrc (srcD cs l m t) = some (cs, l, m, t) := by
  unfold srcD asSrc
  simp
theorem asSrc_ok {d : D} {cs : List D} {l m t : Int} (h : asSrc d = some (cs, l, m, t)) : d = srcD cs l m t := by
  unfold asSrc at h
  split at h
  · split at h
    · rename_i hk
      obtain ⟨rfl, rfl, rfl, rfl⟩ := hk
      cases h
      rfl
    · cases h
  · cases h
section
variable {K : PySem.W.Frag} {ρ : Nt.Env} {σ : L2.St} {G H : Hp} {fp : Fp} {i : Nat} {cs : List D} {l m t : Int}
theorem kD_str {k : Key} {x : Str} (h : kD k = .str x) : k = .inr x := by
  cases k <;> simp only [kD, PyData.str.injEq, reduceCtorEq] at h
  rw [h]
theorem Ow.src {v : V} {f : List Addr} (h : Ow K G H 2 v (srcD cs l m t) f) : ∃ a b vs, v = .ref a ∧ f = [a, b] ∧ H a = some (.dK (srcV b l m t)) ∧ H b = some (.lst vs) ∧ RpA K G vs cs := by
  obtain ⟨a, ks, g, e1, e2, e3, e4, e5⟩ := h.dicN
  rcases ks with _ | ⟨⟨k1, v1⟩, _ | ⟨⟨k2, v2⟩, _ | ⟨⟨k3, v3⟩, _ | ⟨⟨k4, v4⟩, _ | ⟨⟨k5, v5⟩, ks⟩⟩⟩⟩⟩
  · simp at e4
  · simp at e4
  · simp at e4
  · simp at e4
  · simp only [List.map_cons, List.map_nil, List.cons.injEq, and_true] at e4
    obtain ⟨h1, h2, h3, h4⟩ := e4
    cases kD_str h1.symm
    cases kD_str h2.symm
    cases kD_str h3.symm
    cases kD_str h4.symm
    simp only [List.map_cons, List.map_nil] at e5
    cases e5 with
    | @cons _ _ _ _ f1 g1 o1 e5 =>
      cases e5 with
      | @cons _ _ _ _ f2 g2 o2 e5 =>
        cases e5 with
        | @cons _ _ _ _ f3 g3 o3 e5 =>
          cases e5 with
          | @cons _ _ _ _ f4 g4 o4 e5 =>
            cases e5
            obtain ⟨b, vs, rfl, rfl, hb, r⟩ := o1.lst1
            have sc : ∀ {v : V} {i : Int} {f : List Addr}, Ow K G H 1 v (.int i) f → v = .int i ∧ f = [] := fun {v i f} o => by
              rcases o with ⟨_, e, r⟩ | ⟨_, _, _, _, _, e, _⟩ | ⟨_, _, _, _, _, e, _⟩
              · exact ⟨r.int', e⟩
              · cases e
              · cases e
            obtain ⟨rfl, rfl⟩ := sc o2
            obtain ⟨rfl, rfl⟩ := sc o3
            obtain ⟨rfl, rfl⟩ := sc o4
            exact ⟨a, b, vs, e1, e2, e3, hb, r⟩
  · simp at e4
theorem Ow.mkSrc {a b : Addr} {vs : List V} (ha : H a = some (.dK (srcV b l m t))) (hb : H b = some (.lst vs)) (r : RpA K G vs cs) : Ow K G H 2 (.ref a) (srcD cs l m t) [a, b] := by
  have z : ∀ i : Int, Ow K G H 1 (.int i) (.int i) [] := fun i => .inl ⟨rfl, rfl, .int i⟩
  refine .inr (.inr ⟨a, srcV b l m t, _, [b], rfl, rfl, rfl, ha, rfl, ?_⟩)
  exact OwL.cons (f := [b]) (g := []) (Ow.new1 hb r) (OwL.cons (f := []) (g := []) (z l) (OwL.cons (f := []) (g := []) (z m) (OwL.cons (f := []) (g := []) (z t) .nil)))
theorem Sat.src (S : Sat K ρ σ G H fp) (e : ρ[i]? = some (.ow 2 (srcD cs l m t))) : ∃ a b vs, σ[i]? = some (some (.ref a)) ∧ fp i = [a, b] ∧ H a = some (.dK (srcV b l m t)) ∧ H b = some (.lst vs) ∧ RpA K G vs cs ∧ a ≠ b := by
  obtain ⟨v, e1, ow⟩ := S.owd e
  obtain ⟨a, b, vs, rfl, e2, ha, hb, r⟩ := ow.src
  refine ⟨a, b, vs, e1, e2, ha, hb, r, fun z => ?_⟩
  rw [z, hb] at ha
  cases ha
/-- the source changes -/
theorem Sat.resrc {H' : Hp} {a b : Addr} {vs : List V} {cs' : List D} {l' m' t' : Int} (S : Sat K ρ σ G H fp) (e : ρ[i]? = some (.ow 2 (srcD cs l m t))) (ea : σ[i]? = some (some (.ref a))) (ef : fp i = [a, b])
    (hH : ∀ c, c ≠ a → c ≠ b → H' c = H c) (ha : H' a = some (.dK (srcV b l' m' t'))) (hb : H' b = some (.lst vs)) (r : RpA K G vs cs') :
    Sat K (ρ.set i (.ow 2 (srcD cs' l' m' t'))) σ G H' fp ∧ Stp G H fp G H' fp := by
  have hi : i < ρ.length := (List.getElem?_eq_some_iff.mp e).1
  have out : ∀ {j c}, j ≠ i → c ∈ fp j → H' c = H c := fun {j c} hj hc => hH c (fun z => hj (S.dis j i c hc (by rw [ef, z]; simp))) (fun z => hj (S.dis j i c hc (by rw [ef, z]; simp)))
  have inn : ∀ {c}, G c ≠ none → H' c = H c := fun {c} hc => hH c (fun z => hc (by rw [z]; exact S.fr i a (by rw [ef]; simp))) (fun z => hc (by rw [z]; exact S.fr i b (by rw [ef]; simp)))
  refine ⟨⟨by rw [List.length_set]; exact S.len, fun j s q => ?_, fun j hj => S.out j (by rw [List.length_set] at hj; exact hj), S.dis, S.nod, S.fr, fun c o q => ?_⟩, Sub.refl G, fun c hc _ => ?_, fun c hc => ?_, fun j c h => .inl ⟨j, h⟩, fun c h => .inl h⟩
  · by_cases hj : j = i
    · subst hj
      rw [List.getElem?_set_self hi] at q
      cases q
      exact ⟨.ref a, ea, by rw [ef]; exact Ow.mkSrc ha hb r⟩
    · rw [List.getElem?_set_ne (Ne.symm hj)] at q
      exact (S.sl j s q).mono (Sub.refl G) fun c hc => out hj hc
  · rw [inn (by rw [q]; simp)]
    exact S.sub c o q
  · exact hH c (fun z => hc i (by rw [ef, z]; simp)) (fun z => hc i (by rw [ef, z]; simp))
  · by_cases h1 : c = a
    · rw [h1, ha]; simp
    · by_cases h2 : c = b
      · rw [h2, hb]; simp
      · rw [hH c h1 h2]; exact hc
/-! ### source["left"], source["mixed"], source["turn"] -/
def fld (k : Str) (l m t : Int) : Option Int := if k = "left" then some l else if k = "mixed" then some m else if k = "turn" then some t else none
theorem fld_at {b : Addr} {k : Str} {z : Int} (h : fld k l m t = some z) : valV (srcV b l m t) (.inr k) = some (.int z) := by
  unfold fld at h
  split at h
  · rename_i e; subst e; cases h; rfl
  · split at h
    · rename_i e; subst e; cases h; rfl
    · split at h
      · rename_i e; subst e; cases h; rfl
      · cases h
def mSG (i : Nat) (k : Str) : Mo D := fun ρ => match ρ[i]? with
  | some (.ow 2 d) => match asSrc d with
    | some (_, l, m, t) => match fld k l m t with
      | some z => some (.int z, ρ)
      | none => none
    | none => none
  | _ => none
theorem re_sg {k : Str} : RE K (tDGet (tVar i) (tC (.str k))) (mSG i k) := fun ρ d ρ' e σ G H fp S Q q => by
  unfold mSG at e
  split at e
  · rename_i d1 e0
    split at e
    · rename_i cs l m t e1
      split at e
      · rename_i z e2
        cases e
        have := asSrc_ok e1
        subst this
        obtain ⟨a, b, vs, ea, ef, ha, hb, r, hne⟩ := S.src e0
        exact ⟨.ref a, ea, a, .int z, rfl, by rw [← fld_at (b := b) e2]; exact DGet.k (k := .inr k) ha, q _ G H fp (Stp.refl _ _ _) S (.int z)⟩
      · cases e
    · cases e
  · cases e
/-- len(source["cells"]) -/
def mSLen (i : Nat) : Mo D := fun ρ => match ρ[i]? with
  | some (.ow 2 d) => match asSrc d with
    | some (cs, _, _, _) => some (.int cs.length, ρ)
    | none => none
  | _ => none
theorem re_slen : RE K (tCB (fun xs H Q => ∃ p ys, xs = [.ref p] ∧ (SqL K H p ys ∨ SqT K H p ys) ∧ Q (.int ys.length) H) (tCons (tDGet (tVar i) (tC (.str "cells"))) tNil)) (mSLen i) := fun ρ d ρ' e σ G H fp S Q q => by
  unfold mSLen at e
  split at e
  · rename_i d1 e0
    split at e
    · rename_i cs l m t e1
      cases e
      have := asSrc_ok e1
      subst this
      obtain ⟨a, b, vs, ea, ef, ha, hb, r, hne⟩ := S.src e0
      exact ⟨.ref a, ea, a, .ref b, rfl, DGet.k (k := .inr "cells") ha, b, vs, rfl, .inl (SqL.of hb), by rw [r.length]; exact q _ G H fp (Stp.refl _ _ _) S (.int _)⟩
    · cases e
  · cases e
/-- source["cells"].pop() -/
def mSPop (i : Nat) : Mo D := fun ρ => match ρ[i]? with
  | some (.ow 2 d) => match asSrc d with
    | some (cs, l, m, t) => match cs.getLast? with
      | some c => some (c, ρ.set i (.ow 2 (srcD cs.dropLast l m t)))
      | none => none
    | none => none
  | _ => none
theorem re_spop : RE K (tBM0 K "list" rPop (tDGet (tVar i) (tC (.str "cells")))) (mSPop i) := fun ρ d ρ' e σ G H fp S Q q => by
  unfold mSPop at e
  split at e
  · rename_i d1 e0
    split at e
    · rename_i cs l m t e1
      split at e
      · rename_i c e2
        cases e
        have := asSrc_ok e1
        subst this
        obtain ⟨a, b, vs, ea, ef, ha, hb, r, hne⟩ := S.src e0
        rw [List.getLast?_eq_getElem?, ← r.length] at e2
        obtain ⟨v, hv, rv⟩ := r.get e2
        obtain ⟨S', st'⟩ := S.resrc (H' := upd H b (.lst vs.dropLast)) e0 ea ef (fun c _ h2 => upd_ne h2) ((upd_ne hne).trans ha) upd_same r.dropLast
        exact ⟨.ref a, ea, a, .ref b, rfl, DGet.k (k := .inr "cells") ha, tyL hb, b, vs, v, rfl, rfl, hb, hv, q v G _ _ st' S' rv⟩
      · cases e
    · cases e
  · cases e
/-- source[k] = e -/
def putF (k : Str) (z l m t : Int) : Option (Int × Int × Int) := if k = "left" then some (z, m, t) else if k = "mixed" then some (l, z, t) else if k = "turn" then some (l, m, z) else none
theorem putF_at {b : Addr} {k : Str} {z l' m' t' : Int} (h : Nt.putF k z l m t = some (l', m', t')) : putK (srcV b l m t) (.inr k) (.int z) = srcV b l' m' t' := by
  unfold Nt.putF at h
  split at h
  · rename_i e; subst e; cases h; rfl
  · split at h
    · rename_i e; subst e; cases h; rfl
    · split at h
      · rename_i e; subst e; cases h; rfl
      · cases h
def sSPut (i : Nat) (k : Str) (f : Mo D) : MoS := fun ρ => match f ρ with
  | some (.int z, ρ1) => match ρ1[i]? with
    | some (.ow 2 d) => match asSrc d with
      | some (cs, l, m, t) => match Nt.putF k z l m t with
        | some (l', m', t') => some (.nx (ρ1.set i (.ow 2 (srcD cs l' m' t'))))
        | none => none
      | none => none
    | _ => none
  | _ => none
theorem rs_sput {n : Nat} {P : List Nat} {te : TE} {f : Mo D} {k : Str} (h : RE K te f) : RS K n P (sDPut (tVar i) (tC (.str k)) te) (sSPut i k f) := fun ρ o e σ G H fp S Dn q => by
  unfold sSPut at e
  split at e
  · rename_i z ρ1 e0
    split at e
    · rename_i d1 e1
      split at e
      · rename_i cs l m t e2
        split at e
        · rename_i l' m' t' e3
          cases e
          have := asSrc_ok e2
          subst this
          refine h ρ _ _ e0 σ G H fp S _ fun v G1 H1 fp1 st1 S1 r1 => ?_
          cases r1.int'
          obtain ⟨a, b, vs, ea, ef, ha, hb, r, hne⟩ := S1.src e1
          obtain ⟨S', st'⟩ := S1.resrc (H' := upd H1 a (.dK (srcV b l' m' t'))) e1 ea ef (fun c h1 _ => upd_ne h1) upd_same ((upd_ne (Ne.symm hne)).trans hb) r
          have hp : DPut H1 a (kV (.inr k)) (.int z) (upd H1 a (.dK (srcV b l' m' t'))) := by
            rw [← putF_at (b := b) e3]
            exact DPut.k (k := .inr k) ha (by rw [sizeLine_eq]; show 4 < 16777216; decide)
          exact ⟨.ref a, ea, a, _, rfl, hp, q σ G1 _ _ (st1.trans st') S' fun _ _ => rfl⟩
        · cases e
      · cases e
    · cases e
  · cases e
end
/-! ### text and function -/
section
variable {X : Cx} {k n : Nat} {e : Expr} {p p2 p3 p4 p5 p6 pos : Pos} {f : Mo D} {P : List Nat} {i j : Nat} {x y : Str}
theorem g_sg (c : Cok X k) (i : Nat) (hN : X.N[i]? = some x) (hv : Vis X.env.scope x) (hd : (x == ("__debug__" : Str)) = false := by decide) (hcd : (x == ("__classdict__" : Str)) = false := by decide) : GE X (.Subscript (.Name x p) (.Constant (.str y) j p2) p3) (mSG i y) :=
  mkE (pe_dget (by have := c.un; omega) (pe_var hN hv hd hcd) pe_str (by intro _ _; rfl)) re_sg
theorem g_slen (c : Cok X k) (B : Bt X "len") (i : Nat) (hN : X.N[i]? = some x) (hv : Vis X.env.scope x) (hd : (x == ("__debug__" : Str)) = false := by decide) (hcd : (x == ("__classdict__" : Str)) = false := by decide)
    (hs : starEach [.Subscript (.Name x p) (.Constant (.str "cells") j p2) p3] X.env = (false, eval (.Subscript (.Name x p) (.Constant (.str "cells") j p2) p3) X.env) :: starEach [] X.env := by rfl) : GE X (.Call (.Name "len" p4) [.Subscript (.Name x p) (.Constant (.str "cells") j p2) p3] [] pos) (mSLen i) :=
  mkE (pe_callB call_len_seq B.gl B.mg PySem.boot_len (pa_cons (pe_dget (by have := c.un; omega) (pe_var hN hv hd hcd) pe_str (by intro _ _; rfl)) pa_nil hs) (by decide) (by decide) hs rfl) re_slen
theorem g_spop (c : Cok X k) (i : Nat) (hN : X.N[i]? = some x) (hv : Vis X.env.scope x) (hd : (x == ("__debug__" : Str)) = false := by decide) (hcd : (x == ("__classdict__" : Str)) = false := by decide)
    (hbase : attributeBase (.Subscript (.Name x p) (.Constant (.str "cells") j p2) p3) "pop" X.env (eval (.Subscript (.Name x p) (.Constant (.str "cells") j p2) p3) X.env) = eval (.Subscript (.Name x p) (.Constant (.str "cells") j p2) p3) X.env := by rfl) (hline : (p4.endLine == pos.line) = true := by rfl) :
    GE X (.Call (.Attribute (.Subscript (.Name x p) (.Constant (.str "cells") j p2) p3) "pop" p4) [] [] pos) (mSPop i) :=
  mkE (pe_bm0 PySem.F.plainAttrs_list PySem.F.slot_list_pop PySem.F.type_list_pop mt_pop (pe_dget (by have := c.un; omega) (pe_var hN hv hd hcd) pe_str (by intro _ _; rfl)) hbase hline) re_spop
theorem s_sput (c : Cok X k) (i : Nat) (hN : X.N[i]? = some x) (hv : Vis X.env.scope x) (h : GE X e f) (hs : swapsWith e (some (.Subscript (.Name x p) (.Constant (.str y) j p2) p3)) pos.line X.env = pure false := by rfl) (hd : (x == ("__debug__" : Str)) = false := by decide) (hcd : (x == ("__classdict__" : Str)) = false := by decide) :
    GS X n P (.Assign [.Subscript (.Name x p) (.Constant (.str y) j p2) p3] e pos) (sSPut i y f) :=
  mkS (ps_dput (by have := c.un; omega) (pe_var hN hv hd hcd) pe_str h hs) (rs_sput xE)
end
end Nt

/-! the making of the source; the head of a law over it -/
namespace Nt
open PySem PySem.Spec PyProof.Rows L2

def mixI (m c : Int) : Int := (m * 69069 + c * 31 + 5) % 2147483629
def absI (z : Int) : Int := if z < 0 then -z else z
def mixAll (ns : List Int) : Int := ns.foldl mixI 11
def spSrc (K : PySem.W.Frag) : Sp := fun vs H Q _ => ∃ (a : Addr) (ns : List Int), vs = [.ref a] ∧ SqL K H a (ns.map V.int) ∧ ns.length ≤ 100000 ∧
  ∀ (d c : Addr) (H' : Hp), (∀ b o, H b = some o → H' b = some o) → H d = none → H c = none → d ≠ c → H' d = some (.dK (srcV c 1 (mixAll ns) 0)) → H' c = some (.lst ((ns.map absI).reverse.map V.int)) → Q (.ref d) H'
def rInt1 : List V → Hp → VK → Prop := fun xs H Q => (∃ i, xs = [.int i] ∧ Q (.int i) H) ∨ ∃ k, xs = [.bl k] ∧ Q (.int (if k then 1 else 0)) H
def rAbs : List V → Hp → VK → Prop := fun xs H Q => ∃ i, xs = [.int i] ∧ Q (.int (if i < 0 then -i else i)) H
def tMix : TE := tOp (rI (fun _ j => 0 < j) fun i j => .int (i % j)) (tCB rInt1 (tCons (tOp (rI0 fun i j => .int (i + j)) (tOp (rI0 fun i j => .int (i + j)) (tOp (rI CMul fun i j => .int (i * j)) (tVar 1) (tC (.int 69069))) (tOp (rI CMul fun i j => .int (i * j)) (tVar 2) (tC (.int 31)))) (tC (.int 5))) tNil)) (tC (.int 2147483629))
def tSrc (K : PySem.W.Frag) : TS := tSeq (tAsg (tC (.int 11)) (gName 1)) (tSeq (tFor (iList K (tVar 0)) (gName 2) (tAsg tMix (gName 1)))
  (tRet (tDisp [(tC (.str "cells"), tRevS (rRevL K) (tLc (iList K (tVar 0)) (gName 2) tYes (tCB rAbs (tCons (tVar 2) tNil)) [2])), (tC (.str "left"), tC (.int 1)), (tC (.str "mixed"), tVar 1), (tC (.str "turn"), tC (.int 0))])))
theorem tMix_ok {σ : L2.St} {H : Hp} {Q : VK} {m c : Int} (h1 : σ[1]? = some (some (.int m))) (h2 : σ[2]? = some (some (.int c))) (q : Q (.int (mixI m c)) H) : tMix σ H Q := by
  refine ⟨.int m, h1, ?_⟩
  refine ⟨m, 69069, rfl, rfl, .inr (by omega), ?_⟩
  refine ⟨.int c, h2, ?_⟩
  refine ⟨c, 31, rfl, rfl, .inr (by omega), ?_⟩
  refine ⟨_, _, rfl, rfl, ?_⟩
  refine ⟨_, _, rfl, rfl, ?_⟩
  refine .inl ⟨_, rfl, ?_⟩
  exact ⟨_, _, rfl, rfl, (by decide : (0 : Int) < 2147483629), q⟩
theorem mix_snoc (ns : List Int) (c : Int) : mixAll (ns ++ [c]) = mixI (mixAll ns) c := by
  unfold mixAll
  rw [List.foldl_append]
  rfl
theorem take_snoc {α : Type} {l : List α} {i : Nat} (h : i < l.length) : l.take (i + 1) = l.take i ++ [l[i]] := by
  rw [List.take_succ, List.getElem?_eq_getElem h]
  rfl
theorem sql_keep {K : PySem.W.Frag} {H H' : Hp} {a : Addr} {xs : List V} (h : SqL K H a xs) (k : ∀ b o, H b = some o → H' b = some o) : SqL K H' a xs := by
  rcases h with (h | ⟨o, h⟩) | h
  · exact .inl (.inl (k _ _ h))
  · exact .inl (.inr ⟨o, k _ _ h⟩)
  · exact .inr h
theorem src_t {K : PySem.W.Frag} {vs : List V} {H : Hp} {Q : VK} {E : XK} (h : spSrc K vs H Q E) : tSrc K { nx := fun _ H' => Q .non H', rt := Q } (start ["script", "mixed", "cell"] vs) H := by
  obtain ⟨a, ns, rfl, hS, hl, q⟩ := h
  have hsz : sizeLine = 16777216 := sizeLine_eq
  have ini : start ["script", "mixed", "cell"] [V.ref a] = [some (.ref a), none, none] := rfl
  rw [ini]
  show tFor (iList K (tVar 0)) (gName 2) (tAsg tMix (gName 1)) _ [some (.ref a), some (.int 11), none] H
  refine ⟨.ref a, rfl, a, rfl, ⟨_, hS⟩, fun i m σ H' => m = ns.length - i ∧ i ≤ ns.length ∧ H' = H ∧ ∃ x, σ = [some (.ref a), some (.int (mixAll (ns.take i))), x], ⟨ns.length, by simp, Nat.zero_le _, rfl, none, rfl⟩, ?_⟩
  rintro i m σ H' ⟨rfl, hi, rfl, x, rfl⟩
  by_cases hlt : i < ns.length
  · have hx : (ns.map V.int)[i]? = some (.int ns[i]) := by rw [List.getElem?_map, List.getElem?_eq_getElem hlt]; rfl
    refine .inr ⟨⟨_, _, hS, hx⟩, fun σ' H'' => H'' = H' ∧ ∃ x, σ' = [some (.ref a), some (.int (mixAll (ns.take (i + 1)))), x], ?_, ?_⟩
    · rintro σ' H'' ⟨rfl, x', rfl⟩
      exact ⟨ns.length - (i + 1), by omega, rfl, by omega, rfl, x', rfl⟩
    · rintro y H'' ⟨rfl, hy⟩
      have := hy _ hS
      rw [hx] at this
      cases this
      refine tMix_ok (m := mixAll (ns.take i)) (c := ns[i]) rfl rfl ?_
      refine ⟨rfl, some (.int ns[i]), ?_⟩
      rw [take_snoc hlt, mix_snoc]
      rfl
  · have hi' : i = ns.length := by omega
    subst hi'
    refine .inl ⟨⟨_, hS, by rw [List.length_map]; omega⟩, ?_⟩
    rw [List.take_length]
    -- the display
    intro d hd
    have nda : ∀ b o, H' b = some o → b ≠ d := fun b o e z => by rw [z, hd] at e; cases e
    have k1 : ∀ b o, H' b = some o → upd H' d (.dK []) b = some o := fun b o e => (upd_ne (nda b o e)).trans e
    show tRevS (rRevL K) _ _ _ _
    refine ⟨.ref a, rfl, a, rfl, ⟨_, sql_keep hS k1⟩, fun L hL => ?_⟩
    have hLd : L ≠ d := fun z => by rw [z, upd_same] at hL; cases hL
    have nLa : ∀ b o, H' b = some o → b ≠ L := fun b o e z => by
      have := k1 b o e
      rw [z, hL] at this
      cases this
    refine ⟨fun i m H2 => m = ns.length - i ∧ i ≤ ns.length ∧ H2 = upd (upd H' d (.dK [])) L (.lst (((ns.take i).map absI).map V.int)), ⟨ns.length, by simp, Nat.zero_le _, rfl⟩, ?_⟩
    rintro i m H2 ⟨rfl, hi, rfl⟩
    have k2 : ∀ b o, H' b = some o → upd (upd H' d (.dK [])) L (.lst (((ns.take i).map absI).map V.int)) b = some o := fun b o e => (upd_ne (nLa b o e)).trans (k1 b o e)
    by_cases hlt : i < ns.length
    · have hx : (ns.map V.int)[i]? = some (.int ns[i]) := by rw [List.getElem?_map, List.getElem?_eq_getElem hlt]; rfl
      refine .inr ⟨⟨_, _, sql_keep hS k2, hx⟩, fun H3 => H3 = upd (upd H' d (.dK [])) L (.lst (((ns.take (i + 1)).map absI).map V.int)), ?_, ?_⟩
      · rintro H3 rfl
        exact ⟨ns.length - (i + 1), by omega, rfl, by omega, rfl⟩
      · rintro y H3 ⟨rfl, hy⟩
        have := hy _ (sql_keep hS k2)
        rw [hx] at this
        cases this
        refine ⟨rfl, ?_⟩
        dsimp only [tYes]
        rw [if_pos rfl]
        refine ⟨.int ns[i], rfl, ns[i], rfl, _, upd_same, by rw [List.length_map, List.length_map, List.length_take]; omega, ?_⟩
        rw [upd_upd, take_snoc hlt, List.map_append, List.map_append]
        rfl
    · have hi' : i = ns.length := by omega
      subst hi'
      refine .inl ⟨⟨_, sql_keep hS k2, by rw [List.length_map]; omega⟩, ?_⟩
      rw [List.take_length]
      refine ⟨L, _, rfl, SqL.of upd_same, fun c hc => ?_⟩
      have hcL : c ≠ L := fun z => by rw [z, upd_same] at hc; cases hc
      have hcd : c ≠ d := fun z => by rw [z, upd_ne (Ne.symm hLd), upd_same] at hc; cases hc
      refine ⟨_, rfl, ?_⟩
      refine ⟨?_, srcV c 1 (mixAll ns) 0, rfl, by show 4 ≤ 15; decide, ?_⟩
      · rw [upd_ne (Ne.symm hcd), upd_ne (Ne.symm hLd), upd_same]
      · refine q d c _ (fun b o e => ?_) hd ?_ (Ne.symm hcd) ?_ ?_
        · have hbc : b ≠ c := fun z => by
            rw [← z, upd_ne (nLa b o e), upd_ne (nda b o e), e] at hc
            cases hc
          rw [upd_ne (nda b o e), upd_ne hbc, upd_ne (nLa b o e), upd_ne (nda b o e)]
          exact e
        · rw [upd_ne hcL, upd_ne hcd] at hc
          exact hc
        · rw [upd_same]
          rfl
        · rw [upd_ne hcd, upd_same, List.map_reverse]
end Nt

/-! a law: its source is made, the rest is one function of it -/
namespace Nt
open PySem PySem.Spec PyProof.Rows L2

def spLaw (K : PySem.W.Frag) : Sp := fun vs H Q _ => ∃ (a : Addr) (ns : List Int), vs = [.ref a] ∧ SqL K H a (ns.map V.int) ∧ ns.length ≤ 100000 ∧ ∀ H', Q (.bl true) H'
/-- the cells as the source keeps them -/
def cellsD (ns : List Int) : List D := (ns.map absI).reverse.map PyData.int
def lawEnv (N : Nat) (ns : List Int) : Nt.Env := .un :: .ow 2 (srcD (cellsD ns) 1 (mixAll ns) 0) :: List.replicate (N - 2) .un
section
variable {Pr : Program} {w : World} {K : PySem.W.Frag} {mg : Str → Option Value} {base : Heap} {nm qual : Str} {st : Stmt} {fa : Addr} {fd : FuncData} {N : List Str} {g : MoS} {k : Nat}
theorem sat_law {H H' : Hp} {a d c : Addr} {ns : List Int} (hN : 2 ≤ N.length) (kp : ∀ b o, H b = some o → H' b = some o) (nd : H d = none) (nc : H c = none) (hne : d ≠ c) (h1 : H' d = some (.dK (srcV c 1 (mixAll ns) 0))) (h2 : H' c = some (.lst ((ns.map absI).reverse.map V.int))) :
    Sat K (lawEnv N.length ns) ((start N [.ref a]).set 1 (some (.ref d))) H H' (fun i => if i = 1 then [d, c] else []) := by
  have hl : (start N [V.ref a]).length = N.length := by
    unfold L2.start
    simp only [List.length_append, List.length_map, List.length_replicate, List.length_cons, List.length_nil]
    omega
  have el : (lawEnv N.length ns).length = N.length := by
    unfold lawEnv
    simp only [List.length_cons, List.length_replicate]
    omega
  refine ⟨by rw [List.length_set, hl, el], fun i s e => ?_, fun i hi => ?_, fun i j b h h' => ?_, fun i => ?_, fun i b h => ?_, fun b o e => kp b o e⟩
  · match i, e with
    | 0, e => cases e; rfl
    | 1, e =>
      cases e
      refine ⟨.ref d, List.getElem?_set_self (by rw [hl]; omega), ?_⟩
      exact Ow.mkSrc h1 h2 (RpA.ofInts _)
    | i + 2, e =>
      unfold lawEnv at e
      rw [List.getElem?_cons_succ, List.getElem?_cons_succ, List.getElem?_replicate] at e
      split at e
      · cases e; rfl
      · cases e
  · show (if i = 1 then _ else _) = _
    rw [if_neg (by omega)]
  · by_cases hi : i = 1
    · by_cases hj : j = 1
      · rw [hi, hj]
      · simp only [hj, if_false] at h'; cases h'
    · simp only [hi, if_false] at h; cases h
  · show List.Nodup (if i = 1 then _ else _)
    by_cases hi : i = 1
    · rw [if_pos hi]; simp [hne]
    · rw [if_neg hi]; exact List.nodup_nil
  · by_cases hi : i = 1
    · simp only [hi, if_true] at h
      rcases List.mem_cons.mp h with z | z
      · rw [z]; exact nd
      · rw [List.mem_singleton.mp z]; exact nc
    · simp only [hi, if_false] at h; cases h
theorem fn_law (Fu : Fun K nm qual st fa fd) (S : FnScope N ["script"] (defScope st)) (hN : 2 ≤ N.length)
    (hb : ∀ cdv A outer s H, Cok (cxG Pr w K mg base N qual (defScope st) fa cdv A outer s H) k → PSs (cxG Pr w K mg base N qual (defScope st) fa cdv A outer s H) (defBody st) (tSeq (tAsg (tCallG (spSrc K) (tCons (tVar 0) tNil)) (gName 1)) (tSt K 0 [] g)))
    (hF : ∀ ns : List Int, ns.length ≤ 100000 → ∃ ρ', g (lawEnv N.length ns) = some (.rt (.bool true) ρ')) : FnG Pr w K mg base (k + 1) fa fd ["script"] (spLaw K) :=
  fnG_of Fu S (fun vs H Q E ⟨a, ns, e, _⟩ => by rw [e]; rfl) fun cdv A outer s H vs Q hgd hr hsp => by
    refine ⟨_, hb cdv A outer s H (cxG_ok S.nd hgd hr), ?_⟩
    obtain ⟨a, ns, rfl, hS, hl, q⟩ := hsp
    refine ⟨.ref a, rfl, a, ns, rfl, hS, hl, fun d c H' kp nd nc hne h1 h2 => ?_⟩
    obtain ⟨ρ', e⟩ := hF ns hl
    exact ⟨_, _, H, _, e, sat_law hN kp nd nc hne h1 h2, fun v σ' G' H2 fp' f0 _ _ _ ow _ => by
      rw [ow.2.bool']
      exact q H2⟩
end
/-! the body of the source def -/
section
variable {Pr : Program} {w : World} {K : PySem.W.Frag} {mg : Str → Option Value} {base : Heap} {nm qual : Str} {st : Stmt} {fa : Addr} {fd : FuncData} {k : Nat}
theorem fn_src (Fu : Fun K nm qual st fa fd) (S : FnScope ["script", "mixed", "cell"] ["script"] (defScope st))
    (hb : ∀ cdv A outer s H, Cok (cxG Pr w K mg base ["script", "mixed", "cell"] qual (defScope st) fa cdv A outer s H) k → PSs (cxG Pr w K mg base ["script", "mixed", "cell"] qual (defScope st) fa cdv A outer s H) (defBody st) (tSrc K)) : FnG Pr w K mg base (k + 1) fa fd ["script"] (spSrc K) :=
  fnG_of Fu S (fun vs H Q E ⟨a, ns, e, _⟩ => by rw [e]; rfl) fun cdv A outer s H vs Q hgd hr hsp => ⟨_, hb cdv A outer s H (cxG_ok S.nd hgd hr), src_t hsp⟩
end
/-! pure sums -/
section
variable {X : Cx} {a b : Expr} {p : Pos} {fa fb : Nt.Env → Option D}
def dAddI := dI (fun _ _ => true) fun i j => .int (i + j)
theorem rh_i {K : PySem.W.Frag} {ta tb : TE} {C : Int → Int → Bool} {P : Int → Int → Prop} {g : Int → Int → Int} (hC : ∀ i j, C i j = true → P i j) (ha : RH K ta fa) (hb : RH K tb fb) : RH K (tOp (rI P fun i j => .int (g i j)) ta tb) (h2 (dI C fun i j => .int (g i j)) fa fb) :=
  rh_op ha hb fun H v w d e z r1 r2 hz Q q => by
    unfold dI at hz
    split at hz
    · rename_i i j
      split at hz
      · rename_i hc
        cases hz
        cases r1.int'; cases r2.int'
        exact ⟨i, j, rfl, rfl, hC _ _ hc, q _ (.int _)⟩
      · cases hz
    · cases hz
theorem rh_i0 {K : PySem.W.Frag} {ta tb : TE} {g : Int → Int → Int} (ha : RH K ta fa) (hb : RH K tb fb) : RH K (tOp (rI0 fun i j => .int (g i j)) ta tb) (h2 (dI (fun _ _ => true) fun i j => .int (g i j)) fa fb) :=
  rh_op ha hb fun H v w d e z r1 r2 hz Q q => by
    unfold dI at hz
    split at hz
    · rename_i i j
      rw [if_pos rfl] at hz
      cases hz
      cases r1.int'; cases r2.int'
      exact ⟨i, j, rfl, rfl, q _ (.int _)⟩
    · cases hz
theorem h_add (ha : GH X a fa) (hb : GH X b fb) : GH X (.BinOp a .Add b p) (h2 dAddI fa fb) := mkHh (pe_op op_add ha hb) (rh_i0 xH xH)
theorem h_sub (ha : GH X a fa) (hb : GH X b fb) : GH X (.BinOp a .Sub b p) (h2 dSub fa fb) := mkHh (pe_op op_sub ha hb) (rh_i0 xH xH)
theorem h_mul (ha : GH X a fa) (hb : GH X b fb) : GH X (.BinOp a .Mult b p) (h2 dMul fa fb) := mkHh (pe_op op_mul ha hb) (rh_i cMul_ok xH xH)
end
section
variable {Pr : Program} {w : World} {K : PySem.W.Frag} {mg : Str → Option Value} {base : Heap} {f : Addr} {fd : FuncData} {ps : List Str}
theorem fnG_no {m n p k : Nat} : FnG Pr w K mg base k f fd ps (spI K m n p fun _ _ => none) :=
  ⟨fun vs H Q E ⟨_, _, _, _, _, _, _, _, _, _, _, _, _, _, _, e, _⟩ => (nomatch e), fun A outer s H args us vs Q _ _ _ _ _ ⟨_, _, _, _, _, _, _, _, _, _, _, _, _, _, _, e, _⟩ => nomatch e⟩
theorem fnF_no {m n k : Nat} : FnG Pr w K mg base k f fd ps (spF K m n fun _ => none) :=
  ⟨fun vs H Q E ⟨_, _, _, _, _, _, e, _⟩ => (nomatch e), fun A outer s H args us vs Q _ _ _ _ _ ⟨_, _, _, _, _, _, e, _⟩ => nomatch e⟩
end
end Nt

/-! a def's promise over its arguments' slots: any of them may be the caller's own, lent for the call -/
namespace Nt
open PySem PySem.Spec PyProof.Rows L2

def spS (K : PySem.W.Frag) (m n : Nat) (F : Nt.Env → Option (D × Nt.Env)) : Sp := fun vs H Q _ => ∃ (G : Hp) (ρ0 : Nt.Env) (fp : Fp) (z : D) (ρ1 : Nt.Env), vs.length = m ∧ Sat K ρ0 (vs.map some) G H fp ∧ F ρ0 = some (z, ρ1) ∧
  ∀ v G' H' fp' f0, Stp G H fp G' H' fp' → Sat K ρ1 (vs.map some) G' H' fp' → Ow K G' H' n v z f0 → Tmp H fp G' fp' f0 → Q v H'
theorem spS_len {K : PySem.W.Frag} {m n : Nat} {F : Nt.Env → Option (D × Nt.Env)} {ps : List Str} (h : ps.length = m) : ∀ vs H Q E, spS K m n F vs H Q E → vs.length = ps.length := fun vs H Q E ⟨_, _, _, _, _, e, _⟩ => by rw [e, h]
/-- what is left of the parameters' slots -/
def keepO (P : List Nat) : Nat → Nat → Nt.Env → Nt.Env
  | _, 0, _ => []
  | j, m + 1, [] => .un :: keepO P (j + 1) m []
  | j, m + 1, s :: ρ => (if j ∈ P then s else .un) :: keepO P (j + 1) m ρ
theorem keepO_len (P : List Nat) : ∀ (m j : Nat) (ρ : Nt.Env), (keepO P j m ρ).length = m
  | 0, _, _ => rfl
  | m + 1, j, [] => by rw [keepO, List.length_cons, keepO_len P m]
  | m + 1, j, s :: ρ => by rw [keepO, List.length_cons, keepO_len P m]
theorem keepO_get (P : List Nat) : ∀ (m j : Nat) (ρ : Nt.Env) (i : Nat) (s : Sl), (keepO P j m ρ)[i]? = some s → s = .un ∨ (i < m ∧ j + i ∈ P ∧ ρ[i]? = some s)
  | 0, _, _, _, _, e => by rw [keepO] at e; simp at e
  | m + 1, j, [], 0, s, e => by rw [keepO] at e; cases e; exact .inl rfl
  | m + 1, j, [], i + 1, s, e => by
    rw [keepO, List.getElem?_cons_succ] at e
    rcases keepO_get P m (j + 1) [] i s e with z | ⟨_, _, z⟩
    · exact .inl z
    · simp at z
  | m + 1, j, t :: ρ, 0, s, e => by
    rw [keepO] at e
    cases e
    by_cases hj : j ∈ P
    · rw [if_pos hj]; exact .inr ⟨by omega, by simpa using hj, rfl⟩
    · rw [if_neg hj]; exact .inl rfl
  | m + 1, j, t :: ρ, i + 1, s, e => by
    rw [keepO, List.getElem?_cons_succ] at e
    rcases keepO_get P m (j + 1) ρ i s e with z | ⟨z1, z2, z3⟩
    · exact .inl z
    · exact .inr ⟨by omega, by rw [show j + (i + 1) = j + 1 + i by omega]; exact z2, z3⟩
def runS (N m : Nat) (P : List Nat) (g : MoS) (ρ0 : Nt.Env) : Option (D × Nt.Env) := match g (ρ0 ++ List.replicate (N - m) .un) with
  | some (.rt z ρ') => some (z, keepO P 0 m ρ')
  | some (.nx ρ') => some (.none, keepO P 0 m ρ')
  | _ => none
section
variable {K : PySem.W.Frag}
theorem Sat.ext {ρ : Nt.Env} {vs : List V} {G H : Hp} {fp : Fp} {N : List Str} (S : Sat K ρ (vs.map some) G H fp) : Sat K (ρ ++ List.replicate (N.length - vs.length) .un) (start N vs) G H fp := by
  have hl : vs.length = ρ.length := by have := S.len; rw [List.length_map] at this; exact this
  refine ⟨?_, fun i s e => ?_, fun i hi => S.out i (by rw [List.length_append] at hi; omega), S.dis, S.nod, S.fr, S.sub⟩
  · unfold L2.start
    simp only [List.length_append, List.length_map, List.length_replicate]
    omega
  · unfold L2.start
    by_cases hi : i < ρ.length
    · rw [List.getElem?_append_left hi] at e
      rw [List.getElem?_append_left (by rw [List.length_map]; omega)]
      exact S.sl i s e
    · rw [List.getElem?_append_right (by omega), List.getElem?_replicate] at e
      split at e
      · cases e
        exact S.out i (by omega)
      · cases e
theorem Sat.res {ρ : Nt.Env} {σ : L2.St} {vs : List V} {G H : Hp} {fp : Fp} {P : List Nat} (S : Sat K ρ σ G H fp) (kp : ∀ i ∈ P, i < vs.length → σ[i]? = (vs.map some)[i]?) :
    Sat K (keepO P 0 vs.length ρ) (vs.map some) G H (fun i => if i < vs.length ∧ i ∈ P ∧ (ρ[i]?).isSome then fp i else []) := by
  have sub : ∀ {i a}, a ∈ (if i < vs.length ∧ i ∈ P ∧ (ρ[i]?).isSome then fp i else []) → i < vs.length ∧ i ∈ P ∧ a ∈ fp i := fun {i a} h => by
    split at h
    · rename_i hc; exact ⟨hc.1, hc.2.1, h⟩
    · cases h
  refine ⟨by rw [List.length_map, keepO_len], fun i s e => ?_, fun i hi => ?_, fun i j a h1 h2 => S.dis i j a (sub h1).2.2 (sub h2).2.2, fun i => ?_, fun i a h => S.fr i a (sub h).2.2, S.sub⟩
  · have hi : i < vs.length := by
      have := (List.getElem?_eq_some_iff.mp e).1
      rwa [keepO_len] at this
    by_cases hP : i ∈ P
    · cases hr : ρ[i]? with
      | none =>
        rcases keepO_get P _ 0 ρ i s e with z | ⟨_, _, z⟩
        · subst z
          show (if _ then _ else _) = _
          rw [if_neg]
          rintro ⟨_, _, h⟩
          cases h
        · rw [hr] at z; cases z
      | some t =>
        -- the slot itself
        have q := S.sl i t hr
        rw [kp i hP hi] at q
        have hst : s = t := by
          have key : ∀ (m j : Nat) (ρ : Nt.Env) (i : Nat) (t : Sl), i < m → j + i ∈ P → ρ[i]? = some t → (keepO P j m ρ)[i]? = some t := by
            intro m
            induction m with
            | zero => intro j ρ i t h; omega
            | succ m ih =>
              intro j ρ i t h hp hr
              cases ρ with
              | nil => simp at hr
              | cons u ρ =>
                cases i with
                | zero =>
                  rw [keepO]
                  cases hr
                  rw [if_pos (by simpa using hp)]
                  rfl
                | succ i =>
                  rw [keepO, List.getElem?_cons_succ]
                  exact ih (j + 1) ρ i t (by omega) (by rw [show j + 1 + i = j + (i + 1) by omega]; exact hp) (by simpa using hr)
          have := key vs.length 0 ρ i t hi (by simpa using hP) hr
          rw [e] at this
          exact Option.some.inj this
        subst hst
        show Rl K G H s _ (if _ then _ else _)
        rw [if_pos ⟨hi, hP, rfl⟩]
        exact q
    · rcases keepO_get P _ 0 ρ i s e with z | ⟨_, z, _⟩
      · subst z
        show (if _ then _ else _) = _
        rw [if_neg fun h => hP h.2.1]
      · exact absurd (by simpa using z) hP
  · show (if _ then _ else _) = _
    rw [if_neg]
    rintro ⟨h, _⟩
    rw [keepO_len] at hi
    omega
  · show List.Nodup (if i < vs.length ∧ i ∈ P ∧ (ρ[i]?).isSome then fp i else [])
    split
    · exact S.nod i
    · exact List.nodup_nil
theorem rsS {m n : Nat} {g : MoS} {t : TS} {N : List Str} {P : List Nat} {F : Nt.Env → Option (D × Nt.Env)} (h : RS K n P t g) (hm : m ≤ N.length) (hF : ∀ ρ0 z, ρ0.length = m → F ρ0 = some z → runS N.length m P g ρ0 = some z)
    {vs : List V} {H : Hp} {Q : VK} {E : XK} (hsp : spS K m n F vs H Q E) : t { nx := fun _ H' => Q .non H', rt := Q } (start N vs) H := by
  obtain ⟨G, ρ0, fp, z, ρ1, hl, S, hz, k⟩ := hsp
  have hlr : ρ0.length = m := by have := S.len; rw [List.length_map] at this; omega
  have e := hF ρ0 _ hlr hz
  have S0 := S.ext (N := N)
  rw [hl] at S0
  have st0 : ∀ i, i < vs.length → (start N vs)[i]? = (vs.map some)[i]? := fun i hi => by
    unfold L2.start
    rw [List.getElem?_append_left (by rw [List.length_map]; exact hi)]
  have ls : ∀ (ρ' : Nt.Env) (fp' : Fp) (i : Nat) (a : Addr), a ∈ (if i < vs.length ∧ i ∈ P ∧ (ρ'[i]?).isSome then fp' i else []) → a ∈ fp' i := fun ρ' fp' i a ha => by
    split at ha
    · exact ha
    · cases ha
  unfold runS at e
  split at e
  · rename_i z' ρ' e1
    cases e
    refine h _ _ e1 _ G H fp S0 _ fun v σ' G' H' fp' f0 st S' kp ow tm => ?_
    have S2 := S'.res (vs := vs) (P := P) fun i hi hlt => (kp i hi).trans (st0 i hlt)
    rw [hl] at S2
    exact k v G' H' _ f0 (st.less fun i a ha => by rw [← hl] at ha; exact ls ρ' fp' i a ha) S2 ow ⟨tm.nd, tm.g, fun a ha i hi => tm.d a ha i (by rw [← hl] at hi; exact ls ρ' fp' i a hi), tm.o⟩
  · rename_i ρ' e1
    cases e
    refine h _ _ e1 _ G H fp S0 _ fun σ' G' H' fp' st S' kp => ?_
    have S2 := S'.res (vs := vs) (P := P) fun i hi hlt => (kp i hi).trans (st0 i hlt)
    rw [hl] at S2
    exact k .non G' H' _ [] (st.less fun i a ha => by rw [← hl] at ha; exact ls ρ' fp' i a ha) S2 (Ow.non n) Tmp.nil
  · cases e
end

/-! ### the caller -/
def argE (ρ : Nt.Env) : List Opd → Option Nt.Env
  | [] => some []
  | .val d :: os => (argE ρ os).map (.sh d :: ·)
  | .sl i :: os => match ρ[i]?, argE ρ os with
    | some s, some r => some (s :: r)
    | _, _ => none
def noSl (i : Nat) : List Opd → Bool
  | [] => true
  | .val _ :: os => noSl i os
  | .sl j :: os => (i != j) && noSl i os
def distS : List Opd → Bool
  | [] => true
  | .val _ :: os => distS os
  | .sl i :: os => noSl i os && distS os
def setA : List Opd → Nt.Env → Nt.Env → Nt.Env
  | .val _ :: os, _ :: r, ρ => setA os r ρ
  | .sl i :: os, s :: r, ρ => setA os r (ρ.set i s)
  | _, _, ρ => ρ
theorem noSl_ne {i : Nat} : ∀ {os : List Opd} {j : Nat}, noSl i os = true → os[j]? ≠ some (Opd.sl i)
  | [], _, _, e => by simp at e
  | .val _ :: os, 0, _, e => by cases e
  | .val _ :: os, j + 1, h, e => noSl_ne (os := os) (j := j) h (by simpa using e)
  | .sl k :: os, 0, h, e => by
    cases e
    unfold noSl at h
    simp at h
  | .sl k :: os, j + 1, h, e => by
    unfold noSl at h
    rw [Bool.and_eq_true] at h
    exact noSl_ne (os := os) (j := j) h.2 (by simpa using e)
theorem dist_eq : ∀ {os : List Opd} {j k i : Nat}, distS os = true → os[j]? = some (Opd.sl i) → os[k]? = some (Opd.sl i) → j = k
  | [], _, _, _, _, e, _ => by simp at e
  | .val _ :: os, 0, _, _, _, e, _ => by cases e
  | .val _ :: os, _ + 1, 0, _, _, _, e => by cases e
  | .val _ :: os, j + 1, k + 1, i, h, e1, e2 => by rw [dist_eq (os := os) (j := j) (k := k) h (by simpa using e1) (by simpa using e2)]
  | .sl l :: os, 0, 0, i, h, e1, e2 => rfl
  | .sl l :: os, 0, k + 1, i, h, e1, e2 => by
    cases e1
    unfold distS at h
    rw [Bool.and_eq_true] at h
    exact absurd (by simpa using e2) (noSl_ne (j := k) h.1)
  | .sl l :: os, j + 1, 0, i, h, e1, e2 => by
    cases e2
    unfold distS at h
    rw [Bool.and_eq_true] at h
    exact absurd (by simpa using e1) (noSl_ne (j := j) h.1)
  | .sl l :: os, j + 1, k + 1, i, h, e1, e2 => by
    unfold distS at h
    rw [Bool.and_eq_true] at h
    rw [dist_eq (os := os) (j := j) (k := k) h.2 (by simpa using e1) (by simpa using e2)]
theorem setA_len : ∀ {os : List Opd} {r ρ : Nt.Env}, (setA os r ρ).length = ρ.length
  | [], _, _ => by unfold setA; rfl
  | .val _ :: os, [], ρ => rfl
  | .val _ :: os, _ :: r, ρ => setA_len (os := os)
  | .sl i :: os, [], ρ => rfl
  | .sl i :: os, s :: r, ρ => by
    show (setA os r (ρ.set i s)).length = _
    rw [setA_len, List.length_set]
theorem setA_out {i : Nat} : ∀ {os : List Opd} {r ρ : Nt.Env}, (∀ j : Nat, os[j]? ≠ some (Opd.sl i)) → (setA os r ρ)[i]? = ρ[i]?
  | [], _, _, _ => by unfold setA; rfl
  | .val _ :: os, [], ρ, _ => rfl
  | .val _ :: os, _ :: r, ρ, h => setA_out (os := os) fun j => by simpa using h (j + 1)
  | .sl k :: os, [], ρ, _ => rfl
  | .sl k :: os, s :: r, ρ, h => by
    show (setA os r (ρ.set k s))[i]? = _
    rw [setA_out fun j => by simpa using h (j + 1)]
    exact List.getElem?_set_ne fun z => h 0 (by rw [z]; rfl)
theorem setA_in {i : Nat} : ∀ {os : List Opd} {r ρ : Nt.Env} {j : Nat}, distS os = true → os.length = r.length → os[j]? = some (Opd.sl i) → i < ρ.length → (setA os r ρ)[i]? = r[j]?
  | [], _, _, _, _, _, e, _ => by simp at e
  | .val _ :: os, [], _, _, _, h, _, _ => by simp at h
  | .val _ :: os, s :: r, ρ, 0, _, _, e, _ => by cases e
  | .val _ :: os, s :: r, ρ, j + 1, d, h, e, hi => by
    show (setA os r ρ)[i]? = r[j]?
    exact setA_in (os := os) d (by simpa using h) (by simpa using e) hi
  | .sl k :: os, [], _, _, _, h, _, _ => by simp at h
  | .sl k :: os, s :: r, ρ, 0, d, h, e, hi => by
    cases e
    unfold distS at d
    rw [Bool.and_eq_true] at d
    show (setA os r (ρ.set i s))[i]? = some s
    rw [setA_out fun j => noSl_ne d.1, List.getElem?_set_self hi]
  | .sl k :: os, s :: r, ρ, j + 1, d, h, e, hi => by
    unfold distS at d
    rw [Bool.and_eq_true] at d
    show (setA os r (ρ.set k s))[i]? = r[j]?
    exact setA_in (os := os) d.2 (by simpa using h) (by simpa using e) (by rw [List.length_set]; exact hi)
def fpA (fp : Fp) (os : List Opd) : Fp := fun j => match os[j]? with
  | some (Opd.sl i) => fp i
  | _ => []
section
variable {K : PySem.W.Frag}
theorem fpA_mem {fp : Fp} {os : List Opd} {j : Nat} {a : Addr} (h : a ∈ fpA fp os j) : ∃ i, os[j]? = some (Opd.sl i) ∧ a ∈ fp i := by
  unfold fpA at h
  split at h
  · rename_i i e; exact ⟨i, e, h⟩
  · cases h
theorem argE_len {ρ : Nt.Env} : ∀ {os : List Opd} {r : Nt.Env}, argE ρ os = some r → r.length = os.length
  | [], _, e => by cases e; rfl
  | .val d :: os, r, e => by
    unfold argE at e
    cases h : argE ρ os with
    | none => rw [h] at e; cases e
    | some r' => rw [h] at e; cases e; rw [List.length_cons, List.length_cons, argE_len h]
  | .sl i :: os, r, e => by
    unfold argE at e
    split at e
    · rename_i s r' e1 e2; cases e; rw [List.length_cons, List.length_cons, argE_len e2]
    · cases e
theorem argE_get {ρ : Nt.Env} : ∀ {os : List Opd} {r : Nt.Env} {j : Nat} {o : Opd}, argE ρ os = some r → os[j]? = some o → ∃ s, r[j]? = some s ∧ (match o with | .val d => s = .sh d | .sl i => ρ[i]? = some s)
  | [], _, _, _, _, e => by simp at e
  | .val d :: os, r, j, o, e, h => by
    unfold argE at e
    cases h1 : argE ρ os with
    | none => rw [h1] at e; cases e
    | some r' =>
      rw [h1] at e
      cases e
      cases j with
      | zero => cases h; exact ⟨_, rfl, rfl⟩
      | succ j =>
        obtain ⟨s, e1, e2⟩ := argE_get h1 (by simpa using h)
        exact ⟨s, by simpa using e1, e2⟩
  | .sl i :: os, r, j, o, e, h => by
    unfold argE at e
    split at e
    · rename_i s r' e1 e2
      cases e
      cases j with
      | zero => cases h; exact ⟨_, rfl, e1⟩
      | succ j =>
        obtain ⟨s, q1, q2⟩ := argE_get e2 (by simpa using h)
        exact ⟨s, by simpa using q1, q2⟩
    · cases e
theorem OpdsR.get {G : Hp} {σ : L2.St} : ∀ {vs : List V} {os : List Opd} {j : Nat} {o : Opd}, OpdsR K G σ vs os → os[j]? = some o → ∃ v, vs[j]? = some v ∧ OpdR K G σ v o
  | _, _, _, _, .nil, e => by simp at e
  | _, _, 0, _, .cons h r, e => by cases e; exact ⟨_, rfl, h⟩
  | _, _, j + 1, _, .cons h r, e => by
    obtain ⟨v, e1, e2⟩ := OpdsR.get (j := j) r (by simpa using e)
    exact ⟨v, by simpa using e1, e2⟩
theorem OpdsR.length {G : Hp} {σ : L2.St} {vs : List V} {os : List Opd} (h : OpdsR K G σ vs os) : vs.length = os.length := by
  induction h with
  | nil => rfl
  | cons _ _ ih => rw [List.length_cons, List.length_cons, ih]
theorem Sat.args {ρ r : Nt.Env} {σ : L2.St} {G H : Hp} {fp : Fp} {vs : List V} {os : List Opd} (S : Sat K ρ σ G H fp) (ra : OpdsR K G σ vs os) (e : argE ρ os = some r) (d : distS os = true) : Sat K r (vs.map some) G H (fpA fp os) := by
  have hl := argE_len e
  refine ⟨by rw [List.length_map, ra.length, hl], fun j s ej => ?_, fun j hj => ?_, fun j k a h1 h2 => ?_, fun j => ?_, fun j a h => ?_, S.sub⟩
  · have hj : j < os.length := by rw [← hl]; exact (List.getElem?_eq_some_iff.mp ej).1
    have ho := List.getElem?_eq_getElem hj
    obtain ⟨s', e1, e2⟩ := argE_get e ho
    rw [ej] at e1
    cases e1
    obtain ⟨v, ev, rv⟩ := ra.get ho
    rw [List.getElem?_map, ev]
    show Rl K G H s (some (some v)) (fpA fp os j)
    unfold fpA
    rw [ho]
    cases hoj : os[j] with
    | val dd =>
      rw [hoj] at e2 rv
      simp only at e2
      subst e2
      exact ⟨rfl, v, rfl, rv⟩
    | sl i =>
      rw [hoj] at e2 rv
      simp only at e2
      have q := S.sl i s e2
      rw [show σ[i]? = some (some v) from rv] at q
      exact q
  · unfold fpA
    rw [List.getElem?_eq_none (by omega)]
  · obtain ⟨i1, q1, q2⟩ := fpA_mem h1
    obtain ⟨i2, q3, q4⟩ := fpA_mem h2
    have := S.dis i1 i2 a q2 q4
    subst this
    exact dist_eq d q1 q3
  · unfold fpA
    split
    · exact S.nod _
    · exact List.nodup_nil
  · obtain ⟨i, _, q⟩ := fpA_mem h
    exact S.fr i a q
def mCallS (m : Nat) (F : Nt.Env → Option (D × Nt.Env)) (fs : Mo (List Opd)) : Mo D := fun ρ => match fs ρ with
  | none => none
  | some (os, ρ1) => match argE ρ1 os with
    | none => none
    | some r => if os.length = m ∧ distS os = true then (match F r with
      | some (z, r') => if r'.length = m then some (z, setA os r' ρ1) else none
      | none => none) else none
theorem callS_core {m n : Nat} {F : Nt.Env → Option (D × Nt.Env)} {ρ1 r r' : Nt.Env} {σ : L2.St} {G1 H1 : Hp} {fp1 : Fp} {os : List Opd} {z : D} {vs : List V} {Q : VK} {E : XK} (S1 : Sat K ρ1 σ G1 H1 fp1) (ra : OpdsR K G1 σ vs os) (e2 : argE ρ1 os = some r) (hc : os.length = m ∧ distS os = true) (e3 : F r = some (z, r')) (hlen : r'.length = m)
    (q : ∀ v G' H' fn f0, Stp G1 H1 fp1 G' H' fn → Sat K (setA os r' ρ1) σ G' H' fn → Ow K G' H' n v z f0 → Tmp H1 fp1 G' fn f0 → Q v H') : spS K m n F vs H1 Q E := by
  have SA := S1.args ra e2 hc.2
  refine ⟨G1, r, fpA fp1 os, _, r', by rw [ra.length]; exact hc.1, SA, e3, fun v G' H' fp' f0 st' S' ow tm => ?_⟩
  -- what does not belong to the arguments' slots
  have other : ∀ {i a}, (∀ j : Nat, os[j]? ≠ some (Opd.sl i)) → a ∈ fp1 i → ∀ j, a ∉ fpA fp1 os j := fun {i a} hi ha j hj => by
    obtain ⟨i2, q1, q2⟩ := fpA_mem hj
    have := S1.dis i i2 a ha q2
    subst this
    exact hi j q1
  have gno : ∀ {i a}, (∀ j : Nat, os[j]? ≠ some (Opd.sl i)) → a ∈ fp1 i → G' a = none := fun {i a} hi ha => Classical.byContradiction fun z => by
    rcases st'.n a z with w | ⟨j, w⟩ | w
    · exact w (S1.fr i a ha)
    · exact other hi ha j w
    · exact S1.live ha w
  have fnew : ∀ {j a}, a ∈ fp' j → (∃ i, a ∈ fp1 i ∧ ∃ k : Nat, os[k]? = some (Opd.sl i)) ∨ H1 a = none := fun {j a} ha => by
    rcases st'.f j a ha with ⟨k, w⟩ | w
    · obtain ⟨i, q1, q2⟩ := fpA_mem w
      exact .inl ⟨i, q2, k, q1⟩
    · exact .inr w
  classical
  -- the new footprints
  let fn : Fp := fun i => if hx : ∃ j : Nat, os[j]? = some (Opd.sl i) then fp' hx.choose else fp1 i
  have fn_in : ∀ {i j}, os[j]? = some (Opd.sl i) → fn i = fp' j := fun {i j} hj => by
    have hx : ∃ j : Nat, os[j]? = some (Opd.sl i) := ⟨j, hj⟩
    show (if hx : ∃ j : Nat, os[j]? = some (Opd.sl i) then fp' hx.choose else fp1 i) = fp' j
    rw [dif_pos hx, dist_eq hc.2 hx.choose_spec hj]
  have fn_out : ∀ {i}, (∀ j : Nat, os[j]? ≠ some (Opd.sl i)) → fn i = fp1 i := fun {i} hi => by
    show (if hx : ∃ j : Nat, os[j]? = some (Opd.sl i) then fp' hx.choose else fp1 i) = fp1 i
    rw [dif_neg fun ⟨j, hj⟩ => hi j hj]
  have cs : ∀ i : Nat, (∃ j : Nat, os[j]? = some (Opd.sl i)) ∨ ∀ j : Nat, os[j]? ≠ some (Opd.sl i) := fun i => (Classical.em (∃ j : Nat, os[j]? = some (Opd.sl i))).imp id fun h j hj => h ⟨j, hj⟩
  have slot : ∀ {i j}, os[j]? = some (Opd.sl i) → i < ρ1.length := fun {i j} hj => by
    obtain ⟨s, q1, q2⟩ := argE_get e2 hj
    exact (List.getElem?_eq_some_iff.mp q2).1
  have S2 : Sat K (setA os r' ρ1) σ G' H' fn := by
    refine ⟨by rw [setA_len]; exact S1.len, fun i s es => ?_, fun i hi => ?_, fun i k a h1 h2 => ?_, fun i => ?_, fun i a ha => ?_, S'.sub⟩
    · rcases cs i with ⟨j, hj⟩ | hi
      · rw [setA_in hc.2 (by rw [hlen, hc.1]) hj (slot hj)] at es
        have q := S'.sl j s es
        obtain ⟨v, ev, rv⟩ := ra.get hj
        rw [List.getElem?_map, ev] at q
        rw [show σ[i]? = some (some v) from rv, fn_in hj]
        exact q
      · rw [setA_out hi] at es
        rw [fn_out hi]
        exact (S1.sl i s es).mono st'.g fun a ha => st'.h a (other hi ha) (S1.live ha)
    · rw [setA_len] at hi
      rcases cs i with ⟨j, hj⟩ | hi'
      · have := slot hj; omega
      · rw [fn_out hi']; exact S1.out i hi
    · rcases cs i with ⟨j, hj⟩ | hi
      · rw [fn_in hj] at h1
        rcases cs k with ⟨l, hl⟩ | hk
        · rw [fn_in hl] at h2
          have := S'.dis j l a h1 h2
          subst this
          rw [hj] at hl
          cases hl
          rfl
        · rw [fn_out hk] at h2
          rcases fnew h1 with ⟨i2, w, l, hl⟩ | w
          · have := S1.dis k i2 a h2 w
            subst this
            exact absurd hl (hk l)
          · exact absurd w (S1.live h2)
      · rw [fn_out hi] at h1
        rcases cs k with ⟨l, hl⟩ | hk
        · rw [fn_in hl] at h2
          rcases fnew h2 with ⟨i2, w, l2, hl2⟩ | w
          · have := S1.dis i i2 a h1 w
            subst this
            exact absurd hl2 (hi l2)
          · exact absurd w (S1.live h1)
        · rw [fn_out hk] at h2
          exact S1.dis i k a h1 h2
    · rcases cs i with ⟨j, hj⟩ | hi
      · rw [fn_in hj]; exact S'.nod j
      · rw [fn_out hi]; exact S1.nod i
    · rcases cs i with ⟨j, hj⟩ | hi
      · rw [fn_in hj] at ha; exact S'.fr j a ha
      · rw [fn_out hi] at ha; exact gno hi ha
  have st2 : Stp G1 H1 fp1 G' H' fn := ⟨st'.g, fun a ha h1 => st'.h a (fun j hj => by obtain ⟨i, _, q2⟩ := fpA_mem hj; exact ha i q2) h1, st'.t, fun i a ha => by
    rcases cs i with ⟨j, hj⟩ | hi
    · rw [fn_in hj] at ha
      rcases fnew ha with ⟨i2, w, _⟩ | w
      · exact .inl ⟨i2, w⟩
      · exact .inr w
    · rw [fn_out hi] at ha; exact .inl ⟨i, ha⟩, fun a ha => by
    rcases st'.n a ha with w | ⟨j, w⟩ | w
    · exact .inl w
    · obtain ⟨i, _, q2⟩ := fpA_mem w; exact .inr (.inl ⟨i, q2⟩)
    · exact .inr (.inr w)⟩
  refine q v G' H' fn f0 st2 S2 ow ⟨tm.nd, tm.g, fun a ha i hi => ?_, fun a ha => ?_⟩
  · rcases cs i with ⟨j, hj⟩ | hi'
    · rw [fn_in hj] at hi; exact tm.d a ha j hi
    · rw [fn_out hi'] at hi
      rcases tm.o a ha with ⟨j, w⟩ | w
      · exact other hi' hi j w
      · exact S1.live hi w
  · rcases tm.o a ha with ⟨j, w⟩ | w
    · obtain ⟨i, _, q2⟩ := fpA_mem w; exact .inl ⟨i, q2⟩
    · exact .inr w
theorem rw_callS {m n : Nat} {F : Nt.Env → Option (D × Nt.Env)} {t : TA} {fs : Mo (List Opd)} (h : RA K t fs) : RW K n (tCallG (spS K m n F) t) (mCallS m F fs) := fun ρ d ρ' e σ G H fp S Q q => by
  unfold mCallS at e
  split at e
  · cases e
  · rename_i os ρ1 e1
    split at e
    · cases e
    · rename_i r e2
      split at e
      · rename_i hc
        split at e
        · rename_i z r' e3
          split at e
          · rename_i hlen
            cases e
            refine h ρ _ _ e1 σ G H fp S _ fun vs G1 H1 fp1 st1 S1 ra => ?_
            exact callS_core S1 ra e2 hc e3 hlen fun v G' H' fn f0 st2 S2 ow tm => q v G' H' fn f0 (st1.trans st2) S2 ow (Tmp.from st1 tm)
          · cases e
        · cases e
      · cases e
end
/-! ### text and function -/
section
variable {X : Cx} {k n m : Nat} {e : Expr} {es : List Expr} {pos p : Pos} {fs : Mo (List Opd)} {ps : List Str} {x : Str}
theorem w_callS {F : Nt.Env → Option (D × Nt.Env)} (c : Cok X k) (Dd : Df X k x ps (spS X.K m n F)) (h : GA X (e :: es) fs) (hdb : (x == ("__debug__" : Str)) = false := by decide) (he : starEach (e :: es) X.env = (false, eval e X.env) :: starEach es X.env := by rfl) (hpl : (backTo pos (starEach es X.env)).any (·.1) = false := by rfl) :
    GW X n (.Call (.Name x p) (e :: es) [] pos) (mCallS m F fs) := by
  obtain ⟨g, fd, hm, hF, hk, hb⟩ := Dd.ex
  exact mkW (pe_callG hF c.gd c.room Dd.gl hm hk hb h hdb he hpl) (rw_callS xA)
end
section
variable {Pr : Program} {w : World} {K : PySem.W.Frag} {mg : Str → Option Value} {base : Heap} {nm qual : Str} {st : Stmt} {fa : Addr} {fd : FuncData} {N ps : List Str} {g : MoS} {k m n : Nat} {P : List Nat}
theorem fn_S {F : Nt.Env → Option (D × Nt.Env)} (Fu : Fun K nm qual st fa fd) (S : FnScope N ps (defScope st)) (hm : ps.length = m) (hb : ∀ cdv A outer s H, Cok (cxG Pr w K mg base N qual (defScope st) fa cdv A outer s H) k → GB (cxG Pr w K mg base N qual (defScope st) fa cdv A outer s H) n P (defBody st) g)
    (hF : ∀ ρ0 z, ρ0.length = m → F ρ0 = some z → runS N.length m P g ρ0 = some z) : FnG Pr w K mg base (k + 1) fa fd ps (spS K m n F) :=
  fnG_of Fu S (spS_len hm) fun cdv A outer s H vs Q hgd hr hsp => ⟨_, hb cdv A outer s H (cxG_ok S.nd hgd hr), rsS xS (by have := pre_len S; omega) hF hsp⟩
theorem fnS_no : FnG Pr w K mg base k fa fd ps (spS K m n fun _ => none) :=
  ⟨fun vs H Q E ⟨_, _, _, _, _, _, _, e, _⟩ => (nomatch e), fun A outer s H args us vs Q _ _ _ _ _ ⟨_, _, _, _, _, _, _, e, _⟩ => (nomatch e)⟩
end
end Nt

/-! lists in lists: index, insert, remove; arguments that are only read; places of things -/
namespace Nt
open PySem PySem.Spec PyProof.Rows L2
/-! ### x.index(k) of a list, a tuple of whole numbers -/
def dIdx (d e : D) : Option D := match d, e with
  | .list ds, .int k => match ints? ds with
    | some ns => if k ∈ ns then some (.int (ns.idxOf k : Nat)) else none
    | none => none
  | .tuple ds, .int k => match ints? ds with
    | some ns => if k ∈ ns then some (.int (ns.idxOf k : Nat)) else none
    | none => none
  | _, _ => none
def tIdx (to te : TE) : TE := fun σ H Q => to σ H fun x H1 => ∃ l, x = .ref l ∧
  (((∃ xs, H1 l = some (.lst xs)) ∧ te σ H1 fun y H2 => ∃ (ns : List Int) (k : Int), y = .int k ∧ H2 l = some (.lst (ns.map V.int)) ∧ k ∈ ns ∧ Q (.int (ns.idxOf k : Nat)) H2) ∨
   ((∃ xs, NdT H1 l xs) ∧ te σ H1 fun y H2 => ∃ (ns : List Int) (k : Int), y = .int k ∧ NdT H2 l (ns.map V.int) ∧ k ∈ ns ∧ Q (.int (ns.idxOf k : Nat)) H2))
section
variable {X : Cx} {o e : Expr} {to te : TE} {apos cpos : Pos}
theorem NdT.heap {pins : List (Addr × Obj)} {σ : L2.St} {H : Hp} {s : Shared} {a : Addr} {xs : List V} (I : Inv X pins σ H s) (h : NdT H a xs) : ∃ o : Obj, s.heap.get? a = some o ∧ o.dict = none := by
  obtain ⟨o, h1, h2⟩ := h
  exact ⟨o, (I.hok a _ h1).1, h2⟩
theorem pe_idx (ho : PE X o to) (he : PE X e te) (M : Ml X o "index" apos e [] cpos) : PE X (.Call (.Attribute o "index" apos) [e] [] cpos) (tIdx to te) := by
  refine ⟨fun pins s σ H Q I h => ?_⟩
  refine wpAny_Call_method_late M.base M.few M.line rfl (thn (ho.run pins s σ H _ I h) fun v s1 ⟨x, H1, I1, r1, l, ex, q1⟩ => ?_)
  subst ex
  cases (show v = Value.ref l from r1)
  rcases q1 with ⟨⟨xs, hl⟩, q1⟩ | ⟨⟨xs, hl⟩, q1⟩
  · obtain ⟨h1, h2⟩ := tyV_is I1 r1 (tyL (K := X.K) hl)
    refine ⟨"list", _, PySem.F.plainAttrs_list, PySem.F.slot_list_index, PySem.F.type_list_index, h1, h2, ?_⟩
    rw [M.st]
    refine Calls.callWith_builtin (by show (false || (backTo cpos (starEach [] X.env)).any (·.1)) = false; rw [M.plain] <;> rfl) (Calls.evalArgs_plain ?_)
    show wpAny _ _ (spliced ((false, eval e X.env) :: backTo cpos (starEach [] X.env))) _ _ s1
    refine Calls.spliced_cons (thn (he.run pins s1 σ H1 _ I1 q1) fun u s2 ⟨y, H2, I2, ry, q2⟩ => ?_)
    refine Calls.spliced_nil ?_
    obtain ⟨ns, k, ey, hH, hk, qq⟩ := q2
    subst ey
    obtain ⟨t, rfl⟩ := (show ∃ t, u = Value.int k t from ry)
    obtain ⟨its, r, pl, hz⟩ := I2.list (SqL.of hH)
    exact PySem.SeqAt.list_index_ints pl.isList (intsAre_of r) (by rw [List.length_map] at hz; exact hz) hk ⟨.int (ns.idxOf k : Nat), H2, I2.kept (t' := s2.toks + 1) (fun b o q => q), ⟨_, rfl⟩, qq⟩
  · obtain ⟨its0, r0, p0, _⟩ := I1.tuple (hl.sqT (K := X.K))
    refine ⟨"tuple", _, PySem.F.plainAttrs_tuple, PySem.F.slot_tuple_index, PySem.F.type_tuple_index, p0.typeIs, fun a ea => by cases ea; exact hl.heap I1, ?_⟩
    rw [M.st]
    refine Calls.callWith_builtin (by show (false || (backTo cpos (starEach [] X.env)).any (·.1)) = false; rw [M.plain] <;> rfl) (Calls.evalArgs_plain ?_)
    show wpAny _ _ (spliced ((false, eval e X.env) :: backTo cpos (starEach [] X.env))) _ _ s1
    refine Calls.spliced_cons (thn (he.run pins s1 σ H1 _ I1 q1) fun u s2 ⟨y, H2, I2, ry, q2⟩ => ?_)
    refine Calls.spliced_nil ?_
    obtain ⟨ns, k, ey, hH, hk, qq⟩ := q2
    subst ey
    obtain ⟨t, rfl⟩ := (show ∃ t, u = Value.int k t from ry)
    obtain ⟨its, r, pl, hz⟩ := I2.tuple (hH.sqT (K := X.K))
    exact PySem.SeqAt.tuple_index_ints pl (intsAre_of r) hk ⟨.int (ns.idxOf k : Nat), H2, I2.kept (t' := s2.toks + 1) (fun b o q => q), ⟨_, rfl⟩, qq⟩
end
section
variable {K : PySem.W.Frag} {to te tj tk : TE} {fo fe fj fk : Nt.Env → Option D}
theorem rh_idx (ho : RH K to fo) (he : RH K te fe) : RH K (tIdx to te) (h2 dIdx fo fe) := fun ρ d e σ G H fp S Q q => by
  unfold h2 at e
  split at e
  · rename_i x y e1 e2
    refine ho ρ x e1 σ G H fp S _ fun v r1 => ?_
    unfold dIdx at e
    split at e
    · rename_i ds k
      split at e
      · rename_i ns en
        split at e
        · rename_i hk
          cases e
          obtain ⟨a, vs, rfl, ha, ra⟩ := r1.list'
          have hd := ints?_ok en
          subst hd
          have hv := ra.ints
          subst hv
          refine ⟨a, rfl, .inl ⟨⟨_, ha⟩, he ρ _ e2 σ G H fp S _ fun w r2 => ?_⟩⟩
          cases r2.int'
          exact ⟨ns, k, rfl, ha, hk, q _ (.int _)⟩
        · cases e
      · cases e
    · rename_i ds k
      split at e
      · rename_i ns en
        split at e
        · rename_i hk
          cases e
          obtain ⟨a, vs, rfl, ha, ra⟩ := r1.tupN
          have hd := ints?_ok en
          subst hd
          have hv := ra.ints
          subst hv
          refine ⟨a, rfl, .inr ⟨⟨_, ha⟩, he ρ _ e2 σ G H fp S _ fun w r2 => ?_⟩⟩
          cases r2.int'
          exact ⟨ns, k, rfl, ha, hk, q _ (.int _)⟩
        · cases e
      · cases e
    · cases e
  · cases e
/-! ### h != [] -/
def mNe0 (f : Nt.Env → Option D) : Mo Bool := fun ρ => match f ρ with
  | some (.list ds) => if SeqAt.shaped (.list ds) then some (!ds.isEmpty, ρ) else none
  | _ => none
theorem eqv_nil (ds : List D) : PyData.eqv (.list ds) (.list []) = ds.isEmpty := by cases ds <;> simp [PyData.eqv, PyData.eqvAll]
theorem rt_ne0 (ho : RH K to fo) : RT K (tTest (tOp (rNeX K) to (tLst tNil))) (mNe0 fo) := fun ρ d ρ' e σ G H fp S Q q => by
  unfold mNe0 at e
  split at e
  · rename_i ds e1
    split at e
    · rename_i hc
      cases e
      refine ho ρ _ e1 σ G H fp S _ fun v r1 => ⟨by decide, fun p hp => ?_⟩
      have r1' : Rp K (upd H p (.lst [])) v (.list ds) := r1.mono (Sub.new (Sub.refl H) hp)
      have r2 : Rp K (upd H p (.lst [])) (.ref p) (.list []) := .lst upd_same .nil
      have h0 : SeqAt.shaped (.list []) = true := by decide
      refine .inl ⟨.list ds, .list [], r1'.dp (SeqAt.canLay_of_shaped hc), r2.dp (SeqAt.canLay_of_shaped h0), hc, h0, _, rfl, ?_⟩
      rw [eqv_nil]
      exact q G _ fp (Stp.new hp) (S.new hp)
    · cases e
  · cases e
/-! ### x[j].insert(k, e) -/
def insD {α : Type} (xs : List α) (k : Nat) (y : α) : List α := xs.take k ++ y :: xs.drop k
def rInsert : V → List V → Hp → VK → Prop := fun x vs H Q => ∃ (l : Addr) (xs : List V) (k : Int) (y : V), x = .ref l ∧ vs = [.int k, y] ∧ H l = some (.lst xs) ∧ xs.length < sizeLine ∧ 0 ≤ k ∧ k < 2 ^ 63 ∧ Q .non (upd H l (.lst (insD xs k.toNat y)))
theorem insD_arr (its : List Value) (k : Nat) (u : Value) : (its.toArray.extract 0 (min k its.toArray.size)).push u ++ its.toArray.extract (min k its.toArray.size) = (insD its k u).toArray := by
  apply Array.ext'
  unfold insD
  rcases Nat.le_total k its.length with h | h
  · have hd : List.take (its.length - k) (List.drop k its) = List.drop k its := List.take_of_length_le (by rw [List.length_drop]; exact Nat.le_refl _)
    simp [Nat.min_eq_left h, List.extract_eq_drop_take, hd]
  · simp [Nat.min_eq_right h, List.extract_eq_drop_take, List.take_of_length_le h, List.drop_of_length_le h]
theorem RpA.ins {G : Hp} {vs : List V} {ds : List D} {v : V} {d : D} (r : RpA K G vs ds) (k : Nat) (h : Rp K G v d) : RpA K G (insD vs k v) (insD ds k d) := (r.take k).append (.cons h (r.drop k))
theorem vals_ins {vs : List V} {us : List Value} {v : V} {u : Value} (r : Vals vs us) (k : Nat) (h : RelV v u) : Vals (insD vs k v) (insD us k u) := (r.take k).append (.cons h (r.drop k))
theorem insD_len {α : Type} (xs : List α) (k : Nat) (y : α) : (insD xs k y).length = xs.length + 1 := by
  unfold insD
  rw [List.length_append, List.length_cons, List.length_take, List.length_drop]
  omega
theorem mt_insert {X : Cx} : MtM X "list.insert" rInsert := by
  intro pins s σ H x vs v us Q I rx rv h
  obtain ⟨l, xs, k, y, rfl, rfl, hH, hz, k0, k1, q⟩ := h
  cases rx
  obtain ⟨u1, u, rfl, rk, ru⟩ := rv.two
  obtain ⟨t, rfl⟩ := (show ∃ t, u1 = Value.int k t from rk)
  obtain ⟨z, its, n, r, hl, e⟩ := I.lstM hH
  have hfit : ¬ (!Builtin.List.listFitsIndex k) = true := by
    rw [fitsIndex_both (by omega) (by omega)]
    decide
  refine call_meets PySem.F.slot_list_insert ⟨_, e, rfl⟩ PySem.F.entry_list_insert (PySem.F.args_list_insert_3 _ _ _) (AutoSeq1.list_insert_list_int_val_1 l its.toArray n k t u hfit (by rw [List.size_toArray, ← hl]; exact z)) ⟨e, ?_⟩
  refine ⟨.non, _, I.lset (its' := insD its k.toNat u) hH e ?_ (vals_ins r k.toNat ru) ?_, rfl, q⟩
  · have e0 : (if k < 0 then (k + ((its.toArray.size : Nat) : Int)).toNat else min k.toNat its.toArray.size) = min k.toNat its.toArray.size := if_neg (by omega)
    show (its.toArray.extract 0 (if k < 0 then (k + ((its.toArray.size : Nat) : Int)).toNat else min k.toNat its.toArray.size)).push u ++ its.toArray.extract (if k < 0 then (k + ((its.toArray.size : Nat) : Int)).toNat else min k.toNat its.toArray.size) = _
    rw [e0]
    exact insD_arr its k.toNat u
  · rw [insD_len]
    omega
def mIns2 (i : Nat) (fj fk fe : Nt.Env → Option D) : Mo D := fun ρ => match ρ[i]?, fj ρ, fk ρ, fe ρ with
  | some (.ow 2 (.list ds)), some (.int j), some (.int k), some d => match ixN ds.length j with
    | some j' => match ds[j']? with
      | some (.list es) => if (toV d).isSome ∧ es.length < 16777216 ∧ 0 ≤ k ∧ k < 1000000000 then some (.none, ρ.set i (.ow 2 (.list (ds.set j' (.list (insD es k.toNat d)))))) else none
      | _ => none
    | none => none
  | _, _, _, _ => none
theorem re_ins2 {i : Nat} (hj : RH K tj fj) (hk : RH K tk fk) (he : RH K te fe) : RE K (tBM K "list" rInsert (tOp (rIx K) (tVar i) tj) (tCons tk (tCons te tNil))) (mIns2 i fj fk fe) := fun ρ d ρ' e σ G H fp S Q q => by
  unfold mIns2 at e
  split at e
  · rename_i ds j k d1 e0 e1 e2 e3
    split at e
    · rename_i j' e4
      split at e
      · rename_i es e5
        split at e
        · rename_i hc
          cases e
          obtain ⟨a, vs, b, us, ea, ha, hv, hl, hb, r, kk⟩ := S.in2 e0 e5
          have hsz : sizeLine = 16777216 := sizeLine_eq
          refine ⟨.ref a, ea, hj ρ _ e1 σ G H fp S _ fun x rx => ?_⟩
          cases rx.int'
          refine .inl ⟨a, vs, j, .ref b, rfl, rfl, SqL.of ha, atI_of (by rw [hl]; exact e4) hv, tyL hb, hk ρ _ e2 σ G H fp S _ fun w rw' => he ρ _ e3 σ G H fp S _ fun y ry => ?_⟩
          cases rw'.int'
          refine ⟨b, us, k, y, rfl, rfl, hb, by rw [r.length]; omega, hc.2.2.1, by omega, ?_⟩
          obtain ⟨S', st'⟩ := kk _ _ (r.ins k.toNat (rp_scal hc.1 ry))
          exact q .non G _ fp st' S' .non
        · cases e
      · cases e
    · cases e
  · cases e
/-! ### x[j].remove(e) -/
def mRem2 (i : Nat) (fj fe : Nt.Env → Option D) : Mo D := fun ρ => match ρ[i]?, fj ρ, fe ρ with
  | some (.ow 2 (.list ds)), some (.int j), some (.int k) => match ixN ds.length j with
    | some j' => match ds[j']? with
      | some (.list es) => match ints? es with
        | some ns => if k ∈ ns then some (.none, ρ.set i (.ow 2 (.list (ds.set j' (.list ((ns.erase k).map PyData.int)))))) else none
        | none => none
      | _ => none
    | none => none
  | _, _, _ => none
theorem re_rem2 {i : Nat} {W : WX} (hj : RH K tj fj) (he : RH K te fe) : RE K (tRemX K W (tOp (rIx K) (tVar i) tj) te) (mRem2 i fj fe) := fun ρ d ρ' e σ G H fp S Q q => by
  unfold mRem2 at e
  split at e
  · rename_i ds j k e0 e1 e3
    split at e
    · rename_i j' e4
      split at e
      · rename_i es e5
        split at e
        · rename_i ns en
          split at e
          · rename_i hc
            cases e
            obtain ⟨a, vs, b, us, ea, ha, hv, hl, hb, r, kk⟩ := S.in2 e0 e5
            have hd := ints?_ok en
            subst hd
            have hu := r.ints
            subst hu
            refine ⟨.ref a, ea, hj ρ _ e1 σ G H fp S _ fun x rx => ?_⟩
            cases rx.int'
            refine .inl ⟨a, vs, j, .ref b, rfl, rfl, SqL.of ha, atI_of (by rw [hl]; exact e4) hv, tyL hb, he ρ _ e3 σ G H fp S _ fun y ry => ?_⟩
            cases ry.int'
            refine ⟨b, ns, k, rfl, rfl, hb, fun _ => ?_, fun w => absurd hc w⟩
            obtain ⟨S', st'⟩ := kk _ _ (RpA.ofInts (K := K) (G := G) (ns.erase k))
            exact q .non G _ fp st' S' .non
          · cases e
        · cases e
      · cases e
    · cases e
  · cases e
/-! ### arguments that are only read; the result is a scalar -/
def mCallP (m : Nat) (F : List D → Option D) (fs : Mo (List Opd)) : Mo D := fun ρ => match fs ρ with
  | none => none
  | some (os, ρ1) => match rsA rs ρ1 os with
    | none => none
    | some ds => if ds.length = m then (match F ds with
      | some z => if (toV z).isSome then some (z, ρ1) else none
      | none => none) else none
theorem rsA_deep {ρ : Nt.Env} {σ : L2.St} {G H : Hp} {fp : Fp} (S : Sat K ρ σ G H fp) : ∀ {vs : List V} {os : List Opd} {ds : List D}, OpdsR K G σ vs os → rsA rs ρ os = some ds → RpA K H vs ds
  | _, _, _, .nil, e => by cases e; exact .nil
  | _, _, _, .cons (o := o) (os := os) h r, e => by
    unfold rsA at e
    cases h1 : rs ρ o with
    | none => rw [h1] at e; cases e
    | some d =>
      cases h2 : rsA rs ρ os with
      | none => rw [h1, h2] at e; cases e
      | some ds =>
        rw [h1, h2] at e
        cases e
        exact .cons (rs_rp S h h1) (rsA_deep S r h2)
theorem Ow.scal {G H : Hp} {n : Nat} {v : V} {d : D} {f : List Addr} (h : (toV d).isSome = true) (o : Ow K G H n v d f) : Rp K G v d := by
  cases n with
  | zero => exact o.2
  | succ n =>
    rcases o with ⟨_, _, r⟩ | ⟨_, _, _, _, _, e, _⟩ | ⟨_, _, _, _, _, e, _⟩
    · exact r
    · subst e; cases h
    · subst e; cases h
theorem re_callP {m n : Nat} {F : List D → Option D} {t : TA} {fs : Mo (List Opd)} (h : RA K t fs) : RE K (tCallG (spF K m n F) t) (mCallP m F fs) := fun ρ d ρ' e σ G H fp S Q q => by
  unfold mCallP at e
  split at e
  · cases e
  · rename_i os ρ1 e1
    split at e
    · cases e
    · rename_i ds e2
      split at e
      · rename_i hm
        split at e
        · rename_i z e3
          split at e
          · rename_i hs
            cases e
            refine h ρ _ _ e1 σ G H fp S _ fun vs G1 H1 fp1 st1 S1 r1 => ?_
            refine ⟨H1, ds, _, Sub.refl H1, rsA_deep S1 r1 e2, hm, e3, fun v G' H' f0 st' s' ow tm => ?_⟩
            have hh : ∀ a, H1 a ≠ none → H' a = H1 a := fun a ha => st'.h a (fun _ h => (nomatch h)) ha
            have sb : Sub H1 H' := fun a o ha => (hh a (by rw [ha]; exact fun z => nomatch z)).trans ha
            exact q v G1 H' fp1 (st1.trans ⟨Sub.refl G1, fun a _ ha => hh a ha, st'.t, fun i a h => .inl ⟨i, h⟩, fun a h => .inl h⟩) (S1.keep (Sub.refl G1) (fun i a ha => hh a (S1.live ha)) (fun i a ha => S1.fr i a ha) (S1.sub.trans sb)) (rp_scal hs (ow.scal hs))
          · cases e
        · cases e
      · cases e
end
end Nt

/-! a list in a list is lent to a def; the rules of text -/
namespace Nt
open PySem PySem.Spec PyProof.Rows L2
section
variable {K : PySem.W.Frag} {tj : TE} {fj : Nt.Env → Option D}
/-- a list in a list of one's own, taken out for a while: the slot behind all others holds it -/
theorem Sat.lend2 {ρ : Nt.Env} {σ : L2.St} {G H : Hp} {fp : Fp} {i j' : Nat} {ds es : List D} (S : Sat K ρ σ G H fp) (e0 : ρ[i]? = some (.ow 2 (.list ds))) (ee : ds[j']? = some (.list es)) :
    ∃ a vs b, σ[i]? = some (some (.ref a)) ∧ H a = some (.lst vs) ∧ vs[j']? = some (.ref b) ∧ vs.length = ds.length ∧ (∃ us, H b = some (.lst us)) ∧
      ∃ fp2 : Fp, Sat K (ρ.set i .un ++ [.ow 1 (.list es)]) (σ ++ [some (.ref b)]) G H fp2 ∧
        ∀ G' H' fn (ρ' : Nt.Env) es', Stp G H fp2 G' H' fn → Sat K (ρ' ++ [.ow 1 (.list es')]) (σ ++ [some (.ref b)]) G' H' fn → ρ'.length = ρ.length → ρ'[i]? = some .un →
          ∃ fc : Fp, Sat K (ρ'.set i (.ow 2 (.list (ds.set j' (.list es'))))) σ G' H' fc ∧ Stp G H fp G' H' fc ∧ ∀ f0 : List Addr, Tmp H fp2 G' fn f0 → Tmp H fp G' fc f0 := by
  have hi : i < ρ.length := (List.getElem?_eq_some_iff.mp e0).1
  obtain ⟨a, vs, g, ea, ef, ha, owl⟩ := S.lstN e0
  obtain ⟨v, f1, g1, f2, hv, eg, ow1, re⟩ := owl.at ee
  obtain ⟨b, us, e2, e3, hb, r⟩ := ow1.lst1
  subst e2 e3
  have nd := S.nod i
  rw [ef, eg] at nd
  have nd1 := List.nodup_cons.mp nd
  have fi : ∀ {c}, c ∈ fp i ↔ c = a ∨ c ∈ f1 ∨ c = b ∨ c ∈ f2 := fun {c} => by
    rw [ef, eg]
    simp [or_assoc]
  have nba : a ≠ b := fun z => nd1.1 (by subst z; simp)
  have nb1 : b ∉ f1 := fun z => (List.nodup_append.mp nd1.2).2.2 b z b (by simp) rfl
  have nb2 : b ∉ f2 := fun z => (List.nodup_cons.mp (List.nodup_append.mp nd1.2).2.1).1 z
  let fp2 : Fp := fun k => if k = ρ.length then [b] else if k = i then [] else fp k
  have fp2n : fp2 ρ.length = [b] := if_pos rfl
  have fp2i : fp2 i = [] := by
    show (if _ then _ else _) = _
    rw [if_neg (by omega), if_pos rfl]
  have fp2o : ∀ {k}, k ≠ ρ.length → k ≠ i → fp2 k = fp k := fun {k} h1 h2 => by
    show (if _ then _ else _) = _
    rw [if_neg h1, if_neg h2]
  have fpn : fp ρ.length = [] := S.out _ (Nat.le_refl _)
  have sub2 : ∀ {k c}, c ∈ fp2 k → (k = ρ.length ∧ c = b ∧ c ∈ fp i) ∨ (k ≠ ρ.length ∧ k ≠ i ∧ c ∈ fp k) := fun {k c} h => by
    by_cases h1 : k = ρ.length
    · subst h1
      rw [fp2n] at h
      have := List.mem_singleton.mp h
      subst this
      exact .inl ⟨rfl, rfl, fi.mpr (.inr (.inr (.inl rfl)))⟩
    · by_cases h2 : k = i
      · subst h2; rw [fp2i] at h; cases h
      · rw [fp2o h1 h2] at h; exact .inr ⟨h1, h2, h⟩
  have old2 : ∀ {k c}, c ∈ fp2 k → ∃ j, c ∈ fp j := fun {k c} h => by
    rcases sub2 h with ⟨_, _, q⟩ | ⟨_, _, q⟩
    · exact ⟨i, q⟩
    · exact ⟨k, q⟩
  -- what stays behind: the outer list, its other items
  have fr2 : ∀ {c}, c ∈ fp i → c ≠ b → ∀ k, c ∉ fp2 k := fun {c} hc hcb k hk => by
    rcases sub2 hk with ⟨_, q, _⟩ | ⟨_, q1, q⟩
    · exact hcb q
    · exact q1 (S.dis k i c q hc)
  have S2 : Sat K (ρ.set i .un ++ [.ow 1 (.list es)]) (σ ++ [some (.ref b)]) G H fp2 := by
    have hl : (ρ.set i Sl.un).length = ρ.length := List.length_set
    refine ⟨by rw [List.length_append, List.length_append, hl, S.len]; rfl, fun k s e => ?_, fun k hk => ?_, fun k l c h1 h2 => ?_, fun k => ?_, fun k c h => ?_, S.sub⟩
    · rcases Nat.lt_trichotomy k ρ.length with h | h | h
      · rw [List.getElem?_append_left (by omega)] at e
        rw [List.getElem?_append_left (by rw [S.len]; exact h)]
        by_cases hk : k = i
        · subst hk
          rw [List.getElem?_set_self hi] at e
          cases e
          exact fp2i
        · rw [List.getElem?_set_ne (Ne.symm hk)] at e
          rw [fp2o (by omega) hk]
          exact S.sl k s e
      · subst h
        rw [List.getElem?_append_right (by omega), hl, Nat.sub_self] at e
        cases e
        rw [List.getElem?_append_right (by rw [S.len]; exact Nat.le_refl _), S.len, Nat.sub_self, fp2n]
        exact ⟨.ref b, rfl, Ow.new1 hb r⟩
      · rw [List.getElem?_eq_none (by rw [List.length_append, hl, List.length_singleton]; omega)] at e
        cases e
    · rw [List.length_append, hl, List.length_singleton] at hk
      rw [fp2o (by omega) (by omega)]
      exact S.out k (by omega)
    · rcases sub2 h1 with ⟨x1, x2, x3⟩ | ⟨x1, x2, x3⟩
      · rcases sub2 h2 with ⟨y1, y2, y3⟩ | ⟨y1, y2, y3⟩
        · rw [x1, y1]
        · exact absurd (S.dis l i c y3 x3) y2
      · rcases sub2 h2 with ⟨y1, y2, y3⟩ | ⟨y1, y2, y3⟩
        · exact absurd (S.dis k i c x3 y3) x2
        · exact S.dis k l c x3 y3
    · by_cases h1 : k = ρ.length
      · subst h1; rw [fp2n]; simp
      · by_cases h2 : k = i
        · subst h2; rw [fp2i]; exact List.nodup_nil
        · rw [fp2o h1 h2]; exact S.nod k
    · obtain ⟨j, q⟩ := old2 h
      exact S.fr j c q
  refine ⟨a, vs, b, ea, ha, hv, owl.length, ⟨us, hb⟩, fp2, S2, fun G' H' fn ρ' es' st S' hl' hu => ?_⟩
  have hsl := S'.sl ρ.length (.ow 1 (.list es')) (by rw [List.getElem?_append_right (by omega), hl', Nat.sub_self]; rfl)
  rw [List.getElem?_append_right (by rw [S.len]; exact Nat.le_refl _), S.len, Nat.sub_self] at hsl
  obtain ⟨v', ev', ow'⟩ := hsl
  cases ev'
  have fni : fn i = [] := S'.sl i .un (by rw [List.getElem?_append_left (by omega)]; exact hu)
  have live : ∀ {c}, c ∈ fp i → H c ≠ none := fun {c} hc => S.live hc
  have fh : ∀ {c}, c ∈ fp i → c ≠ b → H' c = H c := fun {c} hc hcb => st.h c (fr2 hc hcb) (live hc)
  have fn_not : ∀ {c k}, c ∈ fp i → c ≠ b → c ∉ fn k := fun {c k} hc hcb hk => by
    rcases st.f k c hk with ⟨l, w⟩ | w
    · exact fr2 hc hcb l w
    · exact live hc w
  have fg : ∀ {c}, c ∈ fp i → c ≠ b → G' c = none := fun {c} hc hcb => Classical.byContradiction fun z => by
    rcases st.n c z with w | ⟨l, w⟩ | w
    · exact w (S.fr i c hc)
    · exact fr2 hc hcb l w
    · exact live hc w
  have na1 : a ∉ f1 := fun z => nd1.1 (by simp [z])
  have na2 : a ∉ f2 := fun z => nd1.1 (by simp [z])
  let fc : Fp := fun k => if k = i then a :: (f1 ++ fn ρ.length ++ f2) else if k = ρ.length then [] else fn k
  have fci : fc i = a :: (f1 ++ fn ρ.length ++ f2) := if_pos rfl
  have fco : ∀ {k}, k ≠ i → k ≠ ρ.length → fc k = fn k := fun {k} h1 h2 => by
    show (if _ then _ else _) = _
    rw [if_neg h1, if_neg h2]
  have mem : ∀ {k c}, c ∈ fc k → (k = i ∧ c ∈ fp i ∧ c ≠ b) ∨ (k = i ∧ c ∈ fn ρ.length) ∨ (k ≠ i ∧ k ≠ ρ.length ∧ c ∈ fn k) := fun {k c} h => by
    by_cases h1 : k = i
    · subst h1
      rw [fci] at h
      simp at h
      rcases h with h | h | h | h
      · exact .inl ⟨rfl, fi.mpr (.inl h), by rw [h]; exact nba⟩
      · exact .inl ⟨rfl, fi.mpr (.inr (.inl h)), fun z => nb1 (by rw [← z]; exact h)⟩
      · exact .inr (.inl ⟨rfl, h⟩)
      · exact .inl ⟨rfl, fi.mpr (.inr (.inr (.inr h))), fun z => nb2 (by rw [← z]; exact h)⟩
    · by_cases h2 : k = ρ.length
      · subst h2
        have : fc ρ.length = [] := by
          show (if _ then _ else _) = _
          rw [if_neg h1, if_pos rfl]
        rw [this] at h
        cases h
      · rw [fco h1 h2] at h; exact .inr (.inr ⟨h1, h2, h⟩)
  have nf : ∀ {c}, c ∈ f1 ∨ c ∈ f2 ∨ c = a → c ∈ fp i ∧ c ≠ b := fun {c} h => by
    rcases h with h | h | h
    · exact ⟨fi.mpr (.inr (.inl h)), fun z => nb1 (by rw [← z]; exact h)⟩
    · exact ⟨fi.mpr (.inr (.inr (.inr h))), fun z => nb2 (by rw [← z]; exact h)⟩
    · exact ⟨fi.mpr (.inl h), by rw [h]; exact nba⟩
  have sC : Sat K (ρ'.set i (.ow 2 (.list (ds.set j' (.list es'))))) σ G' H' fc := by
    refine ⟨by rw [List.length_set, hl']; exact S.len, fun k s e => ?_, fun k hk => ?_, fun k l c h1 h2 => ?_, fun k => ?_, fun k c h => ?_, S'.sub⟩
    · have hk : k < ρ.length := by
        have := (List.getElem?_eq_some_iff.mp e).1
        rw [List.length_set] at this
        omega
      by_cases hki : k = i
      · subst hki
        rw [List.getElem?_set_self (by omega)] at e
        cases e
        refine ⟨.ref a, ea, .inr (.inl ⟨a, vs, _, f1 ++ fn ρ.length ++ f2, rfl, rfl, fci, ?_, ?_⟩)⟩
        · rw [fh (nf (.inr (.inr rfl))).1 nba]; exact ha
        · rw [List.append_assoc]
          exact re _ _ (fn ρ.length) (fun v d h hh q => q.mono st.g fun c hc => by
            rcases hh c hc with w | w
            · exact fh (nf (.inl w)).1 (nf (.inl w)).2
            · exact fh (nf (.inr (.inl w))).1 (nf (.inr (.inl w))).2) ow'
      · rw [List.getElem?_set_ne (Ne.symm hki)] at e
        rw [fco hki (by omega)]
        have := S'.sl k s (by rw [List.getElem?_append_left (by omega)]; exact e)
        rw [List.getElem?_append_left (by rw [S.len]; exact hk)] at this
        exact this
    · rw [List.length_set, hl'] at hk
      by_cases h2 : k = ρ.length
      · subst h2
        show (if _ then _ else _) = _
        rw [if_neg (by omega), if_pos rfl]
      · rw [fco (by omega) h2]
        exact S'.out k (by rw [List.length_append, hl', List.length_singleton]; omega)
    · rcases mem h1 with ⟨x1, x2, x3⟩ | ⟨x1, x2⟩ | ⟨x1, x2, x3⟩
      · rcases mem h2 with ⟨y1, y2, y3⟩ | ⟨y1, y2⟩ | ⟨y1, y2, y3⟩
        · rw [x1, y1]
        · rw [x1, y1]
        · exact absurd y3 (fn_not x2 x3)
      · rcases mem h2 with ⟨y1, y2, y3⟩ | ⟨y1, y2⟩ | ⟨y1, y2, y3⟩
        · rw [x1, y1]
        · rw [x1, y1]
        · exact absurd (S'.dis l _ c y3 x2) y2
      · rcases mem h2 with ⟨y1, y2, y3⟩ | ⟨y1, y2⟩ | ⟨y1, y2, y3⟩
        · exact absurd x3 (fn_not y2 y3)
        · exact absurd (S'.dis k _ c x3 y2) x2
        · exact S'.dis k l c x3 y3
    · by_cases h1 : k = i
      · subst h1
        rw [fci]
        have n1 := (List.nodup_append.mp nd1.2).1
        have n2 := (List.nodup_cons.mp (List.nodup_append.mp nd1.2).2.1).2
        refine List.nodup_cons.mpr ⟨fun z => ?_, List.nodup_append.mpr ⟨List.nodup_append.mpr ⟨n1, S'.nod _, fun c h c' h' z => ?_⟩, n2, fun c h c' h' z => ?_⟩⟩
        · simp at z
          rcases z with z | z | z
          · exact na1 z
          · exact fn_not (nf (.inr (.inr rfl))).1 nba z
          · exact na2 z
        · subst z; exact fn_not (nf (.inl h)).1 (nf (.inl h)).2 h'
        · subst z
          rcases List.mem_append.mp h with w | w
          · exact (List.nodup_append.mp nd1.2).2.2 c w c (by simp [h']) rfl
          · exact fn_not (nf (.inr (.inl h'))).1 (nf (.inr (.inl h'))).2 w
      · by_cases h2 : k = ρ.length
        · subst h2
          have : fc ρ.length = [] := by
            show (if _ then _ else _) = _
            rw [if_neg h1, if_pos rfl]
          rw [this]
          exact List.nodup_nil
        · rw [fco h1 h2]; exact S'.nod k
    · rcases mem h with ⟨x1, x2, x3⟩ | ⟨x1, x2⟩ | ⟨x1, x2, x3⟩
      · exact fg x2 x3
      · exact S'.fr _ c x2
      · exact S'.fr _ c x3
  have bin : b ∈ fp i := fi.mpr (.inr (.inr (.inl rfl)))
  refine ⟨fc, sC, ⟨st.g, fun c hc h1 => st.h c (fun k hk => by obtain ⟨j, q⟩ := old2 hk; exact hc j q) h1, st.t, fun k c h => ?_, fun c h => ?_⟩, fun f0 tm => ⟨tm.nd, tm.g, fun c hc k hk => ?_, fun c hc => ?_⟩⟩
  · rcases mem h with ⟨x1, x2, x3⟩ | ⟨x1, x2⟩ | ⟨x1, x2, x3⟩
    · exact .inl ⟨i, x2⟩
    · rcases st.f _ c x2 with ⟨l, w⟩ | w
      · exact .inl (old2 w)
      · exact .inr w
    · rcases st.f _ c x3 with ⟨l, w⟩ | w
      · exact .inl (old2 w)
      · exact .inr w
  · rcases st.n c h with w | ⟨l, w⟩ | w
    · exact .inl w
    · exact .inr (.inl (old2 w))
    · exact .inr (.inr w)
  · rcases mem hk with ⟨x1, x2, x3⟩ | ⟨x1, x2⟩ | ⟨x1, x2, x3⟩
    · rcases tm.o c hc with ⟨l, w⟩ | w
      · exact fr2 x2 x3 l w
      · exact live x2 w
    · exact tm.d c hc _ x2
    · exact tm.d c hc _ x3
  · rcases tm.o c hc with ⟨l, w⟩ | w
    · exact .inl (old2 w)
    · exact .inr w
def mCallS1 (F : Nt.Env → Option (D × Nt.Env)) (i0 i : Nat) (fj : Nt.Env → Option D) : Mo D := fun ρ => match ρ[i0]?, ρ[i]?, fj ρ with
  | some s0, some (.ow 2 (.list ds)), some (.int j) => match ixN ds.length j with
    | some j' => match ds[j']? with
      | some (.list es) => if i0 ≠ i ∧ (rs ρ (.sl i0)).isSome then (match F [s0, .ow 1 (.list es)] with
        | some (z, [s0', .ow 1 (.list es')]) => some (z, (ρ.set i0 s0').set i (.ow 2 (.list (ds.set j' (.list es')))))
        | _ => none) else none
      | _ => none
    | none => none
  | _, _, _ => none
theorem rs_slot {ρ : Nt.Env} {σ : L2.St} {G H : Hp} {fp : Fp} {i : Nat} (S : Sat K ρ σ G H fp) (h : (rs ρ (.sl i)).isSome = true) : ∃ v, σ[i]? = some (some v) := by
  simp only [rs] at h
  split at h
  · rename_i d e1
    obtain ⟨v, e2, _⟩ := S.sh e1
    exact ⟨v, e2⟩
  · rename_i n d e1
    obtain ⟨v, e2, _⟩ := S.owd e1
    exact ⟨v, e2⟩
  · cases h
theorem rw_callS1 {n i0 i : Nat} {F : Nt.Env → Option (D × Nt.Env)} (hj : RH K tj fj) : RW K n (tCallG (spS K 2 n F) (tCons (tVar i0) (tCons (tOp (rIx K) (tVar i) tj) tNil))) (mCallS1 F i0 i fj) := fun ρ d ρ' e σ G H fp S Q q => by
  unfold mCallS1 at e
  split at e
  · rename_i s0 ds j e0 e1 e2
    split at e
    · rename_i j' e3
      split at e
      · rename_i es e4
        split at e
        · rename_i hc
          split at e
          · rename_i z s0' es' e5
            cases e
            have hi0 : i0 < ρ.length := (List.getElem?_eq_some_iff.mp e0).1
            have hi : i < ρ.length := (List.getElem?_eq_some_iff.mp e1).1
            obtain ⟨v0, ev0⟩ := rs_slot S hc.2
            obtain ⟨a, vs, b, ea, ha, hv, hl, ⟨us, hb⟩, fp2, S2, close⟩ := S.lend2 e1 e4
            refine ⟨v0, ev0, .ref a, ea, hj ρ _ e2 σ G H fp S _ fun x rx => ?_⟩
            cases rx.int'
            refine .inl ⟨a, vs, j, .ref b, rfl, rfl, SqL.of ha, atI_of (by rw [hl]; exact e3) hv, ?_⟩
            have hls : (ρ.set i Sl.un).length = ρ.length := List.length_set
            have ra : OpdsR K G (σ ++ [some (.ref b)]) [v0, .ref b] [.sl i0, .sl ρ.length] :=
              .cons (show (σ ++ [some (V.ref b)])[i0]? = some (some v0) by rw [List.getElem?_append_left (by rw [S.len]; exact hi0)]; exact ev0)
                (.cons (show (σ ++ [some (V.ref b)])[ρ.length]? = some (some (.ref b)) by rw [List.getElem?_append_right (by rw [S.len]; exact Nat.le_refl _), S.len, Nat.sub_self]; rfl) .nil)
            have g0 : (ρ.set i Sl.un ++ [Sl.ow 1 (.list es)])[i0]? = some s0 := by rw [List.getElem?_append_left (by omega), List.getElem?_set_ne (Ne.symm hc.1)]; exact e0
            have g1 : (ρ.set i Sl.un ++ [Sl.ow 1 (.list es)])[ρ.length]? = some (.ow 1 (.list es)) := by rw [List.getElem?_append_right (by omega), hls, Nat.sub_self]; rfl
            have ae : argE (ρ.set i Sl.un ++ [Sl.ow 1 (.list es)]) [.sl i0, .sl ρ.length] = some [s0, .ow 1 (.list es)] := by
              unfold argE argE argE
              rw [g0, g1]
            have dd : distS [.sl i0, .sl ρ.length] = true := by
              unfold distS distS distS noSl noSl
              simp
              omega
            refine callS_core (E := fun _ _ _ => False) S2 ra ae ⟨rfl, dd⟩ e5 rfl fun v G' H' fn f0 st S' ow tm => ?_
            have es2 : setA [.sl i0, .sl ρ.length] [s0', .ow 1 (.list es')] (ρ.set i Sl.un ++ [Sl.ow 1 (.list es)]) = (ρ.set i Sl.un).set i0 s0' ++ [Sl.ow 1 (.list es')] := by
              show ((ρ.set i Sl.un ++ [Sl.ow 1 (.list es)]).set i0 s0').set ρ.length (.ow 1 (.list es')) = _
              rw [List.set_append_left _ _ (by omega), List.set_append_right _ _ (by rw [List.length_set]; omega), List.length_set, hls, Nat.sub_self]
              rfl
            rw [es2] at S'
            obtain ⟨fc, Sc, stc, tmc⟩ := close G' H' fn ((ρ.set i Sl.un).set i0 s0') es' st S' (by rw [List.length_set, hls]) (by rw [List.getElem?_set_ne hc.1, List.getElem?_set_self hi])
            have ec : ((ρ.set i Sl.un).set i0 s0').set i (.ow 2 (.list (ds.set j' (.list es')))) = (ρ.set i0 s0').set i (.ow 2 (.list (ds.set j' (.list es')))) := by
              rw [List.set_comm _ _ (Ne.symm hc.1), List.set_set]
            rw [ec] at Sc
            exact q v G' H' fc f0 stc Sc ow (tmc f0 tm)
          · cases e
        · cases e
      · cases e
    · cases e
  · cases e
end
/-! ### text and function -/
section
variable {X : Cx} {k n m : Nat} {e o a c : Expr} {es : List Expr} {pos p p2 p3 p4 : Pos} {fs : Mo (List Opd)} {ps : List Str} {x y : Str} {fo fe fj fk : Nt.Env → Option D} {oa ob : Mo Opd} {qa : Mo Bool}
theorem h_index (ho : GH X o fo) (he : GH X e fe) (M : Ml X o "index" p3 e [] pos) : GH X (.Call (.Attribute o "index" p3) [e] [] pos) (h2 dIdx fo fe) := mkHh (pe_idx ho he M) (rh_idx xH xH)
theorem q_ne0 (c : Cok X k) (ho : GH X o fo) : GT X (.Compare o [.NotEq] [.List [] p2] p) (mNe0 fo) := mkT (pt_cmpR ((op_neD (by have := c.un; omega)).or op_ne) ho (pe_lst pa_nil) (nomark _)) (rt_ne0 xH)
theorem q_dnotin (c : Cok X k) (ha : GO X a oa) (hb : GO X e ob) (hm : behindInMarks .NotIn e = false) : GT X (.Compare a [.NotIn] [e] p) (mTest (m2 rs (dDI true) oa ob)) := mkT (pt_cmp (pc_dnotin (by have := c.un; omega) ha hb) hm) (rt_test (re_dnotin xO xO))
theorem g_ins2 (i : Nat) (hN : X.N[i]? = some x) (hv : Vis X.env.scope x) (hj : GH X a fj) (hs : PlainIx a) (hk : GH X c fk) (h : GH X e fe) (M : Ml X (.Subscript (.Name x p2) a p) "insert" p3 c [e] pos) (hst : starEach [e] X.env = (false, eval e X.env) :: starEach [] X.env := by rfl) (hd : (x == ("__debug__" : Str)) = false := by decide) (hcd : (x == ("__classdict__" : Str)) = false := by decide) : GE X (.Call (.Attribute (.Subscript (.Name x p2) a p) "insert" p3) [c, e] [] pos) (mIns2 i fj fk fe) :=
  mkE (pe_bm PySem.F.plainAttrs_list PySem.F.slot_list_insert PySem.F.type_list_insert mt_insert (pe_ix ix_seq (pe_var hN hv hd hcd) hj hs) (pa_cons hk (pa_cons h pa_nil hst) M.st) M.base M.few M.line M.st M.plain) (re_ins2 xH xH xH)
theorem g_rem2 (c : Cok X k) (i : Nat) (hN : X.N[i]? = some x) (hv : Vis X.env.scope x) (hj : GH X a fj) (hs : PlainIx a) (h : GH X e fe) (M : Ml X (.Subscript (.Name x p2) a p) "remove" p3 e [] pos) (hd : (x == ("__debug__" : Str)) = false := by decide) (hcd : (x == ("__classdict__" : Str)) = false := by decide) : GE X (.Call (.Attribute (.Subscript (.Name x p2) a p) "remove" p3) [e] [] pos) (mRem2 i fj fe) :=
  mkE (pe_remX (W := fun _ _ _ _ => False) c.calm (fun _ _ ⟨_, _, _, _, _, _, _, _, _, _, _, _, _, _, _, _, w⟩ => w.elim) (pe_ix ix_seq (pe_var hN hv hd hcd) hj hs) h M.base M.few M.line M.st M.plain) (re_rem2 xH xH)
theorem g_callP {F : List D → Option D} (c : Cok X k) (Dd : Df X k x ps (spF X.K m n F)) (h : GA X (e :: es) fs) (hdb : (x == ("__debug__" : Str)) = false := by decide) (he : starEach (e :: es) X.env = (false, eval e X.env) :: starEach es X.env := by rfl) (hpl : (backTo pos (starEach es X.env)).any (·.1) = false := by rfl) :
    GE X (.Call (.Name x p) (e :: es) [] pos) (mCallP m F fs) := by
  obtain ⟨g, fd, hm, hF, hk, hb⟩ := Dd.ex
  exact mkE (pe_callG hF c.gd c.room Dd.gl hm hk hb h hdb he hpl) (re_callP xA)
theorem w_callS1 {F : Nt.Env → Option (D × Nt.Env)} {z : Str} {i0 i : Nat} (c : Cok X k) (Dd : Df X k x ps (spS X.K 2 n F)) (hN0 : X.N[i0]? = some y) (hv0 : Vis X.env.scope y) (hN : X.N[i]? = some z) (hv : Vis X.env.scope z) (hj : GH X a fj) (hs : PlainIx a)
    (hdb : (x == ("__debug__" : Str)) = false := by decide) (h1 : (y == ("__debug__" : Str)) = false := by decide) (h2 : (y == ("__classdict__" : Str)) = false := by decide) (h3 : (z == ("__debug__" : Str)) = false := by decide) (h4 : (z == ("__classdict__" : Str)) = false := by decide)
    (he : starEach [.Name y p2, .Subscript (.Name z p3) a p4] X.env = (false, eval (.Name y p2) X.env) :: starEach [.Subscript (.Name z p3) a p4] X.env := by rfl) (he2 : starEach [.Subscript (.Name z p3) a p4] X.env = (false, eval (.Subscript (.Name z p3) a p4) X.env) :: starEach [] X.env := by rfl) (hpl : (backTo pos (starEach [.Subscript (.Name z p3) a p4] X.env)).any (·.1) = false := by rfl) :
    GW X n (.Call (.Name x p) [.Name y p2, .Subscript (.Name z p3) a p4] [] pos) (mCallS1 F i0 i fj) := by
  obtain ⟨g, fd, hm, hF, hk, hb⟩ := Dd.ex
  exact mkW (pe_callG hF c.gd c.room Dd.gl hm hk hb (pa_cons (pe_var hN0 hv0 h1 h2) (pa_cons (pe_ix ix_seq (pe_var hN hv h3 h4) hj hs) pa_nil he2) he) hdb he hpl) (rw_callS1 xH)
end
end Nt

/-! [[]] -/
namespace Nt
open PySem PySem.Spec PyProof.Rows L2
def mNil2 : Mo D := fun ρ => some (.list [.list []], ρ)
theorem rw_nil2 {K : PySem.W.Frag} : RW K 2 (tLst (tCons (tLst tNil) tNil)) mNil2 := fun ρ d ρ' e σ G H fp S Q q => by
  cases e
  refine ⟨by decide, fun p hp => ⟨by rw [sizeLine_eq]; simp, fun r hr => ?_⟩⟩
  have npr : r ≠ p := fun z => by rw [z, upd_same] at hr; cases hr
  have hr0 : H r = none := by rw [upd_ne npr] at hr; exact hr
  have st : Stp G H fp G (upd (upd H p (.lst [])) r (.lst [.ref p])) fp := (Stp.new hp).trans (Stp.new hr)
  refine q _ G _ fp [r, p] st ((S.new hp).new hr) (.inr (.inl ⟨r, [.ref p], _, [p], rfl, rfl, rfl, upd_same, ?_⟩)) ⟨by simp [npr], fun a ha => ?_, fun a ha i hi => ?_, fun a ha => ?_⟩
  · exact OwL.cons (f := [p]) (g := []) (Ow.new1 ((upd_ne (Ne.symm npr)).trans upd_same) .nil) .nil
  · simp at ha
    rcases ha with rfl | rfl
    · exact S.sub.none hr0
    · exact S.sub.none hp
  · simp at ha
    rcases ha with rfl | rfl
    · exact S.live hi hr0
    · exact S.live hi hp
  · simp at ha
    rcases ha with rfl | rfl
    · exact .inr hr0
    · exact .inr hp
section
variable {X : Cx} {p p2 : Pos}
theorem w_nil2 (hs : starEach [.List [] p2] X.env = (false, eval (.List [] p2) X.env) :: starEach [] X.env := by rfl) : GW X 2 (.List [.List [] p2] p) mNil2 := mkW (pe_lst (pa_cons (pe_lst pa_nil) pa_nil hs)) rw_nil2
end
end Nt

/-! zip of two lists; chains of three comparisons -/
namespace Nt
open PySem PySem.Spec PyProof.Rows L2

/-- the lists at a and b, their items in new pairs that have no dict of their own -/
def ItzN (K : PySem.W.Frag) (a b : Addr) : It :=
  ⟨fun i H => ∃ (xs ys : List V) (x y : V), SqL K H a xs ∧ SqL K H b ys ∧ xs[i]? = some x ∧ ys[i]? = some y,
    fun i H v H' => ∃ T x y o, v = .ref T ∧ H T = none ∧ o.dict = none ∧ H' = upd H T (.frz o (.tup [x, y])) ∧ (∀ xs, SqL K H a xs → xs[i]? = some x) ∧ ∀ ys, SqL K H b ys → ys[i]? = some y,
    fun i H => ∃ xs ys : List V, SqL K H a xs ∧ SqL K H b ys ∧ (xs.length ≤ i ∨ ys.length ≤ i)⟩
theorem turn_zipN {P : Program} {w : World} {K : PySem.W.Frag} {elts : List Expr} {kk : Nat} {tpos : Pos} {a b z TI TO i1 i2 : Addr} (D : ZipApart z TI TO i1 i2 a b) :
    Turn P w K (.Tuple elts kk tpos) (ItzN K a b) [z, TI, TO, i1, i2] z (fun i h => IsZip h z TI TO .none ∧ IsPair h TI (.ref i1) (.ref i2) ∧ (∃ x y, IsPair h TO x y) ∧ h.IsListIter i1 a i ∧ h.IsListIter i2 b i) where
  mem := (turn_zip (P := P) (w := w) (K := K) (elts := elts) (kk := kk) (tpos := tpos) D).mem
  obj := (turn_zip (P := P) (w := w) (K := K) (elts := elts) (kk := kk) (tpos := tpos) D).obj
  keep := (turn_zip (P := P) (w := w) (K := K) (elts := elts) (kk := kk) (tpos := tpos) D).keep
  item := by
    intro X hP hw hK hc i pins s σ H E I hf st hg
    subst hP hw hK
    obtain ⟨hz, hTI, ⟨x0, y0, hTO⟩, h1, h2⟩ := st
    obtain ⟨xs, ys, x, y, hqx, hqy, hx, hy⟩ := hg
    obtain ⟨its, rv, p, _⟩ := I.list hqx
    obtain ⟨its2, rv2, p2, _⟩ := I.list hqy
    obtain ⟨u, hu, ru⟩ := rv.get hx
    obtain ⟨u2, hu2, ru2⟩ := rv2.get hy
    have hzl : z < s.heap.objs.size := Heap.lt_size hz
    refine wpAny_pyNext_zip_item D hz hTI hTO h1 h2 p.isList p2.isList (x := u) (y := u2) (by simpa using hu) (by simpa using hu2) fun h' z' TO' h1' h2' hT hsz hk => ?_
    refine ⟨_, rfl, wpAny_letOwnedTupleGo_zip (s := { s with heap := h' }) z' fun h'' z'' sb => ?_⟩
    have hT2 : h''.get? s.heap.objs.size = some { cls := .type "tuple", data := .seq #[u, u2] } := (sb.2 _ (Nat.ne_of_gt hzl)).trans hT
    have I1 : Inv X pins σ (upd H s.heap.objs.size (.frz (tupO #[u, u2]) (.tup [x, y]))) { s with heap := h'' } :=
      I.turnedNew (t' := s.toks) (ch := [z, TI, TO, i1, i2]) (fun c o hb q => (sb.2 c (fun q' => hb (by simp [q']))).trans (hk c o (fun q' => hb (by simp [q'])) (fun q' => hb (by simp [q'])) (fun q' => hb (by simp [q'])) (fun q' => hb (by simp [q'])) q)) hf (Nat.le_refl _) (tup_at (us := [u, u2]) (by show 2 ≤ sizeLine; decide) (.cons ru (.cons ru2 .nil)) hT2 rfl rfl)
    refine ⟨.ref s.heap.objs.size, _, I1, rfl, ⟨_, x, y, _, rfl, I.hok.fresh (Nat.le_refl _), rfl, rfl, fun l hl => by rw [I.list_inj hl hqx]; exact hx, fun l hl => by rw [I.list_inj hl hqy]; exact hy⟩, ⟨z'', ?_, ⟨u, u2, ?_⟩, ?_, ?_⟩, fun c hcm => ?_⟩
    · exact (sb.2 _ D.TIz).trans (hk _ _ D.TIz D.TITO D.TIi1 D.TIi2 hTI)
    · exact (sb.2 _ D.TOz).trans TO'
    · exact h1'.at fun o q => (sb.2 _ D.i1z).trans q
    · exact h2'.at fun o q => (sb.2 _ D.i2z).trans q
    · have hlt : c < s.heap.objs.size := by
        have e' : c = z ∨ c = TI ∨ c = TO ∨ c = i1 ∨ c = i2 := by simpa using hcm
        rcases e' with q | q | q | q | q
        · rw [q]; exact hzl
        · rw [q]; exact Heap.lt_size hTI
        · rw [q]; exact Heap.lt_size hTO
        · rw [q]; obtain ⟨_, e1, _⟩ := h1; exact Heap.lt_size e1
        · rw [q]; obtain ⟨_, e2, _⟩ := h2; exact Heap.lt_size e2
      rw [upd_ne (Nat.ne_of_lt hlt)]
      exact (hf c hcm).1
  done := (turn_zip (P := P) (w := w) (K := K) (elts := elts) (kk := kk) (tpos := tpos) D).done
  self := (turn_zip (P := P) (w := w) (K := K) (elts := elts) (kk := kk) (tpos := tpos) D).self
def iZipN (K : PySem.W.Frag) (ta : TA) : TI := fun σ H R => ta σ H fun vs H1 => ∃ a b xs ys, vs = [.ref a, .ref b] ∧ SqL K H1 a xs ∧ SqL K H1 b ys ∧ R (ItzN K a b) H1
theorem pi_zipN {X : Cx} {e e2 : Expr} {ta : TA} {p pos tpos : Pos} {elts : List Expr} {kk : Nat} (hg : Gl X "zip") (hm : X.mg "zip" = none) (ha : PA X [e, e2] ta)
    (hs : starEach [e, e2] X.env = (false, eval e X.env) :: starEach [e2] X.env := by rfl) (hpl : (backTo pos (starEach [e2] X.env)).any (·.1) = false := by rfl) :
    PI X (.Tuple elts kk tpos) (.Call (.Name "zip" p) [e, e2] [] pos) (iZipN X.K ta) := by
  refine ⟨fun pins s σ H R I h => ?_⟩
  refine Call_ (ld_blt I hg hm PyProof.Rows.boot_zip (PyProof.Rows.callWith_type1 (thn (ha.run pos pins s σ H _ I h) fun us s1 ⟨vs, H1, I1, r1, q1⟩ => ?_) hs hpl))
  obtain ⟨a, b, xs, ys, ex, hqx, hqy, q⟩ := q1
  subst ex
  cases r1 with
  | cons r rr =>
    cases rr with
    | cons r' rr =>
      cases rr
      cases r
      cases r'
      obtain ⟨its, rv, p1, _⟩ := I1.list hqx
      obtain ⟨its2, rv2, p2, _⟩ := I1.list hqy
      have la : a < s1.heap.objs.size := p1.lt
      have lb : b < s1.heap.objs.size := p2.lt
      refine call_zip_2 p1.isList p2.isList fun h' hz hTI hTO h1 h2 hsz hk => wpAny_pyIter_zip hz ?_
      have I2 : Inv X pins σ H1 { s1 with heap := h' } := I1.kept (t' := s1.toks) hk
      refine ⟨s1.heap.objs.size + 4, [s1.heap.objs.size + 4, s1.heap.objs.size + 2, s1.heap.objs.size + 3, s1.heap.objs.size, s1.heap.objs.size + 1], _, _, H1, rfl, I2, turn_zipN (PySem.W.ktu_apart s1.heap.objs.size a b la lb), ⟨hz, hTI, ⟨_, _, hTO⟩, h1, h2⟩, fun c hcm => ?_, q⟩
      have e' : c = s1.heap.objs.size + 4 ∨ c = s1.heap.objs.size + 2 ∨ c = s1.heap.objs.size + 3 ∨ c = s1.heap.objs.size ∨ c = s1.heap.objs.size + 1 := by simpa using hcm
      have hle : s1.heap.objs.size ≤ c := by
        rcases e' with z | z | z | z | z <;> rw [z] <;> first | exact Nat.le_add_right _ _ | exact Nat.le_refl _
      exact I1.fpOk hle (I1.hok.fresh hle)
def zipD (xs ys : List D) : List D := List.zipWith (fun x y => .tuple [x, y]) xs ys
def iZp (fs : Mo (List Opd)) : Mo (List D) := fun ρ => match fs ρ with
  | some ([.val (.list xs), .val (.list ys)], ρ1) => some (zipD xs ys, ρ1)
  | _ => none
theorem zipD_get {xs ys : List D} {i : Nat} {d : D} (h : (zipD xs ys)[i]? = some d) : ∃ x y, xs[i]? = some x ∧ ys[i]? = some y ∧ d = .tuple [x, y] := by
  unfold zipD at h
  rw [List.getElem?_zipWith] at h
  split at h
  · rename_i x y h1 h2
    cases h
    exact ⟨x, y, h1, h2, rfl⟩
  · cases h
theorem rp_pair2 {K : PySem.W.Frag} {G : Hp} {T : Addr} {o : Obj} {x y : V} {d e : D} (ho : o.dict = none) (hT : G T = none) (r : Rp K G x d) (r2 : Rp K G y e) : Rp K (upd G T (.frz o (.tup [x, y]))) (.ref T) (.tuple [d, e]) :=
  .tup (NdT.of ho) (.cons (r.mono (Sub.new (Sub.refl G) hT)) (.cons (r2.mono (Sub.new (Sub.refl G) hT)) .nil))
theorem ri_zip {K : PySem.W.Frag} {ta : TA} {fs : Mo (List Opd)} (h : RA K ta fs) : RI K (iZipN K ta) (iZp fs) := fun ρ ds ρ' e σ G H fp S R q => by
  unfold iZp at e
  split at e
  · rename_i xs ys ρ1 e1
    cases e
    refine h ρ _ _ e1 σ G H fp S _ fun vs G1 H1 fp1 st1 S1 ra => ?_
    cases ra with
    | cons r1 r2 =>
      cases r2 with
      | cons r2 r3 =>
      cases r3
      obtain ⟨a, ws, rfl, g1, p1⟩ := Rp.list' r1
      obtain ⟨b, us, rfl, g2, p2⟩ := Rp.list' r2
      refine ⟨a, b, ws, us, rfl, SqL.of (S1.sub _ _ g1), SqL.of (S1.sub _ _ g2), q _ G1 H1 fp1 st1 S1 fun G' H' s1 s2 i => ⟨fun d hd => ?_, fun hl => ?_⟩⟩
      · have e2 : H' a = some (.lst ws) := s2 _ _ (s1 _ _ g1)
        have e3 : H' b = some (.lst us) := s2 _ _ (s1 _ _ g2)
        obtain ⟨x, y, hx, hy, rfl⟩ := zipD_get hd
        obtain ⟨v, hv, rv⟩ := p1.get hx
        obtain ⟨w, hw, rw'⟩ := p2.get hy
        refine ⟨⟨ws, us, v, w, SqL.of e2, SqL.of e3, hv, hw⟩, fun z H2 hz => ?_⟩
        obtain ⟨T, x', y', o, rfl, hT, ho, rfl, hz1, hz2⟩ := hz
        have q1 := hz1 ws (SqL.of e2)
        have q2 := hz2 us (SqL.of e3)
        rw [hv] at q1; rw [hw] at q2
        cases q1; cases q2
        exact .inr ⟨T, _, hT, rfl, rp_pair2 ho (s2.none hT) (rv.mono s1) (rw'.mono s1)⟩
      · refine ⟨ws, us, SqL.of (s2 _ _ (s1 _ _ g1)), SqL.of (s2 _ _ (s1 _ _ g2)), ?_⟩
        unfold zipD at hl
        rw [List.length_zipWith] at hl
        rw [p1.length, p2.length]
        omega
  · cases e
section
variable {X : Cx} {k n m : Nat} {e a b c d : Expr} {es : List Expr} {pos p p2 p3 : Pos} {f fa fb fc : Mo D} {oa ob oc od : Mo Opd} {fs : Mo (List Opd)}
theorem i_zp {elts : List Expr} {kk : Nat} {tpos : Pos} (B : Bt X "zip") (h : GA X [a, b] fs) (hs : starEach [a, b] X.env = (false, eval a X.env) :: starEach [b] X.env := by rfl) (hpl : (backTo pos (starEach [b] X.env)).any (·.1) = false := by rfl) :
    GI X (.Tuple elts kk tpos) (.Call (.Name "zip" p) [a, b] [] pos) (iZp fs) := mkI (pi_zipN B.gl B.mg h hs hpl) (ri_zip xA)

/-! ### a < b < c < d -/
def tChain3 (r r' r'' : R2) (ta tb tc td : TE) : TE := fun σ H Q => ta σ H fun x H1 => tb σ H1 fun y H2 => r x y H2 fun z H3 => ∃ k, z = .bl k ∧
  (if k = true then tc σ H3 fun y' H4 => r' y y' H4 fun z H5 => ∃ k, z = .bl k ∧ (if k = true then td σ H5 fun w H6 => r'' y' w H6 Q else Q (.bl false) H5) else Q (.bl false) H3)
theorem pe_chain3 {o1 o2 o3 : CmpOp} {r r' r'' : R2} {ta tb tc td : TE} (h1 : OpR X (compareOp o1) r) (h2 : OpR X (compareOp o2) r') (h3 : OpR X (compareOp o3) r'') (ha : PE X a ta) (hb : PE X b tb) (hc : PE X c tc) (hd : PE X d td)
    (hm : lastMarks [o1, o2, o3] [b, c, d] = false) : PE X (.Compare a [o1, o2, o3] [b, c, d] pos) (tChain3 r r' r'' ta tb tc td) := by
  refine ⟨fun pins s σ H Q I h => ?_⟩
  refine Compare_chain (thn (ha.run pins s σ H _ I h) fun v s1 ⟨x, H1, I1, r1, q1⟩ => chain_link (thn (hb.run pins s1 σ H1 _ I1 q1) fun u s2 ⟨y, H2, I2, r2, q2⟩ =>
    thn (h1 pins s2 σ H2 x y v u _ I2 r1 r2 q2) fun d s3 ⟨z, H3, I3, r3, k, e, q3⟩ => ?_)) hm
  subst e
  cases r3
  refine wpAny_truthy_bool ?_
  cases k with
  | false => exact ite_ff ⟨.bl false, H3, I3, rfl, q3⟩
  | true =>
    refine ite_tt (chain_link (thn (hc.run pins s3 σ H3 _ I3 q3) fun u' s4 ⟨y', H4, I4, r4, q4⟩ =>
      thn (h2 pins s4 σ H4 y y' u u' _ I4 r2 r4 q4) fun d s5 ⟨z, H5, I5, r5, k, e, q5⟩ => ?_))
    subst e
    cases r5
    refine wpAny_truthy_bool ?_
    cases k with
    | false => exact ite_ff ⟨.bl false, H5, I5, rfl, q5⟩
    | true => exact ite_tt (chain_last (thn (hd.run pins s5 σ H5 _ I5 q5) fun w' s6 ⟨z', H6, I6, r6, q6⟩ => h3 pins s6 σ H6 y' z' u' w' Q I6 r4 r6 q6))
/-- the same as a test -/
theorem pt_chain3 {o1 o2 o3 : CmpOp} {r r' r'' : R2} {ta tb tc td : TE} (h1 : OpR X (compareOp o1) r) (h2 : OpR X (compareOp o2) r') (h3 : OpR X (compareOp o3) r'') (ha : PE X a ta) (hb : PE X b tb) (hc : PE X c tc) (hd : PE X d td)
    (hm : lastMarks [o1, o2, o3] [b, c, d] = false) : PT X (.Compare a [o1, o2, o3] [b, c, d] pos) (tTest (tChain3 r r' r'' ta tb tc td)) := by
  refine ⟨fun pins s σ H Q I h => ?_⟩
  refine isTrue_chain (thn (ha.run pins s σ H _ I h) fun v s1 ⟨x, H1, I1, r1, q1⟩ => test_link (thn (hb.run pins s1 σ H1 _ I1 q1) fun u s2 ⟨y, H2, I2, r2, q2⟩ =>
    thn (h1 pins s2 σ H2 x y v u _ I2 r1 r2 q2) fun d s3 ⟨z, H3, I3, r3, k, e, q3⟩ => ?_)) hm
  subst e
  cases r3
  refine wpAny_truthy_bool ?_
  cases k with
  | false =>
    obtain ⟨k', e', q'⟩ := q3
    cases e'
    exact ite_ff ⟨H3, I3, q'⟩
  | true =>
    refine ite_tt (test_link (thn (hc.run pins s3 σ H3 _ I3 q3) fun u' s4 ⟨y', H4, I4, r4, q4⟩ =>
      thn (h2 pins s4 σ H4 y y' u u' _ I4 r2 r4 q4) fun d s5 ⟨z, H5, I5, r5, k, e, q5⟩ => ?_))
    subst e
    cases r5
    refine wpAny_truthy_bool ?_
    cases k with
    | false =>
      obtain ⟨k', e', q'⟩ := q5
      cases e'
      exact ite_ff ⟨H5, I5, q'⟩
    | true =>
      refine ite_tt (test_last (thn (hd.run pins s5 σ H5 _ I5 q5) fun w' s6 ⟨z', H6, I6, r6, q6⟩ => thn (h3 pins s6 σ H6 y' z' u' w' _ I6 r4 r6 q6) fun d' s7 ⟨z2, H7, I7, r7, k2, e2, q7⟩ => ?_))
      subst e2
      cases r7
      exact wpAny_truthy_bool ⟨H7, I7, q7⟩
/-- b < c < d, b at hand -/
def mChainT (g g' : D → D → Option D) (b : Opd) (fc fd : Mo Opd) : Mo D := fun ρ => match fc ρ with
  | none => none
  | some (c, ρ3) => match rs ρ3 b, rs ρ3 c with
    | some y, some z => match g y z with
      | some (.bool true) => match fd ρ3 with
        | none => none
        | some (d, ρ4) => match rs ρ4 c, rs ρ4 d with
          | some z', some w => match g' z' w with
            | some (.bool k) => some (.bool k, ρ4)
            | _ => none
          | _, _ => none
      | some (.bool false) => some (.bool false, ρ3)
      | _ => none
    | _, _ => none
def mChain3 (g g' g'' : D → D → Option D) (fa fb fc fd : Mo Opd) : Mo D := fun ρ => match fa ρ with
  | none => none
  | some (a, ρ1) => match fb ρ1 with
    | none => none
    | some (b, ρ2) => match rs ρ2 a, rs ρ2 b with
      | some x, some y => match g x y with
        | some (.bool true) => mChainT g' g'' b fc fd ρ2
        | some (.bool false) => some (.bool false, ρ2)
        | _ => none
      | _, _ => none
theorem re_chain3 {K : PySem.W.Frag} {r r' r'' : R2} {g g' g'' : D → D → Option D} {ta tb tc td : TE} (ha : RO K ta oa) (hb : RO K tb ob) (hc : RO K tc oc) (hd : RO K td od)
    (ok : ∀ (H : Hp) (v w : V) (d e z : D), Rp K H v d → Rp K H w e → g d e = some z → ∃ u, toV z = some u ∧ ∀ Q : VK, Q u H → r v w H Q)
    (ok' : ∀ (H : Hp) (v w : V) (d e z : D), Rp K H v d → Rp K H w e → g' d e = some z → ∃ u, toV z = some u ∧ ∀ Q : VK, Q u H → r' v w H Q)
    (ok'' : ∀ (H : Hp) (v w : V) (d e z : D), Rp K H v d → Rp K H w e → g'' d e = some z → ∃ u, toV z = some u ∧ ∀ Q : VK, Q u H → r'' v w H Q) :
    RE K (tChain3 r r' r'' ta tb tc td) (mChain3 g g' g'' oa ob oc od) := fun ρ d ρ' e σ G H fp S Q q => by
  unfold mChain3 at e
  split at e
  · cases e
  · rename_i a ρ1 e1
    split at e
    · cases e
    · rename_i b ρ2 e2
      split at e
      · rename_i x y e3 e4
        refine ha ρ _ _ e1 σ G H fp S _ fun v G1 H1 fp1 st1 S1 r1 => ?_
        refine hb ρ1 _ _ e2 σ G1 H1 fp1 S1 _ fun w G2 H2 fp2 st2 S2 r2 => ?_
        have p1 := rs_rp S2 (r1.mono st2.g) e3
        have p2 := rs_rp S2 r2 e4
        split at e
        · rename_i e5
          obtain ⟨u, hu, k⟩ := ok H2 v w x y _ p1 p2 e5
          cases hu
          refine k _ ⟨true, rfl, ?_⟩
          rw [if_pos rfl]
          unfold mChainT at e
          split at e
          · cases e
          · rename_i c ρ3 e6
            split at e
            · rename_i y' z e7 e8
              refine hc ρ2 _ _ e6 σ G2 H2 fp2 S2 _ fun w' G3 H3 fp3 st3 S3 r3 => ?_
              have p3 := rs_rp S3 (r2.mono st3.g) e7
              have p4 := rs_rp S3 r3 e8
              split at e
              · rename_i e9
                obtain ⟨u, hu, k⟩ := ok' H3 w w' y' z _ p3 p4 e9
                cases hu
                refine k _ ⟨true, rfl, ?_⟩
                rw [if_pos rfl]
                split at e
                · cases e
                · rename_i d' ρ4 e10
                  split at e
                  · rename_i z' w2 e11 e12
                    split at e
                    · rename_i k' e13
                      cases e
                      refine hd ρ3 _ _ e10 σ G3 H3 fp3 S3 _ fun w4 G4 H4 fp4 st4 S4 r4 => ?_
                      obtain ⟨u', hu', k2⟩ := ok'' H4 w' w4 z' w2 _ (rs_rp S4 (r3.mono st4.g) e11) (rs_rp S4 r4 e12) e13
                      cases hu'
                      exact k2 _ (q _ G4 H4 fp4 (((st1.trans st2).trans st3).trans st4) S4 (.bl _))
                    · cases e
                  · cases e
              · rename_i e9
                cases e
                obtain ⟨u, hu, k⟩ := ok' H3 w w' y' z _ p3 p4 e9
                cases hu
                refine k _ ⟨false, rfl, ?_⟩
                rw [if_neg Bool.false_ne_true]
                exact q _ G3 H3 fp3 ((st1.trans st2).trans st3) S3 (.bl _)
              · cases e
            · cases e
        · rename_i e5
          cases e
          obtain ⟨u, hu, k⟩ := ok H2 v w x y _ p1 p2 e5
          cases hu
          refine k _ ⟨false, rfl, ?_⟩
          rw [if_neg Bool.false_ne_true]
          exact q _ G2 H2 fp2 (st1.trans st2) S2 (.bl _)
        · cases e
      · cases e
variable {o1 o2 o3 : CmpOp} {g1 g2 g3 : Int → Int → Bool}
theorem g_chain3 (C1 : IC o1 g1) (C2 : IC o2 g2) (C3 : IC o3 g3) (ha : GO X a oa) (hb : GO X b ob) (hc : GO X c oc) (hd : GO X d od) (hm : lastMarks [o1, o2, o3] [b, c, d] = false := by with_unfolding_all rfl) :
    GE X (.Compare a [o1, o2, o3] [b, c, d] p) (mChain3 (dB g1) (dB g2) (dB g3) oa ob oc od) := mkE (pe_chain3 (C1.ok X) (C2.ok X) (C3.ok X) ha hb hc hd hm) (re_chain3 xO xO xO xO ok_ib ok_ib ok_ib)
theorem q_chain3 (C1 : IC o1 g1) (C2 : IC o2 g2) (C3 : IC o3 g3) (ha : GO X a oa) (hb : GO X b ob) (hc : GO X c oc) (hd : GO X d od) (hm : lastMarks [o1, o2, o3] [b, c, d] = false := by with_unfolding_all rfl) :
    GT X (.Compare a [o1, o2, o3] [b, c, d] p) (mTest (mChain3 (dB g1) (dB g2) (dB g3) oa ob oc od)) := mkT (pt_chain3 (C1.ok X) (C2.ok X) (C3.ok X) ha hb hc hd hm) (rt_test (re_chain3 xO xO xO xO ok_ib ok_ib ok_ib))
end
end Nt

/-! sorted(set(a tuple of whole numbers)); {two texts: whole numbers}.get(a text, a number) -/
namespace Nt
open PySem PySem.Spec PyProof.Rows L2

/-! ### sorted(set(t)) -/
def tSrtSet (K : PySem.W.Frag) (ta : TE) : TE := fun σ H Q => ta σ H fun x H1 => ∃ (a : Addr) (ns : List Int), x = .ref a ∧ SqT K H1 a (ns.map V.int) ∧ ns.length < 60 ∧
  ∀ p out, H1 p = none → List.Pairwise (· < ·) out → (∀ k : Int, k ∈ out ↔ k ∈ ns) → Q (.ref p) (upd H1 p (.lst (out.map V.int)))
theorem vals_ints : ∀ {us : List Value} {ns : List Int}, IntsAre us ns → Vals (ns.map V.int) us
  | _, _, .nil => .nil
  | _, _, .cons k tk r => .cons ⟨tk, rfl⟩ (vals_ints r)
theorem ints_vals : ∀ {ns : List Int} {us : List Value}, Vals (ns.map V.int) us → IntsAre us ns
  | [], _, .nil => .nil
  | n :: ns, _, .cons r t => by
    obtain ⟨k, rfl⟩ := r
    exact .cons n k (ints_vals t)
theorem pe_srtSet {X : Cx} {a : Expr} {ta : TE} {p p2 q pos : Pos} (hg : Gl X "sorted") (hm : X.mg "sorted" = none) (hg2 : Gl X "set") (hm2 : X.mg "set" = none) (ha : PE X a ta) (hc : X.calm = true)
    (na : starEach [a] X.env = (false, eval a X.env) :: starEach [] X.env) : PE X (.Call (.Name "sorted" p) [.Call (.Name "set" p2) [a] [] q] [] pos) (tSrtSet X.K ta) := by
  refine ⟨fun pins s σ H Q I h => ?_⟩
  refine Call_ (ld_blt I hg hm boot_sorted ?_)
  refine PyProof.Rows.callWith_builtin1 (PyProof.Rows.args_cons ?_ rfl) rfl rfl
  refine Call_ (ld_blt I hg2 hm2 boot_set ?_)
  refine PyProof.Rows.callWith_type1 (PyProof.Rows.args_cons (thn (ha.run pins s σ H _ I h) fun v s1 ⟨x, H1, I1, r1, q1⟩ => PyProof.Rows.args_nil ?_) na) na rfl
  obtain ⟨l, ns, rfl, hq, hl, q1⟩ := q1
  cases r1
  obtain ⟨its, r, pt, hz⟩ := I1.tuple hq
  have hd := I1.ok.hd hc
  refine call_set_tupI ns hd (show s1.heap.IsTuple l its.toArray from pt) (by simpa using ints_vals r) (by unfold scanBound; omega) fun h' tk c R1 hcn k => ?_
  refine PyProof.Rows.args_nil ?_
  have I2 : Inv X pins σ H1 { s1 with heap := h', toks := tk } := I1.kept k
  refine sorted_set (s := { s1 with heap := h', toks := tk }) R1 hd (by omega) fun s' p out n ms k2 g2 o2 hp hat hi pw mem hlen => ?_
  have un := Un.laid (fs := frs X.stack) (ex := []) (o := .lst (ms.map V.int)) k2 hp (I2.hok.fresh hp)
  have hlm : (ms.map V.int).length ≤ sizeLine := by rw [List.length_map, sizeLine_eq]; omega
  have new : ObjOk X.prog X.w (upd H1 p (.lst (ms.map V.int))) s'.heap p (.lst (ms.map V.int)) := ⟨hlm, out.toList, n, vals_ints hi, by simpa using hat⟩
  exact ⟨.ref p, _, I2.call' (ch := []) o2 un (I2.hok.laid k2 hp new) (by rw [g2]; exact I2.bare) (fun _ z => nomatch z), rfl, q1 p ms (I2.hok.fresh hp) pw fun k => by rw [mem]; simp⟩
def asInts : List D → Option (List Int)
  | [] => some []
  | .int i :: r => (asInts r).map (i :: ·)
  | _ => none
theorem asInts_ok : ∀ {ds : List D} {ns : List Int}, asInts ds = some ns → ds = ns.map PyData.int
  | [], _, h => by cases h; rfl
  | d :: ds, ns, h => by
    unfold asInts at h
    split at h
    · rename_i e; cases e
    · rename_i i r e
      cases e
      cases hr : asInts ds with
      | none => rw [hr] at h; cases h
      | some ms =>
        rw [hr] at h
        cases h
        rw [List.map_cons, ← asInts_ok hr]
    · cases h
theorem asInts_map (ns : List Int) : asInts (ns.map PyData.int) = some ns := by
  induction ns with
  | nil => rfl
  | cons n ns ih => rw [List.map_cons]; show (asInts (ns.map PyData.int)).map (n :: ·) = _; rw [ih]; rfl
/-- the members, ascending, each once -/
def insI (i : Int) : List Int → List Int
  | [] => [i]
  | j :: r => if i < j then i :: j :: r else if i = j then j :: r else j :: insI i r
def setI (ns : List Int) : List Int := ns.foldr insI []
theorem mem_insI {i k : Int} : ∀ {l : List Int}, k ∈ insI i l ↔ k = i ∨ k ∈ l
  | [] => by simp [insI]
  | j :: r => by
    unfold insI
    split
    · simp
    · split
      · rename_i h; subst h; simp
      · rw [List.mem_cons, mem_insI, List.mem_cons]
        constructor
        · rintro (h | h | h)
          · exact .inr (.inl h)
          · exact .inl h
          · exact .inr (.inr h)
        · rintro (h | h | h)
          · exact .inr (.inl h)
          · exact .inl h
          · exact .inr (.inr h)
theorem pw_insI {i : Int} : ∀ {l : List Int}, l.Pairwise (· < ·) → (insI i l).Pairwise (· < ·)
  | [], _ => by simp [insI]
  | j :: r, h => by
    unfold insI
    obtain ⟨h1, h2⟩ := List.pairwise_cons.mp h
    split
    · rename_i hij
      exact List.pairwise_cons.mpr ⟨fun k hk => by
        rcases List.mem_cons.mp hk with rfl | hk
        · exact hij
        · have := h1 k hk; omega, h⟩
    · split
      · exact h
      · refine List.pairwise_cons.mpr ⟨fun k hk => ?_, pw_insI h2⟩
        rcases mem_insI.mp hk with rfl | hk
        · omega
        · exact h1 k hk
theorem mem_setI {k : Int} {ns : List Int} : k ∈ setI ns ↔ k ∈ ns := by
  induction ns with
  | nil => rfl
  | cons n ns ih => show k ∈ insI n (setI ns) ↔ _; rw [mem_insI, ih, List.mem_cons]
theorem pw_setI (ns : List Int) : (setI ns).Pairwise (· < ·) := by
  induction ns with
  | nil => exact List.Pairwise.nil
  | cons n ns ih => exact pw_insI ih
/-- what ascends is known by its members -/
theorem asc_eq : ∀ {l m : List Int}, l.Pairwise (· < ·) → m.Pairwise (· < ·) → (∀ k, k ∈ l ↔ k ∈ m) → l = m
  | [], [], _, _, _ => rfl
  | [], j :: _, _, _, h => absurd ((h j).mpr List.mem_cons_self) (by simp)
  | i :: _, [], _, _, h => absurd ((h i).mp List.mem_cons_self) (by simp)
  | i :: l, j :: m, h1, h2, h => by
    obtain ⟨a1, a2⟩ := List.pairwise_cons.mp h1
    obtain ⟨b1, b2⟩ := List.pairwise_cons.mp h2
    have e : i = j := by
      rcases List.mem_cons.mp ((h i).mp List.mem_cons_self) with e | e
      · exact e
      · rcases List.mem_cons.mp ((h j).mpr List.mem_cons_self) with e2 | e2
        · exact e2.symm
        · have := a1 j e2; have := b1 i e; omega
    subst e
    refine congrArg (i :: ·) (asc_eq a2 b2 fun k => ?_)
    constructor
    · intro hk
      rcases List.mem_cons.mp ((h k).mp (List.mem_cons_of_mem _ hk)) with e | e
      · have := a1 k hk; omega
      · exact e
    · intro hk
      rcases List.mem_cons.mp ((h k).mpr (List.mem_cons_of_mem _ hk)) with e | e
      · have := b1 k hk; omega
      · exact e
def mSrtSet (fa : Mo Opd) : Mo D := fun ρ => match fa ρ with
  | none => none
  | some (o, ρ1) => match rs ρ1 o with
    | some (.tuple ds) => match asInts ds with
      | some ns => if ns.length < 60 then some (.list ((setI ns).map PyData.int), ρ1) else none
      | none => none
    | _ => none
section
variable {X : Cx} {k n m : Nat} {e a b c d : Expr} {es : List Expr} {pos p p2 p3 : Pos} {f fa fb fc : Mo D} {oa ob oc od : Mo Opd} {fs : Mo (List Opd)}
theorem w_srtSet (c : Cok X k) (B : Bt X "sorted") (B2 : Bt X "set") (h : GO X a oa) (na : starEach [a] X.env = (false, eval a X.env) :: starEach [] X.env := by rfl) :
    GW X 1 (.Call (.Name "sorted" p) [.Call (.Name "set" p2) [a] [] p3] [] pos) (mSrtSet oa) :=
  mkW (pe_srtSet B.gl B.mg B2.gl B2.mg h c.calm na) fun ρ d ρ' e σ G H fp S Q q => by
    unfold mSrtSet at e
    split at e
    · cases e
    · rename_i o ρ1 e1
      split at e
      · rename_i ds e2
        split at e
        · rename_i ns e3
          split at e
          · rename_i hl
            cases e
            refine xO ρ _ _ e1 σ G H fp S _ fun v G1 H1 fp1 st1 S1 r1 => ?_
            have r2 := rs_rp S1 r1 e2
            rw [asInts_ok e3] at r2
            obtain ⟨l, ws, rfl, hw, rw'⟩ := r2.tuple'
            rw [rw'.ints] at hw
            refine ⟨l, ns, rfl, hw, hl, fun p out hp pw mem => ?_⟩
            have eo : out = setI ns := asc_eq pw (pw_setI ns) fun k => by rw [mem, mem_setI]
            subst eo
            exact q _ G1 _ fp1 [p] (st1.trans (Stp.new hp)) (S1.new hp) (Ow.new1 upd_same (RpA.ofInts _)) (Tmp.one S1 st1 hp)
          · cases e
        · cases e
      · cases e

/-! ### {k1: i1, k2: i2}.get(e, i) -/
def mDGet2 (k1 k2 : Str) (i1 i2 i : Int) (fa : Mo Opd) : Mo D := fun ρ => match fa ρ with
  | none => none
  | some (o, ρ1) => match rs ρ1 o with
    | some (.str x) => some (.int (if x = k1 then i1 else if x = k2 then i2 else i), ρ1)
    | _ => none
theorem g_dget2 (c : Cok X k) {k1 k2 : Str} {i1 i2 i : Int} {j1 j2 j3 j4 j5 : Nat} {p4 p5 p6 p7 p8 : Pos} (hk : k1 ≠ k2) (h : GO X a oa)
    (M : M2 X (.Dict [some (.Constant (.str k1) j1 p), some (.Constant (.str k2) j2 p2)] [.Constant (.int i1) j3 p3, .Constant (.int i2) j4 p4] p5) "get" p6 a (.Constant (.int i) j5 p7) p8) :
    GE X (.Call (.Attribute (.Dict [some (.Constant (.str k1) j1 p), some (.Constant (.str k2) j2 p2)] [.Constant (.int i1) j3 p3, .Constant (.int i2) j4 p4] p5) "get" p6) [a, .Constant (.int i) j5 p7] [] p8) (mDGet2 k1 k2 i1 i2 i oa) :=
  mkE (pe_dget2 (by have := c.un; omega) (pe_disp (pps_cons pe_str pe_int (pps_cons pe_str pe_int pps_nil)) rfl rfl (by simp) (by simp)) h pe_int M) fun ρ d ρ' e σ G H fp S Q q => by
    unfold mDGet2 at e
    split at e
    · cases e
    · rename_i o ρ1 e1
      split at e
      · rename_i x e2
        cases e
        intro p0 hp
        refine ⟨upd_same, [(.inr k1, .int i1), (.inr k2, .int i2)], rfl, by simp, p0, rfl, .inl ⟨_, .inl upd_same⟩, ?_⟩
        rw [upd_upd]
        refine xO ρ _ _ e1 σ G _ fp (S.new hp) _ fun v G1 H1 fp1 st1 S1 r1 => ?_
        have hat : H1 p0 = some (.dK (mergeK [] [(.inr k1, .int i1), (.inr k2, .int i2)])) := (st1.h p0 (fun j hj => S.live hj hp) (by rw [upd_same]; simp)).trans upd_same
        cases (rs_rp S1 r1 e2).str'
        refine ⟨_, DGet.k (k := .inr x) hat, q _ G1 H1 fp1 ((Stp.new hp).trans st1) S1 ?_⟩
        have ev : (valV (mergeK [] [(.inr k1, .int i1), (.inr k2, .int i2)]) (.inr x)).getD (.int i) = V.int (if x = k1 then i1 else if x = k2 then i2 else i) := by
          have em : mergeK [] [((.inr k1 : Key), V.int i1), (.inr k2, V.int i2)] = [(.inr k1, .int i1), (.inr k2, .int i2)] := by
            simp [mergeK, putK, hk]
          rw [em]
          by_cases h1 : x = k1
          · rw [valV_pos (by rw [h1]), if_pos h1]; rfl
          · rw [valV_neg (by simpa using fun z => h1 z.symm), if_neg h1]
            by_cases h2 : x = k2
            · rw [valV_pos (by rw [h2]), if_pos h2]; rfl
            · rw [valV_neg (by simpa using fun z => h2 z.symm), if_neg h2]; rfl
        rw [ev]
        exact .int _
      · cases e
end
end Nt

/-! the functions over data, step by step: simp's rules -/
namespace Nt
open PySem PyProof.Rows L2

def ob {α β : Type} (a : Option α) (f : α → Option β) : Option β := a.bind f
@[simp] theorem ob_some {α β : Type} (x : α) (f : α → Option β) : ob (some x) f = f x := id rfl
@[simp] theorem ob_none {α β : Type} (f : α → Option β) : ob none f = none := id rfl
def br {α : Type} (b : Bool) (x y : Option α) : Option α := if b then x else y
@[simp] theorem br_true {α : Type} (x y : Option α) : br true x y = x := id rfl
@[simp] theorem br_false {α : Type} (x y : Option α) : br false x y = y := id rfl
/-- going on behind a statement -/
def os (o : Option Out) (k : Nt.Env → Option Out) : Option Out := match o with
  | some (.nx ρ1) => k ρ1
  | o => o
@[simp] theorem os_nx (ρ : Nt.Env) (k : Nt.Env → Option Out) : os (some (.nx ρ)) k = k ρ := id rfl
@[simp] theorem os_rt (z : D) (ρ : Nt.Env) (k : Nt.Env → Option Out) : os (some (.rt z ρ)) k = some (.rt z ρ) := id rfl
@[simp] theorem os_bk (ρ : Nt.Env) (k : Nt.Env → Option Out) : os (some (.bk ρ)) k = some (.bk ρ) := id rfl
@[simp] theorem os_ct (ρ : Nt.Env) (k : Nt.Env → Option Out) : os (some (.ct ρ)) k = some (.ct ρ) := id rfl
@[simp] theorem os_none (k : Nt.Env → Option Out) : os none k = none := id rfl
/-- the next turn -/
def lp (o : Option Out) (k : Nt.Env → Option Out) : Option Out := match o with
  | some (.nx ρ1) => k ρ1
  | some (.ct ρ1) => k ρ1
  | some (.bk ρ1) => some (.nx ρ1)
  | some (.rt z ρ1) => some (.rt z ρ1)
  | none => none
@[simp] theorem lp_nx (ρ : Nt.Env) (k : Nt.Env → Option Out) : lp (some (.nx ρ)) k = k ρ := id rfl
@[simp] theorem lp_ct (ρ : Nt.Env) (k : Nt.Env → Option Out) : lp (some (.ct ρ)) k = k ρ := id rfl
@[simp] theorem lp_bk (ρ : Nt.Env) (k : Nt.Env → Option Out) : lp (some (.bk ρ)) k = some (.nx ρ) := id rfl
@[simp] theorem lp_rt (z : D) (ρ : Nt.Env) (k : Nt.Env → Option Out) : lp (some (.rt z ρ)) k = some (.rt z ρ) := id rfl
@[simp] theorem lp_none (k : Nt.Env → Option Out) : lp none k = none := id rfl

/-! ### slots -/
def sS : Sl → Option D
  | .sh d => some d
  | .ow _ d => some d
  | .un => none
@[simp] theorem sS_sh (d : D) : sS (.sh d) = some d := id rfl
@[simp] theorem sS_ow (n : Nat) (d : D) : sS (.ow n d) = some d := id rfl
def sS1 : Sl → Option D
  | .sh d => some d
  | .ow 0 d => some d
  | .ow 1 d => some d
  | _ => none
@[simp] theorem sS1_sh (d : D) : sS1 (.sh d) = some d := id rfl
@[simp] theorem sS1_0 (d : D) : sS1 (.ow 0 d) = some d := id rfl
@[simp] theorem sS1_1 (d : D) : sS1 (.ow 1 d) = some d := id rfl
variable {s0 : Sl} {ρ0 : Nt.Env} {i : Nat}
@[simp] theorem rs_val (d : D) : rs (s0 :: ρ0) (.val d) = some d := id rfl
@[simp] theorem rs_sl (i : Nat) : rs (s0 :: ρ0) (.sl i) = ob (s0 :: ρ0)[i]? sS := by
  show (match (s0 :: ρ0)[i]? with | some (.sh d) => some d | some (.ow _ d) => some d | _ => none) = (s0 :: ρ0)[i]?.bind sS
  generalize (s0 :: ρ0)[i]? = o
  cases o with
  | none => rfl
  | some s => cases s <;> rfl
@[simp] theorem rs1_val (d : D) : rs1 (s0 :: ρ0) (.val d) = some d := id rfl
@[simp] theorem rs1_sl (i : Nat) : rs1 (s0 :: ρ0) (.sl i) = ob (s0 :: ρ0)[i]? sS1 := by
  show (match (s0 :: ρ0)[i]? with | some (.sh d) => some d | some (.ow 0 d) => some d | some (.ow 1 d) => some d | _ => none) = (s0 :: ρ0)[i]?.bind sS1
  generalize (s0 :: ρ0)[i]? = o
  cases o with
  | none => rfl
  | some s =>
    cases s with
    | un => rfl
    | sh d => rfl
    | ow n d =>
      match n with
      | 0 => rfl
      | 1 => rfl
      | n + 2 => rfl
@[simp] theorem rsV_val (d : D) : rsV (s0 :: ρ0) (.val d) = some d := id rfl
@[simp] theorem rsV_sl (i : Nat) : rsV (s0 :: ρ0) (.sl i) = none := id rfl
@[simp] theorem rsA_nil (r : Nt.Env → Opd → Option D) : rsA r (s0 :: ρ0) [] = some [] := id rfl
@[simp] theorem rsA_ev (r : Nt.Env → Opd → Option D) (o : Opd) (os : List Opd) : rsA r (s0 :: ρ0) (o :: os) = ob (r (s0 :: ρ0) o) fun d => ob (rsA r (s0 :: ρ0) os) fun ds => some (d :: ds) := by
  show (match r (s0 :: ρ0) o, rsA r (s0 :: ρ0) os with | some d, some ds => some (d :: ds) | _, _ => none) = _
  unfold ob
  generalize rsA r (s0 :: ρ0) os = q
  cases r (s0 :: ρ0) o with
  | none => rfl
  | some d => cases q <;> rfl
def nS (i : Nat) (ρ : Nt.Env) : Sl → Option (D × Nt.Env)
  | .sh d => some (d, ρ)
  | .ow _ d => some (d, ρ.set i (.sh d))
  | .un => none
@[simp] theorem nS_sh {ρ : Nt.Env} (d : D) : nS i ρ (.sh d) = some (d, ρ) := id rfl
@[simp] theorem nS_ow {ρ : Nt.Env} (n : Nat) (d : D) : nS i ρ (.ow n d) = some (d, ρ.set i (.sh d)) := id rfl
@[simp] theorem mName_ev : mName i (s0 :: ρ0) = ob (s0 :: ρ0)[i]? (nS i (s0 :: ρ0)) := by
  unfold mName ob
  cases (s0 :: ρ0)[i]? with
  | none => rfl
  | some s => cases s <;> rfl
@[simp] theorem mSlot_ev : mSlot i (s0 :: ρ0) = ob (rs (s0 :: ρ0) (.sl i)) fun _ => some (.sl i, (s0 :: ρ0)) := by
  unfold mSlot ob
  cases h : rs (s0 :: ρ0) (.sl i) with
  | none => rw [if_neg (by simp)]; rfl
  | some d => rw [if_pos (by simp)]; rfl
@[simp] theorem mC_ev (d : D) : mC d (s0 :: ρ0) = some (d, (s0 :: ρ0)) := id rfl
@[simp] theorem mV_ev (f : Mo D) : mV f (s0 :: ρ0) = ob (f (s0 :: ρ0)) fun p => some (.val p.1, p.2) := by
  unfold mV ob
  cases f (s0 :: ρ0) <;> rfl
@[simp] theorem mANil_ev : mANil (s0 :: ρ0) = some ([], (s0 :: ρ0)) := id rfl
@[simp] theorem mACons_ev (f : Mo Opd) (g : Mo (List Opd)) : mACons f g (s0 :: ρ0) = ob (f (s0 :: ρ0)) fun p => ob (g p.2) fun q => some (p.1 :: q.1, q.2) := by
  unfold mACons ob
  cases f (s0 :: ρ0) with
  | none => rfl
  | some p =>
    obtain ⟨o, ρ1⟩ := p
    show (match g ρ1 with | none => none | some (os, ρ2) => some (o :: os, ρ2)) = (g ρ1).bind _
    cases g ρ1 <;> rfl
@[simp] theorem mWNil_ev : mWNil (s0 :: ρ0) = some ([], (s0 :: ρ0)) := id rfl
@[simp] theorem mWCons_ev (f : Mo D) (g : Mo (List D)) : mWCons f g (s0 :: ρ0) = ob (f (s0 :: ρ0)) fun p => ob (g p.2) fun q => some (p.1 :: q.1, q.2) := by
  unfold mWCons ob
  cases f (s0 :: ρ0) with
  | none => rfl
  | some p =>
    obtain ⟨o, ρ1⟩ := p
    show (match g ρ1 with | none => none | some (os, ρ2) => some (o :: os, ρ2)) = (g ρ1).bind _
    cases g ρ1 <;> rfl
/-! ### operators, calls -/
@[simp] theorem m1_ev (r : Nt.Env → Opd → Option D) (g : D → Option D) (fa : Mo Opd) : m1 r g fa (s0 :: ρ0) = ob (fa (s0 :: ρ0)) fun p => ob (r p.2 p.1) fun x => ob (g x) fun z => some (z, p.2) := by
  unfold m1 ob
  cases fa (s0 :: ρ0) with
  | none => rfl
  | some p =>
    obtain ⟨o, ρ1⟩ := p
    simp only [Option.bind_some]
    cases r ρ1 o with
    | none => rfl
    | some x => simp only [Option.bind_some]; cases g x <;> rfl
@[simp] theorem m2_ev (r : Nt.Env → Opd → Option D) (g : D → D → Option D) (fa fb : Mo Opd) : m2 r g fa fb (s0 :: ρ0) = ob (fa (s0 :: ρ0)) fun p => ob (fb p.2) fun q => ob (r q.2 p.1) fun x => ob (r q.2 q.1) fun y => ob (g x y) fun z => some (z, q.2) := by
  unfold m2 ob
  cases fa (s0 :: ρ0) with
  | none => rfl
  | some p =>
    obtain ⟨o, ρ1⟩ := p
    simp only [Option.bind_some]
    cases fb ρ1 with
    | none => rfl
    | some q =>
      obtain ⟨o2, ρ2⟩ := q
      simp only [Option.bind_some]
      cases r ρ2 o with
      | none => rfl
      | some x =>
        cases r ρ2 o2 with
        | none => rfl
        | some y => simp only [Option.bind_some]; cases g x y <;> rfl
@[simp] theorem mCB_ev (r : Nt.Env → Opd → Option D) (g : List D → Option D) (fs : Mo (List Opd)) : mCB r g fs (s0 :: ρ0) = ob (fs (s0 :: ρ0)) fun p => ob (rsA r p.2 p.1) fun x => ob (g x) fun z => some (z, p.2) := by
  unfold mCB ob
  cases fs (s0 :: ρ0) with
  | none => rfl
  | some p =>
    obtain ⟨o, ρ1⟩ := p
    simp only [Option.bind_some]
    cases rsA r ρ1 o with
    | none => rfl
    | some x => simp only [Option.bind_some]; cases g x <;> rfl
def szI {α : Type} (b : Prop) [Decidable b] (x : Option α) : Option α := if b then x else none
@[simp] theorem szI_true {α : Type} (x : Option α) [Decidable True] : szI True x = x := if_pos trivial
@[simp] theorem szI_false {α : Type} (x : Option α) [Decidable False] : szI False x = none := if_neg id
theorem szI_pos {α : Type} {b : Prop} [Decidable b] {x : Option α} (h : b) : szI b x = x := if_pos h
@[simp] theorem mTup_ev (fs : Mo (List Opd)) : mTup fs (s0 :: ρ0) = ob (fs (s0 :: ρ0)) fun p => ob (rsA rsV p.2 p.1) fun ds => szI (ds.length ≤ 16777216) (some (.tuple ds, p.2)) := by
  unfold mTup ob szI
  rw [← sizeLine_eq]
  cases fs (s0 :: ρ0) with
  | none => rfl
  | some p =>
    obtain ⟨o, ρ1⟩ := p
    simp only [Option.bind_some]
    cases rsA rsV ρ1 o with
    | none => rfl
    | some x => rfl
@[simp] theorem mLst_ev (fs : Mo (List Opd)) : mLst fs (s0 :: ρ0) = ob (fs (s0 :: ρ0)) fun p => ob (rsA rsV p.2 p.1) fun ds => szI (ds.length ≤ 16777216) (some (.list ds, p.2)) := by
  unfold mLst ob szI
  rw [← sizeLine_eq]
  cases fs (s0 :: ρ0) with
  | none => rfl
  | some p =>
    obtain ⟨o, ρ1⟩ := p
    simp only [Option.bind_some]
    cases rsA rsV ρ1 o with
    | none => rfl
    | some x => rfl
@[simp] theorem mCall_ev (m : Nat) (F : List D → Option D) (fs : Mo (List Opd)) : mCall m F fs (s0 :: ρ0) = ob (fs (s0 :: ρ0)) fun p => ob (rsA rsV p.2 p.1) fun ds => szI (ds.length = m) (ob (F ds) fun z => some (z, p.2)) := by
  unfold mCall ob szI
  cases fs (s0 :: ρ0) with
  | none => rfl
  | some p =>
    obtain ⟨o, ρ1⟩ := p
    simp only [Option.bind_some]
    cases rsA rsV ρ1 o with
    | none => rfl
    | some x =>
      simp only [Option.bind_some]
      split
      · cases F x <;> rfl
      · rfl
/-- a call that changes its first argument -/
def cI (m p : Nat) (F : D → List D → Option (D × D)) (i : Nat) (ρ : Nt.Env) (ds : List D) : Sl → Option (D × Nt.Env)
  | .ow p' s => szI (p' = p) (szI (ds.length = m) (ob (F s ds) fun z => some (z.1, ρ.set i (.ow p z.2))))
  | _ => none
@[simp] theorem cI_ow {ρ : Nt.Env} (m p p' : Nat) (F : D → List D → Option (D × D)) (ds : List D) (s : D) : cI m p F i ρ ds (.ow p' s) = szI (p' = p) (szI (ds.length = m) (ob (F s ds) fun z => some (z.1, ρ.set i (.ow p z.2)))) := id rfl
@[simp] theorem mCallI_ev (m p : Nat) (F : D → List D → Option (D × D)) (i : Nat) (fs : Mo (List Opd)) : mCallI m p F (mACons (mSlot i) fs) (s0 :: ρ0) = ob (mSlot i (s0 :: ρ0)) fun _ => ob (fs (s0 :: ρ0)) fun q => ob q.2[i]? fun s => ob (rsA rsV q.2 q.1) fun ds => cI m p F i q.2 ds s := by
  unfold mCallI
  rw [mACons_ev, mSlot_ev]
  cases h : rs (s0 :: ρ0) (.sl i) with
  | none => rfl
  | some d =>
    simp only [ob_some]
    cases fs (s0 :: ρ0) with
    | none => rfl
    | some q =>
      obtain ⟨os', ρ1⟩ := q
      simp only [ob_some]
      cases ρ1[i]? with
      | none => rfl
      | some s =>
        simp only [ob_some]
        cases s with
        | un => cases rsA rsV ρ1 os' <;> rfl
        | sh d => cases rsA rsV ρ1 os' <;> rfl
        | ow p' d =>
          simp only
          by_cases hp : p' = p
          · rw [if_pos hp]
            cases rsA rsV ρ1 os' with
            | none => rfl
            | some ds =>
              simp only [ob_some, cI_ow, szI_pos hp]
              unfold szI
              by_cases hm : ds.length = m
              · rw [if_pos hm, if_pos hm]
                cases F d ds <;> rfl
              · rw [if_neg hm, if_neg hm]
          · rw [if_neg hp]
            cases rsA rsV ρ1 os' with
            | none => rfl
            | some ds => simp only [ob_some, cI_ow]; unfold szI; rw [if_neg hp]
/-! ### tests -/
def bS : D → Option Bool
  | .bool b => some b
  | _ => none
@[simp] theorem bS_bool (b : Bool) : bS (.bool b) = some b := id rfl
@[simp] theorem mTest_ev (f : Mo D) : mTest f (s0 :: ρ0) = ob (f (s0 :: ρ0)) fun p => ob (bS p.1) fun b => some (b, p.2) := by
  unfold mTest ob
  cases f (s0 :: ρ0) with
  | none => rfl
  | some p => obtain ⟨d, ρ1⟩ := p; cases d <;> rfl
@[simp] theorem mYes_ev : mYes (s0 :: ρ0) = some (true, (s0 :: ρ0)) := id rfl
@[simp] theorem mNot_ev (f : Mo Bool) : mNot f (s0 :: ρ0) = ob (f (s0 :: ρ0)) fun p => some (!p.1, p.2) := by
  unfold mNot ob
  cases f (s0 :: ρ0) <;> rfl
@[simp] theorem mAnd_ev (f g : Mo Bool) : mAnd f g (s0 :: ρ0) = ob (f (s0 :: ρ0)) fun p => br p.1 (g p.2) (some (false, p.2)) := by
  unfold mAnd ob
  cases f (s0 :: ρ0) with
  | none => rfl
  | some p => obtain ⟨d, ρ1⟩ := p; cases d <;> rfl
@[simp] theorem mOr_ev (f g : Mo Bool) : mOr f g (s0 :: ρ0) = ob (f (s0 :: ρ0)) fun p => br p.1 (some (true, p.2)) (g p.2) := by
  unfold mOr ob
  cases f (s0 :: ρ0) with
  | none => rfl
  | some p => obtain ⟨d, ρ1⟩ := p; cases d <;> rfl
@[simp] theorem mAndV_ev (f g : Mo D) : mAndV f g (s0 :: ρ0) = ob (f (s0 :: ρ0)) fun p => ob (bS p.1) fun b => br b (g p.2) (some (.bool false, p.2)) := by
  unfold mAndV ob
  cases f (s0 :: ρ0) with
  | none => rfl
  | some p =>
    obtain ⟨d, ρ1⟩ := p
    cases d <;> try rfl
    rename_i b
    cases b <;> rfl
@[simp] theorem mOrV_ev (f g : Mo D) : mOrV f g (s0 :: ρ0) = ob (f (s0 :: ρ0)) fun p => ob (bS p.1) fun b => br b (some (.bool true, p.2)) (g p.2) := by
  unfold mOrV ob
  cases f (s0 :: ρ0) with
  | none => rfl
  | some p =>
    obtain ⟨d, ρ1⟩ := p
    cases d <;> try rfl
    rename_i b
    cases b <;> rfl
@[simp] theorem mNotV_ev (f : Mo D) : mNotV f (s0 :: ρ0) = ob (f (s0 :: ρ0)) fun p => ob (bS p.1) fun b => some (.bool (!b), p.2) := by
  unfold mNotV ob
  cases f (s0 :: ρ0) with
  | none => rfl
  | some p => obtain ⟨d, ρ1⟩ := p; cases d <;> rfl
@[simp] theorem mIf_ev {α : Type} (q : Mo Bool) (f g : Mo α) : mIf q f g (s0 :: ρ0) = ob (q (s0 :: ρ0)) fun p => br p.1 (f p.2) (g p.2) := by
  unfold mIf ob
  cases q (s0 :: ρ0) with
  | none => rfl
  | some p => obtain ⟨d, ρ1⟩ := p; cases d <;> rfl
@[simp] theorem mTru_ev (o : Mo Opd) : mTru o (s0 :: ρ0) = ob (o (s0 :: ρ0)) fun p => ob (rs p.2 p.1) fun d => ob (truD d) fun b => some (b, p.2) := by
  unfold mTru ob
  cases o (s0 :: ρ0) with
  | none => rfl
  | some p =>
    obtain ⟨d, ρ1⟩ := p
    simp only [Option.bind_some]
    cases rs ρ1 d with
    | none => rfl
    | some x => simp only [Option.bind_some]; cases truD x <;> rfl
@[simp] theorem mChain_ev (g g' : D → D → Option D) (fa fb fc : Mo Opd) : mChain g g' fa fb fc (s0 :: ρ0) = ob (fa (s0 :: ρ0)) fun p => ob (fb p.2) fun q => ob (rs q.2 p.1) fun x => ob (rs q.2 q.1) fun y => ob (g x y) fun z => ob (bS z) fun b =>
    br b (ob (fc q.2) fun r => ob (rs r.2 q.1) fun y' => ob (rs r.2 r.1) fun z' => ob (g' y' z') fun u => ob (bS u) fun k => some (.bool k, r.2)) (some (.bool false, q.2)) := by
  unfold mChain ob
  cases fa (s0 :: ρ0) with
  | none => rfl
  | some p =>
    obtain ⟨o, ρ1⟩ := p
    simp only [Option.bind_some]
    cases fb ρ1 with
    | none => rfl
    | some q =>
      obtain ⟨o2, ρ2⟩ := q
      simp only [Option.bind_some]
      cases rs ρ2 o with
      | none => rfl
      | some x =>
        cases rs ρ2 o2 with
        | none => rfl
        | some y =>
          simp only [Option.bind_some]
          cases g x y with
          | none => rfl
          | some z =>
            cases z <;> try rfl
            rename_i b
            cases b
            · rfl
            · show (match fc ρ2 with | none => none | some (c, ρ3) => _) = (fc ρ2).bind _
              cases fc ρ2 with
              | none => rfl
              | some r =>
                obtain ⟨o3, ρ3⟩ := r
                simp only [Option.bind_some]
                cases rs ρ3 o2 with
                | none => rfl
                | some y' =>
                  cases rs ρ3 o3 with
                  | none => rfl
                  | some z' =>
                    simp only [Option.bind_some]
                    cases g' y' z' with
                    | none => rfl
                    | some u => cases u <;> rfl
/-! ### statements -/
@[simp] theorem sPass_ev : sPass (s0 :: ρ0) = some (.nx (s0 :: ρ0)) := id rfl
@[simp] theorem sBreak_ev : sBreak (s0 :: ρ0) = some (.bk (s0 :: ρ0)) := id rfl
@[simp] theorem sCont_ev : sCont (s0 :: ρ0) = some (.ct (s0 :: ρ0)) := id rfl
@[simp] theorem sSeq_ev (f g : MoS) : sSeq f g (s0 :: ρ0) = os (f (s0 :: ρ0)) g := by
  unfold sSeq os
  cases f (s0 :: ρ0) with
  | none => rfl
  | some o => cases o <;> rfl
@[simp] theorem sRet_ev (f : Mo D) : sRet f (s0 :: ρ0) = ob (f (s0 :: ρ0)) fun p => some (.rt p.1 p.2) := by
  unfold sRet ob
  cases f (s0 :: ρ0) <;> rfl
@[simp] theorem sIf_ev (q : Mo Bool) (f g : MoS) : sIf q f g (s0 :: ρ0) = ob (q (s0 :: ρ0)) fun p => br p.1 (f p.2) (g p.2) := by
  unfold sIf ob
  cases q (s0 :: ρ0) with
  | none => rfl
  | some p => obtain ⟨d, ρ1⟩ := p; cases d <;> rfl
@[simp] theorem sAsg_ev (f : Mo D) (g : D → Nt.Env → Option Nt.Env) : sAsg f g (s0 :: ρ0) = ob (f (s0 :: ρ0)) fun p => ob (g p.1 p.2) fun ρ2 => some (.nx ρ2) := by
  unfold sAsg ob
  cases f (s0 :: ρ0) with
  | none => rfl
  | some p =>
    obtain ⟨d, ρ1⟩ := p
    simp only [Option.bind_some]
    cases g d ρ1 <;> rfl
@[simp] theorem sSetW_ev (m i : Nat) (f : Mo D) : sSetW m i f (s0 :: ρ0) = ob (f (s0 :: ρ0)) fun p => szI (i < p.2.length) (some (.nx (p.2.set i (.ow m p.1)))) := by
  unfold sSetW ob szI
  cases f (s0 :: ρ0) <;> rfl
@[simp] theorem sDrop_ev (f : Mo D) : sDrop f (s0 :: ρ0) = ob (f (s0 :: ρ0)) fun p => some (.nx p.2) := by
  unfold sDrop ob
  cases f (s0 :: ρ0) <;> rfl
@[simp] theorem sPar_ev (ns is : List Nat) (f : Mo (List D)) : sPar ns is f (s0 :: ρ0) = ob (f (s0 :: ρ0)) fun p => ob (putM ns is p.1 p.2) fun ρ2 => some (.nx ρ2) := by
  unfold sPar ob
  cases f (s0 :: ρ0) with
  | none => rfl
  | some p =>
    obtain ⟨d, ρ1⟩ := p
    simp only [Option.bind_some]
    cases putM ns is d ρ1 <;> rfl
@[simp] theorem putM_nil : putM [] [] [] (s0 :: ρ0) = some (s0 :: ρ0) := id rfl
@[simp] theorem putM_cons (n i : Nat) (ns is : List Nat) (d : D) (ds : List D) : putM (n :: ns) (i :: is) (d :: ds) (s0 :: ρ0) = szI (i < (s0 :: ρ0).length) (putM ns is ds ((s0 :: ρ0).set i (mkSl n d))) := id rfl
@[simp] theorem mkSl_0 (d : D) : mkSl 0 d = .sh d := id rfl
@[simp] theorem mkSl_1 (d : D) : mkSl 1 d = .ow 1 d := id rfl
@[simp] theorem mkSl_2 (d : D) : mkSl 2 d = .ow 2 d := id rfl
@[simp] theorem fName_ev (d : D) : fName i d (s0 :: ρ0) = szI (i < (s0 :: ρ0).length) (some ((s0 :: ρ0).set i (.sh d))) := id rfl
@[simp] theorem fNil_ev : fNil [] (s0 :: ρ0) = some (s0 :: ρ0) := id rfl
@[simp] theorem fCons_ev (f : D → Nt.Env → Option Nt.Env) (g : List D → Nt.Env → Option Nt.Env) (d : D) (r : List D) : fCons f g (d :: r) (s0 :: ρ0) = ob (f d (s0 :: ρ0)) (g r) := by
  show (match f d (s0 :: ρ0) with | some ρ1 => g r ρ1 | none => none) = (f d (s0 :: ρ0)).bind (g r)
  cases f d (s0 :: ρ0) <;> rfl
@[simp] theorem fSeq_tup (n : Nat) (g : List D → Nt.Env → Option Nt.Env) (ds : List D) : fSeq n g (.tuple ds) (s0 :: ρ0) = szI (ds.length = n) (g ds (s0 :: ρ0)) := id rfl
@[simp] theorem fSeq_lst (n : Nat) (g : List D → Nt.Env → Option Nt.Env) (ds : List D) : fSeq n g (.list ds) (s0 :: ρ0) = szI (ds.length = n) (g ds (s0 :: ρ0)) := id rfl
@[simp] theorem sForIn_ev (it : Mo (List D)) (set : D → Nt.Env → Option Nt.Env) (body : MoS) : sForIn it set body (s0 :: ρ0) = ob (it (s0 :: ρ0)) fun p => forD set body p.1 p.2 := by
  unfold sForIn ob
  cases it (s0 :: ρ0) <;> rfl
@[simp] theorem forD_nil (set : D → Nt.Env → Option Nt.Env) (body : MoS) : forD set body [] (s0 :: ρ0) = some (.nx (s0 :: ρ0)) := id rfl
theorem forD_cons {ρ : Nt.Env} (set : D → Nt.Env → Option Nt.Env) (body : MoS) (d : D) (ds : List D) : forD set body (d :: ds) ρ = ob (set d ρ) fun ρ1 => lp (body ρ1) (forD set body ds) := by
  show (match set d ρ with | none => none | some ρ1 => match body ρ1 with | some (.nx ρ2) => _ | some (.ct ρ2) => _ | some (.bk ρ2) => _ | some (.rt z ρ2) => _ | none => none) = _
  unfold ob
  cases set d ρ with
  | none => rfl
  | some ρ1 =>
    simp only [Option.bind_some]
    unfold lp
    cases body ρ1 with
    | none => rfl
    | some o => cases o <;> rfl
@[simp] theorem sWhile_ev (mu : Nt.Env → Nat) (q : Mo Bool) (body : MoS) : sWhile mu q body (s0 :: ρ0) = whD q body (mu (s0 :: ρ0)) (s0 :: ρ0) := id rfl
theorem whD_succ {ρ : Nt.Env} (q : Mo Bool) (body : MoS) (n : Nat) : whD q body (n + 1) ρ = ob (q ρ) fun p => br p.1 (lp (body p.2) (whD q body n)) (some (.nx p.2)) := by
  show (match q ρ with | none => none | some (false, ρ1) => _ | some (true, ρ1) => match body ρ1 with | some (.nx ρ2) => _ | some (.ct ρ2) => _ | some (.bk ρ2) => _ | some (.rt z ρ2) => _ | none => none) = _
  unfold ob
  cases q ρ with
  | none => rfl
  | some p =>
    obtain ⟨b, ρ1⟩ := p
    cases b with
    | false => rfl
    | true =>
      show (match body ρ1 with | some (.nx ρ2) => whD q body n ρ2 | some (.ct ρ2) => whD q body n ρ2 | some (.bk ρ2) => some (.nx ρ2) | some (.rt z ρ2) => some (.rt z ρ2) | none => none) = lp (body ρ1) _
      unfold lp
      cases body ρ1 with
      | none => rfl
      | some o => cases o <;> rfl
/-! ### what is walked; comprehensions -/
def sqS : D → Option (List D)
  | .list ds => some ds
  | .tuple ds => some ds
  | _ => none
@[simp] theorem sqS_l (ds : List D) : sqS (.list ds) = some ds := id rfl
@[simp] theorem sqS_t (ds : List D) : sqS (.tuple ds) = some ds := id rfl
@[simp] theorem iS_ev (f : Mo D) : iS f (s0 :: ρ0) = ob (f (s0 :: ρ0)) fun p => ob (sqS p.1) fun ds => some (ds, p.2) := by
  unfold iS ob
  cases f (s0 :: ρ0) with
  | none => rfl
  | some p => obtain ⟨d, ρ1⟩ := p; cases d <;> rfl
def i1S : List D → Option Int
  | [.int j] => some j
  | _ => none
@[simp] theorem i1S_ev (j : Int) : i1S [.int j] = some j := id rfl
@[simp] theorem iR1_ev (fs : Mo (List Opd)) : iR1 fs (s0 :: ρ0) = ob (fs (s0 :: ρ0)) fun p => ob (rsA rs p.2 p.1) fun ds => ob (i1S ds) fun j => br (cRng j) (some (rangeD 0 j.toNat, p.2)) none := by
  unfold iR1 ob br
  cases fs (s0 :: ρ0) with
  | none => rfl
  | some p =>
    obtain ⟨o, ρ1⟩ := p
    simp only [Option.bind_some]
    cases rsA rs ρ1 o with
    | none => rfl
    | some x =>
      match x with
      | [] => rfl
      | [d] => cases d <;> rfl
      | _ :: _ :: _ => first | rfl | (rename_i a b c; cases a <;> rfl)
def i2S : List D → Option (Int × Int)
  | [.int i, .int j] => some (i, j)
  | _ => none
@[simp] theorem i2S_ev (i j : Int) : i2S [.int i, .int j] = some (i, j) := id rfl
@[simp] theorem iR2_ev (fs : Mo (List Opd)) : iR2 fs (s0 :: ρ0) = ob (fs (s0 :: ρ0)) fun p => ob (rsA rs p.2 p.1) fun ds => ob (i2S ds) fun j => br (cRng j.1 && cRng j.2) (some (rangeD j.1 (j.2 - j.1).toNat, p.2)) none := by
  unfold iR2 ob br
  cases fs (s0 :: ρ0) with
  | none => rfl
  | some p =>
    obtain ⟨o, ρ1⟩ := p
    simp only [Option.bind_some]
    cases rsA rs ρ1 o with
    | none => rfl
    | some x =>
      unfold i2S
      simp only [Option.bind_some]
      split
      · rename_i e; cases e; rfl
      · rename_i h
        split
        · rename_i i j; exact absurd rfl (h i j)
        · rfl
def enS : List Opd → Option (List D)
  | [.val (.list ds)] => some (enumD ds)
  | [.val (.tuple ds)] => some (enumD ds)
  | _ => none
@[simp] theorem enS_l (ds : List D) : enS [.val (.list ds)] = some (enumD ds) := id rfl
@[simp] theorem enS_t (ds : List D) : enS [.val (.tuple ds)] = some (enumD ds) := id rfl
@[simp] theorem iEn_ev (fs : Mo (List Opd)) : iEn fs (s0 :: ρ0) = ob (fs (s0 :: ρ0)) fun p => ob (enS p.1) fun ds => some (ds, p.2) := by
  unfold iEn ob enS
  cases fs (s0 :: ρ0) with
  | none => rfl
  | some p =>
    obtain ⟨o, ρ1⟩ := p
    simp only [Option.bind_some]
    split
    · rename_i e; cases e; rfl
    · rename_i e; cases e; rfl
    · rename_i h1 h2
      split
      · rename_i ds; exact absurd rfl (h1 ds ρ1)
      · rename_i ds; exact absurd rfl (h2 ds ρ1)
      · rfl
@[simp] theorem mComp_ev (it : Mo (List D)) (set : D → Nt.Env → Option Nt.Env) (tst : Mo Bool) (el : Mo D) (vs : List Nat) : mComp it set tst el vs (s0 :: ρ0) = ob (it (s0 :: ρ0)) fun p => szI (p.1.length ≤ 16777216) (br (okOwn p.2 vs) (ob (compD set tst el vs p.1 p.2) fun q => some (.list q.1, back p.2 q.2 vs)) none) := by
  unfold mComp ob szI br
  cases it (s0 :: ρ0) with
  | none => rfl
  | some p =>
    obtain ⟨o, ρ1⟩ := p
    simp only [Option.bind_some]
    split
    · split
      · cases compD set tst el vs o ρ1 <;> rfl
      · rfl
    · rfl
@[simp] theorem compD_nil (set : D → Nt.Env → Option Nt.Env) (tst : Mo Bool) (el : Mo D) (vs : List Nat) : compD set tst el vs [] (s0 :: ρ0) = some ([], forget vs (s0 :: ρ0)) := id rfl
theorem compD_cons {ρ : Nt.Env} (set : D → Nt.Env → Option Nt.Env) (tst : Mo Bool) (el : Mo D) (vs : List Nat) (d : D) (ds : List D) : compD set tst el vs (d :: ds) ρ = ob (set d (forget vs ρ)) fun ρ1 => ob (tst ρ1) fun p => br p.1 (ob (el p.2) fun z => ob (compD set tst el vs ds z.2) fun q => some (z.1 :: q.1, q.2)) (compD set tst el vs ds p.2) := by
  show (match set d (forget vs ρ) with | none => none | some ρ1 => _) = _
  unfold ob
  cases set d (forget vs ρ) with
  | none => rfl
  | some ρ1 =>
    simp only [Option.bind_some]
    cases tst ρ1 with
    | none => rfl
    | some p =>
      obtain ⟨b, ρ2⟩ := p
      cases b with
      | false => rfl
      | true =>
        simp only [Option.bind_some, br_true]
        cases el ρ2 with
        | none => rfl
        | some z =>
          obtain ⟨z, ρ3⟩ := z
          simp only [Option.bind_some]
          cases compD set tst el vs ds ρ3 <;> rfl
/-! ### slices, ranges, methods -/
@[simp] theorem mNoPart_ev : mNoPart (s0 :: ρ0) = some (none, (s0 :: ρ0)) := id rfl
def nI : D → Option Int
  | .int i => some i
  | _ => none
@[simp] theorem nI_int (i : Int) : nI (.int i) = some i := id rfl
@[simp] theorem mPart_ev (f : Mo D) : mPart f (s0 :: ρ0) = ob (f (s0 :: ρ0)) fun p => ob (nI p.1) fun i => some (some i, p.2) := by
  unfold mPart ob
  cases f (s0 :: ρ0) with
  | none => rfl
  | some p => obtain ⟨d, ρ1⟩ := p; cases d <;> rfl
def slS (lo hi : Option Int) : D → Option D
  | .list ds => some (.list (cutD ds lo hi))
  | .tuple ds => some (.tuple (cutD ds lo hi))
  | _ => none
@[simp] theorem slS_l (lo hi : Option Int) (ds : List D) : slS lo hi (.list ds) = some (.list (cutD ds lo hi)) := id rfl
@[simp] theorem slS_t (lo hi : Option Int) (ds : List D) : slS lo hi (.tuple ds) = some (.tuple (cutD ds lo hi)) := id rfl
@[simp] theorem mSl_ev (fe : Mo Opd) (fl fh : Mo (Option Int)) : mSl fe fl fh (s0 :: ρ0) = ob (fe (s0 :: ρ0)) fun p => ob (fl p.2) fun q => ob (fh q.2) fun r => ob (rs1 r.2 p.1) fun d => ob (slS q.1 r.1 d) fun z => some (z, r.2) := by
  unfold mSl ob
  cases fe (s0 :: ρ0) with
  | none => rfl
  | some p =>
    obtain ⟨o, ρ1⟩ := p
    simp only [Option.bind_some]
    cases fl ρ1 with
    | none => rfl
    | some q =>
      obtain ⟨lo, ρ2⟩ := q
      simp only [Option.bind_some]
      cases fh ρ2 with
      | none => rfl
      | some r =>
        obtain ⟨hi, ρ3⟩ := r
        simp only [Option.bind_some]
        cases rs1 ρ3 o with
        | none => rfl
        | some d => cases d <;> rfl
def slSL (lo hi : Option Int) : D → Option D
  | .list ds => some (.list (cutD ds lo hi))
  | _ => none
@[simp] theorem slSL_l (lo hi : Option Int) (ds : List D) : slSL lo hi (.list ds) = some (.list (cutD ds lo hi)) := id rfl
@[simp] theorem mSlL_ev (fe : Mo Opd) (fl fh : Mo (Option Int)) : mSlL fe fl fh (s0 :: ρ0) = ob (fe (s0 :: ρ0)) fun p => ob (fl p.2) fun q => ob (fh q.2) fun r => ob (rs1 r.2 p.1) fun d => ob (slSL q.1 r.1 d) fun z => some (z, r.2) := by
  unfold mSlL ob
  cases fe (s0 :: ρ0) with
  | none => rfl
  | some p =>
    obtain ⟨o, ρ1⟩ := p
    simp only [Option.bind_some]
    cases fl ρ1 with
    | none => rfl
    | some q =>
      obtain ⟨lo, ρ2⟩ := q
      simp only [Option.bind_some]
      cases fh ρ2 with
      | none => rfl
      | some r =>
        obtain ⟨hi, ρ3⟩ := r
        simp only [Option.bind_some]
        cases rs1 ρ3 o with
        | none => rfl
        | some d => cases d <;> rfl
@[simp] theorem mRng1_ev (tup : Bool) (fa : Mo Opd) : mRng1 tup fa (s0 :: ρ0) = ob (fa (s0 :: ρ0)) fun p => ob (rs p.2 p.1) fun d => ob (nI d) fun j => szI (j ≤ 16777216 ∧ -16777216 ≤ j) (some (if tup then .tuple (rangeD 0 j.toNat) else .list (rangeD 0 j.toNat), p.2)) := by
  unfold mRng1 ob szI
  cases fa (s0 :: ρ0) with
  | none => rfl
  | some p =>
    obtain ⟨o, ρ1⟩ := p
    simp only [Option.bind_some]
    cases rs ρ1 o with
    | none => rfl
    | some d => cases d <;> rfl
/-- an own list grows -/
def apS (k i : Nat) (ρ : Nt.Env) (d : D) : Sl → Option (D × Nt.Env)
  | .ow m (.list ds) => szI (m = k + 1 ∧ ds.length < 16777216) (some (.none, ρ.set i (.ow (k + 1) (.list (ds ++ [d])))))
  | _ => none
@[simp] theorem apS_ow {ρ : Nt.Env} (k m : Nat) (d : D) (ds : List D) : apS k i ρ d (.ow m (.list ds)) = szI (m = k + 1 ∧ ds.length < 16777216) (some (.none, ρ.set i (.ow (k + 1) (.list (ds ++ [d]))))) := id rfl
def isO : Sl → Bool
  | .ow _ (.list _) => true
  | _ => false
@[simp] theorem isO_ow (n : Nat) (ds : List D) : isO (.ow n (.list ds)) = true := id rfl
@[simp] theorem mApp_ev (k i : Nat) (f : Mo D) : mApp k i f (s0 :: ρ0) = ob (s0 :: ρ0)[i]? fun s => br (isO s) (ob (f (s0 :: ρ0)) fun p => ob p.2[i]? fun s => apS k i p.2 p.1 s) none := by
  unfold mApp ob
  cases (s0 :: ρ0)[i]? with
  | none => rfl
  | some s =>
    simp only [Option.bind_some]
    cases s with
    | un => rfl
    | sh d => rfl
    | ow n d =>
      cases d <;> try rfl
      simp only [isO_ow, br_true]
      cases f (s0 :: ρ0) with
      | none => rfl
      | some p =>
        obtain ⟨d, ρ1⟩ := p
        simp only [Option.bind_some]
        cases ρ1[i]? with
        | none => rfl
        | some s => cases s with
          | un => rfl
          | sh d => rfl
          | ow n d => cases d <;> rfl
def poS (i : Nat) (ρ : Nt.Env) : Sl → Option (D × Nt.Env)
  | .ow 1 (.list ds) => ob ds.getLast? fun d => some (d, ρ.set i (.ow 1 (.list ds.dropLast)))
  | _ => none
@[simp] theorem poS_ow {ρ : Nt.Env} (ds : List D) : poS i ρ (.ow 1 (.list ds)) = ob ds.getLast? fun d => some (d, ρ.set i (.ow 1 (.list ds.dropLast))) := id rfl
@[simp] theorem mPop_ev : mPop i (s0 :: ρ0) = ob (s0 :: ρ0)[i]? (poS i (s0 :: ρ0)) := by
  unfold mPop
  cases (s0 :: ρ0)[i]? with
  | none => rfl
  | some s =>
    simp only [ob_some]
    cases s with
    | un => rfl
    | sh d => rfl
    | ow n d =>
      match n, d with
      | 1, .list ds =>
        show (match ds.getLast? with | some d => some (d, (s0 :: ρ0).set i (.ow 1 (.list ds.dropLast))) | none => none) = ob ds.getLast? fun d => some (d, (s0 :: ρ0).set i (.ow 1 (.list ds.dropLast)))
        cases ds.getLast? <;> rfl
      | 1, .none => rfl
      | 1, .bool _ => rfl
      | 1, .int _ => rfl
      | 1, .str _ => rfl
      | 1, .tuple _ => rfl
      | 1, .dict _ => rfl
      | 0, _ => rfl
      | n + 2, _ => rfl
def paS (i : Nat) (ρ : Nt.Env) (j : Int) : Sl → Option (D × Nt.Env)
  | .ow 1 (.list ds) => szI (0 ≤ j ∧ ds.length ≤ 16777216) (ob ds[j.toNat]? fun d => some (d, ρ.set i (.ow 1 (.list (ds.eraseIdx j.toNat)))))
  | _ => none
@[simp] theorem paS_ow {ρ : Nt.Env} (j : Int) (ds : List D) : paS i ρ j (.ow 1 (.list ds)) = szI (0 ≤ j ∧ ds.length ≤ 16777216) (ob ds[j.toNat]? fun d => some (d, ρ.set i (.ow 1 (.list (ds.eraseIdx j.toNat))))) := id rfl
def isO1 : Sl → Bool
  | .ow 1 (.list _) => true
  | _ => false
@[simp] theorem isO1_ow (ds : List D) : isO1 (.ow 1 (.list ds)) = true := id rfl
theorem mPopAt_ev (f : Mo D) {ds : List D} (h : (s0 :: ρ0)[i]? = some (.ow 1 (.list ds))) : mPopAt i f (s0 :: ρ0) = ob (f (s0 :: ρ0)) fun p => ob (nI p.1) fun j => ob p.2[i]? (paS i p.2 j) := by
  unfold mPopAt
  rw [h]
  simp only
  cases f (s0 :: ρ0) with
  | none => rfl
  | some p =>
    obtain ⟨d, ρ1⟩ := p
    simp only [ob_some]
    cases d <;> try rfl
    simp only [nI_int, ob_some]
    cases ρ1[i]? with
    | none => rfl
    | some s =>
      simp only [ob_some]
      cases s with
      | un => rfl
      | sh d => rfl
      | ow n d =>
        match n, d with
        | 1, .list ds =>
          rename_i j
          show (if 0 ≤ j ∧ ds.length ≤ 16777216 then (match ds[j.toNat]? with | some d => some (d, ρ1.set i (.ow 1 (.list (ds.eraseIdx j.toNat)))) | none => none) else none) = szI (0 ≤ j ∧ ds.length ≤ 16777216) (ob ds[j.toNat]? fun d => some (d, ρ1.set i (.ow 1 (.list (ds.eraseIdx j.toNat)))))
          cases ds[j.toNat]? <;> rfl
        | 1, .none => rfl
        | 1, .bool _ => rfl
        | 1, .int _ => rfl
        | 1, .str _ => rfl
        | 1, .tuple _ => rfl
        | 1, .dict _ => rfl
        | 0, _ => rfl
        | n + 2, _ => rfl
def reS (i : Nat) (ρ : Nt.Env) (k : Int) : Sl → Option (D × Nt.Env)
  | .ow 1 (.list ds) => ob (ints? ds) fun ns => szI (k ∈ ns) (some (.none, ρ.set i (.ow 1 (.list ((ns.erase k).map PyData.int)))))
  | _ => none
@[simp] theorem reS_ow {ρ : Nt.Env} (k : Int) (ds : List D) : reS i ρ k (.ow 1 (.list ds)) = ob (ints? ds) fun ns => szI (k ∈ ns) (some (.none, ρ.set i (.ow 1 (.list ((ns.erase k).map PyData.int))))) := id rfl
theorem mRem_ev (f : Mo D) {ds : List D} (h : (s0 :: ρ0)[i]? = some (.ow 1 (.list ds))) : mRem i f (s0 :: ρ0) = ob (f (s0 :: ρ0)) fun p => ob (nI p.1) fun j => ob p.2[i]? (reS i p.2 j) := by
  unfold mRem
  rw [h]
  simp only
  cases f (s0 :: ρ0) with
  | none => rfl
  | some p =>
    obtain ⟨d, ρ1⟩ := p
    simp only [ob_some]
    cases d <;> try rfl
    simp only [nI_int, ob_some]
    cases ρ1[i]? with
    | none => rfl
    | some s =>
      simp only [ob_some]
      cases s with
      | un => rfl
      | sh d => rfl
      | ow n d =>
        match n, d with
        | 1, .list ds =>
          rename_i k
          show (match ints? ds with | some ns => if k ∈ ns then some (PyData.none, ρ1.set i (.ow 1 (.list ((ns.erase k).map PyData.int)))) else none | none => none) = ob (ints? ds) fun ns => szI (k ∈ ns) (some (.none, ρ1.set i (.ow 1 (.list ((ns.erase k).map PyData.int)))))
          cases ints? ds <;> rfl
        | 1, .none => rfl
        | 1, .bool _ => rfl
        | 1, .int _ => rfl
        | 1, .str _ => rfl
        | 1, .tuple _ => rfl
        | 1, .dict _ => rfl
        | 0, _ => rfl
        | n + 2, _ => rfl
def mvS (n i : Nat) (ρ : Nt.Env) : Sl → Option (D × Nt.Env)
  | .ow m d => szI (m = n) (some (d, ρ.set i .un))
  | _ => none
@[simp] theorem mvS_ow {ρ : Nt.Env} (n m : Nat) (d : D) : mvS n i ρ (.ow m d) = szI (m = n) (some (d, ρ.set i .un)) := id rfl
@[simp] theorem mMv_ev (n : Nat) : mMv n i (s0 :: ρ0) = ob (s0 :: ρ0)[i]? (mvS n i (s0 :: ρ0)) := by
  unfold mMv ob
  cases (s0 :: ρ0)[i]? with
  | none => rfl
  | some s => cases s <;> rfl
@[simp] theorem mCat_ev (oa ob' : Mo Opd) : mCat oa ob' (s0 :: ρ0) = m2 rs1 (fun d e => match d, e with | .list a, .list b => dAdd (.list a) (.list b) | _, _ => none) oa ob' (s0 :: ρ0) := id rfl
/-! ### data -/
@[simp] theorem dI_ev (C : Int → Int → Bool) (g : Int → Int → D) (i j : Int) : dI C g (.int i) (.int j) = br (C i j) (some (g i j)) none := id rfl
@[simp] theorem dSub_ev (i j : Int) : dSub (.int i) (.int j) = some (.int (i - j)) := id rfl
@[simp] theorem dLt_ev (i j : Int) : dLt (.int i) (.int j) = some (.bool (decide (i < j))) := id rfl
@[simp] theorem dLe_ev (i j : Int) : dLe (.int i) (.int j) = some (.bool (decide (i ≤ j))) := id rfl
@[simp] theorem dGt_ev (i j : Int) : dGt (.int i) (.int j) = some (.bool (decide (j < i))) := id rfl
@[simp] theorem dGe_ev (i j : Int) : dGe (.int i) (.int j) = some (.bool (decide (j ≤ i))) := id rfl
@[simp] theorem dB_ev (g : Int → Int → Bool) (i j : Int) : dB g (.int i) (.int j) = some (.bool (g i j)) := id rfl
@[simp] theorem dAdd_int (i j : Int) : dAdd (.int i) (.int j) = some (.int (i + j)) := id rfl
@[simp] theorem dMul_ev (i j : Int) : dMul (.int i) (.int j) = br (cMul i j) (some (.int (i * j))) none := id rfl
@[simp] theorem dMulX_int (i j : Int) : dMulX (.int i) (.int j) = br (cMul i j) (some (.int (i * j))) none := id rfl
@[simp] theorem dDiv_ev (i j : Int) : dDiv (.int i) (.int j) = br (cDiv i j) (some (.int (i / j))) none := id rfl
@[simp] theorem dMod_ev (i j : Int) : dMod (.int i) (.int j) = br (cPos i j) (some (.int (i % j))) none := id rfl
@[simp] theorem dInt_int (i : Int) : dInt [.int i] = some (.int i) := id rfl
@[simp] theorem dInt_bool (b : Bool) : dInt [.bool b] = some (.int (if b then 1 else 0)) := id rfl
@[simp] theorem dMax2_ev (i j : Int) : dMax2 [.int i, .int j] = some (.int (if j > i then j else i)) := id rfl
@[simp] theorem dMin2_ev (i j : Int) : dMin2 [.int i, .int j] = some (.int (if j < i then j else i)) := id rfl
@[simp] theorem dLen_l (xs : List D) : dLen [.list xs] = some (.int xs.length) := id rfl
@[simp] theorem dLen_t (xs : List D) : dLen [.tuple xs] = some (.int xs.length) := id rfl
@[simp] theorem dList_l (xs : List D) : dList [.list xs] = some (.list xs) := id rfl
@[simp] theorem dList_t (xs : List D) : dList [.tuple xs] = some (.list xs) := id rfl
@[simp] theorem dTuple_l (xs : List D) : dTuple [.list xs] = some (.tuple xs) := id rfl
@[simp] theorem dTuple_t (xs : List D) : dTuple [.tuple xs] = some (.tuple xs) := id rfl
@[simp] theorem dRev_l (xs : List D) : dRev (.list xs) = some (.list xs.reverse) := id rfl
@[simp] theorem dRev_t (xs : List D) : dRev (.tuple xs) = some (.tuple xs.reverse) := id rfl
@[simp] theorem dGetX_l (xs : List D) (i : Int) : dGetX (.list xs) (.int i) = atI xs i := id rfl
@[simp] theorem dGetX_t (xs : List D) (i : Int) : dGetX (.tuple xs) (.int i) = atI xs i := id rfl
@[simp] theorem dAdd_l (xs ys : List D) : dAdd (.list xs) (.list ys) = szI (xs.length + ys.length ≤ 16777216) (some (.list (xs ++ ys))) := by
  unfold szI
  rw [← sizeLine_eq]
  rfl
@[simp] theorem dAdd_t (xs ys : List D) : dAdd (.tuple xs) (.tuple ys) = szI (xs.length + ys.length ≤ 16777216) (some (.tuple (xs ++ ys))) := by
  unfold szI
  rw [← sizeLine_eq]
  rfl
theorem atI_nat {α : Type} (xs : List α) (i : Nat) (h : i < xs.length) : atI xs (i : Int) = some xs[i] := by
  have : ixN xs.length (i : Int) = some i := by
    unfold ixN
    rw [if_pos (by omega), if_pos (by omega)]
    simp
  unfold atI
  rw [this]
  simp [h]
theorem atI_int {α : Type} (xs : List α) {i : Int} (h0 : 0 ≤ i) (h : i < xs.length) : atI xs i = xs[i.toNat]? := by
  obtain ⟨k, rfl⟩ := Int.eq_ofNat_of_zero_le h0
  rw [atI_nat xs k (by omega)]
  simp only [Int.toNat_natCast]
  rw [List.getElem?_eq_getElem (by omega)]
@[simp] theorem mPopAt_ev' (f : Mo D) : mPopAt i f (s0 :: ρ0) = ob (s0 :: ρ0)[i]? fun s => br (isO1 s) (ob (f (s0 :: ρ0)) fun p => ob (nI p.1) fun j => ob p.2[i]? (paS i p.2 j)) none := by
  cases h : (s0 :: ρ0)[i]? with
  | none => unfold mPopAt; rw [h]; rfl
  | some s =>
    simp only [ob_some]
    cases s with
    | un => unfold mPopAt; rw [h]; rfl
    | sh d => unfold mPopAt; rw [h]; rfl
    | ow n d =>
      match n, d, h with
      | 1, .list ds, h => rw [mPopAt_ev f h]; rfl
      | 1, .none, h => unfold mPopAt; rw [h]; rfl
      | 1, .bool _, h => unfold mPopAt; rw [h]; rfl
      | 1, .int _, h => unfold mPopAt; rw [h]; rfl
      | 1, .str _, h => unfold mPopAt; rw [h]; rfl
      | 1, .tuple _, h => unfold mPopAt; rw [h]; rfl
      | 1, .dict _, h => unfold mPopAt; rw [h]; rfl
      | 0, _, h => unfold mPopAt; rw [h]; rfl
      | n + 2, _, h => unfold mPopAt; rw [h]; rfl
@[simp] theorem mRem_ev' (f : Mo D) : mRem i f (s0 :: ρ0) = ob (s0 :: ρ0)[i]? fun s => br (isO1 s) (ob (f (s0 :: ρ0)) fun p => ob (nI p.1) fun j => ob p.2[i]? (reS i p.2 j)) none := by
  cases h : (s0 :: ρ0)[i]? with
  | none => unfold mRem; rw [h]; rfl
  | some s =>
    simp only [ob_some]
    cases s with
    | un => unfold mRem; rw [h]; rfl
    | sh d => unfold mRem; rw [h]; rfl
    | ow n d =>
      match n, d, h with
      | 1, .list ds, h => rw [mRem_ev f h]; rfl
      | 1, .none, h => unfold mRem; rw [h]; rfl
      | 1, .bool _, h => unfold mRem; rw [h]; rfl
      | 1, .int _, h => unfold mRem; rw [h]; rfl
      | 1, .str _, h => unfold mRem; rw [h]; rfl
      | 1, .tuple _, h => unfold mRem; rw [h]; rfl
      | 1, .dict _, h => unfold mRem; rw [h]; rfl
      | 0, _, h => unfold mRem; rw [h]; rfl
      | n + 2, _, h => unfold mRem; rw [h]; rfl
def udS (i : Nat) (ρ : Nt.Env) : D → Sl → Option (D × Nt.Env)
  | .dict es, .ow 1 (.dict ds) => ob (keyed es) fun ms => szI (ds.length + ms.length ≤ 16777216) (some (.none, ρ.set i (.ow 1 (.dict (mergeD ds ms)))))
  | _, _ => none
@[simp] theorem udS_ow {ρ : Nt.Env} (es ds : List (D × D)) : udS i ρ (.dict es) (.ow 1 (.dict ds)) = ob (keyed es) fun ms => szI (ds.length + ms.length ≤ 16777216) (some (.none, ρ.set i (.ow 1 (.dict (mergeD ds ms))))) := id rfl
theorem mUpd_ev (f : Mo D) {ds es ds1 : List (D × D)} {ρ ρ1 : Nt.Env} (h : ρ[i]? = some (.ow 1 (.dict ds))) (h1 : f ρ = some (.dict es, ρ1)) (h2 : ρ1[i]? = some (.ow 1 (.dict ds1))) : mUpd i f ρ = udS i ρ1 (.dict es) (.ow 1 (.dict ds1)) := by
  unfold mUpd
  rw [h]
  simp only [h1, h2, udS_ow]
  cases keyed es with
  | none => rfl
  | some ms => rfl
@[simp] theorem dDG_ev (ds : List (D × D)) (k : Int) : dGetX (.dict ds) (.int k) = lookD ds (.inl k) := id rfl
@[simp] theorem dEq_intF (i j : Int) : dEq false (.int i) (.int j) = some (.bool (decide (i = j))) := by
  show some (PyData.bool (i == j)) = _
  rw [Bool.beq_eq_decide_eq]
@[simp] theorem dEq_intT (i j : Int) : dEq true (.int i) (.int j) = some (.bool (!decide (i = j))) := by
  show some (PyData.bool (!(i == j))) = _
  rw [Bool.beq_eq_decide_eq]
@[simp] theorem dEq_strF (i j : Str) : dEq false (.str i) (.str j) = some (.bool (decide (i = j))) := by
  show some (PyData.bool (i == j)) = _
  rw [Bool.beq_eq_decide_eq]
@[simp] theorem dEq_strT (i j : Str) : dEq true (.str i) (.str j) = some (.bool (!decide (i = j))) := by
  show some (PyData.bool (!(i == j))) = _
  rw [Bool.beq_eq_decide_eq]
@[simp] theorem dEq_l0 (neg : Bool) : dEq neg (.list []) (.list []) = some (.bool (!neg)) := by cases neg <;> rfl
@[simp] theorem dEq_t0 (neg : Bool) : dEq neg (.tuple []) (.tuple []) = some (.bool (!neg)) := by cases neg <;> rfl
@[simp] theorem atI_0 {α : Type} (x : α) (xs : List α) : atI (x :: xs) 0 = some x := by
  have := atI_nat (x :: xs) 0 (Nat.succ_pos _)
  exact this
@[simp] theorem atI_1 {α : Type} (x y : α) (xs : List α) : atI (x :: y :: xs) 1 = some y := by
  have := atI_nat (x :: y :: xs) 1 (by simp)
  exact this
@[simp] theorem atI_2 {α : Type} (x y z : α) (xs : List α) : atI (x :: y :: z :: xs) 2 = some z := by
  have := atI_nat (x :: y :: z :: xs) 2 (by simp)
  exact this
@[simp] theorem atI_3 {α : Type} (x y z u : α) (xs : List α) : atI (x :: y :: z :: u :: xs) 3 = some u := by
  have := atI_nat (x :: y :: z :: u :: xs) 3 (by simp)
  exact this
@[simp] theorem argE_nil : argE (s0 :: ρ0) [] = some [] := id rfl
@[simp] theorem argE_val (d : D) (os : List Opd) : argE (s0 :: ρ0) (.val d :: os) = ob (argE (s0 :: ρ0) os) fun r => some (.sh d :: r) := by
  show (argE (s0 :: ρ0) os).map (Sl.sh d :: ·) = _
  cases argE (s0 :: ρ0) os <;> rfl
@[simp] theorem argE_sl (i : Nat) (os : List Opd) : argE (s0 :: ρ0) (.sl i :: os) = ob (s0 :: ρ0)[i]? fun s => ob (argE (s0 :: ρ0) os) fun r => some (s :: r) := by
  show (match (s0 :: ρ0)[i]?, argE (s0 :: ρ0) os with | some s, some r => some (s :: r) | _, _ => none) = _
  unfold ob
  generalize argE (s0 :: ρ0) os = q
  cases (s0 :: ρ0)[i]? with
  | none => rfl
  | some s => cases q <;> rfl
@[simp] theorem setA_val (d : D) (os : List Opd) (t : Sl) (r ρ : Nt.Env) : setA (.val d :: os) (t :: r) ρ = setA os r ρ := id rfl
@[simp] theorem setA_sl (i : Nat) (os : List Opd) (t : Sl) (r ρ : Nt.Env) : setA (.sl i :: os) (t :: r) ρ = setA os r (ρ.set i t) := id rfl
@[simp] theorem setA_nil (r ρ : Nt.Env) : setA [] r ρ = ρ := by unfold setA; rfl
@[simp] theorem noSl_nil (i : Nat) : noSl i [] = true := id rfl
@[simp] theorem noSl_val (i : Nat) (d : D) (os : List Opd) : noSl i (.val d :: os) = noSl i os := id rfl
@[simp] theorem noSl_sl (i j : Nat) (os : List Opd) : noSl i (.sl j :: os) = ((i != j) && noSl i os) := id rfl
@[simp] theorem distS_nil : distS [] = true := id rfl
@[simp] theorem distS_val (d : D) (os : List Opd) : distS (.val d :: os) = distS os := id rfl
@[simp] theorem distS_sl (i : Nat) (os : List Opd) : distS (.sl i :: os) = (noSl i os && distS os) := id rfl
@[simp] theorem mCallS_ev (m : Nat) (F : Nt.Env → Option (D × Nt.Env)) (fs : Mo (List Opd)) : mCallS m F fs (s0 :: ρ0) = ob (fs (s0 :: ρ0)) fun p => ob (argE p.2 p.1) fun r => szI (p.1.length = m ∧ distS p.1 = true) (ob (F r) fun q => szI (q.2.length = m) (some (q.1, setA p.1 q.2 p.2))) := by
  unfold mCallS ob szI
  cases fs (s0 :: ρ0) with
  | none => rfl
  | some p =>
    obtain ⟨o, ρ1⟩ := p
    simp only [Option.bind_some]
    cases argE ρ1 o with
    | none => rfl
    | some r =>
      simp only [Option.bind_some]
      split
      · cases F r with
        | none => rfl
        | some q => rfl
      · rfl
end Nt

/-! the draw, as all laws have it -/
namespace Nt
open PySem
def outI (p : Nat) (o : Option Out) : Option (D × D) := match o with
  | some (.rt z ρ') => match ρ'[0]? with
    | some (Sl.ow p' s') => if p' = p then some (z, s') else none
    | _ => none
  | some (.nx ρ') => match ρ'[0]? with
    | some (Sl.ow p' s') => if p' = p then some (.none, s') else none
    | _ => none
  | _ => none
@[simp] theorem outI_rt (p : Nat) (z s : D) (ρ : Nt.Env) : outI p (some (.rt z (.ow p s :: ρ))) = some (z, s) := by simp [outI]
@[simp] theorem outI_nx (p : Nat) (s : D) (ρ : Nt.Env) : outI p (some (.nx (.ow p s :: ρ))) = some (.none, s) := by simp [outI]
theorem runI_ev (N p : Nat) (g : MoS) (s : D) (ds : List D) : runI N p g s ds = outI p (g (Sl.ow p s :: (ds.map Sl.sh ++ List.replicate (N - (ds.length + 1)) Sl.un))) := rfl
def outF (o : Option Out) : Option D := match o with
  | some (.rt z _) => some z
  | some (.nx _) => some .none
  | _ => none
@[simp] theorem outF_rt (z : D) (ρ : Nt.Env) : outF (some (.rt z ρ)) = some z := id rfl
@[simp] theorem outF_nx (ρ : Nt.Env) : outF (some (.nx ρ)) = some .none := id rfl
theorem runF_ev (N : Nat) (g : MoS) (ds : List D) : runF N g ds = outF (g (ds.map Sl.sh ++ List.replicate (N - ds.length) Sl.un)) := rfl
def outS (P : List Nat) (m : Nat) (o : Option Out) : Option (D × Nt.Env) := match o with
  | some (.rt z ρ') => some (z, keepO P 0 m ρ')
  | some (.nx ρ') => some (.none, keepO P 0 m ρ')
  | _ => none
@[simp] theorem outS_rt (P : List Nat) (m : Nat) (z : D) (ρ : Nt.Env) : outS P m (some (.rt z ρ)) = some (z, keepO P 0 m ρ) := id rfl
@[simp] theorem outS_nx (P : List Nat) (m : Nat) (ρ : Nt.Env) : outS P m (some (.nx ρ)) = some (.none, keepO P 0 m ρ) := id rfl
theorem runS_ev (N m : Nat) (P : List Nat) (g : MoS) (ρ0 : Nt.Env) : runS N m P g ρ0 = outS P m (g (ρ0 ++ List.replicate (N - m) .un)) := rfl
@[simp] theorem keepO_0 (P : List Nat) (j : Nat) (ρ : Nt.Env) : keepO P j 0 ρ = [] := by unfold keepO; rfl
@[simp] theorem keepO_s (P : List Nat) (j m : Nat) (s : Sl) (ρ : Nt.Env) : keepO P j (m + 1) (s :: ρ) = (if j ∈ P then s else .un) :: keepO P (j + 1) m ρ := id rfl
/-- the source, whatever it holds -/
def Src (s : D) : Prop := ∃ (ns : List Int) (l m t : Int), s = srcD (ns.map PyData.int) l m t
theorem ml_ : ¬ (("mixed" : Str) = "left") := by decide +kernel
theorem tl_ : ¬ (("turn" : Str) = "left") := by decide +kernel
theorem tm_ : ¬ (("turn" : Str) = "mixed") := by decide +kernel
@[simp] theorem mSG_L (ns : List D) (l m t : Int) (ρ : Nt.Env) : mSG 0 "left" (.ow 2 (srcD ns l m t) :: ρ) = some (.int l, .ow 2 (srcD ns l m t) :: ρ) := by
  simp [mSG, asSrc_src, fld]
@[simp] theorem mSG_M (ns : List D) (l m t : Int) (ρ : Nt.Env) : mSG 0 "mixed" (.ow 2 (srcD ns l m t) :: ρ) = some (.int m, .ow 2 (srcD ns l m t) :: ρ) := by
  simp [mSG, asSrc_src, fld, ml_]
@[simp] theorem mSG_T (ns : List D) (l m t : Int) (ρ : Nt.Env) : mSG 0 "turn" (.ow 2 (srcD ns l m t) :: ρ) = some (.int t, .ow 2 (srcD ns l m t) :: ρ) := by
  simp [mSG, asSrc_src, fld, tl_, tm_]
@[simp] theorem mSLen_ev (ns : List D) (l m t : Int) (ρ : Nt.Env) : mSLen 0 (.ow 2 (srcD ns l m t) :: ρ) = some (.int ns.length, .ow 2 (srcD ns l m t) :: ρ) := by
  simp [mSLen, asSrc_src]
@[simp] theorem mSPop_ev (ns : List D) (l m t : Int) (ρ : Nt.Env) : mSPop 0 (.ow 2 (srcD ns l m t) :: ρ) = ob ns.getLast? fun c => some (c, .ow 2 (srcD ns.dropLast l m t) :: ρ) := by
  unfold mSPop ob
  simp only [List.getElem?_cons_zero, asSrc_src]
  cases ns.getLast? <;> rfl
def sputS (k : Str) (ρ : Nt.Env) : D → Option Out
  | .int z => match (ρ[0]? : Option Sl) with
    | some (Sl.ow 2 d) => match asSrc d with
      | some (cs, l, m, t) => match Nt.putF k z l m t with
        | some (l', m', t') => some (.nx (ρ.set 0 (.ow 2 (srcD cs l' m' t'))))
        | none => none
      | none => none
    | _ => none
  | _ => none
@[simp] theorem spS_L (ns : List D) (z l m t : Int) (ρ : Nt.Env) : sputS "left" (.ow 2 (srcD ns l m t) :: ρ) (.int z) = some (.nx (.ow 2 (srcD ns z m t) :: ρ)) := by
  simp [sputS, asSrc_src, Nt.putF]
@[simp] theorem spS_M (ns : List D) (z l m t : Int) (ρ : Nt.Env) : sputS "mixed" (.ow 2 (srcD ns l m t) :: ρ) (.int z) = some (.nx (.ow 2 (srcD ns l z t) :: ρ)) := by
  simp [sputS, asSrc_src, Nt.putF, ml_]
@[simp] theorem spS_T (ns : List D) (z l m t : Int) (ρ : Nt.Env) : sputS "turn" (.ow 2 (srcD ns l m t) :: ρ) (.int z) = some (.nx (.ow 2 (srcD ns l m z) :: ρ)) := by
  simp [sputS, asSrc_src, Nt.putF, tl_, tm_]
@[simp] theorem sSPut_ev (k : Str) (f : Mo D) (s : Sl) (ρ : Nt.Env) : sSPut 0 k f (s :: ρ) = ob (f (s :: ρ)) fun p => sputS k p.2 p.1 := by
  unfold sSPut
  cases f (s :: ρ) with
  | none => rfl
  | some p => obtain ⟨d, ρ1⟩ := p; cases d <;> rfl
def fuelPick : Nt.Env → Nat := fun ρ => match (ρ[0]? : Option Sl) with
  | some (Sl.ow 2 d) => match asSrc d with
    | some (cs, _, _, _) => cs.length + 1
    | none => 0
  | _ => 0
def gPick : MoS :=
  (sSeq (sWhile fuelPick (mAnd (mTest (m2 rs dGt (mSlot 1) (mV (mC (.int 1))))) (mAnd (mTest (m2 rs dLt (mV (mSG 0 "left")) (mV (mC (.int 2))))) (mTest (m2 rs dGt (mV (mSLen 0)) (mV (mC (.int 0)))))))
  (sSPut 0 "left" (mSPop 0)))
  (sSeq (sAsg (mSG 0 "left") (fName 2))
  (sSeq (sIf (mOr (mTest (m2 rs dLt (mSlot 1) (mV (mC (.int 2))))) (mTest (m2 rs dGt (mSlot 2) (mV (mC (.int 1)))))) (sSeq (sSPut 0 "left" (m2 rs dDiv (mSlot 2) (mV (mCB rs dMax2 (mACons (mV (mC (.int 1))) (mACons (mSlot 1) mANil))))))
  (sRet (m2 rs dMod (mV (mCB rs dInt (mACons (mSlot 2) mANil))) (mV (mCB rs dMax2 (mACons (mV (mC (.int 1))) (mACons (mSlot 1) mANil))))))) sPass)
  (sSeq (sSPut 0 "turn" (m2 rs1 dAdd (mV (mSG 0 "turn")) (mV (mC (.int 1)))))
  (sSeq (sAsg (m2 rs dMod (mV (mCB rs dInt (mACons (mV (m2 rs1 dAdd (mV (mSG 0 "mixed")) (mV (m2 rs1 dMulX (mV (mSG 0 "turn")) (mV (mC (.int 104729))))))) mANil))) (mV (mC (.int 998244353)))) (fName 3))
  (sSeq (sAsg (m2 rs dMod (mV (mCB rs dInt (mACons (mV (m2 rs1 dAdd (mV (m2 rs1 dMulX (mSlot 3) (mSlot 3))) (mV (m2 rs1 dMulX (mV (mSG 0 "turn")) (mV (mC (.int 17))))))) mANil))) (mV (mC (.int 2147483647)))) (fName 3))
  (sSeq (sSPut 0 "mixed" (mName 3))
  (sRet (m2 rs dMod (mV (mCB rs dInt (mACons (mV (m2 rs dDiv (mSlot 3) (mV (mC (.int 16))))) mANil))) (mSlot 1))))))))))
def FPick (s : D) (ds : List D) : Option (D × D) := runI 4 2 gPick s ds
def qPick : Mo Bool := mAnd (mTest (m2 rs dGt (mSlot 1) (mV (mC (.int 1))))) (mAnd (mTest (m2 rs dLt (mV (mSG 0 "left")) (mV (mC (.int 2))))) (mTest (m2 rs dGt (mV (mSLen 0)) (mV (mC (.int 0))))))
def bPick : MoS := sSPut 0 "left" (mSPop 0)
theorem pick_loop (many : Int) (a b : Sl) (m t : Int) : ∀ (k : Nat) (ns : List Int) (l : Int), ns.length < k → ∃ (ns' : List Int) (l' : Int), whD qPick bPick k [.ow 2 (srcD (ns.map PyData.int) l m t), .sh (.int many), a, b] = some (.nx [.ow 2 (srcD (ns'.map PyData.int) l' m t), .sh (.int many), a, b]) := by
  intro k
  induction k with
  | zero => intro ns l h; omega
  | succ k ih =>
    intro ns l h
    rw [whD_succ]
    by_cases h1 : 1 < many
    · by_cases h2 : l < 2
      · rcases List.eq_nil_or_concat ns with h3 | ⟨ns0, c, h3⟩
        · subst h3
          exact ⟨[], l, by simp [qPick, h1, h2]⟩
        · have h3 : ns = ns0 ++ [c] := by rw [h3, List.concat_eq_append]
          subst h3
          obtain ⟨ns', l', e⟩ := ih ns0 c (by rw [List.length_append] at h; simp at h; omega)
          refine ⟨ns', l', ?_⟩
          have h4 : (0 : Int) < (ns0.length : Int) + 1 := by omega
          simp [qPick, bPick, h1, h2, h4]
          exact e
      · exact ⟨ns, l, by simp [qPick, h1, h2]⟩
    · exact ⟨ns, l, by simp [qPick, h1]⟩
theorem fuel_src (ns : List D) (l m t : Int) (ρ : Nt.Env) : fuelPick (.ow 2 (srcD ns l m t) :: ρ) = ns.length + 1 := by
  simp [fuelPick, asSrc_src]
theorem pick_ok {s : D} (hs : Src s) {many : Int} (h0 : 0 ≤ many) (h1 : many ≤ 1000000) : ∃ (r : Int) (s' : D), FPick s [.int many] = some (.int r, s') ∧ Src s' ∧ 0 ≤ r ∧ (r < many ∨ r = 0) := by
  obtain ⟨ns, l, m, t, rfl⟩ := hs
  obtain ⟨ns', l', e⟩ := pick_loop many .un .un m t (ns.length + 1) ns l (Nat.lt_succ_self _)
  have mx : (if (1 : Int) < many then many else 1) ≤ 1000000 ∧ 0 < (if (1 : Int) < many then many else 1) := by split <;> omega
  have hw : sWhile fuelPick qPick bPick [.ow 2 (srcD (ns.map PyData.int) l m t), .sh (.int many), .un, .un] = some (.nx [.ow 2 (srcD (ns'.map PyData.int) l' m t), .sh (.int many), .un, .un]) := by
    rw [sWhile_ev, fuel_src, List.length_map]
    exact e
  generalize hmx : (if (1 : Int) < many then many else 1) = mm at mx
  have hg : gPick [.ow 2 (srcD (ns.map PyData.int) l m t), .sh (.int many), .un, .un] = os (sWhile fuelPick qPick bPick [.ow 2 (srcD (ns.map PyData.int) l m t), .sh (.int many), .un, .un]) _ := sSeq_ev _ _
  have hF : FPick (srcD (ns.map PyData.int) l m t) [.int many] = outI 2 (gPick [.ow 2 (srcD (ns.map PyData.int) l m t), .sh (.int many), .un, .un]) := rfl
  rw [hF, hg, hw, os_nx]
  by_cases h1 : many < 2 ∨ 1 < l'
  · refine ⟨l' % mm, srcD (ns'.map PyData.int) (l' / mm) m t, ?_, ⟨ns', _, m, t, rfl⟩, Int.emod_nonneg _ (by omega), ?_⟩
    · have hd : cDiv l' mm = true := by simp [cDiv]; omega
      have hp : cPos l' mm = true := by simp [cPos]; omega
      by_cases h2 : many < 2
      · simp [h2, hmx, hd, hp]
      · have h3 : 1 < l' := by omega
        simp [h2, h3, hmx, hd, hp]
    · by_cases h2 : 1 < many
      · have : mm = many := by rw [← hmx, if_pos h2]
        rw [this]
        left
        exact Int.emod_lt_of_pos _ (by omega)
      · have : mm = 1 := by rw [← hmx, if_neg h2]
        rw [this]
        right
        omega
  · have h2 : ¬ many < 2 := by omega
    have h3 : ¬ 1 < l' := by omega
    have m1 : ∀ x : Int, 0 ≤ x % 998244353 ∧ x % 998244353 < 998244353 := fun x => ⟨Int.emod_nonneg _ (by decide), Int.emod_lt_of_pos _ (by decide)⟩
    refine ⟨(((m + (t + 1) * 104729) % 998244353 * ((m + (t + 1) * 104729) % 998244353) + (t + 1) * 17) % 2147483647) / 16 % many, srcD (ns'.map PyData.int) l' (((m + (t + 1) * 104729) % 998244353 * ((m + (t + 1) * 104729) % 998244353) + (t + 1) * 17) % 2147483647) (t + 1), ?_, ⟨ns', _, _, _, rfl⟩, Int.emod_nonneg _ (by omega), .inl (Int.emod_lt_of_pos _ (by omega))⟩
    have c1 : cMul (t + 1) 104729 = true := by simp [cMul]
    have c2 : cMul (t + 1) 17 = true := by simp [cMul]
    have c3 : ∀ x, cPos x 998244353 = true := fun x => by simp [cPos]
    have c4 : ∀ x, cPos x 2147483647 = true := fun x => by simp [cPos]
    have c5 : ∀ x, cPos x many = true := fun x => by simp [cPos]; omega
    have c6 : ∀ x, cDiv x 16 = true := fun x => by simp [cDiv]
    have c7 : ∀ x : Int, cMul (x % 998244353) (x % 998244353) = true := fun x => by
      have := m1 x
      simp [cMul]
      omega
    simp [h2, h3, c1, c2, c3, c4, c5, c6, c7]
end Nt

/-! loops and comprehensions by what stays true -/
namespace Nt
open PySem L2
theorem forD_inv {set : D → Nt.Env → Option Nt.Env} {body : MoS} : ∀ (l : List D) (P : Nat → Nt.Env → Prop) (ρ : Nt.Env),
    (∀ i d ρ, l[i]? = some d → P i ρ → ∃ ρ1 ρ2, set d ρ = some ρ1 ∧ (body ρ1 = some (.nx ρ2) ∨ body ρ1 = some (.ct ρ2)) ∧ P (i + 1) ρ2) → P 0 ρ → ∃ ρ', forD set body l ρ = some (.nx ρ') ∧ P l.length ρ'
  | [], P, ρ, _, h0 => ⟨ρ, rfl, h0⟩
  | d :: l, P, ρ, h, h0 => by
    obtain ⟨ρ1, ρ2, e1, e2, h1⟩ := h 0 d ρ rfl h0
    obtain ⟨ρ', e3, h3⟩ := forD_inv l (fun i => P (i + 1)) ρ2 (fun i d' ρ hd hP => h (i + 1) d' ρ (by simpa using hd) hP) h1
    refine ⟨ρ', ?_, by simpa using h3⟩
    rw [forD_cons, e1, ob_some]
    rcases e2 with e2 | e2
    · rw [e2, lp_nx, e3]
    · rw [e2, lp_ct, e3]
theorem forget_forget (vs : List Nat) (ρ : Nt.Env) : forget vs (forget vs ρ) = forget vs ρ := by
  have key : ∀ (vs : List Nat) (ρ : Nt.Env) (i : Nat), (forget vs ρ)[i]? = if i ∈ vs then (ρ[i]?).map fun _ => Sl.un else ρ[i]? := by
    intro vs
    induction vs with
    | nil => intro ρ i; rfl
    | cons v vs ih =>
      intro ρ i
      show (forget vs (ρ.set v .un))[i]? = _
      rw [ih]
      by_cases h1 : i ∈ vs
      · rw [if_pos h1, if_pos (List.mem_cons_of_mem _ h1)]
        by_cases h2 : v = i
        · subst h2
          rw [List.getElem?_set]
          by_cases h3 : v < ρ.length
          · simp [h3]
          · simp [h3]
        · rw [List.getElem?_set_ne h2]
      · rw [if_neg h1]
        by_cases h2 : v = i
        · subst h2
          rw [if_pos List.mem_cons_self, List.getElem?_set]
          by_cases h3 : v < ρ.length
          · simp [h3]
          · simp [h3]
        · rw [List.getElem?_set_ne h2, if_neg (by
            intro z
            rcases List.mem_cons.mp z with z | z
            · exact h2 z.symm
            · exact h1 z)]
  refine List.ext_getElem? fun i => ?_
  rw [key, key]
  by_cases h : i ∈ vs
  · rw [if_pos h, if_pos h]
    cases ρ[i]? <;> rfl
  · rw [if_neg h, if_neg h]
/-- each thing of l gives a thing, or nothing -/
theorem compD_any {set : D → Nt.Env → Option Nt.Env} {tst : Mo Bool} {el : Mo D} {vs : List Nat} (R : D → Option D → Prop) : ∀ (l : List D) (P : Nat → Nt.Env → Prop) (ρ : Nt.Env),
    (∀ i d ρ, l[i]? = some d → P i ρ → ∃ ρ1 b ρ2, set d (forget vs ρ) = some ρ1 ∧ tst ρ1 = some (b, ρ2) ∧ ((b = false ∧ P (i + 1) ρ2 ∧ R d none) ∨ (b = true ∧ ∃ z ρ3, el ρ2 = some (z, ρ3) ∧ P (i + 1) ρ3 ∧ R d (some z)))) → P 0 ρ →
    ∃ os ρ', compD set tst el vs l ρ = some (os.filterMap id, forget vs ρ') ∧ P l.length ρ' ∧ Paired R l os
  | [], P, ρ, _, h0 => ⟨[], ρ, rfl, h0, .nil⟩
  | d :: l, P, ρ, h, h0 => by
    obtain ⟨ρ1, b, ρ2, e1, e2, h1⟩ := h 0 d ρ rfl h0
    rw [compD_cons, e1, ob_some, e2, ob_some]
    rcases h1 with ⟨rfl, p2, r⟩ | ⟨rfl, z, ρ3, e3, p3, r⟩
    · obtain ⟨os, ρ', e4, p4, r4⟩ := compD_any R l (fun i => P (i + 1)) ρ2 (fun i d' ρ hd hP => h (i + 1) d' ρ (by simpa using hd) hP) p2
      exact ⟨none :: os, ρ', by simpa using e4, by simpa using p4, .cons r r4⟩
    · obtain ⟨os, ρ', e4, p4, r4⟩ := compD_any R l (fun i => P (i + 1)) ρ3 (fun i d' ρ hd hP => h (i + 1) d' ρ (by simpa using hd) hP) p3
      refine ⟨some z :: os, ρ', ?_, by simpa using p4, .cons r r4⟩
      simp only [br_true, e3, ob_some, e4]
      rfl
/-- each thing gives what a function says -/
theorem compD_fun {set : D → Nt.Env → Option Nt.Env} {tst : Mo Bool} {el : Mo D} {vs : List Nat} (P : Nt.Env → Prop) (b : D → Bool) (e : D → D) (l : List D) (ρ : Nt.Env)
    (h : ∀ d ∈ l, ∀ ρ, P ρ → ∃ ρ1 ρ2, set d (forget vs ρ) = some ρ1 ∧ tst ρ1 = some (b d, ρ2) ∧ ((b d = false ∧ P ρ2) ∨ (b d = true ∧ ∃ ρ3, el ρ2 = some (e d, ρ3) ∧ P ρ3))) (h0 : P ρ) :
    ∃ ρ', compD set tst el vs l ρ = some ((l.filter b).map e, forget vs ρ') ∧ P ρ' := by
  obtain ⟨os, ρ', e1, p1, r1⟩ := compD_any (set := set) (tst := tst) (el := el) (vs := vs) (fun d o => o = if b d then some (e d) else none) l (fun _ => P) ρ (fun i d ρ hd hp => by
    obtain ⟨ρ1, ρ2, e1, e2, q⟩ := h d (List.mem_of_getElem? hd) ρ hp
    refine ⟨ρ1, b d, ρ2, e1, e2, ?_⟩
    rcases q with ⟨hb, p⟩ | ⟨hb, ρ3, e3, p⟩
    · exact .inl ⟨hb, p, by rw [hb]; rfl⟩
    · exact .inr ⟨hb, e d, ρ3, e3, p, by rw [hb]; rfl⟩) h0
  refine ⟨ρ', ?_, p1⟩
  rw [e1]
  have : ∀ {l : List D} {os : List (Option D)}, Paired (fun d o => o = if b d then some (e d) else none) l os → os.filterMap id = (l.filter b).map e := by
    intro l os r
    induction r with
    | nil => rfl
    | cons h t ih =>
      rename_i d o l os
      subst h
      cases hb : b d with
      | false => simp [hb, ih]
      | true => simp [hb, ih]
  rw [this r1]
/-- the same where the names do not change -/
theorem compD_pure {set : D → Nt.Env → Option Nt.Env} {tst : Mo Bool} {el : Mo D} {vs : List Nat} (b : D → Bool) (e : D → D) (l : List D) (ρ : Nt.Env)
    (h : ∀ d ∈ l, ∃ ρ1 ρ2, set d (forget vs ρ) = some ρ1 ∧ tst ρ1 = some (b d, ρ2) ∧ ((b d = false ∧ forget vs ρ2 = forget vs ρ) ∨ (b d = true ∧ ∃ ρ3, el ρ2 = some (e d, ρ3) ∧ forget vs ρ3 = forget vs ρ))) :
    compD set tst el vs l ρ = some ((l.filter b).map e, forget vs ρ) := by
  obtain ⟨ρ', e1, p1⟩ := compD_fun (set := set) (tst := tst) (el := el) (vs := vs) (fun r => forget vs r = forget vs ρ) b e l ρ (fun d hd r hr => by rw [hr]; exact h d hd) rfl
  rw [e1, p1]
end Nt

/-! data of a bounded shape: their repr is at hand -/
namespace Nt
open PySem L2
/-- fl: no dict stands in it; else an empty dict may -/
inductive Pl (fl : Bool) : List Nat → D → Prop
  | non {ws : List Nat} : Pl fl ws .none
  | bl {ws : List Nat} (b : Bool) : Pl fl ws (.bool b)
  | int {ws : List Nat} {i : Int} : i.natAbs < 1000000000000 → Pl fl ws (.int i)
  | str {ws : List Nat} {x : Str} : x.cps.size ≤ 20 → PyData.strOk x = true → Pl fl ws (.str x)
  | lst {w : Nat} {ws : List Nat} {xs : List D} : fl = fl → xs.length ≤ w → (∀ x ∈ xs, Pl fl ws x) → Pl fl (w :: ws) (.list xs)
  | tup {w : Nat} {ws : List Nat} {xs : List D} : xs.length ≤ w → (∀ x ∈ xs, Pl fl ws x) → Pl fl (w :: ws) (.tuple xs)
  | dic {ws : List Nat} : fl = false → Pl fl ws (.dict [])
def wide : List Nat → Nat
  | [] => 20
  | w :: ws => w * (wide ws + 1) + 20
theorem noDs_of : ∀ {xs : List D}, (∀ x ∈ xs, noD x = true) → noDs xs = true
  | [], _ => rfl
  | x :: xs, h => by
    unfold noDs
    rw [h x List.mem_cons_self, noDs_of fun y hy => h y (List.mem_cons_of_mem _ hy)]
    rfl
theorem noKs_of : ∀ {xs : List D}, (∀ x ∈ xs, noK x = true) → noKs xs = true
  | [], _ => rfl
  | x :: xs, h => by
    unfold noKs
    rw [h x List.mem_cons_self, noKs_of fun y hy => h y (List.mem_cons_of_mem _ hy)]
    rfl
mutual
theorem noK_noD : ∀ {d : D}, noD d = true → noK d = true
  | .none, _ => rfl
  | .bool _, _ => rfl
  | .int _, _ => rfl
  | .str _, _ => rfl
  | .list xs, h => by simp only [noD] at h; simp only [noK]; exact noKs_noD h
  | .tuple xs, h => by simp only [noD] at h; simp only [noK]; exact noKs_noD h
  | .dict _, h => by simp only [noD, Bool.false_eq_true] at h
theorem noKs_noD : ∀ {ds : List D}, noDs ds = true → noKs ds = true
  | [], _ => rfl
  | d :: ds, h => by
    simp only [noDs, Bool.and_eq_true] at h
    simp only [noKs, noK_noD h.1, noKs_noD h.2, Bool.and_self]
end
theorem showableAll_of : ∀ {xs : List D}, (∀ x ∈ xs, x.showable = true) → PyData.showableAll xs = true
  | [], _ => by simp only [PyData.showableAll]
  | x :: xs, h => by simp only [PyData.showableAll, h x List.mem_cons_self, showableAll_of fun y hy => h y (List.mem_cons_of_mem _ hy), Bool.and_self]
theorem leavesAll_of {B : Nat} : ∀ {xs : List D}, (∀ x ∈ xs, x.leavesShort B = true) → PyData.leavesShortAll B xs = true
  | [], _ => by simp only [PyData.leavesShortAll]
  | x :: xs, h => by simp only [PyData.leavesShortAll, h x List.mem_cons_self, leavesAll_of fun y hy => h y (List.mem_cons_of_mem _ hy), Bool.and_self]
theorem depthAll_of {k : Nat} : ∀ {xs : List D}, (∀ x ∈ xs, x.depth ≤ k) → PyData.depthAll xs ≤ k
  | [], _ => by simp only [PyData.depthAll]; omega
  | x :: xs, h => by
    simp only [PyData.depthAll]
    exact Nat.max_le.mpr ⟨h x List.mem_cons_self, depthAll_of fun y hy => h y (List.mem_cons_of_mem _ hy)⟩
theorem bulkAll_of {k : Nat} : ∀ {xs : List D}, (∀ x ∈ xs, x.bulk ≤ k) → PyData.bulkAll xs ≤ xs.length * (k + 1)
  | [], _ => by simp only [PyData.bulkAll]; omega
  | x :: xs, h => by
    simp only [PyData.bulkAll, List.length_cons]
    have h1 := h x List.mem_cons_self
    have h2 := bulkAll_of (k := k) (xs := xs) fun y hy => h y (List.mem_cons_of_mem _ hy)
    rw [Nat.add_mul]
    omega
theorem int_short {i : Int} (h : i.natAbs < 1000000000000) : (PyData.int i).leavesShort 13 = true ∧ (PyData.int i).showable = true := by
  constructor
  · simp only [PyData.leavesShort, decide_eq_true_eq]
    have e := int_text_length_le10 (a := i) (k := 12) (by decide) (by simpa using h)
    simp only [PyData.shown]
    have e2 : (Str.ofString (toString i)).length = (toString i).length := ofString_length _
    show (Str.ofString (toString i)).length ≤ 13
    omega
  · simp only [PyData.showable, decide_eq_true_eq]
    have : i.natAbs < 2 ^ 1920 := Nat.lt_of_lt_of_le (show i.natAbs < 2 ^ 40 from Nat.lt_trans h (by decide)) (Nat.pow_le_pow_right (by decide) (by decide))
    rcases Nat.eq_zero_or_pos i.natAbs with z | z
    · rw [z]; decide
    · exact (Nat.log2_lt (by omega)).mpr this
theorem Pl.facts {fl : Bool} {ws : List Nat} {d : D} (h : Pl fl ws d) : (if fl then noD d else noK d) = true ∧ d.showable = true ∧ d.depth ≤ ws.length + 1 ∧ d.leavesShort 13 = true ∧ d.bulk ≤ wide ws := by
  have wp : ∀ ws, 20 ≤ wide ws := fun ws => by cases ws <;> simp [wide]
  induction h with
  | @non ws => cases fl <;> exact ⟨by simp [noD, noK], by simp [PyData.showable], by simp [PyData.depth], by simp [PyData.leavesShort], by simp [PyData.bulk]⟩
  | @bl ws b => cases fl <;> exact ⟨by simp [noD, noK], by simp [PyData.showable], by simp [PyData.depth], by simp [PyData.leavesShort], by simp [PyData.bulk]⟩
  | @int ws i hi => cases fl <;> exact ⟨by simp [noD, noK], (int_short hi).2, by simp [PyData.depth], (int_short hi).1, by simp [PyData.bulk]⟩
  | @str ws x hx hl =>
    have := wp ws
    have hb : (PyData.str x).bulk ≤ wide ws := by simp only [PyData.bulk]; omega
    have hs : (PyData.str x).leavesShort 13 = true := by
      unfold PyData.strOk at hl
      rw [← Array.all_toList] at hl
      simp only [PyData.leavesShort, List.all_eq_true, decide_eq_true_eq] at hl ⊢
      exact fun c hc => Nat.lt_trans (hl c hc) (by decide)
    cases fl <;> exact ⟨by simp [noD, noK], by simp [PyData.showable], by simp [PyData.depth], hs, hb⟩
  | @lst w ws xs hf hl hx ih =>
    refine ⟨?_, ?_, ?_, ?_, ?_⟩
    · cases fl with
      | true => simp only [if_true, noD]; exact noDs_of fun x hx => by simpa using (ih x hx).1
      | false =>
        simp only [Bool.false_eq_true, if_false, noK]
        exact noKs_of fun x hx => by simpa using (ih x hx).1
    · simp only [PyData.showable]; exact showableAll_of fun x hx => (ih x hx).2.1
    · simp only [PyData.depth, List.length_cons]
      exact Nat.succ_le_succ (depthAll_of fun x hx => (ih x hx).2.2.1)
    · simp only [PyData.leavesShort]; exact leavesAll_of fun x hx => (ih x hx).2.2.2.1
    · simp only [PyData.bulk, wide]
      refine Nat.le_trans (bulkAll_of fun x hx => (ih x hx).2.2.2.2) (Nat.le_trans (Nat.mul_le_mul_right _ hl) (Nat.le_add_right _ _))
  | @tup w ws xs hl hx ih =>
    refine ⟨?_, ?_, ?_, ?_, ?_⟩
    · cases fl with
      | true => simp only [if_true, noD]; exact noDs_of fun x hx => by simpa using (ih x hx).1
      | false =>
        simp only [Bool.false_eq_true, if_false, noK]
        exact noKs_of fun x hx => by simpa using (ih x hx).1
    · simp only [PyData.showable]; exact showableAll_of fun x hx => (ih x hx).2.1
    · simp only [PyData.depth, List.length_cons]
      exact Nat.succ_le_succ (depthAll_of fun x hx => (ih x hx).2.2.1)
    · simp only [PyData.leavesShort]; exact leavesAll_of fun x hx => (ih x hx).2.2.2.1
    · simp only [PyData.bulk, wide]
      refine Nat.le_trans (bulkAll_of fun x hx => (ih x hx).2.2.2.2) (Nat.le_trans (Nat.mul_le_mul_right _ hl) (Nat.le_add_right _ _))
  | @dic ws hf =>
    subst hf
    exact ⟨by simp [noK], by simp [PyData.showable, PyData.showableKv], by simp [PyData.depth, PyData.depthKv], by simp [PyData.leavesShort, PyData.leavesShortKv], by simp [PyData.bulk, PyData.bulkKv]⟩
theorem Pl.okR {fl : Bool} {ws : List Nat} {d : D} (h : Pl fl ws d) (h1 : ws.length ≤ 59) (h2 : wide ws ≤ 1048576) : Nt.okR d = true := by
  obtain ⟨a, b, c, e, f⟩ := h.facts
  unfold Nt.okR
  have a' : noK d = true := by
    cases fl with
    | true => simp only [if_true] at a; exact noK_noD a
    | false => simpa only [Bool.false_eq_true, if_false] using a
  rw [a', b, e, decide_eq_true (by omega), decide_eq_true (by omega)]
  rfl
theorem canLayAll_of : ∀ {xs : List D}, (∀ x ∈ xs, x.canLay0 = true) → PyData.canLayAll0 xs = true
  | [], _ => by simp only [PyData.canLayAll0]
  | x :: xs, h => by simp only [PyData.canLayAll0, h x List.mem_cons_self, canLayAll_of fun y hy => h y (List.mem_cons_of_mem _ hy), Bool.and_self]
theorem Pl.lay' {fl : Bool} {ws : List Nat} {d : D} (h : Pl fl ws d) : fl = true → d.canLay0 = true := by
  induction h with
  | non => intro _; simp only [PyData.canLay0]
  | bl b => intro _; simp only [PyData.canLay0]
  | int hi => intro _; simp only [PyData.canLay0]
  | str a b => intro _; simpa only [PyData.canLay0] using b
  | lst _ hl hx ih => intro hf; simp only [PyData.canLay0]; exact canLayAll_of fun x hx => ih x hx hf
  | tup hl hx ih => intro hf; simp only [PyData.canLay0]; exact canLayAll_of fun x hx => ih x hx hf
  | dic h => intro hf; rw [hf] at h; cases h
theorem Pl.lay {ws : List Nat} {d : D} (h : Pl true ws d) : d.canLay0 = true := h.lay' rfl
theorem Pl.shaped {ws : List Nat} {d : D} (h : Pl true ws d) (hw : ws.length ≤ 60) : SeqAt.shaped d = true := by
  unfold SeqAt.shaped
  have := h.facts.2.2.1
  rw [h.lay, decide_eq_true (by omega)]
  rfl
theorem dEq_nilL {neg : Bool} {xs : List D} (h : SeqAt.shaped (.list xs) = true) : dEq neg (.list xs) (.list []) = some (.bool (if neg then !xs.isEmpty else xs.isEmpty)) := by
  unfold dEq
  have h2 : SeqAt.shaped (.list []) = true := by decide
  simp only [h, h2, Bool.and_self, if_true]
  cases xs <;> simp [PyData.eqv, PyData.eqvAll]
theorem dEq_nilT {neg : Bool} {xs : List D} (h : SeqAt.shaped (.tuple xs) = true) : dEq neg (.tuple xs) (.tuple []) = some (.bool (if neg then !xs.isEmpty else xs.isEmpty)) := by
  unfold dEq
  have h2 : SeqAt.shaped (.tuple []) = true := by decide
  simp only [h, h2, Bool.and_self, if_true]
  cases xs <;> simp [PyData.eqv, PyData.eqvAll]
theorem dRepr_ok {d : D} (h : Nt.okR d = true) : dRepr [d] = some (.str d.shown) := by
  unfold dRepr
  simp only [h, if_true]
theorem Pl.mono {fl : Bool} {d : D} : ∀ {ws vs : List Nat}, Pl fl ws d → Paired (fun a b => a ≤ b) ws vs → Pl fl vs d := by
  intro ws vs h
  induction h generalizing vs with
  | non => intro _; exact .non
  | bl b => intro _; exact .bl b
  | int hi => intro _; exact .int hi
  | str a b => intro _; exact .str a b
  | lst hf hl hx ih =>
    intro p
    cases p with
    | cons h1 h2 => exact .lst hf (Nat.le_trans hl h1) fun x hx => ih x hx h2
  | tup hl hx ih =>
    intro p
    cases p with
    | cons h1 h2 => exact .tup (Nat.le_trans hl h1) fun x hx => ih x hx h2
  | dic hf => intro _; exact .dic hf
end Nt

/-! slices and sorting of plain lists -/
namespace Nt
open PySem L2
theorem cut_to {α : Type} (xs : List α) {r : Int} (h0 : 0 ≤ r) : cutD xs none (some r) = xs.take r.toNat := by
  obtain ⟨k, rfl⟩ := Int.eq_ofNat_of_zero_le h0
  unfold cutD
  rw [HT.sIx_none, HT.sIx_nat, List.drop_zero, Nat.sub_zero, Int.toNat_natCast, List.take_eq_take_iff]
  omega
theorem cut_from {α : Type} (xs : List α) {r : Int} (h0 : 0 ≤ r) : cutD xs (some r) none = xs.drop r.toNat := by
  obtain ⟨k, rfl⟩ := Int.eq_ofNat_of_zero_le h0
  unfold cutD
  rw [HT.sIx_none, HT.sIx_nat, Int.toNat_natCast]
  by_cases h : k ≤ xs.length
  · rw [Nat.min_eq_left h]
    exact List.take_of_length_le (by rw [List.length_drop]; omega)
  · rw [Nat.min_eq_right (by omega), List.drop_eq_nil_of_le (Nat.le_refl _), List.drop_eq_nil_of_le (by omega), List.take_nil]
theorem le_int (a b : Int) : PySem.W.dataLe false id (PyData.int a) (PyData.int b) = decide (a ≤ b) := by
  have := congrFun (congrFun (PySem.W.dataLe_int (β := Int) id) a) b
  exact this
theorem okSort_ints (ns : List Int) : okSort (ns.map PyData.int) = true := by
  unfold okSort
  rw [Bool.and_eq_true, Bool.and_eq_true]
  refine ⟨⟨?_, ?_⟩, ?_⟩
  · rw [List.all_eq_true]
    intro d hd
    rw [List.all_eq_true]
    intro e he
    obtain ⟨a, _, rfl⟩ := List.mem_map.mp hd
    obtain ⟨b, _, rfl⟩ := List.mem_map.mp he
    simp [PySem.W.alike]
  · rw [Bool.or_eq_true]
    right
    rw [List.all_eq_true]
    intro d hd
    obtain ⟨a, _, rfl⟩ := List.mem_map.mp hd
    rfl
  · rw [List.all_eq_true]
    intro d hd
    obtain ⟨a, _, rfl⟩ := List.mem_map.mp hd
    rfl
def sortI (ns : List Int) : List Int := ns.mergeSort (fun a b => decide (a ≤ b))
theorem dSorted_ints (ns : List Int) : dSorted (ns.map PyData.int) = (sortI ns).map PyData.int := by
  unfold dSorted sortI
  rw [List.map_mergeSort]
  intro a _ b _
  exact (le_int a b).symm
theorem sortedC_l (ns : List Int) : dSortedC [.list (ns.map PyData.int)] = some (.list ((sortI ns).map PyData.int)) := by
  unfold dSortedC
  simp only [okSort_ints, if_true, dSorted_ints]
theorem sortedC_t (ns : List Int) : dSortedC [.tuple (ns.map PyData.int)] = some (.list ((sortI ns).map PyData.int)) := by
  unfold dSortedC
  simp only [okSort_ints, if_true, dSorted_ints]
theorem sortI_two (a b : Int) : sortI [a, b] = if a ≤ b then [a, b] else [b, a] := by
  unfold sortI
  by_cases h : a ≤ b
  · simp [List.mergeSort, List.MergeSort.Internal.splitInTwo, List.merge, h]
  · simp [List.mergeSort, List.MergeSort.Internal.splitInTwo, List.merge, h]
theorem sortI_mem (ns : List Int) (x : Int) : x ∈ sortI ns ↔ x ∈ ns := by
  unfold sortI
  exact (List.mergeSort_perm ns _).mem_iff
/-- lists in strict order with the same things are the same -/
theorem strict_eq : ∀ {xs ys : List Int}, xs.Pairwise (· < ·) → ys.Pairwise (· < ·) → (∀ x, x ∈ xs ↔ x ∈ ys) → xs = ys
  | [], [], _, _, _ => rfl
  | [], y :: ys, _, _, h => absurd ((h y).mpr List.mem_cons_self) (by simp)
  | x :: xs, [], _, _, h => absurd ((h x).mp List.mem_cons_self) (by simp)
  | x :: xs, y :: ys, hx, hy, h => by
    rw [List.pairwise_cons] at hx hy
    have e : x = y := by
      have h1 := (h x).mp List.mem_cons_self
      have h2 := (h y).mpr List.mem_cons_self
      rcases List.mem_cons.mp h1 with z | z
      · exact z
      · rcases List.mem_cons.mp h2 with w | w
        · exact w.symm
        · have := hx.1 y w
          have := hy.1 x z
          omega
    subst e
    rw [strict_eq hx.2 hy.2 fun z => ?_]
    constructor
    · intro hz
      rcases List.mem_cons.mp ((h z).mp (List.mem_cons_of_mem _ hz)) with w | w
      · have := hx.1 z hz; omega
      · exact w
    · intro hz
      rcases List.mem_cons.mp ((h z).mpr (List.mem_cons_of_mem _ hz)) with w | w
      · have := hy.1 z hz; omega
      · exact w
theorem sortI_strict {ns : List Int} (h : ns.Nodup) : (sortI ns).Pairwise (· < ·) := by
  have h1 : (sortI ns).Pairwise (fun a b => decide (a ≤ b) = true) := List.pairwise_mergeSort (le := fun a b => decide (a ≤ b)) (fun a b c h1 h2 => by simp at h1 h2 ⊢; omega) (fun a b => by simp; omega) ns
  have h2 : (sortI ns).Nodup := (List.mergeSort_perm ns _).nodup_iff.mpr h
  have := h1.and h2
  exact this.imp fun ⟨a, b⟩ => by simp at a; omega
end Nt

/-! more of simp's rules: stores, lists in lists, places -/
namespace Nt
open PySem PyProof.Rows L2
variable {s0 : Sl} {ρ0 : Nt.Env} {i : Nat}
@[simp] theorem h2_ev (g : D → D → Option D) (fa fb : Nt.Env → Option D) : h2 g fa fb (s0 :: ρ0) = ob (fa (s0 :: ρ0)) fun x => ob (fb (s0 :: ρ0)) fun y => g x y := by
  unfold h2 ob
  cases fa (s0 :: ρ0) <;> cases fb (s0 :: ρ0) <;> rfl
@[simp] theorem mH_ev (f : Nt.Env → Option D) : mH f (s0 :: ρ0) = ob (f (s0 :: ρ0)) fun d => szI ((toV d).isSome = true) (some (d, (s0 :: ρ0))) := by
  unfold mH ob szI
  cases f (s0 :: ρ0) <;> rfl
@[simp] theorem toV_int (j : Int) : (toV (.int j)).isSome = true := id rfl
@[simp] theorem dIx_l (xs : List D) (j : Int) : dIx (.list xs) (.int j) = atI xs j := id rfl
@[simp] theorem dIx_t (xs : List D) (j : Int) : dIx (.tuple xs) (.int j) = atI xs j := id rfl
@[simp] theorem dAddI_ev (a b : Int) : dAddI (.int a) (.int b) = some (.int (a + b)) := id rfl
@[simp] theorem mNil2_ev : mNil2 (s0 :: ρ0) = some (.list [.list []], (s0 :: ρ0)) := id rfl
@[simp] theorem dDI_ev (k : Int) (ds : List (D × D)) : dDI true (.int k) (.dict ds) = some (.bool (!(lookD ds (.inl k)).isSome)) := id rfl
@[simp] theorem isN_int (k : Int) : dIsN true (.int k) .none = some (.bool true) := id rfl
@[simp] theorem isN_non : dIsN true .none .none = some (.bool false) := id rfl
@[simp] theorem truD_bool (b : Bool) : truD (.bool b) = some b := id rfl
def dRepL (d e : D) : Option D := match d, e with
  | .list ds, .int k => if k ≤ 16777216 ∧ -16777216 ≤ k ∧ ds.length * k.toNat ≤ 16777216 then some (.list (List.replicate k.toNat ds).flatten) else none
  | _, _ => none
@[simp] theorem mRepL_ev (oa ob' : Mo Opd) : mRepL oa ob' (s0 :: ρ0) = m2 rs1 dRepL oa ob' (s0 :: ρ0) := id rfl
@[simp] theorem dRepL_ev (ds : List D) (k : Int) : dRepL (.list ds) (.int k) = szI (k ≤ 16777216 ∧ -16777216 ≤ k ∧ ds.length * k.toNat ≤ 16777216) (some (.list (List.replicate k.toNat ds).flatten)) := id rfl
def stS (i : Nat) (ρ : Nt.Env) (d : D) : Sl → D → Option Out
  | .ow 1 (.list ds), .int j => ob (ixN ds.length j) fun j' => some (.nx (ρ.set i (.ow 1 (.list (ds.set j' d)))))
  | _, _ => none
@[simp] theorem stS_ow {ρ : Nt.Env} (d : D) (ds : List D) (j : Int) : stS i ρ d (.ow 1 (.list ds)) (.int j) = ob (ixN ds.length j) fun j' => some (.nx (ρ.set i (.ow 1 (.list (ds.set j' d))))) := id rfl
@[simp] theorem sStore_ev (f : Mo D) (fj : Nt.Env → Option D) : sStore i f fj (s0 :: ρ0) = ob (f (s0 :: ρ0)) fun p => ob p.2[i]? fun s => ob (fj p.2) (stS i p.2 p.1 s) := by
  unfold sStore ob
  cases f (s0 :: ρ0) with
  | none => rfl
  | some p =>
    obtain ⟨d, ρ1⟩ := p
    simp only [Option.bind_some]
    split
    · rename_i ds j e1 e2
      rw [e1, e2]
      simp only [Option.bind_some]
      show _ = (ixN ds.length j).bind _
      cases ixN ds.length j <;> rfl
    · rename_i h
      cases h1 : ρ1[i]? with
      | none => rfl
      | some s =>
        cases h2 : fj ρ1 with
        | none => rfl
        | some x =>
          simp only [Option.bind_some]
          unfold stS
          split
          · rename_i ds j; exact absurd h2 (h ds j h1)
          · rfl
@[simp] theorem mCallP_ev (m : Nat) (F : List D → Option D) (fs : Mo (List Opd)) : mCallP m F fs (s0 :: ρ0) = ob (fs (s0 :: ρ0)) fun p => ob (rsA rs p.2 p.1) fun ds => szI (ds.length = m) (ob (F ds) fun z => szI ((toV z).isSome = true) (some (z, p.2))) := by
  unfold mCallP ob szI
  cases fs (s0 :: ρ0) with
  | none => rfl
  | some p =>
    obtain ⟨os, ρ1⟩ := p
    simp only [Option.bind_some]
    cases rsA rs ρ1 os with
    | none => rfl
    | some ds =>
      simp only [Option.bind_some]
      split
      · cases F ds <;> rfl
      · rfl
@[simp] theorem mNe0_ev (f : Nt.Env → Option D) {ds : List D} (h : f (s0 :: ρ0) = some (.list ds)) : mNe0 f (s0 :: ρ0) = szI (SeqAt.shaped (.list ds) = true) (some (!ds.isEmpty, (s0 :: ρ0))) := by
  unfold mNe0
  rw [h]
  rfl
theorem ixN_nat {n : Nat} {v : Int} (h0 : 0 ≤ v) (h1 : v < n) : ixN n v = some v.toNat := by
  unfold ixN
  rw [if_pos h0, if_pos (by omega)]
theorem mIns2_ok {ρ : Nt.Env} {fj fk fe : Nt.Env → Option D} {ds es : List D} {j k : Nat} {d : D} (h0 : ρ[i]? = some (.ow 2 (.list ds))) (hj : fj ρ = some (.int (j : Nat))) (hk : fk ρ = some (.int (k : Nat))) (he : fe ρ = some d) (hd : ds[j]? = some (.list es)) (hs : (toV d).isSome = true) (hl : es.length < 16777216) (hk2 : k < 1000000000) :
    mIns2 i fj fk fe ρ = some (.none, ρ.set i (.ow 2 (.list (ds.set j (.list (insD es k d)))))) := by
  have hjl := (List.getElem?_eq_some_iff.mp hd).1
  unfold mIns2
  simp only [h0, hj, hk, he, ixN_nat (n := ds.length) (v := (j : Nat)) (by omega) (by omega), Int.toNat_natCast, hd, hs, hl]
  rw [if_pos ⟨trivial, trivial, by omega, by omega⟩]
theorem mRem2_ok {ρ : Nt.Env} {fj fe : Nt.Env → Option D} {ds : List D} {ns : List Int} {j : Nat} {k : Int} (h0 : ρ[i]? = some (.ow 2 (.list ds))) (hj : fj ρ = some (.int (j : Nat))) (he : fe ρ = some (.int k)) (hd : ds[j]? = some (.list (ns.map PyData.int))) (hm : k ∈ ns) :
    mRem2 i fj fe ρ = some (.none, ρ.set i (.ow 2 (.list (ds.set j (.list ((ns.erase k).map PyData.int)))))) := by
  have hjl := (List.getElem?_eq_some_iff.mp hd).1
  have hi : ints? (ns.map PyData.int) = some ns := by
    clear hd hm
    induction ns with
    | nil => rfl
    | cons n ns ih => show ((ints? (ns.map PyData.int)).map (n :: ·)) = _; rw [ih]; rfl
  unfold mRem2
  simp only [h0, hj, he, ixN_nat (n := ds.length) (v := (j : Nat)) (by omega) (by omega), Int.toNat_natCast, hd, hi, hm, if_true]
theorem mCallS1_ok {ρ : Nt.Env} {F : Nt.Env → Option (D × Nt.Env)} {fj : Nt.Env → Option D} {i0 : Nat} {s0 s0' : Sl} {ds es es' : List D} {j : Nat} {z : D} (h0 : ρ[i0]? = some s0) (h1 : ρ[i]? = some (.ow 2 (.list ds))) (hj : fj ρ = some (.int (j : Nat))) (hd : ds[j]? = some (.list es)) (hne : i0 ≠ i) (hr : (rs ρ (.sl i0)).isSome = true) (hF : F [s0, .ow 1 (.list es)] = some (z, [s0', .ow 1 (.list es')])) :
    mCallS1 F i0 i fj ρ = some (z, (ρ.set i0 s0').set i (.ow 2 (.list (ds.set j (.list es'))))) := by
  have hjl := (List.getElem?_eq_some_iff.mp hd).1
  unfold mCallS1
  simp only [h0, h1, hj, ixN_nat (n := ds.length) (v := (j : Nat)) (by omega) (by omega), Int.toNat_natCast, hd]
  rw [if_pos ⟨hne, hr⟩]
  simp only [hF]
theorem ints?_map (ns : List Int) : ints? (ns.map PyData.int) = some ns := by
  induction ns with
  | nil => rfl
  | cons n ns ih => show ((ints? (ns.map PyData.int)).map (n :: ·)) = _; rw [ih]; rfl
theorem dIdx_l {ns : List Int} {k : Int} (h : k ∈ ns) : dIdx (.list (ns.map PyData.int)) (.int k) = some (.int (ns.idxOf k : Nat)) := by
  unfold dIdx
  simp only [ints?_map, h, if_true]
theorem dIdx_t {ns : List Int} {k : Int} (h : k ∈ ns) : dIdx (.tuple (ns.map PyData.int)) (.int k) = some (.int (ns.idxOf k : Nat)) := by
  unfold dIdx
  simp only [ints?_map, h, if_true]
end Nt

/-! a list against [], a tuple against (): whatever stands in it; rules for the new forms -/
namespace Nt
open PySem PySem.Spec PyProof.Rows L2
def rEq0 (K : PySem.W.Frag) : R2 := fun x y H Q => ∃ a b xs, x = .ref a ∧ y = .ref b ∧ ((SqL K H a xs ∧ SqL K H b []) ∨ (SqT K H a xs ∧ SqT K H b [])) ∧ Q (.bl xs.isEmpty) H
section
variable {X : Cx} {k n m : Nat} {e a b c d : Expr} {pos p p2 p3 : Pos} {oa ob oc od : Mo Opd}
theorem op_eq0 (hu : X.A.units < cLine) : OpR X (compareOp .Eq) (rEq0 X.K) := fun ps s σ H x y v u Q I rx ry ⟨a, b, xs, ex, ey, h, q⟩ => by
  subst ex ey
  cases rx; cases ry
  rcases h with ⟨ha, hb⟩ | ⟨ha, hb⟩
  · obtain ⟨us, ru, pu, _⟩ := I.list ha
    obtain ⟨ws, rw_, pw, _⟩ := I.list hb
    cases rw_
    cases ru with
    | nil => exact SeqAt.eq_listAt (e := fun _ => true) pu.isList pw.isList rfl hu (fun j h1 => by simp at h1) ⟨.bl true, H, I, rfl, q⟩
    | cons r t => exact SeqAt.eq_list_lengthsAt pu.isList pw.isList (by simp) hu ⟨.bl false, H, I, rfl, q⟩
  · obtain ⟨us, ru, pu, _⟩ := I.tuple ha
    obtain ⟨ws, rw_, pw, _⟩ := I.tuple hb
    cases rw_
    refine SeqAt.eq_tupleAt (e := fun _ => true) (show s.heap.IsTuple a us.toArray from pu) (show s.heap.IsTuple b (([] : List Value).toArray) from pw) hu (fun j _ h2 => by simp at h2) ⟨.bl xs.isEmpty, H, I, ?_, q⟩
    cases ru with
    | nil => rfl
    | cons r t => exact congrArg Value.bool (by simp)
def dEq0 (d e : D) : Option D := match d, e with
  | .list xs, .list [] => some (.bool xs.isEmpty)
  | .tuple xs, .tuple [] => some (.bool xs.isEmpty)
  | _, _ => none
theorem isEmpty_of {α β : Type} {xs : List α} {ys : List β} (h : xs.length = ys.length) : xs.isEmpty = ys.isEmpty := by
  cases xs <;> cases ys <;> simp_all
theorem re_eq0 {K : PySem.W.Frag} {ta tb : TE} (ha : RO K ta oa) (hb : RO K tb ob) : RE K (tOp (rEq0 K) ta tb) (m2 rs dEq0 oa ob) := re_op ha hb fun H v w d e z r1 r2 hz => by
  unfold dEq0 at hz
  split at hz
  · cases hz
    obtain ⟨a, vs, rfl, h1, p1⟩ := r1.list'
    obtain ⟨b, ws, rfl, h2, p2⟩ := r2.list'
    cases p2
    exact ⟨_, rfl, fun Q q => ⟨a, b, vs, rfl, rfl, .inl ⟨SqL.of h1, SqL.of h2⟩, by rw [isEmpty_of p1.length]; exact q⟩⟩
  · cases hz
    obtain ⟨a, vs, rfl, h1, p1⟩ := r1.tuple'
    obtain ⟨b, ws, rfl, h2, p2⟩ := r2.tuple'
    cases p2
    exact ⟨_, rfl, fun Q q => ⟨a, b, vs, rfl, rfl, .inr ⟨h1, h2⟩, by rw [isEmpty_of p1.length]; exact q⟩⟩
  · cases hz
theorem g_eq0 (cx : Cok X k) (ha : GO X a oa) (hb : GO X b ob) : GE X (.Compare a [.Eq] [b] p) (m2 rs dEq0 oa ob) := mkE (pe_cmpR (op_eq0 (by have := cx.un; omega)) ha hb (nomark b)) (re_eq0 xO xO)
theorem q_eq0 (cx : Cok X k) (ha : GO X a oa) (hb : GO X b ob) : GT X (.Compare a [.Eq] [b] p) (mTest (m2 rs dEq0 oa ob)) := mkT (pt_cmpR (op_eq0 (by have := cx.un; omega)) ha hb (nomark b)) (rt_test (re_eq0 xO xO))
end
variable {s0 : Sl} {ρ0 : Nt.Env}
def zpS : List Opd → Option (List D)
  | [.val (.list xs), .val (.list ys)] => some (zipD xs ys)
  | _ => none
@[simp] theorem zpS_ev (xs ys : List D) : zpS [.val (.list xs), .val (.list ys)] = some (zipD xs ys) := id rfl
@[simp] theorem iZp_ev (fs : Mo (List Opd)) : iZp fs (s0 :: ρ0) = ob (fs (s0 :: ρ0)) fun p => ob (zpS p.1) fun ds => some (ds, p.2) := by
  unfold iZp ob zpS
  cases fs (s0 :: ρ0) with
  | none => rfl
  | some p =>
    obtain ⟨o, ρ1⟩ := p
    simp only [Option.bind_some]
    split
    · rename_i e; cases e; rfl
    · rename_i h1
      split
      · rename_i xs ys; exact absurd rfl (h1 xs ys ρ1)
      · rfl
theorem mChainT_eq (g g' : D → D → Option D) (b : Opd) (fc fd : Mo Opd) (ρ : Nt.Env) : mChainT g g' b fc fd ρ = ob (fc ρ) fun p => ob (rs p.2 b) fun x => ob (rs p.2 p.1) fun y => ob (g x y) fun z => ob (bS z) fun k =>
    br k (ob (fd p.2) fun r => ob (rs r.2 p.1) fun y' => ob (rs r.2 r.1) fun z' => ob (g' y' z') fun u => ob (bS u) fun k => some (.bool k, r.2)) (some (.bool false, p.2)) := by
  unfold mChainT ob
  cases fc ρ with
  | none => rfl
  | some p =>
    obtain ⟨o, ρ1⟩ := p
    simp only [Option.bind_some]
    cases rs ρ1 b with
    | none => rfl
    | some x =>
      cases rs ρ1 o with
      | none => rfl
      | some y =>
        simp only [Option.bind_some]
        cases g x y with
        | none => rfl
        | some z =>
          cases z <;> try rfl
          rename_i k
          cases k
          · rfl
          · show (match fd ρ1 with | none => none | some (c, ρ3) => _) = (fd ρ1).bind _
            cases fd ρ1 with
            | none => rfl
            | some r =>
              obtain ⟨o3, ρ3⟩ := r
              simp only [Option.bind_some]
              cases rs ρ3 o with
              | none => rfl
              | some y' =>
                cases rs ρ3 o3 with
                | none => rfl
                | some z' =>
                  simp only [Option.bind_some]
                  cases g' y' z' with
                  | none => rfl
                  | some u => cases u <;> rfl
@[simp] theorem mChain3_ev (g g' g'' : D → D → Option D) (fa fb fc fd : Mo Opd) : mChain3 g g' g'' fa fb fc fd (s0 :: ρ0) = ob (fa (s0 :: ρ0)) fun p => ob (fb p.2) fun q => ob (rs q.2 p.1) fun x => ob (rs q.2 q.1) fun y => ob (g x y) fun z => ob (bS z) fun k =>
    br k (ob (fc q.2) fun p3 => ob (rs p3.2 q.1) fun x => ob (rs p3.2 p3.1) fun y => ob (g' x y) fun z => ob (bS z) fun k =>
      br k (ob (fd p3.2) fun r => ob (rs r.2 p3.1) fun y' => ob (rs r.2 r.1) fun z' => ob (g'' y' z') fun u => ob (bS u) fun k => some (.bool k, r.2)) (some (.bool false, p3.2))) (some (.bool false, q.2)) := by
  unfold mChain3 ob
  cases fa (s0 :: ρ0) with
  | none => rfl
  | some p =>
    obtain ⟨o, ρ1⟩ := p
    simp only [Option.bind_some]
    cases fb ρ1 with
    | none => rfl
    | some q =>
      obtain ⟨o2, ρ2⟩ := q
      simp only [Option.bind_some]
      cases rs ρ2 o with
      | none => rfl
      | some x =>
        cases rs ρ2 o2 with
        | none => rfl
        | some y =>
          simp only [Option.bind_some]
          cases g x y with
          | none => rfl
          | some z =>
            cases z <;> try rfl
            rename_i k
            cases k
            · rfl
            · exact mChainT_eq g' g'' o2 fc fd ρ2
def gtS (k1 k2 : Str) (i1 i2 i : Int) : D → Option Int
  | .str x => some (if x = k1 then i1 else if x = k2 then i2 else i)
  | _ => none
@[simp] theorem gtS_ev (k1 k2 : Str) (i1 i2 i : Int) (x : Str) : gtS k1 k2 i1 i2 i (.str x) = some (if x = k1 then i1 else if x = k2 then i2 else i) := id rfl
@[simp] theorem mDGet2_ev (k1 k2 : Str) (i1 i2 i : Int) (fa : Mo Opd) : mDGet2 k1 k2 i1 i2 i fa (s0 :: ρ0) = ob (fa (s0 :: ρ0)) fun p => ob (rs p.2 p.1) fun d => ob (gtS k1 k2 i1 i2 i d) fun j => some (.int j, p.2) := by
  unfold mDGet2 ob gtS
  cases fa (s0 :: ρ0) with
  | none => rfl
  | some p =>
    obtain ⟨o, ρ1⟩ := p
    simp only [Option.bind_some]
    cases rs ρ1 o with
    | none => rfl
    | some d => cases d <;> rfl
def ssS : D → Option D
  | .tuple ds => ob (asInts ds) fun ns => szI (ns.length < 60) (some (.list ((setI ns).map PyData.int)))
  | _ => none
theorem ssS_ev (ns : List Int) (h : ns.length < 60) : ssS (.tuple (ns.map PyData.int)) = some (.list ((setI ns).map PyData.int)) := by
  show ob (asInts (ns.map PyData.int)) _ = _
  rw [asInts_map, ob_some]
  exact if_pos h
@[simp] theorem mSrtSet_ev (fa : Mo Opd) : mSrtSet fa (s0 :: ρ0) = ob (fa (s0 :: ρ0)) fun p => ob (rs p.2 p.1) fun d => ob (ssS d) fun z => some (z, p.2) := by
  unfold mSrtSet ob ssS szI
  cases fa (s0 :: ρ0) with
  | none => rfl
  | some p =>
    obtain ⟨o, ρ1⟩ := p
    simp only [Option.bind_some]
    cases rs ρ1 o with
    | none => rfl
    | some d =>
      cases d <;> try rfl
      rename_i ds
      simp only [Option.bind_some]
      unfold ob
      cases asInts ds with
      | none => rfl
      | some ns =>
        simp only [Option.bind_some]
        split <;> rfl
@[simp] theorem dEq0_l (xs : List D) : dEq0 (.list xs) (.list []) = some (.bool xs.isEmpty) := rfl
@[simp] theorem dEq0_t (xs : List D) : dEq0 (.tuple xs) (.tuple []) = some (.bool xs.isEmpty) := rfl
end Nt

/-! zip(t, u, strict=True) of two tuples of one length -/
namespace Nt
open PySem PySem.Spec PyProof.Rows L2 RZ
abbrev IsZipS (h : Heap) (z TI TO : Addr) (f0 : Value) : Prop := h.get? z = some { cls := .type "zip", data := .fields #[f0, .bool false, .bool true, .ref TI, .ref TO] }
section
variable {prog : Program} {w : World} {A : Around} {E : Value → Shared → Prop} {s : Shared}
theorem nextOrEnd_item {it l : Addr} {i : Nat} {items : Array Value} {x : Value} {Q : Option Value → Shared → Prop} (hit : s.heap.IsTupleIter it l i) (hl : s.heap.IsTuple l items) (hx : items[i]? = some x)
    (hQ : ∀ h', h'.IsTupleIter it l (i + 1) → Heap.SameBut it s.heap h' → Q (some x) { s with heap := h' }) : wpAny (model prog w) A (Builtin.SmallTypes.nextOrEnd (.ref it)) Q E s := by
  unfold Builtin.SmallTypes.nextOrEnd
  exact wpAny_bind (wpAny_attempt (nextOf_tuple_item hit hl hx fun h' a b => wpAny_pure (hQ h' a b)))
theorem nextOrEnd_end {it l : Addr} {i : Nat} {items : Array Value} {Q : Option Value → Shared → Prop} (hh : A.handled = none) (hit : s.heap.IsTupleIter it l i) (hl : s.heap.IsTuple l items) (hx : items[i]? = none)
    (hQ : ∀ h', Heap.ExtBut it s.heap h' → Q none { s with heap := h' }) : wpAny (model prog w) A (Builtin.SmallTypes.nextOrEnd (.ref it)) Q E s := by
  unfold Builtin.SmallTypes.nextOrEnd
  refine wpAny_bind (wpAny_attempt (nextOf_tuple_end hh hit hl hx fun h' e hk he => ?_))
  obtain ⟨o, ho, hc⟩ := he
  refine wpAny_bind (wpAny_isInstance (T := "StopIteration") (b := true) ⟨o, ho, hc⟩ isSubtype_stop ?_)
  exact wpAny_pure (hQ _ hk)
theorem zipS_item {z TI TO i1 i2 l1 l2 : Addr} {k1 k2 : Nat} {xs ys : Array Value} {x y a b : Value} {Q : Value → Shared → Prop} (D : ZipApart z TI TO i1 i2 l1 l2)
    (hz : IsZipS s.heap z TI TO .none) (hTI : IsPair s.heap TI (.ref i1) (.ref i2)) (hTO : IsPair s.heap TO a b)
    (h1 : s.heap.IsTupleIter i1 l1 k1) (h2 : s.heap.IsTupleIter i2 l2 k2) (hl1 : s.heap.IsTuple l1 xs) (hl2 : s.heap.IsTuple l2 ys) (hx : xs[k1]? = some x) (hy : ys[k2]? = some y)
    (hQ : ∀ h', IsZipS h' z TI TO (rawInt s.heap.objs.size) → IsPair h' TO x y → h'.IsTupleIter i1 l1 (k1 + 1) → h'.IsTupleIter i2 l2 (k2 + 1) → IsPair h' s.heap.objs.size x y → h'.objs.size = s.heap.objs.size + 1 →
      (∀ c o, c ≠ z → c ≠ TO → c ≠ i1 → c ≠ i2 → s.heap.get? c = some o → h'.get? c = some o) → Q (.ref s.heap.objs.size) { s with heap := h' }) :
    wpAny (model prog w) A (Builtin.«zip.__next__» ⟨[.ref z], []⟩) (fun fin s' => ∃ v, fin = .done (.ret v) ∧ Q v s') E s := by
  show wpAny _ _ (field (.ref z) 2 >>= _) _ _ _
  refine wpAny_bind (wpAny_field hz rfl (x := .bool true) rfl ?_)
  show wpAny _ _ (field (.ref z) 3 >>= _) _ _ _
  refine wpAny_bind (wpAny_field hz rfl (x := .ref TI) rfl ?_)
  refine wpAny_bind (wpAny_seqItems hTI rfl ?_)
  show wpAny _ _ (Builtin.SmallTypes.ownedTupleIsFree (.ref z) >>= _) _ _ _
  refine wpAny_bind ?_
  unfold Builtin.SmallTypes.ownedTupleIsFree
  refine wpAny_bind (wpAny_field hz rfl (x := .none) rfl (wpAny_pure ?_))
  simp only [if_true]
  refine wpAny_bind (wpAny_rule ?_)
  refine wpAny_bind (wpAny_field hz rfl (x := .ref TO) rfl ?_)
  refine wpAny_bind (wpAny_setField_rec hz (by simp) fun h₁ hz₁ hs₁ => ?_)
  replace hz₁ : IsZipS h₁ z TI TO .ellipsis := hz₁
  refine wpAny_bind ?_
  simp only [List.zipIdx_cons, List.zipIdx_nil, List.forIn_cons, List.forIn_nil]
  refine wpAny_bind (wpAny_bind (wpAny_onRaise ?_))
  show wpAny _ _ (Builtin.SmallTypes.nextOrEnd (.ref i1)) _ _ _
  refine nextOrEnd_item (h1.extBut hs₁.extBut D.i1z) (hl1.extBut hs₁.extBut D.l1z) hx fun h₂ h1₂ hs₂ => ?_
  have hTO₂ : IsPair h₂ TO a b := hs₂.extBut _ _ D.TOi1 (hs₁.extBut _ _ D.TOz hTO)
  refine wpAny_bind (wpAny_seqItems hTO₂ rfl ?_)
  refine wpAny_bind (wpAny_updateSeq_pair hTO₂ fun h₃ hTO₃ hs₃ => ?_)
  replace hTO₃ : IsPair h₃ TO x b := hTO₃
  refine wpAny_bind (wpAny_letGo (wpAny_pure ?_))
  refine wpAny_bind (wpAny_bind (wpAny_onRaise ?_))
  show wpAny _ _ (Builtin.SmallTypes.nextOrEnd (.ref i2)) _ _ _
  refine nextOrEnd_item (((h2.extBut hs₁.extBut D.i2z).extBut hs₂.extBut D.i12.symm).extBut hs₃.extBut D.TOi2.symm)
    (((hl2.extBut hs₁.extBut D.l2z).extBut hs₂.extBut D.l2i1).extBut hs₃.extBut D.l2TO) hy fun h₄ h2₄ hs₄ => ?_
  have hTO₄ : IsPair h₄ TO x b := hs₄.extBut _ _ D.TOi2 hTO₃
  refine wpAny_bind (wpAny_seqItems hTO₄ rfl ?_)
  refine wpAny_bind (wpAny_updateSeq_pair hTO₄ fun h₅ hTO₅ hs₅ => ?_)
  replace hTO₅ : IsPair h₅ TO x y := hTO₅
  refine wpAny_bind (wpAny_letGo (wpAny_pure (wpAny_pure ?_)))
  refine wpAny_bind (wpAny_seqItems hTO₅ rfl ?_)
  refine wpAny_bind (wpAny_newTuple ?_)
  have hsz : h₅.objs.size = s.heap.objs.size := by rw [hs₅.1, hs₄.1, hs₃.1, hs₂.1, hs₁.1]
  have hz₅ : IsZipS h₅ z TI TO .ellipsis := hs₅.extBut _ _ D.TOz.symm (hs₄.extBut _ _ D.i2z.symm (hs₃.extBut _ _ D.TOz.symm (hs₂.extBut _ _ D.i1z.symm hz₁)))
  have hk₅ : ∀ c o, c ≠ z → c ≠ TO → c ≠ i1 → c ≠ i2 → s.heap.get? c = some o → h₅.get? c = some o := fun c o c1 c2 c3 c4 e =>
    hs₅.extBut _ _ c2 (hs₄.extBut _ _ c4 (hs₃.extBut _ _ c2 (hs₂.extBut _ _ c3 (hs₁.extBut _ _ c1 e))))
  have h1₅ : h₅.IsTupleIter i1 l1 (k1 + 1) := ((h1₂.extBut hs₃.extBut D.TOi1.symm).extBut hs₄.extBut D.i12).extBut hs₅.extBut D.TOi1.symm
  have h2₅ : h₅.IsTupleIter i2 l2 (k2 + 1) := h2₄.extBut hs₅.extBut D.TOi2.symm
  have hzlt : z < h₅.objs.size := Heap.lt_size hz₅
  show wpAny _ _ (Builtin.SmallTypes.ownedTupleHandOut (.ref z) (.ref h₅.objs.size) >>= _) _ _ _
  refine wpAny_bind ?_
  unfold Builtin.SmallTypes.ownedTupleHandOut
  have hz₆ : IsZipS (h₅.push { cls := .type "tuple", data := .seq #[x, y] }) z TI TO .ellipsis := Heap.get?_push_of_some _ hz₅
  refine wpAny_bind (wpAny_setField_rec hz₆ (by simp) fun h₇ hz₇ hs₇ => ?_)
  replace hz₇ : IsZipS h₇ z TI TO (rawInt h₅.objs.size) := hz₇
  refine wpAny_setField_rec hz₇ (by simp) fun h₈ hz₈ hs₈ => ?_
  replace hz₈ : IsZipS h₈ z TI TO (rawInt h₅.objs.size) := hz₈
  have up : ∀ c o, c ≠ z → h₅.get? c = some o → h₈.get? c = some o := fun c o c1 e => hs₈.extBut _ _ c1 (hs₇.extBut _ _ c1 (Heap.get?_push_of_some _ e))
  have hT₈ : IsPair h₈ h₅.objs.size x y := hs₈.extBut _ _ (Nat.ne_of_gt hzlt) (hs₇.extBut _ _ (Nat.ne_of_gt hzlt) (Heap.get?_push_size _ rfl))
  have hz8 : h₈.objs.size = h₅.objs.size + 1 := by rw [hs₈.1, hs₇.1, Heap.size_push]
  rw [hsz] at hz₈ hT₈ hz8
  refine wpAny_pure ⟨_, rfl, ?_⟩
  show Q (.ref h₅.objs.size) _
  rw [hsz]
  exact hQ h₈ hz₈ (up _ _ D.TOz hTO₅) (h1₅.at fun o e => up _ o D.i1z e) (h2₅.at fun o e => up _ o D.i2z e) hT₈ hz8 fun c o c1 c2 c3 c4 e => up c o c1 (hk₅ c o c1 c2 c3 c4 e)
theorem zipS_end {z TI TO i1 i2 l1 l2 : Addr} {k1 k2 : Nat} {xs ys : Array Value} {a b : Value} {Q : Fin → Shared → Prop} (hh : A.handled = none) (D : ZipApart z TI TO i1 i2 l1 l2)
    (hz : IsZipS s.heap z TI TO .none) (hTI : IsPair s.heap TI (.ref i1) (.ref i2)) (hTO : IsPair s.heap TO a b)
    (h1 : s.heap.IsTupleIter i1 l1 k1) (h2 : s.heap.IsTupleIter i2 l2 k2) (hl1 : s.heap.IsTuple l1 xs) (hl2 : s.heap.IsTuple l2 ys) (hx : xs[k1]? = none) (hy : ys[k2]? = none)
    (hE : ∀ h' e, (∀ c o, c ≠ z → c ≠ TO → c ≠ i1 → c ≠ i2 → s.heap.get? c = some o → h'.get? c = some o) → (∃ o, h'.get? e = some o ∧ o.cls = .type "StopIteration") → E (.ref e) { s with heap := h' }) :
    wpAny (model prog w) A (Builtin.«zip.__next__» ⟨[.ref z], []⟩) Q E s := by
  show wpAny _ _ (field (.ref z) 2 >>= _) _ _ _
  refine wpAny_bind (wpAny_field hz rfl (x := .bool true) rfl ?_)
  show wpAny _ _ (field (.ref z) 3 >>= _) _ _ _
  refine wpAny_bind (wpAny_field hz rfl (x := .ref TI) rfl ?_)
  refine wpAny_bind (wpAny_seqItems hTI rfl ?_)
  show wpAny _ _ (Builtin.SmallTypes.ownedTupleIsFree (.ref z) >>= _) _ _ _
  refine wpAny_bind ?_
  unfold Builtin.SmallTypes.ownedTupleIsFree
  refine wpAny_bind (wpAny_field hz rfl (x := .none) rfl (wpAny_pure ?_))
  simp only [if_true]
  refine wpAny_bind (wpAny_rule ?_)
  refine wpAny_bind (wpAny_field hz rfl (x := .ref TO) rfl ?_)
  refine wpAny_bind (wpAny_setField_rec hz (by simp) fun h₁ hz₁ hs₁ => ?_)
  replace hz₁ : IsZipS h₁ z TI TO .ellipsis := hz₁
  refine wpAny_bind ?_
  simp only [List.zipIdx_cons, List.zipIdx_nil, List.forIn_cons, List.forIn_nil]
  refine wpAny_bind (wpAny_bind (wpAny_onRaise ?_))
  show wpAny _ _ (Builtin.SmallTypes.nextOrEnd (.ref i1)) _ _ _
  refine nextOrEnd_end hh (h1.extBut hs₁.extBut D.i1z) (hl1.extBut hs₁.extBut D.l1z) hx fun h₂ hs₂ => ?_
  have hz₂ : IsZipS h₂ z TI TO .ellipsis := hs₂ _ _ D.i1z.symm hz₁
  refine wpAny_bind (wpAny_setField_rec hz₂ (by simp) fun h₃ hz₃ hs₃ => ?_)
  refine wpAny_bind ?_
  wp_delta
  rw [if_neg (by decide)]
  have q2 := ((h2.extBut hs₁.extBut D.i2z).extBut hs₂ D.i12.symm).extBut hs₃.extBut D.i2z
  have ql2 := ((hl2.extBut hs₁.extBut D.l2z).extBut hs₂ D.l2i1).extBut hs₃.extBut D.l2z
  simp only [List.drop_succ_cons, List.drop_zero, List.zipIdx_cons, List.zipIdx_nil, List.forIn_cons, List.forIn_nil]
  refine wpAny_bind (wpAny_bind (wpAny_bind (nextOrEnd_end hh q2 ql2 hy fun h₄ hs₄ => ?_)))
  show wpAny _ _ (pure (ForInStep.yield PUnit.unit)) _ _ _
  refine wpAny_pure (wpAny_pure ?_)
  refine wpAny_bind (wpAny_rule ?_)
  unfold Builtin.SmallTypes.stopIteration
  refine wpAny_bind ?_
  simp only [newExc, newTuple]
  refine wpAny_bind (wpAny_newObj_type ?_ (by size_fits))
  refine wpAny_bind (m := firstArgMember _ _) (wpAny_of_eq (a := Value.none) (by first | rfl | (simp only [firstArgMember]; rfl)) ?_)
  refine wpAny_newObj_type ?_ (by size_fits)
  simp only [raiseNew]
  refine wpAny_bind (wpAny_handled ?_)
  first | rw [show A.in1.handled = none from hh] | rw [hh]
  refine wpAny_bind (wpAny_pure (wpAny_throw ?_))
  refine hE _ _ (fun c o c1 _ c3 c4 x => ?_) ⟨_, Heap.get?_push_size _ rfl, rfl⟩
  exact ((hs₄.push _).push _) _ _ c4 (hs₃.extBut _ _ c1 (hs₂ _ _ c3 (hs₁.extBut _ _ c1 x)))
theorem pyNext_zipS_item {z TI TO i1 i2 l1 l2 : Addr} {k1 k2 : Nat} {xs ys : Array Value} {x y a b : Value} {Q : Option Value → Shared → Prop} (D : ZipApart z TI TO i1 i2 l1 l2)
    (hz : IsZipS s.heap z TI TO .none) (hTI : IsPair s.heap TI (.ref i1) (.ref i2)) (hTO : IsPair s.heap TO a b)
    (h1 : s.heap.IsTupleIter i1 l1 k1) (h2 : s.heap.IsTupleIter i2 l2 k2) (hl1 : s.heap.IsTuple l1 xs) (hl2 : s.heap.IsTuple l2 ys) (hx : xs[k1]? = some x) (hy : ys[k2]? = some y)
    (hQ : ∀ h', IsZipS h' z TI TO (rawInt s.heap.objs.size) → IsPair h' TO x y → h'.IsTupleIter i1 l1 (k1 + 1) → h'.IsTupleIter i2 l2 (k2 + 1) → IsPair h' s.heap.objs.size x y → h'.objs.size = s.heap.objs.size + 1 →
      (∀ c o, c ≠ z → c ≠ TO → c ≠ i1 → c ≠ i2 → s.heap.get? c = some o → h'.get? c = some o) → Q (some (.ref s.heap.objs.size)) { s with heap := h' }) :
    wpAny (model prog w) A (pyNext (.ref z)) Q E s := by
  have hT : s.TypeIs (.ref z) "zip" := ⟨_, hz, rfl⟩
  unfold pyNext
  exact wpAny_bind (wpAny_attempt (wpAny_callSpecial?_slot (name := Str.ofString "__next__") hT F.slot_zip_next
    (wpAny_call_entry F.slot_zip_next hT F.entry_zip_next
      (zipS_item D hz hTI hTO h1 h2 hl1 hl2 hx hy fun h' a1 a2 a3 a4 a5 a6 a7 => wpAny_pure (hQ h' a1 a2 a3 a4 a5 a6 a7)) (F.args_zip_next_1 _))))
theorem pyNext_zipS_end {z TI TO i1 i2 l1 l2 : Addr} {k1 k2 : Nat} {xs ys : Array Value} {a b : Value} {Q : Option Value → Shared → Prop} (hh : A.handled = none) (D : ZipApart z TI TO i1 i2 l1 l2)
    (hz : IsZipS s.heap z TI TO .none) (hTI : IsPair s.heap TI (.ref i1) (.ref i2)) (hTO : IsPair s.heap TO a b)
    (h1 : s.heap.IsTupleIter i1 l1 k1) (h2 : s.heap.IsTupleIter i2 l2 k2) (hl1 : s.heap.IsTuple l1 xs) (hl2 : s.heap.IsTuple l2 ys) (hx : xs[k1]? = none) (hy : ys[k2]? = none)
    (hQ : ∀ h', (∀ c o, c ≠ z → c ≠ TO → c ≠ i1 → c ≠ i2 → s.heap.get? c = some o → h'.get? c = some o) → Q none { s with heap := h' }) : wpAny (model prog w) A (pyNext (.ref z)) Q E s := by
  have hT : s.TypeIs (.ref z) "zip" := ⟨_, hz, rfl⟩
  unfold pyNext
  refine wpAny_bind (wpAny_attempt (wpAny_callSpecial?_slot (name := Str.ofString "__next__") hT F.slot_zip_next
    (wpAny_call_entry F.slot_zip_next hT F.entry_zip_next (zipS_end hh D hz hTI hTO h1 h2 hl1 hl2 hx hy fun h' e hk he => ?_) (F.args_zip_next_1 _))))
  obtain ⟨o, ho, hc⟩ := he
  refine wpAny_bind (wpAny_isInstance (T := "StopIteration") (b := true) ⟨o, ho, hc⟩ isSubtype_stop ?_)
  exact wpAny_pure (hQ _ hk)
theorem letOwned_zipS {elts : List Expr} {x1 : Nat} {pos : Pos} {z TI TO T : Addr} {Q : Unit → Shared → Prop} (hz : IsZipS s.heap z TI TO (rawInt T))
    (hQ : ∀ h', IsZipS h' z TI TO .none → Heap.SameBut z s.heap h' → Q () { s with heap := h' }) : wpAny (model prog w) A (letOwnedTupleGo (.Tuple elts x1 pos) (.ref z) (.ref T)) Q E s := by
  unfold letOwnedTupleGo
  refine wpAny_bind (wpAny_load hz ?_)
  show wpAny _ _ (if (["enumerate", "zip", "dict_itemiterator", "dict_reverseitemiterator", "odict_iterator", "itertools.zip_longest", "itertools.pairwise"].contains "zip" &&
      (#[rawInt T, .bool false, .bool true, .ref TI, .ref TO] : Array Value)[0]? == some (rawInt T)) = true then _ else _) Q E s
  rw [if_pos (by simp)]
  refine wpAny_bind (wpAny_rule ?_)
  show wpAny _ _ (setField (.ref z) 0 .none) Q E s
  exact wpAny_setField_rec hz (by simp) fun h' hz' hs' => hQ h' hz' hs'
theorem pyIter_zipS {z TI TO : Addr} {f0 : Value} {Q : Value → Shared → Prop} (hz : IsZipS s.heap z TI TO f0) (h : Q (.ref z) s) : wpAny (model prog w) A (pyIter (.ref z)) Q E s := by
  have hT : s.TypeIs (.ref z) "zip" := ⟨_, hz, rfl⟩
  refine wpAny_pyIter_slot hT F.slot_zip_iter (wpAny_call_entry F.slot_zip_iter hT F.entry_zip_iter ?_ (F.args_zip_iter_1 _))
  show wpAny _ _ (ret (.ref z)) _ _ s
  exact wpAny_pure ⟨_, rfl, "zip", _, hT, F.slot_zip_next.lookup, h⟩
end
theorem typeCall_zipS (a b c : Value) : checkTypeCall "zip" ⟨[a, b], [(Str.ofString "strict", c)]⟩ = pure () := by kernel_rfl
theorem newCall_zipS (a b c : Value) : checkBuiltinCall "zip.__new__" ⟨[.type "zip", a, b], [(Str.ofString "strict", c)]⟩ = pure () := by kernel_rfl
theorem args_initS (obj a b c : Value) : argsOk "object.__init__" ⟨[obj, a, b], [(Str.ofString "strict", c)]⟩ := by unfold argsOk; kernel_rfl
abbrev zipSH5 (h : Heap) (l1 l2 : Addr) : Heap := (zipTH4 h l1 l2).push { cls := .type "zip", data := .fields #[.none, .bool false, .bool true, .ref (zipTH2 h l1 l2).objs.size, .ref (zipTH3 h l1 l2).objs.size] }
theorem meets_zipS_new (l1 l2 : Addr) (xs ys : Array Value) :
    Meets (Builtin.«zip.__new__» ⟨[.type "zip", .ref l1, .ref l2], [(Str.ofString "strict", .bool true)]⟩) (fun _ R s => s.heap.IsTuple l1 xs ∧ s.heap.IsTuple l2 ys ∧
      R (.ok (.ret (.ref (zipTH4 s.heap l1 l2).objs.size))) { s with heap := zipSH5 s.heap l1 l2 }) :=
  .of_wp fun prog w A R s h => by
    obtain ⟨hp, g, d, tk, os⟩ := s; obtain ⟨hl1, hl2, h⟩ := h
    have hsub := sub_zip
    have hL1 : Heap.IsTuple (Shared.heap ⟨hp, g, d, tk, os⟩) l1 xs := hl1
    have hL2 : Heap.IsTuple (Shared.heap ⟨hp.push { cls := .type "tuple_iterator", data := .fields #[.ref l1, .int 0 0] }, g, d, tk, os⟩) l2 ys := Heap.IsTuple.push hl2 _
    have e1 : (Str.ofString "strict" == ("strict" : Str)) = true := by decide +kernel
    have e2 : (Str.ofString "strict" != ("strict" : Str)) = false := by decide +kernel
    wp_walk using wpAny_pyIter_tuple hL1, wpAny_pyIter_tuple hL2
    exact ⟨_, rfl, h⟩
section
variable {prog : Program} {w : World} {A : Around} {E : Value → Shared → Prop} {s : Shared}
theorem call_zipS {l1 l2 : Addr} {xs ys : Array Value} {Q : Value → Shared → Prop} (hl1 : s.heap.IsTuple l1 xs) (hl2 : s.heap.IsTuple l2 ys)
    (h : ∀ h', IsZipS h' (s.heap.objs.size + 4) (s.heap.objs.size + 2) (s.heap.objs.size + 3) .none → IsPair h' (s.heap.objs.size + 2) (.ref s.heap.objs.size) (.ref (s.heap.objs.size + 1)) →
      IsPair h' (s.heap.objs.size + 3) .none .none → h'.IsTupleIter s.heap.objs.size l1 0 → h'.IsTupleIter (s.heap.objs.size + 1) l2 0 → h'.objs.size = s.heap.objs.size + 5 →
      (∀ c o, s.heap.get? c = some o → h'.get? c = some o) → Q (.ref (s.heap.objs.size + 4)) { s with heap := h' }) :
    wpAny (model prog w) A (call (.type "zip") [.ref l1, .ref l2] [(Str.ofString "strict", .bool true)]) Q E s := by
  refine callType_newKw F.called_zip (by decide) (typeCall_zipS _ _ _) (newCall_zipS _ _ _) (fun obj => args_initS obj _ _ _) F.entry_zip_new
    (meets_zipS_new l1 l2 xs ys) ⟨hl1, hl2, ?_⟩
  have z1 : (zipTH1 s.heap l1).objs.size = s.heap.objs.size + 1 := Heap.size_push ..
  have z2 : (zipTH2 s.heap l1 l2).objs.size = s.heap.objs.size + 2 := by rw [Heap.size_push, z1]
  have z3 : (zipTH3 s.heap l1 l2).objs.size = s.heap.objs.size + 3 := by rw [Heap.size_push, z2]
  have z4 : (zipTH4 s.heap l1 l2).objs.size = s.heap.objs.size + 4 := by rw [Heap.size_push, z3]
  have z5 : (zipSH5 s.heap l1 l2).objs.size = s.heap.objs.size + 5 := by rw [Heap.size_push, z4]
  have g5 : (zipSH5 s.heap l1 l2).get? (zipTH4 s.heap l1 l2).objs.size = some _ := Heap.get?_push_size _ rfl
  have g4 : (zipSH5 s.heap l1 l2).get? (zipTH3 s.heap l1 l2).objs.size = some _ := Heap.get?_push_of_some _ (Heap.get?_push_size _ rfl)
  have g3 : (zipSH5 s.heap l1 l2).get? (zipTH2 s.heap l1 l2).objs.size = some _ := Heap.get?_push_of_some _ (Heap.get?_push_of_some _ (Heap.get?_push_size _ rfl))
  have g2 : (zipSH5 s.heap l1 l2).get? (zipTH1 s.heap l1).objs.size = some _ := Heap.get?_push_of_some _ (Heap.get?_push_of_some _ (Heap.get?_push_of_some _ (Heap.get?_push_size _ rfl)))
  have g1 : (zipSH5 s.heap l1 l2).get? s.heap.objs.size = some _ := Heap.get?_push_of_some _ (Heap.get?_push_of_some _ (Heap.get?_push_of_some _ (Heap.get?_push_of_some _ (Heap.get?_push_size _ rfl))))
  show _ ∧ _
  rw [z2, z3, z4] at g5
  rw [z1, z2] at g3
  rw [z3] at g4
  rw [z1] at g2
  rw [z4]
  exact ⟨⟨_, g5, rfl⟩, h _ g5 g3 g4 ⟨_, g1, rfl, rfl⟩ ⟨_, g2, rfl, rfl⟩ z5 fun c o x =>
    Heap.get?_push_of_some _ (Heap.get?_push_of_some _ (Heap.get?_push_of_some _ (Heap.get?_push_of_some _ (Heap.get?_push_of_some _ x))))⟩
end
/-- the tuples at a and b, of one length, their items in new pairs -/
def ItzS (K : PySem.W.Frag) (a b : Addr) : It :=
  ⟨fun i H => ∃ (xs ys : List V) (x y : V), SqT K H a xs ∧ SqT K H b ys ∧ xs[i]? = some x ∧ ys[i]? = some y,
    fun i H v H' => ∃ T x y o, v = .ref T ∧ H T = none ∧ o.dict = none ∧ H' = upd H T (.frz o (.tup [x, y])) ∧ (∀ xs, SqT K H a xs → xs[i]? = some x) ∧ ∀ ys, SqT K H b ys → ys[i]? = some y,
    fun i H => ∃ xs ys : List V, SqT K H a xs ∧ SqT K H b ys ∧ xs.length ≤ i ∧ ys.length ≤ i⟩
theorem turn_zipS {P : Program} {w : World} {K : PySem.W.Frag} {elts : List Expr} {kk : Nat} {tpos : Pos} {a b z TI TO i1 i2 : Addr} (D : ZipApart z TI TO i1 i2 a b) :
    Turn P w K (.Tuple elts kk tpos) (ItzS K a b) [z, TI, TO, i1, i2] z (fun i h => IsZipS h z TI TO .none ∧ IsPair h TI (.ref i1) (.ref i2) ∧ (∃ x y, IsPair h TO x y) ∧ h.IsTupleIter i1 a i ∧ h.IsTupleIter i2 b i) where
  mem := by simp
  obj := fun i h st c hc => by
    obtain ⟨hz, hTI, ⟨x, y, hTO⟩, ⟨o1, e1, _, d1⟩, ⟨o2, e2, _, d2⟩⟩ := st
    have e' : c = z ∨ c = TI ∨ c = TO ∨ c = i1 ∨ c = i2 := by simpa using hc
    rcases e' with q | q | q | q | q
    · rw [q]; exact ⟨_, hz, fun v q => nomatch q⟩
    · rw [q]; exact ⟨_, hTI, fun v q => nomatch q⟩
    · rw [q]; exact ⟨_, hTO, fun v q => nomatch q⟩
    · rw [q]; exact ⟨o1, e1, fun v q => by rw [d1] at q; cases q⟩
    · rw [q]; exact ⟨o2, e2, fun v q => by rw [d2] at q; cases q⟩
  keep := fun i h h' st k => by
    obtain ⟨hz, hTI, ⟨x, y, hTO⟩, h1, h2⟩ := st
    exact ⟨k z (by simp) _ hz, k TI (by simp) _ hTI, ⟨x, y, k TO (by simp) _ hTO⟩, h1.at fun o q => k i1 (by simp) o q, h2.at fun o q => k i2 (by simp) o q⟩
  item := by
    intro X hP hw hK hc i pins s σ H E I hf st hg
    subst hP hw hK
    obtain ⟨hz, hTI, ⟨x0, y0, hTO⟩, h1, h2⟩ := st
    obtain ⟨xs, ys, x, y, hqx, hqy, hx, hy⟩ := hg
    obtain ⟨its, rv, p, _⟩ := I.tuple hqx
    obtain ⟨its2, rv2, p2, _⟩ := I.tuple hqy
    obtain ⟨u, hu, ru⟩ := rv.get hx
    obtain ⟨u2, hu2, ru2⟩ := rv2.get hy
    have hzl : z < s.heap.objs.size := Heap.lt_size hz
    refine pyNext_zipS_item D hz hTI hTO h1 h2 (show s.heap.IsTuple a its.toArray from p) (show s.heap.IsTuple b its2.toArray from p2) (x := u) (y := u2) (by simpa using hu) (by simpa using hu2) fun h' z' TO' h1' h2' hT hsz hk => ?_
    refine ⟨_, rfl, letOwned_zipS (s := { s with heap := h' }) z' fun h'' z'' sb => ?_⟩
    have hT2 : h''.get? s.heap.objs.size = some { cls := .type "tuple", data := .seq #[u, u2] } := (sb.2 _ (Nat.ne_of_gt hzl)).trans hT
    have I1 : Inv X pins σ (upd H s.heap.objs.size (.frz (tupO #[u, u2]) (.tup [x, y]))) { s with heap := h'' } :=
      I.turnedNew (t' := s.toks) (ch := [z, TI, TO, i1, i2]) (fun c o hb q => (sb.2 c (fun q' => hb (by simp [q']))).trans (hk c o (fun q' => hb (by simp [q'])) (fun q' => hb (by simp [q'])) (fun q' => hb (by simp [q'])) (fun q' => hb (by simp [q'])) q)) hf (Nat.le_refl _) (tup_at (us := [u, u2]) (by show 2 ≤ sizeLine; decide) (.cons ru (.cons ru2 .nil)) hT2 rfl rfl)
    refine ⟨.ref s.heap.objs.size, _, I1, rfl, ⟨_, x, y, _, rfl, I.hok.fresh (Nat.le_refl _), rfl, rfl, fun l hl => by rw [I.tuple_inj hl hqx]; exact hx, fun l hl => by rw [I.tuple_inj hl hqy]; exact hy⟩, ⟨z'', ?_, ⟨u, u2, ?_⟩, ?_, ?_⟩, fun c hcm => ?_⟩
    · exact (sb.2 _ D.TIz).trans (hk _ _ D.TIz D.TITO D.TIi1 D.TIi2 hTI)
    · exact (sb.2 _ D.TOz).trans TO'
    · exact h1'.at fun o q => (sb.2 _ D.i1z).trans q
    · exact h2'.at fun o q => (sb.2 _ D.i2z).trans q
    · have hlt : c < s.heap.objs.size := by
        have e' : c = z ∨ c = TI ∨ c = TO ∨ c = i1 ∨ c = i2 := by simpa using hcm
        rcases e' with q | q | q | q | q
        · rw [q]; exact hzl
        · rw [q]; exact Heap.lt_size hTI
        · rw [q]; exact Heap.lt_size hTO
        · rw [q]; obtain ⟨_, e1, _⟩ := h1; exact Heap.lt_size e1
        · rw [q]; obtain ⟨_, e2, _⟩ := h2; exact Heap.lt_size e2
      rw [upd_ne (Nat.ne_of_lt hlt)]
      exact (hf c hcm).1
  done := by
    intro X hP hw hK hc i pins s σ H E I hf st hg
    subst hP hw hK
    obtain ⟨hz, hTI, ⟨x0, y0, hTO⟩, h1, h2⟩ := st
    obtain ⟨xs, ys, hqx, hqy, hend⟩ := hg
    obtain ⟨its, rv, p, _⟩ := I.tuple hqx
    obtain ⟨its2, rv2, p2, _⟩ := I.tuple hqy
    have l1 := rv.length
    have l2 := rv2.length
    exact pyNext_zipS_end (I.ok.hd hc) D hz hTI hTO h1 h2 (show s.heap.IsTuple a its.toArray from p) (show s.heap.IsTuple b its2.toArray from p2) (by simp; omega) (by simp; omega) fun h' hk => ⟨rfl, I.turnedL (t' := s.toks) (ch := [z, TI, TO, i1, i2]) (fun c o hb q =>
      hk c o (fun q' => hb (by simp [q'])) (fun q' => hb (by simp [q'])) (fun q' => hb (by simp [q'])) (fun q' => hb (by simp [q'])) q) hf⟩
  self := fun A i s Q E st h => pyIter_zipS st.1 h
end Nt

/-! zip(.., .., strict=True) in the text -/
namespace Nt
open PySem PySem.Spec PyProof.Rows L2 RZ
theorem callWith_typeKw {M : Model} {A : Around} {E : Value → Shared → Prop} {s : Shared} {pos : Pos} {T : String} {first : List Value} {args : List (Bool × Sem Value)} {keywords : List (Option Str × Sem Value)} {Q : Value → Shared → Prop}
    (hplain : args.any (·.1) = false) (hkw : keywords.any (·.1.isNone) = false)
    (h : wpAny M A (evalArgs (.type T) true args keywords) (fun a s₁ => wpAny M A (call (.type T) (first ++ a.pos) a.kw) Q E s₁) E s) :
    wpAny M A (callWith pos (.type T) first args keywords) Q E s := by
  unfold callWith
  refine wpAny_bind (wpAny_holding (wpAny_mono h (fun a s₁ h₁ => wpAny_bind (wpAny_standAt ?_)) fun _ _ x => x))
  simp only [hplain, hkw, Bool.or_false]
  refine wpAny_bind (wpAny_pure ?_)
  exact wpAny_bind (wpAny_mono h₁ (fun r s₂ hr => wpAny_bind (wpAny_holding (wpAny_point (wpAny_pure hr)))) fun _ _ x => x)
def iZipS (K : PySem.W.Frag) (ta : TA) : TI := fun σ H R => ta σ H fun vs H1 => ∃ a b xs ys, vs = [.ref a, .ref b] ∧ SqT K H1 a xs ∧ SqT K H1 b ys ∧ R (ItzS K a b) H1
theorem pi_zipS {X : Cx} {e e2 : Expr} {ta : TA} {p p3 p4 pos tpos : Pos} {elts : List Expr} {kk j : Nat} (hg : Gl X "zip") (hm : X.mg "zip" = none) (ha : PA X [e, e2] ta)
    (he : backTo pos (starEach [e, e2] X.env) = (false, eval e X.env) :: backTo pos (starEach [e2] X.env)) (hpl : (backTo pos (starEach [e, e2] X.env)).any (·.1) = false)
    (hall : (backToKw pos (keywordEach [⟨some (Str.ofString "strict"), .Constant (.bool true) j p3, p4⟩] X.env)).all (·.1.isSome) = true)
    (hnone : (backToKw pos (keywordEach [⟨some (Str.ofString "strict"), .Constant (.bool true) j p3, p4⟩] X.env)).any (·.1.isNone) = false)
    (hks : (backToKw pos (keywordEach [⟨some (Str.ofString "strict"), .Constant (.bool true) j p3, p4⟩] X.env)).filterMap (·.1) = [Str.ofString "strict"]) :
    PI X (.Tuple elts kk tpos) (.Call (.Name "zip" p) [e, e2] [⟨some (Str.ofString "strict"), .Constant (.bool true) j p3, p4⟩] pos) (iZipS X.K ta) := by
  refine ⟨fun pins s σ H R I h => ?_⟩
  refine wpAny_Call_Name_kw (ld_blt I hg hm PyProof.Rows.boot_zip ?_)
  refine callWith_typeKw hpl hnone ?_
  rw [he]
  refine evalArgs_kwB hall ?_
  rw [← he]
  refine thn (ha.run pos pins s σ H _ I h) fun us s1 ⟨vs, H1, I1, r1, q1⟩ => ?_
  have pk : PK X [⟨some (Str.ofString "strict"), .Constant (.bool true) j p3, p4⟩] (tCons (tC (.bl true)) tNil) := pk_cons pe_bl pk_nil
  refine thn (pk.run pos pins s1 σ H1 (fun zs H2 => zs = [.bl true] ∧ H2 = H1) I1 ⟨rfl, rfl⟩) fun ws s2 ⟨zs, H2, I2, r2, hz, hH⟩ => ?_
  subst hz hH
  rw [hks]
  obtain ⟨a, b, xs, ys, ex, hqx, hqy, q⟩ := q1
  subst ex
  obtain ⟨w1, ew, rw1⟩ := vals1 r2
  subst ew
  cases rw1
  cases r1 with
  | cons r rr =>
    cases rr with
    | cons r' rr =>
      cases rr
      cases r
      cases r'
      obtain ⟨its, rv, p1, _⟩ := I2.tuple hqx
      obtain ⟨its2, rv2, p2, _⟩ := I2.tuple hqy
      have la : a < s2.heap.objs.size := p1.lt
      have lb : b < s2.heap.objs.size := p2.lt
      refine call_zipS (show s2.heap.IsTuple a its.toArray from p1) (show s2.heap.IsTuple b its2.toArray from p2) fun h' hz hTI hTO h1 h2 hsz hk => pyIter_zipS hz ?_
      have I3 : Inv X pins σ H2 { s2 with heap := h' } := I2.kept (t' := s2.toks) hk
      refine ⟨s2.heap.objs.size + 4, [s2.heap.objs.size + 4, s2.heap.objs.size + 2, s2.heap.objs.size + 3, s2.heap.objs.size, s2.heap.objs.size + 1], _, _, H2, rfl, I3, turn_zipS (PySem.W.ktu_apart s2.heap.objs.size a b la lb), ⟨hz, hTI, ⟨_, _, hTO⟩, h1, h2⟩, fun c hcm => ?_, q⟩
      have e' : c = s2.heap.objs.size + 4 ∨ c = s2.heap.objs.size + 2 ∨ c = s2.heap.objs.size + 3 ∨ c = s2.heap.objs.size ∨ c = s2.heap.objs.size + 1 := by simpa using hcm
      have hle : s2.heap.objs.size ≤ c := by
        rcases e' with z | z | z | z | z <;> rw [z] <;> first | exact Nat.le_add_right _ _ | exact Nat.le_refl _
      exact I2.fpOk hle (I2.hok.fresh hle)
theorem Rp.tupleN {K : PySem.W.Frag} {G : Hp} {v : V} {ds : List D} (h : Rp K G v (.tuple ds)) : ∃ a vs, v = .ref a ∧ NdT G a vs ∧ RpA K G vs ds := by
  cases h with
  | tup g p => exact ⟨_, _, rfl, g, p⟩
def iZs (fs : Mo (List Opd)) : Mo (List D) := fun ρ => match fs ρ with
  | some ([.val (.tuple xs), .val (.tuple ys)], ρ1) => if xs.length = ys.length then some (zipD xs ys, ρ1) else none
  | _ => none
theorem ri_zipS {K : PySem.W.Frag} {ta : TA} {fs : Mo (List Opd)} (h : RA K ta fs) : RI K (iZipS K ta) (iZs fs) := fun ρ ds ρ' e σ G H fp S R q => by
  unfold iZs at e
  split at e
  · rename_i xs ys ρ1 e1
    split at e
    · rename_i hlen
      cases e
      refine h ρ _ _ e1 σ G H fp S _ fun vs G1 H1 fp1 st1 S1 ra => ?_
      cases ra with
      | cons r1 r2 =>
        cases r2 with
        | cons r2 r3 =>
        cases r3
        obtain ⟨a, ws, rfl, g1, p1⟩ := Rp.tupleN r1
        obtain ⟨b, us, rfl, g2, p2⟩ := Rp.tupleN r2
        refine ⟨a, b, ws, us, rfl, (g1.mono S1.sub).sqT, (g2.mono S1.sub).sqT, q _ G1 H1 fp1 st1 S1 fun G' H' s1 s2 i => ⟨fun d hd => ?_, fun hl => ?_⟩⟩
        · have e2 : SqT K H' a ws := ((g1.mono s1).mono s2).sqT
          have e3 : SqT K H' b us := ((g2.mono s1).mono s2).sqT
          obtain ⟨x, y, hx, hy, rfl⟩ := zipD_get hd
          obtain ⟨v, hv, rv⟩ := p1.get hx
          obtain ⟨w, hw, rw'⟩ := p2.get hy
          refine ⟨⟨ws, us, v, w, e2, e3, hv, hw⟩, fun z H2 hz => ?_⟩
          obtain ⟨T, x', y', o, rfl, hT, ho, rfl, hz1, hz2⟩ := hz
          have q1 := hz1 ws e2
          have q2 := hz2 us e3
          rw [hv] at q1; rw [hw] at q2
          cases q1; cases q2
          exact .inr ⟨T, _, hT, rfl, rp_pair2 ho (s2.none hT) (rv.mono s1) (rw'.mono s1)⟩
        · refine ⟨ws, us, ((g1.mono s1).mono s2).sqT, ((g2.mono s1).mono s2).sqT, ?_, ?_⟩
          · unfold zipD at hl
            rw [List.length_zipWith] at hl
            rw [p1.length]
            omega
          · unfold zipD at hl
            rw [List.length_zipWith] at hl
            rw [p2.length]
            omega
    · cases e
  · cases e
section
variable {X : Cx} {a b : Expr} {fs : Mo (List Opd)} {p p3 p4 pos tpos : Pos} {elts : List Expr} {kk j : Nat}
theorem i_zs (B : Bt X "zip") (h : GA X [a, b] fs)
    (he : backTo pos (starEach [a, b] X.env) = (false, eval a X.env) :: backTo pos (starEach [b] X.env) := by rfl) (hpl : (backTo pos (starEach [a, b] X.env)).any (·.1) = false := by rfl)
    (hall : (backToKw pos (keywordEach [⟨some (Str.ofString "strict"), .Constant (.bool true) j p3, p4⟩] X.env)).all (·.1.isSome) = true := by rfl)
    (hnone : (backToKw pos (keywordEach [⟨some (Str.ofString "strict"), .Constant (.bool true) j p3, p4⟩] X.env)).any (·.1.isNone) = false := by rfl)
    (hks : (backToKw pos (keywordEach [⟨some (Str.ofString "strict"), .Constant (.bool true) j p3, p4⟩] X.env)).filterMap (·.1) = [Str.ofString "strict"] := by rfl) :
    GI X (.Tuple elts kk tpos) (.Call (.Name "zip" p) [a, b] [⟨some (Str.ofString "strict"), .Constant (.bool true) j p3, p4⟩] pos) (iZs fs) := mkI (pi_zipS B.gl B.mg h he hpl hall hnone hks) (ri_zipS xA)
end
end Nt

/-! an expression that makes tuples alone, all names' data frozen while it runs -/
namespace Nt
open PySem PySem.Spec PyProof.Rows L2
mutual
/-- neither list nor dict -/
def noC : D → Bool
  | .none | .bool _ | .int _ | .str _ => true
  | .tuple xs => noCs xs
  | .list _ => false
  | .dict _ => false
def noCs : List D → Bool
  | [] => true
  | x :: xs => noC x && noCs xs
end
def frS : Sl → Sl
  | .ow _ d => .sh d
  | s => s
def mFrz (f : Mo D) : Mo D := fun ρ => match f (ρ.map frS) with
  | some (z, _) => if noC z = true then some (z, ρ) else none
  | none => none
section
variable {K : PySem.W.Frag} {G G' H : Hp}
theorem OwL.cell {P : V → D → List Addr → Prop} {R : Addr → Prop} {vs : List V} {ds : List D} {f : List Addr} (h : OwL P vs ds f) (q : ∀ v d g, P v d g → ∀ a ∈ g, R a) : ∀ a ∈ f, R a := h.all q
theorem Ow.cell : ∀ {n : Nat} {v : V} {d : D} {f : List Addr}, Ow K G H n v d f → ∀ a ∈ f, (∃ xs, H a = some (.lst xs)) ∨ ∃ ks, H a = some (.dK ks) := by
  intro n
  induction n with
  | zero => intro v d f h a ha; rw [h.1] at ha; cases ha
  | succ n ih =>
    intro v d f h b hb
    rcases h with ⟨_, e, _⟩ | ⟨a, vs, ds, g, e1, e2, e3, e4, r⟩ | ⟨a, ks, ds, g, e1, e2, e3, e4, e5, r⟩
    · rw [e] at hb; cases hb
    · subst e3
      rcases List.mem_cons.mp hb with e | hb
      · subst e; exact .inl ⟨_, e4⟩
      · exact r.cell (fun v d g q => ih q) b hb
    · subst e3
      rcases List.mem_cons.mp hb with e | hb
      · subst e; exact .inr ⟨_, e4⟩
      · exact r.cell (fun v d g q => ih q) b hb
mutual
/-- what holds no list stays readable where the lists are taken away -/
theorem Rp.thin (k : ∀ a o u, G a = some (.frz o u) → G' a = G a) : ∀ {v : V} {d : D}, noC d = true → Rp K G v d → Rp K G' v d
  | _, _, _, .non => .non
  | _, _, _, .bl b => .bl b
  | _, _, _, .int i => .int i
  | _, _, _, .str x => .str x
  | _, _, n, .lst h r => by simp only [noC, Bool.false_eq_true] at n
  | _, _, n, .dic h r => by simp only [noC, Bool.false_eq_true] at n
  | _, _, n, .tup h r => by
    obtain ⟨o, e, hd⟩ := h
    exact .tup ⟨o, (k _ _ _ e).trans e, hd⟩ (RpA.thin k (by simpa only [noC] using n) r)
theorem RpA.thin (k : ∀ a o u, G a = some (.frz o u) → G' a = G a) : ∀ {vs : List V} {ds : List D}, noCs ds = true → RpA K G vs ds → RpA K G' vs ds
  | _, _, _, .nil => .nil
  | _, _, n, .cons h r => by
    simp only [noCs, Bool.and_eq_true] at n
    exact .cons (Rp.thin k n.1 h) (RpA.thin k n.2 r)
end
open scoped Classical in
theorem re_frz {t : TE} {f : Mo D} (h : RE K t f) : RE K t (mFrz f) := fun ρ z ρ' e σ G H fp S Q q => by
  unfold mFrz at e
  split at e
  · rename_i z1 ρm e1
    split at e
    · rename_i hn
      cases e
      let Gm : Hp := fun a => if ∃ i, a ∈ fp i then H a else G a
      have gm1 : ∀ i a, a ∈ fp i → Gm a = H a := fun i a ha => if_pos ⟨i, ha⟩
      have gm2 : ∀ a, (∀ i, a ∉ fp i) → Gm a = G a := fun a ha => if_neg fun ⟨i, hi⟩ => ha i hi
      have sub : Sub G Gm := fun a o ha => (gm2 a fun i hi => by rw [S.fr i a hi] at ha; cases ha).trans ha
      have Sm : Sat K (ρ.map frS) σ Gm H (fun _ => []) := by
        refine ⟨by rw [List.length_map]; exact S.len, fun i s hs => ?_, fun _ _ => rfl, (fun i j a ha => nomatch ha), fun _ => List.nodup_nil, (fun i a ha => nomatch ha), fun a o ha => ?_⟩
        · rw [List.getElem?_map] at hs
          obtain ⟨s0, h0, rfl⟩ := Option.map_eq_some_iff.mp hs
          have q0 := S.sl i s0 h0
          cases s0 with
          | un => exact rfl
          | sh d =>
            obtain ⟨_, v, ev, r⟩ := q0
            exact ⟨rfl, v, ev, r.mono sub⟩
          | ow n d =>
            obtain ⟨v, ev, o⟩ := q0
            exact ⟨rfl, v, ev, o.rp sub fun a ha => gm1 i a ha⟩
        · by_cases hf : ∃ i, a ∈ fp i
          · have : Gm a = H a := if_pos hf
            rw [← this]; exact ha
          · have : Gm a = G a := if_neg hf
            rw [this] at ha
            exact S.sub a o ha
      refine h _ _ _ e1 σ Gm H _ Sm _ fun v G2 H2 fp2 st S2 r => ?_
      have same : ∀ a, H a ≠ none → H2 a = H a := fun a ha => st.h a (fun i hi => nomatch hi) ha
      let G3 : Hp := fun a => if ∃ i, a ∈ fp i then none else G2 a
      have g1 : ∀ i a, a ∈ fp i → G3 a = none := fun i a ha => if_pos ⟨i, ha⟩
      have g2 : ∀ a, (∀ i, a ∉ fp i) → G3 a = G2 a := fun a ha => if_neg fun ⟨i, hi⟩ => ha i hi
      have up : Sub G G3 := fun a o ha => by
        have na : ∀ i, a ∉ fp i := fun i hi => by rw [S.fr i a hi] at ha; cases ha
        rw [g2 a na]
        exact st.g a o ((gm2 a na).trans ha)
      have dn : Sub G3 H2 := fun a o ha => by
        by_cases hf : ∃ i, a ∈ fp i
        · obtain ⟨i, hi⟩ := hf
          rw [g1 i a hi] at ha; cases ha
        · have : G3 a = G2 a := if_neg hf
          rw [this] at ha
          exact S2.sub a o ha
      refine q v G3 H2 fp ⟨up, fun a _ ha => same a ha, st.t, fun i a ha => .inl ⟨i, ha⟩, fun a ha => ?_⟩ (S.keep up (fun i a ha => same a (S.live ha)) g1 dn) (r.thin (fun a o u ha => ?_) hn)
      · by_cases hf : ∃ i, a ∈ fp i
        · exact .inr (.inl hf)
        · have e3 : G3 a = G2 a := if_neg hf
          rw [e3] at ha
          rcases st.n a ha with z | ⟨j, z⟩ | z
          · have e4 : Gm a = G a := if_neg hf
            rw [e4] at z
            exact .inl z
          · cases z
          · exact .inr (.inr z)
      · refine if_neg fun ⟨i, hi⟩ => ?_
        have e2 := S2.sub a _ ha
        rw [same a (S.live hi)] at e2
        by_cases hl : i < ρ.length
        · have q0 := S.sl i ρ[i] (List.getElem?_eq_getElem hl)
          cases hs : ρ[i] with
          | un => rw [hs] at q0; rw [show fp i = [] from q0] at hi; cases hi
          | sh d => rw [hs] at q0; rw [q0.1] at hi; cases hi
          | ow n d =>
            rw [hs] at q0
            obtain ⟨v', _, o⟩ := q0
            rcases o.cell a hi with ⟨xs, z⟩ | ⟨ks, z⟩ <;> rw [z] at e2 <;> cases e2
        · rw [S.out i (by omega)] at hi; cases hi
    · cases e
  · cases e
end
section
variable {X : Cx} {e : Expr} {f : Mo D}
theorem g_frz (h : GE X e f) : GE X e (mFrz f) := mkE h (re_frz xE)
end
end Nt

/-! range by steps; sorted(a dict of whole numbers); x[i][j] = e; sum; max of a tuple; ^; tuple many times; pure if *)-/
namespace Nt
open PySem PySem.Spec PyProof.Rows L2
/-! ### range(i, j, c), c above 0 -/
def stepN (i j c : Int) : Nat := if i < j then ((j - i - 1) / c + 1).toNat else 0
def rangeC (i c : Int) (n : Nat) : List D := (List.range n).map fun (k : Nat) => PyData.int (i + (k : Int) * c)
def iR3 (fs : Mo (List Opd)) : Mo (List D) := fun ρ => match fs ρ with
  | none => none
  | some (os, ρ1) => match rsA rs ρ1 os with
    | some [.int i, .int j, .int c] => if 0 ≤ i ∧ i < 1000000 ∧ 0 ≤ j ∧ j < 1000000 ∧ 0 < c ∧ c < 1000000 then some (rangeC i c (stepN i j c), ρ1) else none
    | _ => none
theorem rgC_up {i j c : Int} (h : 0 ≤ i ∧ i < 1000000 ∧ 0 ≤ j ∧ j < 1000000 ∧ 0 < c ∧ c < 1000000) : RgC i j c (stepN i j c) := by
  have e : Builtin.Range.rangeSize i j c = (stepN i j c : Nat) := by
    unfold Builtin.Range.rangeSize stepN
    rw [if_pos (by omega)]
    split
    · have : 0 ≤ (j - i - 1) / c := Int.ediv_nonneg (by omega) (by omega)
      omega
    · rfl
  have b : (stepN i j c : Int) ≤ 1000000 := by
    unfold stepN
    split
    · have h1 : (j - i - 1) / c ≤ j - i - 1 := Int.ediv_le_self _ (by omega)
      have : 0 ≤ (j - i - 1) / c := Int.ediv_nonneg (by omega) (by omega)
      omega
    · omega
  have p : i + (stepN i j c : Int) * c ≤ 3000000 := by
    unfold stepN
    split
    · have h1 : (j - i - 1) / c * c ≤ j - i - 1 := Int.ediv_mul_le _ (by omega)
      have h2 : 0 ≤ (j - i - 1) / c := Int.ediv_nonneg (by omega) (by omega)
      rw [Int.toNat_of_nonneg (by omega), Int.add_mul]
      omega
    · simp; omega
  have p0 : 0 ≤ (stepN i j c : Int) * c := Int.mul_nonneg (by omega) (by omega)
  refine ⟨by omega, by omega, ?_, e⟩
  unfold Builtin.Range.small
  rw [e, if_pos (show c > 0 by omega)]
  simp only [Builtin.Range.rangeFitsLong, Bool.and_eq_true, Bool.or_eq_true, decide_eq_true_eq, beq_iff_eq]
  generalize stepN i j c = m at *
  omega
theorem srv_rangeC {K : PySem.W.Frag} {G : Hp} {lo c : Int} {m : Nat} : Srv K (Itc lo c m) G (rangeC lo c m) := fun G' H' s1 s2 i => by
  constructor
  · intro d hd
    unfold rangeC at hd
    rw [List.getElem?_map] at hd
    by_cases hi : i < m
    · rw [List.getElem?_range hi] at hd
      cases hd
      refine ⟨hi, fun x H2 hy => .inl ⟨hy.1, ?_⟩⟩
      rw [hy.2]
      exact .int _
    · rw [List.getElem?_eq_none (by simp; omega)] at hd
      cases hd
  · intro h
    unfold rangeC at h
    rw [List.length_map, List.length_range] at h
    exact h
theorem ri_r3 {K : PySem.W.Frag} {ta : TA} {fs : Mo (List Opd)} (h : RA K ta fs) : RI K (iRng3 ta) (iR3 fs) := fun ρ ds ρ' e σ G H fp S R q => by
  unfold iR3 at e
  split at e
  · cases e
  · rename_i os ρ1 e1
    split at e
    · rename_i i j c e2
      split at e
      · rename_i hj
        cases e
        refine h ρ _ _ e1 σ G H fp S _ fun vs G1 H1 fp1 st1 S1 ra => ?_
        have r := rsA_rp S1 ra e2
        cases r with
        | cons r1 r2 =>
          cases r2 with
          | cons r2 r3 =>
            cases r3 with
            | cons r3 r4 =>
              cases r4
              cases r1.int'; cases r2.int'; cases r3.int'
              exact ⟨i, j, c, _, rfl, rgC_up hj, q _ G1 H1 fp1 st1 S1 srv_rangeC⟩
      · cases e
    · cases e
/-! ### sorted(d), the keys whole numbers -/
def dSrtD : List D → Option D
  | [.dict kvs] => match asInts (kvs.map (·.1)) with
    | some ns => if ns.length < 64 ∧ ns.Nodup then some (.list ((setI ns).map PyData.int)) else none
    | none => none
  | _ => none
theorem kD_ints : ∀ {ks : List (Key × V)} {ns : List Int}, ks.map (fun p => kD p.1) = ns.map PyData.int → ks.map (·.1) = ns.map Sum.inl
  | [], [], _ => rfl
  | [], _ :: _, h => by cases h
  | _ :: _, [], h => by cases h
  | (k, v) :: ks, n :: ns, h => by
    rw [List.map_cons, List.map_cons] at h
    obtain ⟨h1, h2⟩ := List.cons.inj h
    rw [List.map_cons, List.map_cons, kD_ints h2]
    cases k with
    | inl i => cases h1; rfl
    | inr x => cases h1
def rSrtD : List V → Hp → VK → Prop := fun xs H Q => ∃ (a : Addr) (kvs : List (Key × V)) (ks : List Int), xs = [.ref a] ∧ Rd H a (.dK kvs) ∧ kvs.map (·.1) = ks.map Sum.inl ∧ ks.length < 64 ∧
    ∀ (ys : List Int) (p : Addr), ys.Perm ks → ys.Pairwise (· ≤ ·) → H p = none → Q (.ref p) (upd H p (.lst (ys.map V.int)))
theorem perm_setI {ys ns : List Int} (hp : ys.Perm ns) (hw : ys.Pairwise (· ≤ ·)) (hn : ns.Nodup) : ys = setI ns := by
  have nd : ys.Nodup := hp.nodup_iff.mpr hn
  refine asc_eq ?_ (pw_setI ns) fun k => by rw [mem_setI]; exact hp.mem_iff
  exact (hw.and nd).imp fun ⟨h1, h2⟩ => by omega
theorem rw_srtD {K : PySem.W.Frag} {t : TA} {fs : Mo (List Opd)} (h : RA K t fs) : RW K 1 (tCB rSrtD t) (mCB rs1 dSrtD fs) := rw_cbL h fun G H vs ds z s r hz Q q => by
  unfold dSrtD at hz
  split at hz
  · rename_i kvs
    split at hz
    · rename_i ns en
      split at hz
      · rename_i hc
        cases hz
        cases r with
        | cons r1 r2 =>
          cases r2
          obtain ⟨a, ks, rfl, h1, p1⟩ := r1.dict s
          have e1 := (rpK_keys p1).1
          rw [asInts_ok en] at e1
          refine ⟨a, ks, ns, rfl, .inl h1, kD_ints e1.symm, hc.1, fun ys p hp hw hH => ?_⟩
          rw [perm_setI hp hw hc.2]
          exact q p _ _ hH rfl (RpA.ofInts _)
      · cases hz
    · cases hz
  · cases hz
/-! ### sum -/
def dSum : List D → Option D
  | [.list ds] => (asInts ds).map fun ns => .int ns.sum
  | _ => none
theorem re_sum {K : PySem.W.Frag} {t : TA} {fs : Mo (List Opd)} (h : RA K t fs) : RE K (tCB (rSum K) t) (mCB rs dSum fs) := re_cb h fun H vs ds z r hz => by
  unfold dSum at hz
  split at hz
  · rename_i xs
    cases en : asInts xs with
    | none => rw [en] at hz; cases hz
    | some ns =>
      rw [en] at hz
      cases hz
      cases r with
      | cons r1 r2 =>
        cases r2
        rw [asInts_ok en] at r1
        obtain ⟨a, ws, rfl, h1, p1⟩ := r1.list'
        rw [p1.ints] at h1
        exact ⟨_, rfl, fun Q q => ⟨a, ns, rfl, SqL.of h1, q⟩⟩
  · cases hz
/-! ### max of a tuple -/
def maxI (n : Int) (ns : List Int) : Int := ns.foldl max n
def dMaxT : List D → Option D
  | [.tuple (.int n :: ds)] => (asInts ds).map fun ns => .int (maxI n ns)
  | _ => none
def rMaxT (K : PySem.W.Frag) : List V → Hp → VK → Prop := fun xs H Q => ∃ (a : Addr) (n : Int) (ns : List Int), xs = [.ref a] ∧ SqT K H a ((n :: ns).map V.int) ∧ Q (.int (maxI n ns)) H
theorem alike_ints (ns : List Int) : PySem.W.AlikeAll (ns.map PyData.int) := by
  refine ⟨fun x hx y hy => ?_, fun x hx => ?_⟩
  · obtain ⟨i, _, rfl⟩ := List.mem_map.mp hx
    obtain ⟨j, _, rfl⟩ := List.mem_map.mp hy
    rfl
  · obtain ⟨i, _, rfl⟩ := List.mem_map.mp hx
    exact fun h => nomatch h
theorem depth_ints (ns : List Int) : PyData.depthAll (ns.map PyData.int) ≤ 1 := by
  induction ns with
  | nil => decide
  | cons n ns ih =>
    rw [List.map_cons]
    simp only [PyData.depthAll, PyData.depth]
    omega
theorem noDs_ints (ns : List Int) : noDs (ns.map PyData.int) = true := by
  induction ns with
  | nil => rfl
  | cons n ns ih => rw [List.map_cons]; simp only [noDs, noD, ih]; rfl
theorem call_maxT {X : Cx} (hc : X.calm = true) (hu : X.A.units + 200 < cLine) : CallR X (.builtin "max") (rMaxT X.K) := by
  intro pins s σ H xs us Q I r h
  obtain ⟨a, n, ns, rfl, hT, q⟩ := h
  obtain ⟨u, rfl, ru⟩ := vals1 r
  cases ru
  obtain ⟨its, rv, pt, hz⟩ := I.tuple hT
  obtain ⟨as, hr⟩ := RpA.reads (X := X) I ((n :: ns).map PyData.int) _ its (noDs_ints _) (RpA.ofInts _) rv
  have dd := depth_ints (n :: ns)
  rw [List.map_cons] at hr dd
  refine PySem.W.max_tuple_data (I.ok.hd hc) pt (by simpa using hr) (by rw [← List.map_cons]; exact alike_ints _) (by omega) fun i v h' tk bs hv rd hk => ?_
  rw [PySem.W.maxD_ints] at rd
  cases rd with
  | int _ t => exact ⟨.int _, H, I.kept hk, ⟨_, rfl⟩, q⟩
theorem re_maxT {K : PySem.W.Frag} {t : TA} {fs : Mo (List Opd)} (h : RA K t fs) : RE K (tCB (rMaxT K) t) (mCB rs dMaxT fs) := re_cb h fun H vs ds z r hz => by
  unfold dMaxT at hz
  split at hz
  · rename_i n xs
    cases en : asInts xs with
    | none => rw [en] at hz; cases hz
    | some ns =>
      rw [en] at hz
      cases hz
      cases r with
      | cons r1 r2 =>
        cases r2
        rw [asInts_ok en, ← List.map_cons] at r1
        obtain ⟨a, ws, rfl, h1, p1⟩ := r1.tuple'
        rw [p1.ints] at h1
        exact ⟨_, rfl, fun Q q => ⟨a, n, ns, rfl, h1, q⟩⟩
  · cases hz
/-! ### i ^ j -/
def dXor : D → D → Option D := dI (fun _ _ => true) fun i j => .int (Builtin.bitXor i j)
/-! ### t * k, k above 1 -/
def rRepN (K : PySem.W.Frag) : R2 := fun x y H Q => ∃ l k xs, x = .ref l ∧ y = .int k ∧ SqT K H l xs ∧ xs ≠ [] ∧ 1 ≤ k ∧ k ≤ 1000 ∧ xs.length ≤ 1000 ∧ (k = 1 → Q (.ref l) H) ∧ (2 ≤ k → NewT H (List.replicate k.toNat xs).flatten Q)
theorem op_repN {X : Cx} : OpR X (binaryOp .Mult) (rRepN X.K) := by
  intro pins s σ H x y v u Q I rx ry h
  obtain ⟨l, k, xs, rfl, rfl, hT, hne, h1, h2, hz, q1, q⟩ := h
  by_cases hk1 : k = 1
  · exact op_repS pins s σ H _ _ v u Q I rx ry ⟨l, k, xs, rfl, rfl, hT, .inr hk1, by omega, by omega, q1 hk1⟩
  have q := q (by omega)
  cases rx
  obtain ⟨t, rfl⟩ := ry
  obtain ⟨its, r, ⟨⟨cls, dd, data, sl⟩, ho, hc, n, hd⟩, hs⟩ := I.tuple hT
  simp only at hc hd
  subst hc hd
  have hle : its.length = xs.length := r.length.symm
  have hn : its ≠ [] := fun e => hne (by
    rw [e] at hle
    exact List.eq_nil_of_length_eq_zero hle.symm)
  have hi : its.toArray.isEmpty = false := by
    cases its with
    | nil => exact absurd rfl hn
    | cons a b => rfl
  have hsz0 : its.toArray.size = xs.length := by rw [List.size_toArray, hle]
  have hm : ((its.toArray.size : Nat) : Int) * k ≤ 1000000 := by
    rw [hsz0]
    have a1 : ((xs.length : Nat) : Int) * k ≤ 1000 * k := Int.mul_le_mul_of_nonneg_right (by omega) (by omega)
    omega
  have flen : (List.replicate k.toNat its).flatten.length ≤ sizeLine := by
    rw [PyProof.Rows.lm_len_rep_flat, hle, sizeLine_eq]
    have a1 : k.toNat * xs.length ≤ 1000 * 1000 := Nat.mul_le_mul (by omega) hz
    omega
  have c0 : (decide (k < -(2 ^ 63)) || decide (k ≥ 2 ^ 63)) = false := by
    rw [decide_eq_false (by omega), decide_eq_false (by omega)] <;> rfl
  have c1 : (its.toArray.isEmpty || k == 1) = false := by
    rw [hi, Bool.false_or]
    exact beq_eq_false_iff_ne.mpr (by omega)
  have c2 : (decide (k ≤ 0) || its.toArray.isEmpty) = false := by
    rw [hi, Bool.or_false]
    exact decide_eq_false (by omega)
  have c4 : Builtin.Tuple.tupleTooMany (((its.toArray.size : Nat) : Int) * k) = false := by
    unfold Builtin.Tuple.tupleTooMany
    rw [sizeLine_eq]
    exact decide_eq_false (by omega)
  refine wpAny_binaryOp_repeat_ref (T := "tuple") (U := "int") (by decide) ⟨_, ho, rfl⟩ (fun s' => typeIs_int s' k t) noFill_tuple_mul F.fills_int_mul F.slot_int_rmul repeat_tuple F.slot_int_index.lookup
    (call_meets F.slot_int_rmul (typeIs_int s k t) F.entry_int_rmul (F.args_int_rmul_2 _ _) (int_rmul_tuple k t l its.toArray n dd sl)
      ⟨ho, rfl, ⟨_, ho, rfl⟩, call_meets F.slot_tuple_mul ⟨_, ho, rfl⟩ F.entry_tuple_mul (F.args_tuple_mul_2 _ _) (tuple_mulW l its.toArray n dd sl k t c0 c1 c2 (by omega) c4 (by rw [size_rep, List.size_toArray]; exact flen)) ⟨ho, ?_⟩⟩)
  rw [size_rep]
  have hxs : (List.replicate k.toNat xs).flatten.length ≤ sizeLine := by
    rw [PyProof.Rows.lm_len_rep_flat, sizeLine_eq]
    have a1 : k.toNat * xs.length ≤ 1000 * 1000 := Nat.mul_le_mul (by omega) hz
    omega
  exact tup_fin I hxs (r.rep k.toNat) q
def dRepN : D → D → Option D
  | .tuple (d :: ds), .int k => if 1 ≤ k ∧ k ≤ 1000 ∧ ds.length < 1000 then some (.tuple (List.replicate k.toNat (d :: ds)).flatten) else none
  | _, _ => none
theorem re_repN {K : PySem.W.Frag} {ta tb : TE} {fa fb : Mo Opd} (ha : RO K ta fa) (hb : RO K tb fb) : RE K (tOp (rRepN K) ta tb) (m2 rs1 dRepN fa fb) := re_opN ha hb fun G H v w d e z s r1 r2 hz Q q1 q2 => by
  unfold dRepN at hz
  split at hz
  · rename_i d ds k
    split at hz
    · rename_i hk
      cases hz
      obtain ⟨a, vs, rfl, h1, g1, p1⟩ := r1.tuple s
      cases r2.int
      have hl := p1.length
      refine ⟨a, k, vs, rfl, rfl, h1, fun z => ?_, hk.1, hk.2.1, by rw [hl, List.length_cons]; omega, fun hk1 => ?_, fun hk2 p o hp ho => ?_⟩
      · subst z; cases p1
      · subst hk1
        have e : (List.replicate (1 : Int).toNat (d :: ds)).flatten = d :: ds := by simp [List.replicate]
        rw [e] at q1
        exact q1 _ (.tup g1 p1)
      · exact q2 p _ _ hp (.tup ⟨o, upd_same, ho⟩ ((p1.mono (Sub.new (Sub.refl G) (s.none hp))).rep k.toNat))
    · cases hz
  · cases hz
end Nt

/-! .. in the text; x[i][j] = e; a pure choice *)-/
namespace Nt
open PySem PySem.Spec PyProof.Rows L2
def sStore2 (i : Nat) (f : Mo D) (fj fk : Env → Option D) : MoS := fun ρ => match f ρ with
  | some (d, ρ1) => match ρ1[i]?, fj ρ1, fk ρ1 with
    | some (.ow 2 (.list ds)), some (.int j), some (.int k) => match ixN ds.length j with
      | some j' => match ds[j']? with
        | some (.list es) => match ixN es.length k with
          | some k' => some (.nx (ρ1.set i (.ow 2 (.list (ds.set j' (.list (es.set k' d)))))))
          | none => none
        | _ => none
      | none => none
    | _, _, _ => none
  | none => none
section
variable {K : PySem.W.Frag} {te tj tk ta tb : TE} {fj fk fa fb : Env → Option D} {f : Mo D} {n i : Nat} {P : List Nat}
theorem rs_store2 (h : RE K te f) (hj : RH K tj fj) (hk : RH K tk fk) : RS K n P (tAsg te (gSub (tOp (rIx K) (tVar i) tj) tk rSetL)) (sStore2 i f fj fk) := fun ρ o e σ G H fp S Dn q => by
  unfold sStore2 at e
  split at e
  · rename_i d ρ1 e1
    split at e
    · rename_i ds j k e2 e3 e4
      split at e
      · rename_i j' e5
        split at e
        · rename_i es e6
          split at e
          · rename_i k' e7
            cases e
            refine h ρ _ _ e1 σ G H fp S _ fun v G1 H1 fp1 st1 S1 r1 => ?_
            obtain ⟨a, vs, b, us, ea, ha, hv, hl, hb, r, kk⟩ := S1.in2 e2 e6
            refine ⟨.ref a, ea, hj ρ1 _ e3 σ G1 H1 fp1 S1 _ fun x rx => ?_⟩
            cases rx.int'
            refine .inl ⟨a, vs, j, .ref b, rfl, rfl, SqL.of ha, atI_of (by rw [hl]; exact e5) hv, hk ρ1 _ e4 σ G1 H1 fp1 S1 _ fun y ry => ?_⟩
            cases ry.int'
            obtain ⟨S', st'⟩ := kk _ _ (r.set k' r1)
            exact ⟨b, us, k, k', rfl, rfl, hb, by rw [r.length]; exact e7, q σ G1 _ _ (st1.trans st') S' fun _ _ => rfl⟩
          · cases e
        · cases e
      · cases e
    · cases e
  · cases e
/-- a if name is None else b, nothing changed -/
def hIfN (i : Nat) (fa fb : Env → Option D) : Env → Option D := fun ρ => match rs ρ (.sl i) with
  | some .none => fa ρ
  | some _ => fb ρ
  | none => none
theorem rh_ifN (ha : RH K ta fa) (hb : RH K tb fb) : RH K (tIf (tTest (tOp (fun x y H Q => y = .non ∧ Q (.bl (decide (x = .non))) H) (tVar i) (tC .non))) ta tb) (hIfN i fa fb) := fun ρ z e σ G H fp S Q q => by
  unfold hIfN at e
  have key : ∀ d, rs ρ (.sl i) = some d → (∀ v, Rp K H v d → (if decide (v = V.non) = true then ta σ H Q else tb σ H Q)) → tIf (tTest (tOp (fun x y H Q => y = .non ∧ Q (.bl (decide (x = .non))) H) (tVar i) (tC .non))) ta tb σ H Q := fun d ed k => by
    have w := (rh_name (K := K) (i := i)) ρ d ed σ G H fp S (fun v H' => H' = H ∧ (if decide (v = V.non) = true then ta σ H Q else tb σ H Q)) fun v r => ⟨rfl, k v r⟩
    obtain ⟨v, hv, _, w⟩ := w
    exact ⟨v, hv, rfl, _, rfl, w⟩
  split at e
  · rename_i e1
    refine key _ e1 fun v r => ?_
    rw [isN_val r, if_pos rfl]
    exact ha ρ z e σ G H fp S Q q
  · rename_i d hn e1
    refine key _ e1 fun v r => ?_
    rw [isN_val r]
    cases d with
    | none => exact absurd rfl hn
    | _ => exact (if_neg Bool.false_ne_true).mpr (hb ρ z e σ G H fp S Q q)
  · cases e
end
section
variable {X : Cx} {k n m : Nat} {e a b c d : Expr} {es : List Expr} {pos p p2 p3 p4 : Pos} {f : Mo D} {fa fb : Env → Option D} {oa ob oc od : Mo Opd} {fs : Mo (List Opd)} {P : List Nat} {x : Str}
theorem i_r3 {tg : Expr} (B : Bt X "range") (h : GA X [a, b, c] fs) (hs : starEach [a, b, c] X.env = (false, eval a X.env) :: starEach [b, c] X.env := by rfl) (hpl : (backTo pos (starEach [b, c] X.env)).any (·.1) = false := by rfl) : GI X tg (.Call (.Name "range" p) [a, b, c] [] pos) (iR3 fs) := mkI (pi_range3 B.gl B.mg h hs hpl) (ri_r3 xA)
theorem w_srtD (c : Cok X k) (B : Bt X "sorted") (h : GA X (e :: es) fs) (hs : starEach (e :: es) X.env = (false, eval e X.env) :: starEach es X.env := by rfl) (hpl : (backTo pos (starEach es X.env)).any (·.1) = false := by rfl) : GW X 1 (.Call (.Name "sorted" p) (e :: es) [] pos) (mCB rs1 dSrtD fs) :=
  mkW (pe_callB (call_sortedDI c.calm) B.gl B.mg PyProof.Rows.boot_sorted h (by decide) (by decide) hs hpl) (rw_srtD xA)
theorem g_sum (c : Cok X k) (B : Bt X "sum") (h : GA X (e :: es) fs) (hs : starEach (e :: es) X.env = (false, eval e X.env) :: starEach es X.env := by rfl) (hpl : (backTo pos (starEach es X.env)).any (·.1) = false := by rfl) : GE X (.Call (.Name "sum" p) (e :: es) [] pos) (mCB rs dSum fs) :=
  mkE (pe_callB (cr_sum c.calm) B.gl B.mg PyProof.Rows.boot_sum h (by decide) (by decide) hs hpl) (re_sum xA)
theorem g_maxT (c : Cok X k) (B : Bt X "max") (h : GA X (e :: es) fs) (hs : starEach (e :: es) X.env = (false, eval e X.env) :: starEach es X.env := by rfl) (hpl : (backTo pos (starEach es X.env)).any (·.1) = false := by rfl) : GE X (.Call (.Name "max" p) (e :: es) [] pos) (mCB rs dMaxT fs) :=
  mkE (pe_callB (call_maxT c.calm (by have := c.un; omega)) B.gl B.mg PyProof.Rows.boot_max h (by decide) (by decide) hs hpl) (re_maxT xA)
theorem g_xor (ha : GO X a oa) (hb : GO X b ob) : GE X (.BinOp a .BitXor b p) (m2 rs dXor oa ob) := mkE (pe_op op_xor ha hb) (re_i0 xO xO)
theorem g_repN (ha : GO X a oa) (hb : GO X b ob) : GE X (.BinOp a .Mult b p) (m2 rs1 dRepN oa ob) := mkE (pe_op op_repN ha hb) (re_repN xO xO)
theorem s_store2 (i : Nat) (hN : X.N[i]? = some x) (hv : Vis X.env.scope x) (h : GE X e f) (hj : GH X a fa) (hk : GH X b fb) (hs2 : PlainIx a) (hd : (x == ("__debug__" : Str)) = false := by decide) (hcd : (x == ("__classdict__" : Str)) = false := by decide)
    (ha : ∀ v, assign (.Subscript (.Subscript (.Name x p2) a p3) b p) X.env v = (do
      let ov ← holding [v] (eval (.Subscript (.Name x p2) a p3) X.env)
      let iv ← holding [v, ov] (eval b X.env)
      standAt p
      holding [v, ov, iv] (setItem ov iv v)
      release [v, ov, iv] []) := by intro _; rfl) (hs : swapsWithSole [.Subscript (.Subscript (.Name x p2) a p3) b p] e pos.line X.env = pure false := by rfl) (hw : swappedStores [.Subscript (.Subscript (.Name x p2) a p3) b p] e X.env = pure none := by rfl)
    (h1 : (assignEach [.Subscript (.Subscript (.Name x p2) a p3) b p] X.env).map (·.2) = [assign (.Subscript (.Subscript (.Name x p2) a p3) b p) X.env] := by rfl) : GS X n P (.Assign [.Subscript (.Subscript (.Name x p2) a p3) b p] e pos) (sStore2 i f fa fb) :=
  mkS (ps_asg h (pg_sub (pe_ix ix_seq (pe_var hN hv hd hcd) hj hs2) hk set_list ha) hs hw h1) (rs_store2 xE xH xH)
theorem h_ifN (i : Nat) (hN : X.N[i]? = some x) (hv : Vis X.env.scope x) (h : GH X a fa) (h2 : GH X b fb) {j : Nat} (hd : (x == ("__debug__" : Str)) = false := by decide) (hcd : (x == ("__classdict__" : Str)) = false := by decide) :
    GH X (.IfExp (.Compare (.Name x p) [.Is] [.Constant .none j p2] p3) a b p4) (hIfN i fa fb) := mkHh (pe_ifExp (pt_cmpR op_isN (pe_var hN hv hd hcd) pe_non (nomark _)) h h2) (rh_ifN xH xH)
end
/-! ### tuple(range(n)) -/
def tTupRgN (te : L2.St → Hp → (Int → Int → Hp → Prop) → Prop) : TE := fun σ H Q => te σ H fun a b H1 => RgOk a b ∧ NewT H1 (rgV a b) Q
theorem pe_tupRgN {X : Cx} {e : Expr} {te : L2.St → Hp → (Int → Int → Hp → Prop) → Prop} {p pos : Pos} (hc : X.calm = true) (hg : Gl X "tuple") (hm : X.mg "tuple" = none) (he : PRg X e te) (na : starEach [e] X.env = (false, eval e X.env) :: starEach [] X.env := by rfl) : PE X (.Call (.Name "tuple" p) [e] [] pos) (tTupRgN te) := by
  refine ⟨fun pins s σ H Q I h => ?_⟩
  refine Call_ (ld_blt I hg hm boot_tuple (PyProof.Rows.callWith_type1 (args_cons (thn (he pins s σ H _ I h) fun x s1 ⟨r, a, b, t, u, v, H1, ex, hr, I1, ok, q⟩ => args_nil ?_) na) na))
  subst ex
  obtain ⟨b1, b2, b3, b4, b5⟩ := ok
  refine call_tuple_range (n := (b - a).toNat) (I1.ok.hd hc) hr (small_one b1 b2 b3 b4) (rangeSize_nat a b) b5 fun h' tk acc hk hi => ?_
  have I2 : Inv X pins σ H1 { s1 with heap := h', toks := tk } := I1.kept hk
  have e : acc = acc.toList.toArray := by simp
  rw [e]
  exact tup_fin I2 (by rw [rgV_length, sizeLine_eq]; omega) (vals_rg hi) q
section
variable {X : Cx} {k : Nat} {a : Expr} {oa : Mo Opd} {p p2 p3 pos : Pos}
theorem g_trng1 (c : Cok X k) (B : Bt X "tuple") (B2 : Bt X "range") (h : GO X a oa) (na : starEach [a] X.env = (false, eval a X.env) :: starEach [] X.env := by rfl)
    (na2 : starEach [.Call (.Name "range" p2) [a] [] p3] X.env = (false, eval (.Call (.Name "range" p2) [a] [] p3) X.env) :: starEach [] X.env := by rfl) : GE X (.Call (.Name "tuple" p) [.Call (.Name "range" p2) [a] [] p3] [] pos) (mRng1 true oa) :=
  mkE (pe_tupRgN c.calm B.gl B.mg (prg_1 B2.gl B2.mg h na) na2) fun ρ d ρ' e σ G H fp S Q q => by
    unfold mRng1 at e
    split at e
    · cases e
    · rename_i o ρ1 e1
      split at e
      · rename_i j e2
        split at e
        · rename_i hj
          cases e
          refine xO ρ _ _ e1 σ G H fp S _ fun v G1 H1 fp1 st1 S1 r1 => ?_
          cases (rs_rp S1 r1 e2).int'
          refine ⟨j, rfl, ⟨by omega, by omega, by omega, by omega, by omega⟩, fun l o hl ho => q _ (upd G1 l (.frz o (.tup (rgV 0 j)))) _ fp1 (st1.trans (Stp.newF S1.sub hl)) (S1.newF hl) (.tup ⟨o, upd_same, ho⟩ ?_)⟩
          have := rgV_rp (K := X.K) (G := upd G1 l (.frz o (.tup (rgV 0 j)))) 0 j
          rw [Int.sub_zero] at this
          exact this
        · cases e
      · cases e
end
end Nt

/-! simp's rules for the forms of N29 to N33 -/
namespace Nt
open PySem PyProof.Rows L2
variable {s0 : Sl} {ρ0 : Nt.Env} {i : Nat}
def i3S : List D → Option (List D)
  | [.int i, .int j, .int c] => if 0 ≤ i ∧ i < 1000000 ∧ 0 ≤ j ∧ j < 1000000 ∧ 0 < c ∧ c < 1000000 then some (rangeC i c (stepN i j c)) else none
  | _ => none
@[simp] theorem i3S_ev (i j c : Int) : i3S [.int i, .int j, .int c] = szI (0 ≤ i ∧ i < 1000000 ∧ 0 ≤ j ∧ j < 1000000 ∧ 0 < c ∧ c < 1000000) (some (rangeC i c (stepN i j c))) := id rfl
@[simp] theorem iR3_ev (fs : Mo (List Opd)) : iR3 fs (s0 :: ρ0) = ob (fs (s0 :: ρ0)) fun p => ob (rsA rs p.2 p.1) fun ds => ob (i3S ds) fun q => some (q, p.2) := by
  unfold iR3 ob
  cases fs (s0 :: ρ0) with
  | none => rfl
  | some p =>
    obtain ⟨o, ρ1⟩ := p
    simp only [Option.bind_some]
    cases rsA rs ρ1 o with
    | none => rfl
    | some ds =>
      simp only [Option.bind_some]
      unfold i3S
      split
      · rename_i e; cases e
        simp only []
        split <;> rfl
      · rename_i h
        split
        · rename_i i j c
          exact absurd rfl (h i j c)
        · rfl
def zsS : List Opd → Option (List D)
  | [.val (.tuple xs), .val (.tuple ys)] => if xs.length = ys.length then some (zipD xs ys) else none
  | _ => none
@[simp] theorem zsS_ev (xs ys : List D) : zsS [.val (.tuple xs), .val (.tuple ys)] = szI (xs.length = ys.length) (some (zipD xs ys)) := id rfl
@[simp] theorem iZs_ev (fs : Mo (List Opd)) : iZs fs (s0 :: ρ0) = ob (fs (s0 :: ρ0)) fun p => ob (zsS p.1) fun ds => some (ds, p.2) := by
  unfold iZs ob
  cases fs (s0 :: ρ0) with
  | none => rfl
  | some p =>
    obtain ⟨o, ρ1⟩ := p
    simp only [Option.bind_some]
    unfold zsS
    split
    · rename_i xs ys ρ2 e
      cases e
      simp only []
      split <;> rfl
    · rename_i h
      split
      · rename_i xs ys
        exact absurd rfl (h xs ys ρ1)
      · rfl
@[simp] theorem frS_ow (n : Nat) (d : D) : frS (.ow n d) = .sh d := id rfl
@[simp] theorem frS_sh (d : D) : frS (.sh d) = .sh d := id rfl
@[simp] theorem frS_un : frS .un = .un := id rfl
@[simp] theorem mFrz_ev (f : Mo D) : mFrz f (s0 :: ρ0) = ob (f (frS s0 :: ρ0.map frS)) fun p => szI (noC p.1 = true) (some (p.1, s0 :: ρ0)) := by
  unfold mFrz ob szI
  rw [List.map_cons]
  cases f (frS s0 :: ρ0.map frS) with
  | none => rfl
  | some p => rfl
@[simp] theorem dXor_ev (a b : Int) : dXor (.int a) (.int b) = some (.int (Builtin.bitXor a b)) := id rfl
@[simp] theorem dRepN_ev (d : D) (ds : List D) (k : Int) : dRepN (.tuple (d :: ds)) (.int k) = szI (1 ≤ k ∧ k ≤ 1000 ∧ ds.length < 1000) (some (.tuple (List.replicate k.toNat (d :: ds)).flatten)) := id rfl
theorem dSum_ev (ns : List Int) : dSum [.list (ns.map PyData.int)] = some (.int ns.sum) := by
  unfold dSum
  simp only [asInts_map, Option.map_some]
theorem dMaxT_ev (n : Int) (ns : List Int) : dMaxT [.tuple (.int n :: ns.map PyData.int)] = some (.int (maxI n ns)) := by
  unfold dMaxT
  simp only [asInts_map, Option.map_some]
theorem dSrtD_ev {kvs : List (D × D)} {ns : List Int} (h : kvs.map (·.1) = ns.map PyData.int) (hl : ns.length < 64) (hn : ns.Nodup) : dSrtD [.dict kvs] = some (.list ((setI ns).map PyData.int)) := by
  unfold dSrtD
  simp only [h, asInts_map]
  exact if_pos ⟨hl, hn⟩
def ifNS (a b : Option D) : D → Option D
  | .none => a
  | _ => b
@[simp] theorem ifNS_non (a b : Option D) : ifNS a b .none = a := id rfl
@[simp] theorem ifNS_int (a b : Option D) (k : Int) : ifNS a b (.int k) = b := id rfl
@[simp] theorem hIfN_ev (fa fb : Nt.Env → Option D) : hIfN i fa fb (s0 :: ρ0) = ob (rs (s0 :: ρ0) (.sl i)) (ifNS (fa (s0 :: ρ0)) (fb (s0 :: ρ0))) := by
  unfold hIfN ob
  cases rs (s0 :: ρ0) (.sl i) with
  | none => rfl
  | some d => cases d <;> rfl
def st2b (i : Nat) (ρ : Nt.Env) (d : D) (ds : List D) (k : Int) (j' : Nat) : D → Option Out
  | .list es => ob (ixN es.length k) fun k' => some (.nx (ρ.set i (.ow 2 (.list (ds.set j' (.list (es.set k' d)))))))
  | _ => none
def st2 (i : Nat) (ρ : Nt.Env) (d : D) : Sl → D → D → Option Out
  | .ow 2 (.list ds), .int j, .int k => ob (ixN ds.length j) fun j' => ob ds[j']? fun x => st2b i ρ d ds k j' x
  | _, _, _ => none
theorem st2_w {ρ : Nt.Env} {d : D} {ds : List D} {j k : Int} : st2 i ρ d (.ow 2 (.list ds)) (.int j) (.int k) = ob (ixN ds.length j) fun j' => ob ds[j']? fun x => st2b i ρ d ds k j' x := id rfl
theorem st2_ow {ρ : Nt.Env} {d : D} {ds es : List D} {j k : Int} {j' k' : Nat} (h1 : ixN ds.length j = some j') (h2 : ds[j']? = some (.list es)) (h3 : ixN es.length k = some k') :
    st2 i ρ d (.ow 2 (.list ds)) (.int j) (.int k) = some (.nx (ρ.set i (.ow 2 (.list (ds.set j' (.list (es.set k' d))))))) := by
  rw [st2_w, h1, ob_some, h2, ob_some]
  show ob (ixN es.length k) _ = _
  rw [h3, ob_some]
@[simp] theorem sStore2_ev (f : Mo D) (fj fk : Nt.Env → Option D) : sStore2 i f fj fk (s0 :: ρ0) = ob (f (s0 :: ρ0)) fun p => ob p.2[i]? fun s => ob (fj p.2) fun j => ob (fk p.2) fun k => st2 i p.2 p.1 s j k := by
  unfold sStore2
  cases f (s0 :: ρ0) with
  | none => rfl
  | some p =>
    obtain ⟨d, ρ1⟩ := p
    rw [ob_some]
    simp only []
    split
    · rename_i ds j k e1 e2 e3
      rw [e1, e2, e3]
      simp only [ob_some, st2_w]
      cases ixN ds.length j with
      | none => rfl
      | some j' =>
        simp only [ob_some]
        cases ds[j']? with
        | none => rfl
        | some x =>
          rw [ob_some]
          cases x <;> try rfl
          rename_i es
          show _ = ob (ixN es.length k) _
          simp only []
          generalize ixN es.length k = o
          cases o <;> rfl
    · rename_i h
      cases h1 : ρ1[i]? with
      | none => rfl
      | some s =>
        cases h2 : fj ρ1 with
        | none => rfl
        | some x =>
          cases h3 : fk ρ1 with
          | none => rfl
          | some y =>
            simp only [ob_some]
            unfold st2
            split
            · rename_i ds j k; exact absurd h3 (h ds j k h1 h2)
            · rfl
end Nt

/-! shifts, bits, x += e, len(dict(pairs whose keys are tuples of whole numbers)) -/
namespace Nt
open PySem PySem.Spec PyProof.Rows L2
variable {s0 : Sl} {ρ0 : Nt.Env}
def dShl := dI cPow fun i j => .int (i * 2 ^ j.toNat)
def dShr := dI (fun _ j => decide (0 ≤ j)) fun i j => .int (i / 2 ^ j.toNat)
def dAnd : D → D → Option D := dI (fun _ _ => true) fun i j => .int (Builtin.bitAnd i j)
@[simp] theorem dShl_ev (i j : Int) : dShl (.int i) (.int j) = br (cPow i j) (some (.int (i * 2 ^ j.toNat))) none := id rfl
@[simp] theorem dShr_ev (i j : Int) : dShr (.int i) (.int j) = szI (0 ≤ j) (some (.int (i / 2 ^ j.toNat))) := by
  unfold dShr dI szI
  by_cases h : 0 ≤ j <;> simp [h]
@[simp] theorem dAnd_ev (a b : Int) : dAnd (.int a) (.int b) = some (.int (Builtin.bitAnd a b)) := id rfl
section
variable {X : Cx} {k n m : Nat} {e a b : Expr} {pos p p2 p3 : Pos} {f : Mo D} {oa ob : Mo Opd} {P : List Nat} {x : Str}
theorem g_shl (ha : GO X a oa) (hb : GO X b ob) : GE X (.BinOp a .LShift b p) (m2 rs dShl oa ob) := mkE (pe_op op_shl ha hb) (re_i cPow_ok xO xO)
theorem g_shr (ha : GO X a oa) (hb : GO X b ob) : GE X (.BinOp a .RShift b p) (m2 rs dShr oa ob) := mkE (pe_op op_shr ha hb) (re_i (fun _ _ h => of_decide_eq_true h) xO xO)
theorem g_and2 (ha : GO X a oa) (hb : GO X b ob) : GE X (.BinOp a .BitAnd b p) (m2 rs dAnd oa ob) := mkE (pe_op op_and ha hb) (re_i0 xO xO)
end
/-! ### x += e, x a whole number -/
def sAug (i : Nat) (g : Int → Int → Int) (f : Mo D) : MoS := fun ρ => match ρ[i]? with
  | some (.sh (.int a)) => match f ρ with
    | some (.int b, ρ1) => if i < ρ1.length then some (.nx (ρ1.set i (.sh (.int (g a b))))) else none
    | _ => none
  | _ => none
section
variable {K : PySem.W.Frag} {n : Nat} {P : List Nat} {te : TE}
theorem Rp.intV {G : Hp} {v : V} {i : Int} (h : Rp K G v (.int i)) : v = .int i := by cases h; rfl
theorem rs_aug {i : Nat} {g : Int → Int → Int} {f : Mo D} (h : RE K te f) (hT : ∀ j ∈ P, j ∉ [i]) : RS K n P (tAug i te (rI0 fun a b => .int (g a b))) (sAug i g f) := fun ρ o e σ G H fp S Dn q => by
  unfold sAug at e
  split at e
  · rename_i a e0
    split at e
    · rename_i b ρ1 e1
      split at e
      · rename_i hi
        cases e
        obtain ⟨v, e2, r⟩ := S.sh e0
        rw [r.intV] at e2
        refine ⟨.int a, e2, h ρ _ _ e1 σ G H fp S _ fun w G1 H1 fp1 st1 S1 r1 => ⟨a, b, rfl, r1.intV, ?_⟩⟩
        refine rg_name (i := i) (.int (g a b)) ρ1 _ (if_pos hi) (.int (g a b)) σ G1 H1 fp1 S1 (.int _) _ fun σ' fp' S' h1 h2 h3 => ?_
        exact q σ' G1 H1 fp' (st1.less h1) S' fun j hj => h2 j (hT j hj)
      · cases e
    · cases e
  · cases e
end
section
variable {X : Cx} {k n m : Nat} {e a b : Expr} {pos p p2 p3 : Pos} {f : Mo D} {oa ob : Mo Opd} {P : List Nat} {x : Str}
theorem s_augA (c : Cok X k) (i : Nat) (hi : X.N[i]? = some x) (hx : Loc X.env.scope x) (h : GE X e f) (hP : ∀ j ∈ P, j ∉ [i]) (hf : X.fn x = true ∨ X.env.scope.names.lookup x = some .local := by first | exact .inl rfl | exact .inr rfl) : GS X n P (.AugAssign (.Name x p2) .Add e pos) (sAug i (fun a b => a + b) f) :=
  mkS (ps_aug c.nd hi hx h iop_add hf) (rs_aug xE hP)
end
def augS (i : Nat) (g : Int → Int → Int) (f : Mo D) (ρ : Nt.Env) : Sl → Option Out
  | .sh (.int a) => ob (f ρ) fun p => match p.1 with
    | .int b => szI (i < p.2.length) (some (.nx (p.2.set i (.sh (.int (g a b))))))
    | _ => none
  | _ => none
@[simp] theorem augS_ev (i : Nat) (g : Int → Int → Int) (f : Mo D) (a b : Int) (ρ ρ1 : Nt.Env) (h : f ρ = some (.int b, ρ1)) : augS i g f ρ (.sh (.int a)) = szI (i < ρ1.length) (some (.nx (ρ1.set i (.sh (.int (g a b)))))) := by
  unfold augS
  rw [h]
  rfl
@[simp] theorem sAug_ev (i : Nat) (g : Int → Int → Int) (f : Mo D) : sAug i g f (s0 :: ρ0) = ob (s0 :: ρ0)[i]? fun s => augS i g f (s0 :: ρ0) s := by
  unfold sAug
  cases (s0 :: ρ0)[i]? with
  | none => rfl
  | some s =>
    rw [ob_some]
    cases s with
    | sh d =>
      cases d with
      | int a =>
        simp only [augS]
        cases f (s0 :: ρ0) with
        | none => rfl
        | some p =>
          obtain ⟨d, ρ1⟩ := p
          rw [ob_some]
          cases d <;> rfl
      | _ => rfl
    | _ => rfl
/-! ### len(dict(pairs)), the keys tuples of whole numbers -/
def nubL (ks : List (List Int)) : List (List Int) := ks.foldl (fun acc k => if k ∈ acc then acc else acc ++ [k]) []
theorem nub_le : ∀ (ks acc : List (List Int)), (ks.foldl (fun acc k => if k ∈ acc then acc else acc ++ [k]) acc).length ≤ acc.length + ks.length
  | [], acc => by simp
  | k :: ks, acc => by
    rw [List.foldl_cons, List.length_cons]
    have h := nub_le ks (if k ∈ acc then acc else acc ++ [k])
    have h2 : (if k ∈ acc then acc else acc ++ [k]).length ≤ acc.length + 1 := by
      split
      · omega
      · rw [List.length_append, List.length_singleton]; exact Nat.le_refl _
    omega
theorem stored_keys (acc : List (List Int × Value)) (k : List Int) (v : Value) : (stored acc k v).map (·.1) = if k ∈ acc.map (·.1) then acc.map (·.1) else acc.map (·.1) ++ [k] := by
  unfold stored
  by_cases h : k ∈ acc.map (·.1)
  · have h2 : (acc.any fun kv => decide (kv.1 = k)) = true := by
      obtain ⟨p, hp, e⟩ := List.mem_map.mp h
      exact List.any_eq_true.mpr ⟨p, hp, decide_eq_true e⟩
    rw [if_pos h2, if_pos h, List.map_map]
    refine List.map_congr_left fun p _ => ?_
    show (if p.1 = k then (p.1, v) else p).1 = p.1
    split <;> rfl
  · have h2 : ¬ (acc.any fun kv => decide (kv.1 = k)) = true := fun z => by
      obtain ⟨p, hp, e⟩ := List.any_eq_true.mp z
      exact h (List.mem_map.mpr ⟨p, hp, of_decide_eq_true e⟩)
    rw [if_neg h2, if_neg h, List.map_append]
    rfl
theorem merged_keys : ∀ (kvs acc : List (List Int × Value)), (merged acc kvs).map (·.1) = (kvs.map (·.1)).foldl (fun acc k => if k ∈ acc then acc else acc ++ [k]) (acc.map (·.1))
  | [], acc => rfl
  | p :: kvs, acc => by
    unfold merged
    rw [List.foldl_cons, List.map_cons, List.foldl_cons]
    have := merged_keys kvs (stored acc p.1 p.2)
    unfold merged at this
    rw [this, stored_keys]
def tLenD (K : PySem.W.Frag) (ta : TE) : TE := fun σ H Q => ta σ H fun x H1 => ∃ (a : Addr) (ps : List Addr) (qs : List (List Int × Addr × V)), x = V.ref a ∧ SqL K H1 a (ps.map V.ref) ∧ Paired (fun p q => SqT K H1 p [.ref q.2.1, q.2.2] ∧ SqT K H1 q.2.1 (q.1.map V.int)) ps qs ∧ Q (.int ((nubL (qs.map (·.1))).length : Nat)) H1
section
variable {X : Cx}
theorem keys_of {pins : List (Addr × Obj)} {σ : L2.St} {H : Hp} {s : Shared} (I : Inv X pins σ H s) : ∀ {ps : List Addr} {qs : List (List Int × Addr × V)}, Paired (fun p q => SqT X.K H p [.ref q.2.1, q.2.2] ∧ SqT X.K H q.2.1 (q.1.map V.int)) ps qs →
    ∃ ks : List (List Int × Addr × Value), ks.map (·.1) = qs.map (·.1) ∧ ks.length = ps.length ∧ ∀ (j : Nat) (x : List Int × Addr × Value), ks[j]? = some x → ∃ b, ps[j]? = some b ∧ IsTup s.heap b #[.ref x.2.1, x.2.2] ∧ IsTupleKey (intKind X.prog X.w) s.heap x.1 x.2.1
  | _, _, .nil => ⟨[], rfl, rfl, fun j x e => by simp at e⟩
  | _, _, .cons (a := p) (b := q) h t => by
    obtain ⟨ks, r, hl, hp⟩ := keys_of I t
    obtain ⟨its, rv, ht, _⟩ := I.tuple h.1
    obtain ⟨u, y, rfl, ru, ry⟩ := vals2 rv
    cases ru
    obtain ⟨its2, rv2, ⟨o, e1, e2, n, e3⟩, _⟩ := I.tuple h.2
    refine ⟨(q.1, q.2.1, y) :: ks, by rw [List.map_cons, List.map_cons, r], by rw [List.length_cons, List.length_cons, hl], fun j x e => ?_⟩
    cases j with
    | zero =>
      have e' : (q.1, q.2.1, y) = x := Option.some.inj e
      subst e'
      exact ⟨p, rfl, ht, ⟨o, its2.toArray, n, e1, e2, e3, by simpa using items_of_vals rv2⟩⟩
    | succ j =>
      obtain ⟨b, f1, f2, f3⟩ := hp j x (by simpa using e)
      exact ⟨b, by simpa using f1, f2, f3⟩
theorem pe_lenDct {a : Expr} {ta : TE} {p p2 q pos : Pos} (hc : X.calm = true) (hu : X.A.units + 64 < cLine) (hg : Gl X "len") (hm : X.mg "len" = none) (hg2 : Gl X "dict") (hm2 : X.mg "dict" = none) (ha : PE X a ta)
    (na : starEach [a] X.env = (false, eval a X.env) :: starEach [] X.env := by rfl) : PE X (.Call (.Name "len" p) [.Call (.Name "dict" p2) [a] [] q] [] pos) (tLenD X.K ta) := by
  refine ⟨fun pins s σ H Q I h => ?_⟩
  refine Call_ (ld_blt I hg hm PySem.boot_len ?_)
  refine PyProof.Rows.callWith_builtin1 (PyProof.Rows.args_cons ?_ rfl) rfl rfl
  refine Call_ (ld_blt I hg2 hm2 PyProof.Rows.boot_dict ?_)
  refine PyProof.Rows.callWith_type1 (PyProof.Rows.args_cons (thn (ha.run pins s σ H _ I h) fun v s1 ⟨x, H1, I1, r1, q1⟩ => PyProof.Rows.args_nil ?_) na) na rfl
  obtain ⟨l, ps, qs, rfl, hq, hp, q1⟩ := q1
  cases r1
  obtain ⟨its, rv, ⟨o, n, e1, e2, e4, e3⟩, hz⟩ := I1.list hq
  have ei := refs_at rv
  subst ei
  rw [List.length_map] at hz
  obtain ⟨ks, hk1, hkl, hk2⟩ := keys_of I1 hp
  have hd := I1.ok.hd hc
  refine dict_keyed (knd := tupleKind (intKind X.prog X.w)) (kvs := pairsH ks) tupleKind_stays (PairArg.list (prog := X.prog) (w := X.w) l (ps.map Value.ref).toArray (fun j => (ps[j]?).getD 0) (ks.map fun x => (Value.ref x.2.1, x.2.2))) hd ?_ ⟨⟨o, n, e1, e2, e4, e3⟩, by simp [hkl], fun j k v e => ?_⟩ ⟨ks, rfl, ⟨by simp, fun i key v e => ?_⟩, fun x hx => ?_⟩ (fun h' hk k b x => tupleKind_stays.stays (fun b' o' vs n' e _ => hk b' o' (by simp) e) x) (by simpa [hkl] using hz) fun h' tk hd' hk => ?_
  · show X.A.in1.in1.units < cLine
    show X.A.units + 1 + 1 < cLine
    omega
  · rw [List.getElem?_map] at e
    obtain ⟨x, hx, ex⟩ := Option.map_eq_some_iff.mp e
    cases ex
    obtain ⟨b, f1, f2, f3⟩ := hk2 j x hx
    refine ⟨by simp [f1], .inl ?_⟩
    show s1.heap.IsTuple ((ps[j]?).getD 0) _
    rw [f1]
    exact f2
  · have e' : (ks.map fun x => (Value.ref x.2.1, x.2.2))[i]? = some (key, v) := e
    rw [List.getElem?_map] at e'
    obtain ⟨x, hx, ex⟩ := Option.map_eq_some_iff.mp e'
    cases ex
    exact ⟨x.1, x.2.1, hx, rfl⟩
  · obtain ⟨j, hj⟩ := List.mem_iff_getElem?.mp hx
    obtain ⟨b, f1, f2, f3⟩ := hk2 j x hj
    exact f3
  · refine PyProof.Rows.args_nil ?_
    have I2 : Inv X pins σ H1 { s1 with heap := h', toks := tk } := I1.kept fun b o e => hk b o (by simp) e
    obtain ⟨xs, hm3, em⟩ := hd'
    have hlen : xs.length = (nubL (qs.map (·.1))).length := by
      have h1 := congrArg (fun z => (z.map (·.1)).length) em
      simp only [List.length_map, pairsH_length] at h1
      rw [h1]
      have h2 := merged_keys (pairsH ks) []
      have h3 : (pairsH ks).map (·.1) = qs.map (·.1) := by
        rw [← hk1]
        unfold pairsH
        rw [List.map_map]
        rfl
      rw [h3] at h2
      have h4 := congrArg List.length h2
      rw [List.length_map] at h4
      exact h4
    have hsm : (s1.heap.objs.size == sysModules) = false := beq_eq_false_iff_ne.mpr (Nat.ne_of_gt I1.big)
    have hfit : xs.length ≤ ps.length := by
      have h1 := congrArg List.length em
      rw [pairsH_length] at h1
      have h2 := congrArg List.length (merged_keys (pairsH ks) [])
      rw [List.length_map] at h2
      rw [h1, h2, ← hkl, ← pairsH_length ks, ← List.length_map (f := (·.1)) (as := pairsH ks)]
      exact Nat.le_trans (nub_le _ _) (by simp)
    refine call_len_dictH hsm hm3 (by rw [sizeLine_eq] at hz; omega) ?_
    rw [hlen]
    exact ⟨.int ((nubL (qs.map (·.1))).length : Nat), H1, I2.tok _, ⟨_, rfl⟩, q1⟩
end
def keyT : D → Option (List Int)
  | .tuple [.tuple ds, _] => asInts ds
  | _ => none
def keysT : List D → Option (List (List Int))
  | [] => some []
  | d :: ds => match keyT d, keysT ds with
    | some k, some ks => some (k :: ks)
    | _, _ => none
def lenDS : D → Option D
  | .list ds => (keysT ds).map fun ks => .int ((nubL ks).length : Nat)
  | _ => none
def mLenD (f : Mo D) : Mo D := fun ρ => ob (f ρ) fun p => ob (lenDS p.1) fun z => some (z, p.2)
@[simp] theorem mLenD_ev (f : Mo D) : mLenD f (s0 :: ρ0) = ob (f (s0 :: ρ0)) fun p => ob (lenDS p.1) fun z => some (z, p.2) := id rfl
theorem keysT_paired {K : PySem.W.Frag} {G H : Hp} (sb : Sub G H) : ∀ {vs : List V} {ds : List D} {ks : List (List Int)}, RpA K G vs ds → keysT ds = some ks → ∃ (ps : List Addr) (qs : List (List Int × Addr × V)), vs = ps.map V.ref ∧ qs.map (·.1) = ks ∧ Paired (fun p q => SqT K H p [.ref q.2.1, q.2.2] ∧ SqT K H q.2.1 (q.1.map V.int)) ps qs
  | _, _, ks, .nil, e => by
    cases e
    exact ⟨[], [], rfl, rfl, .nil⟩
  | _, _, ks, .cons (d := d) (ds := ds) r t, e => by
    unfold keysT at e
    split at e
    · rename_i k ks' e1 e2
      cases e
      obtain ⟨ps, qs, h1, h2, h3⟩ := keysT_paired sb t e2
      unfold keyT at e1
      split at e1
      · rename_i es v
        obtain ⟨a, ws, rfl, g1, p1⟩ := r.tuple'
        cases p1 with
        | cons q1 q2 =>
          cases q2 with
          | cons q3 q4 =>
            cases q4
            obtain ⟨b, us, rfl, g2, p2⟩ := q1.tuple'
            have hd := asInts_ok e1
            subst hd
            have hu := p2.ints
            subst hu
            refine ⟨a :: ps, (k, b, _) :: qs, by rw [h1]; rfl, by rw [List.map_cons, h2], .cons ⟨sb.sqT g1, sb.sqT g2⟩ h3⟩
      · cases e1
    · cases e
theorem re_lenD {K : PySem.W.Frag} {te : TE} {f : Mo D} (h : RE K te f) : RE K (tLenD K te) (mLenD f) := fun ρ z ρ' e σ G H fp S Q q => by
  unfold mLenD at e
  cases ef : f ρ with
  | none => rw [ef] at e; cases e
  | some p =>
    obtain ⟨d, ρ1⟩ := p
    rw [ef, ob_some] at e
    cases d with
    | list ds =>
      simp only [lenDS] at e
      cases ek : keysT ds with
      | none => rw [ek] at e; cases e
      | some ks =>
        rw [ek] at e
        cases e
        refine h ρ _ _ ef σ G H fp S _ fun v G1 H1 fp1 st1 S1 r1 => ?_
        obtain ⟨a, vs, rfl, g1, p1⟩ := r1.list'
        obtain ⟨ps, qs, rfl, h2, h3⟩ := keysT_paired S1.sub p1 ek
        refine ⟨a, ps, qs, rfl, SqL.of (S1.sub _ _ g1), h3, ?_⟩
        rw [h2]
        exact q _ G1 H1 fp1 st1 S1 (.int _)
    | _ => cases e
section
variable {X : Cx} {k : Nat} {a : Expr} {f : Mo D} {p p2 q pos : Pos}
theorem g_lenD (c : Cok X k) (B : Bt X "len") (B2 : Bt X "dict") (h : GE X a f) (na : starEach [a] X.env = (false, eval a X.env) :: starEach [] X.env := by rfl) : GE X (.Call (.Name "len" p) [.Call (.Name "dict" p2) [a] [] q] [] pos) (mLenD f) :=
  mkE (pe_lenDct c.calm (by have := c.un; omega) B.gl B.mg B2.gl B2.mg h na) (re_lenD xE)
end
end Nt

/-! zip(x, y, strict=True) of two lists (printed by mk36.py) -/
namespace Nt
open PySem PySem.Spec PyProof.Rows L2 RZ
namespace LZ
abbrev IsZipS (h : Heap) (z TI TO : Addr) (f0 : Value) : Prop := h.get? z = some { cls := .type "zip", data := .fields #[f0, .bool false, .bool true, .ref TI, .ref TO] }
section
variable {prog : Program} {w : World} {A : Around} {E : Value → Shared → Prop} {s : Shared}
theorem nextOrEnd_item {it l : Addr} {i : Nat} {items : Array Value} {x : Value} {Q : Option Value → Shared → Prop} (hit : s.heap.IsListIter it l i) (hl : s.heap.IsList l items) (hx : items[i]? = some x)
    (hQ : ∀ h', h'.IsListIter it l (i + 1) → Heap.SameBut it s.heap h' → Q (some x) { s with heap := h' }) : wpAny (model prog w) A (Builtin.SmallTypes.nextOrEnd (.ref it)) Q E s := by
  unfold Builtin.SmallTypes.nextOrEnd
  exact wpAny_bind (wpAny_attempt (wpAny_nextOf_list_item hit hl hx fun h' a b => wpAny_pure (hQ h' a b)))
theorem nextOrEnd_end {it l : Addr} {i : Nat} {items : Array Value} {Q : Option Value → Shared → Prop} (hh : A.handled = none) (hit : s.heap.IsListIter it l i) (hl : s.heap.IsList l items) (hx : items[i]? = none)
    (hQ : ∀ h', Heap.ExtBut it s.heap h' → Q none { s with heap := h' }) : wpAny (model prog w) A (Builtin.SmallTypes.nextOrEnd (.ref it)) Q E s := by
  unfold Builtin.SmallTypes.nextOrEnd
  refine wpAny_bind (wpAny_attempt (wpAny_nextOf_list_end hh hit hl hx fun h' e hk he => ?_))
  obtain ⟨o, ho, hc⟩ := he
  refine wpAny_bind (wpAny_isInstance (T := "StopIteration") (b := true) ⟨o, ho, hc⟩ isSubtype_stop ?_)
  exact wpAny_pure (hQ _ hk)
theorem zipS_item {z TI TO i1 i2 l1 l2 : Addr} {k1 k2 : Nat} {xs ys : Array Value} {x y a b : Value} {Q : Value → Shared → Prop} (D : ZipApart z TI TO i1 i2 l1 l2)
    (hz : IsZipS s.heap z TI TO .none) (hTI : IsPair s.heap TI (.ref i1) (.ref i2)) (hTO : IsPair s.heap TO a b)
    (h1 : s.heap.IsListIter i1 l1 k1) (h2 : s.heap.IsListIter i2 l2 k2) (hl1 : s.heap.IsList l1 xs) (hl2 : s.heap.IsList l2 ys) (hx : xs[k1]? = some x) (hy : ys[k2]? = some y)
    (hQ : ∀ h', IsZipS h' z TI TO (rawInt s.heap.objs.size) → IsPair h' TO x y → h'.IsListIter i1 l1 (k1 + 1) → h'.IsListIter i2 l2 (k2 + 1) → IsPair h' s.heap.objs.size x y → h'.objs.size = s.heap.objs.size + 1 →
      (∀ c o, c ≠ z → c ≠ TO → c ≠ i1 → c ≠ i2 → s.heap.get? c = some o → h'.get? c = some o) → Q (.ref s.heap.objs.size) { s with heap := h' }) :
    wpAny (model prog w) A (Builtin.«zip.__next__» ⟨[.ref z], []⟩) (fun fin s' => ∃ v, fin = .done (.ret v) ∧ Q v s') E s := by
  show wpAny _ _ (field (.ref z) 2 >>= _) _ _ _
  refine wpAny_bind (wpAny_field hz rfl (x := .bool true) rfl ?_)
  show wpAny _ _ (field (.ref z) 3 >>= _) _ _ _
  refine wpAny_bind (wpAny_field hz rfl (x := .ref TI) rfl ?_)
  refine wpAny_bind (wpAny_seqItems hTI rfl ?_)
  show wpAny _ _ (Builtin.SmallTypes.ownedTupleIsFree (.ref z) >>= _) _ _ _
  refine wpAny_bind ?_
  unfold Builtin.SmallTypes.ownedTupleIsFree
  refine wpAny_bind (wpAny_field hz rfl (x := .none) rfl (wpAny_pure ?_))
  simp only [if_true]
  refine wpAny_bind (wpAny_rule ?_)
  refine wpAny_bind (wpAny_field hz rfl (x := .ref TO) rfl ?_)
  refine wpAny_bind (wpAny_setField_rec hz (by simp) fun h₁ hz₁ hs₁ => ?_)
  replace hz₁ : IsZipS h₁ z TI TO .ellipsis := hz₁
  refine wpAny_bind ?_
  simp only [List.zipIdx_cons, List.zipIdx_nil, List.forIn_cons, List.forIn_nil]
  refine wpAny_bind (wpAny_bind (wpAny_onRaise ?_))
  show wpAny _ _ (Builtin.SmallTypes.nextOrEnd (.ref i1)) _ _ _
  refine nextOrEnd_item (h1.extBut hs₁.extBut D.i1z) (hl1.extBut hs₁.extBut D.l1z) hx fun h₂ h1₂ hs₂ => ?_
  have hTO₂ : IsPair h₂ TO a b := hs₂.extBut _ _ D.TOi1 (hs₁.extBut _ _ D.TOz hTO)
  refine wpAny_bind (wpAny_seqItems hTO₂ rfl ?_)
  refine wpAny_bind (wpAny_updateSeq_pair hTO₂ fun h₃ hTO₃ hs₃ => ?_)
  replace hTO₃ : IsPair h₃ TO x b := hTO₃
  refine wpAny_bind (wpAny_letGo (wpAny_pure ?_))
  refine wpAny_bind (wpAny_bind (wpAny_onRaise ?_))
  show wpAny _ _ (Builtin.SmallTypes.nextOrEnd (.ref i2)) _ _ _
  refine nextOrEnd_item (((h2.extBut hs₁.extBut D.i2z).extBut hs₂.extBut D.i12.symm).extBut hs₃.extBut D.TOi2.symm)
    (((hl2.extBut hs₁.extBut D.l2z).extBut hs₂.extBut D.l2i1).extBut hs₃.extBut D.l2TO) hy fun h₄ h2₄ hs₄ => ?_
  have hTO₄ : IsPair h₄ TO x b := hs₄.extBut _ _ D.TOi2 hTO₃
  refine wpAny_bind (wpAny_seqItems hTO₄ rfl ?_)
  refine wpAny_bind (wpAny_updateSeq_pair hTO₄ fun h₅ hTO₅ hs₅ => ?_)
  replace hTO₅ : IsPair h₅ TO x y := hTO₅
  refine wpAny_bind (wpAny_letGo (wpAny_pure (wpAny_pure ?_)))
  refine wpAny_bind (wpAny_seqItems hTO₅ rfl ?_)
  refine wpAny_bind (wpAny_newTuple ?_)
  have hsz : h₅.objs.size = s.heap.objs.size := by rw [hs₅.1, hs₄.1, hs₃.1, hs₂.1, hs₁.1]
  have hz₅ : IsZipS h₅ z TI TO .ellipsis := hs₅.extBut _ _ D.TOz.symm (hs₄.extBut _ _ D.i2z.symm (hs₃.extBut _ _ D.TOz.symm (hs₂.extBut _ _ D.i1z.symm hz₁)))
  have hk₅ : ∀ c o, c ≠ z → c ≠ TO → c ≠ i1 → c ≠ i2 → s.heap.get? c = some o → h₅.get? c = some o := fun c o c1 c2 c3 c4 e =>
    hs₅.extBut _ _ c2 (hs₄.extBut _ _ c4 (hs₃.extBut _ _ c2 (hs₂.extBut _ _ c3 (hs₁.extBut _ _ c1 e))))
  have h1₅ : h₅.IsListIter i1 l1 (k1 + 1) := ((h1₂.extBut hs₃.extBut D.TOi1.symm).extBut hs₄.extBut D.i12).extBut hs₅.extBut D.TOi1.symm
  have h2₅ : h₅.IsListIter i2 l2 (k2 + 1) := h2₄.extBut hs₅.extBut D.TOi2.symm
  have hzlt : z < h₅.objs.size := Heap.lt_size hz₅
  show wpAny _ _ (Builtin.SmallTypes.ownedTupleHandOut (.ref z) (.ref h₅.objs.size) >>= _) _ _ _
  refine wpAny_bind ?_
  unfold Builtin.SmallTypes.ownedTupleHandOut
  have hz₆ : IsZipS (h₅.push { cls := .type "tuple", data := .seq #[x, y] }) z TI TO .ellipsis := Heap.get?_push_of_some _ hz₅
  refine wpAny_bind (wpAny_setField_rec hz₆ (by simp) fun h₇ hz₇ hs₇ => ?_)
  replace hz₇ : IsZipS h₇ z TI TO (rawInt h₅.objs.size) := hz₇
  refine wpAny_setField_rec hz₇ (by simp) fun h₈ hz₈ hs₈ => ?_
  replace hz₈ : IsZipS h₈ z TI TO (rawInt h₅.objs.size) := hz₈
  have up : ∀ c o, c ≠ z → h₅.get? c = some o → h₈.get? c = some o := fun c o c1 e => hs₈.extBut _ _ c1 (hs₇.extBut _ _ c1 (Heap.get?_push_of_some _ e))
  have hT₈ : IsPair h₈ h₅.objs.size x y := hs₈.extBut _ _ (Nat.ne_of_gt hzlt) (hs₇.extBut _ _ (Nat.ne_of_gt hzlt) (Heap.get?_push_size _ rfl))
  have hz8 : h₈.objs.size = h₅.objs.size + 1 := by rw [hs₈.1, hs₇.1, Heap.size_push]
  rw [hsz] at hz₈ hT₈ hz8
  refine wpAny_pure ⟨_, rfl, ?_⟩
  show Q (.ref h₅.objs.size) _
  rw [hsz]
  exact hQ h₈ hz₈ (up _ _ D.TOz hTO₅) (h1₅.at fun o e => up _ o D.i1z e) (h2₅.at fun o e => up _ o D.i2z e) hT₈ hz8 fun c o c1 c2 c3 c4 e => up c o c1 (hk₅ c o c1 c2 c3 c4 e)
theorem zipS_end {z TI TO i1 i2 l1 l2 : Addr} {k1 k2 : Nat} {xs ys : Array Value} {a b : Value} {Q : Fin → Shared → Prop} (hh : A.handled = none) (D : ZipApart z TI TO i1 i2 l1 l2)
    (hz : IsZipS s.heap z TI TO .none) (hTI : IsPair s.heap TI (.ref i1) (.ref i2)) (hTO : IsPair s.heap TO a b)
    (h1 : s.heap.IsListIter i1 l1 k1) (h2 : s.heap.IsListIter i2 l2 k2) (hl1 : s.heap.IsList l1 xs) (hl2 : s.heap.IsList l2 ys) (hx : xs[k1]? = none) (hy : ys[k2]? = none)
    (hE : ∀ h' e, (∀ c o, c ≠ z → c ≠ TO → c ≠ i1 → c ≠ i2 → s.heap.get? c = some o → h'.get? c = some o) → (∃ o, h'.get? e = some o ∧ o.cls = .type "StopIteration") → E (.ref e) { s with heap := h' }) :
    wpAny (model prog w) A (Builtin.«zip.__next__» ⟨[.ref z], []⟩) Q E s := by
  show wpAny _ _ (field (.ref z) 2 >>= _) _ _ _
  refine wpAny_bind (wpAny_field hz rfl (x := .bool true) rfl ?_)
  show wpAny _ _ (field (.ref z) 3 >>= _) _ _ _
  refine wpAny_bind (wpAny_field hz rfl (x := .ref TI) rfl ?_)
  refine wpAny_bind (wpAny_seqItems hTI rfl ?_)
  show wpAny _ _ (Builtin.SmallTypes.ownedTupleIsFree (.ref z) >>= _) _ _ _
  refine wpAny_bind ?_
  unfold Builtin.SmallTypes.ownedTupleIsFree
  refine wpAny_bind (wpAny_field hz rfl (x := .none) rfl (wpAny_pure ?_))
  simp only [if_true]
  refine wpAny_bind (wpAny_rule ?_)
  refine wpAny_bind (wpAny_field hz rfl (x := .ref TO) rfl ?_)
  refine wpAny_bind (wpAny_setField_rec hz (by simp) fun h₁ hz₁ hs₁ => ?_)
  replace hz₁ : IsZipS h₁ z TI TO .ellipsis := hz₁
  refine wpAny_bind ?_
  simp only [List.zipIdx_cons, List.zipIdx_nil, List.forIn_cons, List.forIn_nil]
  refine wpAny_bind (wpAny_bind (wpAny_onRaise ?_))
  show wpAny _ _ (Builtin.SmallTypes.nextOrEnd (.ref i1)) _ _ _
  refine nextOrEnd_end hh (h1.extBut hs₁.extBut D.i1z) (hl1.extBut hs₁.extBut D.l1z) hx fun h₂ hs₂ => ?_
  have hz₂ : IsZipS h₂ z TI TO .ellipsis := hs₂ _ _ D.i1z.symm hz₁
  refine wpAny_bind (wpAny_setField_rec hz₂ (by simp) fun h₃ hz₃ hs₃ => ?_)
  refine wpAny_bind ?_
  wp_delta
  rw [if_neg (by decide)]
  have q2 := ((h2.extBut hs₁.extBut D.i2z).extBut hs₂ D.i12.symm).extBut hs₃.extBut D.i2z
  have ql2 := ((hl2.extBut hs₁.extBut D.l2z).extBut hs₂ D.l2i1).extBut hs₃.extBut D.l2z
  simp only [List.drop_succ_cons, List.drop_zero, List.zipIdx_cons, List.zipIdx_nil, List.forIn_cons, List.forIn_nil]
  refine wpAny_bind (wpAny_bind (wpAny_bind (nextOrEnd_end hh q2 ql2 hy fun h₄ hs₄ => ?_)))
  show wpAny _ _ (pure (ForInStep.yield PUnit.unit)) _ _ _
  refine wpAny_pure (wpAny_pure ?_)
  refine wpAny_bind (wpAny_rule ?_)
  unfold Builtin.SmallTypes.stopIteration
  refine wpAny_bind ?_
  simp only [newExc, newTuple]
  refine wpAny_bind (wpAny_newObj_type ?_ (by size_fits))
  refine wpAny_bind (m := firstArgMember _ _) (wpAny_of_eq (a := Value.none) (by first | rfl | (simp only [firstArgMember]; rfl)) ?_)
  refine wpAny_newObj_type ?_ (by size_fits)
  simp only [raiseNew]
  refine wpAny_bind (wpAny_handled ?_)
  first | rw [show A.in1.handled = none from hh] | rw [hh]
  refine wpAny_bind (wpAny_pure (wpAny_throw ?_))
  refine hE _ _ (fun c o c1 _ c3 c4 x => ?_) ⟨_, Heap.get?_push_size _ rfl, rfl⟩
  exact ((hs₄.push _).push _) _ _ c4 (hs₃.extBut _ _ c1 (hs₂ _ _ c3 (hs₁.extBut _ _ c1 x)))
theorem pyNext_zipS_item {z TI TO i1 i2 l1 l2 : Addr} {k1 k2 : Nat} {xs ys : Array Value} {x y a b : Value} {Q : Option Value → Shared → Prop} (D : ZipApart z TI TO i1 i2 l1 l2)
    (hz : IsZipS s.heap z TI TO .none) (hTI : IsPair s.heap TI (.ref i1) (.ref i2)) (hTO : IsPair s.heap TO a b)
    (h1 : s.heap.IsListIter i1 l1 k1) (h2 : s.heap.IsListIter i2 l2 k2) (hl1 : s.heap.IsList l1 xs) (hl2 : s.heap.IsList l2 ys) (hx : xs[k1]? = some x) (hy : ys[k2]? = some y)
    (hQ : ∀ h', IsZipS h' z TI TO (rawInt s.heap.objs.size) → IsPair h' TO x y → h'.IsListIter i1 l1 (k1 + 1) → h'.IsListIter i2 l2 (k2 + 1) → IsPair h' s.heap.objs.size x y → h'.objs.size = s.heap.objs.size + 1 →
      (∀ c o, c ≠ z → c ≠ TO → c ≠ i1 → c ≠ i2 → s.heap.get? c = some o → h'.get? c = some o) → Q (some (.ref s.heap.objs.size)) { s with heap := h' }) :
    wpAny (model prog w) A (pyNext (.ref z)) Q E s := by
  have hT : s.TypeIs (.ref z) "zip" := ⟨_, hz, rfl⟩
  unfold pyNext
  exact wpAny_bind (wpAny_attempt (wpAny_callSpecial?_slot (name := Str.ofString "__next__") hT F.slot_zip_next
    (wpAny_call_entry F.slot_zip_next hT F.entry_zip_next
      (zipS_item D hz hTI hTO h1 h2 hl1 hl2 hx hy fun h' a1 a2 a3 a4 a5 a6 a7 => wpAny_pure (hQ h' a1 a2 a3 a4 a5 a6 a7)) (F.args_zip_next_1 _))))
theorem pyNext_zipS_end {z TI TO i1 i2 l1 l2 : Addr} {k1 k2 : Nat} {xs ys : Array Value} {a b : Value} {Q : Option Value → Shared → Prop} (hh : A.handled = none) (D : ZipApart z TI TO i1 i2 l1 l2)
    (hz : IsZipS s.heap z TI TO .none) (hTI : IsPair s.heap TI (.ref i1) (.ref i2)) (hTO : IsPair s.heap TO a b)
    (h1 : s.heap.IsListIter i1 l1 k1) (h2 : s.heap.IsListIter i2 l2 k2) (hl1 : s.heap.IsList l1 xs) (hl2 : s.heap.IsList l2 ys) (hx : xs[k1]? = none) (hy : ys[k2]? = none)
    (hQ : ∀ h', (∀ c o, c ≠ z → c ≠ TO → c ≠ i1 → c ≠ i2 → s.heap.get? c = some o → h'.get? c = some o) → Q none { s with heap := h' }) : wpAny (model prog w) A (pyNext (.ref z)) Q E s := by
  have hT : s.TypeIs (.ref z) "zip" := ⟨_, hz, rfl⟩
  unfold pyNext
  refine wpAny_bind (wpAny_attempt (wpAny_callSpecial?_slot (name := Str.ofString "__next__") hT F.slot_zip_next
    (wpAny_call_entry F.slot_zip_next hT F.entry_zip_next (zipS_end hh D hz hTI hTO h1 h2 hl1 hl2 hx hy fun h' e hk he => ?_) (F.args_zip_next_1 _))))
  obtain ⟨o, ho, hc⟩ := he
  refine wpAny_bind (wpAny_isInstance (T := "StopIteration") (b := true) ⟨o, ho, hc⟩ isSubtype_stop ?_)
  exact wpAny_pure (hQ _ hk)
theorem letOwned_zipS {elts : List Expr} {x1 : Nat} {pos : Pos} {z TI TO T : Addr} {Q : Unit → Shared → Prop} (hz : IsZipS s.heap z TI TO (rawInt T))
    (hQ : ∀ h', IsZipS h' z TI TO .none → Heap.SameBut z s.heap h' → Q () { s with heap := h' }) : wpAny (model prog w) A (letOwnedTupleGo (.Tuple elts x1 pos) (.ref z) (.ref T)) Q E s := by
  unfold letOwnedTupleGo
  refine wpAny_bind (wpAny_load hz ?_)
  show wpAny _ _ (if (["enumerate", "zip", "dict_itemiterator", "dict_reverseitemiterator", "odict_iterator", "itertools.zip_longest", "itertools.pairwise"].contains "zip" &&
      (#[rawInt T, .bool false, .bool true, .ref TI, .ref TO] : Array Value)[0]? == some (rawInt T)) = true then _ else _) Q E s
  rw [if_pos (by simp)]
  refine wpAny_bind (wpAny_rule ?_)
  show wpAny _ _ (setField (.ref z) 0 .none) Q E s
  exact wpAny_setField_rec hz (by simp) fun h' hz' hs' => hQ h' hz' hs'
theorem pyIter_zipS {z TI TO : Addr} {f0 : Value} {Q : Value → Shared → Prop} (hz : IsZipS s.heap z TI TO f0) (h : Q (.ref z) s) : wpAny (model prog w) A (pyIter (.ref z)) Q E s := by
  have hT : s.TypeIs (.ref z) "zip" := ⟨_, hz, rfl⟩
  refine wpAny_pyIter_slot hT F.slot_zip_iter (wpAny_call_entry F.slot_zip_iter hT F.entry_zip_iter ?_ (F.args_zip_iter_1 _))
  show wpAny _ _ (ret (.ref z)) _ _ s
  exact wpAny_pure ⟨_, rfl, "zip", _, hT, F.slot_zip_next.lookup, h⟩
end
theorem typeCall_zipS (a b c : Value) : checkTypeCall "zip" ⟨[a, b], [(Str.ofString "strict", c)]⟩ = pure () := by kernel_rfl
theorem newCall_zipS (a b c : Value) : checkBuiltinCall "zip.__new__" ⟨[.type "zip", a, b], [(Str.ofString "strict", c)]⟩ = pure () := by kernel_rfl
theorem args_initS (obj a b c : Value) : argsOk "object.__init__" ⟨[obj, a, b], [(Str.ofString "strict", c)]⟩ := by unfold argsOk; kernel_rfl
abbrev zipSH5 (h : Heap) (l1 l2 : Addr) : Heap := (zipH4 h l1 l2).push { cls := .type "zip", data := .fields #[.none, .bool false, .bool true, .ref (zipH2 h l1 l2).objs.size, .ref (zipH3 h l1 l2).objs.size] }
theorem meets_zipS_new (l1 l2 : Addr) (xs ys : Array Value) :
    Meets (Builtin.«zip.__new__» ⟨[.type "zip", .ref l1, .ref l2], [(Str.ofString "strict", .bool true)]⟩) (fun _ R s => s.heap.IsList l1 xs ∧ s.heap.IsList l2 ys ∧
      R (.ok (.ret (.ref (zipH4 s.heap l1 l2).objs.size))) { s with heap := zipSH5 s.heap l1 l2 }) :=
  .of_wp fun prog w A R s h => by
    obtain ⟨hp, g, d, tk, os⟩ := s; obtain ⟨hl1, hl2, h⟩ := h
    have hsub := sub_zip
    have hL1 : Heap.IsList (Shared.heap ⟨hp, g, d, tk, os⟩) l1 xs := hl1
    have hL2 : Heap.IsList (Shared.heap ⟨hp.push { cls := .type "list_iterator", data := .fields #[.ref l1, .int 0 0] }, g, d, tk, os⟩) l2 ys := Heap.IsList.push hl2 _
    have e1 : (Str.ofString "strict" == ("strict" : Str)) = true := by decide +kernel
    have e2 : (Str.ofString "strict" != ("strict" : Str)) = false := by decide +kernel
    wp_walk using wpAny_pyIter_list hL1, wpAny_pyIter_list hL2
    exact ⟨_, rfl, h⟩
section
variable {prog : Program} {w : World} {A : Around} {E : Value → Shared → Prop} {s : Shared}
theorem call_zipS {l1 l2 : Addr} {xs ys : Array Value} {Q : Value → Shared → Prop} (hl1 : s.heap.IsList l1 xs) (hl2 : s.heap.IsList l2 ys)
    (h : ∀ h', IsZipS h' (s.heap.objs.size + 4) (s.heap.objs.size + 2) (s.heap.objs.size + 3) .none → IsPair h' (s.heap.objs.size + 2) (.ref s.heap.objs.size) (.ref (s.heap.objs.size + 1)) →
      IsPair h' (s.heap.objs.size + 3) .none .none → h'.IsListIter s.heap.objs.size l1 0 → h'.IsListIter (s.heap.objs.size + 1) l2 0 → h'.objs.size = s.heap.objs.size + 5 →
      (∀ c o, s.heap.get? c = some o → h'.get? c = some o) → Q (.ref (s.heap.objs.size + 4)) { s with heap := h' }) :
    wpAny (model prog w) A (call (.type "zip") [.ref l1, .ref l2] [(Str.ofString "strict", .bool true)]) Q E s := by
  refine callType_newKw F.called_zip (by decide) (typeCall_zipS _ _ _) (newCall_zipS _ _ _) (fun obj => args_initS obj _ _ _) F.entry_zip_new
    (meets_zipS_new l1 l2 xs ys) ⟨hl1, hl2, ?_⟩
  have z1 : (zipH1 s.heap l1).objs.size = s.heap.objs.size + 1 := Heap.size_push ..
  have z2 : (zipH2 s.heap l1 l2).objs.size = s.heap.objs.size + 2 := by rw [Heap.size_push, z1]
  have z3 : (zipH3 s.heap l1 l2).objs.size = s.heap.objs.size + 3 := by rw [Heap.size_push, z2]
  have z4 : (zipH4 s.heap l1 l2).objs.size = s.heap.objs.size + 4 := by rw [Heap.size_push, z3]
  have z5 : (zipSH5 s.heap l1 l2).objs.size = s.heap.objs.size + 5 := by rw [Heap.size_push, z4]
  have g5 : (zipSH5 s.heap l1 l2).get? (zipH4 s.heap l1 l2).objs.size = some _ := Heap.get?_push_size _ rfl
  have g4 : (zipSH5 s.heap l1 l2).get? (zipH3 s.heap l1 l2).objs.size = some _ := Heap.get?_push_of_some _ (Heap.get?_push_size _ rfl)
  have g3 : (zipSH5 s.heap l1 l2).get? (zipH2 s.heap l1 l2).objs.size = some _ := Heap.get?_push_of_some _ (Heap.get?_push_of_some _ (Heap.get?_push_size _ rfl))
  have g2 : (zipSH5 s.heap l1 l2).get? (zipH1 s.heap l1).objs.size = some _ := Heap.get?_push_of_some _ (Heap.get?_push_of_some _ (Heap.get?_push_of_some _ (Heap.get?_push_size _ rfl)))
  have g1 : (zipSH5 s.heap l1 l2).get? s.heap.objs.size = some _ := Heap.get?_push_of_some _ (Heap.get?_push_of_some _ (Heap.get?_push_of_some _ (Heap.get?_push_of_some _ (Heap.get?_push_size _ rfl))))
  show _ ∧ _
  rw [z2, z3, z4] at g5
  rw [z1, z2] at g3
  rw [z3] at g4
  rw [z1] at g2
  rw [z4]
  exact ⟨⟨_, g5, rfl⟩, h _ g5 g3 g4 ⟨_, g1, rfl, rfl⟩ ⟨_, g2, rfl, rfl⟩ z5 fun c o x =>
    Heap.get?_push_of_some _ (Heap.get?_push_of_some _ (Heap.get?_push_of_some _ (Heap.get?_push_of_some _ (Heap.get?_push_of_some _ x))))⟩
end
/-- the tuples at a and b, of one length, their items in new pairs -/
def ItzS (K : PySem.W.Frag) (a b : Addr) : It :=
  ⟨fun i H => ∃ (xs ys : List V) (x y : V), SqL K H a xs ∧ SqL K H b ys ∧ xs[i]? = some x ∧ ys[i]? = some y,
    fun i H v H' => ∃ T x y o, v = .ref T ∧ H T = none ∧ o.dict = none ∧ H' = upd H T (.frz o (.tup [x, y])) ∧ (∀ xs, SqL K H a xs → xs[i]? = some x) ∧ ∀ ys, SqL K H b ys → ys[i]? = some y,
    fun i H => ∃ xs ys : List V, SqL K H a xs ∧ SqL K H b ys ∧ xs.length ≤ i ∧ ys.length ≤ i⟩
theorem turn_zipS {P : Program} {w : World} {K : PySem.W.Frag} {elts : List Expr} {kk : Nat} {tpos : Pos} {a b z TI TO i1 i2 : Addr} (D : ZipApart z TI TO i1 i2 a b) :
    Turn P w K (.Tuple elts kk tpos) (ItzS K a b) [z, TI, TO, i1, i2] z (fun i h => IsZipS h z TI TO .none ∧ IsPair h TI (.ref i1) (.ref i2) ∧ (∃ x y, IsPair h TO x y) ∧ h.IsListIter i1 a i ∧ h.IsListIter i2 b i) where
  mem := by simp
  obj := fun i h st c hc => by
    obtain ⟨hz, hTI, ⟨x, y, hTO⟩, ⟨o1, e1, _, d1⟩, ⟨o2, e2, _, d2⟩⟩ := st
    have e' : c = z ∨ c = TI ∨ c = TO ∨ c = i1 ∨ c = i2 := by simpa using hc
    rcases e' with q | q | q | q | q
    · rw [q]; exact ⟨_, hz, fun v q => nomatch q⟩
    · rw [q]; exact ⟨_, hTI, fun v q => nomatch q⟩
    · rw [q]; exact ⟨_, hTO, fun v q => nomatch q⟩
    · rw [q]; exact ⟨o1, e1, fun v q => by rw [d1] at q; cases q⟩
    · rw [q]; exact ⟨o2, e2, fun v q => by rw [d2] at q; cases q⟩
  keep := fun i h h' st k => by
    obtain ⟨hz, hTI, ⟨x, y, hTO⟩, h1, h2⟩ := st
    exact ⟨k z (by simp) _ hz, k TI (by simp) _ hTI, ⟨x, y, k TO (by simp) _ hTO⟩, h1.at fun o q => k i1 (by simp) o q, h2.at fun o q => k i2 (by simp) o q⟩
  item := by
    intro X hP hw hK hc i pins s σ H E I hf st hg
    subst hP hw hK
    obtain ⟨hz, hTI, ⟨x0, y0, hTO⟩, h1, h2⟩ := st
    obtain ⟨xs, ys, x, y, hqx, hqy, hx, hy⟩ := hg
    obtain ⟨its, rv, p, _⟩ := I.list hqx
    obtain ⟨its2, rv2, p2, _⟩ := I.list hqy
    obtain ⟨u, hu, ru⟩ := rv.get hx
    obtain ⟨u2, hu2, ru2⟩ := rv2.get hy
    have hzl : z < s.heap.objs.size := Heap.lt_size hz
    refine pyNext_zipS_item D hz hTI hTO h1 h2 p.isList p2.isList (x := u) (y := u2) (by simpa using hu) (by simpa using hu2) fun h' z' TO' h1' h2' hT hsz hk => ?_
    refine ⟨_, rfl, letOwned_zipS (s := { s with heap := h' }) z' fun h'' z'' sb => ?_⟩
    have hT2 : h''.get? s.heap.objs.size = some { cls := .type "tuple", data := .seq #[u, u2] } := (sb.2 _ (Nat.ne_of_gt hzl)).trans hT
    have I1 : Inv X pins σ (upd H s.heap.objs.size (.frz (tupO #[u, u2]) (.tup [x, y]))) { s with heap := h'' } :=
      I.turnedNew (t' := s.toks) (ch := [z, TI, TO, i1, i2]) (fun c o hb q => (sb.2 c (fun q' => hb (by simp [q']))).trans (hk c o (fun q' => hb (by simp [q'])) (fun q' => hb (by simp [q'])) (fun q' => hb (by simp [q'])) (fun q' => hb (by simp [q'])) q)) hf (Nat.le_refl _) (tup_at (us := [u, u2]) (by show 2 ≤ sizeLine; decide) (.cons ru (.cons ru2 .nil)) hT2 rfl rfl)
    refine ⟨.ref s.heap.objs.size, _, I1, rfl, ⟨_, x, y, _, rfl, I.hok.fresh (Nat.le_refl _), rfl, rfl, fun l hl => by rw [I.list_inj hl hqx]; exact hx, fun l hl => by rw [I.list_inj hl hqy]; exact hy⟩, ⟨z'', ?_, ⟨u, u2, ?_⟩, ?_, ?_⟩, fun c hcm => ?_⟩
    · exact (sb.2 _ D.TIz).trans (hk _ _ D.TIz D.TITO D.TIi1 D.TIi2 hTI)
    · exact (sb.2 _ D.TOz).trans TO'
    · exact h1'.at fun o q => (sb.2 _ D.i1z).trans q
    · exact h2'.at fun o q => (sb.2 _ D.i2z).trans q
    · have hlt : c < s.heap.objs.size := by
        have e' : c = z ∨ c = TI ∨ c = TO ∨ c = i1 ∨ c = i2 := by simpa using hcm
        rcases e' with q | q | q | q | q
        · rw [q]; exact hzl
        · rw [q]; exact Heap.lt_size hTI
        · rw [q]; exact Heap.lt_size hTO
        · rw [q]; obtain ⟨_, e1, _⟩ := h1; exact Heap.lt_size e1
        · rw [q]; obtain ⟨_, e2, _⟩ := h2; exact Heap.lt_size e2
      rw [upd_ne (Nat.ne_of_lt hlt)]
      exact (hf c hcm).1
  done := by
    intro X hP hw hK hc i pins s σ H E I hf st hg
    subst hP hw hK
    obtain ⟨hz, hTI, ⟨x0, y0, hTO⟩, h1, h2⟩ := st
    obtain ⟨xs, ys, hqx, hqy, hend⟩ := hg
    obtain ⟨its, rv, p, _⟩ := I.list hqx
    obtain ⟨its2, rv2, p2, _⟩ := I.list hqy
    have l1 := rv.length
    have l2 := rv2.length
    exact pyNext_zipS_end (I.ok.hd hc) D hz hTI hTO h1 h2 p.isList p2.isList (by simp; omega) (by simp; omega) fun h' hk => ⟨rfl, I.turnedL (t' := s.toks) (ch := [z, TI, TO, i1, i2]) (fun c o hb q =>
      hk c o (fun q' => hb (by simp [q'])) (fun q' => hb (by simp [q'])) (fun q' => hb (by simp [q'])) (fun q' => hb (by simp [q'])) q) hf⟩
  self := fun A i s Q E st h => pyIter_zipS st.1 h
def iZipS (K : PySem.W.Frag) (ta : TA) : TI := fun σ H R => ta σ H fun vs H1 => ∃ a b xs ys, vs = [.ref a, .ref b] ∧ SqL K H1 a xs ∧ SqL K H1 b ys ∧ R (ItzS K a b) H1
theorem pi_zipSL {X : Cx} {e e2 : Expr} {ta : TA} {p p3 p4 pos tpos : Pos} {elts : List Expr} {kk j : Nat} (hg : Gl X "zip") (hm : X.mg "zip" = none) (ha : PA X [e, e2] ta)
    (he : backTo pos (starEach [e, e2] X.env) = (false, eval e X.env) :: backTo pos (starEach [e2] X.env)) (hpl : (backTo pos (starEach [e, e2] X.env)).any (·.1) = false)
    (hall : (backToKw pos (keywordEach [⟨some (Str.ofString "strict"), .Constant (.bool true) j p3, p4⟩] X.env)).all (·.1.isSome) = true)
    (hnone : (backToKw pos (keywordEach [⟨some (Str.ofString "strict"), .Constant (.bool true) j p3, p4⟩] X.env)).any (·.1.isNone) = false)
    (hks : (backToKw pos (keywordEach [⟨some (Str.ofString "strict"), .Constant (.bool true) j p3, p4⟩] X.env)).filterMap (·.1) = [Str.ofString "strict"]) :
    PI X (.Tuple elts kk tpos) (.Call (.Name "zip" p) [e, e2] [⟨some (Str.ofString "strict"), .Constant (.bool true) j p3, p4⟩] pos) (iZipS X.K ta) := by
  refine ⟨fun pins s σ H R I h => ?_⟩
  refine wpAny_Call_Name_kw (ld_blt I hg hm PyProof.Rows.boot_zip ?_)
  refine callWith_typeKw hpl hnone ?_
  rw [he]
  refine evalArgs_kwB hall ?_
  rw [← he]
  refine thn (ha.run pos pins s σ H _ I h) fun us s1 ⟨vs, H1, I1, r1, q1⟩ => ?_
  have pk : PK X [⟨some (Str.ofString "strict"), .Constant (.bool true) j p3, p4⟩] (tCons (tC (.bl true)) tNil) := pk_cons pe_bl pk_nil
  refine thn (pk.run pos pins s1 σ H1 (fun zs H2 => zs = [.bl true] ∧ H2 = H1) I1 ⟨rfl, rfl⟩) fun ws s2 ⟨zs, H2, I2, r2, hz, hH⟩ => ?_
  subst hz hH
  rw [hks]
  obtain ⟨a, b, xs, ys, ex, hqx, hqy, q⟩ := q1
  subst ex
  obtain ⟨w1, ew, rw1⟩ := vals1 r2
  subst ew
  cases rw1
  cases r1 with
  | cons r rr =>
    cases rr with
    | cons r' rr =>
      cases rr
      cases r
      cases r'
      obtain ⟨its, rv, p1, _⟩ := I2.list hqx
      obtain ⟨its2, rv2, p2, _⟩ := I2.list hqy
      have la : a < s2.heap.objs.size := p1.lt
      have lb : b < s2.heap.objs.size := p2.lt
      refine call_zipS p1.isList p2.isList fun h' hz hTI hTO h1 h2 hsz hk => pyIter_zipS hz ?_
      have I3 : Inv X pins σ H2 { s2 with heap := h' } := I2.kept (t' := s2.toks) hk
      refine ⟨s2.heap.objs.size + 4, [s2.heap.objs.size + 4, s2.heap.objs.size + 2, s2.heap.objs.size + 3, s2.heap.objs.size, s2.heap.objs.size + 1], _, _, H2, rfl, I3, turn_zipS (PySem.W.ktu_apart s2.heap.objs.size a b la lb), ⟨hz, hTI, ⟨_, _, hTO⟩, h1, h2⟩, fun c hcm => ?_, q⟩
      have e' : c = s2.heap.objs.size + 4 ∨ c = s2.heap.objs.size + 2 ∨ c = s2.heap.objs.size + 3 ∨ c = s2.heap.objs.size ∨ c = s2.heap.objs.size + 1 := by simpa using hcm
      have hle : s2.heap.objs.size ≤ c := by
        rcases e' with z | z | z | z | z <;> rw [z] <;> first | exact Nat.le_add_right _ _ | exact Nat.le_refl _
      exact I2.fpOk hle (I2.hok.fresh hle)
def iZsL (fs : Mo (List Opd)) : Mo (List D) := fun ρ => match fs ρ with
  | some ([.val (.list xs), .val (.list ys)], ρ1) => if xs.length = ys.length then some (zipD xs ys, ρ1) else none
  | _ => none
theorem ri_zipSL {K : PySem.W.Frag} {ta : TA} {fs : Mo (List Opd)} (h : RA K ta fs) : RI K (iZipS K ta) (iZsL fs) := fun ρ ds ρ' e σ G H fp S R q => by
  unfold iZsL at e
  split at e
  · rename_i xs ys ρ1 e1
    split at e
    · rename_i hlen
      cases e
      refine h ρ _ _ e1 σ G H fp S _ fun vs G1 H1 fp1 st1 S1 ra => ?_
      cases ra with
      | cons r1 r2 =>
        cases r2 with
        | cons r2 r3 =>
        cases r3
        obtain ⟨a, ws, rfl, g1, p1⟩ := Rp.list' r1
        obtain ⟨b, us, rfl, g2, p2⟩ := Rp.list' r2
        refine ⟨a, b, ws, us, rfl, SqL.of (S1.sub _ _ g1), SqL.of (S1.sub _ _ g2), q _ G1 H1 fp1 st1 S1 fun G' H' s1 s2 i => ⟨fun d hd => ?_, fun hl => ?_⟩⟩
        · have e2 : SqL K H' a ws := SqL.of (s2 _ _ (s1 _ _ g1))
          have e3 : SqL K H' b us := SqL.of (s2 _ _ (s1 _ _ g2))
          obtain ⟨x, y, hx, hy, rfl⟩ := zipD_get hd
          obtain ⟨v, hv, rv⟩ := p1.get hx
          obtain ⟨w, hw, rw'⟩ := p2.get hy
          refine ⟨⟨ws, us, v, w, e2, e3, hv, hw⟩, fun z H2 hz => ?_⟩
          obtain ⟨T, x', y', o, rfl, hT, ho, rfl, hz1, hz2⟩ := hz
          have q1 := hz1 ws e2
          have q2 := hz2 us e3
          rw [hv] at q1; rw [hw] at q2
          cases q1; cases q2
          exact .inr ⟨T, _, hT, rfl, rp_pair2 ho (s2.none hT) (rv.mono s1) (rw'.mono s1)⟩
        · refine ⟨ws, us, SqL.of (s2 _ _ (s1 _ _ g1)), SqL.of (s2 _ _ (s1 _ _ g2)), ?_, ?_⟩
          · unfold zipD at hl
            rw [List.length_zipWith] at hl
            rw [p1.length]
            omega
          · unfold zipD at hl
            rw [List.length_zipWith] at hl
            rw [p2.length]
            omega
    · cases e
  · cases e
section
variable {X : Cx} {a b : Expr} {fs : Mo (List Opd)} {p p3 p4 pos tpos : Pos} {elts : List Expr} {kk j : Nat}
theorem i_zsL (B : Bt X "zip") (h : GA X [a, b] fs)
    (he : backTo pos (starEach [a, b] X.env) = (false, eval a X.env) :: backTo pos (starEach [b] X.env) := by rfl) (hpl : (backTo pos (starEach [a, b] X.env)).any (·.1) = false := by rfl)
    (hall : (backToKw pos (keywordEach [⟨some (Str.ofString "strict"), .Constant (.bool true) j p3, p4⟩] X.env)).all (·.1.isSome) = true := by rfl)
    (hnone : (backToKw pos (keywordEach [⟨some (Str.ofString "strict"), .Constant (.bool true) j p3, p4⟩] X.env)).any (·.1.isNone) = false := by rfl)
    (hks : (backToKw pos (keywordEach [⟨some (Str.ofString "strict"), .Constant (.bool true) j p3, p4⟩] X.env)).filterMap (·.1) = [Str.ofString "strict"] := by rfl) :
    GI X (.Tuple elts kk tpos) (.Call (.Name "zip" p) [a, b] [⟨some (Str.ofString "strict"), .Constant (.bool true) j p3, p4⟩] pos) (iZsL fs) := mkI (pi_zipSL B.gl B.mg h he hpl hall hnone hks) (ri_zipSL xA)
end
end LZ
section
variable {s0 : Sl} {ρ0 : Nt.Env}
def zsL : List Opd → Option (List D)
  | [.val (.list xs), .val (.list ys)] => if xs.length = ys.length then some (zipD xs ys) else none
  | _ => none
@[simp] theorem zsL_ev (xs ys : List D) : zsL [.val (.list xs), .val (.list ys)] = szI (xs.length = ys.length) (some (zipD xs ys)) := id rfl
@[simp] theorem iZsL_ev (fs : Mo (List Opd)) : LZ.iZsL fs (s0 :: ρ0) = ob (fs (s0 :: ρ0)) fun p => ob (zsL p.1) fun ds => some (ds, p.2) := by
  unfold LZ.iZsL ob
  cases fs (s0 :: ρ0) with
  | none => rfl
  | some p =>
    obtain ⟨o, ρ1⟩ := p
    simp only [Option.bind_some]
    unfold zsL
    split
    · rename_i xs ys ρ2 e
      cases e
      simp only []
      split <;> rfl
    · rename_i h
      split
      · rename_i xs ys
        exact absurd rfl (h xs ys ρ1)
      · rfl
end
end Nt

/-! zip(x, y) of two tuples (printed by mk36.py) -/
namespace Nt
open PySem PySem.Spec PyProof.Rows L2 RZ
/-- the lists at a and b, their items in new pairs that have no dict of their own -/
def ItzU (K : PySem.W.Frag) (a b : Addr) : It :=
  ⟨fun i H => ∃ (xs ys : List V) (x y : V), SqT K H a xs ∧ SqT K H b ys ∧ xs[i]? = some x ∧ ys[i]? = some y,
    fun i H v H' => ∃ T x y o, v = .ref T ∧ H T = none ∧ o.dict = none ∧ H' = upd H T (.frz o (.tup [x, y])) ∧ (∀ xs, SqT K H a xs → xs[i]? = some x) ∧ ∀ ys, SqT K H b ys → ys[i]? = some y,
    fun i H => ∃ xs ys : List V, SqT K H a xs ∧ SqT K H b ys ∧ (xs.length ≤ i ∨ ys.length ≤ i)⟩
theorem turn_zipU {P : Program} {w : World} {K : PySem.W.Frag} {elts : List Expr} {kk : Nat} {tpos : Pos} {a b z TI TO i1 i2 : Addr} (D : ZipApart z TI TO i1 i2 a b) :
    Turn P w K (.Tuple elts kk tpos) (ItzU K a b) [z, TI, TO, i1, i2] z (fun i h => IsZip h z TI TO .none ∧ IsPair h TI (.ref i1) (.ref i2) ∧ (∃ x y, IsPair h TO x y) ∧ h.IsTupleIter i1 a i ∧ h.IsTupleIter i2 b i) where
  mem := (turn_zipT (P := P) (w := w) (K := K) (elts := elts) (kk := kk) (tpos := tpos) D).mem
  obj := (turn_zipT (P := P) (w := w) (K := K) (elts := elts) (kk := kk) (tpos := tpos) D).obj
  keep := (turn_zipT (P := P) (w := w) (K := K) (elts := elts) (kk := kk) (tpos := tpos) D).keep
  item := by
    intro X hP hw hK hc i pins s σ H E I hf st hg
    subst hP hw hK
    obtain ⟨hz, hTI, ⟨x0, y0, hTO⟩, h1, h2⟩ := st
    obtain ⟨xs, ys, x, y, hqx, hqy, hx, hy⟩ := hg
    obtain ⟨its, rv, p, _⟩ := I.tuple hqx
    obtain ⟨its2, rv2, p2, _⟩ := I.tuple hqy
    obtain ⟨u, hu, ru⟩ := rv.get hx
    obtain ⟨u2, hu2, ru2⟩ := rv2.get hy
    have hzl : z < s.heap.objs.size := Heap.lt_size hz
    refine pyNext_zipT_item D hz hTI hTO h1 h2 (show s.heap.IsTuple a its.toArray from p) (show s.heap.IsTuple b its2.toArray from p2) (x := u) (y := u2) (by simpa using hu) (by simpa using hu2) fun h' z' TO' h1' h2' hT hsz hk => ?_
    refine ⟨_, rfl, wpAny_letOwnedTupleGo_zip (s := { s with heap := h' }) z' fun h'' z'' sb => ?_⟩
    have hT2 : h''.get? s.heap.objs.size = some { cls := .type "tuple", data := .seq #[u, u2] } := (sb.2 _ (Nat.ne_of_gt hzl)).trans hT
    have I1 : Inv X pins σ (upd H s.heap.objs.size (.frz (tupO #[u, u2]) (.tup [x, y]))) { s with heap := h'' } :=
      I.turnedNew (t' := s.toks) (ch := [z, TI, TO, i1, i2]) (fun c o hb q => (sb.2 c (fun q' => hb (by simp [q']))).trans (hk c o (fun q' => hb (by simp [q'])) (fun q' => hb (by simp [q'])) (fun q' => hb (by simp [q'])) (fun q' => hb (by simp [q'])) q)) hf (Nat.le_refl _) (tup_at (us := [u, u2]) (by show 2 ≤ sizeLine; decide) (.cons ru (.cons ru2 .nil)) hT2 rfl rfl)
    refine ⟨.ref s.heap.objs.size, _, I1, rfl, ⟨_, x, y, _, rfl, I.hok.fresh (Nat.le_refl _), rfl, rfl, fun l hl => by rw [I.tuple_inj hl hqx]; exact hx, fun l hl => by rw [I.tuple_inj hl hqy]; exact hy⟩, ⟨z'', ?_, ⟨u, u2, ?_⟩, ?_, ?_⟩, fun c hcm => ?_⟩
    · exact (sb.2 _ D.TIz).trans (hk _ _ D.TIz D.TITO D.TIi1 D.TIi2 hTI)
    · exact (sb.2 _ D.TOz).trans TO'
    · exact h1'.at fun o q => (sb.2 _ D.i1z).trans q
    · exact h2'.at fun o q => (sb.2 _ D.i2z).trans q
    · have hlt : c < s.heap.objs.size := by
        have e' : c = z ∨ c = TI ∨ c = TO ∨ c = i1 ∨ c = i2 := by simpa using hcm
        rcases e' with q | q | q | q | q
        · rw [q]; exact hzl
        · rw [q]; exact Heap.lt_size hTI
        · rw [q]; exact Heap.lt_size hTO
        · rw [q]; obtain ⟨_, e1, _⟩ := h1; exact Heap.lt_size e1
        · rw [q]; obtain ⟨_, e2, _⟩ := h2; exact Heap.lt_size e2
      rw [upd_ne (Nat.ne_of_lt hlt)]
      exact (hf c hcm).1
  done := (turn_zipT (P := P) (w := w) (K := K) (elts := elts) (kk := kk) (tpos := tpos) D).done
  self := (turn_zipT (P := P) (w := w) (K := K) (elts := elts) (kk := kk) (tpos := tpos) D).self
def iZipU (K : PySem.W.Frag) (ta : TA) : TI := fun σ H R => ta σ H fun vs H1 => ∃ a b xs ys, vs = [.ref a, .ref b] ∧ SqT K H1 a xs ∧ SqT K H1 b ys ∧ R (ItzU K a b) H1
theorem pi_zipU {X : Cx} {e e2 : Expr} {ta : TA} {p pos tpos : Pos} {elts : List Expr} {kk : Nat} (hg : Gl X "zip") (hm : X.mg "zip" = none) (ha : PA X [e, e2] ta)
    (hs : starEach [e, e2] X.env = (false, eval e X.env) :: starEach [e2] X.env := by rfl) (hpl : (backTo pos (starEach [e2] X.env)).any (·.1) = false := by rfl) :
    PI X (.Tuple elts kk tpos) (.Call (.Name "zip" p) [e, e2] [] pos) (iZipU X.K ta) := by
  refine ⟨fun pins s σ H R I h => ?_⟩
  refine Call_ (ld_blt I hg hm PyProof.Rows.boot_zip (PyProof.Rows.callWith_type1 (thn (ha.run pos pins s σ H _ I h) fun us s1 ⟨vs, H1, I1, r1, q1⟩ => ?_) hs hpl))
  obtain ⟨a, b, xs, ys, ex, hqx, hqy, q⟩ := q1
  subst ex
  cases r1 with
  | cons r rr =>
    cases rr with
    | cons r' rr =>
      cases rr
      cases r
      cases r'
      obtain ⟨its, rv, p1, _⟩ := I1.tuple hqx
      obtain ⟨its2, rv2, p2, _⟩ := I1.tuple hqy
      have la : a < s1.heap.objs.size := p1.lt
      have lb : b < s1.heap.objs.size := p2.lt
      refine call_zipT (show s1.heap.IsTuple a its.toArray from p1) (show s1.heap.IsTuple b its2.toArray from p2) fun h' hz hTI hTO h1 h2 hsz hk => wpAny_pyIter_zip hz ?_
      have I2 : Inv X pins σ H1 { s1 with heap := h' } := I1.kept (t' := s1.toks) hk
      refine ⟨s1.heap.objs.size + 4, [s1.heap.objs.size + 4, s1.heap.objs.size + 2, s1.heap.objs.size + 3, s1.heap.objs.size, s1.heap.objs.size + 1], _, _, H1, rfl, I2, turn_zipU (PySem.W.ktu_apart s1.heap.objs.size a b la lb), ⟨hz, hTI, ⟨_, _, hTO⟩, h1, h2⟩, fun c hcm => ?_, q⟩
      have e' : c = s1.heap.objs.size + 4 ∨ c = s1.heap.objs.size + 2 ∨ c = s1.heap.objs.size + 3 ∨ c = s1.heap.objs.size ∨ c = s1.heap.objs.size + 1 := by simpa using hcm
      have hle : s1.heap.objs.size ≤ c := by
        rcases e' with z | z | z | z | z <;> rw [z] <;> first | exact Nat.le_add_right _ _ | exact Nat.le_refl _
      exact I1.fpOk hle (I1.hok.fresh hle)
def iZpT (fs : Mo (List Opd)) : Mo (List D) := fun ρ => match fs ρ with
  | some ([.val (.tuple xs), .val (.tuple ys)], ρ1) => some (zipD xs ys, ρ1)
  | _ => none
theorem ri_zipU {K : PySem.W.Frag} {ta : TA} {fs : Mo (List Opd)} (h : RA K ta fs) : RI K (iZipU K ta) (iZpT fs) := fun ρ ds ρ' e σ G H fp S R q => by
  unfold iZpT at e
  split at e
  · rename_i xs ys ρ1 e1
    cases e
    refine h ρ _ _ e1 σ G H fp S _ fun vs G1 H1 fp1 st1 S1 ra => ?_
    cases ra with
    | cons r1 r2 =>
      cases r2 with
      | cons r2 r3 =>
      cases r3
      obtain ⟨a, ws, rfl, g1, p1⟩ := Rp.tupleN r1
      obtain ⟨b, us, rfl, g2, p2⟩ := Rp.tupleN r2
      refine ⟨a, b, ws, us, rfl, (g1.mono S1.sub).sqT, (g2.mono S1.sub).sqT, q _ G1 H1 fp1 st1 S1 fun G' H' s1 s2 i => ⟨fun d hd => ?_, fun hl => ?_⟩⟩
      · have e2 : SqT K H' a ws := ((g1.mono s1).mono s2).sqT
        have e3 : SqT K H' b us := ((g2.mono s1).mono s2).sqT
        obtain ⟨x, y, hx, hy, rfl⟩ := zipD_get hd
        obtain ⟨v, hv, rv⟩ := p1.get hx
        obtain ⟨w, hw, rw'⟩ := p2.get hy
        refine ⟨⟨ws, us, v, w, e2, e3, hv, hw⟩, fun z H2 hz => ?_⟩
        obtain ⟨T, x', y', o, rfl, hT, ho, rfl, hz1, hz2⟩ := hz
        have q1 := hz1 ws (e2)
        have q2 := hz2 us (e3)
        rw [hv] at q1; rw [hw] at q2
        cases q1; cases q2
        exact .inr ⟨T, _, hT, rfl, rp_pair2 ho (s2.none hT) (rv.mono s1) (rw'.mono s1)⟩
      · refine ⟨ws, us, ((g1.mono s1).mono s2).sqT, ((g2.mono s1).mono s2).sqT, ?_⟩
        unfold zipD at hl
        rw [List.length_zipWith] at hl
        rw [p1.length, p2.length]
        omega
  · cases e
section
variable {X : Cx} {k n m : Nat} {e a b c d : Expr} {es : List Expr} {pos p p2 p3 : Pos} {f fa fb fc : Mo D} {oa ob oc od : Mo Opd} {fs : Mo (List Opd)}
theorem i_zpT {elts : List Expr} {kk : Nat} {tpos : Pos} (B : Bt X "zip") (h : GA X [a, b] fs) (hs : starEach [a, b] X.env = (false, eval a X.env) :: starEach [b] X.env := by rfl) (hpl : (backTo pos (starEach [b] X.env)).any (·.1) = false := by rfl) :
    GI X (.Tuple elts kk tpos) (.Call (.Name "zip" p) [a, b] [] pos) (iZpT fs) := mkI (pi_zipU B.gl B.mg h hs hpl) (ri_zipU xA)

end
section
variable {s0 : Sl} {ρ0 : Nt.Env}
def zpT : List Opd → Option (List D)
  | [.val (.tuple xs), .val (.tuple ys)] => some (zipD xs ys)
  | _ => none
@[simp] theorem zpT_ev (xs ys : List D) : zpT [.val (.tuple xs), .val (.tuple ys)] = some (zipD xs ys) := id rfl
@[simp] theorem iZpT_ev (fs : Mo (List Opd)) : iZpT fs (s0 :: ρ0) = ob (fs (s0 :: ρ0)) fun p => ob (zpT p.1) fun ds => some (ds, p.2) := by
  unfold iZpT ob
  cases fs (s0 :: ρ0) with
  | none => rfl
  | some p =>
    obtain ⟨o, ρ1⟩ := p
    simp only [Option.bind_some]
    unfold zpT
    split
    · rename_i xs ys ρ2 e
      cases e
      rfl
    · rename_i h
      split
      · rename_i xs ys
        exact absurd rfl (h xs ys ρ1)
      · rfl
end
end Nt

/-! a list made while all names' data are frozen: the list is one's own -/
namespace Nt
open PySem PySem.Spec PyProof.Rows L2
def mFrzW (f : Mo D) : Mo D := fun ρ => match f (ρ.map frS) with
  | some (.list zs, _) => if noCs zs = true then some (.list zs, ρ) else none
  | _ => none
theorem OwL.thin {K : PySem.W.Frag} {G G' H : Hp} (k : ∀ a o u, G a = some (.frz o u) → G' a = G a) : ∀ {vs : List V} {ds : List D} {f : List Addr}, noCs ds = true → OwL (Ow K G H 0) vs ds f → OwL (Ow K G' H 0) vs ds f
  | _, _, _, _, .nil => .nil
  | _, _, _, n, .cons h r => by
    simp only [noCs, Bool.and_eq_true] at n
    exact .cons ⟨h.1, Rp.thin k n.1 h.2⟩ (OwL.thin k n.2 r)
section
variable {K : PySem.W.Frag}
open scoped Classical in
theorem rw_frz {t : TE} {f : Mo D} (h : RW K 1 t f) : RW K 1 t (mFrzW f) := fun ρ z ρ' e σ G H fp S Q q => by
  unfold mFrzW at e
  split at e
  · rename_i zs ρm e1
    split at e
    · rename_i hn
      cases e
      let Gm : Hp := fun a => if ∃ i, a ∈ fp i then H a else G a
      have gm1 : ∀ i a, a ∈ fp i → Gm a = H a := fun i a ha => if_pos ⟨i, ha⟩
      have gm2 : ∀ a, (∀ i, a ∉ fp i) → Gm a = G a := fun a ha => if_neg fun ⟨i, hi⟩ => ha i hi
      have sub : Sub G Gm := fun a o ha => (gm2 a fun i hi => by rw [S.fr i a hi] at ha; cases ha).trans ha
      have Sm : Sat K (ρ.map frS) σ Gm H (fun _ => []) := by
        refine ⟨by rw [List.length_map]; exact S.len, fun i s hs => ?_, fun _ _ => rfl, (fun i j a ha => nomatch ha), fun _ => List.nodup_nil, (fun i a ha => nomatch ha), fun a o ha => ?_⟩
        · rw [List.getElem?_map] at hs
          obtain ⟨s0, h0, rfl⟩ := Option.map_eq_some_iff.mp hs
          have q0 := S.sl i s0 h0
          cases s0 with
          | un => exact rfl
          | sh d =>
            obtain ⟨_, v, ev, r⟩ := q0
            exact ⟨rfl, v, ev, r.mono sub⟩
          | ow n d =>
            obtain ⟨v, ev, o⟩ := q0
            exact ⟨rfl, v, ev, o.rp sub fun a ha => gm1 i a ha⟩
        · by_cases hf : ∃ i, a ∈ fp i
          · have : Gm a = H a := if_pos hf
            rw [← this]; exact ha
          · have : Gm a = G a := if_neg hf
            rw [this] at ha
            exact S.sub a o ha
      refine h _ _ _ e1 σ Gm H _ Sm _ fun v G2 H2 fp2 f0 st S2 ow tm => ?_
      have same : ∀ a, H a ≠ none → H2 a = H a := fun a ha => st.h a (fun i hi => nomatch hi) ha
      let G3 : Hp := fun a => if ∃ i, a ∈ fp i then none else G2 a
      have g1 : ∀ i a, a ∈ fp i → G3 a = none := fun i a ha => if_pos ⟨i, ha⟩
      have g2 : ∀ a, (∀ i, a ∉ fp i) → G3 a = G2 a := fun a ha => if_neg fun ⟨i, hi⟩ => ha i hi
      have up : Sub G G3 := fun a o ha => by
        have na : ∀ i, a ∉ fp i := fun i hi => by rw [S.fr i a hi] at ha; cases ha
        rw [g2 a na]
        exact st.g a o ((gm2 a na).trans ha)
      have dn : Sub G3 H2 := fun a o ha => by
        by_cases hf : ∃ i, a ∈ fp i
        · obtain ⟨i, hi⟩ := hf
          rw [g1 i a hi] at ha; cases ha
        · have : G3 a = G2 a := if_neg hf
          rw [this] at ha
          exact S2.sub a o ha
      have thin : ∀ a o u, G2 a = some (.frz o u) → G3 a = G2 a := fun a o u ha => by
        refine if_neg fun ⟨i, hi⟩ => ?_
        have e2 := S2.sub a _ ha
        rw [same a (S.live hi)] at e2
        by_cases hl : i < ρ.length
        · have q0 := S.sl i ρ[i] (List.getElem?_eq_getElem hl)
          cases hs : ρ[i] with
          | un => rw [hs] at q0; rw [show fp i = [] from q0] at hi; cases hi
          | sh d => rw [hs] at q0; rw [q0.1] at hi; cases hi
          | ow n d =>
            rw [hs] at q0
            obtain ⟨v', _, o⟩ := q0
            rcases o.cell a hi with ⟨xs, z⟩ | ⟨ks, z⟩ <;> rw [z] at e2 <;> cases e2
        · rw [S.out i (by omega)] at hi; cases hi
      have fresh : ∀ a ∈ f0, H a = none := fun a ha => by
        rcases tm.o a ha with ⟨j, z⟩ | z
        · cases z
        · exact z
      refine q v G3 H2 fp f0 ⟨up, fun a _ ha => same a ha, st.t, fun i a ha => .inl ⟨i, ha⟩, fun a ha => ?_⟩ (S.keep up (fun i a ha => same a (S.live ha)) g1 dn) ?_ ⟨tm.nd, fun a ha => ?_, fun a ha i hi => S.live hi (fresh a ha), fun a ha => .inr (fresh a ha)⟩
      · by_cases hf : ∃ i, a ∈ fp i
        · exact .inr (.inl hf)
        · have e3 : G3 a = G2 a := if_neg hf
          rw [e3] at ha
          rcases st.n a ha with z | ⟨j, z⟩ | z
          · have e4 : Gm a = G a := if_neg hf
            rw [e4] at z
            exact .inl z
          · cases z
          · exact .inr (.inr z)
      · rcases ow with ⟨z, _⟩ | ⟨a, vs, ds, g, e1, e2, e3, e4, r⟩ | ⟨a, ks, ds, g, e1, e2, _⟩
        · cases z
        · cases e2
          exact .inr (.inl ⟨a, vs, zs, g, e1, rfl, e3, e4, OwL.thin thin hn r⟩)
        · cases e2
      · by_cases hf : ∃ i, a ∈ fp i
        · exact if_pos hf
        · exact (if_neg hf).trans (tm.g a ha)
    · cases e
  · cases e
end
section
variable {X : Cx} {e : Expr} {f : Mo D}
theorem w_frz (h : GW X 1 e f) : GW X 1 e (mFrzW f) := mkW h (rw_frz xW)
end
section
variable {X : Cx} {k n m : Nat} {e a b c : Expr} {es : List Expr} {pos p p2 p3 : Pos} {f fa fb fc : Mo D} {oa ob oc : Mo Opd} {fs : Mo (List Opd)} {P : List Nat} {i j : Nat} {x y : Str}
variable {elt tg iter : Expr} {scope : Scope} {own : List (Str × Nat)} {T : List Nat} {g : TG} {set : D → Nt.Env → Option Nt.Env} {it : Mo (List D)} {tst : Mo Bool} {el : Mo D}
theorem s_compF1 (c : Cok X k) {py : Pos} {cnd : Expr} (ok : BlkOk X.N X.env.scope scope own) (hN : X.N[i]? = some y) (hy : X.env.scope.names.lookup y = some .local) (hsw : swapsWith (.ListComp elt [⟨tg, iter, [cnd], 0⟩] scope p) (some (.Name y py)) pos.line X.env = pure true)
    (hi : GI X tg iter it) (hg : ∀ s H C cl fp, Cok (Bl X scope s H C cl fp) k → GG (Bl X scope s H C cl fp) tg T g set) (ht : ∀ s H C cl fp, Cok (Bl X scope s H C cl fp) k → GT (Bl X scope s H C cl fp) cnd tst)
    (he : ∀ s H C cl fp, Cok (Bl X scope s H C cl fp) k → GW (Bl X scope s H C cl fp) 0 elt el)
    (hT : ∀ i ∈ T, i ∈ own.map (·.2)) (hP : ∀ j ∈ P, j ≠ i) (hs : ∀ x, foldedSetIterable iter X.env x = pure x := by intro _; rfl) : GS X n P (.Assign [.Name y py] (.ListComp elt [⟨tg, iter, [cnd], 0⟩] scope p) pos) (sSetW 1 i (mFrzW (mComp it set tst el (own.map (·.2))))) :=
  ⟨fun pins s σ H D I q => (mkS (ps_setLc c.calm c.nd hN hy hsw hi ok (fun s H C cl fp => (hg s H C cl fp (c.blk ..)).1) (fun s H C cl fp => pts_one (ht s H C cl fp (c.blk ..))) (fun s H C cl fp => he s H C cl fp (c.blk ..)) hs)
    (rs_setW (rw_frz (rw_comp xI (hg s H 0 [] [] (c.blk ..)).2 xT xW hT)) hP)).run pins s σ H D I q⟩
end
section
variable {s0 : Sl} {ρ0 : Nt.Env}
def lenC : D → Option (List D)
  | .list zs => szI (noCs zs = true) (some zs)
  | _ => none
@[simp] theorem lenC_ev (zs : List D) : lenC (.list zs) = szI (noCs zs = true) (some zs) := id rfl
@[simp] theorem mFrzW_ev (f : Mo D) : mFrzW f (s0 :: ρ0) = ob (f (frS s0 :: ρ0.map frS)) fun p => ob (lenC p.1) fun zs => some (.list zs, s0 :: ρ0) := by
  unfold mFrzW
  rw [List.map_cons]
  cases f (frS s0 :: ρ0.map frS) with
  | none => rfl
  | some p =>
    obtain ⟨d, ρ1⟩ := p
    rw [ob_some]
    cases d with
    | list zs =>
      simp only [lenC, szI]
      by_cases h : noCs zs = true <;> simp [h, ob]
    | _ => rfl
end
end Nt

/-! x[i][j] += e; sum of a tuple; math.comb -/
namespace Nt
open PySem PySem.Spec PyProof.Rows L2
variable {s0 : Sl} {ρ0 : Nt.Env}
/-! ### sum of a tuple -/
def dSumT : List D → Option D
  | [.tuple ds] => (asInts ds).map fun ns => .int ns.sum
  | _ => none
def rSumT (K : PySem.W.Frag) : List V → Hp → VK → Prop := fun xs H Q => ∃ (a : Addr) (ns : List Int), xs = [.ref a] ∧ SqT K H a (ns.map V.int) ∧ Q (.int ns.sum) H
theorem cr_sumT {X : Cx} (hc : X.calm = true) : CallR X (.builtin "sum") (rSumT X.K) := by
  intro pins s σ H xs us Q I r h
  obtain ⟨a, ns, rfl, hT, q⟩ := h
  obtain ⟨its, rv, ht, _⟩ := I.tuple hT
  rw [Vals.ref1 r]
  have hi := rv.ints
  obtain ⟨ys, e⟩ := hi.allInts.items
  have hn : numsOf (intItems ys).toList = ns := by rw [← e]; exact hi.numsOf
  rw [nums_intItems] at hn
  rw [e] at ht
  refine PySem.W.ktm_sumG (I.ok.hd hc) ht fun h' tk t' hk => ?_
  rw [preSum_eq, List.take_of_length_le (by simp), hn]
  exact ⟨.int _, H, I.kept hk, ⟨_, rfl⟩, q⟩
theorem re_sumT {K : PySem.W.Frag} {t : TA} {fs : Mo (List Opd)} (h : RA K t fs) : RE K (tCB (rSumT K) t) (mCB rs dSumT fs) := re_cb h fun H vs ds z r hz => by
  unfold dSumT at hz
  split at hz
  · rename_i xs
    cases en : asInts xs with
    | none => rw [en] at hz; cases hz
    | some ns =>
      rw [en] at hz
      cases hz
      cases r with
      | cons r1 r2 =>
        cases r2
        rw [asInts_ok en] at r1
        obtain ⟨a, ws, rfl, h1, p1⟩ := r1.tuple'
        rw [p1.ints] at h1
        exact ⟨_, rfl, fun Q q => ⟨a, ns, rfl, h1, q⟩⟩
  · cases hz
/-! ### math.comb -/
def dComb : List D → Option D
  | [.int a, .int b] => if 0 ≤ a ∧ 0 ≤ b ∧ a ≤ 1000 then some (.int (PySem.W.mcComb a b)) else none
  | _ => none
def rComb : List V → Hp → VK → Prop := fun vs H Q => ∃ a b : Int, vs = [.int a, .int b] ∧ 0 ≤ a ∧ 0 ≤ b ∧ a ≤ 1000 ∧ Q (.int (PySem.W.mcComb a b)) H
theorem cr_comb {X : Cx} : CallR X (.builtin "math.comb") rComb := by
  intro pins s σ H vs us Q I r h
  obtain ⟨a, b, rfl, h0, h1, h2, q⟩ := h
  obtain ⟨t, u, rfl⟩ := Vals.int2 r
  exact PySem.W.mc_comb h0 h1 (by omega) (.inr (by omega)) fun _ => ⟨.int _, H, I.tok _, ⟨_, rfl⟩, q⟩
theorem re_comb {K : PySem.W.Frag} {t : TA} {fs : Mo (List Opd)} (h : RA K t fs) : RE K (tCB rComb t) (mCB rs dComb fs) := re_cb h fun H vs ds z r hz => by
  unfold dComb at hz
  split at hz
  · rename_i a b
    split at hz
    · rename_i hc
      cases hz
      cases r with
      | cons r1 r2 =>
        cases r2 with
        | cons r2 r3 =>
          cases r3
          cases r1
          cases r2
          exact ⟨_, rfl, fun Q q => ⟨a, b, rfl, hc.1, hc.2.1, hc.2.2, q⟩⟩
    · cases hz
  · cases hz
/-- a module's name for a built-in function -/
structure Bf (X : Cx) (x : Str) (id : String) : Prop where
  gl : Gl X x
  mg : X.mg x = some (.builtin id)
theorem pe_callBf {X : Cx} {x : Str} {p pos : Pos} {e : Expr} {es : List Expr} {t : TA} {id : String} {r : List V → Hp → VK → Prop} (hc : CallR X (.builtin id) r) (hg : Gl X x) (hm : X.mg x = some (.builtin id)) (ha : PA X (e :: es) t) (hdb : (x == ("__debug__" : Str)) = false := by decide)
    (he : starEach (e :: es) X.env = (false, eval e X.env) :: starEach es X.env := by rfl) (hpl : (backTo pos (starEach es X.env)).any (·.1) = false := by rfl) : PE X (.Call (.Name x p) (e :: es) [] pos) (tCB r t) := by
  refine ⟨fun pins s σ H Q I h => ?_⟩
  refine wpAny_Call_Name_kw (ld_glob I hg hm ?_ hdb)
  exact PyProof.Rows.callWith_builtin1 (thn (ha.run pos pins s σ H _ I h) fun us s1 ⟨vs, H1, I1, r1, q1⟩ => hc pins s1 σ H1 vs us Q I1 r1 q1) he hpl
section
variable {X : Cx} {k n : Nat} {e : Expr} {es : List Expr} {pos p p2 p3 p4 : Pos} {fs : Mo (List Opd)} {P : List Nat} {x : Str}
theorem g_sumT (c : Cok X k) (B : Bt X "sum") (h : GA X (e :: es) fs) (hs : starEach (e :: es) X.env = (false, eval e X.env) :: starEach es X.env := by rfl) (hpl : (backTo pos (starEach es X.env)).any (·.1) = false := by rfl) : GE X (.Call (.Name "sum" p) (e :: es) [] pos) (mCB rs dSumT fs) :=
  mkE (pe_callB (cr_sumT c.calm) B.gl B.mg PyProof.Rows.boot_sum h (by decide) (by decide) hs hpl) (re_sumT xA)
theorem g_comb (B : Bf X x "math.comb") (h : GA X (e :: es) fs) (hdb : (x == ("__debug__" : Str)) = false := by decide) (hs : starEach (e :: es) X.env = (false, eval e X.env) :: starEach es X.env := by rfl) (hpl : (backTo pos (starEach es X.env)).any (·.1) = false := by rfl) : GE X (.Call (.Name x p) (e :: es) [] pos) (mCB rs dComb fs) :=
  mkE (pe_callBf cr_comb B.gl B.mg h hdb hs hpl) (re_comb xA)
end
/-! ### x[i][j] += e -/
def rGetL (K : PySem.W.Frag) : V → V → Hp → VK → Prop := fun x y H Q => ∃ p xs i v, x = .ref p ∧ y = .int i ∧ SqL K H p xs ∧ atI xs i = some v ∧ Q v H
theorem get_list {X : Cx} : PGet X (rGetL X.K) := by
  intro pins s σ H x y v u Q I rx ry h
  obtain ⟨p, xs, i, z, rfl, rfl, hq, he, q⟩ := h
  cases rx
  obtain ⟨t, rfl⟩ := ry
  obtain ⟨its, r, pl, hz⟩ := I.list hq
  obtain ⟨j, h1, h2, h3, h4, h5⟩ := atI_get he
  obtain ⟨w, ew, rw'⟩ := r.get h2
  have hl := r.length
  have hn := line63
  have fin : EP X pins σ Q w s := ⟨z, H, I, rw', q⟩
  by_cases h0 : 0 ≤ i
  · have hj : i.toNat = j := by
      rw [seqIndex_of h0 h5] at h1
      exact Option.some.inj h1
    exact wpAny_getItem_list pl.isList h0 (by omega) (by rw [hj]; simpa using ew) fin
  · have hj : (i + (its.toArray.size : Int)).toNat = j := by
      rw [seqIndex_neg (by omega) h4] at h1
      rw [List.size_toArray, ← hl]
      exact Option.some.inj h1
    exact wpAny_getItem_list_neg pl.isList (by omega) (by rw [List.size_toArray] <;> omega) (by omega) (by rw [hj]; simpa using ew) fin
def isOw2 : Option Sl → Bool
  | some (.ow 2 (.list _)) => true
  | _ => false
def sAug2 (i : Nat) (g : Int → Int → Int) (fj : Mo D) (fk fv : Nt.Env → Option D) : MoS := fun ρ => if isOw2 ρ[i]? then match fj ρ with
  | some (.int j, ρ1) => match ρ1[i]?, fk ρ1, fv ρ1 with
    | some (.ow 2 (.list ds)), some (.int k), some (.int b) => match ixN ds.length j with
      | some j' => match ds[j']? with
        | some (.list es) => match ixN es.length k with
          | some k' => match es[k']? with
            | some (.int a) => some (.nx (ρ1.set i (.ow 2 (.list (ds.set j' (.list (es.set k' (.int (g a b)))))))))
            | _ => none
          | none => none
        | _ => none
      | none => none
    | _, _, _ => none
  | _ => none
  else none
section
variable {K : PySem.W.Frag} {te tj tk tv : TE} {fj : Mo D} {fk fv : Nt.Env → Option D} {n i : Nat} {P : List Nat} {g : Int → Int → Int}
theorem rs_aug2 (hj : RE K tj fj) (hk : RH K tk fk) (hv : RH K tv fv) : RS K n P (tAugS (tOp (rIx K) (tVar i) tj) tk tv (rGetL K) (rI0 fun a b => .int (g a b)) rSetL) (sAug2 i g fj fk fv) := fun ρ o e σ G H fp S Dn q => by
  unfold sAug2 at e
  split at e
  · rename_i e0
    split at e
    · rename_i j ρ1 e1
      split at e
      · rename_i ds k b e2 e3 e8
        split at e
        · rename_i j' e5
          split at e
          · rename_i es e6
            split at e
            · rename_i k' e7
              split at e
              · rename_i a0 e9
                cases e
                have ⟨c, ec⟩ : ∃ c, σ[i]? = some (some (V.ref c)) := by
                  unfold isOw2 at e0
                  split at e0
                  · rename_i ds0 e10
                    obtain ⟨a, vs, g, ea, _⟩ := S.lstN e10
                    exact ⟨a, ea⟩
                  · cases e0
                refine ⟨.ref c, ec, hj ρ _ _ e1 σ G H fp S _ fun v G1 H1 fp1 st1 S1 r1 => ?_⟩
                obtain ⟨a, vs, b', us, ea, ha, hvs, hl, hb, r, kk⟩ := S1.in2 e2 e6
                rw [ec] at ea
                cases ea
                cases r1.int'
                obtain ⟨w, ew, rw'⟩ := r.get e9
                refine .inl ⟨c, vs, j, .ref b', rfl, rfl, SqL.of ha, atI_of (by rw [hl]; exact e5) hvs, hk ρ1 _ e3 σ G1 H1 fp1 S1 _ fun y ry => ?_⟩
                cases ry.int'
                cases rw'.int'
                refine ⟨b', us, k, .int a0, rfl, rfl, SqL.of hb, atI_of (by rw [r.length]; exact e7) ew, hv ρ1 _ e8 σ G1 H1 fp1 S1 _ fun z rz => ?_⟩
                cases rz.int'
                refine ⟨a0, b, rfl, rfl, ?_⟩
                obtain ⟨S', st'⟩ := kk _ _ (r.set k' (Rp.int (g a0 b)))
                exact ⟨b', us, k, k', rfl, rfl, hb, by rw [r.length]; exact e7, q σ G1 _ _ (st1.trans st') S' fun _ _ => rfl⟩
              · cases e
            · cases e
          · cases e
        · cases e
      · cases e
    · cases e
  · cases e
end
section
variable {X : Cx} {k n : Nat} {e a b : Expr} {pos p p2 p3 : Pos} {fa : Mo D} {fb fv : Nt.Env → Option D} {P : List Nat} {x : Str}
/-- x[a][b] += e -/
theorem s_aug2 (i : Nat) (hN : X.N[i]? = some x) (hv : Vis X.env.scope x) (hj : GE X a fa) (hk : GH X b fb) (h : GH X e fv) (hs2 : PlainIx a) (hd : (x == ("__debug__" : Str)) = false := by decide) (hcd : (x == ("__classdict__" : Str)) = false := by decide)
    (ha : ∀ ov iv new, augStore b ov iv new = (do holding [new, ov, iv] (setItem ov iv new); release [new, ov, iv] []; pure .next) := by intros; rfl) : GS X n P (.AugAssign (.Subscript (.Subscript (.Name x p2) a p3) b p) .Add e pos) (sAug2 i (fun a b => a + b) fa fb fv) :=
  mkS (ps_augS (pe_ix ix_seq (pe_var hN hv hd hcd) hj hs2) hk get_list h iop_add set_list ha) (rs_aug2 xE xH xH)
end
/-! ### evaluation -/
@[simp] theorem dSumT_ev (ns : List Int) : dSumT [.tuple (ns.map PyData.int)] = some (.int ns.sum) := by
  show (asInts (ns.map PyData.int)).map _ = _
  rw [asInts_map]
  rfl
@[simp] theorem dComb_ev (a b : Int) : dComb [.int a, .int b] = szI (0 ≤ a ∧ 0 ≤ b ∧ a ≤ 1000) (some (.int (PySem.W.mcComb a b))) := by
  unfold dComb szI
  rfl
theorem sAug2_ev {i : Nat} {g : Int → Int → Int} {fj : Mo D} {fk fv : Nt.Env → Option D} {ρ ρ1 : Nt.Env} {j k a b : Int} {j' k' : Nat} {ds es : List D} (e0 : isOw2 ρ[i]? = true) (e1 : fj ρ = some (.int j, ρ1)) (e2 : ρ1[i]? = some (.ow 2 (.list ds))) (e3 : fk ρ1 = some (.int k)) (e8 : fv ρ1 = some (.int b))
    (e5 : ixN ds.length j = some j') (e6 : ds[j']? = some (.list es)) (e7 : ixN es.length k = some k') (e9 : es[k']? = some (.int a)) :
    sAug2 i g fj fk fv ρ = some (.nx (ρ1.set i (.ow 2 (.list (ds.set j' (.list (es.set k' (.int (g a b))))))))) := by
  unfold sAug2
  rw [if_pos e0, e1]
  simp only [e2, e3, e8, e5, e6, e7, e9]
end Nt

/-! sorted of tuples, empty ones among them; sorted(.., reverse=True) -/
namespace Nt
open PySem PySem.Spec PyProof.Rows L2
open PySem.W (EachIs AllAlike SortsAt dataKind alike alikeAll dataLt dataKind_inv dataKind_some)
section
variable {prog : Program} {w : World} {A : Around} {E : Value → Shared → Prop} {s : Shared}
theorem oneLt_tuple {xs ys : List PyData} {a b : Value} {as bs : List Addr} {Q : Bool → Shared → Prop} (ra : Reads s.heap a (.tuple xs) as) (rb : Reads s.heap b (.tuple ys) bs) (h : alike (.tuple xs) (.tuple ys) = true)
    (hu : A.units + min (PyData.tuple xs).depth (PyData.tuple ys).depth < cLine) (hq : Q (dataLt (.tuple xs) (.tuple ys)) s) : wpAny (model prog w) A (oneLt' true a b) Q E s := by
  have hal : alikeAll xs ys = true := by simpa [alike] using h
  cases ra with
  | @tuple l o vs n _ as₁ h1 h2 h3 h4 =>
    cases rb with
    | @tuple l' o' vs' n' _ bs₁ k1 k2 k3 k4 =>
      have n1 : vs.size = xs.length := by simpa using PySem.SeqAt.ReadsAll.length _ _ _ h4
      have n2 : vs'.size = ys.length := by simpa using PySem.SeqAt.ReadsAll.length _ _ _ k4
      rw [PySem.W.dataLt_tuple, ← PySem.W.firstLt_toks xs ys hal, ← n1, ← n2] at hq
      rw [oneLt'_eq]
      simp only [if_true]
      refine wpAny_bind (wpAny_cRoomFor (PySem.SeqAt.room_here hu) ?_)
      obtain ⟨cls, dd, data, sl⟩ := o
      obtain ⟨cls2, dd2, data2, sl2⟩ := o'
      simp only at h2 h3 k2 k3
      subst h2 h3 k2 k3
      refine wpAny_bind (wpAny_callSpecialIfBound?_slot (T := "tuple") ⟨_, h1, rfl⟩ F.slot_tuple_lt (call_meets F.slot_tuple_lt ⟨_, h1, rfl⟩ F.entry_tuple_lt (F.args_tuple_lt_2 _ _) (PySem.SeqAt.tuple_ltAt l l' vs vs' n n' dd dd2 sl sl2 (PySem.SeqAt.pairEq xs ys) (fun j => dataLt (xs.getD j .none) (ys.getD j .none))) ⟨h1, k1, fun j j1 j2 => ?_, fun j j1 j2 hj => ?_, ?_⟩))
      · have := PySem.W.eqAt_alikeAll xs ys A.in1 s vs.toList vs'.toList _ _ h4 k4 hal (PySem.SeqAt.room_in hu) j (by simpa using j1) (by simpa using j2)
        simpa using this
      · have := PySem.W.rcLt_alikeAll xs ys A.in1 s vs.toList vs'.toList _ _ h4 k4 hal (PySem.SeqAt.room_in hu) j (by simpa using j1) (by simpa using j2) hj
        simpa using this
      · exact wpAny_truthy_bool hq
theorem keyLt_general (x y : Value) : keyLt' general' x y = oneLt' false x y := rfl
/-- each is a tuple; its first item, if there is one -/
def Fst (h : Heap) (v : Value) (f : Option Value) : Prop := ∃ a o xs n, v = .ref a ∧ h.get? a = some o ∧ o.cls = .type "tuple" ∧ o.data = .seq xs n ∧ xs[0]? = f
theorem fst_mapM : ∀ (vs : List Value) (fs : List (Option Value)) {Q : List (Option Value) → Shared → Prop}, EachIs (Fst s.heap) vs fs → Q fs s → wpAny (model prog w) A (vs.mapM firstOfTuple') Q E s
  | _, _, _, .nil, h => by rw [List.mapM_nil]; exact wpAny_pure h
  | v :: vs, f :: fs, Q, .cons ⟨a, o, xs, n, e, ho, hc, hd, hf⟩ t, h => by
    subst e
    rw [List.mapM_cons]
    refine wpAny_bind ?_
    rw [PySem.W.kas_first_eq]
    refine wpAny_bind (PySem.W.Looks.here (show PySem.W.Looks (model prog w) s.heap (typeOf (.ref a)) o.cls from (PySem.W.Looks.ld ho).andThen .now) ?_)
    rw [hc, if_neg (by first | decide | simp)]
    refine wpAny_bind (listItems_at ho hd (wpAny_pure ?_))
    rw [hf]
    exact wpAny_bind (fst_mapM vs fs (Q := fun bs s' => wpAny (model prog w) A (pure (f :: bs)) Q E s') t (wpAny_pure h))
theorem kind_mixed {vs : List Value} {fs : List (Option Value)} {Q : SortKind → Shared → Prop} (h0 : 0 < vs.length) (t : EachIs (Fst s.heap) vs fs) (hn : (fs.all (·.isSome)) = false) (h : Q (if (fs.head?.bind id).isSome then general' else oneType') s) : wpAny (model prog w) A (keyKind' vs.toArray) Q E s := by
  rw [PyProof.Rows.kat_kind_eq, List.mapM_toArray, map_eq_pure_bind]
  refine wpAny_bind (wpAny_bind (fst_mapM vs fs t (wpAny_pure ?_)))
  have hall : (fs.toArray.all fun x => x.isSome) = false := by simpa using hn
  rw [if_neg (by rw [hall]; exact Bool.false_ne_true)]
  have h0' : fs.toArray[0]? = fs.head? := by simp [List.head?_eq_getElem?]
  rw [h0']
  by_cases hc : (fs.head?.bind id).isSome = true
  · rw [if_pos hc] at h
    rw [if_pos hc]
    exact wpAny_pure h
  · rw [if_neg hc] at h
    rw [if_neg hc, oneTypeOnly'_eq, List.mapM_toArray, map_eq_pure_bind]
    refine wpAny_bind (wpAny_bind (wpAny_bind (PySem.W.kas_mapM (r := Value.type "tuple") _ (fun v hv Q' hq => ?_) (wpAny_pure ?_))))
    · obtain ⟨f, hf, a, o, xs, n, e, ho, hcl, hd, _⟩ := t.left v hv
      subst e
      exact PySem.W.Looks.here (show PySem.W.Looks (model prog w) s.heap (typeOf (.ref a)) (.type "tuple") from hcl ▸ (PySem.W.Looks.ld ho).andThen .now) hq
    · obtain ⟨v₀, rest, rfl⟩ : ∃ v₀ rest, vs = v₀ :: rest := by
        match vs, h0 with
        | v₀ :: rest, _ => exact ⟨v₀, rest, rfl⟩
      have hall2 : ((List.map (fun _ => Value.type "tuple") (v₀ :: rest)).toArray.all fun x => x == Value.type "tuple") = true := by
        simp only [List.all_toArray, List.all_map, List.all_eq_true]
        intro _ _
        rfl
      have h1 : (List.map (fun _ => Value.type "tuple") (v₀ :: rest)).toArray[0]? = some (Value.type "tuple") := by simp
      rw [h1]
      simp only [hall2, if_true]
      exact wpAny_pure (wpAny_pure h)
theorem fst_each {h : Heap} : ∀ {vs : List Value} {ds : List PyData}, EachIs (fun v d => ∃ as, Reads h v d as) vs ds → (∀ d ∈ ds, ∃ xs, d = .tuple xs) → ∃ fs, EachIs (Fst h) vs fs ∧ ((∀ d ∈ ds, ∃ x r, d = .tuple (x :: r)) ∨ (fs.all (·.isSome)) = false)
  | _, _, .nil, _ => ⟨[], .nil, .inl fun d hd => nomatch hd⟩
  | v :: vs, d :: ds, .cons ⟨as, r⟩ t, ht => by
    obtain ⟨fs, h1, h2⟩ := fst_each t fun d hd => ht d (.tail _ hd)
    obtain ⟨xs, rfl⟩ := ht d (.head _)
    cases r with
    | @tuple a o us n _ _ ho hc hd hr =>
      cases q : us.toList with
      | nil =>
        refine ⟨none :: fs, .cons ⟨a, o, us, n, rfl, ho, hc, hd, ?_⟩ h1, .inr rfl⟩
        rw [← Array.getElem?_toList, q]
        rfl
      | cons f fr =>
        rw [q] at hr
        cases hr with
        | cons r1 r2 =>
          refine ⟨some f :: fs, .cons ⟨a, o, us, n, rfl, ho, hc, hd, ?_⟩ h1, ?_⟩
          · rw [← Array.getElem?_toList, q]
            rfl
          · rcases h2 with h2 | h2
            · refine .inl fun d hd => ?_
              rcases List.mem_cons.mp hd with rfl | hd
              · exact ⟨_, _, rfl⟩
              · exact h2 d hd
            · refine .inr ?_
              rw [List.all_cons, h2]
              rfl
theorem sortsAt_tuples {vs : List Value} {ds : List PyData} (e : EachIs (fun v d => ∃ as, Reads s.heap v d as) vs ds) (hal : AllAlike ds) (ht : ∀ d ∈ ds, ∃ xs, d = .tuple xs) (hu : ∀ d, d ∈ ds → A.units + d.depth < cLine) : SortsAt prog w A s (dataKind s.heap ds) vs := by
  obtain ⟨fs, h1, h2⟩ := fst_each e ht
  rcases h2 with h2 | h2
  · exact PySem.W.SortsAt.data e hal (.inl h2) hu
  · have room : ∀ {d d' : PyData}, d ∈ ds → A.units + min d.depth d'.depth < cLine := fun {d d'} hd => Nat.lt_of_le_of_lt (Nat.add_le_add_left (Nat.min_le_left _ _) _) (hu d hd)
    refine ⟨fun v hv => ?_, if (fs.head?.bind id).isSome then general' else oneType', ?_, fun h2' E Q hq => kind_mixed (by omega) h1 h2 hq⟩
    · obtain ⟨d, hd, as, r⟩ := e.left v hv
      exact ⟨_, dataKind_some hal hd r⟩
    · intro E x y a b Q ha hb hq
      obtain ⟨d, as, hd, ra, rfl⟩ := dataKind_inv ha
      obtain ⟨d', as', hd', rb, rfl⟩ := dataKind_inv hb
      have hdd := hal d hd d' hd'
      have hroom := room (d' := d') hd
      obtain ⟨xs, rfl⟩ := ht d hd
      obtain ⟨ys, rfl⟩ := ht d' hd'
      split
      · rw [keyLt_general]
        exact PySem.W.oneLt_alike (fun h => by cases h) ra rb hdd (fun h => nomatch h) hroom hq
      · rw [keyLt'_oneType]
        exact oneLt_tuple ra rb hdd hroom hq
end
/-! ### the calls -/
def okSortE (ds : List D) : Bool := (ds.all fun d => ds.all fun e => PySem.W.alike d e) && (ds.all fun d => match d with | .tuple _ => true | _ => false) && (ds.all fun d => decide (d.depth ≤ 60) && noD d)
theorem okSortE_alike {ds : List D} (h : okSortE ds = true) : AllAlike (ds.map id) := by
  unfold okSortE at h
  rw [Bool.and_eq_true, Bool.and_eq_true] at h
  rw [List.map_id]
  intro d hd e he
  exact List.all_eq_true.mp (List.all_eq_true.mp h.1.1 d hd) e he
theorem okSortE_tup {ds : List D} (h : okSortE ds = true) : ∀ d ∈ ds.map id, ∃ xs, d = .tuple xs := by
  unfold okSortE at h
  rw [Bool.and_eq_true, Bool.and_eq_true] at h
  rw [List.map_id]
  intro d hd
  have := List.all_eq_true.mp h.1.2 d hd
  split at this
  · exact ⟨_, rfl⟩
  · cases this
theorem okSortE_each {ds : List D} (h : okSortE ds = true) : ∀ d ∈ ds, d.depth ≤ 60 ∧ noD d = true := by
  unfold okSortE at h
  rw [Bool.and_eq_true] at h
  intro d hd
  have := List.all_eq_true.mp h.2 d hd
  rw [Bool.and_eq_true, decide_eq_true_eq] at this
  exact this
def dSortedR (b : Bool) (ds : List D) : List D := ds.mergeSort (PySem.W.dataLe b id)
def rSortE (K : PySem.W.Frag) (b : Bool) : List V → Hp → VK → Prop := fun xs H Q => ∃ a vs ds G, xs = [.ref a] ∧ (SqL K H a vs ∨ SqT K H a vs) ∧ Sub G H ∧ RpA K G vs ds ∧ okSortE ds = true ∧ ∀ p ws, H p = none → RpA K G ws (dSortedR b ds) → Q (.ref p) (upd H p (.lst ws))
section
variable {X : Cx} {pins : List (Addr × Obj)} {σ : L2.St} {H G : Hp} {s : Shared}
/-- sorted(x), sorted(x, reverse=b), x a list or a tuple of tuples -/
theorem call_sortE {b : Bool} {kw : List (Str × Value)} {us : List Value} {xs : List V} {Q : VK} (hkw : (kw = [] ∧ b = false) ∨ kw = [(Str.ofString "reverse", .bool b)]) (hu : X.A.units + 128 < cLine) (I : Inv X pins σ H s) (r : Vals xs us) (h : rSortE X.K b xs H Q) :
    wpAny (model X.prog X.w) X.A (call (.builtin "sorted") us kw) (EP X pins σ Q) X.xe s := by
  obtain ⟨a, vs, ds, G, rfl, hsq, sb, rp, ok, q⟩ := h
  obtain ⟨u, rfl, ru⟩ := vals1 r
  cases ru
  have hsrc : ∃ (its : List Value) (T : String) (o : Obj) (n : Nat), Vals vs its ∧ (T = "list" ∨ T = "tuple") ∧ s.heap.get? a = some o ∧ o.cls = .type T ∧ o.data = .seq its.toArray n ∧ vs.length ≤ sizeLine := by
    rcases hsq with hl | ht
    · obtain ⟨its, rv, ⟨o, n, e1, e2, _, e3⟩, hz⟩ := I.list hl
      exact ⟨its, "list", o, n, rv, .inl rfl, e1, e2, e3, hz⟩
    · obtain ⟨its, rv, ⟨o, e1, e2, n, e3⟩, hz⟩ := I.tuple ht
      exact ⟨its, "tuple", o, n, rv, .inr rfl, e1, e2, e3, hz⟩
  obtain ⟨its, T, o, n, rv, hT, ho, hc, hd, hz⟩ := hsrc
  have hlen : its.length ≤ sizeLine := by rw [← rv.length]; exact hz
  have ha1 : argsOk "sorted" ⟨[.ref a], kw⟩ := by
    rcases hkw with ⟨rfl, _⟩ | rfl
    · exact args_sorted1 _
    · exact args_sorted_rev _ _
  have ha2 : ∀ x, argsOk "list.sort" ⟨[.ref x], kw⟩ := fun x => by
    rcases hkw with ⟨rfl, _⟩ | rfl
    · exact args_list_sort _
    · exact args_list_sort_rev _ _
  refine PyProof.Rows.call_function_entry_kw kind_sorted plain_sorted entry_sorted ha1 ?_
  unfold Builtin.«sorted»
  refine wpAny_bind (m := checkCount "sorted" 1 1 _) (wpAny_pure ?_)
  refine wpAny_bind (wpAny_collect_seq a hT ho hc hd (fun h1 k1 => ?_) (by simpa using hlen))
  have e0 : its.toArray.toList = its := by simp
  rw [e0]
  refine wpAny_bind (wpAny_newList ?_ hlen)
  have at2 : (h1.push (seqObj "list" its.toArray 0)).get? h1.objs.size = some (seqObj "list" its.toArray 0) := Heap.get?_push_size _ rfl
  have k2 : ∀ b ob, s.heap.get? b = some ob → (h1.push (seqObj "list" its.toArray 0)).get? b = some ob := fun b ob e => Heap.get?_push_of_some _ (k1 b ob e)
  have I1 : Inv X pins σ H { s with heap := h1 } := I.kept (t' := s.toks) k1
  have hp : H h1.objs.size = none := I1.hok.fresh (Nat.le_refl _)
  have h2sz : (h1.push (seqObj "list" its.toArray 0)).objs.size = h1.objs.size + 1 := size_push' _ _
  have kS : ∀ b ob, s.heap.get? b = some ob → (PySem.W.sortingHeap (h1.push (seqObj "list" its.toArray 0)) h1.objs.size its).get? b = some ob := fun b ob e =>
    PySem.W.sortingHeap_old (Nat.ne_of_lt (Heap.lt_size (k1 b ob e))) (k2 b ob e)
  have I3 : Inv X pins σ H { s with heap := PySem.W.sortingHeap (h1.push (seqObj "list" its.toArray 0)) h1.objs.size its } := I.kept (t' := s.toks) kS
  have nd : ∀ d ∈ ds, noD d = true := fun d hd => (okSortE_each ok d hd).2
  have er := each_reads I3 sb nd rp rv
  have ee := each_rp rp rv
  have al := okSortE_alike ok
  have so := okSortE_tup ok
  have S : SortsAt X.prog X.w X.A.in1.in1 { s with heap := PySem.W.sortingHeap (h1.push (seqObj "list" its.toArray 0)) h1.objs.size its } (dataKind (PySem.W.sortingHeap (h1.push (seqObj "list" its.toArray 0)) h1.objs.size its) (ds.map id)) its :=
    sortsAt_tuples (s := { s with heap := PySem.W.sortingHeap (h1.push (seqObj "list" its.toArray 0)) h1.objs.size its }) (PySem.W.each_map (R := fun v d => ∃ as, Reads (PySem.W.sortingHeap (h1.push (seqObj "list" its.toArray 0)) h1.objs.size its) v d as) id er) al so fun d hd => by
      rw [List.map_id] at hd
      have := (okSortE_each ok d hd).1
      show X.A.units + 1 + 1 + d.depth < cLine
      omega
  refine wpAny_bind (wpAny_holding (PyProof.Rows.wpAny_call_entry_kw slot_list_sort ⟨_, at2, rfl⟩ entry_list_sort ?body (ha2 _)))
  case body =>
    show wpAny (model X.prog X.w) X.A.in1.in1 (Builtin.«list.sort» ⟨[.ref h1.objs.size], kw⟩) _ _ _
    rcases hkw with ⟨rfl, rfl⟩ | rfl
    · refine PySem.W.list_sort_vals (s := { s with heap := h1.push (seqObj "list" its.toArray 0) }) at2 S hlen ?_
      have out := PySem.W.sortVals_data false ee er al
      obtain ⟨ws, rw', rs⟩ := rp_each out
      refine ⟨_, rfl, wpAny_pure ⟨_, rfl, ?_⟩⟩
      obtain ⟨ep, he⟩ := sortedHeap_at (vs := its) (out := (PySem.W.sortVals (dataKind (PySem.W.sortingHeap (h1.push (seqObj "list" its.toArray 0)) h1.objs.size its) (ds.map id)) false its its).toArray) at2
      have lw : ws.length = vs.length := by
        rw [rw'.length, PySem.W.sortVals_length false rfl, rv.length]
      refine ⟨.ref h1.objs.size, _, I1.laid (t' := s.toks) (o := .lst ws) (fun b ob e => ?_) (Nat.le_refl _) ⟨by rw [lw]; exact hz, _, ep, rw', he⟩, rfl, q h1.objs.size ws hp rs⟩
      rw [sortedHeap_old (Nat.ne_of_lt (Heap.lt_size e)) (by rw [h2sz]; exact Nat.lt_succ_of_lt (Heap.lt_size e))]
      exact Heap.get?_push_of_some _ e
    · refine PySem.W.list_sort_rev_vals (s := { s with heap := h1.push (seqObj "list" its.toArray 0) }) at2 S hlen ?_
      have out := PySem.W.sortVals_data b ee er al
      obtain ⟨ws, rw', rs⟩ := rp_each out
      refine ⟨_, rfl, wpAny_pure ⟨_, rfl, ?_⟩⟩
      obtain ⟨ep, he⟩ := sortedHeap_at (vs := its) (out := (PySem.W.sortVals (dataKind (PySem.W.sortingHeap (h1.push (seqObj "list" its.toArray 0)) h1.objs.size its) (ds.map id)) b its its).toArray) at2
      have lw : ws.length = vs.length := by
        rw [rw'.length, PySem.W.sortVals_length b rfl, rv.length]
      refine ⟨.ref h1.objs.size, _, I1.laid (t' := s.toks) (o := .lst ws) (fun b ob e => ?_) (Nat.le_refl _) ⟨by rw [lw]; exact hz, _, ep, rw', he⟩, rfl, q h1.objs.size ws hp rs⟩
      rw [sortedHeap_old (Nat.ne_of_lt (Heap.lt_size e)) (by rw [h2sz]; exact Nat.lt_succ_of_lt (Heap.lt_size e))]
      exact Heap.get?_push_of_some _ e
end
end Nt

/-! sorted of tuples: the readings, the text -/
namespace Nt
open PySem PySem.Spec PyProof.Rows L2
def dSortedE (b : Bool) : List D → Option D
  | [.list ds] => if okSortE ds then some (.list (dSortedR b ds)) else none
  | [.tuple ds] => if okSortE ds then some (.list (dSortedR b ds)) else none
  | _ => none
theorem rw_sortedE {b : Bool} {K : PySem.W.Frag} {t : TA} {fs : Mo (List Opd)} (h : RA K t fs) : RW K 1 (tCB (rSortE K b) t) (mCB rs1 (dSortedE b) fs) := rw_cbL h fun G H vs ds z s r hz Q q => by
  unfold dSortedE at hz
  split at hz
  · split at hz
    · rename_i xs hok
      cases hz
      cases r with
      | cons r1 r2 =>
        cases r2
        obtain ⟨a, ws, rfl, h1, p1⟩ := r1.list s
        exact ⟨a, ws, xs, G, rfl, .inl (SqL.of h1), s, p1, hok, fun p us hp ru => q p us _ hp rfl ru⟩
    · cases hz
  · split at hz
    · rename_i xs hok
      cases hz
      cases r with
      | cons r1 r2 =>
        cases r2
        obtain ⟨a, ws, rfl, h1, g1, p1⟩ := r1.tuple s
        exact ⟨a, ws, xs, G, rfl, .inr h1, s, p1, hok, fun p us hp ru => q p us _ hp rfl ru⟩
    · cases hz
  · cases hz
section
variable {X : Cx} {k n : Nat} {e : Expr} {es : List Expr} {pos p p3 p4 : Pos} {fs : Mo (List Opd)} {t : TA}
theorem w_sortedE (c : Cok X k) (B : Bt X "sorted") (h : GA X (e :: es) fs) (hs : starEach (e :: es) X.env = (false, eval e X.env) :: starEach es X.env := by rfl) (hpl : (backTo pos (starEach es X.env)).any (·.1) = false := by rfl) : GW X 1 (.Call (.Name "sorted" p) (e :: es) [] pos) (mCB rs1 (dSortedE false) fs) :=
  mkW (pe_callB (r := rSortE X.K false) (fun pins s σ H vs us Q I r q => call_sortE (b := false) (.inl ⟨rfl, rfl⟩) (by have := c.un; omega) I r q) B.gl B.mg PyProof.Rows.boot_sorted h (by decide) (by decide) hs hpl) (rw_sortedE xA)
theorem pe_sortRev {j : Nat} (hu : X.A.units + 128 < cLine) (hg : Gl X "sorted") (hm : X.mg "sorted" = none) (ha : PA X [e] t)
    (he : backTo pos (starEach [e] X.env) = (false, eval e X.env) :: backTo pos (starEach [] X.env)) (hpl : (backTo pos (starEach [e] X.env)).any (·.1) = false)
    (hall : (backToKw pos (keywordEach [⟨some (Str.ofString "reverse"), .Constant (.bool true) j p3, p4⟩] X.env)).all (·.1.isSome) = true)
    (hnone : (backToKw pos (keywordEach [⟨some (Str.ofString "reverse"), .Constant (.bool true) j p3, p4⟩] X.env)).any (·.1.isNone) = false)
    (hks : (backToKw pos (keywordEach [⟨some (Str.ofString "reverse"), .Constant (.bool true) j p3, p4⟩] X.env)).filterMap (·.1) = [Str.ofString "reverse"]) :
    PE X (.Call (.Name "sorted" p) [e] [⟨some (Str.ofString "reverse"), .Constant (.bool true) j p3, p4⟩] pos) (tCB (rSortE X.K true) t) := by
  refine ⟨fun pins s σ H Q I h => ?_⟩
  refine wpAny_Call_Name_kw (ld_blt I hg hm PyProof.Rows.boot_sorted ?_)
  refine PyProof.Rows.callWith_kw ?_ he hpl hall hnone
  refine thn (ha.run pos pins s σ H _ I h) fun us s1 ⟨vs, H1, I1, r1, q1⟩ => ?_
  have pk : PK X [⟨some (Str.ofString "reverse"), .Constant (.bool true) j p3, p4⟩] (tCons (tC (.bl true)) tNil) := pk_cons pe_bl pk_nil
  refine thn (pk.run pos pins s1 σ H1 (fun zs H2 => zs = [.bl true] ∧ H2 = H1) I1 ⟨rfl, rfl⟩) fun ws s2 ⟨zs, H2, I2, r2, hz, hH⟩ => ?_
  subst hz hH
  rw [hks]
  obtain ⟨w1, ew, rw1⟩ := vals1 r2
  subst ew
  cases rw1
  exact call_sortE (b := true) (.inr rfl) hu I2 r1 q1
theorem w_sortRev (c : Cok X k) (B : Bt X "sorted") {j : Nat} (h : GA X [e] fs)
    (he : backTo pos (starEach [e] X.env) = (false, eval e X.env) :: backTo pos (starEach [] X.env) := by rfl) (hpl : (backTo pos (starEach [e] X.env)).any (·.1) = false := by rfl)
    (hall : (backToKw pos (keywordEach [⟨some (Str.ofString "reverse"), .Constant (.bool true) j p3, p4⟩] X.env)).all (·.1.isSome) = true := by rfl)
    (hnone : (backToKw pos (keywordEach [⟨some (Str.ofString "reverse"), .Constant (.bool true) j p3, p4⟩] X.env)).any (·.1.isNone) = false := by rfl)
    (hks : (backToKw pos (keywordEach [⟨some (Str.ofString "reverse"), .Constant (.bool true) j p3, p4⟩] X.env)).filterMap (·.1) = [Str.ofString "reverse"] := by rfl) :
    GW X 1 (.Call (.Name "sorted" p) [e] [⟨some (Str.ofString "reverse"), .Constant (.bool true) j p3, p4⟩] pos) (mCB rs1 (dSortedE true) fs) :=
  mkW (pe_sortRev (by have := c.un; omega) B.gl B.mg h he hpl hall hnone hks) (rw_sortedE xA)
end
end Nt

/-! sorted(set(x)), x a list of tuples of whole numbers -/
namespace Nt
open PySem PySem.Spec PyProof.Rows L2
open PySem.W (EachIs AllAlike SortsAt dataKind)
def tuN (l : List Int) : D := .tuple (l.map PyData.int)
/-! ### orders -/
theorem eq_of_sortedN {α : Type} {le : α → α → Prop} : ∀ {l1 l2 : List α}, l1.Perm l2 → l1.Pairwise le → l2.Pairwise le → (∀ a ∈ l1, ∀ b ∈ l1, le a b → le b a → a = b) → l1 = l2
  | [], l2, h, _, _, _ => (List.perm_nil.mp h.symm).symm
  | a :: t, l2, h, p1, p2, anti => by
    cases l2 with
    | nil => exact absurd h.length_eq (by simp)
    | cons b t2 =>
      have hab : a = b := by
        rcases List.mem_cons.mp (h.mem_iff.mp List.mem_cons_self) with e | h1
        · exact e
        · rcases List.mem_cons.mp (h.mem_iff.mpr (List.mem_cons_self (a := b) (l := t2))) with e | h2
          · exact e.symm
          · exact anti a List.mem_cons_self b (List.mem_cons_of_mem _ h2) ((List.pairwise_cons.mp p1).1 b h2) ((List.pairwise_cons.mp p2).1 a h1)
      subst hab
      have ht := (List.perm_cons a).mp h
      rw [eq_of_sortedN ht (List.pairwise_cons.mp p1).2 (List.pairwise_cons.mp p2).2 fun x hx y hy => anti x (List.mem_cons_of_mem _ hx) y (List.mem_cons_of_mem _ hy)]
theorem le_tuN (x y : List Int) : PySem.W.dataLe false id (tuN x) (tuN y) = decide (x ≤ y) := by
  show (!PySem.W.dataLt (.tuple (y.map .int)) (.tuple (x.map .int))) = _
  rw [PySem.W.dataLt_tuple]
  show (!PySem.W.rowLt (y.map .int) (x.map .int)) = _
  rw [PySem.W.dataLt_ints]
  by_cases h : y < x
  · have h' : ¬ x ≤ y := fun r => List.not_lt.mpr r h
    simp [h, h']
  · have h' : x ≤ y := List.not_lt.mp h
    simp [h, h']
theorem srtR_pw (b : Bool) (ds : List D) : (dSortedR b ds).Pairwise fun x y => PySem.W.dataLe b id x y = true := by
  have T := PySem.W.sortLe_total (PyProof.Rows.listOrd PyProof.Rows.itemOrd) b fun d : D => PySem.W.keyToks (id d)
  exact List.pairwise_mergeSort (fun a b c h1 h2 => T.trans a b c h1 h2) (fun a b => by rw [Bool.or_eq_true]; exact T.total a b) ds
theorem srtR_perm (b : Bool) (ds : List D) : (dSortedR b ds).Perm ds := List.mergeSort_perm ds _
theorem srtN_perm {A B : List (List Int)} (h : A.Perm B) : dSortedR false (A.map tuN) = dSortedR false (B.map tuN) := by
  refine eq_of_sortedN (((srtR_perm _ _).trans (h.map _)).trans (srtR_perm _ _).symm) (srtR_pw _ _) (srtR_pw _ _) fun a ha b hb h1 h2 => ?_
  obtain ⟨x, _, rfl⟩ := List.mem_map.mp ((srtR_perm _ _).mem_iff.mp ha)
  obtain ⟨y, _, rfl⟩ := List.mem_map.mp ((srtR_perm _ _).mem_iff.mp hb)
  rw [le_tuN, decide_eq_true_eq] at h1 h2
  rw [List.le_antisymm h1 h2]
theorem okSortE_ints (A : List (List Int)) : okSortE (A.map tuN) = true := by
  unfold okSortE
  rw [Bool.and_eq_true, Bool.and_eq_true]
  refine ⟨⟨?_, ?_⟩, ?_⟩
  · rw [List.all_eq_true]
    intro d hd
    rw [List.all_eq_true]
    intro e he
    obtain ⟨x, _, rfl⟩ := List.mem_map.mp hd
    obtain ⟨y, _, rfl⟩ := List.mem_map.mp he
    show PySem.W.alike (.tuple (x.map .int)) (.tuple (y.map .int)) = true
    have := PySem.W.alike_ints x y
    simpa [PySem.W.alike] using this
  · rw [List.all_eq_true]
    intro d hd
    obtain ⟨x, _, rfl⟩ := List.mem_map.mp hd
    rfl
  · rw [List.all_eq_true]
    intro d hd
    obtain ⟨x, _, rfl⟩ := List.mem_map.mp hd
    rw [Bool.and_eq_true, decide_eq_true_eq]
    constructor
    · show (PyData.tuple (x.map .int)).depth ≤ 60
      rw [PyData.depth, PySem.W.depth_ints]
      omega
    · show noD (.tuple (x.map PyData.int)) = true
      rw [noD]
      exact noDs_ints _
/-! ### the set -/
theorem nubL_nodup (ks : List (List Int)) : (nubL ks).Nodup := by
  have key : ∀ (ks acc : List (List Int)), acc.Nodup → (ks.foldl (fun acc k => if k ∈ acc then acc else acc ++ [k]) acc).Nodup := by
    intro ks
    induction ks with
    | nil => intro acc h; exact h
    | cons k ks ih =>
      intro acc h
      rw [List.foldl_cons]
      refine ih _ ?_
      split
      · exact h
      · rename_i hn
        refine List.nodup_append.mpr ⟨h, by simp, fun a ha b hb e => ?_⟩
        rw [List.mem_singleton.mp hb] at e
        exact hn (e ▸ ha)
  exact key ks [] List.nodup_nil
theorem mem_nubL {k : List Int} (ks : List (List Int)) : k ∈ nubL ks ↔ k ∈ ks := by
  have key : ∀ (ks acc : List (List Int)), k ∈ ks.foldl (fun acc k => if k ∈ acc then acc else acc ++ [k]) acc ↔ k ∈ acc ∨ k ∈ ks := by
    intro ks
    induction ks with
    | nil => intro acc; simp
    | cons j ks ih =>
      intro acc
      rw [List.foldl_cons, ih, List.mem_cons]
      split
      · rename_i hj
        constructor
        · rintro (h | h)
          · exact .inl h
          · exact .inr (.inr h)
        · rintro (h | h | h)
          · exact .inl h
          · exact .inl (h ▸ hj)
          · exact .inr h
      · rw [List.mem_append, List.mem_singleton]
        constructor
        · rintro ((h | h) | h)
          · exact .inl h
          · exact .inr (.inl h)
          · exact .inr (.inr h)
        · rintro (h | h | h)
          · exact .inl (.inl h)
          · exact .inl (.inr h)
          · exact .inr h
  unfold nubL
  rw [key ks []]
  simp
theorem perm_mapN {α β : Type} (f : α → β) : ∀ {ys zs : List β}, ys.Perm zs → ∀ A : List α, zs = A.map f → ∃ A' : List α, ys = A'.map f ∧ A'.Perm A := by
  intro ys zs h
  induction h with
  | nil => intro A e; exact ⟨[], rfl, by cases A with | nil => exact List.Perm.refl _ | cons a A => simp at e⟩
  | cons x _ ih =>
    intro A e
    cases A with
    | nil => simp at e
    | cons a A =>
      rw [List.map_cons] at e
      obtain ⟨e1, e2⟩ := List.cons.inj e
      obtain ⟨A', h1, h2⟩ := ih A e2
      exact ⟨a :: A', by rw [h1, e1, List.map_cons], h2.cons a⟩
  | swap x y l =>
    intro A e
    match A, e with
    | a :: b :: A, e =>
      rw [List.map_cons, List.map_cons] at e
      obtain ⟨e1, e2⟩ := List.cons.inj e
      obtain ⟨e3, e4⟩ := List.cons.inj e2
      exact ⟨b :: a :: A, by rw [e1, e3, e4]; rfl, List.Perm.swap a b A⟩
  | trans _ _ h1 h2 =>
    intro A e
    obtain ⟨A1, p1, q1⟩ := h2 A e
    obtain ⟨A2, p2, q2⟩ := h1 A1 p1
    exact ⟨A2, p2, q2.trans q1⟩
def tSrtSetT (K : PySem.W.Frag) (ta : TE) : TE := fun σ H Q => ta σ H fun x H1 => ∃ (l : Addr) (ks : List (Addr × List Int)) (G : Hp), x = V.ref l ∧ SqL K H1 l (ks.map fun p => V.ref p.1) ∧ Sub G H1 ∧ (∀ p ∈ ks, Rp K G (.ref p.1) (tuN p.2)) ∧ ks.length < 64 ∧
  ∀ p ws, H1 p = none → RpA K G ws (dSortedR false ((nubL (ks.map (·.2))).map tuN)) → Q (.ref p) (upd H1 p (.lst ws))
section
variable {X : Cx}
theorem rpA_map {K : PySem.W.Frag} {G : Hp} : ∀ (L : List (Addr × List Int)), (∀ p ∈ L, Rp K G (.ref p.1) (tuN p.2)) → RpA K G (L.map fun p => V.ref p.1) (L.map fun p => tuN p.2)
  | [], _ => .nil
  | p :: L, h => .cons (h p (.head _)) (rpA_map L fun q hq => h q (.tail _ hq))
theorem pe_srtSetT {a : Expr} {ta : TE} {p p2 q pos : Pos} (hc : X.calm = true) (hu : X.A.units + 128 < cLine) (hg : Gl X "sorted") (hm : X.mg "sorted" = none) (hg2 : Gl X "set") (hm2 : X.mg "set" = none) (ha : PE X a ta)
    (na : starEach [a] X.env = (false, eval a X.env) :: starEach [] X.env := by rfl) : PE X (.Call (.Name "sorted" p) [.Call (.Name "set" p2) [a] [] q] [] pos) (tSrtSetT X.K ta) := by
  refine ⟨fun pins s σ H Q I h => ?_⟩
  refine Call_ (ld_blt I hg hm PyProof.Rows.boot_sorted ?_)
  refine PyProof.Rows.callWith_builtin1 (PyProof.Rows.args_cons ?_ rfl) rfl rfl
  refine Call_ (ld_blt I hg2 hm2 PyProof.Rows.boot_set ?_)
  refine PyProof.Rows.callWith_type1 (PyProof.Rows.args_cons (thn (ha.run pins s σ H _ I h) fun v s1 ⟨x, H1, I1, r1, q1⟩ => PyProof.Rows.args_nil ?_) na) na rfl
  obtain ⟨l, ks, G, rfl, hq, sb, hp, hl, q1⟩ := q1
  cases r1
  obtain ⟨its, rv, pl, hz⟩ := I1.list hq
  have sq : ∀ p ∈ ks, SqT X.K H1 p.1 (p.2.map V.int) := fun p hpk => by
    obtain ⟨a', ws, e, hw, rw'⟩ := (hp p hpk).tuple'
    injection e with e
    subst e
    rw [rw'.ints] at hw
    exact sb.sqT hw
  refine L2.call_set_tups (P := X.prog) (w := X.w) ks (I1.ok.hd hc) pl.isList (by simpa using refs_of_vals rv) (fun p hp => I1.isT (sq p hp)) hl (by omega) fun h' tk L es ep t R g k => ?_
  refine PyProof.Rows.args_nil ?_
  have I2 : Inv X pins σ H1 { s1 with heap := h', toks := tk } := I1.kept k
  obtain ⟨o, ho, hex, hd⟩ := R.ob
  have hsz : es.size = L.length := L2.SetTR.size (s := { s1 with heap := h', toks := tk }) R
  have hfew := R.few
  refine Calls.call_function_entry kind_sorted plain_sorted entry_sorted (args_sorted1 _) ?_
  unfold Builtin.«sorted»
  refine wpAny_bind (m := checkCount "sorted" 1 1 _) (wpAny_pure ?_)
  refine wpAny_bind (L2.collect_set (A := X.A.in1) (I2.ok.hd hc) ⟨o, ho, hex.1, hd⟩ (L2.SetTR.fits (s := { s1 with heap := h', toks := tk }) R) (by unfold scanBound; omega) R.tab.ris R.led fun s2 us k1 hz2 g1 o1 pm => ?_)
  have hes : es.toList.map (·.2) = L.map fun q => Value.ref q.1 := by
    rw [R.rows]
    unfold rowsOf
    rw [List.map_map] <;> rfl
  rw [hes] at pm
  have sub : ∀ q ∈ L, q ∈ ks := fun q hq => List.mem_of_mem_take (g.sub q hq)
  obtain ⟨L1, eL, pL⟩ : ∃ L1 : List (Addr × List Int), us = L1.map (fun q => Value.ref q.1) ∧ L1.Perm L := perm_mapN (fun q : Addr × List Int => Value.ref q.1) pm L rfl
  have I3 : Inv X pins σ H1 s2 := I2.call' (ch := []) o1 (Un.kept k1) (I2.hok.kept k1) (by rw [g1]; exact I2.bare) (fun _ z => nomatch z)
  have rp : RpA X.K G (L1.map fun p => V.ref p.1) (L1.map fun p => tuN p.2) := rpA_map L1 fun q hq => hp q (sub q (pL.mem_iff.mp hq))
  have rv1 : Vals (L1.map fun p => V.ref p.1) us := by rw [eL]; exact vals_of_refs L1
  have hl1 : us.length < 64 := by rw [eL, List.length_map, pL.length_eq]; exact hfew
  have hlen : us.length ≤ sizeLine := by rw [sizeLine_eq]; omega
  refine wpAny_bind (wpAny_newList ?_ hlen)
  have at2 : (s2.heap.push (seqObj "list" us.toArray 0)).get? s2.heap.objs.size = some (seqObj "list" us.toArray 0) := Heap.get?_push_size _ rfl
  have hp0 : H1 s2.heap.objs.size = none := I3.hok.fresh (Nat.le_refl _)
  have h2sz : (s2.heap.push (seqObj "list" us.toArray 0)).objs.size = s2.heap.objs.size + 1 := size_push' _ _
  have kS : ∀ b ob, s2.heap.get? b = some ob → (PySem.W.sortingHeap (s2.heap.push (seqObj "list" us.toArray 0)) s2.heap.objs.size us).get? b = some ob := fun b ob e =>
    PySem.W.sortingHeap_old (Nat.ne_of_lt (Heap.lt_size e)) (Heap.get?_push_of_some _ e)
  have I4 : Inv X pins σ H1 { s2 with heap := PySem.W.sortingHeap (s2.heap.push (seqObj "list" us.toArray 0)) s2.heap.objs.size us } := I3.kept (t' := s2.toks) kS
  have ds0 : (L1.map fun p => tuN p.2) = (L1.map (·.2)).map tuN := by rw [List.map_map]; rfl
  have ok : okSortE (L1.map fun p => tuN p.2) = true := by rw [ds0]; exact okSortE_ints _
  have nd : ∀ d ∈ (L1.map fun p => tuN p.2), noD d = true := fun d hd => (okSortE_each ok d hd).2
  have er := each_reads I4 sb nd rp rv1
  have ee := each_rp rp rv1
  have al := okSortE_alike ok
  have so := okSortE_tup ok
  have S : SortsAt X.prog X.w X.A.in1.in1 { s2 with heap := PySem.W.sortingHeap (s2.heap.push (seqObj "list" us.toArray 0)) s2.heap.objs.size us } (dataKind (PySem.W.sortingHeap (s2.heap.push (seqObj "list" us.toArray 0)) s2.heap.objs.size us) ((L1.map fun p => tuN p.2).map id)) us :=
    sortsAt_tuples (s := { s2 with heap := PySem.W.sortingHeap (s2.heap.push (seqObj "list" us.toArray 0)) s2.heap.objs.size us }) (PySem.W.each_map (R := fun v d => ∃ as, Reads (PySem.W.sortingHeap (s2.heap.push (seqObj "list" us.toArray 0)) s2.heap.objs.size us) v d as) id er) al so fun d hd => by
      rw [List.map_id] at hd
      have := (okSortE_each ok d hd).1
      show X.A.units + 1 + 1 + d.depth < cLine
      omega
  have key : dSortedR false (L1.map fun p => tuN p.2) = dSortedR false ((nubL (ks.map (·.2))).map tuN) := by
    rw [ds0]
    refine srtN_perm ((List.perm_ext_iff_of_nodup ((pL.map (·.2)).nodup_iff.mpr R.nd) (nubL_nodup _)).mpr fun k => ?_)
    rw [mem_nubL, (pL.map (·.2)).mem_iff]
    constructor
    · intro hk
      obtain ⟨q, hq, e⟩ := List.mem_map.mp hk
      exact List.mem_map.mpr ⟨q, sub q hq, e⟩
    · intro hk
      obtain ⟨q, hq, e⟩ := List.mem_map.mp hk
      rw [← e]
      exact g.all q (by rw [List.take_length]; exact hq)
  refine wpAny_bind (wpAny_holding (PyProof.Rows.wpAny_call_entry_kw slot_list_sort ⟨_, at2, rfl⟩ entry_list_sort ?body (args_list_sort _)))
  case body =>
    show wpAny (model X.prog X.w) X.A.in1.in1 (Builtin.«list.sort» ⟨[.ref s2.heap.objs.size], []⟩) _ _ _
    refine PySem.W.list_sort_vals (s := { s2 with heap := s2.heap.push (seqObj "list" us.toArray 0) }) at2 S hlen ?_
    have out := PySem.W.sortVals_data false ee er al
    obtain ⟨ws, rw', rs⟩ := rp_each out
    refine ⟨_, rfl, wpAny_pure ⟨_, rfl, ?_⟩⟩
    obtain ⟨ep2, he⟩ := sortedHeap_at (vs := us) (out := (PySem.W.sortVals (dataKind (PySem.W.sortingHeap (s2.heap.push (seqObj "list" us.toArray 0)) s2.heap.objs.size us) ((L1.map fun p => tuN p.2).map id)) false us us).toArray) at2
    have lw : ws.length = us.length := by
      rw [rw'.length, PySem.W.sortVals_length false rfl]
    refine ⟨.ref s2.heap.objs.size, _, I3.laid (t' := s2.toks) (o := .lst ws) (fun b ob e => ?_) (Nat.le_refl _) ⟨by rw [lw]; exact hlen, _, ep2, rw', he⟩, rfl, q1 s2.heap.objs.size ws hp0 (by rw [← key]; exact rs)⟩
    rw [sortedHeap_old (Nat.ne_of_lt (Heap.lt_size e)) (by rw [h2sz]; exact Nat.lt_succ_of_lt (Heap.lt_size e))]
    exact Heap.get?_push_of_some _ e
end
end Nt

/-! sorted(set(x)) of tuples: the reading, the text; evaluation of N41..N43 -/
namespace Nt
open PySem PySem.Spec PyProof.Rows L2
variable {s0 : Sl} {ρ0 : Nt.Env}
def tupK : D → Option (List Int)
  | .tuple ds => asInts ds
  | _ => none
def tupsK : List D → Option (List (List Int))
  | [] => some []
  | d :: ds => match tupK d, tupsK ds with
    | some k, some ks => some (k :: ks)
    | _, _ => none
theorem tupsK_map : ∀ A : List (List Int), tupsK (A.map tuN) = some A
  | [] => rfl
  | k :: A => by
    rw [List.map_cons]
    unfold tupsK
    have : tupK (tuN k) = some k := asInts_map k
    rw [this, tupsK_map A]
theorem tupsK_rp {K : PySem.W.Frag} {G : Hp} : ∀ {vs : List V} {ds : List D} {ks : List (List Int)}, RpA K G vs ds → tupsK ds = some ks → ∃ L : List (Addr × List Int), vs = L.map (fun p => V.ref p.1) ∧ L.map (·.2) = ks ∧ ∀ p ∈ L, Rp K G (.ref p.1) (tuN p.2)
  | _, _, ks, .nil, e => by
    cases e
    exact ⟨[], rfl, rfl, fun p hp => nomatch hp⟩
  | _, _, ks, .cons (d := d) (ds := ds) r t, e => by
    unfold tupsK at e
    split at e
    · rename_i k ks' e1 e2
      cases e
      obtain ⟨L, h1, h2, h3⟩ := tupsK_rp t e2
      unfold tupK at e1
      split at e1
      · rename_i xs
        have ex := asInts_ok e1
        subst ex
        obtain ⟨a, ws, rfl, _⟩ := id r.tuple'
        refine ⟨(a, k) :: L, by rw [List.map_cons, h1], by rw [List.map_cons, h2], fun p hp => ?_⟩
        rcases List.mem_cons.mp hp with rfl | hp
        · exact r
        · exact h3 p hp
      · cases e1
    · cases e
def srtS (d : D) : Option D := match d with
  | .list ds => match tupsK ds with
    | some ks => if ks.length < 64 then some (.list (dSortedR false ((nubL ks).map tuN))) else none
    | none => none
  | _ => none
def mSrtSetT (fa : Mo Opd) : Mo D := fun ρ => match fa ρ with
  | none => none
  | some (o, ρ1) => match rs1 ρ1 o with
    | some d => match srtS d with
      | some z => some (z, ρ1)
      | none => none
    | none => none
section
variable {X : Cx} {k n : Nat} {a : Expr} {p p2 p3 pos : Pos} {oa : Mo Opd}
theorem w_srtSetT (c : Cok X k) (B : Bt X "sorted") (B2 : Bt X "set") (h : GO X a oa) (na : starEach [a] X.env = (false, eval a X.env) :: starEach [] X.env := by rfl) :
    GW X 1 (.Call (.Name "sorted" p) [.Call (.Name "set" p2) [a] [] p3] [] pos) (mSrtSetT oa) :=
  mkW (pe_srtSetT c.calm (by have := c.un; omega) B.gl B.mg B2.gl B2.mg h na) fun ρ d ρ' e σ G H fp S Q q => by
    unfold mSrtSetT at e
    split at e
    · cases e
    · rename_i o ρ1 e1
      split at e
      · rename_i d0 e2
        split at e
        · rename_i z e3
          cases e
          unfold srtS at e3
          split at e3
          · rename_i ds
            split at e3
            · rename_i ks e4
              split at e3
              · rename_i hl
                cases e3
                refine xO ρ _ _ e1 σ G H fp S _ fun v G1 H1 fp1 st1 S1 r1 => ?_
                have r2 := rs1_r S1 r1 e2
                obtain ⟨l, ws, rfl, hw, rw'⟩ := r2.list S1.sub
                obtain ⟨L, h1, h2, h3⟩ := tupsK_rp rw' e4
                subst h1
                refine ⟨l, L, G1, rfl, SqL.of hw, S1.sub, h3, by rw [← h2, List.length_map] at hl; exact hl, fun p us hp ru => ?_⟩
                rw [h2] at ru
                exact q _ G1 _ fp1 [p] (st1.trans (Stp.new hp)) (S1.new hp) (Ow.new1 upd_same ru) (Tmp.one S1 st1 hp)
              · cases e3
            · cases e3
          · cases e3
        · cases e
      · cases e
end
/-! ### evaluation -/
@[simp] theorem mSrtSetT_ev (fa : Mo Opd) : mSrtSetT fa (s0 :: ρ0) = ob (fa (s0 :: ρ0)) fun p => ob (rs1 p.2 p.1) fun d => ob (srtS d) fun z => some (z, p.2) := by
  unfold mSrtSetT
  cases fa (s0 :: ρ0) with
  | none => rfl
  | some p =>
    obtain ⟨o, ρ1⟩ := p
    rw [ob_some]
    show (match rs1 ρ1 o with | some d => _ | none => none) = ob (rs1 ρ1 o) _
    cases rs1 ρ1 o with
    | none => rfl
    | some d =>
      rw [ob_some]
      show (match srtS d with | some z => _ | none => none) = ob (srtS d) _
      cases srtS d <;> rfl
theorem srtS_ev {A : List (List Int)} (h : A.length < 64) : srtS (.list (A.map tuN)) = some (.list (dSortedR false ((nubL A).map tuN))) := by
  unfold srtS
  simp only [tupsK_map, h, if_true]
theorem dSortedE_l {b : Bool} {ds : List D} (h : okSortE ds = true) : dSortedE b [.list ds] = some (.list (dSortedR b ds)) := by
  unfold dSortedE
  simp only [h, if_true]
theorem dSortedE_t {b : Bool} {ds : List D} (h : okSortE ds = true) : dSortedE b [.tuple ds] = some (.list (dSortedR b ds)) := by
  unfold dSortedE
  simp only [h, if_true]
section
variable {X : Cx} {k n m : Nat} {e a : Expr} {p : Pos} {oa ob' : Mo Opd}
theorem q_din (c : Cok X k) (ha : GO X a oa) (hb : GO X e ob') (hm : behindInMarks .In e = false) : GT X (.Compare a [.In] [e] p) (mTest (m2 rs (dDI false) oa ob')) := mkT (pt_cmp (pc_din (by have := c.un; omega) ha hb) hm) (rt_test (re_din xO xO))
end
@[simp] theorem dDIF_ev (k : Int) (ds : List (D × D)) : dDI false (.int k) (.dict ds) = some (.bool (lookD ds (.inl k)).isSome) := id rfl
end Nt

/-! a test over frozen lists of one's own -/
namespace Nt
open PySem PySem.Spec PyProof.Rows L2
def mFrzT (f : Mo Bool) : Mo Bool := fun ρ => match f (ρ.map frS) with
  | some (z, _) => some (z, ρ)
  | none => none
section
variable {K : PySem.W.Frag} {G G' H : Hp}
open Classical in
theorem rt_frz {t : TT} {f : Mo Bool} (h : RT K t f) : RT K t (mFrzT f) := fun ρ z ρ' e σ G H fp S Q q => by
  unfold mFrzT at e
  split at e
  · rename_i z1 ρm e1
    · cases e
      let Gm : Hp := fun a => if ∃ i, a ∈ fp i then H a else G a
      have gm1 : ∀ i a, a ∈ fp i → Gm a = H a := fun i a ha => if_pos ⟨i, ha⟩
      have gm2 : ∀ a, (∀ i, a ∉ fp i) → Gm a = G a := fun a ha => if_neg fun ⟨i, hi⟩ => ha i hi
      have sub : Sub G Gm := fun a o ha => (gm2 a fun i hi => by rw [S.fr i a hi] at ha; cases ha).trans ha
      have Sm : Sat K (ρ.map frS) σ Gm H (fun _ => []) := by
        refine ⟨by rw [List.length_map]; exact S.len, fun i s hs => ?_, fun _ _ => rfl, (fun i j a ha => nomatch ha), fun _ => List.nodup_nil, (fun i a ha => nomatch ha), fun a o ha => ?_⟩
        · rw [List.getElem?_map] at hs
          obtain ⟨s0, h0, rfl⟩ := Option.map_eq_some_iff.mp hs
          have q0 := S.sl i s0 h0
          cases s0 with
          | un => exact rfl
          | sh d =>
            obtain ⟨_, v, ev, r⟩ := q0
            exact ⟨rfl, v, ev, r.mono sub⟩
          | ow n d =>
            obtain ⟨v, ev, o⟩ := q0
            exact ⟨rfl, v, ev, o.rp sub fun a ha => gm1 i a ha⟩
        · by_cases hf : ∃ i, a ∈ fp i
          · have : Gm a = H a := if_pos hf
            rw [← this]; exact ha
          · have : Gm a = G a := if_neg hf
            rw [this] at ha
            exact S.sub a o ha
      refine h _ _ _ e1 σ Gm H _ Sm _ fun G2 H2 fp2 st S2 => ?_
      have same : ∀ a, H a ≠ none → H2 a = H a := fun a ha => st.h a (fun i hi => nomatch hi) ha
      let G3 : Hp := fun a => if ∃ i, a ∈ fp i then none else G2 a
      have g1 : ∀ i a, a ∈ fp i → G3 a = none := fun i a ha => if_pos ⟨i, ha⟩
      have g2 : ∀ a, (∀ i, a ∉ fp i) → G3 a = G2 a := fun a ha => if_neg fun ⟨i, hi⟩ => ha i hi
      have up : Sub G G3 := fun a o ha => by
        have na : ∀ i, a ∉ fp i := fun i hi => by rw [S.fr i a hi] at ha; cases ha
        rw [g2 a na]
        exact st.g a o ((gm2 a na).trans ha)
      have dn : Sub G3 H2 := fun a o ha => by
        by_cases hf : ∃ i, a ∈ fp i
        · obtain ⟨i, hi⟩ := hf
          rw [g1 i a hi] at ha; cases ha
        · have : G3 a = G2 a := if_neg hf
          rw [this] at ha
          exact S2.sub a o ha
      refine q G3 H2 fp ⟨up, fun a _ ha => same a ha, st.t, fun i a ha => .inl ⟨i, ha⟩, fun a ha => ?_⟩ (S.keep up (fun i a ha => same a (S.live ha)) g1 dn)
      · by_cases hf : ∃ i, a ∈ fp i
        · exact .inr (.inl hf)
        · have e3 : G3 a = G2 a := if_neg hf
          rw [e3] at ha
          rcases st.n a ha with z | ⟨j, z⟩ | z
          · have e4 : Gm a = G a := if_neg hf
            rw [e4] at z
            exact .inl z
          · cases z
          · exact .inr (.inr z)
  · cases e
end
section
variable {X : Cx} {e : Expr} {f : Mo Bool}
theorem q_frz (h : GT X e f) : GT X e (mFrzT f) := mkT h (rt_frz xT)
end
variable {s0 : Sl} {ρ0 : Nt.Env}
@[simp] theorem mFrzT_ev (f : Mo Bool) : mFrzT f (s0 :: ρ0) = ob (f (frS s0 :: ρ0.map frS)) fun p => some (p.1, s0 :: ρ0) := by
  unfold mFrzT ob
  rw [List.map_cons]
  cases f (frS s0 :: ρ0.map frS) with
  | none => rfl
  | some p => rfl
end Nt

namespace K73
open PySem Nt
abbrev fuel__law_pick : Nt.Env → Nat := fuelPick

def fuel_parting_of : Nt.Env → Nat := fun _ => 10000
def e1_parting_of : Mo D := (mTup (mACons (mV (m2 rs1 dGetX (mSlot 3) (mV (mC (.int 0))))) (mACons (mV (m2 rs1 dAdd (mV (m2 rs1 dGetX (mSlot 3) (mV (mC (.int 1))))) (mV (mC (.int 1))))) mANil)))
def e2_parting_of : Mo D := (mTup (mACons (mV (m2 rs1 dGetX (mSlot 3) (mV (mC (.int 0))))) (mACons (mV (m2 rs1 dAdd (mV (m2 rs1 dGetX (mSlot 3) (mV (mC (.int 1))))) (mV (mC (.int 1))))) mANil)))
def e3_parting_of : Mo D := (m2 rs1 dAdd (mV (m2 rs1 dGetX (mSlot 3) (mV (mC (.int 1))))) (mV (mC (.int 1))))
def e4_parting_of : Mo D := (mName 7)
def q1_parting_of : Mo Bool := (mTest (m2 rs (dInT true) (mSlot 7) (mSlot 4)))
def l1_parting_of : MoS := (sDrop (mApp 0 8 (m2 rs1 dGetX (mSlot 2) (mV (m2 rs1 dGetX (mSlot 8) (mV (m1 rs dNeg (mV (mC (.int 1))))))))))
def q2_parting_of : Mo Bool := (mTest (m2 rs (dDI false) (mV (m2 rs1 dGetX (mSlot 8) (mV (m1 rs dNeg (mV (mC (.int 1))))))) (mSlot 2)))
def l2_parting_of : MoS := (sSeq (sSetW 1 8 (mLst (mACons (mV (mName 6)) mANil)))
  (sSeq (sWhile fuel_parting_of q2_parting_of l1_parting_of)
  (sDrop (mApp 0 5 (mCB rs1 dTuple (mACons (mSlot 8) mANil))))))
def g_parting_of : MoS :=
  (sSeq (sAsg (mCB rs1 dDict (mACons (mV (mComp (iS (mName 1)) (fName 3) mYes e2_parting_of [3])) mANil)) (fName 2))
  (sSeq (sPar [0, 1] [4, 5] (mWCons (mComp (iS (mName 1)) (fName 3) mYes e3_parting_of [3]) (mWCons (mLst mANil) mWNil)))
  (sSeq (sForIn (iS (mComp (iR1 (mACons (mV (m2 rs1 dAdd (mSlot 0) (mV (mC (.int 1))))) mANil)) (fName 7) q1_parting_of e4_parting_of [7])) (fName 6) l2_parting_of)
  (sRet (mCB rs1 dTuple (mACons (mSlot 5) mANil))))))
def F_parting_of (ds : List D) : Option D := runF 9 g_parting_of ds
def e1_lot_of_parting : Mo D := (mTup (mACons (mV (mName 4)) (mACons (mV (m2 rs dSub (mSlot 5) (mV (mC (.int 1))))) mANil)))
def e2_lot_of_parting : Mo D := (mTup (mACons (mV (mName 4)) (mACons (mV (m2 rs dSub (mSlot 5) (mV (mC (.int 1))))) mANil)))
def l1_lot_of_parting : MoS := (sAsg (m2 rs1 dAdd (mSlot 2) (mV (mComp (iZpT (mACons (mV (mName 3)) (mACons (mV (mSl (mSlot 3) (mPart (mC (.int 1))) mNoPart)) mANil))) (fSeq 2 (fCons (fName 4) (fCons (fName 5) fNil))) mYes e2_lot_of_parting [4, 5]))) (fName 2))
def g_lot_of_parting : MoS :=
  (sSeq (sAsg (mLst mANil) (fName 2))
  (sSeq (sForIn (iS (mName 1)) (fName 3) l1_lot_of_parting)
  (sRet (mCB rs1 dTuple (mACons (mV (mCB rs1 (dSortedE false) (mACons (mSlot 2) mANil))) mANil)))))
def F_lot_of_parting (ds : List D) : Option D := runF 6 g_lot_of_parting ds
def e1_all_span_lots : Mo D := (m2 rs1 dGetX (mSlot 6) (mV (mC (.int 1))))
def e2_all_span_lots : Mo D := (m2 rs1 dGetX (mSlot 6) (mV (mC (.int 1))))
def e3_all_span_lots : Mo D := (m2 rs1 dAdd (mSlot 4) (mV (mTup (mACons (mV (mTup (mACons (mV (mName 2)) (mACons (mV (mName 7)) mANil)))) mANil))))
def q1_all_span_lots : Mo Bool := (mTest (m2 rs (dInT true) (mSlot 7) (mSlot 5)))
def e4_all_span_lots : Mo D := (m2 rs1 dAdd (mSlot 4) (mV (mTup (mACons (mV (mTup (mACons (mV (mName 2)) (mACons (mV (mName 7)) mANil)))) mANil))))
def q2_all_span_lots : Mo Bool := (mTest (m2 rs (dInT true) (mSlot 7) (mSlot 5)))
def l1_all_span_lots : MoS := (sSeq (sAsg (mComp (iS (mName 4)) (fName 6) mYes e2_all_span_lots [6]) (fName 5))
  (sAsg (m2 rs1 dAdd (mSlot 3) (mV (mComp (iR2 (mACons (mSlot 2) (mACons (mSlot 0) mANil))) (fName 7) q2_all_span_lots e4_all_span_lots [7]))) (fName 3)))
def l2_all_span_lots : MoS := (sSeq (sAsg (mCB rs1 dList (mACons (mSlot 1) mANil)) (fName 3))
  (sSeq (sForIn (iS (mName 1)) (fName 4) l1_all_span_lots)
  (sAsg (mName 3) (fName 1))))
def g_all_span_lots : MoS :=
  (sSeq (sAsg (mLst (mACons (mV (mTup mANil)) mANil)) (fName 1))
  (sSeq (sForIn (iR1 (mACons (mSlot 0) mANil)) (fName 2) l2_all_span_lots)
  (sRet (mCB rs1 (dSortedE false) (mACons (mSlot 1) mANil)))))
def F_all_span_lots (ds : List D) : Option D := runF 8 g_all_span_lots ds
def e1_codes_with : Mo D := (m2 rs1 dAdd (mV (mIf (mTest (m2 rs dGt (mSlot 4) (mV (mC (.int 0))))) (m2 rs1 dGetX (mSlot 2) (mV (m2 rs dSub (mSlot 4) (mV (mC (.int 1)))))) (mC (.int 0)))) (mV (mIf (mTest (m2 rs dLt (mSlot 4) (mV (mCB rs dLen (mACons (mSlot 2) mANil))))) (m2 rs dShl (mV (m2 rs1 dGetX (mSlot 2) (mSlot 4))) (mSlot 4)) (mC (.int 0)))))
def e2_codes_with : Mo D := (m2 rs1 dAdd (mV (mIf (mTest (m2 rs dGt (mSlot 4) (mV (mC (.int 0))))) (m2 rs1 dGetX (mSlot 2) (mV (m2 rs dSub (mSlot 4) (mV (mC (.int 1)))))) (mC (.int 0)))) (mV (mIf (mTest (m2 rs dLt (mSlot 4) (mV (mCB rs dLen (mACons (mSlot 2) mANil))))) (m2 rs dShl (mV (m2 rs1 dGetX (mSlot 2) (mSlot 4))) (mSlot 4)) (mC (.int 0)))))
def l1_codes_with : MoS := (sAsg (mComp (iR1 (mACons (mV (m2 rs1 dAdd (mV (mCB rs dLen (mACons (mSlot 2) mANil))) (mV (mC (.int 1))))) mANil)) (fName 4) mYes e2_codes_with [4]) (fName 2))
def g_codes_with : MoS :=
  (sSeq (sAsg (mLst (mACons (mV (mC (.int 1))) mANil)) (fName 2))
  (sSeq (sForIn (iR1 (mACons (mSlot 0) mANil)) (fName 3) l1_codes_with)
  (sRet (mIf (mTest (mChain (dB fun i j => decide (i ≤ j)) (dB fun i j => decide (i ≤ j)) (mV (mC (.int 0))) (mSlot 1) (mSlot 0))) (m2 rs1 dGetX (mSlot 2) (mSlot 1)) (mC (.int 0))))))
def F_codes_with (ds : List D) : Option D := runF 5 g_codes_with ds
abbrev g__law_pick : MoS := gPick
abbrev F__law_pick (s : D) (ds : List D) : Option (D × D) := FPick s ds
def g__law_of : MoS :=
  (sRet (m2 rs1 dGetX (mSlot 1) (mV (mCallI 1 2 F__law_pick (mACons (mSlot 0) (mACons (mV (mCB rs dLen (mACons (mSlot 1) mANil))) mANil))))))
def F__law_of (ρ : Nt.Env) : Option (D × Nt.Env) := runS 2 2 [0, 1] g__law_of ρ
def e1__law_mixed : Mo D := (mPopAt 2 (mCallI 1 2 F__law_pick (mACons (mSlot 0) (mACons (mV (mCB rs dLen (mACons (mSlot 2) mANil))) mANil))))
def g__law_mixed : MoS :=
  (sSeq (sSetW 1 2 (mCB rs1 dList (mACons (mSlot 1) mANil)))
  (sRet (mComp (iR1 (mACons (mV (mCB rs dLen (mACons (mSlot 2) mANil))) mANil)) (fName 3) mYes e1__law_mixed [3])))
def F__law_mixed (s : D) (ds : List D) : Option (D × D) := runI 4 2 g__law_mixed s ds
def e1__law_pairs : Mo D := (mTup (mACons (mV (mName 2)) (mACons (mV (mName 3)) mANil)))
def e2__law_pairs : Mo D := (mTup (mACons (mV (mName 2)) (mACons (mV (mName 3)) mANil)))
def l1__law_pairs : MoS := (sAsg (m2 rs1 dAdd (mSlot 1) (mV (mComp (iR2 (mACons (mSlot 2) (mACons (mSlot 0) mANil))) (fName 3) mYes e2__law_pairs [3]))) (fName 1))
def g__law_pairs : MoS :=
  (sSeq (sAsg (mLst mANil) (fName 1))
  (sSeq (sForIn (iR1 (mACons (mSlot 0) mANil)) (fName 2) l1__law_pairs)
  (sRet (mName 1))))
def F__law_pairs (ds : List D) : Option D := runF 4 g__law_pairs ds
def e1__law_lot : Mo D := (mC (.int 1))
def q1__law_lot : Mo Bool := (mOr (mTest (m2 rs (dEq false) (mSlot 4) (mV (m2 rs1 dGetX (mSlot 3) (mV (mC (.int 0))))))) (mTest (m2 rs (dEq false) (mSlot 5) (mV (m2 rs1 dGetX (mSlot 3) (mV (mC (.int 1))))))))
def l1__law_lot : MoS := (sIf (mFrzT (mTest (m2 rs dEq0 (mV (mComp (iS (mName 2)) (fSeq 2 (fCons (fName 4) (fCons (fName 5) fNil))) q1__law_lot e1__law_lot [4, 5])) (mV (mLst mANil))))) (sDrop (mApp 0 2 (mName 3))) sPass)
def g__law_lot : MoS :=
  (sSeq (sSetW 1 2 (mLst mANil))
  (sSeq (sForIn (iS (mSl (mV (mCallI 1 2 F__law_mixed (mACons (mSlot 0) (mACons (mV (mCall 1 F__law_pairs (mACons (mV (mName 1)) mANil))) mANil)))) mNoPart (mPart (mCallI 1 2 F__law_pick (mACons (mSlot 0) (mACons (mV (m2 rs1 dMulX (mV (mC (.int 3))) (mSlot 1))) mANil)))))) (fName 3) l1__law_lot)
  (sRet (mCB rs1 dTuple (mACons (mV (mCB rs1 (dSortedE false) (mACons (mSlot 2) mANil))) mANil)))))
def F__law_lot (s : D) (ds : List D) : Option (D × D) := runI 6 2 g__law_lot s ds
def e1__law_free : Mo D := (mC (.int 1))
def q1__law_free : Mo Bool := (mAnd (mTest (m2 rs dLt (mSlot 3) (mSlot 1))) (mTest (m2 rs dLt (mSlot 2) (mSlot 4))))
def e2__law_free : Mo D := (m2 rs dSub (mV (m2 rs dSub (mV (m2 rs dSub (mSlot 4) (mSlot 3))) (mV (mC (.int 1))))) (mV (mCB rs dLen (mACons (mV (mComp (iS (mName 0)) (fSeq 2 (fCons (fName 1) (fCons (fName 2) fNil))) q1__law_free e1__law_free [1, 2])) mANil))))
def q2__law_free : Mo Bool := (mTest (m2 rs dGt (mSlot 4) (mSlot 3)))
def g__law_free : MoS :=
  (sRet (mCB rs dSum (mACons (mV (mComp (iS (mName 0)) (fSeq 2 (fCons (fName 3) (fCons (fName 4) fNil))) q2__law_free e2__law_free [3, 4])) mANil)))
def F__law_free (ds : List D) : Option D := runF 5 g__law_free ds
def e1__law_parting : Mo D := (mIf (mTest (m2 rs (dEq false) (mSlot 5) (mV (m2 rs1 dGetX (mSlot 2) (mV (m2 rs1 dAdd (mSlot 4) (mV (mC (.int 1))))))))) (m2 rs1 dGetX (mSlot 2) (mSlot 3)) (mName 5))
def e2__law_parting : Mo D := (mIf (mTest (m2 rs (dEq false) (mSlot 5) (mV (m2 rs1 dGetX (mSlot 2) (mV (m2 rs1 dAdd (mSlot 4) (mV (mC (.int 1))))))))) (m2 rs1 dGetX (mSlot 2) (mSlot 3)) (mName 5))
def l1__law_parting : MoS := (sAsg (mComp (iS (mName 2)) (fName 5) mYes e2__law_parting [5]) (fName 2))
def e3__law_parting : Mo D := (mName 7)
def q1__law_parting : Mo Bool := (mTest (m2 rs (dEq false) (mV (m2 rs1 dGetX (mSlot 2) (mSlot 7))) (mSlot 8)))
def e4__law_parting : Mo D := (mCB rs1 dTuple (mACons (mV (mComp (iR1 (mACons (mV (m2 rs1 dAdd (mSlot 0) (mV (mC (.int 1))))) mANil)) (fName 7) q1__law_parting e3__law_parting [7])) mANil))
def g__law_parting : MoS :=
  (sSeq (sAsg (mRng1 false (mV (m2 rs1 dAdd (mSlot 0) (mV (mC (.int 1)))))) (fName 2))
  (sSeq (sForIn (iS (mName 1)) (fSeq 2 (fCons (fName 3) (fCons (fName 4) fNil))) l1__law_parting)
  (sSeq (sSetW 1 6 (mComp (iS (mName 2)) (fName 8) mYes e4__law_parting [8]))
  (sRet (mCB rs1 dTuple (mACons (mV (mSrtSetT (mSlot 6))) mANil))))))
def F__law_parting (ds : List D) : Option D := runF 9 g__law_parting ds
def e1__law_lot_of : Mo D := (mTup (mACons (mV (m2 rs1 dGetX (mSlot 2) (mSlot 3))) (mACons (mV (m2 rs dSub (mV (m2 rs1 dGetX (mSlot 2) (mV (m2 rs1 dAdd (mSlot 3) (mV (mC (.int 1))))))) (mV (mC (.int 1))))) mANil)))
def e2__law_lot_of : Mo D := (mTup (mACons (mV (m2 rs1 dGetX (mSlot 2) (mSlot 3))) (mACons (mV (m2 rs dSub (mV (m2 rs1 dGetX (mSlot 2) (mV (m2 rs1 dAdd (mSlot 3) (mV (mC (.int 1))))))) (mV (mC (.int 1))))) mANil)))
def l1__law_lot_of : MoS := (sAsg (m2 rs1 dAdd (mSlot 1) (mV (mComp (iR1 (mACons (mV (m2 rs dSub (mV (mCB rs dLen (mACons (mSlot 2) mANil))) (mV (mC (.int 1))))) mANil)) (fName 3) mYes e2__law_lot_of [3]))) (fName 1))
def g__law_lot_of : MoS :=
  (sSeq (sAsg (mLst mANil) (fName 1))
  (sSeq (sForIn (iS (mName 0)) (fName 2) l1__law_lot_of)
  (sRet (mCB rs1 dTuple (mACons (mV (mCB rs1 (dSortedE false) (mACons (mSlot 1) mANil))) mANil)))))
def F__law_lot_of (ds : List D) : Option D := runF 4 g__law_lot_of ds
def e1__law_partings : Mo D := (m2 rs1 dAdd (mV (m2 rs1 dAdd (mV (mSl (mSlot 4) mNoPart (mPart (mName 5)))) (mV (mTup (mACons (mV (m2 rs1 dAdd (mV (m2 rs1 dGetX (mSlot 4) (mSlot 5))) (mV (mTup (mACons (mV (mName 2)) mANil))))) mANil))))) (mV (mSl (mSlot 4) (mPart (m2 rs1 dAdd (mSlot 5) (mV (mC (.int 1))))) mNoPart)))
def l1__law_partings : MoS := (sSeq (sDrop (mApp 0 3 (m2 rs1 dAdd (mSlot 4) (mV (mTup (mACons (mV (mTup (mACons (mV (mName 2)) mANil))) mANil))))))
  (sSetW 1 3 (mCat (mSlot 3) (mV (mComp (iR1 (mACons (mV (mCB rs dLen (mACons (mSlot 4) mANil))) mANil)) (fName 5) mYes e1__law_partings [5])))))
def l2__law_partings : MoS := (sSeq (sSetW 1 3 (mLst mANil))
  (sSeq (sForIn (iS (mName 1)) (fName 4) l1__law_partings)
  (sAsg (mName 3) (fName 1))))
def g__law_partings : MoS :=
  (sSeq (sAsg (mLst (mACons (mV (mTup (mACons (mV (mTup (mACons (mV (mC (.int 0))) mANil))) mANil))) mANil)) (fName 1))
  (sSeq (sForIn (iR2 (mACons (mV (mC (.int 1))) (mACons (mV (m2 rs1 dAdd (mSlot 0) (mV (mC (.int 1))))) mANil))) (fName 2) l2__law_partings)
  (sRet (mName 1))))
def F__law_partings (ds : List D) : Option D := runF 6 g__law_partings ds
def l1__law_many : MoS := (sAsg (m2 rs1 dMulX (mSlot 2) (mV (m2 rs dSub (mV (m2 rs dShl (mV (mC (.int 1))) (mV (m2 rs dSub (mSlot 0) (mSlot 3))))) (mV (mC (.int 1)))))) (fName 2))
def l2__law_many : MoS := (sAsg (m2 rs dDiv (mSlot 2) (mV (m2 rs dSub (mV (m2 rs dShl (mV (mC (.int 1))) (mV (m2 rs1 dAdd (mSlot 3) (mV (mC (.int 1))))))) (mV (mC (.int 1)))))) (fName 2))
def g__law_many : MoS :=
  (sSeq (sAsg (mC (.int 1)) (fName 2))
  (sSeq (sForIn (iR1 (mACons (mSlot 1) mANil)) (fName 3) l1__law_many)
  (sSeq (sForIn (iR1 (mACons (mSlot 1) mANil)) (fName 3) l2__law_many)
  (sRet (mName 2)))))
def F__law_many (ds : List D) : Option D := runF 4 g__law_many ds
def e1_law : Mo D := (mTup (mACons (mV (mName 7)) mANil))
def l1_law : MoS := (sIf (mTest (m2 rs dGt (mV (mCB rs dLen (mACons (mSlot 6) mANil))) (mV (mC (.int 1))))) (sSeq (sAsg (mPopAt 6 (mCallI 1 2 F__law_pick (mACons (mSlot 1) (mACons (mV (mCB rs dLen (mACons (mSlot 6) mANil))) mANil)))) (fName 9))
  (sSeq (sAsg (mCallI 1 2 F__law_pick (mACons (mSlot 1) (mACons (mV (mCB rs dLen (mACons (mSlot 6) mANil))) mANil))) (fName 7))
  (sStore 6 (mCB rs1 dTuple (mACons (mV (mCB rs1 dSortedC (mACons (mV (m2 rs1 dAdd (mV (m2 rs1 dGetX (mSlot 6) (mSlot 7))) (mSlot 9))) mANil))) mANil)) (fun ρ => rs ρ (.sl 7))))) sPass)
def l2_law : MoS := (sSeq (sAsg (m2 rs1 dAdd (mV (mC (.int 1))) (mV (mCallI 1 2 F__law_pick (mACons (mSlot 1) (mACons (mV (mC (.int 12))) mANil))))) (fName 3))
  (sSeq (sAsg (mCallI 1 2 F__law_lot (mACons (mSlot 1) (mACons (mV (mName 3)) mANil))) (fName 4))
  (sSeq (sAsg (mCall 2 F__law_parting (mACons (mV (mName 3)) (mACons (mV (mName 4)) mANil))) (fName 5))
  (sSeq (sIf (mOr (mTest (m2 rs (dEq true) (mV (mCB rs dRepr (mACons (mV (mLst (mACons (mV (mCall 2 F_parting_of (mACons (mV (mName 3)) (mACons (mV (mName 4)) mANil)))) (mACons (mV (mCall 2 F_lot_of_parting (mACons (mV (mName 3)) (mACons (mV (mName 5)) mANil)))) mANil)))) mANil))) (mV (mCB rs dRepr (mACons (mV (mLst (mACons (mV (mName 5)) (mACons (mV (mName 4)) mANil)))) mANil))))) (mTest (m2 rs (dEq true) (mV (mCB rs dLen (mACons (mSlot 5) mANil))) (mV (m2 rs dSub (mV (m2 rs1 dAdd (mSlot 3) (mV (mC (.int 1))))) (mV (mCB rs dLen (mACons (mSlot 4) mANil)))))))) (sRet (mC (.bool false))) sPass)
  (sSeq (sSetW 1 6 (mComp (iR1 (mACons (mV (m2 rs1 dAdd (mSlot 3) (mV (mC (.int 1))))) mANil)) (fName 7) mYes e1_law [7]))
  (sSeq (sForIn (iR1 (mACons (mV (mCallI 1 2 F__law_pick (mACons (mSlot 1) (mACons (mV (m2 rs1 dAdd (mSlot 3) (mV (mC (.int 1))))) mANil)))) mANil)) (fName 8) l1_law)
  (sSeq (sAsg (mCB rs1 dTuple (mACons (mV (mCB rs1 (dSortedE false) (mACons (mSlot 6) mANil))) mANil)) (fName 6))
  (sSeq (sAsg (mCall 2 F_lot_of_parting (mACons (mV (mName 3)) (mACons (mV (mName 6)) mANil))) (fName 10))
  (sSeq (sIf (mTest (m2 rs (dEq true) (mV (mCB rs dRepr (mACons (mV (mLst (mACons (mV (mName 10)) (mACons (mV (mCall 2 F_parting_of (mACons (mV (mName 3)) (mACons (mV (mName 10)) mANil)))) mANil)))) mANil))) (mV (mCB rs dRepr (mACons (mV (mLst (mACons (mV (mCall 1 F__law_lot_of (mACons (mV (mName 6)) mANil))) (mACons (mV (mName 6)) mANil)))) mANil))))) (sRet (mC (.bool false))) sPass)
  (sSeq (sAsg (mCallI 1 2 F__law_pick (mACons (mSlot 1) (mACons (mV (m2 rs1 dAdd (mSlot 3) (mV (mC (.int 1))))) mANil))) (fName 11))
  (sIf (mTest (m2 rs (dEq true) (mV (mCB rs dRepr (mACons (mV (mCall 2 F_codes_with (mACons (mV (mName 3)) (mACons (mV (mName 11)) mANil)))) mANil))) (mV (mCB rs dRepr (mACons (mV (mCall 2 F__law_many (mACons (mV (mName 3)) (mACons (mV (mName 11)) mANil)))) mANil))))) (sRet (mC (.bool false))) sPass)))))))))))
def e2_law : Mo D := (mCall 1 F__law_lot_of (mACons (mV (mName 6)) mANil))
def e3_law : Mo D := (mCall 1 F__law_lot_of (mACons (mV (mName 6)) mANil))
def e4_law : Mo D := (m2 rs dShl (mV (mC (.int 1))) (mV (mCall 1 F__law_free (mACons (mV (mName 4)) mANil))))
def q1_law : Mo Bool := (mTest (m2 rs (dEq false) (mV (mCB rs dLen (mACons (mSlot 4) mANil))) (mSlot 11)))
def e5_law : Mo D := (mCB rs dSum (mACons (mV (mComp (iS (mName 12)) (fName 4) q1_law e4_law [4])) mANil))
def e6_law : Mo D := (mCall 2 F_codes_with (mACons (mV (mName 3)) (mACons (mV (mName 11)) mANil)))
def g_law : MoS :=
  (sSeq (sForIn (iR1 (mACons (mV (mC (.int 5))) mANil)) (fName 2) l2_law)
  (sSeq (sAsg (mCallS 2 F__law_of (mACons (mSlot 1) (mACons (mV (mLst (mACons (mV (mC (.int 1))) (mACons (mV (mC (.int 2))) (mACons (mV (mC (.int 3))) (mACons (mV (mC (.int 4))) (mACons (mV (mC (.int 5))) (mACons (mV (mC (.int 5))) (mACons (mV (mC (.int 6))) mANil))))))))) mANil))) (fName 3))
  (sSeq (sIf (mAnd (mTest (m2 rs (dEq false) (mSlot 3) (mV (mC (.int 6))))) (mTest (m2 rs dGt (mV (mCallI 1 2 F__law_pick (mACons (mSlot 1) (mACons (mV (mC (.int 4))) mANil)))) (mV (mC (.int 0)))))) (sRet (mC (.bool true))) sPass)
  (sSeq (sAsg (mCB rs1 (dSortedE false) (mACons (mV (mComp (iS (mCall 1 F__law_partings (mACons (mV (mName 3)) mANil))) (fName 6) mYes e3_law [6])) mANil)) (fName 12))
  (sSeq (sSetW 1 10 (mCall 1 F_all_span_lots (mACons (mV (mName 3)) mANil)))
  (sSeq (sIf (mOr (mTest (m2 rs (dEq true) (mV (mCB rs dRepr (mACons (mSlot 10) mANil))) (mV (mCB rs dRepr (mACons (mSlot 12) mANil))))) (mTest (m2 rs (dEq true) (mV (mCB rs dLen (mACons (mSlot 12) mANil))) (mV (m2 rs1 dGetX (mV (mLst (mACons (mV (mC (.int 1))) (mACons (mV (mC (.int 2))) (mACons (mV (mC (.int 5))) (mACons (mV (mC (.int 15))) (mACons (mV (mC (.int 52))) (mACons (mV (mC (.int 203))) (mACons (mV (mC (.int 877))) mANil))))))))) (mSlot 3)))))) (sRet (mC (.bool false))) sPass)
  (sSeq (sDrop (mApp 0 10 (mC .none)))
  (sSeq (sSetW 1 13 (mComp (iR1 (mACons (mV (m2 rs1 dAdd (mSlot 3) (mV (mC (.int 1))))) mANil)) (fName 11) mYes e5_law [11]))
  (sRet (mAndV (m2 rs (dEq false) (mSlot 13) (mV (mComp (iR1 (mACons (mV (m2 rs1 dAdd (mSlot 3) (mV (mC (.int 1))))) mANil)) (fName 11) mYes e6_law [11]))) (m2 rs (dEq false) (mV (mCB rs dLen (mACons (mV (mCall 1 F_all_span_lots (mACons (mV (mName 3)) mANil))) mANil))) (mV (mCB rs dLen (mACons (mSlot 12) mANil))))))))))))))
end K73

namespace K73
open PySem PySem.Spec PyProof.Rows L2 Nt
def top (i : Nat) : Stmt := PySem.Challenge.pw_netcodes_k73_whole_spans_and_partings.main.body.getD i (.Pass ⟨0, 0, 0, 0⟩)
abbrev s__law_source : Stmt := top 6
abbrev s_parting_of : Stmt := top 1
abbrev s_lot_of_parting : Stmt := top 2
abbrev s_all_span_lots : Stmt := top 3
abbrev s_codes_with : Stmt := top 4
abbrev s__law_pick : Stmt := top 7
abbrev s__law_of : Stmt := top 8
abbrev s__law_mixed : Stmt := top 9
abbrev s__law_pairs : Stmt := top 10
abbrev s__law_lot : Stmt := top 11
abbrev s__law_free : Stmt := top 12
abbrev s__law_parting : Stmt := top 13
abbrev s__law_lot_of : Stmt := top 14
abbrev s__law_partings : Stmt := top 15
abbrev s__law_many : Stmt := top 16
abbrev s_law : Stmt := top 17
/-- what the module's names are -/
structure Zs (mg : Str → Option Value) : Prop where
  zabs : mg "abs" = none
  zdict : mg "dict" = none
  zint : mg "int" = none
  zlen : mg "len" = none
  zlist : mg "list" = none
  zmax : mg "max" = none
  zrange : mg "range" = none
  zrepr : mg "repr" = none
  zset : mg "set" = none
  zsorted : mg "sorted" = none
  zsum : mg "sum" = none
  ztuple : mg "tuple" = none
  zzip : mg "zip" = none
/-- a def that stands in the module -/
structure Dn (Pr : Program) (w : World) (K : PySem.W.Frag) (mg : Str → Option Value) (base : Heap) (k : Nat) (x : Str) (ps : List Str) (sp : Sp) : Prop where
  ex : ∃ g fd, mg x = some (.ref g) ∧ FnG Pr w K mg base k g fd ps sp ∧ PySem.W.keepIn K (.ref g) = true ∧ Binds K fd ps []
theorem Dn.lift {Pr : Program} {w : World} {K : PySem.W.Frag} {mg : Str → Option Value} {base : Heap} {j k : Nat} {x : Str} {ps : List Str} {sp : Sp} (D : Dn Pr w K mg base j x ps sp) (h : j ≤ k) : Dn Pr w K mg base k x ps sp :=
  let ⟨g, fd, a, b, c⟩ := D.ex; ⟨g, fd, a, b.lift h, c⟩
abbrev N_parting_of : List Str := ["n", "lot", "late", "span", "lasts", "found", "first", "number", "one"]
theorem sc_parting_of : FnScope N_parting_of ["n", "lot"] (defScope s_parting_of) := ⟨rfl, rfl, rfl, by decide +kernel, rfl, by decide +kernel, by decide +kernel⟩
abbrev N_lot_of_parting : List Str := ["n", "parting", "found", "one", "low", "high"]
theorem sc_lot_of_parting : FnScope N_lot_of_parting ["n", "parting"] (defScope s_lot_of_parting) := ⟨rfl, rfl, rfl, by decide +kernel, rfl, by decide +kernel, by decide +kernel⟩
abbrev N_all_span_lots : List Str := ["n", "found", "first", "late", "lot", "lasts", "span", "last"]
theorem sc_all_span_lots : FnScope N_all_span_lots ["n"] (defScope s_all_span_lots) := ⟨rfl, rfl, rfl, by decide +kernel, rfl, by decide +kernel, by decide +kernel⟩
abbrev N_codes_with : List Str := ["n", "rank", "row", "length", "k"]
theorem sc_codes_with : FnScope N_codes_with ["n", "rank"] (defScope s_codes_with) := ⟨rfl, rfl, rfl, by decide +kernel, rfl, by decide +kernel, by decide +kernel⟩
abbrev N__law_pick : List Str := ["source", "many", "left", "mixed"]
theorem sc__law_pick : FnScope N__law_pick ["source", "many"] (defScope s__law_pick) := ⟨rfl, rfl, rfl, by decide +kernel, rfl, by decide +kernel, by decide +kernel⟩
abbrev N__law_of : List Str := ["source", "some"]
theorem sc__law_of : FnScope N__law_of ["source", "some"] (defScope s__law_of) := ⟨rfl, rfl, rfl, by decide +kernel, rfl, by decide +kernel, by decide +kernel⟩
abbrev N__law_mixed : List Str := ["source", "things", "rest", "lap"]
theorem sc__law_mixed : FnScope N__law_mixed ["source", "things"] (defScope s__law_mixed) := ⟨rfl, rfl, rfl, by decide +kernel, rfl, by decide +kernel, by decide +kernel⟩
abbrev N__law_pairs : List Str := ["n", "found", "x", "y"]
theorem sc__law_pairs : FnScope N__law_pairs ["n"] (defScope s__law_pairs) := ⟨rfl, rfl, rfl, by decide +kernel, rfl, by decide +kernel, by decide +kernel⟩
abbrev N__law_lot : List Str := ["source", "n", "found", "pair", "x", "y"]
theorem sc__law_lot : FnScope N__law_lot ["source", "n"] (defScope s__law_lot) := ⟨rfl, rfl, rfl, by decide +kernel, rfl, by decide +kernel, by decide +kernel⟩
abbrev N__law_free : List Str := ["lot", "a", "b", "x", "y"]
theorem sc__law_free : FnScope N__law_free ["lot"] (defScope s__law_free) := ⟨rfl, rfl, rfl, by decide +kernel, rfl, by decide +kernel, by decide +kernel⟩
abbrev N__law_parting : List Str := ["n", "lot", "names", "x", "y", "one", "some", "k", "name"]
theorem sc__law_parting : FnScope N__law_parting ["n", "lot"] (defScope s__law_parting) := ⟨rfl, rfl, rfl, by decide +kernel, rfl, by decide +kernel, by decide +kernel⟩
abbrev N__law_lot_of : List Str := ["parting", "found", "some", "k"]
theorem sc__law_lot_of : FnScope N__law_lot_of ["parting"] (defScope s__law_lot_of) := ⟨rfl, rfl, rfl, by decide +kernel, rfl, by decide +kernel, by decide +kernel⟩
abbrev N__law_partings : List Str := ["n", "found", "k", "late", "parting", "i"]
theorem sc__law_partings : FnScope N__law_partings ["n"] (defScope s__law_partings) := ⟨rfl, rfl, rfl, by decide +kernel, rfl, by decide +kernel, by decide +kernel⟩
abbrev N__law_many : List Str := ["n", "rank", "found", "k"]
theorem sc__law_many : FnScope N__law_many ["n", "rank"] (defScope s__law_many) := ⟨rfl, rfl, rfl, by decide +kernel, rfl, by decide +kernel, by decide +kernel⟩
abbrev N_law : List Str := ["script", "source", "lap", "n", "lot", "due", "parting", "k", "join", "one", "told", "rank", "every", "sums"]
theorem sc_law : FnScope N_law ["script"] (defScope s_law) := ⟨rfl, rfl, rfl, by decide +kernel, rfl, by decide +kernel, by decide +kernel⟩
theorem sc__law_source : FnScope ["script", "mixed", "cell"] ["script"] (defScope s__law_source) := ⟨rfl, rfl, rfl, by decide +kernel, rfl, by decide +kernel, by decide +kernel⟩
section
variable {Pr : Program} {w : World} {K : PySem.W.Frag} {mg : Str → Option Value} {base : Heap} {fa : Addr} {cdv : Value} {A : Around} {outer : List PySem.Env} {s : Shared} {H : Hp} {k : Nat}
theorem b__law_source (Z : Zs mg) (c : Cok (cxG Pr w K mg base ["script", "mixed", "cell"] "_law_source" (defScope s__law_source) fa cdv A outer s H) 0) : PSs (cxG Pr w K mg base ["script", "mixed", "cell"] "_law_source" (defScope s__law_source) fa cdv A outer s H) (defBody s__law_source) (tSrc K) :=
  pss_cons (ps_set (i := 1) c.nd rfl (.inl rfl) pe_int) (pss_cons (ps_for PassesOwn.never rfl (pi_list (pe_var (i := 0) rfl (.inl rfl))) (pg_name (i := 2) c.nd rfl (.inl rfl)) (pss_one (ps_set (i := 1) c.nd rfl (.inl rfl)
    (pe_op op_mod (pe_callTy call_int1 (by rfl) Z.zint PyProof.Rows.boot_int (pa_cons (pe_op op_add (pe_op op_add (pe_op op_mul (pe_var (i := 1) rfl (.inl rfl)) pe_int) (pe_op op_mul (pe_var (i := 2) rfl (.inl rfl)) pe_int)) pe_int) pa_nil)) pe_int))))
  (pss_one (ps_ret (pe_disp (pps_cons pe_str (pe_rev rev_list (pe_lc (own := [("cell", 2)]) rfl c.nd (pi_list (pe_var (i := 0) rfl (.inl rfl))) (blkOk_by (N := ["script", "mixed", "cell"]) (sc := defScope s__law_source) (by decide +kernel)) (fun _ _ _ _ _ => pg_name (i := 2) c.nd rfl (.inl rfl)) (fun _ _ _ _ _ => pts_nil)
    (fun _ _ _ _ _ => pe_callB call_abs (by rfl) Z.zabs boot_abs (pa_cons (pe_var (i := 2) rfl (.inl rfl)) pa_nil))))
    (pps_cons pe_str pe_int (pps_cons pe_str (pe_var (i := 1) rfl (.inl rfl)) (pps_cons pe_str pe_int pps_nil)))) rfl rfl (by simp) (by decide)))))
theorem b_parting_of (Z : Zs mg)  (c : Cok (cxG Pr w K mg base N_parting_of "parting_of" (defScope s_parting_of) fa cdv A outer s H) 0) : GB (cxG Pr w K mg base N_parting_of "parting_of" (defScope s_parting_of) fa cdv A outer s H) 0 [] (defBody s_parting_of) g_parting_of :=
  (b_cons (s_set c 2 rfl (.inl rfl) (g_dict c ⟨by rfl, Z.zdict⟩ (a_cons (oE (eW (w_comp c (own := [("span", 3)]) (T := [3]) (g := (gName 3)) (blkOk_by (N := N_parting_of) (sc := defScope s_parting_of) (by decide +kernel)) (i_s (g_name 1 rfl (.inl rfl))) (fun s1 H1 C1 l1 p1 c1 => (t_name c1 3 rfl (.inl rfl))) (fun s1 H1 C1 l1 p1 c1 => (w0 (g_tup (a_cons (oE (g_subS c1 (o_name 3 rfl (.inl rfl)) (oE g_int))) (a_cons (oE (g_add (oE (g_subS c1 (o_name 3 rfl (.inl rfl)) (oE g_int))) (oE g_int))) a_nil))))) (by decide)))) a_nil)) (by decide))
  (b_cons (s_parT c (.cons rfl (.inr rfl) (by first | exact .inl rfl | exact .inr rfl) rfl (.cons rfl (.inl rfl) (by first | exact .inl rfl | exact .inr rfl) rfl .nil)) (aw_cons (w0 (eW (w_comp c (own := [("span", 3)]) (T := [3]) (g := (gName 3)) (blkOk_by (N := N_parting_of) (sc := defScope s_parting_of) (by decide +kernel)) (i_s (g_name 1 rfl (.inl rfl))) (fun s1 H1 C1 l1 p1 c1 => (t_name c1 3 rfl (.inl rfl))) (fun s1 H1 C1 l1 p1 c1 => (w0 (g_add (oE (g_subS c1 (o_name 3 rfl (.inl rfl)) (oE g_int))) (oE g_int)))) (by decide)))) (aw_cons (w_lst a_nil) aw_nil)) (by decide) rfl rfl (by decide))
  (b_cons (s_for c PassesOwn.never (i_s (eW (w_comp1 c (own := [("number", 7)]) (T := [7]) (g := (gName 7)) (blkOk_by (N := N_parting_of) (sc := defScope s_parting_of) (by decide +kernel)) (i_r1 ⟨by rfl, Z.zrange⟩ (a_cons (oE (g_add (o_name 0 rfl (.inl rfl)) (oE g_int))) a_nil)) (fun s1 H1 C1 l1 p1 c1 => (t_name c1 7 rfl (.inl rfl))) (fun s1 H1 C1 l1 p1 c1 => (q_notInT  (o_name 7 rfl (.inl rfl)) (o_name 4 rfl (.inr (.inl rfl))) (by with_unfolding_all rfl))) (fun s1 H1 C1 l1 p1 c1 => (w0 (g_name 7 rfl (.inl rfl)))) (by decide)))) (t_name c 6 rfl (.inl rfl))
  (b_cons (s_setW c 8 rfl (.inl rfl) (w_lst (a_cons (oE (g_name 6 rfl (.inl rfl))) a_nil)) (by decide))
  (b_cons (s_while fuel_parting_of PassesOwn.never (q_din c (oE (g_subS c (o_name 8 rfl (.inl rfl)) (oE (g_neg (oE g_int))))) (o_name 2 rfl (.inl rfl)) (by with_unfolding_all rfl))
  (b_one (s_expr (g_append 8 rfl (.inl rfl) (w0 (g_subS c (o_name 2 rfl (.inl rfl)) (oE (g_subS c (o_name 8 rfl (.inl rfl)) (oE (g_neg (oE g_int))))))) ⟨rfl, rfl, rfl, rfl, rfl⟩))))
  (b_one (s_expr (g_append 5 rfl (.inl rfl) (w0 (g_tuple  ⟨by rfl, Z.ztuple⟩ (a_cons (o_name 8 rfl (.inl rfl)) a_nil))) ⟨rfl, rfl, rfl, rfl, rfl⟩))))) (by decide))
  (b_one (s_ret (w0 (g_tuple  ⟨by rfl, Z.ztuple⟩ (a_cons (o_name 5 rfl (.inl rfl)) a_nil))))))))
theorem b_lot_of_parting (Z : Zs mg)  (c : Cok (cxG Pr w K mg base N_lot_of_parting "lot_of_parting" (defScope s_lot_of_parting) fa cdv A outer s H) 0) : GB (cxG Pr w K mg base N_lot_of_parting "lot_of_parting" (defScope s_lot_of_parting) fa cdv A outer s H) 0 [] (defBody s_lot_of_parting) g_lot_of_parting :=
  (b_cons (s_set c 2 rfl (.inl rfl) (eW (w_lst a_nil)) (by decide))
  (b_cons (s_for c PassesOwn.never (i_s (g_name 1 rfl (.inl rfl))) (t_name c 3 rfl (.inl rfl))
  (b_one (s_set c 2 rfl (.inl rfl) (g_add (o_name 2 rfl (.inl rfl)) (oE (eW (w_comp c (own := [("low", 4), ("high", 5)]) (T := [4, 5]) (g := (gSeq K 2 (gCons (gName 4) (gCons (gName 5) gNil)))) (blkOk_by (N := N_lot_of_parting) (sc := defScope s_lot_of_parting) (by decide +kernel)) (i_zpT ⟨by rfl, Z.zzip⟩ (a_cons (oE (g_name 3 rfl (.inl rfl))) (a_cons (oE (g_sl (o_name 3 rfl (.inl rfl)) (p_some g_int) p_none)) a_nil))) (fun s1 H1 C1 l1 p1 c1 => (t_seq (n := 2) c1 (t_cons (t_name c1 4 rfl (.inl rfl)) (t_cons (t_name c1 5 rfl (.inl rfl)) t_nil)))) (fun s1 H1 C1 l1 p1 c1 => (w0 (g_tup (a_cons (oE (g_name 4 rfl (.inl rfl))) (a_cons (oE (g_sub (o_name 5 rfl (.inl rfl)) (oE g_int))) a_nil))))) (by decide))))) (by decide))) (by decide))
  (b_one (s_ret (w0 (g_tuple  ⟨by rfl, Z.ztuple⟩ (a_cons (oE (eW (w_sortedE c ⟨by rfl, Z.zsorted⟩ (a_cons (o_name 2 rfl (.inl rfl)) a_nil)))) a_nil)))))))
theorem b_all_span_lots (Z : Zs mg)  (c : Cok (cxG Pr w K mg base N_all_span_lots "all_span_lots" (defScope s_all_span_lots) fa cdv A outer s H) 0) : GB (cxG Pr w K mg base N_all_span_lots "all_span_lots" (defScope s_all_span_lots) fa cdv A outer s H) 1 [] (defBody s_all_span_lots) g_all_span_lots :=
  (b_cons (s_set c 1 rfl (.inl rfl) (eW (w_lst (a_cons (oE (g_tup a_nil)) a_nil))) (by decide))
  (b_cons (s_for c PassesOwn.never (i_r1 ⟨by rfl, Z.zrange⟩ (a_cons (o_name 0 rfl (.inl rfl)) a_nil)) (t_name c 2 rfl (.inr rfl))
  (b_cons (s_set c 3 rfl (.inl rfl) (eW (w_list ⟨by rfl, Z.zlist⟩ (a_cons (o_name 1 rfl (.inl rfl)) a_nil))) (by decide))
  (b_cons (s_for c PassesOwn.never (i_s (g_name 1 rfl (.inl rfl))) (t_name c 4 rfl (.inr rfl))
  (b_cons (s_set c 5 rfl (.inr rfl) (eW (w_comp c (own := [("span", 6)]) (T := [6]) (g := (gName 6)) (blkOk_by (N := N_all_span_lots) (sc := defScope s_all_span_lots) (by decide +kernel)) (i_s (g_name 4 rfl (.inr (.inl rfl)))) (fun s1 H1 C1 l1 p1 c1 => (t_name c1 6 rfl (.inl rfl))) (fun s1 H1 C1 l1 p1 c1 => (w0 (g_subS c1 (o_name 6 rfl (.inl rfl)) (oE g_int)))) (by decide))) (by decide))
  (b_one (s_set c 3 rfl (.inl rfl) (g_add (o_name 3 rfl (.inl rfl)) (oE (eW (w_comp1 c (own := [("last", 7)]) (T := [7]) (g := (gName 7)) (blkOk_by (N := N_all_span_lots) (sc := defScope s_all_span_lots) (by decide +kernel)) (i_r2 ⟨by rfl, Z.zrange⟩ (a_cons (o_name 2 rfl (.inr (.inl rfl))) (a_cons (o_name 0 rfl (.inl rfl)) a_nil))) (fun s1 H1 C1 l1 p1 c1 => (t_name c1 7 rfl (.inl rfl))) (fun s1 H1 C1 l1 p1 c1 => (q_notInT  (o_name 7 rfl (.inl rfl)) (o_name 5 rfl (.inr (.inl rfl))) (by with_unfolding_all rfl))) (fun s1 H1 C1 l1 p1 c1 => (w0 (g_add (o_name 4 rfl (.inr (.inl rfl))) (oE (g_tup (a_cons (oE (g_tup (a_cons (oE (g_name 2 rfl (.inr (.inl rfl)))) (a_cons (oE (g_name 7 rfl (.inl rfl))) a_nil)))) a_nil)))))) (by decide))))) (by decide)))) (by decide))
  (b_one (s_set c 1 rfl (.inl rfl) (g_name 3 rfl (.inl rfl)) (by decide))))) (by decide))
  (b_one (s_ret (w_sortedE c ⟨by rfl, Z.zsorted⟩ (a_cons (o_name 1 rfl (.inl rfl)) a_nil))))))
theorem b_codes_with (Z : Zs mg)  (c : Cok (cxG Pr w K mg base N_codes_with "codes_with" (defScope s_codes_with) fa cdv A outer s H) 0) : GB (cxG Pr w K mg base N_codes_with "codes_with" (defScope s_codes_with) fa cdv A outer s H) 0 [] (defBody s_codes_with) g_codes_with :=
  (b_cons (s_set c 2 rfl (.inr rfl) (eW (w_lst (a_cons (oE g_int) a_nil))) (by decide))
  (b_cons (s_for c PassesOwn.never (i_r1 ⟨by rfl, Z.zrange⟩ (a_cons (o_name 0 rfl (.inl rfl)) a_nil)) (t_name c 3 rfl (.inl rfl))
  (b_one (s_set c 2 rfl (.inr rfl) (eW (w_comp c (own := [("k", 4)]) (T := [4]) (g := (gName 4)) (blkOk_by (N := N_codes_with) (sc := defScope s_codes_with) (by decide +kernel)) (i_r1 ⟨by rfl, Z.zrange⟩ (a_cons (oE (g_add (oE (g_len  ⟨by rfl, Z.zlen⟩ (a_cons (o_name 2 rfl (.inr (.inl rfl))) a_nil))) (oE g_int))) a_nil)) (fun s1 H1 C1 l1 p1 c1 => (t_name c1 4 rfl (.inl rfl))) (fun s1 H1 C1 l1 p1 c1 => (w0 (g_add (oE (g_if (q_gt  (o_name 4 rfl (.inl rfl)) (oE g_int)) (g_subS c1 (o_name 2 rfl (.inr (.inl rfl))) (oE (g_sub (o_name 4 rfl (.inl rfl)) (oE g_int)))) g_int)) (oE (g_if (q_lt  (o_name 4 rfl (.inl rfl)) (oE (g_len  ⟨by rfl, Z.zlen⟩ (a_cons (o_name 2 rfl (.inr (.inl rfl))) a_nil)))) (g_shl (oE (g_subS c1 (o_name 2 rfl (.inr (.inl rfl))) (o_name 4 rfl (.inl rfl)))) (o_name 4 rfl (.inl rfl))) g_int))))) (by decide))) (by decide))) (by decide))
  (b_one (s_ret (w0 (g_if (q_chain cLe cLe (oE g_int) (o_name 1 rfl (.inl rfl)) (o_name 0 rfl (.inl rfl))) (g_subS c (o_name 2 rfl (.inr (.inl rfl))) (o_name 1 rfl (.inl rfl))) g_int))))))
theorem b__law_pick (Z : Zs mg)  (c : Cok (cxG Pr w K mg base N__law_pick "_law_pick" (defScope s__law_pick) fa cdv A outer s H) 0) : GB (cxG Pr w K mg base N__law_pick "_law_pick" (defScope s__law_pick) fa cdv A outer s H) 0 [0] (defBody s__law_pick) g__law_pick :=
  (b_cons (s_while fuel__law_pick PassesOwn.never (q_v (v_and (q_gt  (o_name 1 rfl (.inl rfl)) (oE g_int)) (v_and (q_lt  (oE (g_sg c 0 rfl (.inl rfl))) (oE g_int)) (v_and1 (q_gt  (oE (g_slen c ⟨by rfl, Z.zlen⟩ 0 rfl (.inl rfl))) (oE g_int))))))
  (b_one (s_sput c 0 rfl (.inl rfl) (g_spop c 0 rfl (.inl rfl)))))
  (b_cons (s_set c 2 rfl (.inl rfl) (g_sg c 0 rfl (.inl rfl)) (by decide))
  (b_cons (s_if (q_v (v_or (q_lt  (o_name 1 rfl (.inl rfl)) (oE g_int)) (v_or1 (q_gt  (o_name 2 rfl (.inl rfl)) (oE g_int))))) (b_cons (s_sput c 0 rfl (.inl rfl) (g_div (o_name 2 rfl (.inl rfl)) (oE (g_max2 c ⟨by rfl, Z.zmax⟩ (a_cons (oE g_int) (a_cons (o_name 1 rfl (.inl rfl)) a_nil))))))
  (b_one (s_ret (w0 (g_mod (oE (g_int1  ⟨by rfl, Z.zint⟩ (a_cons (o_name 2 rfl (.inl rfl)) a_nil))) (oE (g_max2 c ⟨by rfl, Z.zmax⟩ (a_cons (oE g_int) (a_cons (o_name 1 rfl (.inl rfl)) a_nil))))))))) b_nil)
  (b_cons (s_sput c 0 rfl (.inl rfl) (g_add (oE (g_sg c 0 rfl (.inl rfl))) (oE g_int)))
  (b_cons (s_set c 3 rfl (.inl rfl) (g_mod (oE (g_int1  ⟨by rfl, Z.zint⟩ (a_cons (oE (g_add (oE (g_sg c 0 rfl (.inl rfl))) (oE (g_mulX (oE (g_sg c 0 rfl (.inl rfl))) (oE g_int))))) a_nil))) (oE g_int)) (by decide))
  (b_cons (s_set c 3 rfl (.inl rfl) (g_mod (oE (g_int1  ⟨by rfl, Z.zint⟩ (a_cons (oE (g_add (oE (g_mulX (o_name 3 rfl (.inl rfl)) (o_name 3 rfl (.inl rfl)))) (oE (g_mulX (oE (g_sg c 0 rfl (.inl rfl))) (oE g_int))))) a_nil))) (oE g_int)) (by decide))
  (b_cons (s_sput c 0 rfl (.inl rfl) (g_name 3 rfl (.inl rfl)))
  (b_one (s_ret (w0 (g_mod (oE (g_int1  ⟨by rfl, Z.zint⟩ (a_cons (oE (g_div (o_name 3 rfl (.inl rfl)) (oE g_int))) a_nil))) (o_name 1 rfl (.inl rfl)))))))))))))
theorem b__law_of (Z : Zs mg) (D__law_pick : Dn Pr w K mg base 1 "_law_pick" ["source", "many"] (spI K 1 0 2 F__law_pick)) (c : Cok (cxG Pr w K mg base N__law_of "_law_of" (defScope s__law_of) fa cdv A outer s H) 1) : GB (cxG Pr w K mg base N__law_of "_law_of" (defScope s__law_of) fa cdv A outer s H) 0 [0, 1] (defBody s__law_of) g__law_of :=
  (b_one (s_ret (w0 (g_subS c (o_name 1 rfl (.inl rfl)) (oE (eW (w_callI c ⟨by rfl, D__law_pick.ex⟩ (a_cons (o_name 0 rfl (.inl rfl)) (a_cons (oE (g_len  ⟨by rfl, Z.zlen⟩ (a_cons (o_name 1 rfl (.inl rfl)) a_nil))) a_nil)))))))))
theorem b__law_mixed (Z : Zs mg) (D__law_pick : Dn Pr w K mg base 1 "_law_pick" ["source", "many"] (spI K 1 0 2 F__law_pick)) (c : Cok (cxG Pr w K mg base N__law_mixed "_law_mixed" (defScope s__law_mixed) fa cdv A outer s H) 1) : GB (cxG Pr w K mg base N__law_mixed "_law_mixed" (defScope s__law_mixed) fa cdv A outer s H) 0 [0] (defBody s__law_mixed) g__law_mixed :=
  (b_cons (s_setW c 2 rfl (.inr rfl) (w_list ⟨by rfl, Z.zlist⟩ (a_cons (o_name 1 rfl (.inl rfl)) a_nil)) (by decide))
  (b_one (s_ret (w0 (eW (w_comp c (own := [("lap", 3)]) (T := [3]) (g := (gName 3)) (blkOk_by (N := N__law_mixed) (sc := defScope s__law_mixed) (by decide +kernel)) (i_r1 ⟨by rfl, Z.zrange⟩ (a_cons (oE (g_len  ⟨by rfl, Z.zlen⟩ (a_cons (o_name 2 rfl (.inr (.inl rfl))) a_nil))) a_nil)) (fun s1 H1 C1 l1 p1 c1 => (t_name c1 3 rfl (.inl rfl))) (fun s1 H1 C1 l1 p1 c1 => (w0 (g_popAt 2 rfl (.inr (.inl rfl)) (eW (w_callI c1 ⟨by rfl, D__law_pick.ex⟩ (a_cons (o_name 0 rfl (.inr (.inl rfl))) (a_cons (oE (g_len  ⟨by rfl, Z.zlen⟩ (a_cons (o_name 2 rfl (.inr (.inl rfl))) a_nil))) a_nil)))) ⟨rfl, rfl, rfl, rfl, rfl⟩))) (by decide)))))))
theorem b__law_pairs (Z : Zs mg)  (c : Cok (cxG Pr w K mg base N__law_pairs "_law_pairs" (defScope s__law_pairs) fa cdv A outer s H) 0) : GB (cxG Pr w K mg base N__law_pairs "_law_pairs" (defScope s__law_pairs) fa cdv A outer s H) 0 [] (defBody s__law_pairs) g__law_pairs :=
  (b_cons (s_set c 1 rfl (.inl rfl) (eW (w_lst a_nil)) (by decide))
  (b_cons (s_for c PassesOwn.never (i_r1 ⟨by rfl, Z.zrange⟩ (a_cons (o_name 0 rfl (.inl rfl)) a_nil)) (t_name c 2 rfl (.inr rfl))
  (b_one (s_set c 1 rfl (.inl rfl) (g_add (o_name 1 rfl (.inl rfl)) (oE (eW (w_comp c (own := [("y", 3)]) (T := [3]) (g := (gName 3)) (blkOk_by (N := N__law_pairs) (sc := defScope s__law_pairs) (by decide +kernel)) (i_r2 ⟨by rfl, Z.zrange⟩ (a_cons (o_name 2 rfl (.inr (.inl rfl))) (a_cons (o_name 0 rfl (.inl rfl)) a_nil))) (fun s1 H1 C1 l1 p1 c1 => (t_name c1 3 rfl (.inl rfl))) (fun s1 H1 C1 l1 p1 c1 => (w0 (g_tup (a_cons (oE (g_name 2 rfl (.inr (.inl rfl)))) (a_cons (oE (g_name 3 rfl (.inl rfl))) a_nil))))) (by decide))))) (by decide))) (by decide))
  (b_one (s_ret (w0 (g_name 1 rfl (.inl rfl)))))))
theorem b__law_lot (Z : Zs mg) (D__law_mixed : Dn Pr w K mg base 2 "_law_mixed" ["source", "things"] (spI K 1 0 2 F__law_mixed)) (D__law_pairs : Dn Pr w K mg base 2 "_law_pairs" ["n"] (spF K 1 0 F__law_pairs)) (D__law_pick : Dn Pr w K mg base 2 "_law_pick" ["source", "many"] (spI K 1 0 2 F__law_pick)) (c : Cok (cxG Pr w K mg base N__law_lot "_law_lot" (defScope s__law_lot) fa cdv A outer s H) 2) : GB (cxG Pr w K mg base N__law_lot "_law_lot" (defScope s__law_lot) fa cdv A outer s H) 0 [0] (defBody s__law_lot) g__law_lot :=
  (b_cons (s_setW c 2 rfl (.inl rfl) (w_lst a_nil) (by decide))
  (b_cons (s_for c PassesOwn.never (i_s (g_sl (oE (eW (w_callI c ⟨by rfl, D__law_mixed.ex⟩ (a_cons (o_name 0 rfl (.inl rfl)) (a_cons (oE (eW (w_call c ⟨by rfl, D__law_pairs.ex⟩ (a_cons (oE (g_name 1 rfl (.inl rfl))) a_nil)))) a_nil))))) p_none (p_some (eW (w_callI c ⟨by rfl, D__law_pick.ex⟩ (a_cons (o_name 0 rfl (.inl rfl)) (a_cons (oE (g_mulX (oE g_int) (o_name 1 rfl (.inl rfl)))) a_nil))))))) (t_name c 3 rfl (.inr rfl))
  (b_one (s_if (q_frz (q_eq0 c (oE (eW (w_comp1 c (own := [("x", 4), ("y", 5)]) (T := [4, 5]) (g := (gSeq K 2 (gCons (gName 4) (gCons (gName 5) gNil)))) (blkOk_by (N := N__law_lot) (sc := defScope s__law_lot) (by decide +kernel)) (i_s (g_name 2 rfl (.inl rfl))) (fun s1 H1 C1 l1 p1 c1 => (t_seq (n := 2) c1 (t_cons (t_name c1 4 rfl (.inl rfl)) (t_cons (t_name c1 5 rfl (.inl rfl)) t_nil)))) (fun s1 H1 C1 l1 p1 c1 => (q_v (v_or (q_eq c1 (o_name 4 rfl (.inl rfl)) (oE (g_subS c1 (o_name 3 rfl (.inr (.inl rfl))) (oE g_int)))) (v_or1 (q_eq c1 (o_name 5 rfl (.inl rfl)) (oE (g_subS c1 (o_name 3 rfl (.inr (.inl rfl))) (oE g_int)))))))) (fun s1 H1 C1 l1 p1 c1 => (w0 g_int)) (by decide)))) (oE (eW (w_lst a_nil))))) (b_one (s_expr (g_append 2 rfl (.inl rfl) (w0 (g_name 3 rfl (.inr (.inl rfl)))) ⟨rfl, rfl, rfl, rfl, rfl⟩))) b_nil)) (by decide))
  (b_one (s_ret (w0 (g_tuple  ⟨by rfl, Z.ztuple⟩ (a_cons (oE (eW (w_sortedE c ⟨by rfl, Z.zsorted⟩ (a_cons (o_name 2 rfl (.inl rfl)) a_nil)))) a_nil)))))))
theorem b__law_free (Z : Zs mg)  (c : Cok (cxG Pr w K mg base N__law_free "_law_free" (defScope s__law_free) fa cdv A outer s H) 0) : GB (cxG Pr w K mg base N__law_free "_law_free" (defScope s__law_free) fa cdv A outer s H) 0 [] (defBody s__law_free) g__law_free :=
  (b_one (s_ret (w0 (g_sum c ⟨by rfl, Z.zsum⟩ (a_cons (oE (eW (w_comp1 c (own := [("x", 3), ("y", 4)]) (T := [3, 4]) (g := (gSeq K 2 (gCons (gName 3) (gCons (gName 4) gNil)))) (blkOk_by (N := N__law_free) (sc := defScope s__law_free) (by decide +kernel)) (i_s (g_name 0 rfl (.inr (.inl rfl)))) (fun s1 H1 C1 l1 p1 c1 => (t_seq (n := 2) c1 (t_cons (t_name c1 3 rfl (.inr rfl)) (t_cons (t_name c1 4 rfl (.inr rfl)) t_nil)))) (fun s1 H1 C1 l1 p1 c1 => (q_gt  (o_name 4 rfl (.inr (.inl rfl))) (o_name 3 rfl (.inr (.inl rfl))))) (fun s1 H1 C1 l1 p1 c1 => (w0 (g_sub (oE (g_sub (oE (g_sub (o_name 4 rfl (.inr (.inl rfl))) (o_name 3 rfl (.inr (.inl rfl))))) (oE g_int))) (oE (g_len  ⟨by rfl, Z.zlen⟩ (a_cons (oE (eW (w_comp1 c1 (own := [("a", 1), ("b", 2)]) (T := [1, 2]) (g := (gSeq K 2 (gCons (gName 1) (gCons (gName 2) gNil)))) (blkOk_by rfl) (i_s (g_name 0 rfl (.inr (.inl rfl)))) (fun s2 H2 C2 l2 p2 c2 => (t_seq (n := 2) c2 (t_cons (t_name c2 1 rfl (.inl rfl)) (t_cons (t_name c2 2 rfl (.inl rfl)) t_nil)))) (fun s2 H2 C2 l2 p2 c2 => (q_v (v_and (q_lt  (o_name 3 rfl (.inr (.inl rfl))) (o_name 1 rfl (.inl rfl))) (v_and1 (q_lt  (o_name 2 rfl (.inl rfl)) (o_name 4 rfl (.inr (.inl rfl)))))))) (fun s2 H2 C2 l2 p2 c2 => (w0 g_int)) (by decide)))) a_nil)))))) (by decide)))) a_nil)))))
theorem b__law_parting (Z : Zs mg)  (c : Cok (cxG Pr w K mg base N__law_parting "_law_parting" (defScope s__law_parting) fa cdv A outer s H) 0) : GB (cxG Pr w K mg base N__law_parting "_law_parting" (defScope s__law_parting) fa cdv A outer s H) 0 [] (defBody s__law_parting) g__law_parting :=
  (b_cons (s_set c 2 rfl (.inr rfl) (eW (w_rng1 c ⟨by rfl, Z.zlist⟩ ⟨by rfl, Z.zrange⟩ (oE (g_add (o_name 0 rfl (.inr (.inl rfl))) (oE g_int))))) (by decide))
  (b_cons (s_for c PassesOwn.never (i_s (g_name 1 rfl (.inl rfl))) (t_seq (n := 2) c (t_cons (t_name c 3 rfl (.inr rfl)) (t_cons (t_name c 4 rfl (.inr rfl)) t_nil)))
  (b_one (s_set c 2 rfl (.inr rfl) (eW (w_comp c (own := [("one", 5)]) (T := [5]) (g := (gName 5)) (blkOk_by (N := N__law_parting) (sc := defScope s__law_parting) (by decide +kernel)) (i_s (g_name 2 rfl (.inr (.inl rfl)))) (fun s1 H1 C1 l1 p1 c1 => (t_name c1 5 rfl (.inl rfl))) (fun s1 H1 C1 l1 p1 c1 => (w0 (g_if (q_eq c1 (o_name 5 rfl (.inl rfl)) (oE (g_subS c1 (o_name 2 rfl (.inr (.inl rfl))) (oE (g_add (o_name 4 rfl (.inr (.inl rfl))) (oE g_int)))))) (g_subS c1 (o_name 2 rfl (.inr (.inl rfl))) (o_name 3 rfl (.inr (.inl rfl)))) (g_name 5 rfl (.inl rfl))))) (by decide))) (by decide))) (by decide))
  (b_cons (s_comp c (own := [("name", 8)]) (T := [8]) (g := (gName 8)) (blkOk_by (N := N__law_parting) (sc := defScope s__law_parting) (by decide +kernel)) (i := 6) rfl rfl rfl (i_s (g_name 2 rfl (.inr (.inl rfl)))) (fun s1 H1 C1 l1 p1 c1 => (t_name c1 8 rfl (.inr rfl))) (fun s1 H1 C1 l1 p1 c1 => (w0 (g_tuple  ⟨by rfl, Z.ztuple⟩ (a_cons (oE (eW (w_comp1 c1 (own := [("k", 7)]) (T := [7]) (g := (gName 7)) (blkOk_by rfl) (i_r1 ⟨by rfl, Z.zrange⟩ (a_cons (oE (g_add (o_name 0 rfl (.inr (.inl rfl))) (oE g_int))) a_nil)) (fun s2 H2 C2 l2 p2 c2 => (t_name c2 7 rfl (.inl rfl))) (fun s2 H2 C2 l2 p2 c2 => (q_eq c2 (oE (g_subS c2 (o_name 2 rfl (.inr (.inl rfl))) (o_name 7 rfl (.inl rfl)))) (o_name 8 rfl (.inr (.inl rfl))))) (fun s2 H2 C2 l2 p2 c2 => (w0 (g_name 7 rfl (.inl rfl)))) (by decide)))) a_nil)))) (by decide) (by decide))
  (b_one (s_ret (w0 (g_tuple  ⟨by rfl, Z.ztuple⟩ (a_cons (oE (eW (w_srtSetT c ⟨by rfl, Z.zsorted⟩ ⟨by rfl, Z.zset⟩ (o_name 6 rfl (.inl rfl))))) a_nil))))))))
theorem b__law_lot_of (Z : Zs mg)  (c : Cok (cxG Pr w K mg base N__law_lot_of "_law_lot_of" (defScope s__law_lot_of) fa cdv A outer s H) 0) : GB (cxG Pr w K mg base N__law_lot_of "_law_lot_of" (defScope s__law_lot_of) fa cdv A outer s H) 0 [] (defBody s__law_lot_of) g__law_lot_of :=
  (b_cons (s_set c 1 rfl (.inl rfl) (eW (w_lst a_nil)) (by decide))
  (b_cons (s_for c PassesOwn.never (i_s (g_name 0 rfl (.inl rfl))) (t_name c 2 rfl (.inr rfl))
  (b_one (s_set c 1 rfl (.inl rfl) (g_add (o_name 1 rfl (.inl rfl)) (oE (eW (w_comp c (own := [("k", 3)]) (T := [3]) (g := (gName 3)) (blkOk_by (N := N__law_lot_of) (sc := defScope s__law_lot_of) (by decide +kernel)) (i_r1 ⟨by rfl, Z.zrange⟩ (a_cons (oE (g_sub (oE (g_len  ⟨by rfl, Z.zlen⟩ (a_cons (o_name 2 rfl (.inr (.inl rfl))) a_nil))) (oE g_int))) a_nil)) (fun s1 H1 C1 l1 p1 c1 => (t_name c1 3 rfl (.inl rfl))) (fun s1 H1 C1 l1 p1 c1 => (w0 (g_tup (a_cons (oE (g_subS c1 (o_name 2 rfl (.inr (.inl rfl))) (o_name 3 rfl (.inl rfl)))) (a_cons (oE (g_sub (oE (g_subS c1 (o_name 2 rfl (.inr (.inl rfl))) (oE (g_add (o_name 3 rfl (.inl rfl)) (oE g_int))))) (oE g_int))) a_nil))))) (by decide))))) (by decide))) (by decide))
  (b_one (s_ret (w0 (g_tuple  ⟨by rfl, Z.ztuple⟩ (a_cons (oE (eW (w_sortedE c ⟨by rfl, Z.zsorted⟩ (a_cons (o_name 1 rfl (.inl rfl)) a_nil)))) a_nil)))))))
theorem b__law_partings (Z : Zs mg)  (c : Cok (cxG Pr w K mg base N__law_partings "_law_partings" (defScope s__law_partings) fa cdv A outer s H) 0) : GB (cxG Pr w K mg base N__law_partings "_law_partings" (defScope s__law_partings) fa cdv A outer s H) 0 [] (defBody s__law_partings) g__law_partings :=
  (b_cons (s_set c 1 rfl (.inl rfl) (eW (w_lst (a_cons (oE (g_tup (a_cons (oE (g_tup (a_cons (oE g_int) a_nil))) a_nil))) a_nil))) (by decide))
  (b_cons (s_for c PassesOwn.never (i_r2 ⟨by rfl, Z.zrange⟩ (a_cons (oE g_int) (a_cons (oE (g_add (o_name 0 rfl (.inl rfl)) (oE g_int))) a_nil))) (t_name c 2 rfl (.inr rfl))
  (b_cons (s_setW c 3 rfl (.inl rfl) (w_lst a_nil) (by decide))
  (b_cons (s_for c PassesOwn.never (i_s (g_name 1 rfl (.inl rfl))) (t_name c 4 rfl (.inr rfl))
  (b_cons (s_expr (g_append 3 rfl (.inl rfl) (w0 (g_add (o_name 4 rfl (.inr (.inl rfl))) (oE (g_tup (a_cons (oE (g_tup (a_cons (oE (g_name 2 rfl (.inr (.inl rfl)))) a_nil))) a_nil))))) ⟨rfl, rfl, rfl, rfl, rfl⟩))
  (b_one (s_setW c 3 rfl (.inl rfl) (w_cat (o_name 3 rfl (.inl rfl)) (oE (eW (w_comp c (own := [("i", 5)]) (T := [5]) (g := (gName 5)) (blkOk_by (N := N__law_partings) (sc := defScope s__law_partings) (by decide +kernel)) (i_r1 ⟨by rfl, Z.zrange⟩ (a_cons (oE (g_len  ⟨by rfl, Z.zlen⟩ (a_cons (o_name 4 rfl (.inr (.inl rfl))) a_nil))) a_nil)) (fun s1 H1 C1 l1 p1 c1 => (t_name c1 5 rfl (.inl rfl))) (fun s1 H1 C1 l1 p1 c1 => (w0 (g_add (oE (g_add (oE (g_sl (o_name 4 rfl (.inr (.inl rfl))) p_none (p_some (g_name 5 rfl (.inl rfl))))) (oE (g_tup (a_cons (oE (g_add (oE (g_subS c1 (o_name 4 rfl (.inr (.inl rfl))) (o_name 5 rfl (.inl rfl)))) (oE (g_tup (a_cons (oE (g_name 2 rfl (.inr (.inl rfl)))) a_nil))))) a_nil))))) (oE (g_sl (o_name 4 rfl (.inr (.inl rfl))) (p_some (g_add (o_name 5 rfl (.inl rfl)) (oE g_int))) p_none))))) (by decide))))) (by decide)))) (by decide))
  (b_one (s_set c 1 rfl (.inl rfl) (g_name 3 rfl (.inl rfl)) (by decide))))) (by decide))
  (b_one (s_ret (w0 (g_name 1 rfl (.inl rfl)))))))
theorem b__law_many (Z : Zs mg)  (c : Cok (cxG Pr w K mg base N__law_many "_law_many" (defScope s__law_many) fa cdv A outer s H) 0) : GB (cxG Pr w K mg base N__law_many "_law_many" (defScope s__law_many) fa cdv A outer s H) 0 [] (defBody s__law_many) g__law_many :=
  (b_cons (s_set c 2 rfl (.inl rfl) g_int (by decide))
  (b_cons (s_for c PassesOwn.never (i_r1 ⟨by rfl, Z.zrange⟩ (a_cons (o_name 1 rfl (.inl rfl)) a_nil)) (t_name c 3 rfl (.inl rfl))
  (b_one (s_set c 2 rfl (.inl rfl) (g_mulX (o_name 2 rfl (.inl rfl)) (oE (g_sub (oE (g_shl (oE g_int) (oE (g_sub (o_name 0 rfl (.inl rfl)) (o_name 3 rfl (.inl rfl)))))) (oE g_int)))) (by decide))) (by decide))
  (b_cons (s_for c PassesOwn.never (i_r1 ⟨by rfl, Z.zrange⟩ (a_cons (o_name 1 rfl (.inl rfl)) a_nil)) (t_name c 3 rfl (.inl rfl))
  (b_one (s_set c 2 rfl (.inl rfl) (g_div (o_name 2 rfl (.inl rfl)) (oE (g_sub (oE (g_shl (oE g_int) (oE (g_add (o_name 3 rfl (.inl rfl)) (oE g_int))))) (oE g_int)))) (by decide))) (by decide))
  (b_one (s_ret (w0 (g_name 2 rfl (.inl rfl))))))))
theorem b_law (Z : Zs mg) (D__law_free : Dn Pr w K mg base 3 "_law_free" ["lot"] (spF K 1 0 F__law_free)) (D__law_lot : Dn Pr w K mg base 3 "_law_lot" ["source", "n"] (spI K 1 0 2 F__law_lot)) (D__law_lot_of : Dn Pr w K mg base 3 "_law_lot_of" ["parting"] (spF K 1 0 F__law_lot_of)) (D__law_many : Dn Pr w K mg base 3 "_law_many" ["n", "rank"] (spF K 2 0 F__law_many)) (D__law_of : Dn Pr w K mg base 3 "_law_of" ["source", "some"] (spS K 2 0 F__law_of)) (D__law_parting : Dn Pr w K mg base 3 "_law_parting" ["n", "lot"] (spF K 2 0 F__law_parting)) (D__law_partings : Dn Pr w K mg base 3 "_law_partings" ["n"] (spF K 1 0 F__law_partings)) (D__law_pick : Dn Pr w K mg base 3 "_law_pick" ["source", "many"] (spI K 1 0 2 F__law_pick)) (D__law_source : Dn Pr w K mg base 3 "_law_source" ["script"] (spSrc K)) (D_all_span_lots : Dn Pr w K mg base 3 "all_span_lots" ["n"] (spF K 1 1 F_all_span_lots)) (D_codes_with : Dn Pr w K mg base 3 "codes_with" ["n", "rank"] (spF K 2 0 F_codes_with)) (D_lot_of_parting : Dn Pr w K mg base 3 "lot_of_parting" ["n", "parting"] (spF K 2 0 F_lot_of_parting)) (D_parting_of : Dn Pr w K mg base 3 "parting_of" ["n", "lot"] (spF K 2 0 F_parting_of)) (c : Cok (cxG Pr w K mg base N_law "law" (defScope s_law) fa cdv A outer s H) 3) : PSs (cxG Pr w K mg base N_law "law" (defScope s_law) fa cdv A outer s H) (defBody s_law) (tSeq (tAsg (tCallG (spSrc K) (tCons (tVar 0) tNil)) (gName 1)) (tSt K 0 [] g_law)) := by
  obtain ⟨g, fd, hm, hF, hk, hb⟩ := D__law_source.ex
  exact (pss_cons (ps_set (i := 1) c.nd rfl (.inl rfl) (pe_callG hF c.gd c.room (by rfl) hm hk hb (pa_cons (pe_var (i := 0) rfl (.inl rfl)) pa_nil)))
  (b_cons (s_for c PassesOwn.never (i_r1 ⟨by rfl, Z.zrange⟩ (a_cons (oE g_int) a_nil)) (t_name c 2 rfl (.inl rfl))
  (b_cons (s_set c 3 rfl (.inr rfl) (g_add (oE g_int) (oE (eW (w_callI c ⟨by rfl, D__law_pick.ex⟩ (a_cons (o_name 1 rfl (.inl rfl)) (a_cons (oE g_int) a_nil)))))) (by decide))
  (b_cons (s_set c 4 rfl (.inl rfl) (eW (w_callI c ⟨by rfl, D__law_lot.ex⟩ (a_cons (o_name 1 rfl (.inl rfl)) (a_cons (oE (g_name 3 rfl (.inr (.inl rfl)))) a_nil)))) (by decide))
  (b_cons (s_set c 5 rfl (.inl rfl) (eW (w_call c ⟨by rfl, D__law_parting.ex⟩ (a_cons (oE (g_name 3 rfl (.inr (.inl rfl)))) (a_cons (oE (g_name 4 rfl (.inl rfl))) a_nil)))) (by decide))
  (b_cons (s_if (q_v (v_or (q_ne c (oE (g_repr c ⟨by rfl, Z.zrepr⟩ (a_cons (oE (eW (w_lst (a_cons (oE (eW (w_call c ⟨by rfl, D_parting_of.ex⟩ (a_cons (oE (g_name 3 rfl (.inr (.inl rfl)))) (a_cons (oE (g_name 4 rfl (.inl rfl))) a_nil))))) (a_cons (oE (eW (w_call c ⟨by rfl, D_lot_of_parting.ex⟩ (a_cons (oE (g_name 3 rfl (.inr (.inl rfl)))) (a_cons (oE (g_name 5 rfl (.inl rfl))) a_nil))))) a_nil))))) a_nil))) (oE (g_repr c ⟨by rfl, Z.zrepr⟩ (a_cons (oE (eW (w_lst (a_cons (oE (g_name 5 rfl (.inl rfl))) (a_cons (oE (g_name 4 rfl (.inl rfl))) a_nil))))) a_nil)))) (v_or1 (q_ne c (oE (g_len  ⟨by rfl, Z.zlen⟩ (a_cons (o_name 5 rfl (.inl rfl)) a_nil))) (oE (g_sub (oE (g_add (o_name 3 rfl (.inr (.inl rfl))) (oE g_int))) (oE (g_len  ⟨by rfl, Z.zlen⟩ (a_cons (o_name 4 rfl (.inl rfl)) a_nil))))))))) (b_one (s_ret (w0 g_bl))) b_nil)
  (b_cons (s_comp c (own := [("k", 7)]) (T := [7]) (g := (gName 7)) (blkOk_by (N := N_law) (sc := defScope s_law) (by decide +kernel)) (i := 6) rfl rfl rfl (i_r1 ⟨by rfl, Z.zrange⟩ (a_cons (oE (g_add (o_name 3 rfl (.inr (.inl rfl))) (oE g_int))) a_nil)) (fun s1 H1 C1 l1 p1 c1 => (t_name c1 7 rfl (.inl rfl))) (fun s1 H1 C1 l1 p1 c1 => (w0 (g_tup (a_cons (oE (g_name 7 rfl (.inl rfl))) a_nil)))) (by decide) (by decide))
  (b_cons (s_for c PassesOwn.never (i_r1 ⟨by rfl, Z.zrange⟩ (a_cons (oE (eW (w_callI c ⟨by rfl, D__law_pick.ex⟩ (a_cons (o_name 1 rfl (.inl rfl)) (a_cons (oE (g_add (o_name 3 rfl (.inr (.inl rfl))) (oE g_int))) a_nil))))) a_nil)) (t_name c 8 rfl (.inl rfl))
  (b_one (s_if (q_gt  (oE (g_len  ⟨by rfl, Z.zlen⟩ (a_cons (o_name 6 rfl (.inl rfl)) a_nil))) (oE g_int)) (b_cons (s_set c 9 rfl (.inl rfl) (g_popAt 6 rfl (.inl rfl) (eW (w_callI c ⟨by rfl, D__law_pick.ex⟩ (a_cons (o_name 1 rfl (.inl rfl)) (a_cons (oE (g_len  ⟨by rfl, Z.zlen⟩ (a_cons (o_name 6 rfl (.inl rfl)) a_nil))) a_nil)))) ⟨rfl, rfl, rfl, rfl, rfl⟩) (by decide))
  (b_cons (s_set c 7 rfl (.inl rfl) (eW (w_callI c ⟨by rfl, D__law_pick.ex⟩ (a_cons (o_name 1 rfl (.inl rfl)) (a_cons (oE (g_len  ⟨by rfl, Z.zlen⟩ (a_cons (o_name 6 rfl (.inl rfl)) a_nil))) a_nil)))) (by decide))
  (b_one (s_store 6 rfl (.inl rfl) (g_tuple  ⟨by rfl, Z.ztuple⟩ (a_cons (oE (eW (w_sorted c ⟨by rfl, Z.zsorted⟩ (a_cons (oE (g_add (oE (g_subS c (o_name 6 rfl (.inl rfl)) (o_name 7 rfl (.inl rfl)))) (o_name 9 rfl (.inl rfl)))) a_nil)))) a_nil)) (h_name 7 rfl (.inl rfl)))))) b_nil)) (by decide))
  (b_cons (s_set c 6 rfl (.inl rfl) (g_tuple  ⟨by rfl, Z.ztuple⟩ (a_cons (oE (eW (w_sortedE c ⟨by rfl, Z.zsorted⟩ (a_cons (o_name 6 rfl (.inl rfl)) a_nil)))) a_nil)) (by decide))
  (b_cons (s_set c 10 rfl (.inl rfl) (eW (w_call c ⟨by rfl, D_lot_of_parting.ex⟩ (a_cons (oE (g_name 3 rfl (.inr (.inl rfl)))) (a_cons (oE (g_name 6 rfl (.inl rfl))) a_nil)))) (by decide))
  (b_cons (s_if (q_ne c (oE (g_repr c ⟨by rfl, Z.zrepr⟩ (a_cons (oE (eW (w_lst (a_cons (oE (g_name 10 rfl (.inl rfl))) (a_cons (oE (eW (w_call c ⟨by rfl, D_parting_of.ex⟩ (a_cons (oE (g_name 3 rfl (.inr (.inl rfl)))) (a_cons (oE (g_name 10 rfl (.inl rfl))) a_nil))))) a_nil))))) a_nil))) (oE (g_repr c ⟨by rfl, Z.zrepr⟩ (a_cons (oE (eW (w_lst (a_cons (oE (eW (w_call c ⟨by rfl, D__law_lot_of.ex⟩ (a_cons (oE (g_name 6 rfl (.inl rfl))) a_nil)))) (a_cons (oE (g_name 6 rfl (.inl rfl))) a_nil))))) a_nil)))) (b_one (s_ret (w0 g_bl))) b_nil)
  (b_cons (s_set c 11 rfl (.inl rfl) (eW (w_callI c ⟨by rfl, D__law_pick.ex⟩ (a_cons (o_name 1 rfl (.inl rfl)) (a_cons (oE (g_add (o_name 3 rfl (.inr (.inl rfl))) (oE g_int))) a_nil)))) (by decide))
  (b_one (s_if (q_ne c (oE (g_repr c ⟨by rfl, Z.zrepr⟩ (a_cons (oE (eW (w_call c ⟨by rfl, D_codes_with.ex⟩ (a_cons (oE (g_name 3 rfl (.inr (.inl rfl)))) (a_cons (oE (g_name 11 rfl (.inl rfl))) a_nil))))) a_nil))) (oE (g_repr c ⟨by rfl, Z.zrepr⟩ (a_cons (oE (eW (w_call c ⟨by rfl, D__law_many.ex⟩ (a_cons (oE (g_name 3 rfl (.inr (.inl rfl)))) (a_cons (oE (g_name 11 rfl (.inl rfl))) a_nil))))) a_nil)))) (b_one (s_ret (w0 g_bl))) b_nil)))))))))))) (by decide))
  (b_cons (s_set c 3 rfl (.inr rfl) (eW (w_callS c ⟨by rfl, D__law_of.ex⟩ (a_cons (o_name 1 rfl (.inl rfl)) (a_cons (oE (eW (w_lst (a_cons (oE g_int) (a_cons (oE g_int) (a_cons (oE g_int) (a_cons (oE g_int) (a_cons (oE g_int) (a_cons (oE g_int) (a_cons (oE g_int) a_nil)))))))))) a_nil)))) (by decide))
  (b_cons (s_if (q_v (v_and (q_eq c (o_name 3 rfl (.inr (.inl rfl))) (oE g_int)) (v_and1 (q_gt  (oE (eW (w_callI c ⟨by rfl, D__law_pick.ex⟩ (a_cons (o_name 1 rfl (.inl rfl)) (a_cons (oE g_int) a_nil))))) (oE g_int))))) (b_one (s_ret (w0 g_bl))) b_nil)
  (b_cons (s_set c 12 rfl (.inr rfl) (eW (w_sortedE c ⟨by rfl, Z.zsorted⟩ (a_cons (oE (eW (w_comp c (own := [("parting", 6)]) (T := [6]) (g := (gName 6)) (blkOk_by (N := N_law) (sc := defScope s_law) (by decide +kernel)) (i_s (eW (w_call c ⟨by rfl, D__law_partings.ex⟩ (a_cons (oE (g_name 3 rfl (.inr (.inl rfl)))) a_nil)))) (fun s1 H1 C1 l1 p1 c1 => (t_name c1 6 rfl (.inl rfl))) (fun s1 H1 C1 l1 p1 c1 => (w0 (eW (w_call c1 ⟨by rfl, D__law_lot_of.ex⟩ (a_cons (oE (g_name 6 rfl (.inl rfl))) a_nil))))) (by decide)))) a_nil))) (by decide))
  (b_cons (s_setW c 10 rfl (.inl rfl) (w_call c ⟨by rfl, D_all_span_lots.ex⟩ (a_cons (oE (g_name 3 rfl (.inr (.inl rfl)))) a_nil)) (by decide))
  (b_cons (s_if (q_v (v_or (q_ne c (oE (g_repr c ⟨by rfl, Z.zrepr⟩ (a_cons (o_name 10 rfl (.inl rfl)) a_nil))) (oE (g_repr c ⟨by rfl, Z.zrepr⟩ (a_cons (o_name 12 rfl (.inr (.inl rfl))) a_nil)))) (v_or1 (q_ne c (oE (g_len  ⟨by rfl, Z.zlen⟩ (a_cons (o_name 12 rfl (.inr (.inl rfl))) a_nil))) (oE (g_subS c (oE (eW (w_lst (a_cons (oE g_int) (a_cons (oE g_int) (a_cons (oE g_int) (a_cons (oE g_int) (a_cons (oE g_int) (a_cons (oE g_int) (a_cons (oE g_int) a_nil)))))))))) (o_name 3 rfl (.inr (.inl rfl))))))))) (b_one (s_ret (w0 g_bl))) b_nil)
  (b_cons (s_expr (g_append 10 rfl (.inl rfl) (w0 g_non) ⟨rfl, rfl, rfl, rfl, rfl⟩))
  (b_cons (s_comp c (own := [("rank", 11)]) (T := [11]) (g := (gName 11)) (blkOk_by (N := N_law) (sc := defScope s_law) (by decide +kernel)) (i := 13) rfl rfl rfl (i_r1 ⟨by rfl, Z.zrange⟩ (a_cons (oE (g_add (o_name 3 rfl (.inr (.inl rfl))) (oE g_int))) a_nil)) (fun s1 H1 C1 l1 p1 c1 => (t_name c1 11 rfl (.inr rfl))) (fun s1 H1 C1 l1 p1 c1 => (w0 (g_sum c1 ⟨by rfl, Z.zsum⟩ (a_cons (oE (eW (w_comp1 c1 (own := [("lot", 4)]) (T := [4]) (g := (gName 4)) (blkOk_by rfl) (i_s (g_name 12 rfl (.inr (.inl rfl)))) (fun s2 H2 C2 l2 p2 c2 => (t_name c2 4 rfl (.inl rfl))) (fun s2 H2 C2 l2 p2 c2 => (q_eq c2 (oE (g_len  ⟨by rfl, Z.zlen⟩ (a_cons (o_name 4 rfl (.inl rfl)) a_nil))) (o_name 11 rfl (.inr (.inl rfl))))) (fun s2 H2 C2 l2 p2 c2 => (w0 (g_shl (oE g_int) (oE (eW (w_call c2 ⟨by rfl, D__law_free.ex⟩ (a_cons (oE (g_name 4 rfl (.inl rfl))) a_nil))))))) (by decide)))) a_nil)))) (by decide) (by decide))
  (b_one (s_ret (w0 (g_and (g_eq c (o_name 13 rfl (.inl rfl)) (oE (eW (w_comp c (own := [("rank", 11)]) (T := [11]) (g := (gName 11)) (blkOk_by (N := N_law) (sc := defScope s_law) (by decide +kernel)) (i_r1 ⟨by rfl, Z.zrange⟩ (a_cons (oE (g_add (o_name 3 rfl (.inr (.inl rfl))) (oE g_int))) a_nil)) (fun s1 H1 C1 l1 p1 c1 => (t_name c1 11 rfl (.inl rfl))) (fun s1 H1 C1 l1 p1 c1 => (w0 (eW (w_call c1 ⟨by rfl, D_codes_with.ex⟩ (a_cons (oE (g_name 3 rfl (.inr (.inl rfl)))) (a_cons (oE (g_name 11 rfl (.inl rfl))) a_nil)))))) (by decide))))) (g_one (g_eq c (oE (g_len  ⟨by rfl, Z.zlen⟩ (a_cons (oE (eW (w_call c ⟨by rfl, D_all_span_lots.ex⟩ (a_cons (oE (g_name 3 rfl (.inr (.inl rfl)))) a_nil)))) a_nil))) (oE (g_len  ⟨by rfl, Z.zlen⟩ (a_cons (o_name 12 rfl (.inr (.inl rfl))) a_nil))))))))))))))))))
end
end K73

/-! k75: the draw, whole numbers, comprehensions -/
namespace K73
open PySem Nt L2
theorem cRng_of {j : Int} (h0 : -1000000000 ≤ j) (h1 : j ≤ 1000000000) : cRng j = true := by
  unfold cRng
  rw [decide_eq_true (by omega), decide_eq_true (by omega)]
  rfl
theorem rangeD_succ (lo : Int) (n : Nat) : rangeD lo (n + 1) = .int lo :: rangeD (lo + 1) n := by
  unfold rangeD
  rw [List.range_succ_eq_map, List.map_cons, List.map_map]
  congr 1
  · simp
  · refine List.map_congr_left fun k _ => ?_
    show PyData.int (lo + ((k + 1 : Nat) : Int)) = PyData.int (lo + 1 + (k : Int))
    congr 1
    omega
theorem rangeD_len (lo : Int) (n : Nat) : (rangeD lo n).length = n := by
  unfold rangeD
  rw [List.length_map, List.length_range]
def iot (N : Nat) : List Int := (List.range N).map fun (k : Nat) => (k : Int)
theorem iot_mem {N : Nat} {x : Int} : x ∈ iot N ↔ 0 ≤ x ∧ x < N := by
  unfold iot
  rw [List.mem_map]
  constructor
  · rintro ⟨k, hk, rfl⟩
    have := List.mem_range.mp hk
    omega
  · rintro ⟨h0, h1⟩
    exact ⟨x.toNat, List.mem_range.mpr (by omega), by omega⟩
theorem iot_len (N : Nat) : (iot N).length = N := by unfold iot; rw [List.length_map, List.length_range]
theorem iot_get {N i : Nat} (h : i < N) : (iot N)[i]? = some (i : Int) := by
  unfold iot
  rw [List.getElem?_map, List.getElem?_range h]
  rfl
theorem iot_nodup (N : Nat) : (iot N).Nodup := by
  unfold iot
  refine List.Pairwise.map _ (fun a b h => ?_) List.nodup_range
  omega
theorem iot_succ (N : Nat) : iot (N + 1) = iot N ++ [(N : Int)] := by
  unfold iot
  rw [List.range_succ, List.map_append]
  rfl
theorem range_iot (N : Nat) : rangeD 0 N = (iot N).map PyData.int := by
  unfold rangeD iot
  rw [List.map_map]
  refine List.map_congr_left fun k _ => ?_
  simp
def tupI (l : List Int) : D := .tuple (l.map PyData.int)
def lstI (l : List Int) : D := .list (l.map PyData.int)
theorem set_iot {N : Nat} (f : Int → D) {e : Int} (he : e ∈ iot N) (d : D) : ((iot N).map f).set e.toNat d = (iot N).map fun x => if x = e then d else f x := by
  have hb := iot_mem.mp he
  refine List.ext_getElem? fun i => ?_
  by_cases hi : i < N
  · rw [List.getElem?_map, iot_get hi]
    by_cases h : i = e.toNat
    · subst h
      rw [List.getElem?_set_self (by rw [List.length_map, iot_len]; exact hi)]
      have : ((e.toNat : Nat) : Int) = e := by omega
      rw [this]
      simp
    · rw [List.getElem?_set_ne (Ne.symm h), List.getElem?_map, iot_get hi]
      have : ¬ ((i : Nat) : Int) = e := by omega
      simp [this]
  · rw [List.getElem?_eq_none (by rw [List.length_set, List.length_map, iot_len]; omega), List.getElem?_eq_none (by rw [List.length_map, iot_len]; omega)]
theorem at_iot {N : Nat} (f : Int → D) {e : Int} (he : e ∈ iot N) : atI ((iot N).map f) e = some (f e) := by
  have hb := iot_mem.mp he
  rw [atI_int _ hb.1 (by rw [List.length_map, iot_len]; omega), List.getElem?_map, iot_get (by omega)]
  have : ((e.toNat : Nat) : Int) = e := by omega
  rw [this]
  rfl
theorem comp_map {α : Type} {set : D → Nt.Env → Option Nt.Env} {tst : Mo Bool} {el : Mo D} {vs : List Nat} {ρ0 : Nt.Env} (c f : α → D) : ∀ (l : List α) (ρ : Nt.Env), forget vs ρ = ρ0 →
    (∀ x ∈ l, ∃ ρ1 ρ2, set (c x) ρ0 = some ρ1 ∧ tst ρ1 = some (true, ρ1) ∧ el ρ1 = some (f x, ρ2) ∧ forget vs ρ2 = ρ0) → compD set tst el vs (l.map c) ρ = some (l.map f, ρ0)
  | [], ρ, h, _ => by rw [← h]; rfl
  | x :: l, ρ, h, q => by
    obtain ⟨ρ1, ρ2, e1, e2, e3, e4⟩ := q x List.mem_cons_self
    have ih := comp_map c f l ρ2 e4 fun y hy => q y (List.mem_cons_of_mem _ hy)
    rw [List.map_cons, compD_cons, h, e1, ob_some, e2, ob_some]
    simp only [br_true, e3, ob_some, ih]
    rfl
theorem comp_flt {α : Type} {set : D → Nt.Env → Option Nt.Env} {tst : Mo Bool} {el : Mo D} {vs : List Nat} {ρ0 : Nt.Env} (c f : α → D) (b : α → Bool) : ∀ (l : List α) (ρ : Nt.Env), forget vs ρ = ρ0 →
    (∀ x ∈ l, ∃ ρ1 ρ2, set (c x) ρ0 = some ρ1 ∧ tst ρ1 = some (b x, ρ2) ∧ ((b x = false ∧ forget vs ρ2 = ρ0) ∨ (b x = true ∧ ∃ ρ3, el ρ2 = some (f x, ρ3) ∧ forget vs ρ3 = ρ0))) → compD set tst el vs (l.map c) ρ = some ((l.filter b).map f, ρ0)
  | [], ρ, h, _ => by rw [← h]; rfl
  | x :: l, ρ, h, q => by
    obtain ⟨ρ1, ρ2, e1, e2, e3⟩ := q x List.mem_cons_self
    rw [List.map_cons, compD_cons, h, e1, ob_some, e2, ob_some]
    rcases e3 with ⟨hb, e4⟩ | ⟨hb, ρ3, e4, e5⟩
    · have ih := comp_flt c f b l ρ2 e4 fun y hy => q y (List.mem_cons_of_mem _ hy)
      rw [hb, br_false, ih, List.filter_cons, hb, if_neg Bool.false_ne_true]
    · have ih := comp_flt c f b l ρ3 e5 fun y hy => q y (List.mem_cons_of_mem _ hy)
      rw [hb, br_true, e4, ob_some, ih, ob_some, List.filter_cons, hb, if_pos rfl, List.map_cons]
theorem forD_or {set : D → Nt.Env → Option Nt.Env} {body : MoS} : ∀ (l : List D) (P : Nat → Nt.Env → Prop) (Z : D → Prop) (ρ : Nt.Env),
    (∀ i d ρ, l[i]? = some d → P i ρ → ∃ ρ1 ρ2, set d ρ = some ρ1 ∧ ((body ρ1 = some (.nx ρ2) ∧ P (i + 1) ρ2) ∨ ∃ z, body ρ1 = some (.rt z ρ2) ∧ Z z)) → P 0 ρ →
    ∃ ρ', (forD set body l ρ = some (.nx ρ') ∧ P l.length ρ') ∨ ∃ z, forD set body l ρ = some (.rt z ρ') ∧ Z z
  | [], P, Z, ρ, _, h0 => ⟨ρ, .inl ⟨rfl, h0⟩⟩
  | d :: l, P, Z, ρ, h, h0 => by
    obtain ⟨ρ1, ρ2, e1, h1⟩ := h 0 d ρ rfl h0
    rcases h1 with ⟨e2, p2⟩ | ⟨z, e2, hz⟩
    · obtain ⟨ρ', h3⟩ := forD_or l (fun i => P (i + 1)) Z ρ2 (fun i d' ρ hd hP => h (i + 1) d' ρ (by simpa using hd) hP) p2
      refine ⟨ρ', ?_⟩
      rw [forD_cons, e1, ob_some, e2, lp_nx]
      rcases h3 with ⟨e3, p3⟩ | ⟨z, e3, hz⟩
      · exact .inl ⟨e3, by simpa using p3⟩
      · exact .inr ⟨z, e3, hz⟩
    · refine ⟨ρ2, .inr ⟨z, ?_, hz⟩⟩
      rw [forD_cons, e1, ob_some, e2, lp_rt]
theorem iot_pw (N : Nat) : (iot N).Pairwise (· < ·) := by
  unfold iot
  refine List.Pairwise.map _ (fun a b (h : a < b) => ?_) List.pairwise_lt_range
  omega
theorem flt_one {α : Type} [DecidableEq α] {L : List α} {p : α → Bool} {x : α} (hx : x ∈ L) (hp : p x = true) (u : ∀ y ∈ L, p y = true → y = x) : ∃ r, L.filter p = x :: r := by
  cases h : L.filter p with
  | nil => exact absurd (List.mem_filter.mpr ⟨hx, hp⟩) (by rw [h]; simp)
  | cons y r =>
    have hy : y ∈ L.filter p := by rw [h]; exact List.mem_cons_self
    have := List.mem_filter.mp hy
    rw [u y this.1 this.2]
    exact ⟨r, rfl⟩
theorem pl_ints {w : Nat} {ws : List Nat} {l : List Int} (hl : l.length ≤ w) (h : ∀ x ∈ l, x.natAbs < 1000000000000) : Pl true (w :: ws) (lstI l) :=
  .lst rfl (by rw [List.length_map]; exact hl) fun d hd => by
    obtain ⟨x, hx, rfl⟩ := List.mem_map.mp hd
    exact .int (h x hx)
theorem pl_tupI {w : Nat} {ws : List Nat} {l : List Int} (hl : l.length ≤ w) (h : ∀ x ∈ l, x.natAbs < 1000000000000) : Pl true (w :: ws) (tupI l) :=
  .tup (by rw [List.length_map]; exact hl) fun d hd => by
    obtain ⟨x, hx, rfl⟩ := List.mem_map.mp hd
    exact .int (h x hx)
theorem okTup {l : List Int} (hl : l.length ≤ 1000) (h : ∀ x ∈ l, x.natAbs < 1000000000000) : Nt.okR (tupI l) = true := (pl_tupI (w := 1000) (ws := []) hl h).okR (by decide) (by decide)
theorem in_tup (neg : Bool) (c : Int) (l : List Int) : dInT neg (.int c) (tupI l) = some (.bool (if neg then !decide (c ∈ l) else decide (c ∈ l))) := by
  unfold dInT tupI
  have h1 : (flatD (.int c) && (l.map PyData.int).all flatD) = true := by
    simp [flatD]
  show (if (flatD (.int c) && (l.map PyData.int).all flatD) = true then some (PyData.bool (if neg = true then !(l.map PyData.int).any (fun z => eqF z (.int c)) else (l.map PyData.int).any fun z => eqF z (.int c))) else none) = _
  rw [if_pos h1]
  have h2 : ((l.map PyData.int).any fun z => eqF z (.int c)) = decide (c ∈ l) := by
    clear h1
    induction l with
    | nil => rfl
    | cons x l ih =>
      rw [List.map_cons, List.any_cons, ih]
      by_cases h : x = c
      · subst h; simp [eqF]
      · have : ¬ c = x := fun e => h e.symm
        simp [eqF, h, this]
  rw [h2]
def Nw (s : Sl) : Prop := s = .un ∨ ∃ d, s = .sh d
theorem Nw.un : Nw .un := .inl rfl
theorem Nw.sh (d : D) : Nw (.sh d) := .inr ⟨d, rfl⟩
theorem okOwn1 {ρ : Nt.Env} {i : Nat} {s : Sl} (h : ρ[i]? = some s) (hn : Nw s) : okOwn ρ [i] = true := by
  unfold okOwn
  rcases hn with rfl | ⟨d, rfl⟩ <;> simp [h]
theorem okOwn2 {ρ : Nt.Env} {i j : Nat} {s t : Sl} (h : ρ[i]? = some s) (hn : Nw s) (h2 : ρ[j]? = some t) (hn2 : Nw t) : okOwn ρ [i, j] = true := by
  unfold okOwn
  rcases hn with rfl | ⟨d, rfl⟩ <;> rcases hn2 with rfl | ⟨d2, rfl⟩ <;> simp [h, h2]
theorem two_m (m : Nat) : cMul 2 (m : Nat) = true := by simp [cMul]
end K73

/-! k73: the draw of one thing, of a mixed row; small rules -/
namespace K73
open PySem Nt L2
theorem of_sh {s : D} (hs : Src s) {xs : List D} (h0 : xs ≠ []) (h1 : xs.length ≤ 1000000) : ∃ x ∈ xs, ∃ s', F__law_of [.ow 2 s, .sh (.list xs)] = some (x, [.ow 2 s', .sh (.list xs)]) ∧ Src s' := by
  obtain ⟨r, s', e, hs', r0, r1⟩ := pick_ok hs (many := xs.length) (by omega) (by omega)
  have hl : 0 < xs.length := List.length_pos_iff.mpr h0
  have hr : r < xs.length := by omega
  have hx : r.toNat < xs.length := by omega
  refine ⟨xs[r.toNat], List.getElem_mem hx, s', ?_, hs'⟩
  unfold F__law_of g__law_of
  rw [runS_ev]
  simp [e, atI_int xs r0 hr, hx]
theorem of_ow {s : D} (hs : Src s) {xs : List D} (h0 : xs ≠ []) (h1 : xs.length ≤ 1000000) : ∃ x ∈ xs, ∃ s', F__law_of [.ow 2 s, .ow 1 (.list xs)] = some (x, [.ow 2 s', .ow 1 (.list xs)]) ∧ Src s' := by
  obtain ⟨r, s', e, hs', r0, r1⟩ := pick_ok hs (many := xs.length) (by omega) (by omega)
  have hl : 0 < xs.length := List.length_pos_iff.mpr h0
  have hr : r < xs.length := by omega
  have hx : r.toNat < xs.length := by omega
  refine ⟨xs[r.toNat], List.getElem_mem hx, s', ?_, hs'⟩
  unfold F__law_of g__law_of
  rw [runS_ev]
  simp [e, atI_int xs r0 hr, hx]
theorem perm_at {α : Type} : ∀ {xs : List α} {r : Nat} (h : r < xs.length), (xs[r] :: xs.eraseIdx r).Perm xs
  | x :: xs, 0, _ => List.Perm.refl _
  | x :: xs, r + 1, h => by
    have := perm_at (xs := xs) (r := r) (by simpa using h)
    exact (List.Perm.swap _ _ _).trans (List.Perm.cons x this)
theorem mixed_comp (x1 : Sl) : ∀ (k : Nat) (lo : Int) (rest : List D) (s : D) (c : Sl), Src s → rest.length = k → k ≤ 1000 →
    ∃ ys s', compD (fName 3) mYes e1__law_mixed [3] (rangeD lo k) [.ow 2 s, x1, .ow 1 (.list rest), c] = some (ys, [.ow 2 s', x1, .ow 1 (.list []), .un]) ∧ Src s' ∧ ys.Perm rest
  | 0, lo, rest, s, c, hs, hl, _ => by
    have : rest = [] := List.eq_nil_of_length_eq_zero hl
    subst this
    exact ⟨[], s, rfl, hs, List.Perm.refl _⟩
  | k + 1, lo, rest, s, c, hs, hl, hk => by
    obtain ⟨r, s2, e2, hs2, r0, r1⟩ := pick_ok hs (many := rest.length) (by omega) (by omega)
    have hrl : r.toNat < rest.length := by omega
    have hel : (rest.eraseIdx r.toNat).length = k := by rw [List.length_eraseIdx_of_lt hrl]; omega
    obtain ⟨ys, s', e, hs', hp⟩ := mixed_comp x1 k (lo + 1) (rest.eraseIdx r.toNat) s2 (.sh (.int lo)) hs2 hel (by omega)
    refine ⟨rest[r.toNat] :: ys, s', ?_, hs', (List.Perm.cons _ hp).trans (perm_at hrl)⟩
    have h2 : rest.length ≤ 16777216 := by omega
    have ee : e1__law_mixed [.ow 2 s, x1, .ow 1 (.list rest), .sh (.int lo)] = some (rest[r.toNat], [.ow 2 s2, x1, .ow 1 (.list (rest.eraseIdx r.toNat)), .sh (.int lo)]) := by
      unfold e1__law_mixed
      simp [e2, r0, h2, hrl]
    rw [rangeD_succ, compD_cons]
    simp [forget, ee, e]
theorem mixed_ok {s : D} (hs : Src s) {xs : List D} (hl : xs.length ≤ 1000) : ∃ (ys : List D) (s' : D), F__law_mixed s [.list xs] = some (.list ys, s') ∧ Src s' ∧ ys.Perm xs := by
  obtain ⟨ys, s', e, hs', hp⟩ := mixed_comp (.sh (.list xs)) xs.length 0 xs s .un hs rfl hl
  refine ⟨ys, s', ?_, hs', hp⟩
  unfold F__law_mixed g__law_mixed
  rw [runI_ev]
  have c1 : cRng (xs.length : Int) = true := cRng_of (by omega) (by omega)
  have h1 : xs.length ≤ 16777216 := by omega
  simp [c1, rangeD_len, h1, okOwn, e, back, forget]
/-! ### whole numbers from 0 on -/
theorem range_nI (n : Nat) : rangeD 0 n = (List.range n).map fun p => PyData.int ((p : Nat) : Int) := by
  rw [range_iot]
  unfold iot
  rw [List.map_map]
  rfl
theorem rangeD_at : ∀ {N i : Nat} {lo : Int} {d : D}, (rangeD lo N)[i]? = some d → i < N ∧ d = .int (lo + (i : Nat))
  | 0, i, lo, d, h => by
    have : (rangeD lo 0) = [] := by
      have := rangeD_len lo 0
      exact List.length_eq_zero_iff.mp this
    rw [this] at h
    simp at h
  | N + 1, 0, lo, d, h => by
    rw [rangeD_succ] at h
    cases h
    exact ⟨by omega, by simp⟩
  | N + 1, i + 1, lo, d, h => by
    rw [rangeD_succ, List.getElem?_cons_succ] at h
    obtain ⟨h1, h2⟩ := rangeD_at h
    refine ⟨by omega, ?_⟩
    rw [h2]
    congr 1
    omega
theorem rng_snoc (f : Nat → D) (i : Nat) : (List.range (i + 1)).map f = (List.range i).map f ++ [f i] := by rw [List.range_succ, List.map_append]; rfl
theorem at_rng (f : Nat → D) {N k : Nat} (h : k < N) : atI ((List.range N).map f) ((k : Nat) : Int) = some (f k) := by
  rw [atI_nat _ _ (by rw [List.length_map, List.length_range]; exact h), List.getElem_map, List.getElem_range]
theorem at_last {α : Type} (l : List α) (d : α) : atI (l ++ [d]) (-1) = some d := by
  unfold atI ixN
  rw [if_neg (by decide), List.length_append, List.length_singleton, if_pos (by omega)]
  have : (-1 + ((l.length + 1 : Nat) : Int)).toNat = l.length := by omega
  rw [this]
  show (l ++ [d])[l.length]? = some d
  simp
theorem shl_one (j : Nat) (hj : j ≤ 100) : cPow 1 ((j : Nat) : Int) = true := by
  unfold cPow
  rw [decide_eq_true (by omega), decide_eq_true (by omega), decide_eq_true (by decide)]
  rfl
theorem pow_cast (j : Nat) : (1 : Int) * 2 ^ ((j : Nat) : Int).toNat = ((2 ^ j : Nat) : Int) := by
  rw [Int.one_mul, Int.toNat_natCast, Int.natCast_pow]
  rfl
theorem shl_ev (j : Nat) (hj : j ≤ 100) : dShl (.int 1) (.int (j : Nat)) = some (.int ((2 ^ j : Nat) : Int)) := by
  rw [dShl_ev, shl_one j hj, br_true, pow_cast]
def allN (k : Nat) (q : Nat → Bool) : Bool := Nat.rec true (fun i r => q i && r) k
theorem allN_ok {q : Nat → Bool} : ∀ {k : Nat}, allN k q = true → ∀ i, i < k → q i = true
  | 0, _, i, hi => by omega
  | k + 1, h, i, hi => by
    have h' : (q k && allN k q) = true := h
    rw [Bool.and_eq_true] at h'
    by_cases z : i = k
    · rw [z]; exact h'.1
    · exact allN_ok h'.2 i (by omega)
/-! ### pairs, rows of numbers, in order -/
def nb (l : List Nat) : List Int := l.map fun k => ((k : Nat) : Int)
def blD (l : List Nat) : D := .tuple (l.map fun k => .int (k : Nat))
theorem blD_tu (l : List Nat) : blD l = tuN (nb l) := by unfold blD tuN nb; rw [List.map_map]; rfl
def prD (p : Nat × Nat) : D := .tuple [.int (p.1 : Nat), .int (p.2 : Nat)]
def ltD (l : List (Nat × Nat)) : D := .tuple (l.map prD)
theorem prD_tu (p : Nat × Nat) : prD p = tuN [(p.1 : Int), (p.2 : Int)] := rfl
theorem nb_le (a b : List Nat) : PySem.W.dataLe false id (blD a) (blD b) = decide (nb a ≤ nb b) := by rw [blD_tu, blD_tu]; exact le_tuN _ _
theorem nb_inj {a b : List Nat} (h : nb a = nb b) : a = b := by
  unfold nb at h
  exact List.map_inj_right (f := fun k : Nat => (k : Int)) (fun x y e => by omega) |>.mp h
end K73

/-! k73: lots of spans, partings: plain -/
namespace K73
open PySem Nt
structure Lot (n : Nat) (L : List (Nat × Nat)) : Prop where
  le : ∀ p ∈ L, p.1 ≤ p.2 ∧ p.2 < n
  asc : L.Pairwise fun p q => p.1 < q.1
  lst : L.Pairwise fun p q => p.2 ≠ q.2
def nmS (f : Nat → Nat) (p : Nat × Nat) : Nat → Nat := fun z => if f z = f (p.2 + 1) then f p.1 else f z
def nm (L : List (Nat × Nat)) : Nat → Nat := L.foldl nmS id
structure Nm (M : List (Nat × Nat)) (f : Nat → Nat) : Prop where
  le : ∀ z, f z ≤ z
  fix : ∀ z, (∀ p ∈ M, p.2 + 1 ≠ z) → f z = z
  eq : ∀ p ∈ M, f (p.2 + 1) = f p.1
theorem Nm.step {n : Nat} {M : List (Nat × Nat)} {f : Nat → Nat} (N : Nm M f) {p : Nat × Nat} (hp : p.1 ≤ p.2) (asc : ∀ q ∈ M, q.1 < p.1) (lst : ∀ q ∈ M, q.2 ≠ p.2) : Nm (M ++ [p]) (nmS f p) ∧ ∀ z, nmS f p z = if z = p.2 + 1 then f p.1 else f z := by
  have fb : f (p.2 + 1) = p.2 + 1 := N.fix _ fun q hq e => lst q hq (by omega)
  have only : ∀ z, f z = p.2 + 1 → z = p.2 + 1 := fun z hz => by
    by_cases h : ∃ q ∈ M, q.2 + 1 = z
    · obtain ⟨q, hq, e⟩ := h
      have h1 := N.eq q hq
      rw [e, hz] at h1
      have h2 := N.le q.1
      have h3 := asc q hq
      omega
    · have := N.fix z fun q hq e => h ⟨q, hq, e⟩
      omega
  have val : ∀ z, nmS f p z = if z = p.2 + 1 then f p.1 else f z := fun z => by
    unfold nmS
    rw [fb]
    by_cases h : z = p.2 + 1
    · rw [if_pos (by rw [h, fb]), if_pos h]
    · rw [if_neg (fun e => h (only z e)), if_neg h]
  refine ⟨⟨fun z => ?_, fun z hz => ?_, fun q hq => ?_⟩, val⟩
  · rw [val]
    split
    · have := N.le p.1; omega
    · exact N.le z
  · rw [val, if_neg (fun e => hz p (List.mem_append_right _ (List.mem_singleton.mpr rfl)) e.symm)]
    exact N.fix z fun q hq => hz q (List.mem_append_left _ hq)
  · rw [val, val]
    rcases List.mem_append.mp hq with hq | hq
    · have h1 := asc q hq
      have h2 := lst q hq
      rw [if_neg (by omega), if_neg (by omega)]
      exact N.eq q hq
    · rw [List.mem_singleton.mp hq, if_pos rfl, if_neg (by omega)]
theorem Lot.nm_take {n : Nat} {L : List (Nat × Nat)} (H : Lot n L) : ∀ i, Nm (L.take i) ((L.take i).foldl nmS id)
  | 0 => ⟨fun z => Nat.le_refl z, fun z _ => rfl, fun p hp => nomatch hp⟩
  | i + 1 => by
    have ih := H.nm_take i
    by_cases hi : i < L.length
    · rw [List.take_succ_eq_append_getElem hi, List.foldl_append]
      have sp : L = L.take i ++ L[i] :: L.drop (i + 1) := by rw [← List.drop_eq_getElem_cons hi, List.take_append_drop]
      have a1 := H.asc
      have a2 := H.lst
      rw [sp] at a1 a2
      have b1 := (List.pairwise_append.mp a1).2.2
      have b2 := (List.pairwise_append.mp a2).2.2
      exact (ih.step (n := n) (H.le _ (List.getElem_mem hi)).1 (fun q hq => b1 q hq _ (.head _)) (fun q hq => b2 q hq _ (.head _))).1
    · rw [List.take_of_length_le (show L.length ≤ i by omega)] at ih
      rw [List.take_of_length_le (show L.length ≤ i + 1 by omega)]
      exact ih
theorem Lot.nm {n : Nat} {L : List (Nat × Nat)} (H : Lot n L) : Nm L (nm L) := by
  have := H.nm_take L.length
  rwa [List.take_length] at this
section
variable {n : Nat} {L : List (Nat × Nat)} {f : Nat → Nat}
theorem Nm.last (N : Nm L f) {u v : Nat} (h : u < v) (e : f u = f v) : ∃ q ∈ L, q.2 + 1 = v := by
  by_cases hq : ∃ q ∈ L, q.2 + 1 = v
  · exact hq
  · have h1 := N.fix v fun q h1 h2 => hq ⟨q, h1, h2⟩
    have h2 := N.le u
    omega
theorem Nm.root (N : Nm L f) (hl : ∀ p ∈ L, p.1 ≤ p.2) : ∀ z, f (f z) = f z := by
  intro z
  induction z using Nat.strongRecOn with
  | ind z ih =>
    by_cases hq : ∃ q ∈ L, q.2 + 1 = z
    · obtain ⟨q, h1, h2⟩ := hq
      have h3 := N.eq q h1
      rw [h2] at h3
      rw [h3]
      exact ih q.1 (by have := hl q h1; omega)
    · have h1 := N.fix z fun q h1 h2 => hq ⟨q, h1, h2⟩
      rw [h1, h1]
theorem pw_inj {α : Type} {R : α → α → Prop} : ∀ {l : List α}, l.Pairwise R → ∀ a ∈ l, ∀ b ∈ l, ¬ R a b → ¬ R b a → a = b
  | [], _, a, ha, _, _, _, _ => nomatch ha
  | c :: l, h, a, ha, b, hb, n1, n2 => by
    obtain ⟨h1, h2⟩ := List.pairwise_cons.mp h
    rcases List.mem_cons.mp ha with e | ha'
    · subst e
      rcases List.mem_cons.mp hb with e | hb'
      · exact e.symm
      · exact absurd (h1 b hb') n1
    · rcases List.mem_cons.mp hb with e | hb'
      · subst e
        exact absurd (h1 a ha') n2
      · exact pw_inj h2 a ha' b hb' n1 n2
theorem Lot.one_first (H : Lot n L) {p q : Nat × Nat} (hp : p ∈ L) (hq : q ∈ L) (e : p.1 = q.1) : p = q := pw_inj H.asc p hp q hq (by omega) (by omega)
theorem Lot.one_last (H : Lot n L) {p q : Nat × Nat} (hp : p ∈ L) (hq : q ∈ L) (e : p.2 = q.2) : p = q := pw_inj H.lst p hp q hq (fun h => h e) (fun h => h e.symm)
/-- no member of a class stands between a span's ends -/
theorem gap (H : Lot n L) (N : Nm L f) : ∀ v, ∀ q ∈ L, q.2 + 1 = v → ∀ w, q.1 < w → w < v → f w = f v → False := by
  intro v
  induction v using Nat.strongRecOn with
  | ind v ihv =>
    intro q hq hv w
    induction w using Nat.strongRecOn with
    | ind w ihw =>
      intro h1 h2 h3
      have hfv : f v = f q.1 := by rw [← hv]; exact N.eq q hq
      have hle := N.le q.1
      obtain ⟨q', hq', e'⟩ : ∃ q' ∈ L, q'.2 + 1 = w := by
        by_cases h : ∃ q' ∈ L, q'.2 + 1 = w
        · exact h
        · have := N.fix w fun r hr e => h ⟨r, hr, e⟩
          omega
      have hfw : f w = f q'.1 := by rw [← e']; exact N.eq q' hq'
      have hlt := (H.le q' hq').1
      by_cases c1 : q'.1 = q.1
      · have := H.one_first hq' hq c1
        subst this
        omega
      · by_cases c2 : q.1 < q'.1
        · exact ihw q'.1 (by omega) c2 (by omega) (by omega)
        · exact ihv w h2 q' hq' e' q.1 (by omega) (by omega) (by omega)
/-! ### the parting -/
def cls (n : Nat) (f : Nat → Nat) (r : Nat) : List Nat := (List.range (n + 1)).filter fun k => f k == r
def rts (n : Nat) (f : Nat → Nat) : List Nat := (List.range (n + 1)).filter fun k => f k == k
def prt (n : Nat) (f : Nat → Nat) : List (List Nat) := (rts n f).map (cls n f)
def adj : List Nat → List (Nat × Nat)
  | [] => []
  | [_] => []
  | a :: b :: t => (a, b - 1) :: adj (b :: t)
def Ed (P : List (List Nat)) : List (Nat × Nat) := P.flatMap adj
theorem rng_pw (N : Nat) : (List.range N).Pairwise (· < ·) := List.pairwise_lt_range
theorem mem_cls {r k : Nat} : k ∈ cls n f r ↔ k ≤ n ∧ f k = r := by
  unfold cls
  rw [List.mem_filter, List.mem_range]
  simp
  omega
theorem cls_pw (r : Nat) : (cls n f r).Pairwise (· < ·) := (rng_pw _).filter _
theorem mem_rts {r : Nat} : r ∈ rts n f ↔ r ≤ n ∧ f r = r := by
  unfold rts
  rw [List.mem_filter, List.mem_range]
  simp
  omega
theorem rts_pw : (rts n f).Pairwise (· < ·) := (rng_pw _).filter _
theorem adj_iff : ∀ {l : List Nat}, l.Pairwise (· < ·) → ∀ {x y : Nat}, (x, y) ∈ adj l ↔ x ∈ l ∧ y + 1 ∈ l ∧ x < y + 1 ∧ ∀ w ∈ l, ¬ (x < w ∧ w < y + 1)
  | [], _, x, y => by simp [adj]
  | [a], _, x, y => by
    simp only [adj, List.not_mem_nil, List.mem_singleton, false_iff]
    rintro ⟨h1, h2, h3, _⟩
    omega
  | a :: b :: t, h, x, y => by
    obtain ⟨h1, h2⟩ := List.pairwise_cons.mp h
    have ih := adj_iff h2 (x := x) (y := y)
    have hab := h1 b (.head _)
    rw [adj, List.mem_cons, ih]
    constructor
    · rintro (e | ⟨i1, i2, i3, i4⟩)
      · obtain ⟨rfl, rfl⟩ := Prod.mk.inj e
        refine ⟨.head _, .tail _ (by rw [show b - 1 + 1 = b by omega]; exact .head _), by omega, fun w hw => ?_⟩
        rcases List.mem_cons.mp hw with rfl | hw
        · omega
        · rcases List.mem_cons.mp hw with rfl | hw
          · omega
          · have := (List.pairwise_cons.mp h2).1 w hw
            omega
      · refine ⟨.tail _ i1, .tail _ i2, i3, fun w hw => ?_⟩
        rcases List.mem_cons.mp hw with rfl | hw
        · have := h1 x i1
          omega
        · exact i4 w hw
    · rintro ⟨i1, i2, i3, i4⟩
      rcases List.mem_cons.mp i1 with rfl | i1
      · left
        have hb := i4 b (.tail _ (.head _))
        rcases List.mem_cons.mp i2 with e | i2
        · omega
        · rcases List.mem_cons.mp i2 with e | i2
          · rw [← e]; simp
          · have := (List.pairwise_cons.mp h2).1 _ i2
            omega
      · right
        refine ⟨i1, ?_, i3, fun w hw => i4 w (.tail _ hw)⟩
        rcases List.mem_cons.mp i2 with e | i2
        · have := h1 x i1
          omega
        · exact i2
theorem adj_last : ∀ {l : List Nat}, l.Pairwise (· < ·) → (adj l).map (fun p => p.2 + 1) = l.tail
  | [], _ => rfl
  | [a], _ => rfl
  | a :: b :: t, h => by
    obtain ⟨h1, h2⟩ := List.pairwise_cons.mp h
    have hab := h1 b (.head _)
    rw [adj, List.map_cons, adj_last h2]
    show (b - 1 + 1) :: _ = b :: t
    rw [show b - 1 + 1 = b by omega]
    rfl
theorem adj_len : ∀ l : List Nat, (adj l).length = l.length - 1
  | [] => rfl
  | [a] => rfl
  | a :: b :: t => by
    rw [adj, List.length_cons, adj_len (b :: t)]
    simp
/-- what a parting is -/
structure Part (n : Nat) (P : List (List Nat)) : Prop where
  asc : ∀ b ∈ P, b.Pairwise (· < ·) ∧ b ≠ []
  hds : P.Pairwise fun a b => a.headD 0 < b.headD 0
  mem : ∀ k, k ∈ P.flatten ↔ k ≤ n
  nd : P.flatten.Nodup
end
end K73

/-! k73: the parting of a lot; what a parting tells: plain -/
namespace K73
open PySem Nt
section
variable {n : Nat} {L : List (Nat × Nat)} {f : Nat → Nat}
theorem head_least : ∀ {l : List Nat}, l.Pairwise (· < ·) → ∀ {r : Nat}, r ∈ l → (∀ k ∈ l, r ≤ k) → l.headD 0 = r
  | [], _, r, h, _ => nomatch h
  | a :: t, h, r, hr, hl => by
    show a = r
    have h1 := hl a (.head _)
    rcases List.mem_cons.mp hr with e | e
    · exact e.symm
    · have := (List.pairwise_cons.mp h).1 r e
      omega
theorem cls_head (N : Nm L f) {r : Nat} (hr : r ∈ rts n f) : (cls n f r).headD 0 = r := by
  obtain ⟨h1, h2⟩ := mem_rts.mp hr
  refine head_least (cls_pw r) (mem_cls.mpr ⟨h1, h2⟩) fun k hk => ?_
  have h3 := (mem_cls.mp hk).2
  have h4 := N.le k
  omega
theorem prt_part (N : Nm L f) (hl : ∀ p ∈ L, p.1 ≤ p.2) : Part n (prt n f) := by
  refine ⟨fun b hb => ?_, ?_, fun k => ?_, ?_⟩
  · obtain ⟨r, hr, rfl⟩ := List.mem_map.mp hb
    refine ⟨cls_pw r, fun e => ?_⟩
    have : r ∈ cls n f r := mem_cls.mpr (mem_rts.mp hr)
    rw [e] at this
    nomatch this
  · refine List.pairwise_map.mpr (List.Pairwise.imp_of_mem (fun {a b} ha hb h => ?_) rts_pw)
    rw [cls_head N ha, cls_head N hb]
    exact h
  · rw [List.mem_flatten]
    constructor
    · rintro ⟨b, hb, hk⟩
      obtain ⟨r, hr, rfl⟩ := List.mem_map.mp hb
      exact (mem_cls.mp hk).1
    · intro hk
      refine ⟨cls n f (f k), List.mem_map.mpr ⟨f k, mem_rts.mpr ⟨Nat.le_trans (N.le k) hk, N.root hl k⟩, rfl⟩, mem_cls.mpr ⟨hk, rfl⟩⟩
  · unfold List.Nodup
    rw [List.pairwise_flatten]
    refine ⟨fun b hb => ?_, ?_⟩
    · obtain ⟨r, _, rfl⟩ := List.mem_map.mp hb
      exact (cls_pw r).imp fun h => Nat.ne_of_lt h
    · refine List.pairwise_map.mpr (rts_pw.imp fun {a b} h x hx y hy e => ?_)
      have h1 := (mem_cls.mp hx).2
      have h2 := (mem_cls.mp hy).2
      rw [e] at h1
      omega
theorem mem_Ed (P : List (List Nat)) (p : Nat × Nat) : p ∈ Ed P ↔ ∃ b ∈ P, p ∈ adj b := by
  unfold Ed
  rw [List.mem_flatMap]
theorem Ed_lasts {P : List (List Nat)} (h : ∀ b ∈ P, b.Pairwise (· < ·) ∧ b ≠ []) : (Ed P).map (fun p => p.2 + 1) = P.flatMap List.tail := by
  induction P with
  | nil => rfl
  | cons b P ih =>
    unfold Ed at *
    rw [List.flatMap_cons, List.flatMap_cons, List.map_append, ih fun c hc => h c (.tail _ hc), adj_last (h b (.head _)).1]
theorem tails_sub (P : List (List Nat)) : (P.flatMap List.tail).Sublist P.flatten := by
  induction P with
  | nil => exact List.Sublist.refl _
  | cons b P ih =>
    rw [List.flatMap_cons, List.flatten_cons]
    exact (List.tail_sublist b).append ih
theorem Ed_nodup {P : List (List Nat)} (H : Part n P) : (Ed P).Nodup := by
  have h := (tails_sub P).nodup H.nd
  rw [← Ed_lasts H.asc] at h
  exact List.Pairwise.of_map (fun p : Nat × Nat => p.2 + 1) (fun a b hne e => hne (by rw [e])) h
theorem prt_edges (H : Lot n L) (N : Nm L f) : L.Perm (Ed (prt n f)) := by
  have hl : ∀ p ∈ L, p.1 ≤ p.2 := fun p hp => (H.le p hp).1
  have nl : L.Nodup := H.asc.imp fun {a b} h e => by rw [e] at h; omega
  refine (List.perm_ext_iff_of_nodup nl (Ed_nodup (prt_part N hl))).mpr fun p => ?_
  obtain ⟨x, y⟩ := p
  rw [mem_Ed]
  constructor
  · intro hp
    have h1 := H.le _ hp
    have h2 := N.eq _ hp
    simp only at h1 h2
    refine ⟨cls n f (f x), List.mem_map.mpr ⟨f x, mem_rts.mpr ⟨by have := N.le x; omega, N.root hl x⟩, rfl⟩, (adj_iff (cls_pw _)).mpr ⟨mem_cls.mpr ⟨by omega, rfl⟩, mem_cls.mpr ⟨by omega, h2⟩, by omega, fun w hw ⟨w1, w2⟩ => ?_⟩⟩
    exact gap H N (y + 1) (x, y) hp rfl w w1 w2 (by rw [(mem_cls.mp hw).2, h2])
  · rintro ⟨b, hb, hp⟩
    obtain ⟨r, hr, rfl⟩ := List.mem_map.mp hb
    obtain ⟨h1, h2, h3, h4⟩ := (adj_iff (cls_pw _)).mp hp
    have e1 := (mem_cls.mp h1).2
    have e2 := (mem_cls.mp h2).2
    obtain ⟨q, hq, he⟩ := N.last (u := x) (v := y + 1) h3 (by omega)
    have hf := N.eq q hq
    rw [he, e2] at hf
    have hle := H.le q hq
    have hmem : q.1 ∈ cls n f r := mem_cls.mpr ⟨by omega, hf.symm⟩
    have hx : q.1 ≤ x := by
      have := h4 q.1 hmem
      omega
    have hqx : q.1 = x := by
      by_cases hc : q.1 = x
      · exact hc
      · exact absurd (gap H N (y + 1) q hq he x (by omega) h3 (by omega)) (fun h => h)
    have hqy : q.2 = y := by omega
    have : q = (x, y) := Prod.ext hqx hqy
    rw [← this]
    exact hq
theorem part_count {P : List (List Nat)} (H : Part n P) : P.length + (Ed P).length = n + 1 := by
  have key : ∀ P : List (List Nat), (∀ b ∈ P, b ≠ []) → P.length + (Ed P).length = P.flatten.length := by
    intro P
    induction P with
    | nil => intro _; rfl
    | cons b P ih =>
      intro h
      have h1 := ih fun c hc => h c (.tail _ hc)
      have h2 : b.length ≠ 0 := fun e => h b (.head _) (List.length_eq_zero_iff.mp e)
      unfold Ed at *
      rw [List.flatMap_cons, List.flatten_cons, List.length_append, List.length_append, adj_len, List.length_cons]
      omega
  rw [key P fun b hb => (H.asc b hb).2]
  have pm : P.flatten.Perm (List.range (n + 1)) := (List.perm_ext_iff_of_nodup H.nd List.nodup_range).mpr fun k => by
    rw [H.mem, List.mem_range]
    omega
  rw [pm.length_eq, List.length_range]
theorem heads_of {P : List (List Nat)} (H : Part n P) {M : List (Nat × Nat)} (pm : M.Perm (Ed P)) : ((List.range (n + 1)).filter fun k => !decide (k ∈ M.map fun p => p.2 + 1)) = P.map fun b => b.headD 0 := by
  have ml : ∀ k, k ∈ M.map (fun p => p.2 + 1) ↔ k ∈ P.flatMap List.tail := fun k => by
    rw [(pm.map _).mem_iff, Ed_lasts H.asc]
  have pw : (P.map fun b => b.headD 0).Pairwise (· < ·) := List.pairwise_map.mpr H.hds
  have nd := H.nd
  unfold List.Nodup at nd
  rw [List.pairwise_flatten] at nd
  refine eq_of_sortedN (le := fun a b : Nat => a < b) ((List.perm_ext_iff_of_nodup ((rng_pw _).filter _ |>.imp fun h => Nat.ne_of_lt h) (pw.imp fun h => Nat.ne_of_lt h)).mpr fun k => ?_) ((rng_pw _).filter _) pw fun a _ b _ h1 h2 => absurd (Nat.lt_trans h1 h2) (Nat.lt_irrefl _)
  rw [List.mem_filter, List.mem_range, Bool.not_eq_true', decide_eq_false_iff_not, ml, List.mem_map]
  constructor
  · rintro ⟨h1, h2⟩
    obtain ⟨b, hb, hk⟩ := List.mem_flatten.mp ((H.mem k).mpr (by omega))
    refine ⟨b, hb, ?_⟩
    cases b with
    | nil => nomatch hk
    | cons a t =>
      rcases List.mem_cons.mp hk with e | e
      · exact e.symm
      · exact absurd (List.mem_flatMap.mpr ⟨_, hb, e⟩) h2
  · rintro ⟨b, hb, rfl⟩
    obtain ⟨h1, h2⟩ := H.asc b hb
    cases b with
    | nil => exact absurd rfl h2
    | cons a t =>
      show a < n + 1 ∧ a ∉ _
      have ha : a ≤ n := (H.mem a).mp (List.mem_flatten.mpr ⟨_, hb, .head _⟩)
      refine ⟨by omega, fun hm => ?_⟩
      obtain ⟨c, hc, hac⟩ := List.mem_flatMap.mp hm
      -- a in the tail of c: c is the same block, but there a is the head
      by_cases e : c = a :: t
      · subst e
        have := (List.pairwise_cons.mp h1).1 a hac
        omega
      · have hac' : a ∈ c := List.mem_of_mem_tail hac
        have key : ∀ {l : List (List Nat)}, l.Pairwise (fun x y => ∀ u ∈ x, ∀ v ∈ y, u ≠ v) → ∀ x ∈ l, ∀ y ∈ l, x ≠ y → ∀ u, u ∈ x → u ∈ y → False := by
          intro l
          induction l with
          | nil => intro _ x hx; nomatch hx
          | cons z l ih =>
            intro h x hx y hy hne u hu hv
            obtain ⟨g1, g2⟩ := List.pairwise_cons.mp h
            rcases List.mem_cons.mp hx with e1 | hx'
            · rcases List.mem_cons.mp hy with e2 | hy'
              · exact hne (e1.trans e2.symm)
              · exact g1 y hy' u (e1 ▸ hu) u hv rfl
            · rcases List.mem_cons.mp hy with e2 | hy'
              · exact g1 x hx' u (e2 ▸ hv) u hu rfl
              · exact ih g2 x hx' y hy' hne u hu hv
        exact key nd.2 c hc _ hb e a hac' (.head _)
end
end K73

/-! k73: parting_of: the text -/
namespace K73
open PySem Nt L2
theorem kIs_fst {k : Key} {a d e : D} : kIs k (a, d) = kIs k (a, e) := by unfold kIs; rfl
theorem kIs_two {k k' : Key} {p : D × D} (h : kIs k p = true) (h' : kIs k' p = true) : k = k' := by
  unfold kIs at h h'
  simp at h h'
  rw [h] at h'
  exact Option.some.inj h'
theorem look_put (ds : List (D × D)) (k : Key) (d : D) (k' : Key) : lookD (putD ds k d) k' = if k = k' then some d else lookD ds k' := by
  unfold putD
  by_cases h : ds.any (kIs k) = true
  · rw [if_pos h]
    induction ds with
    | nil => simp at h
    | cons p r ih =>
      unfold lookD at ih ⊢
      by_cases hp : kIs k p = true
      · rw [List.map_cons, if_pos hp]
        by_cases he : k = k'
        · subst he
          have : kIs k (p.1, d) = true := by rw [kIs_fst (e := p.2)]; exact hp
          rw [List.find?_cons_of_pos this, if_pos rfl]
          rfl
        · have n1 : ¬ kIs k' p = true := fun z => he (kIs_two hp z)
          have n2 : ¬ kIs k' (p.1, d) = true := by rw [kIs_fst (e := p.2)]; exact n1
          rw [List.find?_cons_of_neg n2, List.find?_cons_of_neg n1]
          by_cases hr : r.any (kIs k) = true
          · exact ih hr
          · rw [if_neg he]
            have : r.map (fun p => if kIs k p then (p.1, d) else p) = r := by
              have : ∀ p ∈ r, (if kIs k p then (p.1, d) else p) = p := by
                intro q hq
                have : ¬ kIs k q = true := fun z => hr (List.any_eq_true.mpr ⟨q, hq, z⟩)
                rw [if_neg this]
              exact (List.map_congr_left this).trans (List.map_id _)
            rw [this]
      · rw [List.map_cons, if_neg hp]
        have hr : r.any (kIs k) = true := by
          rw [List.any_cons] at h
          cases hh : kIs k p with
          | true => exact absurd hh hp
          | false => rw [hh, Bool.false_or] at h; exact h
        by_cases hq : kIs k' p = true
        · have he : k ≠ k' := by
            intro e
            subst e
            exact hp hq
          rw [List.find?_cons_of_pos hq, List.find?_cons_of_pos hq, if_neg he]
        · rw [List.find?_cons_of_neg hq, List.find?_cons_of_neg hq]
          exact ih hr
  · rw [if_neg h]
    unfold lookD
    rw [List.find?_append]
    by_cases he : k = k'
    · subst he
      have : ds.find? (kIs k) = none := by
        rw [List.find?_eq_none]
        intro q hq z
        exact h (List.any_eq_true.mpr ⟨q, hq, z⟩)
      rw [this, if_pos rfl]
      have : kIs k (kD k, d) = true := by unfold kIs; simp [kO_kD]
      simp [this]
    · rw [if_neg he]
      have : kIs k' (kD k, d) = false := by unfold kIs; simp [kO_kD, he]
      simp [this]
def kv (p : Nat × Nat) : Key × D := (.inl (p.1 : Nat), .int ((p.2 : Nat) + 1))
theorem look_pairs : ∀ (M : List (Nat × Nat)) (ds : List (D × D)) (k : Nat), M.Pairwise (fun p q => p.1 ≠ q.1) →
    lookD (mergeD ds (M.map kv)) (.inl (k : Nat)) = match M.find? (fun p => p.1 == k) with
      | some p => some (.int ((p.2 : Nat) + 1))
      | none => lookD ds (.inl (k : Nat))
  | [], ds, k, _ => rfl
  | p :: M, ds, k, h => by
    obtain ⟨h1, h2⟩ := List.pairwise_cons.mp h
    have ih := look_pairs M (putD ds (.inl (p.1 : Nat)) (.int ((p.2 : Nat) + 1))) k h2
    have e0 : mergeD ds ((p :: M).map kv) = mergeD (putD ds (.inl (p.1 : Nat)) (.int ((p.2 : Nat) + 1))) (M.map kv) := rfl
    rw [e0, ih, look_put]
    by_cases hk : p.1 = k
    · have hn : M.find? (fun p => p.1 == k) = none := by
        rw [List.find?_eq_none]
        intro q hq e
        have : q.1 = k := by simpa using e
        exact h1 q hq (by omega)
      have hs : (p :: M).find? (fun p => p.1 == k) = some p := by rw [List.find?_cons_of_pos (by simpa using hk)]
      rw [hn, hs, if_pos (by rw [hk])]
    · have hs : (p :: M).find? (fun p => p.1 == k) = M.find? (fun p => p.1 == k) := by rw [List.find?_cons_of_neg (by simpa using hk)]
      rw [hs]
      cases M.find? (fun p => p.1 == k) with
      | some q => rfl
      | none =>
        show (if (Sum.inl ((p.1 : Nat) : Int) : Key) = Sum.inl ((k : Nat) : Int) then _ else _) = _
        rw [if_neg (fun e => by
          have := Sum.inl.inj e
          omega)]
def dctD (M : List (Nat × Nat)) : D := .dict (mergeD [] (M.map kv))
theorem pairs_ev (M : List (Nat × Nat)) : pairsD (M.map fun p => PyData.tuple [.int (p.1 : Nat), .int ((p.2 : Nat) + 1)]) = some (M.map kv) := by
  induction M with
  | nil => rfl
  | cons p M ih =>
    rw [List.map_cons, List.map_cons]
    unfold pairsD
    rw [ih]
    rfl
theorem dict_ev (M : List (Nat × Nat)) : dDict [.list (M.map fun p => PyData.tuple [.int (p.1 : Nat), .int ((p.2 : Nat) + 1)])] = some (dctD M) := by
  show (pairsD _).map _ = _
  rw [pairs_ev]
  rfl
/-! ### what follows what -/
theorem Ed_firsts (P : List (List Nat)) : (Ed P).map (·.1) = P.flatMap List.dropLast := by
  have key : ∀ l : List Nat, (adj l).map (·.1) = l.dropLast := by
    intro l
    induction l with
    | nil => rfl
    | cons a t ih =>
      cases t with
      | nil => rfl
      | cons b t => rw [adj, List.map_cons, ih]; rfl
  induction P with
  | nil => rfl
  | cons b P ih =>
    unfold Ed at *
    rw [List.flatMap_cons, List.flatMap_cons, List.map_append, ih, key]
theorem drop_last : ∀ {b : List Nat}, b ≠ [] → b = b.dropLast ++ [b.getLastD 0]
  | [], h => absurd rfl h
  | [a], _ => rfl
  | a :: b :: t, _ => by
    have ih := drop_last (b := b :: t) (by simp)
    show a :: (b :: t) = a :: ((b :: t).dropLast ++ [(b :: t).getLastD 0])
    rw [← ih]
theorem fl_perm : ∀ {P : List (List Nat)}, (∀ b ∈ P, b ≠ []) → P.flatten.Perm (P.flatMap List.dropLast ++ P.map fun b => b.getLastD 0)
  | [], _ => List.Perm.refl _
  | b :: P, h => by
    have ih := fl_perm fun c hc => h c (.tail _ hc)
    have e : b = b.dropLast ++ [b.getLastD 0] := drop_last (h b (.head _))
    rw [List.flatten_cons, List.flatMap_cons, List.map_cons]
    conv => lhs; rw [e]
    rw [List.append_assoc, List.append_assoc]
    refine List.Perm.append_left _ ?_
    refine (List.Perm.append_left _ ih).trans ?_
    rw [← List.append_assoc]
    refine (List.Perm.append_right _ List.perm_append_comm).trans ?_
    rw [List.append_assoc]
    exact List.Perm.refl _
section
variable {n : Nat} {P : List (List Nat)} {M : List (Nat × Nat)}
theorem firsts_nd (H : Part n P) : (Ed P).Pairwise fun p q => p.1 ≠ q.1 := by
  have h := (fl_perm fun b hb => (H.asc b hb).2).nodup_iff.mp H.nd
  have h2 := (List.nodup_append.mp h).1
  rw [← Ed_firsts] at h2
  exact List.pairwise_map.mp h2
theorem perm_pw {α : Type} {R : α → α → Prop} (sy : ∀ a b, R a b → R b a) {l m : List α} (h : l.Perm m) (p : m.Pairwise R) : l.Pairwise R := (h.pairwise_iff (fun {a b} => sy a b)).mpr p
theorem next_in (H : Part n P) (pm : M.Perm (Ed P)) {b : List Nat} (hb : b ∈ P) {j : Nat} (hj : j + 1 < b.length) : lookD (mergeD [] (M.map kv)) (.inl ((b[j]'(by omega) : Nat) : Int)) = some (.int ((b[j + 1] : Nat))) := by
  have nd : M.Pairwise fun p q => p.1 ≠ q.1 := perm_pw (fun _ _ h e => h e.symm) pm (firsts_nd H)
  rw [look_pairs M [] _ nd]
  have asc := (H.asc b hb).1
  have hlt : b[j]'(by omega) < b[j + 1] := List.pairwise_iff_getElem.mp asc j (j + 1) (by omega) hj (by omega)
  have hm : (b[j]'(by omega), b[j + 1] - 1) ∈ M := by
    rw [pm.mem_iff, mem_Ed]
    refine ⟨b, hb, (adj_iff asc).mpr ⟨List.getElem_mem _, by rw [show b[j + 1] - 1 + 1 = b[j + 1] by omega]; exact List.getElem_mem _, by omega, fun w hw ⟨w1, w2⟩ => ?_⟩⟩
    obtain ⟨i, hi, rfl⟩ := List.getElem_of_mem hw
    have c1 : j < i := by
      by_cases c : j < i
      · exact c
      · by_cases e : i = j
        · subst e; omega
        · have := List.pairwise_iff_getElem.mp asc i j hi (by omega) (by omega)
          omega
    by_cases e : i = j + 1
    · subst e; omega
    · have := List.pairwise_iff_getElem.mp asc (j + 1) i hj hi (by omega)
      omega
  cases hf : M.find? (fun p => p.1 == b[j]'(by omega)) with
  | none =>
    have := List.find?_eq_none.mp hf _ hm
    simp at this
  | some q =>
    have hq := List.mem_of_find?_eq_some hf
    have hq1 : q.1 = b[j]'(by omega) := by simpa using List.find?_some hf
    have : q = (b[j]'(by omega), b[j + 1] - 1) := by
      by_cases e : q = (b[j]'(by omega), b[j + 1] - 1)
      · exact e
      · exact pw_inj nd q hq _ hm (fun h => h hq1) (fun h => h hq1.symm)
    rw [this]
    show some (PyData.int (((b[j + 1] - 1 : Nat) : Int) + 1)) = _
    congr 2
    omega
theorem next_out (H : Part n P) (pm : M.Perm (Ed P)) {b : List Nat} (hb : b ∈ P) : lookD (mergeD [] (M.map kv)) (.inl ((b.getLastD 0 : Nat) : Int)) = none := by
  have nd : M.Pairwise fun p q => p.1 ≠ q.1 := perm_pw (fun _ _ h e => h e.symm) pm (firsts_nd H)
  rw [look_pairs M [] _ nd]
  have h := (fl_perm fun b hb => (H.asc b hb).2).nodup_iff.mp H.nd
  have h3 := (List.nodup_append.mp h).2.2
  have hn : M.find? (fun p => p.1 == b.getLastD 0) = none := by
    rw [List.find?_eq_none]
    intro q hq e
    have hq1 : q.1 = b.getLastD 0 := by simpa using e
    have hq2 : q.1 ∈ P.flatMap List.dropLast := by
      rw [← Ed_firsts]
      exact List.mem_map.mpr ⟨q, pm.mem_iff.mp hq, rfl⟩
    exact h3 q.1 hq2 _ (List.mem_map.mpr ⟨b, hb, rfl⟩) hq1
  rw [hn]
  rfl
end
end K73

/-! k73: parting_of: the text -/
namespace K73
open PySem Nt L2
def bi (l : List Nat) : List D := l.map fun k => .int (k : Nat)
theorem bi_app (a b : List Nat) : bi (a ++ b) = bi a ++ bi b := List.map_append
section
variable {n : Nat} {P : List (List Nat)} {M : List (Nat × Nat)}
theorem q2_ev (W : List (D × D)) (l : List Nat) (z : Nat) (x0 x1 x3 x4 x5 x6 x7 : Sl) : q2_parting_of [x0, x1, .sh (.dict W), x3, x4, x5, x6, x7, .ow 1 (.list (bi (l ++ [z])))] = some ((lookD W (.inl (z : Nat))).isSome, [x0, x1, .sh (.dict W), x3, x4, x5, x6, x7, .ow 1 (.list (bi (l ++ [z])))]) := by
  have dn : dNeg (.int 1) = some (.int (-1)) := rfl
  have ga : dGetX (.list (bi (l ++ [z]))) (.int (-1)) = some (.int (z : Nat)) := by
    show atI (bi (l ++ [z])) (-1) = _
    rw [bi_app]
    exact at_last _ _
  generalize bi (l ++ [z]) = B at *
  cases hl : (lookD W (.inl ((z : Nat) : Int))).isSome <;> simp [q2_parting_of, dn, ga, hl]
theorem l1_ev (W : List (D × D)) (l : List Nat) (z y : Nat) (hl : l.length ≤ 1000) (hw : lookD W (.inl (z : Nat)) = some (.int (y : Nat))) (x0 x1 x3 x4 x5 x6 x7 : Sl) : l1_parting_of [x0, x1, .sh (.dict W), x3, x4, x5, x6, x7, .ow 1 (.list (bi (l ++ [z])))] = some (.nx [x0, x1, .sh (.dict W), x3, x4, x5, x6, x7, .ow 1 (.list (bi (l ++ [z] ++ [y])))]) := by
  have dn : dNeg (.int 1) = some (.int (-1)) := rfl
  have ga : dGetX (.list (bi (l ++ [z]))) (.int (-1)) = some (.int (z : Nat)) := by
    show atI (bi (l ++ [z])) (-1) = _
    rw [bi_app]
    exact at_last _ _
  have e : bi (l ++ [z] ++ [y]) = bi (l ++ [z]) ++ [.int (y : Nat)] := bi_app _ _
  have bl : (bi (l ++ [z])).length < 16777216 := by
    unfold bi
    rw [List.length_map, List.length_append, List.length_singleton]
    omega
  rw [e]
  generalize bi (l ++ [z]) = B at *
  simp [l1_parting_of, dn, ga, hw, bl]
theorem chain_while (H : Part n P) (pm : M.Perm (Ed P)) {b : List Nat} (hb : b ∈ P) (hlen : b.length ≤ 1000) (x0 x1 x3 x4 x5 x6 x7 : Sl) : ∀ (d j fuel : Nat) (hj : j + 1 + d = b.length), d < fuel →
    whD q2_parting_of l1_parting_of fuel [x0, x1, .sh (dctD M), x3, x4, x5, x6, x7, .ow 1 (.list (bi (b.take (j + 1))))] = some (.nx [x0, x1, .sh (dctD M), x3, x4, x5, x6, x7, .ow 1 (.list (bi b))])
  | _, _, 0, _, h => by omega
  | 0, j, fuel + 1, hj, _ => by
    have h2 := (H.asc b hb).2
    rw [List.take_of_length_le (by omega)]
    have e := drop_last h2
    have no := next_out H pm hb
    unfold dctD
    conv => lhs; rw [e]
    rw [whD_succ, q2_ev, no, ob_some]
    show br false _ _ = _
    rw [br_false, ← e]
  | d + 1, j, fuel + 1, hj, hf => by
    have hjl : j < b.length := by omega
    have t1 : b.take (j + 1) = b.take j ++ [b[j]] := List.take_succ_eq_append_getElem hjl
    have t2 : b.take (j + 1 + 1) = b.take j ++ [b[j]] ++ [b[j + 1]'(by omega)] := by rw [List.take_succ_eq_append_getElem (by omega : j + 1 < b.length), t1]
    have nx := next_in H pm hb (j := j) (by omega)
    have ih := chain_while H pm hb hlen x0 x1 x3 x4 x5 x6 x7 d (j + 1) fuel (by omega) (by omega)
    rw [t2] at ih
    unfold dctD at *
    rw [t1, whD_succ, q2_ev, nx, ob_some]
    show br true _ _ = _
    rw [br_true, l1_ev _ _ _ _ (by rw [List.length_take]; omega) nx, lp_nx]
    exact ih
theorem in_lst (neg : Bool) (c : Int) (l : List Int) : dInT neg (.int c) (.list (l.map PyData.int)) = some (.bool (if neg then !decide (c ∈ l) else decide (c ∈ l))) := in_tup neg c l
theorem mem_nb {k : Nat} {l : List Nat} : ((k : Nat) : Int) ∈ nb l ↔ k ∈ l := by
  unfold nb
  rw [List.mem_map]
  constructor
  · rintro ⟨x, hx, e⟩
    have : x = k := by omega
    rw [← this]; exact hx
  · intro h
    exact ⟨k, h, rfl⟩
theorem blk_len : ∀ {P : List (List Nat)} {b : List Nat}, b ∈ P → b.length ≤ P.flatten.length
  | c :: P, b, h => by
    rw [List.flatten_cons, List.length_append]
    rcases List.mem_cons.mp h with e | h
    · rw [e]; omega
    · have := blk_len h
      omega
theorem fl_len (H : Part n P) : P.flatten.length = n + 1 := by
  have pm : P.flatten.Perm (List.range (n + 1)) := (List.perm_ext_iff_of_nodup H.nd List.nodup_range).mpr fun k => by
    rw [H.mem, List.mem_range]
    omega
  rw [pm.length_eq, List.length_range]
theorem prD_0 (p : Nat × Nat) : dGetX (prD p) (.int 0) = some (.int (p.1 : Nat)) := by
  show atI [PyData.int (p.1 : Nat), .int (p.2 : Nat)] 0 = _
  exact atI_0 _ _
theorem prD_1 (p : Nat × Nat) : dGetX (prD p) (.int 1) = some (.int (p.2 : Nat)) := by
  show atI [PyData.int (p.1 : Nat), .int (p.2 : Nat)] 1 = _
  exact atI_1 _ _ _
theorem blocks_le (H : Part n P) : P.length ≤ n + 1 := by
  have := part_count H
  omega
theorem block_step (H : Part n P) (pm : M.Perm (Ed P)) (hn : n ≤ 100) {b : List Nat} (hb : b ∈ P) {F : List D} (hF : F.length ≤ 1000) (x0 x1 x3 x4 x7 x8 : Sl) :
    l2_parting_of [x0, x1, .sh (dctD M), x3, x4, .ow 1 (.list F), .sh (.int (b.headD 0 : Nat)), x7, x8] = some (.nx [x0, x1, .sh (dctD M), x3, x4, .ow 1 (.list (F ++ [blD b])), .sh (.int (b.headD 0 : Nat)), x7, .ow 1 (.list (bi b))]) := by
  have hlen : b.length ≤ 1000 := by
    have := blk_len hb
    rw [fl_len H] at this
    omega
  have h2 := (H.asc b hb).2
  have hl0 : b.length ≠ 0 := fun e => h2 (List.length_eq_zero_iff.mp e)
  have cw := chain_while H pm hb hlen x0 x1 x3 x4 (.ow 1 (.list F)) (.sh (.int (b.headD 0 : Nat))) x7 (b.length - 1) 0 10000 (by omega) (by omega)
  have t1 : bi (b.take (0 + 1)) = [.int (b.headD 0 : Nat)] := by
    cases b with
    | nil => exact absurd rfl h2
    | cons a t => rfl
  rw [t1] at cw
  have fu : ∀ ρ, fuel_parting_of ρ = 10000 := fun _ => rfl
  have bd : blD b = .tuple (bi b) := rfl
  have hF2 : F.length < 16777216 := by omega
  rw [bd]
  unfold l2_parting_of
  generalize bi b = B at *
  generalize dctD M = DD at *
  generalize ((b.headD 0 : Nat) : Int) = h at *
  simp [fu, cw, hF2]
theorem parting_ok (H : Part n P) (pm : M.Perm (Ed P)) (hn : n ≤ 100) : F_parting_of [.int (n : Nat), ltD M] = some (.tuple (P.map blD)) := by
  have ml : M.length ≤ 1000 := by
    have := part_count H
    rw [pm.length_eq]
    omega
  have c2 := comp_map (set := fName 3) (tst := mYes) (el := e2_parting_of) (vs := [3]) (ρ0 := [.sh (.int (n : Nat)), .sh (ltD M), .un, .un, .un, .un, .un, .un, .un])
    prD (fun p => PyData.tuple [.int (p.1 : Nat), .int ((p.2 : Nat) + 1)]) M [.sh (.int (n : Nat)), .sh (ltD M), .un, .un, .un, .un, .un, .un, .un] (by simp [forget]) (fun p hp => by
      have g0 := prD_0 p
      have g1 := prD_1 p
      generalize prD p = d at *
      generalize ltD M = LL at *
      refine ⟨[.sh (.int (n : Nat)), .sh LL, .un, .sh d, .un, .un, .un, .un, .un], [.sh (.int (n : Nat)), .sh LL, .un, .sh d, .un, .un, .un, .un, .un], by simp, by simp, ?_, by simp [forget]⟩
      simp [e2_parting_of, g0, g1])
  have c3 := comp_map (set := fName 3) (tst := mYes) (el := e3_parting_of) (vs := [3]) (ρ0 := [.sh (.int (n : Nat)), .sh (ltD M), .sh (dctD M), .un, .un, .un, .un, .un, .un])
    prD (fun p => PyData.int ((p.2 : Nat) + 1)) M [.sh (.int (n : Nat)), .sh (ltD M), .sh (dctD M), .un, .un, .un, .un, .un, .un] (by simp [forget]) (fun p hp => by
      have g1 := prD_1 p
      generalize prD p = d at *
      generalize ltD M = LL at *
      generalize dctD M = DD at *
      refine ⟨[.sh (.int (n : Nat)), .sh LL, .sh DD, .sh d, .un, .un, .un, .un, .un], [.sh (.int (n : Nat)), .sh LL, .sh DD, .sh d, .un, .un, .un, .un, .un], by simp, by simp, ?_, by simp [forget]⟩
      simp [e3_parting_of, g1])
  have hla : M.map (fun p => PyData.int ((p.2 : Nat) + 1)) = (nb (M.map fun p => p.2 + 1)).map PyData.int := by
    unfold nb
    rw [List.map_map, List.map_map]
    exact List.map_congr_left fun p _ => rfl
  rw [hla] at c3
  have c4 := comp_flt (set := fName 7) (tst := q1_parting_of) (el := e4_parting_of) (vs := [7]) (ρ0 := [.sh (.int (n : Nat)), .sh (ltD M), .sh (dctD M), .un, .sh (.list ((nb (M.map fun p => p.2 + 1)).map PyData.int)), .ow 1 (.list []), .un, .un, .un])
    (fun k => PyData.int ((k : Nat) : Int)) (fun k => PyData.int ((k : Nat) : Int)) (fun k => !decide (k ∈ M.map fun p => p.2 + 1)) (List.range (n + 1)) [.sh (.int (n : Nat)), .sh (ltD M), .sh (dctD M), .un, .sh (.list ((nb (M.map fun p => p.2 + 1)).map PyData.int)), .ow 1 (.list []), .un, .un, .un] (by simp [forget]) (fun k hk => by
      have hin := in_lst true ((k : Nat) : Int) (nb (M.map fun p => p.2 + 1))
      have hdec : decide (((k : Nat) : Int) ∈ nb (M.map fun p => p.2 + 1)) = decide (k ∈ M.map fun p => p.2 + 1) := decide_eq_decide.mpr mem_nb
      rw [hdec] at hin
      simp only [if_true] at hin
      generalize (nb (M.map fun p => p.2 + 1)).map PyData.int = W at *
      generalize ltD M = LL at *
      generalize dctD M = DD at *
      refine ⟨[.sh (.int (n : Nat)), .sh LL, .sh DD, .un, .sh (.list W), .ow 1 (.list []), .un, .sh (.int (k : Nat)), .un], [.sh (.int (n : Nat)), .sh LL, .sh DD, .un, .sh (.list W), .ow 1 (.list []), .un, .sh (.int (k : Nat)), .un], by simp, ?_, ?_⟩
      · generalize (!decide (k ∈ M.map fun p => p.2 + 1)) = q at *
        simp [q1_parting_of, hin]
      · cases hb : (!decide (k ∈ M.map fun p => p.2 + 1)) with
        | false => exact .inl ⟨rfl, by simp [forget]⟩
        | true => exact .inr ⟨rfl, [.sh (.int (n : Nat)), .sh LL, .sh DD, .un, .sh (.list W), .ow 1 (.list []), .un, .sh (.int (k : Nat)), .un], by simp [e4_parting_of], by simp [forget]⟩)
  rw [heads_of H pm, ← range_nI] at c4
  have loop := forD_inv (set := fName 6) (body := l2_parting_of) ((P.map fun b => b.headD 0).map fun k => PyData.int ((k : Nat) : Int))
    (fun i ρ => ∃ x6 x8, ρ = [.sh (.int (n : Nat)), .sh (ltD M), .sh (dctD M), .un, .sh (.list ((nb (M.map fun p => p.2 + 1)).map PyData.int)), .ow 1 (.list ((P.take i).map blD)), x6, .un, x8])
    [.sh (.int (n : Nat)), .sh (ltD M), .sh (dctD M), .un, .sh (.list ((nb (M.map fun p => p.2 + 1)).map PyData.int)), .ow 1 (.list []), .un, .un, .un] ?_ ⟨.un, .un, rfl⟩
  · obtain ⟨ρ', e, x6, x8, rfl⟩ := loop
    rw [List.length_map, List.length_map, List.take_length] at e
    have de := dict_ev M
    have cr : cRng (((n : Nat) : Int) + 1) = true := cRng_of (by omega) (by omega)
    have rl : (rangeD 0 (n + 1)).length ≤ 16777216 := by rw [rangeD_len]; omega
    have tn : (((n : Nat) : Int) + 1).toNat = n + 1 := by omega
    have ml2 : (M.map prD).length ≤ 16777216 := by rw [List.length_map]; omega
    unfold F_parting_of g_parting_of
    rw [runF_ev]
    unfold ltD at *
    generalize M.map prD = LL at *
    generalize (M.map fun p => PyData.tuple [.int (p.1 : Nat), .int ((p.2 : Nat) + 1)]) = PP at *
    generalize (nb (M.map fun p => p.2 + 1)).map PyData.int = W at *
    generalize (P.map fun b => b.headD 0).map (fun k => PyData.int ((k : Nat) : Int)) = HH at *
    generalize P.map blD = BB at *
    generalize dctD M = DD at *
    simp [ml2, c2, de, c3, cr, rl, tn, c4, e, okOwn, back, forget]
  · rintro i d ρ hd ⟨x6, x8, rfl⟩
    rw [List.getElem?_map, List.getElem?_map, Option.map_map] at hd
    obtain ⟨b, hb, rfl⟩ := Option.map_eq_some_iff.mp hd
    have hbm := List.mem_of_getElem? hb
    have pl := blocks_le H
    have st := block_step H pm hn hbm (F := (P.take i).map blD) (by rw [List.length_map, List.length_take]; omega) (.sh (.int (n : Nat))) (.sh (ltD M)) .un (.sh (.list ((nb (M.map fun p => p.2 + 1)).map PyData.int))) .un x8
    refine ⟨[.sh (.int (n : Nat)), .sh (ltD M), .sh (dctD M), .un, .sh (.list ((nb (M.map fun p => p.2 + 1)).map PyData.int)), .ow 1 (.list ((P.take i).map blD)), .sh (.int (b.headD 0 : Nat)), .un, x8], _, by simp, .inl st, .sh (.int (b.headD 0 : Nat)), .ow 1 (.list (bi b)), ?_⟩
    have ht : P.take (i + 1) = P.take i ++ [b] := by
      obtain ⟨hlt, hxx⟩ := List.getElem?_eq_some_iff.mp hb
      rw [List.take_succ_eq_append_getElem hlt, hxx]
    rw [ht, List.map_append]
    rfl
end
end K73

/-! k73: lots in order; lot_of_parting, _law_lot_of: the text -/
namespace K73
open PySem Nt L2
/-! ### pairs in order -/
def pI (p : Nat × Nat) : List Int := [(p.1 : Int), (p.2 : Int)]
theorem prD_map (A : List (Nat × Nat)) : A.map prD = (A.map pI).map tuN := by rw [List.map_map]; rfl
theorem okSort_prs (A : List (Nat × Nat)) : okSortE (A.map prD) = true := by rw [prD_map]; exact okSortE_ints _
def srP (A : List (Nat × Nat)) : D := .tuple (dSortedR false (A.map prD))
theorem srP_perm {A B : List (Nat × Nat)} (h : A.Perm B) : srP A = srP B := by
  unfold srP
  rw [prD_map, prD_map, srtN_perm (h.map pI)]
theorem srP_back (A : List (Nat × Nat)) : ∃ T : List (Nat × Nat), srP A = ltD T ∧ T.Perm A := by
  obtain ⟨T, e, p⟩ := perm_mapN prD (srtR_perm false (A.map prD)) A rfl
  exact ⟨T, by unfold srP ltD; rw [e], p⟩
theorem pI_le {p q : Nat × Nat} (h : p.1 < q.1) : pI p ≤ pI q := by
  unfold pI
  refine List.not_lt.mp fun hc => ?_
  rw [List.cons_lt_cons_iff] at hc
  rcases hc with hc | hc <;> omega
theorem srP_self {L : List (Nat × Nat)} (h : L.Pairwise fun p q => p.1 < q.1) : srP L = ltD L := by
  unfold srP ltD
  congr 1
  refine List.mergeSort_of_pairwise (List.pairwise_map.mpr (h.imp fun {p q} hpq => ?_))
  show PySem.W.dataLe false id (tuN (pI p)) (tuN (pI q)) = true
  rw [le_tuN, decide_eq_true_eq]
  exact pI_le hpq
/-! ### what a parting tells -/
theorem zip_adj : ∀ {b : List Nat}, b.Pairwise (· < ·) → zipD (bi b) ((bi b).drop 1) = (adj b).map fun p => .tuple [.int (p.1 : Nat), .int ((p.2 : Nat) + 1)]
  | [], _ => rfl
  | [a], _ => rfl
  | a :: b :: t, h => by
    obtain ⟨h1, h2⟩ := List.pairwise_cons.mp h
    have ih := zip_adj h2
    have hab := h1 b (.head _)
    rw [adj, List.map_cons, ← ih]
    show PyData.tuple [.int (a : Nat), .int (b : Nat)] :: zipD (bi (b :: t)) (bi t) = PyData.tuple [.int (a : Nat), .int (((b - 1 : Nat) : Int) + 1)] :: zipD (bi (b :: t)) (bi t)
    have : (((b - 1 : Nat) : Int) + 1) = (b : Nat) := by omega
    rw [this]
theorem idx_adj : ∀ {b : List Nat}, ((List.range (b.length - 1)).map fun k => prD (b.getD k 0, b.getD (k + 1) 0 - 1)) = (adj b).map prD
  | [] => rfl
  | [a] => rfl
  | a :: b :: t => by
    have ih := idx_adj (b := b :: t)
    rw [adj, List.map_cons, ← ih]
    show (List.range (t.length + 1)).map _ = _
    rw [List.range_succ_eq_map, List.map_cons, List.map_map]
    rfl
section
variable {n : Nat} {P : List (List Nat)}
theorem edges_take (i : Nat) {b : List Nat} (hb : P[i]? = some b) : Ed (P.take (i + 1)) = Ed (P.take i) ++ adj b := by
  have ht : P.take (i + 1) = P.take i ++ [b] := by
    obtain ⟨hlt, hxx⟩ := List.getElem?_eq_some_iff.mp hb
    rw [List.take_succ_eq_append_getElem hlt, hxx]
  rw [ht]
  unfold Ed
  rw [List.flatMap_append]
  simp
theorem Ed_le (P : List (List Nat)) : (Ed P).length ≤ P.flatten.length := by
  induction P with
  | nil => exact Nat.le_refl _
  | cons b P ih =>
    unfold Ed at *
    rw [List.flatMap_cons, List.flatten_cons, List.length_append, List.length_append, adj_len]
    omega
theorem take_le (P : List (List Nat)) (i : Nat) : (P.take i).flatten.length ≤ P.flatten.length := by
  conv => rhs; rw [← List.take_append_drop i P, List.flatten_append, List.length_append]
  omega
theorem lot_of_parting_ok (asc : ∀ b ∈ P, b.Pairwise (· < ·)) (hl : P.flatten.length ≤ 1000) (x0 : D) : F_lot_of_parting [x0, .tuple (P.map blD)] = some (srP (Ed P)) := by
  have loop := forD_inv (set := fName 3) (body := l1_lot_of_parting) (P.map blD)
    (fun i ρ => ∃ x3, ρ = [.sh x0, .sh (.tuple (P.map blD)), .sh (.list ((Ed (P.take i)).map prD)), x3, .un, .un])
    [.sh x0, .sh (.tuple (P.map blD)), .sh (.list []), .un, .un, .un] ?_ ⟨.un, rfl⟩
  · obtain ⟨ρ', e, x3, rfl⟩ := loop
    rw [List.length_map, List.take_length] at e
    have so := dSortedE_l (b := false) (okSort_prs (Ed P))
    unfold F_lot_of_parting g_lot_of_parting srP
    rw [runF_ev]
    generalize dSortedR false ((Ed P).map prD) = S at *
    generalize (Ed P).map prD = W at *
    generalize P.map blD = BB at *
    simp [e, so]
  · rintro i d ρ hd ⟨x3, rfl⟩
    rw [List.getElem?_map] at hd
    obtain ⟨b, hb, rfl⟩ := Option.map_eq_some_iff.mp hd
    have hbm := List.mem_of_getElem? hb
    have za := zip_adj (asc b hbm)
    have bl := blk_len hbm
    have el := Ed_le (P.take i)
    have tl := take_le P i
    have al := adj_len b
    obtain ⟨fd, hfd⟩ : ∃ fd, (Ed (P.take i)).map prD = fd := ⟨_, rfl⟩
    have cc := comp_map (set := fSeq 2 (fCons (fName 4) (fCons (fName 5) fNil))) (tst := mYes) (el := e2_lot_of_parting) (vs := [4, 5]) (ρ0 := [.sh x0, .sh (.tuple (P.map blD)), .sh (.list fd), .sh (blD b), .un, .un])
      (fun p => PyData.tuple [.int (p.1 : Nat), .int ((p.2 : Nat) + 1)]) prD (adj b) [.sh x0, .sh (.tuple (P.map blD)), .sh (.list fd), .sh (blD b), .un, .un] (by simp [forget]) (fun p hp => by
        have h1 : ((p.2 : Nat) : Int) + 1 - 1 = (p.2 : Nat) := by omega
        generalize P.map blD = BB at *
        generalize blD b = bb at *
        refine ⟨[.sh x0, .sh (.tuple BB), .sh (.list fd), .sh bb, .sh (.int (p.1 : Nat)), .sh (.int ((p.2 : Nat) + 1))], [.sh x0, .sh (.tuple BB), .sh (.list fd), .sh bb, .sh (.int (p.1 : Nat)), .sh (.int ((p.2 : Nat) + 1))], by simp, by simp, ?_, by simp [forget]⟩
        unfold prD
        simp [e2_lot_of_parting, h1])
    refine ⟨[.sh x0, .sh (.tuple (P.map blD)), .sh (.list fd), .sh (blD b), .un, .un], [.sh x0, .sh (.tuple (P.map blD)), .sh (.list (fd ++ (adj b).map prD)), .sh (blD b), .un, .un], by rw [← hfd]; simp, .inl ?_, .sh (blD b), ?_⟩
    · have bd : blD b = .tuple (bi b) := rfl
      have ct := cut_from (bi b) (r := 1) (by decide)
      have t1 : (1 : Int).toNat = 1 := rfl
      rw [t1] at ct
      have l1 : ((adj b).map fun p => PyData.tuple [.int (p.1 : Nat), .int ((p.2 : Nat) + 1)]).length ≤ 16777216 := by rw [List.length_map]; omega
      have l2 : fd.length + ((adj b).map prD).length ≤ 16777216 := by rw [← hfd, List.length_map, List.length_map]; omega
      rw [bd] at cc ⊢
      unfold l1_lot_of_parting
      generalize (adj b).map prD = A1 at *
      generalize ((adj b).map fun p => PyData.tuple [.int (p.1 : Nat), .int ((p.2 : Nat) + 1)]) = A2 at *
      generalize P.map blD = BB at *
      generalize (bi b).drop 1 = B1 at *
      generalize bi b = B at *
      simp [ct, za, l1, l2, cc, okOwn, back, forget]
    · rw [edges_take i hb, List.map_append, hfd]
theorem bl_at {b : List Nat} {k : Nat} (h : k < b.length) : dGetX (blD b) (.int (k : Nat)) = some (.int (b.getD k 0 : Nat)) := by
  show atI (bi b) _ = _
  have hl : (bi b).length = b.length := List.length_map _
  rw [atI_nat _ _ (by rw [hl]; exact h)]
  unfold bi
  rw [List.getElem_map, List.getD_eq_getElem?_getD, List.getElem?_eq_getElem h]
  rfl
theorem law_lot_of_ok (asc : ∀ b ∈ P, b.Pairwise (· < ·)) (hl : P.flatten.length ≤ 1000) : F__law_lot_of [.tuple (P.map blD)] = some (srP (Ed P)) := by
  have loop := forD_inv (set := fName 2) (body := l1__law_lot_of) (P.map blD)
    (fun i ρ => ∃ x2, ρ = [.sh (.tuple (P.map blD)), .sh (.list ((Ed (P.take i)).map prD)), x2, .un])
    [.sh (.tuple (P.map blD)), .sh (.list []), .un, .un] ?_ ⟨.un, rfl⟩
  · obtain ⟨ρ', e, x2, rfl⟩ := loop
    rw [List.length_map, List.take_length] at e
    have so := dSortedE_l (b := false) (okSort_prs (Ed P))
    unfold F__law_lot_of g__law_lot_of srP
    rw [runF_ev]
    generalize dSortedR false ((Ed P).map prD) = S at *
    generalize (Ed P).map prD = W at *
    generalize P.map blD = BB at *
    simp [e, so]
  · rintro i d ρ hd ⟨x2, rfl⟩
    rw [List.getElem?_map] at hd
    obtain ⟨b, hb, rfl⟩ := Option.map_eq_some_iff.mp hd
    have hbm := List.mem_of_getElem? hb
    have bl := blk_len hbm
    have el := Ed_le (P.take i)
    have tl := take_le P i
    have al := adj_len b
    obtain ⟨fd, hfd⟩ : ∃ fd, (Ed (P.take i)).map prD = fd := ⟨_, rfl⟩
    have cc := comp_map (set := fName 3) (tst := mYes) (el := e2__law_lot_of) (vs := [3]) (ρ0 := [.sh (.tuple (P.map blD)), .sh (.list fd), .sh (blD b), .un])
      (fun k => PyData.int ((k : Nat) : Int)) (fun k => prD (b.getD k 0, b.getD (k + 1) 0 - 1)) (List.range (b.length - 1)) [.sh (.tuple (P.map blD)), .sh (.list fd), .sh (blD b), .un] (by simp [forget]) (fun k hk => by
        have hk' := List.mem_range.mp hk
        have g0 := bl_at (b := b) (k := k) (by omega)
        have g1 := bl_at (b := b) (k := k + 1) (by omega)
        have c1 : (((k + 1 : Nat) : Nat) : Int) = ((k : Nat) : Int) + 1 := by omega
        rw [c1] at g1
        have hlt : b.getD k 0 < b.getD (k + 1) 0 := by
          have := List.pairwise_iff_getElem.mp (asc b hbm) k (k + 1) (by omega) (by omega) (by omega)
          rw [List.getD_eq_getElem?_getD, List.getElem?_eq_getElem (by omega), List.getD_eq_getElem?_getD, List.getElem?_eq_getElem (by omega)]
          exact this
        have h1 : ((b.getD (k + 1) 0 : Nat) : Int) - 1 = ((b.getD (k + 1) 0 - 1 : Nat) : Int) := by omega
        generalize P.map blD = BB at *
        generalize blD b = bb at *
        refine ⟨[.sh (.tuple BB), .sh (.list fd), .sh bb, .sh (.int (k : Nat))], [.sh (.tuple BB), .sh (.list fd), .sh bb, .sh (.int (k : Nat))], by simp, by simp, ?_, by simp [forget]⟩
        unfold prD
        show _ = some (PyData.tuple [.int (b.getD k 0 : Nat), .int ((b.getD (k + 1) 0 - 1 : Nat) : Int)], _)
        generalize ((b.getD (k + 1) 0 - 1 : Nat) : Int) = z at *
        generalize ((b.getD (k + 1) 0 : Nat) : Int) = y at *
        generalize ((b.getD k 0 : Nat) : Int) = x at *
        simp [e2__law_lot_of, g0, g1, h1])
    rw [← range_nI, idx_adj] at cc
    refine ⟨[.sh (.tuple (P.map blD)), .sh (.list fd), .sh (blD b), .un], [.sh (.tuple (P.map blD)), .sh (.list (fd ++ (adj b).map prD)), .sh (blD b), .un], by rw [← hfd]; simp, .inl ?_, .sh (blD b), ?_⟩
    · have bd : dLen [blD b] = some (.int (b.length : Nat)) := by
        show dLen [.tuple (bi b)] = _
        rw [dLen_t]
        unfold bi
        rw [List.length_map]
      have tn : (((b.length : Nat) : Int) - 1).toNat = b.length - 1 := by omega
      have cr : cRng (((b.length : Nat) : Int) - 1) = true := cRng_of (by omega) (by omega)
      have rl : (rangeD 0 (b.length - 1)).length ≤ 16777216 := by rw [rangeD_len]; omega
      have l2 : fd.length + ((adj b).map prD).length ≤ 16777216 := by rw [← hfd, List.length_map, List.length_map]; omega
      unfold l1__law_lot_of
      generalize (adj b).map prD = A1 at *
      generalize P.map blD = BB at *
      generalize blD b = B at *
      generalize b.length = N at *
      simp [bd, tn, cr, rl, l2, cc, okOwn, back, forget]
    · rw [edges_take i hb, List.map_append, hfd]
end
end K73

/-! k73: _law_pairs, _law_lot -/
namespace K73
open PySem Nt L2
def prs (n i : Nat) : List (Nat × Nat) := (List.range i).flatMap fun x => (List.range (n - x)).map fun d => (x, x + d)
theorem mem_prs {n i : Nat} {p : Nat × Nat} (h : p ∈ prs n i) : p.1 ≤ p.2 ∧ p.2 < n := by
  unfold prs at h
  obtain ⟨x, hx, h⟩ := List.mem_flatMap.mp h
  obtain ⟨d, hd, rfl⟩ := List.mem_map.mp h
  have := List.mem_range.mp hd
  show x ≤ x + d ∧ x + d < n
  omega
theorem prs_len (n : Nat) : ∀ i, (prs n i).length ≤ n * i
  | 0 => Nat.zero_le _
  | i + 1 => by
    have ih := prs_len n i
    unfold prs at *
    rw [List.range_succ, List.flatMap_append, List.length_append]
    have : (([i] : List Nat).flatMap fun x => (List.range (n - x)).map fun d => (x, x + d)).length ≤ n := by simp
    rw [Nat.mul_succ]
    omega
theorem rangeD_map (x n : Nat) : rangeD ((x : Nat) : Int) n = (List.range n).map fun d => PyData.int ((x + d : Nat) : Int) := by
  unfold rangeD
  exact List.map_congr_left fun d _ => by
    show PyData.int _ = PyData.int _
    congr 1
theorem law_pairs_ok {n : Nat} (hn : n ≤ 20) : F__law_pairs [.int (n : Nat)] = some (.list ((prs n n).map prD)) := by
  have loop := forD_inv (set := fName 2) (body := l1__law_pairs) (rangeD 0 n)
    (fun i ρ => ∃ x2, ρ = [.sh (.int (n : Nat)), .sh (.list ((prs n i).map prD)), x2, .un])
    [.sh (.int (n : Nat)), .sh (.list []), .un, .un] ?_ ⟨.un, rfl⟩
  · obtain ⟨ρ', e, x2, rfl⟩ := loop
    rw [rangeD_len] at e
    have c1 : cRng ((n : Nat) : Int) = true := cRng_of (by omega) (by omega)
    unfold F__law_pairs g__law_pairs
    rw [runF_ev]
    generalize (prs n n).map prD = W at *
    simp [c1, e]
  · rintro i d ρ hd ⟨x2, rfl⟩
    obtain ⟨hi, rfl⟩ := rangeD_at hd
    rw [Int.zero_add]
    have pl := prs_len n i
    have pl2 : n * i ≤ 20 * 20 := Nat.mul_le_mul hn (by omega)
    have nx : prs n (i + 1) = prs n i ++ (List.range (n - i)).map fun d => (i, i + d) := by
      unfold prs
      rw [List.range_succ, List.flatMap_append]
      simp
    obtain ⟨fd, hfd⟩ : ∃ fd, (prs n i).map prD = fd := ⟨_, rfl⟩
    have fl : fd.length ≤ 400 := by rw [← hfd, List.length_map]; omega
    have cc := comp_map (set := fName 3) (tst := mYes) (el := e2__law_pairs) (vs := [3]) (ρ0 := [.sh (.int (n : Nat)), .sh (.list fd), .sh (.int (i : Nat)), .un])
      (fun d => PyData.int ((i + d : Nat) : Int)) (fun d => prD (i, i + d)) (List.range (n - i)) [.sh (.int (n : Nat)), .sh (.list fd), .sh (.int (i : Nat)), .un] (by simp [forget]) (fun d hd => by
        refine ⟨[.sh (.int (n : Nat)), .sh (.list fd), .sh (.int (i : Nat)), .sh (.int ((i + d : Nat) : Int))], [.sh (.int (n : Nat)), .sh (.list fd), .sh (.int (i : Nat)), .sh (.int ((i + d : Nat) : Int))], by simp, by simp, ?_, by simp [forget]⟩
        unfold prD
        generalize ((i + d : Nat) : Int) = z
        simp [e2__law_pairs])
    rw [← rangeD_map] at cc
    have c1 : cRng ((n : Nat) : Int) = true := cRng_of (by omega) (by omega)
    have c2 : cRng ((i : Nat) : Int) = true := cRng_of (by omega) (by omega)
    have tn : (((n : Nat) : Int) - ((i : Nat) : Int)).toNat = n - i := by omega
    have rl : (rangeD ((i : Nat) : Int) (n - i)).length ≤ 16777216 := by rw [rangeD_len]; omega
    have gl : ((List.range (n - i)).map fun d => prD (i, i + d)).length = n - i := by rw [List.length_map, List.length_range]
    have l2 : fd.length + ((List.range (n - i)).map fun d => prD (i, i + d)).length ≤ 16777216 := by omega
    have gm : ((List.range (n - i)).map fun d => (i, i + d)).map prD = (List.range (n - i)).map fun d => prD (i, i + d) := by rw [List.map_map]; rfl
    rw [hfd]
    refine ⟨[.sh (.int (n : Nat)), .sh (.list fd), .sh (.int (i : Nat)), .un], [.sh (.int (n : Nat)), .sh (.list (fd ++ (List.range (n - i)).map fun d => prD (i, i + d))), .sh (.int (i : Nat)), .un], by simp, .inl ?_, .sh (.int (i : Nat)), ?_⟩
    · unfold l1__law_pairs
      generalize (List.range (n - i)).map (fun d => prD (i, i + d)) = W at *
      generalize ((i : Nat) : Int) = ii at *
      generalize ((n : Nat) : Int) = nn at *
      simp [c1, c2, tn, rl, cc, l2, okOwn, back, forget]
    · rw [nx, List.map_append, hfd, gm]
/-! ### the draw of a lot -/
def clash (p q : Nat × Nat) : Bool := q.1 == p.1 || q.2 == p.2
structure Gr (n : Nat) (F : List (Nat × Nat)) : Prop where
  le : ∀ p ∈ F, p.1 ≤ p.2 ∧ p.2 < n
  ap : F.Pairwise fun p q => p.1 ≠ q.1 ∧ p.2 ≠ q.2
theorem clash_ev (s : D) (n : Nat) (F : List (Nat × Nat)) (hF : F.length ≤ 1000) (p : Nat × Nat) (x4 x5 : Sl) (n4 : Nw x4) (n5 : Nw x5) :
    mFrzT (mTest (m2 rs dEq0 (mV (mComp (iS (mName 2)) (fSeq 2 (fCons (fName 4) (fCons (fName 5) fNil))) q1__law_lot e1__law_lot [4, 5])) (mV (mLst mANil)))) [.ow 2 s, .sh (.int (n : Nat)), .ow 1 (.list (F.map prD)), .sh (prD p), x4, x5] = some (!F.any (clash p), [.ow 2 s, .sh (.int (n : Nat)), .ow 1 (.list (F.map prD)), .sh (prD p), x4, x5]) := by
  have f4 : frS x4 = x4 := by rcases n4 with rfl | ⟨d, rfl⟩ <;> rfl
  have f5 : frS x5 = x5 := by rcases n5 with rfl | ⟨d, rfl⟩ <;> rfl
  have cc := comp_flt (set := fSeq 2 (fCons (fName 4) (fCons (fName 5) fNil))) (tst := q1__law_lot) (el := e1__law_lot) (vs := [4, 5]) (ρ0 := [.sh s, .sh (.int (n : Nat)), .sh (.list (F.map prD)), .sh (prD p), .un, .un])
    prD (fun _ => PyData.int 1) (clash p) F [.sh s, .sh (.int (n : Nat)), .sh (.list (F.map prD)), .sh (prD p), x4, x5] (by simp [forget]) (fun q hq => by
      have g0 := prD_0 p
      have g1 := prD_1 p
      have e1 : dEq false (.int (q.1 : Nat)) (.int (p.1 : Nat)) = some (.bool (q.1 == p.1)) := by
        have : decide (((q.1 : Nat) : Int) = ((p.1 : Nat) : Int)) = (q.1 == p.1) := by
          by_cases h : q.1 = p.1
          · simp [h]
          · rw [decide_eq_false (by omega)]; simp [h]
        rw [← this]; simp
      have e2 : dEq false (.int (q.2 : Nat)) (.int (p.2 : Nat)) = some (.bool (q.2 == p.2)) := by
        have : decide (((q.2 : Nat) : Int) = ((p.2 : Nat) : Int)) = (q.2 == p.2) := by
          by_cases h : q.2 = p.2
          · simp [h]
          · rw [decide_eq_false (by omega)]; simp [h]
        rw [← this]; simp
      generalize F.map prD = FF at *
      generalize prD p = d at *
      refine ⟨[.sh s, .sh (.int (n : Nat)), .sh (.list FF), .sh d, .sh (.int (q.1 : Nat)), .sh (.int (q.2 : Nat))], [.sh s, .sh (.int (n : Nat)), .sh (.list FF), .sh d, .sh (.int (q.1 : Nat)), .sh (.int (q.2 : Nat))], by unfold prD; simp, ?_, ?_⟩
      · unfold clash
        cases h1 : (q.1 == p.1) <;> rw [h1] at e1 <;> cases h2 : (q.2 == p.2) <;> rw [h2] at e2 <;> simp [q1__law_lot, g0, g1, e1, e2, -dEq_intF]
      · cases hb : clash p q with
        | false => exact .inl ⟨rfl, by simp [forget]⟩
        | true => exact .inr ⟨rfl, [.sh s, .sh (.int (n : Nat)), .sh (.list FF), .sh d, .sh (.int (q.1 : Nat)), .sh (.int (q.2 : Nat))], by simp [e1__law_lot], by simp [forget]⟩)
  have fe : ((F.filter (clash p)).map fun _ => PyData.int 1).isEmpty = !F.any (clash p) := by
    rw [List.isEmpty_map]
    induction F with
    | nil => rfl
    | cons q F ih =>
      rw [List.filter_cons, List.any_cons]
      cases hb : clash p q with
      | true => rfl
      | false =>
        have hF2 : F.length ≤ 1000 := by rw [List.length_cons] at hF; omega
        clear cc
        rw [if_neg (by simp), Bool.false_or]
        have : ∀ F : List (Nat × Nat), (F.filter (clash p)).isEmpty = !F.any (clash p) := fun F => by
          induction F with
          | nil => rfl
          | cons q F ih =>
            rw [List.filter_cons, List.any_cons]
            cases hb : clash p q with
            | true => rfl
            | false => rw [if_neg (by simp), Bool.false_or]; exact ih
        exact this F
  have fl : (F.map prD).length ≤ 16777216 := by rw [List.length_map]; omega
  have ok := okOwn2 (ρ := [.sh s, .sh (.int (n : Nat)), .sh (.list (F.map prD)), .sh (prD p), x4, x5]) (i := 4) (j := 5) rfl n4 rfl n5
  rw [← fe]
  generalize (F.filter (clash p)).map (fun _ => PyData.int 1) = W at *
  generalize F.map prD = FF at *
  generalize prD p = d at *
  rw [mFrzT_ev]
  show ob (mTest _ [.sh s, .sh (.int (n : Nat)), .sh (.list FF), .sh d, frS x4, frS x5]) _ = _
  rw [f4, f5]
  simp [fl, ok, cc, back]
end K73

/-! k73: _law_lot; _law_parting -/
namespace K73
open PySem Nt L2
theorem Gr.add {n : Nat} {F : List (Nat × Nat)} (G : Gr n F) {p : Nat × Nat} (hp : p.1 ≤ p.2 ∧ p.2 < n) (h : F.any (clash p) = false) : Gr n (F ++ [p]) := by
  refine ⟨fun q hq => ?_, List.pairwise_append.mpr ⟨G.ap, List.pairwise_singleton _ _, fun a ha b hb => ?_⟩⟩
  · rcases List.mem_append.mp hq with hq | hq
    · exact G.le q hq
    · rw [List.mem_singleton.mp hq]; exact hp
  · rw [List.mem_singleton.mp hb]
    have := List.any_eq_false.mp h a ha
    unfold clash at this
    rw [Bool.or_eq_true] at this
    exact ⟨fun e => this (.inl (by simpa using e)), fun e => this (.inr (by simpa using e))⟩
theorem lot_step (s : D) (n : Nat) (F : List (Nat × Nat)) (hF : F.length ≤ 1000) (p : Nat × Nat) (x4 x5 : Sl) (n4 : Nw x4) (n5 : Nw x5) :
    l1__law_lot [.ow 2 s, .sh (.int (n : Nat)), .ow 1 (.list (F.map prD)), .sh (prD p), x4, x5] = some (.nx [.ow 2 s, .sh (.int (n : Nat)), .ow 1 (.list ((if F.any (clash p) then F else F ++ [p]).map prD)), .sh (prD p), x4, x5]) := by
  have ce := clash_ev s n F hF p x4 x5 n4 n5
  have fl : (F.map prD).length < 16777216 := by rw [List.length_map]; omega
  unfold l1__law_lot
  rw [sIf_ev, ce, ob_some]
  cases hc : F.any (clash p) with
  | true =>
    show br false _ _ = _
    rw [br_false]
    simp
  | false =>
    show br true _ _ = _
    rw [br_true]
    have : (F ++ [p]).map prD = F.map prD ++ [prD p] := List.map_append
    rw [if_neg (by simp), this]
    generalize F.map prD = FF at *
    generalize prD p = d at *
    simp [fl]
theorem le_pI {p q : Nat × Nat} (h : pI p ≤ pI q) : p.1 ≤ q.1 := by
  by_cases c : q.1 < p.1
  · have h2 : pI q < pI p := by
      unfold pI
      rw [List.cons_lt_cons_iff]
      left
      omega
    exact absurd h2 (List.not_lt.mpr h)
  · omega
theorem Gr.lot {n : Nat} {F T : List (Nat × Nat)} (G : Gr n F) (e : srP F = ltD T) (pm : T.Perm F) : Lot n T := by
  have ap : T.Pairwise fun p q => p.1 ≠ q.1 ∧ p.2 ≠ q.2 := (pm.pairwise_iff (fun {a b} h => ⟨fun e => h.1 e.symm, fun e => h.2 e.symm⟩)).mpr G.ap
  have so := srtR_pw false (F.map prD)
  have e2 : dSortedR false (F.map prD) = T.map prD := by
    unfold srP ltD at e
    injection e
  rw [e2] at so
  refine ⟨fun p hp => G.le p (pm.mem_iff.mp hp), ?_, ap.imp fun h => h.2⟩
  refine (List.pairwise_map.mp so).imp₂ (fun p q h1 h2 => ?_) ap
  have h3 : PySem.W.dataLe false id (tuN (pI p)) (tuN (pI q)) = true := h1
  rw [le_tuN, decide_eq_true_eq] at h3
  have := le_pI h3
  have := h2.1
  omega
section
variable {s : D} {n : Nat}
theorem law_lot_ok (hs : Src s) (h1 : 1 ≤ n) (hn : n ≤ 12) : ∃ T s', F__law_lot s [.int (n : Nat)] = some (ltD T, s') ∧ Src s' ∧ Lot n T ∧ T.length ≤ 200 := by
  have pl := prs_len n n
  have pl2 : n * n ≤ 12 * 12 := Nat.mul_le_mul hn hn
  have pe := law_pairs_ok (n := n) (by omega)
  obtain ⟨ys, s1, m1, hs1, m2⟩ := mixed_ok hs (xs := (prs n n).map prD) (by rw [List.length_map]; omega)
  obtain ⟨A, eA, pA⟩ := perm_mapN prD m2 (prs n n) rfl
  obtain ⟨r, s2, p1, hs2, r0, r1⟩ := pick_ok hs1 (many := 3 * (n : Nat)) (by omega) (by omega)
  have loop := forD_inv (set := fName 3) (body := l1__law_lot) ((A.take r.toNat).map prD)
    (fun i ρ => ∃ F x3, Gr n F ∧ F.length ≤ i ∧ ρ = [.ow 2 s2, .sh (.int (n : Nat)), .ow 1 (.list (F.map prD)), x3, .un, .un])
    [.ow 2 s2, .sh (.int (n : Nat)), .ow 1 (.list []), .un, .un, .un] ?_ ⟨[], .un, ⟨fun p hp => (nomatch hp), List.Pairwise.nil⟩, Nat.le_refl _, rfl⟩
  · obtain ⟨ρ', e, F, x3, G, hF, rfl⟩ := loop
    obtain ⟨T, eT, pT⟩ := srP_back F
    have Tl : T.length ≤ 200 := by
      rw [pT.length_eq]
      rw [List.length_map, List.length_take, pA.length_eq] at hF
      omega
    refine ⟨T, s2, ?_, hs2, G.lot eT pT, Tl⟩
    have ct := cut_to ys r0
    have cm : cMul 3 ((n : Nat) : Int) = true := by simp [cMul]
    have so := dSortedE_l (b := false) (okSort_prs F)
    have tk : ys.take r.toNat = (A.take r.toNat).map prD := by rw [eA, List.map_take]
    rw [tk] at ct
    rw [← eT]
    unfold F__law_lot g__law_lot srP
    rw [runI_ev]
    generalize dSortedR false (F.map prD) = S at *
    generalize F.map prD = FF at *
    generalize (A.take r.toNat).map prD = AA at *
    generalize (prs n n).map prD = PP at *
    simp [pe, m1, cm, p1, ct, e, so]
  · rintro i d ρ hd ⟨F, x3, G, hF, rfl⟩
    rw [List.getElem?_map] at hd
    obtain ⟨p, hp, rfl⟩ := Option.map_eq_some_iff.mp hd
    have hpA : p ∈ A := List.mem_of_mem_take (List.mem_of_getElem? hp)
    have hpp := mem_prs (pA.mem_iff.mp hpA)
    have hi : i < (A.take r.toNat).length := (List.getElem?_eq_some_iff.mp hp).1
    rw [List.length_take, pA.length_eq] at hi
    have st := lot_step s2 n F (by omega) p .un .un .un .un
    refine ⟨[.ow 2 s2, .sh (.int (n : Nat)), .ow 1 (.list (F.map prD)), .sh (prD p), .un, .un], _, by simp, .inl st, if F.any (clash p) then F else F ++ [p], .sh (prD p), ?_, ?_, rfl⟩
    · cases hc : F.any (clash p) with
      | true => exact G
      | false => exact G.add hpp hc
    · split
      · omega
      · rw [List.length_append, List.length_singleton]; omega
end
end K73

/-! k73: blocks in order; _law_parting -/
namespace K73
open PySem Nt L2
theorem nb_lt {a b : List Nat} (ha : a ≠ []) (hb : b ≠ []) (h : a.headD 0 < b.headD 0) : nb a ≤ nb b := by
  cases a with
  | nil => exact absurd rfl ha
  | cons x t =>
    cases b with
    | nil => exact absurd rfl hb
    | cons y u =>
      refine List.not_lt.mp fun hc => ?_
      have hc' : ((y : Nat) : Int) :: nb u < ((x : Nat) : Int) :: nb t := hc
      have h' : x < y := h
      rw [List.cons_lt_cons_iff] at hc'
      rcases hc' with hc' | hc' <;> omega
theorem okSort_blks (B : List (List Nat)) : okSortE (B.map blD) = true := by
  have : B.map blD = (B.map nb).map tuN := by
    rw [List.map_map]
    exact List.map_congr_left fun b _ => blD_tu b
  rw [this]
  exact okSortE_ints _
theorem sort_blks {P B : List (List Nat)} (ne : ∀ b ∈ P, b ≠ []) (hds : P.Pairwise fun a b => a.headD 0 < b.headD 0) (pm : B.Perm P) : dSortedR false (B.map blD) = P.map blD := by
  refine eq_of_sortedN ((srtR_perm _ _).trans (pm.map _)) (srtR_pw _ _) (List.pairwise_map.mpr (List.Pairwise.imp_of_mem (fun {a b} ha hb h => ?_) hds)) fun a ha b hb h1 h2 => ?_
  · rw [nb_le, decide_eq_true_eq]
    exact nb_lt (ne a ha) (ne b hb) h
  · obtain ⟨x, _, rfl⟩ := List.mem_map.mp ((srtR_perm _ _).mem_iff.mp ha)
    obtain ⟨y, _, rfl⟩ := List.mem_map.mp ((srtR_perm _ _).mem_iff.mp hb)
    rw [nb_le, decide_eq_true_eq] at h1 h2
    rw [nb_inj (List.le_antisymm h1 h2)]
/-- a row of disjoint blocks, put in order -/
theorem order_blks : ∀ {B : List (List Nat)}, (∀ b ∈ B, b ≠ []) → (B.map fun b => b.headD 0).Nodup → ∃ P : List (List Nat), P.Perm B ∧ P.Pairwise fun a b => a.headD 0 < b.headD 0 := by
  intro B ne nd
  refine ⟨B.mergeSort fun a b => decide (a.headD 0 ≤ b.headD 0), List.mergeSort_perm B _, ?_⟩
  have pw := List.pairwise_mergeSort (le := fun a b : List Nat => decide (a.headD 0 ≤ b.headD 0)) (fun a b c h1 h2 => by
    rw [decide_eq_true_eq] at *
    omega) (fun a b => by
    rw [Bool.or_eq_true, decide_eq_true_eq, decide_eq_true_eq]
    omega) B
  have nd2 : (B.mergeSort fun a b => decide (a.headD 0 ≤ b.headD 0)).Pairwise fun a b => a.headD 0 ≠ b.headD 0 := by
    have h := ((List.mergeSort_perm B fun a b : List Nat => decide (a.headD 0 ≤ b.headD 0)).map fun b => b.headD 0).nodup_iff.mpr nd
    exact List.pairwise_map.mp h
  refine pw.imp₂ (fun a b h1 h2 => ?_) nd2
  rw [decide_eq_true_eq] at h1
  omega
section
variable {n : Nat} {L : List (Nat × Nat)} {f : Nat → Nat}
theorem set_blks (H : Part n (prt n f)) (N : Nm L f) (hl : ∀ p ∈ L, p.1 ≤ p.2) : dSortedR false ((nubL ((List.range (n + 1)).map fun z => nb (cls n f (f z)))).map tuN) = (prt n f).map blD := by
  have e1 : ∃ B : List (List Nat), (nubL ((List.range (n + 1)).map fun z => nb (cls n f (f z)))) = B.map nb ∧ B.Perm (prt n f) := by
    refine perm_mapN nb ?_ (prt n f) rfl
    have ndP : (prt n f).Nodup := H.hds.imp fun {a b} h e => by rw [e] at h; omega
    have ndm : ((prt n f).map nb).Nodup := by
      refine List.pairwise_map.mpr (ndP.imp fun {a b} h e => h (nb_inj e))
    refine (List.perm_ext_iff_of_nodup (nubL_nodup _) ndm).mpr fun k => ?_
    rw [mem_nubL, List.mem_map, List.mem_map]
    constructor
    · rintro ⟨z, hz, rfl⟩
      have hz' := List.mem_range.mp hz
      exact ⟨cls n f (f z), List.mem_map.mpr ⟨f z, mem_rts.mpr ⟨by have := N.le z; omega, N.root hl z⟩, rfl⟩, rfl⟩
    · rintro ⟨b, hb, rfl⟩
      obtain ⟨r, hr, rfl⟩ := List.mem_map.mp hb
      obtain ⟨r1, r2⟩ := mem_rts.mp hr
      exact ⟨r, List.mem_range.mpr (by omega), by rw [r2]⟩
  obtain ⟨B, e, pB⟩ := e1
  rw [e]
  have : (B.map nb).map tuN = B.map blD := by
    rw [List.map_map]
    exact List.map_congr_left fun b _ => (blD_tu b).symm
  rw [this]
  exact sort_blks (fun b hb => (H.asc b hb).2) H.hds pB
def nmD (n : Nat) (f : Nat → Nat) : List D := (List.range (n + 1)).map fun z => .int (f z : Nat)
theorem nmD_at {z : Nat} (hz : z ≤ n) : dGetX (.list (nmD n f)) (.int (z : Nat)) = some (.int (f z : Nat)) := at_rng (fun z => PyData.int (f z : Nat)) (by omega)
theorem eqN (a b : Nat) : dEq false (.int (a : Nat)) (.int (b : Nat)) = some (.bool (a == b)) := by
  have : decide (((a : Nat) : Int) = ((b : Nat) : Int)) = (a == b) := by
    by_cases h : a = b
    · simp [h]
    · rw [decide_eq_false (by omega)]; simp [h]
  rw [← this]; simp
theorem name_step (hn : n ≤ 100) {p : Nat × Nat} (hp : p.1 ≤ p.2 ∧ p.2 < n) (lt : D) (x6 x7 x8 : Sl) :
    l1__law_parting [.sh (.int (n : Nat)), .sh lt, .sh (.list (nmD n f)), .sh (.int (p.1 : Nat)), .sh (.int (p.2 : Nat)), .un, x6, x7, x8] = some (.nx [.sh (.int (n : Nat)), .sh lt, .sh (.list (nmD n (nmS f p))), .sh (.int (p.1 : Nat)), .sh (.int (p.2 : Nat)), .un, x6, x7, x8]) := by
  have g1 := nmD_at (n := n) (f := f) (z := p.2 + 1) (by omega)
  have g2 := nmD_at (n := n) (f := f) (z := p.1) (by omega)
  have c1 : (((p.2 + 1 : Nat) : Nat) : Int) = ((p.2 : Nat) : Int) + 1 := by omega
  rw [c1] at g1
  obtain ⟨ND, hND⟩ : ∃ ND, nmD n f = ND := ⟨_, rfl⟩
  have cc := comp_map (set := fName 5) (tst := mYes) (el := e2__law_parting) (vs := [5]) (ρ0 := [.sh (.int (n : Nat)), .sh lt, .sh (.list ND), .sh (.int (p.1 : Nat)), .sh (.int (p.2 : Nat)), .un, x6, x7, x8])
    (fun z => PyData.int (f z : Nat)) (fun z => PyData.int (nmS f p z : Nat)) (List.range (n + 1)) [.sh (.int (n : Nat)), .sh lt, .sh (.list ND), .sh (.int (p.1 : Nat)), .sh (.int (p.2 : Nat)), .un, x6, x7, x8] (by simp [forget]) (fun z hz => by
      have e := eqN (f z) (f (p.2 + 1))
      rw [hND] at g1 g2
      refine ⟨[.sh (.int (n : Nat)), .sh lt, .sh (.list ND), .sh (.int (p.1 : Nat)), .sh (.int (p.2 : Nat)), .sh (.int (f z : Nat)), x6, x7, x8], [.sh (.int (n : Nat)), .sh lt, .sh (.list ND), .sh (.int (p.1 : Nat)), .sh (.int (p.2 : Nat)), .sh (.int (f z : Nat)), x6, x7, x8], by simp, by simp, ?_, by simp [forget]⟩
      unfold nmS
      by_cases hc : f z = f (p.2 + 1)
      · have hb : (f z == f (p.2 + 1)) = true := by simpa using hc
        rw [hb] at e
        rw [if_pos hc]
        simp [e2__law_parting, g1, g2, e, -dEq_intF]
      · have hb : (f z == f (p.2 + 1)) = false := by simpa using hc
        rw [hb] at e
        rw [if_neg hc]
        simp [e2__law_parting, g1, e, -dEq_intF])
  have e0 : (List.range (n + 1)).map (fun z => PyData.int (f z : Nat)) = ND := hND
  have e1 : (List.range (n + 1)).map (fun z => PyData.int (nmS f p z : Nat)) = nmD n (nmS f p) := rfl
  rw [e0, e1] at cc
  have nl : ND.length ≤ 16777216 := by rw [← hND]; unfold nmD; rw [List.length_map, List.length_range]; omega
  rw [hND]
  unfold l1__law_parting
  generalize nmD n (nmS f p) = NN at *
  simp [nl, cc, okOwn, back, forget]
theorem law_parting_ok (hn : n ≤ 40) (H : Lot n L) : F__law_parting [.int (n : Nat), ltD L] = some (.tuple ((prt n (nm L)).map blD)) := by
  have N := H.nm
  have hl : ∀ p ∈ L, p.1 ≤ p.2 := fun p hp => (H.le p hp).1
  have PP := prt_part (n := n) N hl
  obtain ⟨lt, hlt⟩ : ∃ lt, ltD L = lt := ⟨_, rfl⟩
  have loop := forD_inv (set := fSeq 2 (fCons (fName 3) (fCons (fName 4) fNil))) (body := l1__law_parting) (L.map prD)
    (fun i ρ => ∃ x3 x4, ρ = [.sh (.int (n : Nat)), .sh lt, .sh (.list (nmD n ((L.take i).foldl nmS id))), x3, x4, .un, .un, .un, .un])
    [.sh (.int (n : Nat)), .sh lt, .sh (.list (nmD n id)), .un, .un, .un, .un, .un, .un] ?_ ⟨.un, .un, rfl⟩
  · obtain ⟨ρ', e, x3, x4, rfl⟩ := loop
    rw [List.length_map, List.take_length] at e
    have e' : L.foldl nmS id = nm L := rfl
    rw [e'] at e
    obtain ⟨ND, hND⟩ : ∃ ND, nmD n (nm L) = ND := ⟨_, rfl⟩
    have inner : ∀ z, z ≤ n → e4__law_parting [.sh (.int (n : Nat)), .sh lt, .sh (.list ND), x3, x4, .un, .un, .un, .sh (.int (nm L z : Nat))] = some (blD (cls n (nm L) (nm L z)), [.sh (.int (n : Nat)), .sh lt, .sh (.list ND), x3, x4, .un, .un, .un, .sh (.int (nm L z : Nat))]) := fun z hz => by
      have cc := comp_flt (set := fName 7) (tst := q1__law_parting) (el := e3__law_parting) (vs := [7]) (ρ0 := [.sh (.int (n : Nat)), .sh lt, .sh (.list ND), x3, x4, .un, .un, .un, .sh (.int (nm L z : Nat))])
        (fun k => PyData.int ((k : Nat) : Int)) (fun k => PyData.int ((k : Nat) : Int)) (fun k => nm L k == nm L z) (List.range (n + 1)) [.sh (.int (n : Nat)), .sh lt, .sh (.list ND), x3, x4, .un, .un, .un, .sh (.int (nm L z : Nat))] (by simp [forget]) (fun k hk => by
          have hk' := List.mem_range.mp hk
          have g := nmD_at (n := n) (f := nm L) (z := k) (by omega)
          rw [hND] at g
          have e := eqN (nm L k) (nm L z)
          refine ⟨[.sh (.int (n : Nat)), .sh lt, .sh (.list ND), x3, x4, .un, .un, .sh (.int (k : Nat)), .sh (.int (nm L z : Nat))], [.sh (.int (n : Nat)), .sh lt, .sh (.list ND), x3, x4, .un, .un, .sh (.int (k : Nat)), .sh (.int (nm L z : Nat))], by simp, ?_, ?_⟩
          · simp [q1__law_parting, g, e, -dEq_intF]
          · cases hb : (nm L k == nm L z) with
            | false => exact .inl ⟨rfl, by simp [forget]⟩
            | true => exact .inr ⟨rfl, [.sh (.int (n : Nat)), .sh lt, .sh (.list ND), x3, x4, .un, .un, .sh (.int (k : Nat)), .sh (.int (nm L z : Nat))], by simp [e3__law_parting], by simp [forget]⟩)
      rw [← range_nI] at cc
      have cr : cRng (((n : Nat) : Int) + 1) = true := cRng_of (by omega) (by omega)
      have rl : (rangeD 0 (n + 1)).length ≤ 16777216 := by rw [rangeD_len]; omega
      have tn : (((n : Nat) : Int) + 1).toNat = n + 1 := by omega
      have be : blD (cls n (nm L) (nm L z)) = .tuple (((List.range (n + 1)).filter fun k => nm L k == nm L z).map fun k => .int (k : Nat)) := rfl
      rw [be]
      generalize ((List.range (n + 1)).filter fun k => nm L k == nm L z).map (fun k => PyData.int (k : Nat)) = W at *
      simp [e4__law_parting, cr, rl, tn, cc, okOwn, back, forget]
    have c2 := comp_map (set := fName 8) (tst := mYes) (el := e4__law_parting) (vs := [8]) (ρ0 := [.sh (.int (n : Nat)), .sh lt, .sh (.list ND), x3, x4, .un, .un, .un, .un])
      (fun z => PyData.int (nm L z : Nat)) (fun z => blD (cls n (nm L) (nm L z))) (List.range (n + 1)) [.sh (.int (n : Nat)), .sh lt, .sh (.list ND), x3, x4, .un, .un, .un, .un] (by simp [forget]) (fun z hz =>
        ⟨[.sh (.int (n : Nat)), .sh lt, .sh (.list ND), x3, x4, .un, .un, .un, .sh (.int (nm L z : Nat))], [.sh (.int (n : Nat)), .sh lt, .sh (.list ND), x3, x4, .un, .un, .un, .sh (.int (nm L z : Nat))], by simp, by simp, inner z (by have := List.mem_range.mp hz; omega), by simp [forget]⟩)
    have e0 : (List.range (n + 1)).map (fun z => PyData.int (nm L z : Nat)) = ND := hND
    rw [e0] at c2
    have nl : ND.length ≤ 16777216 := by rw [← hND]; unfold nmD; rw [List.length_map, List.length_range]; omega
    have bt : (List.range (n + 1)).map (fun z => blD (cls n (nm L) (nm L z))) = ((List.range (n + 1)).map fun z => nb (cls n (nm L) (nm L z))).map tuN := by
      rw [List.map_map]
      exact List.map_congr_left fun z _ => blD_tu _
    have ss := srtS_ev (A := (List.range (n + 1)).map fun z => nb (cls n (nm L) (nm L z))) (by rw [List.length_map, List.length_range]; omega)
    rw [set_blks PP N hl, ← bt] at ss
    have ll : lt = .tuple (L.map prD) := hlt.symm
    have i0 : (rangeD 0 (n + 1)) = nmD n id := range_nI (n + 1)
    have cr : cRng (((n : Nat) : Int) + 1) = true := cRng_of (by omega) (by omega)
    have tn : (((n : Nat) : Int) + 1).toNat = n + 1 := by omega
    have k1 : ((n : Nat) : Int) + 1 ≤ 16777216 := by omega
    have k2 : -16777216 ≤ ((n : Nat) : Int) + 1 := by omega
    rw [hND] at e
    rw [hlt]
    unfold F__law_parting g__law_parting
    rw [runF_ev]
    subst ll
    generalize L.map prD = LL at *
    generalize (List.range (n + 1)).map (fun z => blD (cls n (nm L) (nm L z))) = SS at *
    generalize (prt n (nm L)).map blD = BB at *
    generalize nmD n id = N0 at *
    simp [cr, tn, k1, k2, i0, e, nl, c2, ss, okOwn, back, forget]
  · rintro i d ρ hd ⟨x3, x4, rfl⟩
    rw [List.getElem?_map] at hd
    obtain ⟨p, hp, rfl⟩ := Option.map_eq_some_iff.mp hd
    have hpm := List.mem_of_getElem? hp
    have st := name_step (n := n) (f := (L.take i).foldl nmS id) (by omega) (H.le p hpm) lt .un .un .un
    refine ⟨[.sh (.int (n : Nat)), .sh lt, .sh (.list (nmD n ((L.take i).foldl nmS id))), .sh (.int (p.1 : Nat)), .sh (.int (p.2 : Nat)), .un, .un, .un, .un], _, by unfold prD; simp, .inl st, .sh (.int (p.1 : Nat)), .sh (.int (p.2 : Nat)), ?_⟩
    have ht : L.take (i + 1) = L.take i ++ [p] := by
      obtain ⟨hlt, hxx⟩ := List.getElem?_eq_some_iff.mp hp
      rw [List.take_succ_eq_append_getElem hlt, hxx]
    rw [ht, List.foldl_append]
    rfl
end
end K73

/-! k73: codes_with, _law_many -/
namespace K73
open PySem Nt L2
def rowS (r : List Nat) : List Nat := (List.range (r.length + 1)).map fun k => (if 0 < k then r.getD (k - 1) 0 else 0) + (if k < r.length then r.getD k 0 * 2 ^ k else 0)
def rowN : Nat → List Nat
  | 0 => [1]
  | i + 1 => rowS (rowN i)
def mnA (n : Nat) : Nat → Nat
  | 0 => 1
  | k + 1 => mnA n k * (2 ^ (n - k) - 1)
def mnB (v : Nat) : Nat → Nat
  | 0 => v
  | k + 1 => mnB v k / (2 ^ (k + 1) - 1)
def mn (n r : Nat) : Nat := mnB (mnA n r) r
theorem many_all : allN 13 (fun n => allN 13 fun r => Nat.ble (n + 1) r || Nat.beq ((rowN n).getD r 0) (mn n r)) = true := by decide +kernel
theorem many_eq {n r : Nat} (hn : n ≤ 12) (h : r ≤ n) : (rowN n).getD r 0 = mn n r := by
  have e := allN_ok (allN_ok many_all n (by omega)) r (by omega)
  rcases (Bool.or_eq_true _ _).mp e with e | e
  · have := Nat.le_of_ble_eq_true e; omega
  · exact Nat.eq_of_beq_eq_true e
theorem row_all : allN 13 (fun n => (rowN n).all fun v => Nat.ble v 999999999999) = true := by decide +kernel
theorem row_le {n : Nat} (hn : n ≤ 12) {v : Nat} (h : v ∈ rowN n) : v ≤ 999999999999 := Nat.le_of_ble_eq_true (List.all_eq_true.mp (allN_ok row_all n (by omega)) v h)
theorem row_len : ∀ n, (rowN n).length = n + 1
  | 0 => rfl
  | n + 1 => by
    show (rowS (rowN n)).length = _
    unfold rowS
    rw [List.length_map, List.length_range, row_len n]
theorem getD_le {n : Nat} (hn : n ≤ 12) (k : Nat) : (rowN n).getD k 0 ≤ 999999999999 := by
  by_cases h : k < (rowN n).length
  · rw [List.getD_eq_getElem?_getD, List.getElem?_eq_getElem h]
    exact row_le hn (List.getElem_mem h)
  · rw [List.getD_eq_getElem?_getD, List.getElem?_eq_none (by omega)]
    exact Nat.zero_le _
theorem bi_at {b : List Nat} {k : Nat} (h : k < b.length) : dGetX (.list (bi b)) (.int (k : Nat)) = some (.int (b.getD k 0 : Nat)) := by
  show atI (bi b) _ = _
  have hl : (bi b).length = b.length := List.length_map _
  rw [atI_nat _ _ (by rw [hl]; exact h)]
  unfold bi
  rw [List.getElem_map, List.getD_eq_getElem?_getD, List.getElem?_eq_getElem h]
  rfl
section
variable {n : Nat}
theorem row_step (i : Nat) (hi : i ≤ 12) (x0 x1 x3 : Sl) : l1_codes_with [x0, x1, .sh (.list (bi (rowN i))), x3, .un] = some (.nx [x0, x1, .sh (.list (bi (rowN (i + 1)))), x3, .un]) := by
  have rl := row_len i
  have bl : (bi (rowN i)).length = i + 1 := by unfold bi; rw [List.length_map, rl]
  obtain ⟨B, hB⟩ : ∃ B, bi (rowN i) = B := ⟨_, rfl⟩
  have cc := comp_map (set := fName 4) (tst := mYes) (el := e2_codes_with) (vs := [4]) (ρ0 := [x0, x1, .sh (.list B), x3, .un])
    (fun k => PyData.int ((k : Nat) : Int)) (fun k => PyData.int (((if 0 < k then (rowN i).getD (k - 1) 0 else 0) + (if k < (rowN i).length then (rowN i).getD k 0 * 2 ^ k else 0) : Nat) : Int)) (List.range (i + 1 + 1)) [x0, x1, .sh (.list B), x3, .un] (by simp [forget]) (fun k hk => by
      have hk' := List.mem_range.mp hk
      refine ⟨[x0, x1, .sh (.list B), x3, .sh (.int (k : Nat))], [x0, x1, .sh (.list B), x3, .sh (.int (k : Nat))], by simp, by simp, ?_, by simp [forget]⟩
      have p1 : mIf (mTest (m2 rs dGt (mSlot 4) (mV (mC (.int 0))))) (m2 rs1 dGetX (mSlot 2) (mV (m2 rs dSub (mSlot 4) (mV (mC (.int 1)))))) (mC (.int 0)) [x0, x1, .sh (.list B), x3, .sh (.int (k : Nat))] = some (.int ((if 0 < k then (rowN i).getD (k - 1) 0 else 0 : Nat) : Int), [x0, x1, .sh (.list B), x3, .sh (.int (k : Nat))]) := by
        by_cases h : 0 < k
        · have g := bi_at (b := rowN i) (k := k - 1) (by omega)
          have c1 : (((k - 1 : Nat) : Nat) : Int) = ((k : Nat) : Int) - 1 := by omega
          have d1 : dGt (.int (k : Nat)) (.int 0) = some (.bool true) := by
            have : decide ((0 : Int) < ((k : Nat) : Int)) = true := decide_eq_true (by omega)
            simp [h]
          rw [hB, c1] at g
          rw [if_pos h]
          generalize ((rowN i).getD (k - 1) 0 : Nat) = v at *
          generalize ((k : Nat) : Int) = kk at *
          simp [d1, g, -dGt_ev]
        · have h0 : k = 0 := by omega
          subst h0
          rw [if_neg h]
          simp
      have p2 : mIf (mTest (m2 rs dLt (mSlot 4) (mV (mCB rs dLen (mACons (mSlot 2) mANil))))) (m2 rs dShl (mV (m2 rs1 dGetX (mSlot 2) (mSlot 4))) (mSlot 4)) (mC (.int 0)) [x0, x1, .sh (.list B), x3, .sh (.int (k : Nat))] = some (.int ((if k < (rowN i).length then (rowN i).getD k 0 * 2 ^ k else 0 : Nat) : Int), [x0, x1, .sh (.list B), x3, .sh (.int (k : Nat))]) := by
        have lB : dLen [.list B] = some (.int ((i + 1 : Nat) : Int)) := by rw [dLen_l, ← hB, bl]
        by_cases h : k < (rowN i).length
        · have g := bi_at (b := rowN i) (k := k) h
          have v1 := getD_le hi k
          have d1 : dLt (.int (k : Nat)) (.int ((i + 1 : Nat) : Int)) = some (.bool true) := by
            have : decide (((k : Nat) : Int) < ((i + 1 : Nat) : Int)) = true := decide_eq_true (by omega)
            simp
            omega
          have sh : dShl (.int ((rowN i).getD k 0 : Nat)) (.int (k : Nat)) = some (.int (((rowN i).getD k 0 * 2 ^ k : Nat) : Int)) := by
            have cp : cPow (((rowN i).getD k 0 : Nat) : Int) ((k : Nat) : Int) = true := by
              unfold cPow
              rw [decide_eq_true (by omega), decide_eq_true (by omega), decide_eq_true (by omega)]
              rfl
            rw [dShl_ev, cp, br_true, Int.toNat_natCast, Int.natCast_mul, Int.natCast_pow]
            rfl
          rw [hB] at g
          rw [if_pos h]
          generalize ((rowN i).getD k 0 * 2 ^ k : Nat) = w at *
          generalize ((rowN i).getD k 0 : Nat) = v at *
          generalize ((i + 1 : Nat) : Int) = ii at *
          generalize ((k : Nat) : Int) = kk at *
          simp [lB, d1, g, sh, -dLt_ev, -dShl_ev, -dLen_l]
        · have d1 : dLt (.int (k : Nat)) (.int ((i + 1 : Nat) : Int)) = some (.bool false) := by
            have : decide (((k : Nat) : Int) < ((i + 1 : Nat) : Int)) = false := decide_eq_false (by omega)
            simp
            omega
          rw [if_neg h]
          generalize ((i + 1 : Nat) : Int) = ii at *
          generalize ((k : Nat) : Int) = kk at *
          simp [lB, d1, -dLt_ev, -dLen_l]
      unfold e2_codes_with
      rw [m2_ev, mV_ev, p1]
      simp only [ob_some]
      rw [mV_ev, p2]
      generalize ((if 0 < k then (rowN i).getD (k - 1) 0 else 0 : Nat) : Nat) = a at *
      generalize ((if k < (rowN i).length then (rowN i).getD k 0 * 2 ^ k else 0 : Nat) : Nat) = b at *
      simp)
  rw [← range_nI] at cc
  have eR : (List.range (i + 1 + 1)).map (fun k => PyData.int (((if 0 < k then (rowN i).getD (k - 1) 0 else 0) + (if k < (rowN i).length then (rowN i).getD k 0 * 2 ^ k else 0) : Nat) : Int)) = bi (rowN (i + 1)) := by
    show _ = bi (rowS (rowN i))
    unfold bi rowS
    rw [List.map_map, rl]
    rfl
  rw [eR] at cc
  have lB : dLen [.list B] = some (.int ((i + 1 : Nat) : Int)) := by rw [dLen_l, ← hB, bl]
  have cr : cRng (((i + 1 : Nat) : Int) + 1) = true := cRng_of (by omega) (by omega)
  have rr : (rangeD 0 (i + 1 + 1)).length ≤ 16777216 := by rw [rangeD_len]; omega
  have tn : (((i + 1 : Nat) : Int) + 1).toNat = i + 1 + 1 := by omega
  rw [hB]
  unfold l1_codes_with
  generalize bi (rowN (i + 1)) = R at *
  generalize ((i + 1 : Nat) : Int) = ii at *
  simp [lB, cr, tn, rr, cc, okOwn, back, forget, -dLen_l]
theorem codes_ok (hn : n ≤ 12) {r : Nat} (hr : r ≤ n) : F_codes_with [.int (n : Nat), .int (r : Nat)] = some (.int ((rowN n).getD r 0 : Nat)) := by
  have loop := forD_inv (set := fName 3) (body := l1_codes_with) (rangeD 0 n)
    (fun i ρ => ∃ x3, ρ = [.sh (.int (n : Nat)), .sh (.int (r : Nat)), .sh (.list (bi (rowN i))), x3, .un])
    [.sh (.int (n : Nat)), .sh (.int (r : Nat)), .sh (.list (bi (rowN 0))), .un, .un] ?_ ⟨.un, rfl⟩
  · obtain ⟨ρ', e, x3, rfl⟩ := loop
    rw [rangeD_len] at e
    have c1 : cRng ((n : Nat) : Int) = true := cRng_of (by omega) (by omega)
    have g := bi_at (b := rowN n) (k := r) (by rw [row_len]; omega)
    have b0 : bi (rowN 0) = [.int 1] := rfl
    have h0 : decide ((0 : Int) ≤ ((r : Nat) : Int)) = true := decide_eq_true (by omega)
    have h1 : decide (((r : Nat) : Int) ≤ ((n : Nat) : Int)) = true := decide_eq_true (by omega)
    have h0' : (0 : Int) ≤ ((r : Nat) : Int) := by omega
    have h1' : ((r : Nat) : Int) ≤ ((n : Nat) : Int) := by omega
    rw [b0] at e
    unfold F_codes_with g_codes_with
    rw [runF_ev]
    have tn : ((n : Nat) : Int).toNat = n := Int.toNat_natCast n
    generalize (rowN n).getD r 0 = v at *
    generalize bi (rowN n) = R at *
    generalize ((n : Nat) : Int) = nn at *
    generalize ((r : Nat) : Int) = rr at *
    simp [c1, tn, e, g, h0', h1']
  · rintro i d ρ hd ⟨x3, rfl⟩
    obtain ⟨hi, rfl⟩ := rangeD_at hd
    rw [Int.zero_add]
    exact ⟨[.sh (.int (n : Nat)), .sh (.int (r : Nat)), .sh (.list (bi (rowN i))), .sh (.int (i : Nat)), .un], _, by simp, .inl (row_step i (by omega) _ _ _), .sh (.int (i : Nat)), rfl⟩
theorem pow_pos2 (k : Nat) : 1 ≤ 2 ^ k := Nat.two_pow_pos k
theorem pow_le2 {k : Nat} (h : k ≤ 13) : 2 ^ k ≤ 8192 := Nat.le_trans (Nat.pow_le_pow_right (n := 2) (by decide) h) (by decide)
theorem many_ok (hn : n ≤ 12) {r : Nat} (hr : r ≤ n) : F__law_many [.int (n : Nat), .int (r : Nat)] = some (.int (mn n r : Nat)) := by
  have loop1 := forD_inv (set := fName 3) (body := l1__law_many) (rangeD 0 r)
    (fun i ρ => ∃ x3, ρ = [.sh (.int (n : Nat)), .sh (.int (r : Nat)), .sh (.int (mnA n i : Nat)), x3])
    [.sh (.int (n : Nat)), .sh (.int (r : Nat)), .sh (.int 1), .un] ?_ ⟨.un, rfl⟩
  · obtain ⟨ρ', e1, x3, rfl⟩ := loop1
    have loop2 := forD_inv (set := fName 3) (body := l2__law_many) (rangeD 0 r)
      (fun i ρ => ∃ x3, ρ = [.sh (.int (n : Nat)), .sh (.int (r : Nat)), .sh (.int (mnB (mnA n r) i : Nat)), x3])
      [.sh (.int (n : Nat)), .sh (.int (r : Nat)), .sh (.int (mnA n r : Nat)), x3] ?_ ⟨x3, rfl⟩
    · obtain ⟨ρ', e2, x3', rfl⟩ := loop2
      rw [rangeD_len] at e1 e2
      have c1 : cRng ((r : Nat) : Int) = true := cRng_of (by omega) (by omega)
      unfold F__law_many g__law_many mn
      rw [runF_ev]
      generalize mnB (mnA n r) r = v at *
      generalize mnA n r = u at *
      simp [c1, e1, e2]
    · rintro i d ρ hd ⟨x3', rfl⟩
      obtain ⟨hi, rfl⟩ := rangeD_at hd
      rw [Int.zero_add]
      refine ⟨[.sh (.int (n : Nat)), .sh (.int (r : Nat)), .sh (.int (mnB (mnA n r) i : Nat)), .sh (.int (i : Nat))], _, by simp, .inl ?_, .sh (.int (i : Nat)), rfl⟩
      have sh := shl_ev (i + 1) (by omega)
      have p1 := pow_pos2 (i + 1)
      have p3 : 2 ≤ 2 ^ (i + 1) := by rw [Nat.pow_succ]; have := pow_pos2 i; omega
      have p2 := pow_le2 (k := i + 1) (by omega)
      have c1 : ((i : Nat) : Int) + 1 = ((i + 1 : Nat) : Int) := by omega
      have s1 : ((2 ^ (i + 1) : Nat) : Int) - 1 = ((2 ^ (i + 1) - 1 : Nat) : Int) := by omega
      have cd : cDiv ((mnB (mnA n r) i : Nat) : Int) ((2 ^ (i + 1) - 1 : Nat) : Int) = true := by
        unfold cDiv
        rw [decide_eq_true (by omega), decide_eq_true (by omega)]
        rfl
      have dv : dDiv (.int (mnB (mnA n r) i : Nat)) (.int ((2 ^ (i + 1) - 1 : Nat) : Int)) = some (.int (mnB (mnA n r) (i + 1) : Nat)) := by
        rw [dDiv_ev, cd, br_true]
        rfl
      unfold l2__law_many
      generalize mnB (mnA n r) (i + 1) = w at *
      generalize mnB (mnA n r) i = v at *
      generalize (2 ^ (i + 1) - 1 : Nat) = y at *
      generalize (2 ^ (i + 1) : Nat) = z at *
      generalize ((i + 1 : Nat) : Int) = i1 at *
      generalize ((i : Nat) : Int) = ii at *
      simp [c1, sh, s1, dv, -dShl_ev, -dDiv_ev]
  · rintro i d ρ hd ⟨x3', rfl⟩
    obtain ⟨hi, rfl⟩ := rangeD_at hd
    rw [Int.zero_add]
    refine ⟨[.sh (.int (n : Nat)), .sh (.int (r : Nat)), .sh (.int (mnA n i : Nat)), .sh (.int (i : Nat))], _, by simp, .inl ?_, .sh (.int (i : Nat)), rfl⟩
    have sh := shl_ev (n - i) (by omega)
    have p1 := pow_pos2 (n - i)
    have p2 := pow_le2 (k := n - i) (by omega)
    have c1 : ((n : Nat) : Int) - ((i : Nat) : Int) = ((n - i : Nat) : Int) := by omega
    have s1 : ((2 ^ (n - i) : Nat) : Int) - 1 = ((2 ^ (n - i) - 1 : Nat) : Int) := by omega
    have cm : cMul ((mnA n i : Nat) : Int) ((2 ^ (n - i) - 1 : Nat) : Int) = true := by
      unfold cMul
      have : (((2 ^ (n - i) - 1 : Nat) : Nat) : Int).natAbs < 2 ^ 64 := by omega
      rw [decide_eq_true this, Bool.or_true]
    have ml : dMulX (.int (mnA n i : Nat)) (.int ((2 ^ (n - i) - 1 : Nat) : Int)) = some (.int (mnA n (i + 1) : Nat)) := by
      rw [dMulX_int, cm, br_true]
      show some (PyData.int _) = some (PyData.int ((mnA n i * (2 ^ (n - i) - 1) : Nat) : Int))
      rw [Int.natCast_mul]
    unfold l1__law_many
    generalize mnA n (i + 1) = w at *
    generalize mnA n i = v at *
    generalize (2 ^ (n - i) - 1 : Nat) = y at *
    generalize (2 ^ (n - i) : Nat) = z at *
    generalize ((n - i : Nat) : Int) = i1 at *
    generalize ((i : Nat) : Int) = ii at *
    generalize ((n : Nat) : Int) = nn at *
    simp [c1, sh, s1, ml, -dShl_ev, -dMulX_int]
end
end K73

/-! k73: all_span_lots, _law_partings: the text -/
namespace K73
open PySem Nt L2
/-! ### all span lots -/
def addL (n first : Nat) (l : List (Nat × Nat)) : List (List (Nat × Nat)) := (((List.range (n - first)).map fun d => first + d).filter fun last => !decide (last ∈ l.map (·.2))).map fun last => l ++ [(first, last)]
def lotsS (n first : Nat) (F : List (List (Nat × Nat))) : List (List (Nat × Nat)) := F ++ F.flatMap (addL n first)
def lotsI (n : Nat) : Nat → List (List (Nat × Nat))
  | 0 => [[]]
  | i + 1 => lotsS n i (lotsI n i)
theorem lots_small : allN 7 (fun n => allN 7 fun i => Nat.ble (lotsI n i).length 100000) = true := by decide +kernel
theorem lots_len {n i : Nat} (hn : n ≤ 6) (hi : i ≤ 6) : (lotsI n i).length ≤ 100000 := Nat.le_of_ble_eq_true (allN_ok (allN_ok lots_small n (by omega)) i (by omega))
section
variable {n : Nat}
theorem add_step (hn : n ≤ 6) (first : Nat) (hf : first < n) (l : List (Nat × Nat)) (hl : l.length ≤ 1000) (W : List D) (hW : W.length ≤ 1000000) (x1 : Sl) (x5 : Sl) :
    l1_all_span_lots [.sh (.int (n : Nat)), x1, .sh (.int (first : Nat)), .sh (.list W), .sh (ltD l), x5, .un, .un] = some (.nx [.sh (.int (n : Nat)), x1, .sh (.int (first : Nat)), .sh (.list (W ++ (addL n first l).map ltD)), .sh (ltD l), .sh (.list ((nb (l.map (·.2))).map PyData.int)), .un, .un]) := by
  have c1 := comp_map (set := fName 6) (tst := mYes) (el := e2_all_span_lots) (vs := [6]) (ρ0 := [.sh (.int (n : Nat)), x1, .sh (.int (first : Nat)), .sh (.list W), .sh (ltD l), x5, .un, .un])
    prD (fun p => PyData.int (p.2 : Nat)) l [.sh (.int (n : Nat)), x1, .sh (.int (first : Nat)), .sh (.list W), .sh (ltD l), x5, .un, .un] (by simp [forget]) (fun p hp => by
      have g1 := prD_1 p
      generalize prD p = d at *
      generalize ltD l = LL at *
      refine ⟨[.sh (.int (n : Nat)), x1, .sh (.int (first : Nat)), .sh (.list W), .sh LL, x5, .sh d, .un], [.sh (.int (n : Nat)), x1, .sh (.int (first : Nat)), .sh (.list W), .sh LL, x5, .sh d, .un], by simp, by simp, ?_, by simp [forget]⟩
      simp [e2_all_span_lots, g1])
  have e2 : l.map (fun p => PyData.int (p.2 : Nat)) = (nb (l.map (·.2))).map PyData.int := by
    unfold nb
    rw [List.map_map, List.map_map]
    rfl
  rw [e2] at c1
  have c2 := comp_flt (set := fName 7) (tst := q2_all_span_lots) (el := e4_all_span_lots) (vs := [7]) (ρ0 := [.sh (.int (n : Nat)), x1, .sh (.int (first : Nat)), .sh (.list W), .sh (ltD l), .sh (.list ((nb (l.map (·.2))).map PyData.int)), .un, .un])
    (fun last => PyData.int ((last : Nat) : Int)) (fun last => ltD (l ++ [(first, last)])) (fun last => !decide (last ∈ l.map (·.2))) ((List.range (n - first)).map fun d => first + d) [.sh (.int (n : Nat)), x1, .sh (.int (first : Nat)), .sh (.list W), .sh (ltD l), .sh (.list ((nb (l.map (·.2))).map PyData.int)), .un, .un] (by simp [forget]) (fun last hlast => by
      have hin := in_lst true ((last : Nat) : Int) (nb (l.map (·.2)))
      have hdec : decide (((last : Nat) : Int) ∈ nb (l.map (·.2))) = decide (last ∈ l.map (·.2)) := decide_eq_decide.mpr mem_nb
      rw [hdec] at hin
      simp only [if_true] at hin
      have la : ltD (l ++ [(first, last)]) = .tuple (l.map prD ++ [.tuple [.int (first : Nat), .int (last : Nat)]]) := by unfold ltD; rw [List.map_append]; rfl
      have ll : (l.map prD).length + 1 ≤ 16777216 := by rw [List.length_map]; omega
      generalize (nb (l.map (·.2))).map PyData.int = LS at *
      unfold ltD at *
      generalize l.map prD = LL at *
      refine ⟨[.sh (.int (n : Nat)), x1, .sh (.int (first : Nat)), .sh (.list W), .sh (.tuple LL), .sh (.list LS), .un, .sh (.int (last : Nat))], [.sh (.int (n : Nat)), x1, .sh (.int (first : Nat)), .sh (.list W), .sh (.tuple LL), .sh (.list LS), .un, .sh (.int (last : Nat))], by simp, ?_, ?_⟩
      · generalize (!decide (last ∈ l.map (·.2))) = q at *
        simp [q2_all_span_lots, hin]
      · cases hb : (!decide (last ∈ l.map (·.2))) with
        | false => exact .inl ⟨rfl, by simp [forget]⟩
        | true =>
          refine .inr ⟨rfl, [.sh (.int (n : Nat)), x1, .sh (.int (first : Nat)), .sh (.list W), .sh (.tuple LL), .sh (.list LS), .un, .sh (.int (last : Nat))], ?_, by simp [forget]⟩
          rw [la]
          simp [e4_all_span_lots, ll])
  have er : ((List.range (n - first)).map fun d => first + d).map (fun last => PyData.int ((last : Nat) : Int)) = rangeD ((first : Nat) : Int) (n - first) := by
    rw [rangeD_map, List.map_map]
    rfl
  rw [er] at c2
  have ea : ((((List.range (n - first)).map fun d => first + d).filter fun last => !decide (last ∈ l.map (·.2))).map fun last => ltD (l ++ [(first, last)])) = (addL n first l).map ltD := by
    unfold addL
    rw [List.map_map]
    rfl
  rw [ea] at c2
  have al : (addL n first l).length ≤ 6 := by
    unfold addL
    rw [List.length_map]
    refine Nat.le_trans (List.length_filter_le _ _) ?_
    rw [List.length_map, List.length_range]
    omega
  have ll : (l.map prD).length ≤ 16777216 := by rw [List.length_map]; omega
  have k1 : cRng ((n : Nat) : Int) = true := cRng_of (by omega) (by omega)
  have k2 : cRng ((first : Nat) : Int) = true := cRng_of (by omega) (by omega)
  have tn : (((n : Nat) : Int) - ((first : Nat) : Int)).toNat = n - first := by omega
  have rl : (rangeD ((first : Nat) : Int) (n - first)).length ≤ 16777216 := by rw [rangeD_len]; omega
  have wl : W.length + ((addL n first l).map ltD).length ≤ 16777216 := by rw [List.length_map]; omega
  unfold l1_all_span_lots
  generalize (addL n first l).map ltD = AA at *
  generalize (nb (l.map (·.2))).map PyData.int = LS at *
  unfold ltD at *
  generalize l.map prD = LL at *
  generalize ((n : Nat) : Int) = nn at *
  generalize ((first : Nat) : Int) = ff at *
  simp [ll, c1, k1, k2, tn, rl, c2, wl, okOwn, back, forget]
theorem flat_take {α β : Type} (g : α → List β) {F : List α} {i : Nat} {l : α} (h : F[i]? = some l) : (F.take (i + 1)).flatMap g = (F.take i).flatMap g ++ g l := by
  obtain ⟨hlt, hxx⟩ := List.getElem?_eq_some_iff.mp h
  rw [List.take_succ_eq_append_getElem hlt, hxx, List.flatMap_append]
  simp
theorem flat_le {α β : Type} (g : α → List β) (F : List α) (i : Nat) : ((F.take i).flatMap g).length ≤ (F.flatMap g).length := by
  conv => rhs; rw [← List.take_append_drop i F, List.flatMap_append, List.length_append]
  omega
theorem lotsI_each {n : Nat} : ∀ (i : Nat), ∀ l ∈ lotsI n i, l.length ≤ i
  | 0, l, h => by
    rw [List.mem_singleton.mp h]
    exact Nat.le_refl _
  | i + 1, l, h => by
    have h' : l ∈ lotsI n i ++ (lotsI n i).flatMap (addL n i) := h
    rcases List.mem_append.mp h' with h | h
    · have := lotsI_each i l h
      omega
    · obtain ⟨l0, h0, h1⟩ := List.mem_flatMap.mp h
      unfold addL at h1
      obtain ⟨last, _, rfl⟩ := List.mem_map.mp h1
      have := lotsI_each i l0 h0
      rw [List.length_append, List.length_singleton]
      omega
theorem lots_step (hn : n ≤ 6) (i : Nat) (hi : i < n) (x3 x4 x5 : Sl) :
    ∃ y3 y4 y5, l2_all_span_lots [.sh (.int (n : Nat)), .sh (.list ((lotsI n i).map ltD)), .sh (.int (i : Nat)), x3, x4, x5, .un, .un] = some (.nx [.sh (.int (n : Nat)), .sh (.list ((lotsI n (i + 1)).map ltD)), .sh (.int (i : Nat)), y3, y4, y5, .un, .un]) := by
  have hL := lots_len hn (show i ≤ 6 by omega)
  have hL2 := lots_len hn (show i + 1 ≤ 6 by omega)
  have hS : (lotsI n (i + 1)).length = (lotsI n i).length + ((lotsI n i).flatMap (addL n i)).length := by
    show (lotsI n i ++ (lotsI n i).flatMap (addL n i)).length = _
    rw [List.length_append]
  have loop := forD_inv (set := fName 4) (body := l1_all_span_lots) ((lotsI n i).map ltD)
    (fun j ρ => ∃ x4 x5, ρ = [.sh (.int (n : Nat)), .sh (.list ((lotsI n i).map ltD)), .sh (.int (i : Nat)), .sh (.list ((lotsI n i ++ ((lotsI n i).take j).flatMap (addL n i)).map ltD)), x4, x5, .un, .un])
    [.sh (.int (n : Nat)), .sh (.list ((lotsI n i).map ltD)), .sh (.int (i : Nat)), .sh (.list ((lotsI n i).map ltD)), x4, x5, .un, .un] ?_ ⟨x4, x5, by simp⟩
  · obtain ⟨ρ', e, y4, y5, rfl⟩ := loop
    rw [List.length_map, List.take_length] at e
    have e2 : lotsI n i ++ (lotsI n i).flatMap (addL n i) = lotsI n (i + 1) := rfl
    rw [e2] at e
    refine ⟨.sh (.list ((lotsI n (i + 1)).map ltD)), y4, y5, ?_⟩
    unfold l2_all_span_lots
    generalize (lotsI n (i + 1)).map ltD = A1 at *
    generalize (lotsI n i).map ltD = A0 at *
    simp [e]
  · rintro j d ρ hd ⟨x4, x5, rfl⟩
    rw [List.getElem?_map] at hd
    obtain ⟨l, hl, rfl⟩ := Option.map_eq_some_iff.mp hd
    have hlm := List.mem_of_getElem? hl
    have hle := lotsI_each i l hlm
    have fl := flat_le (addL n i) (lotsI n i) j
    have st := add_step hn i hi l (by omega) ((lotsI n i ++ ((lotsI n i).take j).flatMap (addL n i)).map ltD) (by rw [List.length_map, List.length_append]; omega) (.sh (.list ((lotsI n i).map ltD))) x5
    refine ⟨[.sh (.int (n : Nat)), .sh (.list ((lotsI n i).map ltD)), .sh (.int (i : Nat)), .sh (.list ((lotsI n i ++ ((lotsI n i).take j).flatMap (addL n i)).map ltD)), .sh (ltD l), x5, .un, .un], _, by simp, .inl st, .sh (ltD l), .sh (.list ((nb (l.map (·.2))).map PyData.int)), ?_⟩
    rw [flat_take (addL n i) hl, ← List.append_assoc, List.map_append (l₁ := lotsI n i ++ _)]
theorem lot_alike (a b : List (Nat × Nat)) : PySem.W.alike (ltD a) (ltD b) = true := by
  have key : ∀ a b : List (Nat × Nat), PySem.W.alikeAll (a.map prD) (b.map prD) = true := by
    intro a
    induction a with
    | nil => intro b; simp [PySem.W.alikeAll]
    | cons p a ih =>
      intro b
      cases b with
      | nil => simp [PySem.W.alikeAll]
      | cons q b =>
        rw [List.map_cons, List.map_cons, PySem.W.alikeAll, ih b]
        simp [prD, PySem.W.alike, PySem.W.alikeAll]
  unfold ltD
  simpa [PySem.W.alike] using key a b
theorem lot_depth (a : List (Nat × Nat)) : (ltD a).depth ≤ 60 := by
  have key : ∀ a : List (Nat × Nat), PyData.depthAll (a.map prD) ≤ 2 := by
    intro a
    induction a with
    | nil => decide
    | cons p a ih =>
      rw [List.map_cons]
      have h1 : (prD p).depth = 1 := rfl
      have h2 : PyData.depthAll (prD p :: a.map prD) = max (prD p).depth (PyData.depthAll (a.map prD)) := by simp only [PyData.depthAll]
      rw [h2, h1]
      omega
  have := key a
  unfold ltD
  rw [PyData.depth]
  omega
theorem lot_noD (a : List (Nat × Nat)) : noD (ltD a) = true := by
  unfold ltD
  rw [noD]
  induction a with
  | nil => rfl
  | cons p a ih => rw [List.map_cons, noDs, ih]; rfl
theorem okSort_lots (A : List (List (Nat × Nat))) : okSortE (A.map ltD) = true := by
  unfold okSortE
  rw [Bool.and_eq_true, Bool.and_eq_true]
  refine ⟨⟨?_, ?_⟩, ?_⟩
  · rw [List.all_eq_true]
    intro d hd
    rw [List.all_eq_true]
    intro e he
    obtain ⟨x, _, rfl⟩ := List.mem_map.mp hd
    obtain ⟨y, _, rfl⟩ := List.mem_map.mp he
    exact lot_alike x y
  · rw [List.all_eq_true]
    intro d hd
    obtain ⟨x, _, rfl⟩ := List.mem_map.mp hd
    rfl
  · rw [List.all_eq_true]
    intro d hd
    obtain ⟨x, _, rfl⟩ := List.mem_map.mp hd
    rw [Bool.and_eq_true, decide_eq_true_eq]
    exact ⟨lot_depth x, lot_noD x⟩
theorem all_lots_ok (hn : n ≤ 6) : F_all_span_lots [.int (n : Nat)] = some (.list (dSortedR false ((lotsI n n).map ltD))) := by
  have loop := forD_inv (set := fName 2) (body := l2_all_span_lots) (rangeD 0 n)
    (fun i ρ => ∃ x2 x3 x4 x5, ρ = [.sh (.int (n : Nat)), .sh (.list ((lotsI n i).map ltD)), x2, x3, x4, x5, .un, .un])
    [.sh (.int (n : Nat)), .sh (.list [.tuple []]), .un, .un, .un, .un, .un, .un] ?_ ⟨.un, .un, .un, .un, rfl⟩
  · obtain ⟨ρ', e, x2, x3, x4, x5, rfl⟩ := loop
    rw [rangeD_len] at e
    have c1 : cRng ((n : Nat) : Int) = true := cRng_of (by omega) (by omega)
    have so := dSortedE_l (b := false) (okSort_lots (lotsI n n))
    unfold F_all_span_lots g_all_span_lots
    rw [runF_ev]
    generalize dSortedR false ((lotsI n n).map ltD) = S at *
    generalize (lotsI n n).map ltD = A1 at *
    simp [c1, e, so]
  · rintro i d ρ hd ⟨x2, x3, x4, x5, rfl⟩
    obtain ⟨hi, rfl⟩ := rangeD_at hd
    rw [Int.zero_add]
    obtain ⟨y3, y4, y5, st⟩ := lots_step hn i hi x3 x4 x5
    exact ⟨[.sh (.int (n : Nat)), .sh (.list ((lotsI n i).map ltD)), .sh (.int (i : Nat)), x3, x4, x5, .un, .un], _, by simp, .inl st, .sh (.int (i : Nat)), y3, y4, y5, rfl⟩
end
end K73

/-! k73: _law_partings, _law_free: the text -/
namespace K73
open PySem Nt L2
def joinB (k : Nat) (P : List (List Nat)) (i : Nat) : List (List Nat) := P.take i ++ [P.getD i [] ++ [k]] ++ P.drop (i + 1)
def growP (k : Nat) (P : List (List Nat)) : List (List (List Nat)) := (P ++ [[k]]) :: (List.range P.length).map (joinB k P)
def partsI : Nat → List (List (List Nat))
  | 0 => [[[0]]]
  | i + 1 => (partsI i).flatMap (growP (i + 1))
def ptD (P : List (List Nat)) : D := .tuple (P.map blD)
theorem parts_small : allN 7 (fun i => Nat.ble (partsI i).length 100000) = true := by decide +kernel
theorem parts_len {i : Nat} (hi : i ≤ 6) : (partsI i).length ≤ 100000 := Nat.le_of_ble_eq_true (allN_ok parts_small i (by omega))
theorem parts_each : ∀ (i : Nat), ∀ P ∈ partsI i, P.length ≤ i + 1 ∧ ∀ b ∈ P, b.length ≤ i + 1
  | 0, P, h => by
    rw [List.mem_singleton.mp h]
    refine ⟨by decide, fun b hb => ?_⟩
    rw [List.mem_singleton.mp hb]
    decide
  | i + 1, P, h => by
    obtain ⟨P0, h0, h1⟩ := List.mem_flatMap.mp (show P ∈ (partsI i).flatMap (growP (i + 1)) from h)
    obtain ⟨a1, a2⟩ := parts_each i P0 h0
    unfold growP at h1
    rcases List.mem_cons.mp h1 with rfl | h1
    · refine ⟨by rw [List.length_append, List.length_singleton]; omega, fun b hb => ?_⟩
      rcases List.mem_append.mp hb with hb | hb
      · have := a2 b hb; omega
      · rw [List.mem_singleton.mp hb, List.length_singleton]; omega
    · obtain ⟨j, hj, rfl⟩ := List.mem_map.mp h1
      have hj' := List.mem_range.mp hj
      unfold joinB
      refine ⟨by rw [List.length_append, List.length_append, List.length_take, List.length_drop, List.length_singleton]; omega, fun b hb => ?_⟩
      rcases List.mem_append.mp hb with hb | hb
      · rcases List.mem_append.mp hb with hb | hb
        · have := a2 b (List.mem_of_mem_take hb); omega
        · rw [List.mem_singleton.mp hb, List.length_append, List.length_singleton, List.getD_eq_getElem?_getD, List.getElem?_eq_getElem hj']
          have := a2 _ (List.getElem_mem hj')
          show P0[j].length + 1 ≤ _
          omega
      · have := a2 b (List.mem_of_mem_drop hb); omega
section
variable {n : Nat}
theorem join_ev (k : Nat) {P : List (List Nat)} (hP : P.length ≤ 100) (hb : ∀ b ∈ P, b.length ≤ 100) {i : Nat} (hi : i < P.length) (x0 x1 x3 : Sl) :
    e1__law_partings [x0, x1, .sh (.int (k : Nat)), x3, .sh (ptD P), .sh (.int (i : Nat))] = some (ptD (joinB k P i), [x0, x1, .sh (.int (k : Nat)), x3, .sh (ptD P), .sh (.int (i : Nat))]) := by
  have g : dGetX (ptD P) (.int (i : Nat)) = some (blD (P.getD i [])) := by
    show atI (P.map blD) _ = _
    rw [atI_nat _ _ (by rw [List.length_map]; exact hi), List.getElem_map, List.getD_eq_getElem?_getD, List.getElem?_eq_getElem hi]
    rfl
  have c1 := cut_to (P.map blD) (r := ((i : Nat) : Int)) (by omega)
  have c2 := cut_from (P.map blD) (r := ((i : Nat) : Int) + 1) (by omega)
  have t1 : (((i : Nat) : Int)).toNat = i := Int.toNat_natCast i
  have t2 : (((i : Nat) : Int) + 1).toNat = i + 1 := by omega
  rw [t1] at c1
  rw [t2] at c2
  have bl : (P.getD i []).length ≤ 100 := by
    rw [List.getD_eq_getElem?_getD, List.getElem?_eq_getElem hi]
    exact hb _ (List.getElem_mem hi)
  have e : ptD (joinB k P i) = .tuple (((P.map blD).take i ++ [blD (P.getD i [] ++ [k])]) ++ (P.map blD).drop (i + 1)) := by
    unfold ptD joinB
    rw [List.map_append, List.map_append, List.map_take, List.map_drop]
    rfl
  have eb : blD (P.getD i [] ++ [k]) = .tuple (bi (P.getD i []) ++ [.int (k : Nat)]) := by
    show PyData.tuple (bi (P.getD i [] ++ [k])) = _
    rw [bi_app]
    rfl
  have eg : blD (P.getD i []) = .tuple (bi (P.getD i [])) := rfl
  have l1 : (bi (P.getD i [])).length + 1 ≤ 16777216 := by unfold bi; rw [List.length_map]; omega
  have l2 : ((P.map blD).take i).length + 1 ≤ 16777216 := by rw [List.length_take, List.length_map]; omega
  have l3 : ((P.map blD).take i).length + 1 + ((P.map blD).drop (i + 1)).length ≤ 16777216 := by rw [List.length_take, List.length_drop, List.length_map]; omega
  rw [e, eb]
  rw [eg] at g
  unfold ptD at *
  generalize bi (P.getD i []) = B at *
  generalize (P.map blD).take i = T1 at *
  generalize (P.map blD).drop (i + 1) = T2 at *
  generalize P.map blD = PP at *
  simp [e1__law_partings, g, c1, c2, l1, l2, l3]
theorem grow_step (k : Nat) {P : List (List Nat)} (hP : P.length ≤ 100) (hb : ∀ b ∈ P, b.length ≤ 100) (W : List D) (hW : W.length ≤ 1000000) (x0 x1 : Sl) :
    l1__law_partings [x0, x1, .sh (.int (k : Nat)), .ow 1 (.list W), .sh (ptD P), .un] = some (.nx [x0, x1, .sh (.int (k : Nat)), .ow 1 (.list (W ++ (growP k P).map ptD)), .sh (ptD P), .un]) := by
  have cc := fun W' : List D => comp_map (set := fName 5) (tst := mYes) (el := e1__law_partings) (vs := [5]) (ρ0 := [x0, x1, .sh (.int (k : Nat)), .ow 1 (.list W'), .sh (ptD P), .un])
    (fun i => PyData.int ((i : Nat) : Int)) (fun i => ptD (joinB k P i)) (List.range P.length) [x0, x1, .sh (.int (k : Nat)), .ow 1 (.list W'), .sh (ptD P), .un] (by simp [forget]) (fun i hi =>
      ⟨[x0, x1, .sh (.int (k : Nat)), .ow 1 (.list W'), .sh (ptD P), .sh (.int (i : Nat))], [x0, x1, .sh (.int (k : Nat)), .ow 1 (.list W'), .sh (ptD P), .sh (.int (i : Nat))], by simp, by simp, join_ev k hP hb (List.mem_range.mp hi) _ _ _, by simp [forget]⟩)
  have c1 := cc (W ++ [ptD (P ++ [[k]])])
  rw [← range_nI] at c1
  have e1 : ptD (P ++ [[k]]) = .tuple (P.map blD ++ [.tuple [.int (k : Nat)]]) := by unfold ptD; rw [List.map_append]; rfl
  have e2 : (growP k P).map ptD = ptD (P ++ [[k]]) :: (List.range P.length).map fun i => ptD (joinB k P i) := by
    unfold growP
    rw [List.map_cons, List.map_map]
    rfl
  have lp : dLen [ptD P] = some (.int (P.length : Nat)) := by
    show dLen [.tuple (P.map blD)] = _
    rw [dLen_t, List.length_map]
  have k1 : cRng ((P.length : Nat) : Int) = true := cRng_of (by omega) (by omega)
  have rl : (rangeD 0 P.length).length ≤ 16777216 := by rw [rangeD_len]; omega
  have l1 : (P.map blD).length + 1 ≤ 16777216 := by rw [List.length_map]; omega
  have l2 : W.length < 16777216 := by omega
  have l3 : (W ++ [ptD (P ++ [[k]])]).length + ((List.range P.length).map fun i => ptD (joinB k P i)).length ≤ 16777216 := by
    rw [List.length_append, List.length_map, List.length_range, List.length_singleton]; omega
  have e3 : W ++ (ptD (P ++ [[k]]) :: (List.range P.length).map fun i => ptD (joinB k P i)) = (W ++ [ptD (P ++ [[k]])]) ++ (List.range P.length).map fun i => ptD (joinB k P i) := by rw [List.append_assoc]; rfl
  have ap : dAdd (ptD P) (.tuple [.tuple [.int (k : Nat)]]) = some (ptD (P ++ [[k]])) := by
    rw [e1]
    show dAdd (.tuple (P.map blD)) _ = _
    rw [dAdd_t, szI_pos (show (P.map blD).length + [PyData.tuple [PyData.int (k : Nat)]].length ≤ 16777216 from l1)]
  rw [e2, e3]
  unfold l1__law_partings
  generalize (List.range P.length).map (fun i => ptD (joinB k P i)) = J at *
  generalize ptD (P ++ [[k]]) = Q at *
  generalize ptD P = PP at *
  simp at c1 l3
  simp [ap, l2, lp, k1, rl, c1, l3, okOwn, back, forget]
end
end K73

/-! k73: _law_partings, _law_free -/
namespace K73
open PySem Nt L2
section
variable {n : Nat}
theorem parts_step (hn : n ≤ 6) (i : Nat) (hi : i < n) (x3 x4 : Sl) :
    ∃ y3 y4, l2__law_partings [.sh (.int (n : Nat)), .sh (.list ((partsI i).map ptD)), .sh (.int ((i + 1 : Nat) : Int)), x3, x4, .un] = some (.nx [.sh (.int (n : Nat)), .sh (.list ((partsI (i + 1)).map ptD)), .sh (.int ((i + 1 : Nat) : Int)), y3, y4, .un]) := by
  have hL2 := parts_len (show i + 1 ≤ 6 by omega)
  have loop := forD_inv (set := fName 4) (body := l1__law_partings) ((partsI i).map ptD)
    (fun j ρ => ∃ x4, ρ = [.sh (.int (n : Nat)), .sh (.list ((partsI i).map ptD)), .sh (.int ((i + 1 : Nat) : Int)), .ow 1 (.list ((((partsI i).take j).flatMap (growP (i + 1))).map ptD)), x4, .un])
    [.sh (.int (n : Nat)), .sh (.list ((partsI i).map ptD)), .sh (.int ((i + 1 : Nat) : Int)), .ow 1 (.list []), x4, .un] ?_ ⟨x4, rfl⟩
  · obtain ⟨ρ', e, y4, rfl⟩ := loop
    rw [List.length_map, List.take_length] at e
    have e2 : (partsI i).flatMap (growP (i + 1)) = partsI (i + 1) := rfl
    rw [e2] at e
    refine ⟨.sh (.list ((partsI (i + 1)).map ptD)), y4, ?_⟩
    unfold l2__law_partings
    generalize (partsI (i + 1)).map ptD = A1 at *
    generalize (partsI i).map ptD = A0 at *
    generalize ((i + 1 : Nat) : Int) = ii at *
    simp [e]
  · rintro j d ρ hd ⟨x4, rfl⟩
    rw [List.getElem?_map] at hd
    obtain ⟨P, hP, rfl⟩ := Option.map_eq_some_iff.mp hd
    have hPm := List.mem_of_getElem? hP
    obtain ⟨a1, a2⟩ := parts_each i P hPm
    have fl := flat_le (growP (i + 1)) (partsI i) j
    have e2 : (partsI i).flatMap (growP (i + 1)) = partsI (i + 1) := rfl
    rw [e2] at fl
    have st := grow_step (i + 1) (P := P) (by omega) (fun b hb => by have := a2 b hb; omega) ((((partsI i).take j).flatMap (growP (i + 1))).map ptD) (by rw [List.length_map]; omega) (.sh (.int (n : Nat))) (.sh (.list ((partsI i).map ptD)))
    refine ⟨[.sh (.int (n : Nat)), .sh (.list ((partsI i).map ptD)), .sh (.int ((i + 1 : Nat) : Int)), .ow 1 (.list ((((partsI i).take j).flatMap (growP (i + 1))).map ptD)), .sh (ptD P), .un], _, by simp, .inl st, .sh (ptD P), ?_⟩
    rw [flat_take (growP (i + 1)) hP, List.map_append]
theorem partings_ok (hn : n ≤ 6) : F__law_partings [.int (n : Nat)] = some (.list ((partsI n).map ptD)) := by
  have loop := forD_inv (set := fName 2) (body := l2__law_partings) (rangeD 1 n)
    (fun i ρ => ∃ x2 x3 x4, ρ = [.sh (.int (n : Nat)), .sh (.list ((partsI i).map ptD)), x2, x3, x4, .un])
    [.sh (.int (n : Nat)), .sh (.list [.tuple [.tuple [.int 0]]]), .un, .un, .un, .un] ?_ ⟨.un, .un, .un, rfl⟩
  · obtain ⟨ρ', e, x2, x3, x4, rfl⟩ := loop
    rw [rangeD_len] at e
    have c1 : cRng (((n : Nat) : Int) + 1) = true := cRng_of (by omega) (by omega)
    have c2 : cRng 1 = true := by decide
    have tn : (((n : Nat) : Int) + 1 - 1).toNat = n := by omega
    unfold F__law_partings g__law_partings
    rw [runF_ev]
    generalize (partsI n).map ptD = A1 at *
    generalize ((n : Nat) : Int) = nn at *
    simp at tn
    simp [c1, c2, tn, e]
  · rintro i d ρ hd ⟨x2, x3, x4, rfl⟩
    obtain ⟨hi, rfl⟩ := rangeD_at hd
    have c1 : (1 : Int) + ((i : Nat) : Int) = ((i + 1 : Nat) : Int) := by omega
    rw [c1]
    obtain ⟨y3, y4, st⟩ := parts_step hn i hi x3 x4
    exact ⟨[.sh (.int (n : Nat)), .sh (.list ((partsI i).map ptD)), .sh (.int ((i + 1 : Nat) : Int)), x3, x4, .un], _, by simp, .inl st, .sh (.int ((i + 1 : Nat) : Int)), y3, y4, rfl⟩
end
/-! ### the free places of a lot -/
def inr (p q : Nat × Nat) : Bool := decide (p.1 < q.1) && decide (q.2 < p.2)
def frT (L : List (Nat × Nat)) (p : Nat × Nat) : Int := (p.2 : Int) - (p.1 : Int) - 1 - ((L.countP (inr p) : Nat) : Int)
def frI (L : List (Nat × Nat)) : Int := ((L.filter fun p => decide (p.1 < p.2)).map (frT L)).sum
theorem free_ok {L : List (Nat × Nat)} (hl : L.length ≤ 1000) : F__law_free [ltD L] = some (.int (frI L)) := by
  obtain ⟨LL, hLL⟩ : ∃ LL, L.map prD = LL := ⟨_, rfl⟩
  have ll : LL.length ≤ 16777216 := by rw [← hLL, List.length_map]; omega
  have inner : ∀ p : Nat × Nat, e2__law_free [.sh (.tuple LL), .un, .un, .sh (.int (p.1 : Nat)), .sh (.int (p.2 : Nat))] = some (.int (frT L p), [.sh (.tuple LL), .un, .un, .sh (.int (p.1 : Nat)), .sh (.int (p.2 : Nat))]) := fun p => by
    have cc := comp_flt (set := fSeq 2 (fCons (fName 1) (fCons (fName 2) fNil))) (tst := q1__law_free) (el := e1__law_free) (vs := [1, 2]) (ρ0 := [.sh (.tuple LL), .un, .un, .sh (.int (p.1 : Nat)), .sh (.int (p.2 : Nat))])
      prD (fun _ => PyData.int 1) (inr p) L [.sh (.tuple LL), .un, .un, .sh (.int (p.1 : Nat)), .sh (.int (p.2 : Nat))] (by simp [forget]) (fun q hq => by
        refine ⟨[.sh (.tuple LL), .sh (.int (q.1 : Nat)), .sh (.int (q.2 : Nat)), .sh (.int (p.1 : Nat)), .sh (.int (p.2 : Nat))], [.sh (.tuple LL), .sh (.int (q.1 : Nat)), .sh (.int (q.2 : Nat)), .sh (.int (p.1 : Nat)), .sh (.int (p.2 : Nat))], by unfold prD; simp, ?_, ?_⟩
        · have d1 : dLt (.int (p.1 : Nat)) (.int (q.1 : Nat)) = some (.bool (decide (p.1 < q.1))) := by
            have : decide (((p.1 : Nat) : Int) < ((q.1 : Nat) : Int)) = decide (p.1 < q.1) := decide_eq_decide.mpr (by omega)
            simp
          have d2 : dLt (.int (q.2 : Nat)) (.int (p.2 : Nat)) = some (.bool (decide (q.2 < p.2))) := by
            have : decide (((q.2 : Nat) : Int) < ((p.2 : Nat) : Int)) = decide (q.2 < p.2) := decide_eq_decide.mpr (by omega)
            simp
          unfold inr
          generalize decide (p.1 < q.1) = b1 at *
          generalize decide (q.2 < p.2) = b2 at *
          generalize ((p.1 : Nat) : Int) = z1 at *
          generalize ((p.2 : Nat) : Int) = z2 at *
          generalize ((q.1 : Nat) : Int) = z3 at *
          generalize ((q.2 : Nat) : Int) = z4 at *
          cases b1 <;> cases b2 <;> simp [q1__law_free, d1, d2, -dLt_ev]
        · cases hb : inr p q with
          | false => exact .inl ⟨rfl, by simp [forget]⟩
          | true => exact .inr ⟨rfl, [.sh (.tuple LL), .sh (.int (q.1 : Nat)), .sh (.int (q.2 : Nat)), .sh (.int (p.1 : Nat)), .sh (.int (p.2 : Nat))], by simp [e1__law_free], by simp [forget]⟩)
    rw [hLL] at cc
    have fl : ((L.filter (inr p)).map fun _ => PyData.int 1).length = L.countP (inr p) := by rw [List.length_map, List.countP_eq_length_filter]
    unfold frT
    generalize (L.filter (inr p)).map (fun _ => PyData.int 1) = W at *
    generalize L.countP (inr p) = N at *
    simp [e2__law_free, ll, cc, fl, okOwn, back, forget]
  have cc := comp_flt (set := fSeq 2 (fCons (fName 3) (fCons (fName 4) fNil))) (tst := q2__law_free) (el := e2__law_free) (vs := [3, 4]) (ρ0 := [.sh (.tuple LL), .un, .un, .un, .un])
    prD (fun p => PyData.int (frT L p)) (fun p => decide (p.1 < p.2)) L [.sh (.tuple LL), .un, .un, .un, .un] (by simp [forget]) (fun p hp => by
      refine ⟨[.sh (.tuple LL), .un, .un, .sh (.int (p.1 : Nat)), .sh (.int (p.2 : Nat))], [.sh (.tuple LL), .un, .un, .sh (.int (p.1 : Nat)), .sh (.int (p.2 : Nat))], by unfold prD; simp, ?_, ?_⟩
      · simp [q2__law_free]
      · by_cases h : p.1 < p.2
        · exact .inr ⟨decide_eq_true h, [.sh (.tuple LL), .un, .un, .sh (.int (p.1 : Nat)), .sh (.int (p.2 : Nat))], inner p, by simp [forget]⟩
        · exact .inl ⟨decide_eq_false h, by simp [forget]⟩)
  rw [hLL] at cc
  have ds : dSum [.list ((L.filter fun p => decide (p.1 < p.2)).map fun p => PyData.int (frT L p))] = some (.int (frI L)) := by
    have : ((L.filter fun p => decide (p.1 < p.2)).map fun p => PyData.int (frT L p)) = ((L.filter fun p => decide (p.1 < p.2)).map (frT L)).map PyData.int := by rw [List.map_map]; rfl
    rw [this, dSum_ev]
    rfl
  unfold F__law_free g__law_free ltD
  rw [runF_ev, hLL]
  generalize (L.filter fun p => decide (p.1 < p.2)).map (fun p => PyData.int (frT L p)) = W at *
  generalize frI L = V at *
  simp [ll, cc, ds, okOwn, back, forget]
end K73

/-! k73: all lots and all partings of up to six, by evaluation -/
namespace K73
open PySem Nt L2
def insP (p : Nat × Nat) : List (Nat × Nat) → List (Nat × Nat)
  | [] => [p]
  | q :: t => match Nat.ble p.1 q.1 with
    | true => p :: q :: t
    | false => q :: insP p t
def isP : List (Nat × Nat) → List (Nat × Nat)
  | [] => []
  | p :: l => insP p (isP l)
def lotOf (P : List (List Nat)) : List (Nat × Nat) := isP (Ed P)
def ascB : List (Nat × Nat) → Bool
  | [] => true
  | [_] => true
  | p :: q :: t => Nat.ble (p.1 + 1) q.1 && ascB (q :: t)
def ascN : List Nat → Bool
  | [] => true
  | [_] => true
  | a :: b :: t => Nat.ble (a + 1) b && ascN (b :: t)
def code : List (Nat × Nat) → Nat
  | [] => 0
  | p :: t => (p.1 * 8 + p.2 + 1) + 64 * code t
def insN (a : Nat) : List Nat → List Nat
  | [] => [a]
  | b :: t => match Nat.ble a b with
    | true => a :: b :: t
    | false => b :: insN a t
def srtNn : List Nat → List Nat
  | [] => []
  | a :: l => insN a (srtNn l)
def eqL : List Nat → List Nat → Bool
  | [], [] => true
  | a :: l, b :: m => Nat.beq a b && eqL l m
  | _, _ => false
theorem fA : allN 7 (fun n => (partsI n).all fun P => P.all ascN && ascB (lotOf P)) = true := by decide +kernel
theorem fD : allN 7 (fun n => Nat.beq (partsI n).length ([1, 2, 5, 15, 52, 203, 877].getD n 0)) = true := by decide +kernel
theorem fB : allN 7 (fun n => eqL (srtNn ((partsI n).map fun P => code (lotOf P))) (srtNn ((lotsI n n).map code))) = true := by decide +kernel
theorem fC : allN 7 (fun n => ((lotsI n n).all fun l => l.all fun p => Nat.ble p.1 6 && Nat.ble p.2 6) && (partsI n).all fun P => (lotOf P).all fun p => Nat.ble p.1 6 && Nat.ble p.2 6) = true := by decide +kernel
theorem fE : allN 7 (fun n => (lotsI n n).all fun l => decide (0 ≤ frI l) && decide (frI l ≤ 60)) = true := by decide +kernel
def sumB (n r : Nat) : Nat := ((lotsI n n).filter fun l => l.length == r).foldl (fun a l => a + 2 ^ (frI l).toNat) 0
theorem fF : allN 7 (fun n => allN 7 fun r => Nat.ble (n + 1) r || Nat.beq (sumB n r) ((rowN n).getD r 0)) = true := by decide +kernel
end K73

/-! k73: all lots and all partings agree -/
namespace K73
open PySem Nt L2
theorem insP_perm (p : Nat × Nat) : ∀ l, (insP p l).Perm (p :: l)
  | [] => List.Perm.refl _
  | q :: t => by
    unfold insP
    split
    · exact List.Perm.refl _
    · exact ((insP_perm p t).cons q).trans (List.Perm.swap p q t)
theorem isP_perm : ∀ l, (isP l).Perm l
  | [] => List.Perm.refl _
  | p :: l => (insP_perm p (isP l)).trans ((isP_perm l).cons p)
theorem insN_perm (a : Nat) : ∀ l, (insN a l).Perm (a :: l)
  | [] => List.Perm.refl _
  | b :: t => by
    unfold insN
    split
    · exact List.Perm.refl _
    · exact ((insN_perm a t).cons b).trans (List.Perm.swap a b t)
theorem srtNn_perm : ∀ l, (srtNn l).Perm l
  | [] => List.Perm.refl _
  | a :: l => (insN_perm a (srtNn l)).trans ((srtNn_perm l).cons a)
theorem eqL_eq : ∀ {l m : List Nat}, eqL l m = true → l = m
  | [], [], _ => rfl
  | a :: l, b :: m, h => by
    unfold eqL at h
    rw [Bool.and_eq_true] at h
    rw [Nat.eq_of_beq_eq_true h.1, eqL_eq h.2]
  | [], _ :: _, h => by cases h
  | _ :: _, [], h => by cases h
theorem ascB_pw : ∀ {l : List (Nat × Nat)}, ascB l = true → l.Pairwise fun p q => p.1 < q.1
  | [], _ => .nil
  | [p], _ => List.pairwise_singleton _ _
  | p :: q :: t, h => by
    unfold ascB at h
    rw [Bool.and_eq_true] at h
    have h1 := Nat.le_of_ble_eq_true h.1
    have ih := ascB_pw h.2
    refine List.pairwise_cons.mpr ⟨fun r hr => ?_, ih⟩
    rcases List.mem_cons.mp hr with e | hr
    · rw [e]; omega
    · have := (List.pairwise_cons.mp ih).1 r hr
      omega
theorem ascN_pw : ∀ {l : List Nat}, ascN l = true → l.Pairwise (· < ·)
  | [], _ => .nil
  | [p], _ => List.pairwise_singleton _ _
  | p :: q :: t, h => by
    unfold ascN at h
    rw [Bool.and_eq_true] at h
    have h1 := Nat.le_of_ble_eq_true h.1
    have ih := ascN_pw h.2
    refine List.pairwise_cons.mpr ⟨fun r hr => ?_, ih⟩
    rcases List.mem_cons.mp hr with e | hr
    · rw [e]; omega
    · have := (List.pairwise_cons.mp ih).1 r hr
      omega
def sm6 (l : List (Nat × Nat)) : Prop := ∀ p ∈ l, p.1 ≤ 6 ∧ p.2 ≤ 6
theorem code_inj : ∀ {a b : List (Nat × Nat)}, sm6 a → sm6 b → code a = code b → a = b
  | [], [], _, _, _ => rfl
  | [], q :: b, _, hb, h => by
    unfold code at h
    omega
  | p :: a, [], ha, _, h => by
    unfold code at h
    omega
  | p :: a, q :: b, ha, hb, h => by
    have h1 := ha p (.head _)
    have h2 := hb q (.head _)
    unfold code at h
    have e1 : code a = code b := by omega
    have e2 : p = q := Prod.ext (by omega) (by omega)
    rw [e2, code_inj (fun r hr => ha r (.tail _ hr)) (fun r hr => hb r (.tail _ hr)) e1]
theorem map_code_inj : ∀ {A B : List (List (Nat × Nat))}, (∀ l ∈ A, sm6 l) → (∀ l ∈ B, sm6 l) → A.map code = B.map code → A = B
  | [], [], _, _, _ => rfl
  | [], _ :: _, _, _, h => by cases h
  | _ :: _, [], _, _, h => by cases h
  | a :: A, b :: B, hA, hB, h => by
    rw [List.map_cons, List.map_cons] at h
    obtain ⟨h1, h2⟩ := List.cons.inj h
    rw [code_inj (hA a (.head _)) (hB b (.head _)) h1, map_code_inj (fun l hl => hA l (.tail _ hl)) (fun l hl => hB l (.tail _ hl)) h2]
section
variable {n : Nat}
theorem every_perm (hn : n ≤ 6) : ((partsI n).map lotOf).Perm (lotsI n n) := by
  have hB := eqL_eq (allN_ok fB n (by omega))
  have hC := allN_ok fC n (by omega)
  rw [Bool.and_eq_true, List.all_eq_true, List.all_eq_true] at hC
  have s1 : ∀ l ∈ lotsI n n, sm6 l := fun l hl p hp => by
    have := List.all_eq_true.mp (hC.1 l hl) p hp
    rw [Bool.and_eq_true] at this
    exact ⟨Nat.le_of_ble_eq_true this.1, Nat.le_of_ble_eq_true this.2⟩
  have s2 : ∀ l ∈ (partsI n).map lotOf, sm6 l := fun l hl p hp => by
    obtain ⟨P, hP, rfl⟩ := List.mem_map.mp hl
    have := List.all_eq_true.mp (hC.2 P hP) p hp
    rw [Bool.and_eq_true] at this
    exact ⟨Nat.le_of_ble_eq_true this.1, Nat.le_of_ble_eq_true this.2⟩
  have pm : (((partsI n).map lotOf).map code).Perm ((lotsI n n).map code) := by
    rw [List.map_map]
    have h1 := srtNn_perm ((partsI n).map fun P => code (lotOf P))
    rw [hB] at h1
    exact h1.symm.trans (srtNn_perm _)
  obtain ⟨A, eA, pA⟩ := perm_mapN code pm (lotsI n n) rfl
  have : (partsI n).map lotOf = A := map_code_inj s2 (fun l hl => s1 l (pA.mem_iff.mp hl)) eA
  rw [this]
  exact pA
theorem good_part (hn : n ≤ 6) {P : List (List Nat)} (hP : P ∈ partsI n) : (∀ b ∈ P, b.Pairwise (· < ·)) ∧ srP (Ed P) = ltD (lotOf P) := by
  have h := List.all_eq_true.mp (allN_ok fA n (by omega)) P hP
  rw [Bool.and_eq_true, List.all_eq_true] at h
  refine ⟨fun b hb => ascN_pw (h.1 b hb), ?_⟩
  rw [srP_perm (isP_perm (Ed P)).symm]
  exact srP_self (ascB_pw h.2)
/-! ### lots in order -/
def cz (l : List (Nat × Nat)) : List (Int × Int) := l.map fun p => ((p.1 : Int), (p.2 : Int))
theorem lot_lt (a b : List (Nat × Nat)) : PySem.W.dataLt (ltD a) (ltD b) = PySem.W.listLt (cz a) (cz b) := by
  have e : ∀ l : List (Nat × Nat), l.map prD = (cz l).map PySem.W.Datum.toD := fun l => by
    unfold cz
    rw [List.map_map]
    rfl
  unfold ltD
  rw [PySem.W.dataLt_tuple, e, e]
  exact PySem.W.lexAll_map _ _
theorem pair_anti (x y : Int × Int) (h1 : PySem.W.DatumOrd.lt x y = false) (h2 : PySem.W.DatumOrd.lt y x = false) : x = y := by
  have a1 : (if x.1 = y.1 then decide (x.2 < y.2) else decide (x.1 < y.1)) = false := h1
  have a2 : (if y.1 = x.1 then decide (y.2 < x.2) else decide (y.1 < x.1)) = false := h2
  by_cases h : x.1 = y.1
  · rw [if_pos h, decide_eq_false_iff_not] at a1
    rw [if_pos h.symm, decide_eq_false_iff_not] at a2
    exact Prod.ext h (by omega)
  · rw [if_neg h, decide_eq_false_iff_not] at a1
    rw [if_neg (fun e => h e.symm), decide_eq_false_iff_not] at a2
    omega
theorem list_anti : ∀ xs ys : List (Int × Int), PySem.W.listLt xs ys = false → PySem.W.listLt ys xs = false → xs = ys
  | [], [], _, _ => rfl
  | [], _ :: _, h, _ => by cases h
  | _ :: _, [], _, h => by cases h
  | x :: xs, y :: ys, h1, h2 => by
    unfold PySem.W.listLt at h1 h2
    by_cases h : x = y
    · rw [if_pos h] at h1
      rw [if_pos h.symm] at h2
      rw [h, list_anti xs ys h1 h2]
    · rw [if_neg h] at h1
      rw [if_neg (fun e => h e.symm)] at h2
      exact absurd (pair_anti x y h1 h2) h
theorem cz_inj {a b : List (Nat × Nat)} (h : cz a = cz b) : a = b := by
  unfold cz at h
  refine (List.map_inj_right (f := fun p : Nat × Nat => ((p.1 : Int), (p.2 : Int))) fun x y e => ?_).mp h
  obtain ⟨e1, e2⟩ := Prod.mk.inj e
  exact Prod.ext (by omega) (by omega)
theorem srtL_perm {A B : List (List (Nat × Nat))} (h : A.Perm B) : dSortedR false (A.map ltD) = dSortedR false (B.map ltD) := by
  refine eq_of_sortedN (((srtR_perm _ _).trans (h.map _)).trans (srtR_perm _ _).symm) (srtR_pw _ _) (srtR_pw _ _) fun a ha b hb h1 h2 => ?_
  obtain ⟨x, _, rfl⟩ := List.mem_map.mp ((srtR_perm _ _).mem_iff.mp ha)
  obtain ⟨y, _, rfl⟩ := List.mem_map.mp ((srtR_perm _ _).mem_iff.mp hb)
  have a1 : (!PySem.W.dataLt (ltD y) (ltD x)) = true := h1
  have a2 : (!PySem.W.dataLt (ltD x) (ltD y)) = true := h2
  rw [Bool.not_eq_true', lot_lt] at a1 a2
  rw [cz_inj (list_anti _ _ a2 a1)]
end
end K73

/-! k73: blocks joined at random -/
namespace K73
open PySem Nt L2

def jn1_ : MoS := (sAsg (mPopAt 6 (mCallI 1 2 F__law_pick (mACons (mSlot 1) (mACons (mV (mCB rs dLen (mACons (mSlot 6) mANil))) mANil)))) (fName 9))
def jn2_ : MoS := (sAsg (mCallI 1 2 F__law_pick (mACons (mSlot 1) (mACons (mV (mCB rs dLen (mACons (mSlot 6) mANil))) mANil))) (fName 7))
def jn3_ : MoS := (sStore 6 (mCB rs1 dTuple (mACons (mV (mCB rs1 dSortedC (mACons (mV (m2 rs1 dAdd (mV (m2 rs1 dGetX (mSlot 6) (mSlot 7))) (mSlot 9))) mANil))) mANil)) (fun ρ => rs ρ (.sl 7)))
def jn0_q : Mo Bool := (mTest (m2 rs dGt (mV (mCB rs dLen (mACons (mSlot 6) mANil))) (mV (mC (.int 1)))))
def jn0_ : MoS := sIf jn0_q (sSeq jn1_ (sSeq jn2_ jn3_)) sPass
theorem jneq : l1_law = jn0_ := rfl

theorem set_flat {α : Type} {x : List α} : ∀ {ts : List (List α)} {c : Nat} {t u : List α}, ts[c]? = some t → u.Perm (x ++ t) → (ts.set c u).flatten.Perm (x ++ ts.flatten)
  | [], _, _, _, h, _ => by simp at h
  | a :: ts, 0, t, u, h, p => by
    simp at h
    subst h
    rw [List.set_cons_zero, List.flatten_cons, List.flatten_cons, ← List.append_assoc]
    exact List.Perm.append_right _ p
  | a :: ts, c + 1, t, u, h, p => by
    have := set_flat (ts := ts) (c := c) (t := t) (u := u) (by simpa using h) p
    rw [List.set_cons_succ, List.flatten_cons, List.flatten_cons]
    refine (List.Perm.append_left a this).trans ?_
    rw [← List.append_assoc, ← List.append_assoc]
    exact List.Perm.append_right _ List.perm_append_comm
def srN (l : List Nat) : List Nat := l.mergeSort fun a b => decide (a ≤ b)
theorem srN_perm (l : List Nat) : (srN l).Perm l := List.mergeSort_perm l _
theorem srN_nb (l : List Nat) : nb (srN l) = sortI (nb l) := by
  unfold nb srN sortI
  rw [List.map_mergeSort]
  intro a _ b _
  exact decide_eq_decide.mpr (by omega)
theorem srN_pw (l : List Nat) (nd : l.Nodup) : (srN l).Pairwise (· < ·) := by
  have pw := List.pairwise_mergeSort (le := fun a b : Nat => decide (a ≤ b)) (fun a b c h1 h2 => by
    rw [decide_eq_true_eq] at *
    omega) (fun a b => by
    rw [Bool.or_eq_true, decide_eq_true_eq, decide_eq_true_eq]
    omega) l
  have nd2 : (srN l).Pairwise (· ≠ ·) := (srN_perm l).nodup_iff.mpr nd
  refine pw.imp₂ (fun a b h1 h2 => ?_) nd2
  rw [decide_eq_true_eq] at h1
  omega
theorem eraseIdx_mp {α β : Type} (f : α → β) : ∀ (l : List α) (i : Nat), (l.map f).eraseIdx i = (l.eraseIdx i).map f
  | [], _ => rfl
  | a :: l, 0 => rfl
  | a :: l, i + 1 => by
    rw [List.map_cons, List.eraseIdx_cons_succ, List.eraseIdx_cons_succ, List.map_cons, eraseIdx_mp f l i]
structure Jn (n : Nat) (B : List (List Nat)) : Prop where
  asc : ∀ b ∈ B, b.Pairwise (· < ·) ∧ b ≠ []
  pm : B.flatten.Perm (List.range (n + 1))
theorem Jn.len {n : Nat} {B : List (List Nat)} (J : Jn n B) : B.length ≤ n + 1 := by
  have h := J.pm.length_eq
  rw [List.length_range] at h
  have key : ∀ B : List (List Nat), (∀ b ∈ B, b ≠ []) → B.length ≤ B.flatten.length := by
    intro B
    induction B with
    | nil => intro _; exact Nat.zero_le _
    | cons b B ih =>
      intro hh
      have h1 := ih fun c hc => hh c (.tail _ hc)
      have h2 : b.length ≠ 0 := fun e => hh b (.head _) (List.length_eq_zero_iff.mp e)
      rw [List.flatten_cons, List.length_cons, List.length_append]
      omega
  have := key B fun b hb => (J.asc b hb).2
  omega
theorem Jn.join {n : Nat} {B : List (List Nat)} (J : Jn n B) {r k : Nat} (hr : r < B.length) (hk : k < (B.eraseIdx r).length) : Jn n ((B.eraseIdx r).set k (srN ((B.eraseIdx r)[k] ++ B[r]))) := by
  have p1 : (B[r] :: B.eraseIdx r).Perm B := perm_at hr
  have fl : (B[r] ++ (B.eraseIdx r).flatten).Perm (List.range (n + 1)) := by
    have := p1.flatten
    rw [List.flatten_cons] at this
    exact this.trans J.pm
  have hsub : ((B.eraseIdx r)[k] ++ B[r]).Perm (srN ((B.eraseIdx r)[k] ++ B[r])) := (srN_perm _).symm
  have sf := set_flat (x := B[r]) (ts := B.eraseIdx r) (c := k) (t := (B.eraseIdx r)[k]) (u := srN ((B.eraseIdx r)[k] ++ B[r])) (List.getElem?_eq_getElem hk) ((srN_perm _).trans List.perm_append_comm)
  have pm := sf.trans fl
  refine ⟨fun b hb => ?_, pm⟩
  rcases List.mem_or_eq_of_mem_set hb with hb | hb
  · exact J.asc b (List.mem_of_mem_eraseIdx hb)
  · rw [hb]
    refine ⟨srN_pw _ ?_, fun e => ?_⟩
    · have nd : (B[r] ++ (B.eraseIdx r).flatten).Nodup := fl.nodup_iff.mpr List.nodup_range
      obtain ⟨n1, n2, n3⟩ := List.nodup_append.mp nd
      have hm : ∀ a ∈ (B.eraseIdx r)[k], a ∈ (B.eraseIdx r).flatten := fun a ha => List.mem_flatten.mpr ⟨_, List.getElem_mem hk, ha⟩
      have nk : ((B.eraseIdx r)[k]).Nodup := (J.asc _ (List.mem_of_mem_eraseIdx (List.getElem_mem hk))).1.imp fun h => Nat.ne_of_lt h
      exact List.nodup_append.mpr ⟨nk, n1, fun a ha b hb e => n3 b hb a (hm a ha) e.symm⟩
    · have h1 := (srN_perm ((B.eraseIdx r)[k] ++ B[r])).length_eq
      rw [e, List.length_append] at h1
      have h2 := (J.asc _ (List.getElem_mem hr)).2
      have h3 : B[r].length ≠ 0 := fun e => h2 (List.length_eq_zero_iff.mp e)
      simp only [List.length_nil] at h1
      omega
section
variable {n : Nat} {B : List (List Nat)} {s : D}
theorem join_step (hs : Src s) (J : Jn n B) (hn : n ≤ 12) (s0 s2 s3 s4 s5 s7 s8 s9 s10 s11 s12 s13 : Sl) :
    ∃ s' B' z7 z9, (Nw s7 → Nw z7) ∧ l1_law [s0, .ow 2 s, s2, s3, s4, s5, .ow 1 (.list (B.map blD)), s7, s8, s9, s10, s11, s12, s13] = some (.nx [s0, .ow 2 s', s2, s3, s4, s5, .ow 1 (.list (B'.map blD)), z7, s8, z9, s10, s11, s12, s13]) ∧ Src s' ∧ Jn n B' := by
  have jl := J.len
  have ml : (B.map blD).length = B.length := List.length_map _
  by_cases h1 : 1 < B.length
  · obtain ⟨r, s1', p1, hs1, r0, r1⟩ := pick_ok hs (many := (B.length : Nat)) (by omega) (by omega)
    have hr : r.toNat < B.length := by omega
    have el : (B.eraseIdx r.toNat).length = B.length - 1 := by rw [List.length_eraseIdx_of_lt hr]
    obtain ⟨k, s2', p2, hs2, k0, k1⟩ := pick_ok hs1 (many := ((B.eraseIdx r.toNat).length : Nat)) (by omega) (by omega)
    have hk : k.toNat < (B.eraseIdx r.toNat).length := by omega
    refine ⟨s2', (B.eraseIdx r.toNat).set k.toNat (srN ((B.eraseIdx r.toNat)[k.toNat] ++ B[r.toNat])), .sh (.int k), .sh (blD B[r.toNat]), fun _ => .sh _, ?_, hs2, J.join hr hk⟩
    have a0 : jn0_q [s0, .ow 2 s, s2, s3, s4, s5, .ow 1 (.list (B.map blD)), s7, s8, s9, s10, s11, s12, s13] = some (true, [s0, .ow 2 s, s2, s3, s4, s5, .ow 1 (.list (B.map blD)), s7, s8, s9, s10, s11, s12, s13]) := by
      have d : dGt (.int (B.length : Nat)) (.int 1) = some (.bool true) := by
        have : (1 : Int) < ((B.length : Nat) : Int) := by omega
        simp
        omega
      unfold jn0_q
      generalize B.map blD = BB at *
      simp [ml, d, -dGt_ev]
    have a1 : jn1_ [s0, .ow 2 s, s2, s3, s4, s5, .ow 1 (.list (B.map blD)), s7, s8, s9, s10, s11, s12, s13] = some (.nx [s0, .ow 2 s1', s2, s3, s4, s5, .ow 1 (.list ((B.eraseIdx r.toNat).map blD)), s7, s8, .sh (blD B[r.toNat]), s10, s11, s12, s13]) := by
      have h2 : (B.map blD).length ≤ 16777216 := by omega
      have h3 : r.toNat < (B.map blD).length := by omega
      have h4 : (B.map blD)[r.toNat] = blD B[r.toNat] := List.getElem_map _
      have h5 : (B.map blD).eraseIdx r.toNat = (B.eraseIdx r.toNat).map blD := eraseIdx_mp _ _ _
      have p1' := p1
      rw [← ml] at p1'
      rw [← h4, ← h5]
      generalize B.map blD = BB at *
      unfold jn1_
      simp [p1', r0, h2, h3]
    have a2 : jn2_ [s0, .ow 2 s1', s2, s3, s4, s5, .ow 1 (.list ((B.eraseIdx r.toNat).map blD)), s7, s8, .sh (blD B[r.toNat]), s10, s11, s12, s13] = some (.nx [s0, .ow 2 s2', s2, s3, s4, s5, .ow 1 (.list ((B.eraseIdx r.toNat).map blD)), .sh (.int k), s8, .sh (blD B[r.toNat]), s10, s11, s12, s13]) := by
      have m2 : ((B.eraseIdx r.toNat).map blD).length = (B.eraseIdx r.toNat).length := List.length_map _
      rw [← m2] at p2
      unfold jn2_
      generalize (B.eraseIdx r.toNat).map blD = BB at *
      generalize blD B[r.toNat] = b at *
      simp [p2]
    have a3 : jn3_ [s0, .ow 2 s2', s2, s3, s4, s5, .ow 1 (.list ((B.eraseIdx r.toNat).map blD)), .sh (.int k), s8, .sh (blD B[r.toNat]), s10, s11, s12, s13] = some (.nx [s0, .ow 2 s2', s2, s3, s4, s5, .ow 1 (.list (((B.eraseIdx r.toNat).set k.toNat (srN ((B.eraseIdx r.toNat)[k.toNat] ++ B[r.toNat]))).map blD)), .sh (.int k), s8, .sh (blD B[r.toNat]), s10, s11, s12, s13]) := by
      have hkn : k = ((k.toNat : Nat) : Int) := by omega
      have g : dGetX (.list ((B.eraseIdx r.toNat).map blD)) (.int k) = some (blD (B.eraseIdx r.toNat)[k.toNat]) := by
        show atI ((B.eraseIdx r.toNat).map blD) k = _
        conv => lhs; rw [hkn]
        rw [atI_nat _ _ (by rw [List.length_map]; exact hk), List.getElem_map]
      have b1 : (B.eraseIdx r.toNat)[k.toNat].length ≤ 100 := by
        have h1 := blk_len (List.mem_of_mem_eraseIdx (List.getElem_mem hk))
        have h2 := J.pm.length_eq
        rw [List.length_range] at h2
        omega
      have b2 : B[r.toNat].length ≤ 100 := by
        have h1 := blk_len (List.getElem_mem hr)
        have h2 := J.pm.length_eq
        rw [List.length_range] at h2
        omega
      have ad : dAdd (blD (B.eraseIdx r.toNat)[k.toNat]) (blD B[r.toNat]) = some (.tuple ((nb ((B.eraseIdx r.toNat)[k.toNat] ++ B[r.toNat])).map PyData.int)) := by
        have e1 : blD (B.eraseIdx r.toNat)[k.toNat] = .tuple (bi (B.eraseIdx r.toNat)[k.toNat]) := rfl
        have e2 : blD B[r.toNat] = .tuple (bi B[r.toNat]) := rfl
        rw [e1, e2, dAdd_t, szI_pos (by unfold bi; rw [List.length_map, List.length_map]; omega), ← bi_app]
        unfold bi nb
        rw [List.map_map]
        rfl
      have so := sortedC_t (nb ((B.eraseIdx r.toNat)[k.toNat] ++ B[r.toNat]))
      have e4 : blD (srN ((B.eraseIdx r.toNat)[k.toNat] ++ B[r.toNat])) = .tuple ((sortI (nb ((B.eraseIdx r.toNat)[k.toNat] ++ B[r.toNat]))).map PyData.int) := by
        rw [blD_tu, srN_nb]
        rfl
      have ms : ((B.eraseIdx r.toNat).set k.toNat (srN ((B.eraseIdx r.toNat)[k.toNat] ++ B[r.toNat]))).map blD = ((B.eraseIdx r.toNat).map blD).set k.toNat (blD (srN ((B.eraseIdx r.toNat)[k.toNat] ++ B[r.toNat]))) := List.map_set
      have ix : ixN ((B.eraseIdx r.toNat).map blD).length k = some k.toNat := ixN_nat k0 (by rw [List.length_map]; omega)
      rw [ms, e4]
      unfold jn3_
      generalize (sortI (nb ((B.eraseIdx r.toNat)[k.toNat] ++ B[r.toNat]))).map PyData.int = S at *
      generalize (nb ((B.eraseIdx r.toNat)[k.toNat] ++ B[r.toNat])).map PyData.int = Q at *
      generalize blD (B.eraseIdx r.toNat)[k.toNat] = b0 at *
      generalize blD B[r.toNat] = b at *
      generalize (B.eraseIdx r.toNat).map blD = BB at *
      simp [g, ad, so, ix, stS]
    rw [jneq]
    unfold jn0_
    rw [sIf_ev, a0, ob_some]
    show br true _ _ = _
    rw [br_true, sSeq_ev, a1, os_nx, sSeq_ev, a2, os_nx, a3]
  · refine ⟨s, B, s7, s9, id, ?_, hs, J⟩
    have a0 : jn0_q [s0, .ow 2 s, s2, s3, s4, s5, .ow 1 (.list (B.map blD)), s7, s8, s9, s10, s11, s12, s13] = some (false, [s0, .ow 2 s, s2, s3, s4, s5, .ow 1 (.list (B.map blD)), s7, s8, s9, s10, s11, s12, s13]) := by
      have d : dGt (.int (B.length : Nat)) (.int 1) = some (.bool false) := by
        simp
        omega
      unfold jn0_q
      generalize B.map blD = BB at *
      simp [ml, d, -dGt_ev]
    rw [jneq]
    unfold jn0_
    rw [sIf_ev, a0, ob_some]
    show br false _ _ = _
    rw [br_false]
    rfl
theorem Jn.part (J : Jn n B) : ∃ P : List (List Nat), P.Perm B ∧ Part n P := by
  have nd : B.flatten.Nodup := J.pm.nodup_iff.mpr List.nodup_range
  have nd2 := nd
  unfold List.Nodup at nd2
  rw [List.pairwise_flatten] at nd2
  have hd : (B.map fun b => b.headD 0).Nodup := by
    refine List.pairwise_map.mpr (List.Pairwise.imp_of_mem (fun {a b} ha hb h e => ?_) nd2.2)
    have mem : ∀ c ∈ B, c.headD 0 ∈ c := fun c hc => by
      have := (J.asc c hc).2
      cases c with
      | nil => exact absurd rfl this
      | cons x t => exact .head _
    exact h _ (mem a ha) _ (mem b hb) e
  obtain ⟨P, pP, hP⟩ := order_blks (fun b hb => (J.asc b hb).2) hd
  refine ⟨P, pP, ⟨fun b hb => J.asc b (pP.mem_iff.mp hb), hP, fun k => ?_, pP.flatten.nodup_iff.mpr nd⟩⟩
  rw [pP.flatten.mem_iff, J.pm.mem_iff, List.mem_range]
  omega
end
end K73

/-! k73: a lap -/
namespace K73
open PySem Nt L2
def lc0_ : MoS := (sAsg (m2 rs1 dAdd (mV (mC (.int 1))) (mV (mCallI 1 2 F__law_pick (mACons (mSlot 1) (mACons (mV (mC (.int 12))) mANil))))) (fName 3))
def lc1_ : MoS := (sAsg (mCallI 1 2 F__law_lot (mACons (mSlot 1) (mACons (mV (mName 3)) mANil))) (fName 4))
def lc2_ : MoS := (sAsg (mCall 2 F__law_parting (mACons (mV (mName 3)) (mACons (mV (mName 4)) mANil))) (fName 5))
def lc4_ : MoS := (sRet (mC (.bool false)))
def lc3_q : Mo Bool := (mOr (mTest (m2 rs (dEq true) (mV (mCB rs dRepr (mACons (mV (mLst (mACons (mV (mCall 2 F_parting_of (mACons (mV (mName 3)) (mACons (mV (mName 4)) mANil)))) (mACons (mV (mCall 2 F_lot_of_parting (mACons (mV (mName 3)) (mACons (mV (mName 5)) mANil)))) mANil)))) mANil))) (mV (mCB rs dRepr (mACons (mV (mLst (mACons (mV (mName 5)) (mACons (mV (mName 4)) mANil)))) mANil))))) (mTest (m2 rs (dEq true) (mV (mCB rs dLen (mACons (mSlot 5) mANil))) (mV (m2 rs dSub (mV (m2 rs1 dAdd (mSlot 3) (mV (mC (.int 1))))) (mV (mCB rs dLen (mACons (mSlot 4) mANil))))))))
def lc3_ : MoS := sIf lc3_q lc4_ sPass
def lc5_ : MoS := (sSetW 1 6 (mComp (iR1 (mACons (mV (m2 rs1 dAdd (mSlot 3) (mV (mC (.int 1))))) mANil)) (fName 7) mYes e1_law [7]))
def lc6_ : MoS := (sForIn (iR1 (mACons (mV (mCallI 1 2 F__law_pick (mACons (mSlot 1) (mACons (mV (m2 rs1 dAdd (mSlot 3) (mV (mC (.int 1))))) mANil)))) mANil)) (fName 8) l1_law)
def lc7_ : MoS := (sAsg (mCB rs1 dTuple (mACons (mV (mCB rs1 (dSortedE false) (mACons (mSlot 6) mANil))) mANil)) (fName 6))
def lc8_ : MoS := (sAsg (mCall 2 F_lot_of_parting (mACons (mV (mName 3)) (mACons (mV (mName 6)) mANil))) (fName 10))
def lc10_ : MoS := (sRet (mC (.bool false)))
def lc9_q : Mo Bool := (mTest (m2 rs (dEq true) (mV (mCB rs dRepr (mACons (mV (mLst (mACons (mV (mName 10)) (mACons (mV (mCall 2 F_parting_of (mACons (mV (mName 3)) (mACons (mV (mName 10)) mANil)))) mANil)))) mANil))) (mV (mCB rs dRepr (mACons (mV (mLst (mACons (mV (mCall 1 F__law_lot_of (mACons (mV (mName 6)) mANil))) (mACons (mV (mName 6)) mANil)))) mANil)))))
def lc9_ : MoS := sIf lc9_q lc10_ sPass
def lc11_ : MoS := (sAsg (mCallI 1 2 F__law_pick (mACons (mSlot 1) (mACons (mV (m2 rs1 dAdd (mSlot 3) (mV (mC (.int 1))))) mANil))) (fName 11))
def lc13_ : MoS := (sRet (mC (.bool false)))
def lc12_q : Mo Bool := (mTest (m2 rs (dEq true) (mV (mCB rs dRepr (mACons (mV (mCall 2 F_codes_with (mACons (mV (mName 3)) (mACons (mV (mName 11)) mANil)))) mANil))) (mV (mCB rs dRepr (mACons (mV (mCall 2 F__law_many (mACons (mV (mName 3)) (mACons (mV (mName 11)) mANil)))) mANil)))))
def lc12_ : MoS := sIf lc12_q lc13_ sPass
theorem lceq : l2_law = (sSeq lc0_ (sSeq lc1_ (sSeq lc2_ (sSeq lc3_ (sSeq lc5_ (sSeq lc6_ (sSeq lc7_ (sSeq lc8_ (sSeq lc9_ (sSeq lc11_ lc12_)))))))))) := rfl
theorem pl_lt {l : List (Nat × Nat)} (h : l.length ≤ 100) (hs : ∀ p ∈ l, p.1 ≤ 1000 ∧ p.2 ≤ 1000) : Pl true [100, 100] (ltD l) := by
  refine .tup (by rw [List.length_map]; exact h) fun d hd => ?_
  obtain ⟨p, hp, rfl⟩ := List.mem_map.mp hd
  have := hs p hp
  refine .tup (by simp) fun x hx => ?_
  simp at hx
  rcases hx with rfl | rfl <;> exact .int (by omega)
theorem pl_pt {P : List (List Nat)} (h : P.length ≤ 100) (hb : ∀ b ∈ P, b.length ≤ 100 ∧ ∀ x ∈ b, x ≤ 1000) : Pl true [100, 100] (ptD P) := by
  refine .tup (by rw [List.length_map]; exact h) fun d hd => ?_
  obtain ⟨b, hb', rfl⟩ := List.mem_map.mp hd
  have := hb b hb'
  refine .tup (by rw [List.length_map]; exact this.1) fun x hx => ?_
  obtain ⟨k, hk, rfl⟩ := List.mem_map.mp hx
  have := this.2 k hk
  exact .int (by omega)
theorem ok_two {x y : D} (hx : Pl true [100, 100] x) (hy : Pl true [100, 100] y) : dRepr [.list [x, y]] = some (.str (PyData.list [x, y]).shown) := by
  refine dRepr_ok (Pl.okR (fl := true) (ws := [2, 100, 100]) (.lst rfl (by simp) fun z hz => ?_) (by simp) (by decide))
  simp at hz
  rcases hz with rfl | rfl
  · exact hx
  · exact hy
theorem Part.pl {n : Nat} {P : List (List Nat)} (H : Part n P) (hn : n ≤ 50) : Pl true [100, 100] (ptD P) := by
  have h1 := fl_len H
  have h2 := blocks_le H
  refine pl_pt (by omega) fun b hb => ⟨?_, fun x hx => ?_⟩
  · have := blk_len hb
    omega
  · have := (H.mem x).mp (List.mem_flatten.mpr ⟨b, hb, hx⟩)
    omega
theorem Ed_le1 {n : Nat} {P : List (List Nat)} (H : Part n P) (hn : n ≤ 100) : ∀ p ∈ Ed P, p.1 ≤ 1000 ∧ p.2 ≤ 1000 := by
  intro p hp
  obtain ⟨b, hb, hp⟩ := (mem_Ed P p).mp hp
  obtain ⟨h1, h2, h3, _⟩ := (adj_iff (H.asc b hb).1 (x := p.1) (y := p.2)).mp hp
  have a1 := (H.mem _).mp (List.mem_flatten.mpr ⟨b, hb, h1⟩)
  have a2 := (H.mem _).mp (List.mem_flatten.mpr ⟨b, hb, h2⟩)
  omega
theorem sing_Jn (n : Nat) : Jn n ((List.range (n + 1)).map fun k => [k]) := by
  refine ⟨fun b hb => ?_, ?_⟩
  · obtain ⟨k, _, rfl⟩ := List.mem_map.mp hb
    exact ⟨List.pairwise_singleton _ _, by simp⟩
  · have : ∀ l : List Nat, (l.map fun k => [k]).flatten = l := by
      intro l
      induction l with
      | nil => rfl
      | cons a l ih => rw [List.map_cons, List.flatten_cons, ih]; rfl
    rw [this]
section
variable {s : D} {n : Nat} {B : List Nat}
def LapI (ρ : Nt.Env) : Prop := ∃ s s0 s2 s3 s4 s5 s6 s7 s8 s9 s10 s11 s12 s13, Src s ∧ (Nw s7 ∧ Nw s4 ∧ Nw s6 ∧ Nw s11) ∧ ρ = [s0, .ow 2 s, s2, s3, s4, s5, s6, s7, s8, s9, s10, s11, s12, s13]
theorem lap_step (hs : Src s) (s0 s2 s3 s4 s5 s6 s7 s8 s9 s10 s11 s12 s13 : Sl) (n7 : Nw s7) :
    ∃ ρ', l2_law [s0, .ow 2 s, s2, s3, s4, s5, s6, s7, s8, s9, s10, s11, s12, s13] = some (.nx ρ') ∧ LapI ρ' := by
  obtain ⟨r, s1', e1, hs1, r0, r1⟩ := pick_ok hs (many := 12) (by omega) (by omega)
  obtain ⟨k, rfl⟩ : ∃ k : Nat, r = (k : Int) := ⟨r.toNat, by omega⟩
  obtain ⟨n, hnk⟩ : ∃ n, k + 1 = n := ⟨_, rfl⟩
  have hn1 : 1 ≤ n := by omega
  have hn : n ≤ 12 := by omega
  obtain ⟨L, s2', e2, hs2, H, hL⟩ := law_lot_ok hs1 (n := n) hn1 hn
  have hc : 1 + ((k : Nat) : Int) = ((n : Nat) : Int) := by omega
  have hle : ∀ p ∈ L, p.1 ≤ p.2 := fun p hp => (H.le p hp).1
  have e3 : F__law_parting [.int (n : Nat), ltD L] = some (ptD (prt n (nm L))) := law_parting_ok (by omega) H
  have HP := prt_part (n := n) H.nm hle
  have pe := prt_edges H H.nm
  have b0 : lc0_ [s0, .ow 2 s, s2, s3, s4, s5, s6, s7, s8, s9, s10, s11, s12, s13] = some (.nx [s0, .ow 2 s1', s2, .sh (.int (n : Nat)), s4, s5, s6, s7, s8, s9, s10, s11, s12, s13]) := by
    unfold lc0_
    simp [e1, hc]
  have b1 : lc1_ [s0, .ow 2 s1', s2, .sh (.int (n : Nat)), s4, s5, s6, s7, s8, s9, s10, s11, s12, s13] = some (.nx [s0, .ow 2 s2', s2, .sh (.int (n : Nat)), .sh (ltD L), s5, s6, s7, s8, s9, s10, s11, s12, s13]) := by
    unfold lc1_
    generalize ltD L = LL at *
    simp [e2]
  have b2 : lc2_ [s0, .ow 2 s2', s2, .sh (.int (n : Nat)), .sh (ltD L), s5, s6, s7, s8, s9, s10, s11, s12, s13] = some (.nx [s0, .ow 2 s2', s2, .sh (.int (n : Nat)), .sh (ltD L), .sh (ptD (prt n (nm L))), s6, s7, s8, s9, s10, s11, s12, s13]) := by
    unfold lc2_
    generalize ltD L = LL at *
    generalize ptD (prt n (nm L)) = PP at *
    simp [e3]
  have po : F_parting_of [.int (n : Nat), ltD L] = some (ptD (prt n (nm L))) := parting_ok HP pe (by omega)
  have fll := fl_len HP
  have lo : F_lot_of_parting [.int (n : Nat), ptD (prt n (nm L))] = some (ltD L) := by
    have h := lot_of_parting_ok (P := prt n (nm L)) (fun b hb => (HP.asc b hb).1) (by omega) (.int (n : Nat))
    rw [← srP_perm pe, srP_self H.asc] at h
    exact h
  have rp := ok_two (HP.pl (by omega)) (pl_lt (l := L) (by have := part_count HP; rw [← pe.length_eq] at this; omega) fun p hp => by have := H.le p hp; omega)
  have pc := part_count HP
  rw [← pe.length_eq] at pc
  have b3 : lc3_ [s0, .ow 2 s2', s2, .sh (.int (n : Nat)), .sh (ltD L), .sh (ptD (prt n (nm L))), s6, s7, s8, s9, s10, s11, s12, s13] = some (.nx [s0, .ow 2 s2', s2, .sh (.int (n : Nat)), .sh (ltD L), .sh (ptD (prt n (nm L))), s6, s7, s8, s9, s10, s11, s12, s13]) := by
    have g1 : dLen [ptD (prt n (nm L))] = some (.int ((prt n (nm L)).length : Nat)) := by
      unfold ptD
      simp
    have g2 : dLen [ltD L] = some (.int (L.length : Nat)) := by
      unfold ltD
      simp
    have g3 : ((n : Nat) : Int) + 1 - (L.length : Nat) = ((prt n (nm L)).length : Nat) := by omega
    unfold lc3_ lc3_q
    generalize (prt n (nm L)).length = pl at *
    generalize ltD L = LL at *
    generalize ptD (prt n (nm L)) = PP at *
    simp [po, lo, rp, g1, g2, g3]
  have b5 : lc5_ [s0, .ow 2 s2', s2, .sh (.int (n : Nat)), .sh (ltD L), .sh (ptD (prt n (nm L))), s6, s7, s8, s9, s10, s11, s12, s13] = some (.nx [s0, .ow 2 s2', s2, .sh (.int (n : Nat)), .sh (ltD L), .sh (ptD (prt n (nm L))), .ow 1 (.list (((List.range (n + 1)).map fun k => [k]).map blD)), s7, s8, s9, s10, s11, s12, s13]) := by
    have ok := okOwn1 (ρ := [s0, .ow 2 s2', s2, .sh (.int (n : Nat)), .sh (ltD L), .sh (ptD (prt n (nm L))), s6, s7, s8, s9, s10, s11, s12, s13]) (i := 7) rfl n7
    have cc := comp_map (set := fName 7) (tst := mYes) (el := e1_law) (vs := [7]) (ρ0 := [s0, .ow 2 s2', s2, .sh (.int (n : Nat)), .sh (ltD L), .sh (ptD (prt n (nm L))), s6, .un, s8, s9, s10, s11, s12, s13]) (fun k : Nat => PyData.int (k : Nat)) (fun k => blD [k]) (List.range (n + 1)) [s0, .ow 2 s2', s2, .sh (.int (n : Nat)), .sh (ltD L), .sh (ptD (prt n (nm L))), s6, s7, s8, s9, s10, s11, s12, s13] (by simp [forget]) (fun x hx => by
      exact ⟨[s0, .ow 2 s2', s2, .sh (.int (n : Nat)), .sh (ltD L), .sh (ptD (prt n (nm L))), s6, .sh (.int (x : Nat)), s8, s9, s10, s11, s12, s13], [s0, .ow 2 s2', s2, .sh (.int (n : Nat)), .sh (ltD L), .sh (ptD (prt n (nm L))), s6, .sh (.int (x : Nat)), s8, s9, s10, s11, s12, s13], by simp, by simp, by unfold blD; simp [e1_law], by simp [forget]⟩)
    have bk : back [s0, .ow 2 s2', s2, .sh (.int (n : Nat)), .sh (ltD L), .sh (ptD (prt n (nm L))), s6, s7, s8, s9, s10, s11, s12, s13] [s0, .ow 2 s2', s2, .sh (.int (n : Nat)), .sh (ltD L), .sh (ptD (prt n (nm L))), s6, .un, s8, s9, s10, s11, s12, s13] [7] = [s0, .ow 2 s2', s2, .sh (.int (n : Nat)), .sh (ltD L), .sh (ptD (prt n (nm L))), s6, s7, s8, s9, s10, s11, s12, s13] := rfl
    have c1 : cRng (((n : Nat) : Int) + 1) = true := cRng_of (by omega) (by omega)
    have t1 : (((n : Nat) : Int) + 1).toNat = n + 1 := by omega
    have mm : ((List.range (n + 1)).map fun k => [k]).map blD = (List.range (n + 1)).map fun k => blD [k] := by rw [List.map_map]; rfl
    have ll : ((List.range (n + 1)).map fun k : Nat => PyData.int (k : Nat)).length ≤ 16777216 := by rw [List.length_map, List.length_range]; omega
    rw [mm]
    unfold lc5_
    rw [← range_nI] at cc ll
    generalize (List.range (n + 1)).map (fun k => blD [k]) = W at *
    generalize hR : rangeD 0 (n + 1) = R at *
    generalize ltD L = LL at *
    generalize ptD (prt n (nm L)) = PP at *
    simp [c1, t1, hR, ll, ok, cc, bk]
  obtain ⟨q, s3', e4, hs3, q0, q1⟩ := pick_ok hs2 (many := ((n : Nat) : Int) + 1) (by omega) (by omega)
  have loop := forD_inv (set := fName 8) (body := l1_law) (rangeD 0 q.toNat)
    (fun _ ρ => ∃ s4' B z7 z8 z9, Src s4' ∧ Nw z7 ∧ Jn n B ∧ ρ = [s0, .ow 2 s4', s2, .sh (.int (n : Nat)), .sh (ltD L), .sh (ptD (prt n (nm L))), .ow 1 (.list (B.map blD)), z7, z8, z9, s10, s11, s12, s13]) [s0, .ow 2 s3', s2, .sh (.int (n : Nat)), .sh (ltD L), .sh (ptD (prt n (nm L))), .ow 1 (.list (((List.range (n + 1)).map fun k => [k]).map blD)), s7, s8, s9, s10, s11, s12, s13] ?_ ⟨s3', _, s7, s8, s9, hs3, n7, sing_Jn n, rfl⟩
  · obtain ⟨ρ', e5, s4', B, z7, z8, z9, hs4, nz7, J, rfl⟩ := loop
    have b6 : lc6_ [s0, .ow 2 s2', s2, .sh (.int (n : Nat)), .sh (ltD L), .sh (ptD (prt n (nm L))), .ow 1 (.list (((List.range (n + 1)).map fun k => [k]).map blD)), s7, s8, s9, s10, s11, s12, s13] = some (.nx [s0, .ow 2 s4', s2, .sh (.int (n : Nat)), .sh (ltD L), .sh (ptD (prt n (nm L))), .ow 1 (.list (B.map blD)), z7, z8, z9, s10, s11, s12, s13]) := by
      have c1 : cRng q = true := cRng_of (by omega) (by omega)
      unfold lc6_
      generalize ((List.range (n + 1)).map fun k => [k]).map blD = W at *
      generalize B.map blD = W2 at *
      generalize ltD L = LL at *
      generalize ptD (prt n (nm L)) = PP at *
      simp [e4, c1, e5]
    obtain ⟨P, pP, HQ⟩ := J.part
    have sb := sort_blks (fun b hb => (HQ.asc b hb).2) HQ.hds pP.symm
    have b7 : lc7_ [s0, .ow 2 s4', s2, .sh (.int (n : Nat)), .sh (ltD L), .sh (ptD (prt n (nm L))), .ow 1 (.list (B.map blD)), z7, z8, z9, s10, s11, s12, s13] = some (.nx [s0, .ow 2 s4', s2, .sh (.int (n : Nat)), .sh (ltD L), .sh (ptD (prt n (nm L))), .sh (ptD P), z7, z8, z9, s10, s11, s12, s13]) := by
      have so := dSortedE_l (b := false) (okSort_blks B)
      rw [sb] at so
      unfold lc7_ ptD
      generalize P.map blD = QQ at *
      generalize B.map blD = W2 at *
      generalize ltD L = LL at *
      generalize ptD (prt n (nm L)) = PP at *
      simp [so]
    obtain ⟨T, eT, pT⟩ := srP_back (Ed P)
    have flq := fl_len HQ
    have lo2 : F_lot_of_parting [.int (n : Nat), ptD P] = some (ltD T) := by
      have h := lot_of_parting_ok (P := P) (fun b hb => (HQ.asc b hb).1) (by omega) (.int (n : Nat))
      rw [eT] at h
      exact h
    have lo3 : F__law_lot_of [ptD P] = some (ltD T) := by
      have h := law_lot_of_ok (P := P) (fun b hb => (HQ.asc b hb).1) (by omega)
      rw [eT] at h
      exact h
    have po2 : F_parting_of [.int (n : Nat), ltD T] = some (ptD P) := parting_ok HQ pT (by omega)
    have b8 : lc8_ [s0, .ow 2 s4', s2, .sh (.int (n : Nat)), .sh (ltD L), .sh (ptD (prt n (nm L))), .sh (ptD P), z7, z8, z9, s10, s11, s12, s13] = some (.nx [s0, .ow 2 s4', s2, .sh (.int (n : Nat)), .sh (ltD L), .sh (ptD (prt n (nm L))), .sh (ptD P), z7, z8, z9, .sh (ltD T), s11, s12, s13]) := by
      unfold lc8_
      generalize ltD T = TT at *
      generalize ptD P = QQ at *
      generalize ltD L = LL at *
      generalize ptD (prt n (nm L)) = PP at *
      simp [lo2]
    have hTl : T.length ≤ 100 := by
      have := pT.length_eq
      have := Ed_le P
      omega
    have rp2 := ok_two (pl_lt (l := T) hTl fun p hp => Ed_le1 HQ (by omega) p (pT.mem_iff.mp hp)) (HQ.pl (by omega))
    have b9 : lc9_ [s0, .ow 2 s4', s2, .sh (.int (n : Nat)), .sh (ltD L), .sh (ptD (prt n (nm L))), .sh (ptD P), z7, z8, z9, .sh (ltD T), s11, s12, s13] = some (.nx [s0, .ow 2 s4', s2, .sh (.int (n : Nat)), .sh (ltD L), .sh (ptD (prt n (nm L))), .sh (ptD P), z7, z8, z9, .sh (ltD T), s11, s12, s13]) := by
      unfold lc9_ lc9_q
      generalize ltD T = TT at *
      generalize ptD P = QQ at *
      generalize ltD L = LL at *
      generalize ptD (prt n (nm L)) = PP at *
      simp [po2, lo3, rp2]
    obtain ⟨r, s5', e6, hs5, u0, u1⟩ := pick_ok hs4 (many := ((n : Nat) : Int) + 1) (by omega) (by omega)
    obtain ⟨r, rfl⟩ : ∃ k : Nat, r = (k : Int) := ⟨r.toNat, by omega⟩
    have b11 : lc11_ [s0, .ow 2 s4', s2, .sh (.int (n : Nat)), .sh (ltD L), .sh (ptD (prt n (nm L))), .sh (ptD P), z7, z8, z9, .sh (ltD T), s11, s12, s13] = some (.nx [s0, .ow 2 s5', s2, .sh (.int (n : Nat)), .sh (ltD L), .sh (ptD (prt n (nm L))), .sh (ptD P), z7, z8, z9, .sh (ltD T), .sh (.int (r : Nat)), s12, s13]) := by
      unfold lc11_
      generalize ltD T = TT at *
      generalize ptD P = QQ at *
      generalize ltD L = LL at *
      generalize ptD (prt n (nm L)) = PP at *
      simp [e6]
    have hr : r ≤ n := by omega
    have b12 : lc12_ [s0, .ow 2 s5', s2, .sh (.int (n : Nat)), .sh (ltD L), .sh (ptD (prt n (nm L))), .sh (ptD P), z7, z8, z9, .sh (ltD T), .sh (.int (r : Nat)), s12, s13] = some (.nx [s0, .ow 2 s5', s2, .sh (.int (n : Nat)), .sh (ltD L), .sh (ptD (prt n (nm L))), .sh (ptD P), z7, z8, z9, .sh (ltD T), .sh (.int (r : Nat)), s12, s13]) := by
      have c1 := codes_ok hn hr
      have c2 := many_ok hn hr
      rw [← many_eq hn hr] at c2
      have gd := getD_le hn r
      have ri : dRepr [.int ((rowN n).getD r 0 : Nat)] = some (.str (PyData.int ((rowN n).getD r 0 : Nat)).shown) := dRepr_ok (Pl.okR (fl := true) (ws := []) (.int (by omega)) (by simp) (by decide))
      unfold lc12_ lc12_q
      generalize (rowN n).getD r 0 = v at *
      generalize ltD T = TT at *
      generalize ptD P = QQ at *
      generalize ltD L = LL at *
      generalize ptD (prt n (nm L)) = PP at *
      simp [c1, c2, ri]
    refine ⟨_, ?_, s5', s0, s2, .sh (.int (n : Nat)), .sh (ltD L), .sh (ptD (prt n (nm L))), .sh (ptD P), z7, z8, z9, .sh (ltD T), .sh (.int (r : Nat)), s12, s13, hs5, ⟨nz7, .sh _, .sh _, .sh _⟩, rfl⟩
    rw [lceq, sSeq_ev, b0, os_nx, sSeq_ev, b1, os_nx, sSeq_ev, b2, os_nx, sSeq_ev, b3, os_nx, sSeq_ev, b5, os_nx, sSeq_ev, b6, os_nx, sSeq_ev, b7, os_nx, sSeq_ev, b8, os_nx, sSeq_ev, b9, os_nx, sSeq_ev, b11, os_nx, b12]
  · rintro i d ρ hd ⟨s4', B, z7, z8, z9, hs4, nz7, J, rfl⟩
    obtain ⟨hi, rfl⟩ := rangeD_at hd
    obtain ⟨s6', B', y7, y9, hw, st, hs6, J'⟩ := join_step hs4 J hn s0 s2 (.sh (.int (n : Nat))) (.sh (ltD L)) (.sh (ptD (prt n (nm L)))) z7 (.sh (.int (0 + (i : Nat)))) z9 s10 s11 s12 s13
    exact ⟨[s0, .ow 2 s4', s2, .sh (.int (n : Nat)), .sh (ltD L), .sh (ptD (prt n (nm L))), .ow 1 (.list (B.map blD)), z7, .sh (.int (0 + (i : Nat))), z9, s10, s11, s12, s13], _, by simp, .inl st, s6', B', y7, .sh (.int (0 + (i : Nat))), y9, hs6, hw nz7, J', rfl⟩
end
theorem laps_ok {ρ : Nt.Env} (h : LapI ρ) : ∃ ρ', forD (fName 2) l2_law (rangeD 0 5) ρ = some (.nx ρ') ∧ LapI ρ' := by
  refine forD_inv (rangeD 0 5) (fun _ => LapI) ρ ?_ h
  rintro i d ρ hd ⟨s, s0, s2, s3, s4, s5, s6, s7, s8, s9, s10, s11, s12, s13, hs, ⟨n7, _, _, _⟩, rfl⟩
  obtain ⟨hi, rfl⟩ := rangeD_at hd
  obtain ⟨ρ', e, hl⟩ := lap_step hs s0 (.sh (.int (0 + (i : Nat)))) s3 s4 s5 s6 s7 s8 s9 s10 s11 s12 s13 n7
  exact ⟨_, ρ', by simp, .inl e, hl⟩
end K73

/-! k73: all lots at once -/
namespace K73
open PySem Nt L2
def le0_ : MoS := (sForIn (iR1 (mACons (mV (mC (.int 5))) mANil)) (fName 2) l2_law)
def le1_ : MoS := (sAsg (mCallS 2 F__law_of (mACons (mSlot 1) (mACons (mV (mLst (mACons (mV (mC (.int 1))) (mACons (mV (mC (.int 2))) (mACons (mV (mC (.int 3))) (mACons (mV (mC (.int 4))) (mACons (mV (mC (.int 5))) (mACons (mV (mC (.int 5))) (mACons (mV (mC (.int 6))) mANil))))))))) mANil))) (fName 3))
def le3_ : MoS := (sRet (mC (.bool true)))
def le2_q : Mo Bool := (mAnd (mTest (m2 rs (dEq false) (mSlot 3) (mV (mC (.int 6))))) (mTest (m2 rs dGt (mV (mCallI 1 2 F__law_pick (mACons (mSlot 1) (mACons (mV (mC (.int 4))) mANil)))) (mV (mC (.int 0))))))
def le2_ : MoS := sIf le2_q le3_ sPass
def le4_ : MoS := (sAsg (mCB rs1 (dSortedE false) (mACons (mV (mComp (iS (mCall 1 F__law_partings (mACons (mV (mName 3)) mANil))) (fName 6) mYes e3_law [6])) mANil)) (fName 12))
def le5_ : MoS := (sSetW 1 10 (mCall 1 F_all_span_lots (mACons (mV (mName 3)) mANil)))
def le7_ : MoS := (sRet (mC (.bool false)))
def le6_q : Mo Bool := (mOr (mTest (m2 rs (dEq true) (mV (mCB rs dRepr (mACons (mSlot 10) mANil))) (mV (mCB rs dRepr (mACons (mSlot 12) mANil))))) (mTest (m2 rs (dEq true) (mV (mCB rs dLen (mACons (mSlot 12) mANil))) (mV (m2 rs1 dGetX (mV (mLst (mACons (mV (mC (.int 1))) (mACons (mV (mC (.int 2))) (mACons (mV (mC (.int 5))) (mACons (mV (mC (.int 15))) (mACons (mV (mC (.int 52))) (mACons (mV (mC (.int 203))) (mACons (mV (mC (.int 877))) mANil))))))))) (mSlot 3))))))
def le6_ : MoS := sIf le6_q le7_ sPass
def le8_ : MoS := (sDrop (mApp 0 10 (mC .none)))
def le9_ : MoS := (sSetW 1 13 (mComp (iR1 (mACons (mV (m2 rs1 dAdd (mSlot 3) (mV (mC (.int 1))))) mANil)) (fName 11) mYes e5_law [11]))
def le10_ : MoS := (sRet (mAndV (m2 rs (dEq false) (mSlot 13) (mV (mComp (iR1 (mACons (mV (m2 rs1 dAdd (mSlot 3) (mV (mC (.int 1))))) mANil)) (fName 11) mYes e6_law [11]))) (m2 rs (dEq false) (mV (mCB rs dLen (mACons (mV (mCall 1 F_all_span_lots (mACons (mV (mName 3)) mANil))) mANil))) (mV (mCB rs dLen (mACons (mSlot 12) mANil))))))
theorem leeq : g_law = (sSeq le0_ (sSeq le1_ (sSeq le2_ (sSeq le4_ (sSeq le5_ (sSeq le6_ (sSeq le8_ (sSeq le9_ le10_)))))))) := rfl
theorem eqI_self (l : List Int) (hb : ∀ x ∈ l, x.natAbs < 1000000000000) : dEq false (.list (l.map PyData.int)) (.list (l.map PyData.int)) = some (.bool true) := by
  have h : SeqAt.shaped (.list (l.map PyData.int)) = true := by
    refine Pl.shaped (ws := [l.length]) (.lst rfl (by rw [List.length_map]; exact Nat.le_refl _) fun d hd => ?_) (by simp)
    obtain ⟨x, hx, rfl⟩ := List.mem_map.mp hd
    exact .int (hb x hx)
  have e : ∀ l : List Int, PyData.eqvAll (l.map PyData.int) (l.map PyData.int) = true := by
    intro l
    induction l with
    | nil => rfl
    | cons a l ih => simp [PyData.eqvAll, PyData.eqv, ih]
  unfold dEq
  simp only [h, Bool.and_self, if_true]
  simp [PyData.eqv, e]
theorem foldl_sum {α : Type} (f : α → Nat) : ∀ (l : List α) (a : Nat), ((l.foldl (fun a x => a + f x) a : Nat) : Int) = (a : Int) + (l.map fun x => ((f x : Nat) : Int)).sum
  | [], a => by simp
  | x :: l, a => by
    rw [List.foldl_cons, foldl_sum f l, List.map_cons, List.sum_cons]
    omega
theorem perm_sum {l m : List Int} (h : l.Perm m) : l.sum = m.sum := by
  induction h with
  | nil => rfl
  | cons a _ ih => rw [List.sum_cons, List.sum_cons, ih]
  | swap a b l => rw [List.sum_cons, List.sum_cons, List.sum_cons, List.sum_cons]; omega
  | trans _ _ i1 i2 => exact i1.trans i2
def ev (n : Nat) : List D := dSortedR false ((lotsI n n).map ltD)
section
variable {n : Nat}
theorem ev_back (n : Nat) : ∃ T : List (List (Nat × Nat)), ev n = T.map ltD ∧ T.Perm (lotsI n n) := by
  obtain ⟨T, e, p⟩ := perm_mapN ltD (srtR_perm false ((lotsI n n).map ltD)) (lotsI n n) rfl
  exact ⟨T, e, p⟩
theorem ev_count (hn : n ≤ 6) : (lotsI n n).length = [1, 2, 5, 15, 52, 203, 877].getD n 0 := by
  rw [← (every_perm hn).length_eq, List.length_map]
  exact Nat.eq_of_beq_eq_true (allN_ok fD n (by omega))
theorem ev_le (hn : n ≤ 6) : (lotsI n n).length ≤ 877 := by
  rw [ev_count hn]
  have : n = 0 ∨ n = 1 ∨ n = 2 ∨ n = 3 ∨ n = 4 ∨ n = 5 ∨ n = 6 := by omega
  rcases this with rfl | rfl | rfl | rfl | rfl | rfl | rfl <;> decide
theorem lots_small6 (hn : n ≤ 6) : ∀ l ∈ lotsI n n, sm6 l := by
  intro l hl p hp
  have h := allN_ok fC n (by omega)
  rw [Bool.and_eq_true, List.all_eq_true] at h
  have := List.all_eq_true.mp (h.1 l hl) p hp
  rw [Bool.and_eq_true] at this
  exact ⟨Nat.le_of_ble_eq_true this.1, Nat.le_of_ble_eq_true this.2⟩
theorem ev_repr (hn : n ≤ 6) : dRepr [.list (ev n)] = some (.str (PyData.list (ev n)).shown) := by
  obtain ⟨T, e, p⟩ := ev_back n
  have lT : T.length ≤ 877 := by rw [p.length_eq]; exact ev_le hn
  refine dRepr_ok (Pl.okR (fl := true) (ws := [877, 6, 2]) (.lst rfl (by rw [e, List.length_map]; exact lT) fun d hd => ?_) (by simp) (by decide))
  rw [e] at hd
  obtain ⟨l, hl, rfl⟩ := List.mem_map.mp hd
  have hl' := p.mem_iff.mp hl
  have h6 := lotsI_each n l hl'
  have s6 := lots_small6 hn l hl'
  refine .tup (by rw [List.length_map]; omega) fun d hd => ?_
  obtain ⟨q, hq, rfl⟩ := List.mem_map.mp hd
  have := s6 q hq
  refine .tup (by simp) fun x hx => ?_
  simp at hx
  rcases hx with rfl | rfl <;> exact .int (by omega)
theorem ev_sort (hn : n ≤ 6) : dSortedE false [.list ((partsI n).map fun P => srP (Ed P))] = some (.list (ev n)) := by
  have m : ((partsI n).map fun P => srP (Ed P)) = ((partsI n).map lotOf).map ltD := by
    rw [List.map_map]
    exact List.map_congr_left fun P hP => (good_part hn hP).2
  rw [m, dSortedE_l (okSort_lots _), srtL_perm (every_perm hn)]
  rfl
theorem sum_step (hn : n ≤ 6) {T : List (List (Nat × Nat))} (p : T.Perm (lotsI n n)) (r : Nat) : ((T.filter fun l => l.length == r).map fun l => ((2 ^ (frI l).toNat : Nat) : Int)).sum = (sumB n r : Nat) := by
  rw [perm_sum ((p.filter _).map _)]
  unfold sumB
  rw [foldl_sum]
  simp
theorem flat_le7 : ∀ (P : List (List Nat)) (m : Nat), (∀ b ∈ P, b.length ≤ m) → P.flatten.length ≤ P.length * m
  | [], _, _ => by simp
  | b :: P, m, h => by
    have h1 := h b (.head _)
    have h2 := flat_le7 P m fun c hc => h c (.tail _ hc)
    rw [List.flatten_cons, List.length_append, List.length_cons, Nat.add_mul, Nat.one_mul]
    omega
theorem part_lot (hn : n ≤ 6) {P : List (List Nat)} (hP : P ∈ partsI n) : F__law_lot_of [ptD P] = some (srP (Ed P)) := by
  have h := parts_each n P hP
  have h2 := flat_le7 P (n + 1) h.2
  have h3 : P.length * (n + 1) ≤ 7 * 7 := Nat.mul_le_mul (by omega) (by omega)
  exact law_lot_of_ok (good_part hn hP).1 (by omega)
end
end K73

/-! k73: the end of the law -/
namespace K73
open PySem Nt L2
section
variable {n : Nat} {s : D}
theorem le1_ok (hs : Src s) (s0 s2 s3 s4 s5 s6 s7 s8 s9 s10 s11 s12 s13 : Sl) : ∃ (n : Nat) (s' : D), le1_ [s0, .ow 2 s, s2, s3, s4, s5, s6, s7, s8, s9, s10, s11, s12, s13] = some (.nx [s0, .ow 2 s', s2, .sh (.int (n : Nat)), s4, s5, s6, s7, s8, s9, s10, s11, s12, s13]) ∧ Src s' ∧ 1 ≤ n ∧ n ≤ 6 := by
  obtain ⟨x, hx, s', e, hs'⟩ := of_sh hs (xs := [.int 1, .int 2, .int 3, .int 4, .int 5, .int 5, .int 6]) (by simp) (by simp)
  obtain ⟨n, rfl, h1, h2⟩ : ∃ n : Nat, x = .int (n : Nat) ∧ 1 ≤ n ∧ n ≤ 6 := by
    simp at hx
    rcases hx with rfl | rfl | rfl | rfl | rfl | rfl
    · exact ⟨1, rfl, by decide, by decide⟩
    · exact ⟨2, rfl, by decide, by decide⟩
    · exact ⟨3, rfl, by decide, by decide⟩
    · exact ⟨4, rfl, by decide, by decide⟩
    · exact ⟨5, rfl, by decide, by decide⟩
    · exact ⟨6, rfl, by decide, by decide⟩
  refine ⟨n, s', ?_, hs', h1, h2⟩
  unfold le1_
  simp [e]
theorem le2_ok (hs : Src s) (s0 s2 s4 s5 s6 s7 s8 s9 s10 s11 s12 s13 : Sl) : (∃ ρ', le2_ [s0, .ow 2 s, s2, .sh (.int (n : Nat)), s4, s5, s6, s7, s8, s9, s10, s11, s12, s13] = some (.rt (.bool true) ρ')) ∨ ∃ s', le2_ [s0, .ow 2 s, s2, .sh (.int (n : Nat)), s4, s5, s6, s7, s8, s9, s10, s11, s12, s13] = some (.nx [s0, .ow 2 s', s2, .sh (.int (n : Nat)), s4, s5, s6, s7, s8, s9, s10, s11, s12, s13]) ∧ Src s' := by
  by_cases h : n = 6
  · obtain ⟨q, s', e, hs', q0, q1⟩ := pick_ok hs (many := 4) (by omega) (by omega)
    subst h
    by_cases hq : 0 < q
    · refine .inl ⟨[s0, .ow 2 s', s2, .sh (.int ((6 : Nat) : Int)), s4, s5, s6, s7, s8, s9, s10, s11, s12, s13], ?_⟩
      have : dGt (.int q) (.int 0) = some (.bool true) := by simp [hq]
      unfold le2_ le2_q le3_
      simp [e, this, -dGt_ev]
    · refine .inr ⟨s', ?_, hs'⟩
      have : dGt (.int q) (.int 0) = some (.bool false) := by simp; omega
      unfold le2_ le2_q
      simp [e, this, -dGt_ev]
  · refine .inr ⟨s, ?_, hs⟩
    have h6 : ¬ ((n : Nat) : Int) = 6 := by omega
    unfold le2_ le2_q
    simp [h6]
theorem le4_ok (hn : n ≤ 6) (s0 s2 s4 s5 s6 s7 s8 s9 s10 s11 s12 s13 : Sl) (n6 : Nw s6) : le4_ [s0, .ow 2 s, s2, .sh (.int (n : Nat)), s4, s5, s6, s7, s8, s9, s10, s11, s12, s13] = some (.nx [s0, .ow 2 s, s2, .sh (.int (n : Nat)), s4, s5, s6, s7, s8, s9, s10, s11, .sh (.list (ev n)), s13]) := by
  have ok := okOwn1 (ρ := [s0, .ow 2 s, s2, .sh (.int (n : Nat)), s4, s5, s6, s7, s8, s9, s10, s11, s12, s13]) (i := 6) rfl n6
  have bk : back [s0, .ow 2 s, s2, .sh (.int (n : Nat)), s4, s5, s6, s7, s8, s9, s10, s11, s12, s13] [s0, .ow 2 s, s2, .sh (.int (n : Nat)), s4, s5, .un, s7, s8, s9, s10, s11, s12, s13] [6] = [s0, .ow 2 s, s2, .sh (.int (n : Nat)), s4, s5, s6, s7, s8, s9, s10, s11, s12, s13] := rfl
  have cc := comp_map (set := fName 6) (tst := mYes) (el := e3_law) (vs := [6]) (ρ0 := [s0, .ow 2 s, s2, .sh (.int (n : Nat)), s4, s5, .un, s7, s8, s9, s10, s11, s12, s13]) ptD (fun P => srP (Ed P)) (partsI n) [s0, .ow 2 s, s2, .sh (.int (n : Nat)), s4, s5, s6, s7, s8, s9, s10, s11, s12, s13] (by simp [forget]) (fun P hP => by
    have h := part_lot hn hP
    generalize ptD P = PP at *
    generalize srP (Ed P) = QQ at *
    exact ⟨[s0, .ow 2 s, s2, .sh (.int (n : Nat)), s4, s5, .sh PP, s7, s8, s9, s10, s11, s12, s13], [s0, .ow 2 s, s2, .sh (.int (n : Nat)), s4, s5, .sh PP, s7, s8, s9, s10, s11, s12, s13], by simp, by simp, by simp [e3_law, h], by simp [forget]⟩)
  have po := partings_ok hn
  have pl : ((partsI n).map ptD).length ≤ 16777216 := by
    have := parts_len hn
    rw [List.length_map]
    omega
  have so := ev_sort hn
  unfold le4_
  generalize (partsI n).map ptD = A at *
  generalize ((partsI n).map fun P => srP (Ed P)) = B at *
  generalize ev n = E at *
  simp [po, pl, ok, cc, bk, so]
theorem le5_ok (hn : n ≤ 6) (s0 s2 s4 s5 s6 s7 s8 s9 s10 s11 s13 : Sl) : le5_ [s0, .ow 2 s, s2, .sh (.int (n : Nat)), s4, s5, s6, s7, s8, s9, s10, s11, .sh (.list (ev n)), s13] = some (.nx [s0, .ow 2 s, s2, .sh (.int (n : Nat)), s4, s5, s6, s7, s8, s9, .ow 1 (.list (ev n)), s11, .sh (.list (ev n)), s13]) := by
  have h : F_all_span_lots [.int (n : Nat)] = some (.list (ev n)) := all_lots_ok hn
  unfold le5_
  generalize ev n = E at *
  simp [h]
theorem ev_len (n : Nat) : (ev n).length = (lotsI n n).length := by
  unfold ev
  rw [(srtR_perm false _).length_eq, List.length_map]
theorem le6_ok (hn : n ≤ 6) (s0 s2 s4 s5 s6 s7 s8 s9 s11 s13 : Sl) : le6_ [s0, .ow 2 s, s2, .sh (.int (n : Nat)), s4, s5, s6, s7, s8, s9, .ow 1 (.list (ev n)), s11, .sh (.list (ev n)), s13] = some (.nx [s0, .ow 2 s, s2, .sh (.int (n : Nat)), s4, s5, s6, s7, s8, s9, .ow 1 (.list (ev n)), s11, .sh (.list (ev n)), s13]) := by
  have h := ev_repr hn
  have hl := ev_len n
  rw [ev_count hn] at hl
  have g : dGetX (.list [.int 1, .int 2, .int 5, .int 15, .int 52, .int 203, .int 877]) (.int (n : Nat)) = some (.int ((ev n).length : Nat)) := by
    rw [hl]
    have : n = 0 ∨ n = 1 ∨ n = 2 ∨ n = 3 ∨ n = 4 ∨ n = 5 ∨ n = 6 := by omega
    rcases this with rfl | rfl | rfl | rfl | rfl | rfl | rfl <;> rfl
  unfold le6_ le6_q
  generalize ev n = E at *
  simp [h, g]
theorem le8_ok (hn : n ≤ 6) (s0 s2 s4 s5 s6 s7 s8 s9 s11 s13 : Sl) : le8_ [s0, .ow 2 s, s2, .sh (.int (n : Nat)), s4, s5, s6, s7, s8, s9, .ow 1 (.list (ev n)), s11, .sh (.list (ev n)), s13] = some (.nx [s0, .ow 2 s, s2, .sh (.int (n : Nat)), s4, s5, s6, s7, s8, s9, .ow 1 (.list (ev n ++ [.none])), s11, .sh (.list (ev n)), s13]) := by
  have hl := ev_len n
  have h2 := ev_le hn
  have h3 : (ev n).length ≤ 16777215 := by omega
  have h4 : (ev n).length + 1 ≤ 16777216 := by omega
  have h5 : (ev n).length < 16777216 := by omega
  unfold le8_
  generalize ev n = E at *
  simp [h3, h4, h5]
end
end K73

/-! k73: the sums -/
namespace K73
open PySem Nt L2
section
variable {n : Nat} {s : D}
theorem e5_ok (hn : n ≤ 6) (r : Nat) (s0 s1 s2 s4 s5 s6 s7 s8 s9 s10 s13 : Sl) (n4 : Nw s4) : e5_law [s0, s1, s2, .sh (.int (n : Nat)), s4, s5, s6, s7, s8, s9, s10, .sh (.int (r : Nat)), .sh (.list (ev n)), s13] = some (.int (sumB n r : Nat), [s0, s1, s2, .sh (.int (n : Nat)), s4, s5, s6, s7, s8, s9, s10, .sh (.int (r : Nat)), .sh (.list (ev n)), s13]) := by
  obtain ⟨T, eT, pT⟩ := ev_back n
  rw [eT]
  have ok := okOwn1 (ρ := [s0, s1, s2, .sh (.int (n : Nat)), s4, s5, s6, s7, s8, s9, s10, .sh (.int (r : Nat)), .sh (.list (T.map ltD)), s13]) (i := 4) rfl n4
  have bk : back [s0, s1, s2, .sh (.int (n : Nat)), s4, s5, s6, s7, s8, s9, s10, .sh (.int (r : Nat)), .sh (.list (T.map ltD)), s13] [s0, s1, s2, .sh (.int (n : Nat)), .un, s5, s6, s7, s8, s9, s10, .sh (.int (r : Nat)), .sh (.list (T.map ltD)), s13] [4] = [s0, s1, s2, .sh (.int (n : Nat)), s4, s5, s6, s7, s8, s9, s10, .sh (.int (r : Nat)), .sh (.list (T.map ltD)), s13] := rfl
  have cc := comp_flt (set := fName 4) (tst := q1_law) (el := e4_law) (vs := [4]) (ρ0 := [s0, s1, s2, .sh (.int (n : Nat)), .un, s5, s6, s7, s8, s9, s10, .sh (.int (r : Nat)), .sh (.list (T.map ltD)), s13]) ltD (fun l => PyData.int ((2 ^ (frI l).toNat : Nat) : Int)) (fun l => l.length == r) T [s0, s1, s2, .sh (.int (n : Nat)), s4, s5, s6, s7, s8, s9, s10, .sh (.int (r : Nat)), .sh (.list (T.map ltD)), s13] (by simp [forget]) (fun l hl => by
    have hl' := pT.mem_iff.mp hl
    have l6 := lotsI_each n l hl'
    have fe := allN_ok fE n (by omega)
    have fe2 := List.all_eq_true.mp fe l hl'
    rw [Bool.and_eq_true, decide_eq_true_eq, decide_eq_true_eq] at fe2
    have fo := free_ok (L := l) (by omega)
    have sh := shl_ev (frI l).toNat (by omega)
    have ft : (((frI l).toNat : Nat) : Int) = frI l := by omega
    rw [ft] at sh
    have el : dLen [ltD l] = some (.int (l.length : Nat)) := by
      unfold ltD
      simp
    have eq := eqN l.length r
    generalize ltD l = LL at *
    generalize T.map ltD = TT at *
    generalize ((2 ^ (frI l).toNat : Nat) : Int) = V at *
    generalize frI l = F at *
    refine ⟨[s0, s1, s2, .sh (.int (n : Nat)), .sh LL, s5, s6, s7, s8, s9, s10, .sh (.int (r : Nat)), .sh (.list TT), s13], [s0, s1, s2, .sh (.int (n : Nat)), .sh LL, s5, s6, s7, s8, s9, s10, .sh (.int (r : Nat)), .sh (.list TT), s13], by simp, ?_, ?_⟩
    · generalize (l.length == r) = b at *
      simp [q1_law, el, eq, -dEq_intF]
    · cases hb : (l.length == r) with
      | false => exact .inl ⟨rfl, by simp [forget]⟩
      | true => exact .inr ⟨rfl, [s0, s1, s2, .sh (.int (n : Nat)), .sh LL, s5, s6, s7, s8, s9, s10, .sh (.int (r : Nat)), .sh (.list TT), s13], by simp [e4_law, fo, sh, -dShl_ev], by simp [forget]⟩)
  have ss := sum_step hn pT r
  have ds : dSum [.list ((T.filter fun l => l.length == r).map fun l => PyData.int ((2 ^ (frI l).toNat : Nat) : Int))] = some (.int (sumB n r : Nat)) := by
    have : ((T.filter fun l => l.length == r).map fun l => PyData.int ((2 ^ (frI l).toNat : Nat) : Int)) = ((T.filter fun l => l.length == r).map fun l => ((2 ^ (frI l).toNat : Nat) : Int)).map PyData.int := by rw [List.map_map]; rfl
    rw [this, dSum_ev, ss]
  have tl : (T.map ltD).length ≤ 16777216 := by
    have := ev_le hn
    have := pT.length_eq
    rw [List.length_map]
    omega
  unfold e5_law
  generalize (T.filter fun l => l.length == r).map (fun l => PyData.int ((2 ^ (frI l).toNat : Nat) : Int)) = W at *
  generalize T.map ltD = TT at *
  simp [tl, ok, cc, bk, ds]
theorem le9_ok (hn : n ≤ 6) (s0 s1 s2 s4 s5 s6 s7 s8 s9 s10 s11 s13 : Sl) (n4 : Nw s4) (n11 : Nw s11) : le9_ [s0, s1, s2, .sh (.int (n : Nat)), s4, s5, s6, s7, s8, s9, s10, s11, .sh (.list (ev n)), s13] = some (.nx [s0, s1, s2, .sh (.int (n : Nat)), s4, s5, s6, s7, s8, s9, s10, s11, .sh (.list (ev n)), .ow 1 (.list ((List.range (n + 1)).map fun r => .int (sumB n r : Nat)))]) := by
  have ok := okOwn1 (ρ := [s0, s1, s2, .sh (.int (n : Nat)), s4, s5, s6, s7, s8, s9, s10, s11, .sh (.list (ev n)), s13]) (i := 11) rfl n11
  have bk : back [s0, s1, s2, .sh (.int (n : Nat)), s4, s5, s6, s7, s8, s9, s10, s11, .sh (.list (ev n)), s13] [s0, s1, s2, .sh (.int (n : Nat)), s4, s5, s6, s7, s8, s9, s10, .un, .sh (.list (ev n)), s13] [11] = [s0, s1, s2, .sh (.int (n : Nat)), s4, s5, s6, s7, s8, s9, s10, s11, .sh (.list (ev n)), s13] := rfl
  have cc := comp_map (set := fName 11) (tst := mYes) (el := e5_law) (vs := [11]) (ρ0 := [s0, s1, s2, .sh (.int (n : Nat)), s4, s5, s6, s7, s8, s9, s10, .un, .sh (.list (ev n)), s13]) (fun r : Nat => PyData.int (r : Nat)) (fun r => PyData.int (sumB n r : Nat)) (List.range (n + 1)) [s0, s1, s2, .sh (.int (n : Nat)), s4, s5, s6, s7, s8, s9, s10, s11, .sh (.list (ev n)), s13] (by simp [forget]) (fun r hr => by
    have h := e5_ok hn r s0 s1 s2 s4 s5 s6 s7 s8 s9 s10 s13 n4
    generalize ev n = E at *
    exact ⟨[s0, s1, s2, .sh (.int (n : Nat)), s4, s5, s6, s7, s8, s9, s10, .sh (.int (r : Nat)), .sh (.list E), s13], [s0, s1, s2, .sh (.int (n : Nat)), s4, s5, s6, s7, s8, s9, s10, .sh (.int (r : Nat)), .sh (.list E), s13], by simp, by simp, h, by simp [forget]⟩)
  have c1 : cRng (((n : Nat) : Int) + 1) = true := cRng_of (by omega) (by omega)
  have t1 : (((n : Nat) : Int) + 1).toNat = n + 1 := by omega
  have ll : ((List.range (n + 1)).map fun k : Nat => PyData.int (k : Nat)).length ≤ 16777216 := by rw [List.length_map, List.length_range]; omega
  unfold le9_
  rw [← range_nI] at cc ll
  generalize (List.range (n + 1)).map (fun r => PyData.int (sumB n r : Nat)) = W at *
  generalize hR : rangeD 0 (n + 1) = R at *
  generalize ev n = E at *
  simp [c1, t1, hR, ll, ok, cc, bk]
theorem le10_ok (hn : n ≤ 6) (s0 s1 s2 s4 s5 s6 s7 s8 s9 s10 s11 : Sl) (n11 : Nw s11) : ∃ ρ', le10_ [s0, s1, s2, .sh (.int (n : Nat)), s4, s5, s6, s7, s8, s9, s10, s11, .sh (.list (ev n)), .ow 1 (.list ((List.range (n + 1)).map fun r => .int (sumB n r : Nat)))] = some (.rt (.bool true) ρ') := by
  have ok := okOwn1 (ρ := [s0, s1, s2, .sh (.int (n : Nat)), s4, s5, s6, s7, s8, s9, s10, s11, .sh (.list (ev n)), .ow 1 (.list ((List.range (n + 1)).map fun r => .int (sumB n r : Nat)))]) (i := 11) rfl n11
  have bk : back [s0, s1, s2, .sh (.int (n : Nat)), s4, s5, s6, s7, s8, s9, s10, s11, .sh (.list (ev n)), .ow 1 (.list ((List.range (n + 1)).map fun r => .int (sumB n r : Nat)))] [s0, s1, s2, .sh (.int (n : Nat)), s4, s5, s6, s7, s8, s9, s10, .un, .sh (.list (ev n)), .ow 1 (.list ((List.range (n + 1)).map fun r => .int (sumB n r : Nat)))] [11] = [s0, s1, s2, .sh (.int (n : Nat)), s4, s5, s6, s7, s8, s9, s10, s11, .sh (.list (ev n)), .ow 1 (.list ((List.range (n + 1)).map fun r => .int (sumB n r : Nat)))] := rfl
  have cc := comp_map (set := fName 11) (tst := mYes) (el := e6_law) (vs := [11]) (ρ0 := [s0, s1, s2, .sh (.int (n : Nat)), s4, s5, s6, s7, s8, s9, s10, .un, .sh (.list (ev n)), .ow 1 (.list ((List.range (n + 1)).map fun r => .int (sumB n r : Nat)))]) (fun r : Nat => PyData.int (r : Nat)) (fun r => PyData.int (sumB n r : Nat)) (List.range (n + 1)) [s0, s1, s2, .sh (.int (n : Nat)), s4, s5, s6, s7, s8, s9, s10, s11, .sh (.list (ev n)), .ow 1 (.list ((List.range (n + 1)).map fun r => .int (sumB n r : Nat)))] (by simp [forget]) (fun r hr => by
    have hr' : r ≤ n := by
      rw [List.mem_range] at hr
      omega
    have h := codes_ok (n := n) (by omega) hr'
    have e : (rowN n).getD r 0 = sumB n r := by
      have h := allN_ok (allN_ok fF n (by omega)) r (by omega)
      rw [Bool.or_eq_true] at h
      rcases h with h | h
      · have := Nat.le_of_ble_eq_true h
        omega
      · exact (Nat.eq_of_beq_eq_true h).symm
    rw [e] at h
    generalize (List.range (n + 1)).map (fun r => PyData.int (sumB n r : Nat)) = W at *
    generalize ev n = E at *
    generalize sumB n r = V at *
    exact ⟨[s0, s1, s2, .sh (.int (n : Nat)), s4, s5, s6, s7, s8, s9, s10, .sh (.int (r : Nat)), .sh (.list E), .ow 1 (.list W)], [s0, s1, s2, .sh (.int (n : Nat)), s4, s5, s6, s7, s8, s9, s10, .sh (.int (r : Nat)), .sh (.list E), .ow 1 (.list W)], by simp, by simp, by simp [e6_law, h], by simp [forget]⟩)
  have c1 : cRng (((n : Nat) : Int) + 1) = true := cRng_of (by omega) (by omega)
  have t1 : (((n : Nat) : Int) + 1).toNat = n + 1 := by omega
  have ll : ((List.range (n + 1)).map fun k : Nat => PyData.int (k : Nat)).length ≤ 16777216 := by rw [List.length_map, List.length_range]; omega
  have se : dEq false (.list ((List.range (n + 1)).map fun r => PyData.int (sumB n r : Nat))) (.list ((List.range (n + 1)).map fun r => PyData.int (sumB n r : Nat))) = some (.bool true) := by
    have m : ((List.range (n + 1)).map fun r => PyData.int (sumB n r : Nat)) = ((List.range (n + 1)).map fun r => ((sumB n r : Nat) : Int)).map PyData.int := by rw [List.map_map]; rfl
    rw [m]
    refine eqI_self _ fun x hx => ?_
    obtain ⟨r, hr, rfl⟩ := List.mem_map.mp hx
    rw [List.mem_range] at hr
    have h := allN_ok (allN_ok fF n (by omega)) r (by omega)
    rw [Bool.or_eq_true] at h
    rcases h with h | h
    · have := Nat.le_of_ble_eq_true h
      omega
    · have := Nat.eq_of_beq_eq_true h
      have := getD_le (n := n) (by omega) r
      omega
  have al : F_all_span_lots [.int (n : Nat)] = some (.list (ev n)) := all_lots_ok hn
  refine ⟨[s0, s1, s2, .sh (.int (n : Nat)), s4, s5, s6, s7, s8, s9, s10, s11, .sh (.list (ev n)), .ow 1 (.list ((List.range (n + 1)).map fun r => .int (sumB n r : Nat)))], ?_⟩
  unfold le10_
  rw [← range_nI] at cc ll
  generalize (List.range (n + 1)).map (fun r => PyData.int (sumB n r : Nat)) = W at *
  generalize hR : rangeD 0 (n + 1) = R at *
  generalize ev n = E at *
  simp [c1, t1, hR, ll, ok, cc, bk, se, al]
end
end K73

/-! k73: the plain law -/
namespace K73
open PySem Nt L2
theorem plain : ∀ ns : List Int, ns.length ≤ 100000 → ∃ ρ', g_law (lawEnv N_law.length ns) = some (.rt (.bool true) ρ') := by
  intro ns _
  have hs : Src (srcD (cellsD ns) 1 (mixAll ns) 0) := ⟨_, _, _, _, rfl⟩
  have h0 : LapI (lawEnv N_law.length ns) := ⟨_, .un, .un, .un, .un, .un, .un, .un, .un, .un, .un, .un, .un, .un, hs, ⟨.un, .un, .un, .un⟩, rfl⟩
  obtain ⟨ρ', e, s, s0, s2, s3, s4, s5, s6, s7, s8, s9, s10, s11, s12, s13, hs', ⟨n7, n4, n6, n11⟩, rfl⟩ := laps_ok h0
  have he : lawEnv N_law.length ns = [.un, .ow 2 (srcD (cellsD ns) 1 (mixAll ns) 0), .un, .un, .un, .un, .un, .un, .un, .un, .un, .un, .un, .un] := rfl
  have c0 : cRng 5 = true := by decide
  rw [he] at e ⊢
  have a0 : le0_ [.un, .ow 2 (srcD (cellsD ns) 1 (mixAll ns) 0), .un, .un, .un, .un, .un, .un, .un, .un, .un, .un, .un, .un] = some (.nx [s0, .ow 2 s, s2, s3, s4, s5, s6, s7, s8, s9, s10, s11, s12, s13]) := by
    unfold le0_
    simp [c0, e]
  obtain ⟨n, s1, a1, hs1, hn1, hn⟩ := le1_ok hs' s0 s2 s3 s4 s5 s6 s7 s8 s9 s10 s11 s12 s13
  rw [leeq, sSeq_ev, a0, os_nx, sSeq_ev, a1, os_nx, sSeq_ev]
  rcases le2_ok (n := n) hs1 s0 s2 s4 s5 s6 s7 s8 s9 s10 s11 s12 s13 with ⟨ρ', a2⟩ | ⟨s2', a2, hs2⟩
  · exact ⟨ρ', by rw [a2]; rfl⟩
  · rw [a2, os_nx, sSeq_ev, le4_ok hn _ _ _ _ _ _ _ _ _ _ _ _ n6, os_nx, sSeq_ev, le5_ok hn, os_nx, sSeq_ev, le6_ok hn, os_nx, sSeq_ev, le8_ok hn, os_nx, sSeq_ev, le9_ok hn _ _ _ _ _ _ _ _ _ _ _ _ n4 n11, os_nx]
    exact le10_ok hn _ _ _ _ _ _ _ _ _ _ _ n11
end K73

namespace K73
open PySem PySem.Spec PyProof.Rows L2 Nt
theorem all_mk {l : PySem.W.OpenLaw} {w : World} {K : PySem.W.Frag} {h : Heap} {mg : Str → Option Value} {fa : Addr} (X : K.In h) (G : h.Ns mainGlobals mg) (hfa : mg "law" = some (.ref fa))
    {od0 an0 : Option Addr} {sl0 : Array (Option Value)} {oc0 kV0 dc0 pm0 cd0 ct0 : Value} {f0 : Addr}
    {od1 an1 : Option Addr} {sl1 : Array (Option Value)} {oc1 kV1 dc1 pm1 cd1 ct1 : Value} {f1 : Addr}
    {od2 an2 : Option Addr} {sl2 : Array (Option Value)} {oc2 kV2 dc2 pm2 cd2 ct2 : Value} {f2 : Addr}
    {od3 an3 : Option Addr} {sl3 : Array (Option Value)} {oc3 kV3 dc3 pm3 cd3 ct3 : Value} {f3 : Addr}
    {od4 an4 : Option Addr} {sl4 : Array (Option Value)} {oc4 kV4 dc4 pm4 cd4 ct4 : Value} {f4 : Addr}
    {od5 an5 : Option Addr} {sl5 : Array (Option Value)} {oc5 kV5 dc5 pm5 cd5 ct5 : Value} {f5 : Addr}
    {od6 an6 : Option Addr} {sl6 : Array (Option Value)} {oc6 kV6 dc6 pm6 cd6 ct6 : Value} {f6 : Addr}
    {od7 an7 : Option Addr} {sl7 : Array (Option Value)} {oc7 kV7 dc7 pm7 cd7 ct7 : Value} {f7 : Addr}
    {od8 an8 : Option Addr} {sl8 : Array (Option Value)} {oc8 kV8 dc8 pm8 cd8 ct8 : Value} {f8 : Addr}
    {od9 an9 : Option Addr} {sl9 : Array (Option Value)} {oc9 kV9 dc9 pm9 cd9 ct9 : Value} {f9 : Addr}
    {od10 an10 : Option Addr} {sl10 : Array (Option Value)} {oc10 kV10 dc10 pm10 cd10 ct10 : Value} {f10 : Addr}
    {od11 an11 : Option Addr} {sl11 : Array (Option Value)} {oc11 kV11 dc11 pm11 cd11 ct11 : Value} {f11 : Addr}
    {od12 an12 : Option Addr} {sl12 : Array (Option Value)} {oc12 kV12 dc12 pm12 cd12 ct12 : Value} {f12 : Addr}
    {od13 an13 : Option Addr} {sl13 : Array (Option Value)} {oc13 kV13 dc13 pm13 cd13 ct13 : Value} {f13 : Addr}
    {od14 an14 : Option Addr} {sl14 : Array (Option Value)} {oc14 kV14 dc14 pm14 cd14 ct14 : Value} {f14 : Addr}
    {od15 an15 : Option Addr} {sl15 : Array (Option Value)} {oc15 kV15 dc15 pm15 cd15 ct15 : Value} {f15 : Addr}
    (a0 : PySem.W.nsIn K mainGlobals "_law_source" = some (some (.ref f0))) (l0 : K.lookup f0 = some ⟨oc0, od0, .func (PySem.W.fnOf "_law_source" "_law_source" (defArgs s__law_source) (defBody s__law_source) (defScope s__law_source) .none kV0 dc0 pm0 an0 cd0 ct0), sl0⟩) (c0 : PySem.W.codeIn K cd0 "_law_source" = true) (k0 : PySem.W.keepIn K (.ref f0) = true)
    (a1 : PySem.W.nsIn K mainGlobals "parting_of" = some (some (.ref f1))) (l1 : K.lookup f1 = some ⟨oc1, od1, .func (PySem.W.fnOf "parting_of" "parting_of" (defArgs s_parting_of) (defBody s_parting_of) (defScope s_parting_of) .none kV1 dc1 pm1 an1 cd1 ct1), sl1⟩) (c1 : PySem.W.codeIn K cd1 "parting_of" = true) (k1 : PySem.W.keepIn K (.ref f1) = true)
    (a2 : PySem.W.nsIn K mainGlobals "lot_of_parting" = some (some (.ref f2))) (l2 : K.lookup f2 = some ⟨oc2, od2, .func (PySem.W.fnOf "lot_of_parting" "lot_of_parting" (defArgs s_lot_of_parting) (defBody s_lot_of_parting) (defScope s_lot_of_parting) .none kV2 dc2 pm2 an2 cd2 ct2), sl2⟩) (c2 : PySem.W.codeIn K cd2 "lot_of_parting" = true) (k2 : PySem.W.keepIn K (.ref f2) = true)
    (a3 : PySem.W.nsIn K mainGlobals "all_span_lots" = some (some (.ref f3))) (l3 : K.lookup f3 = some ⟨oc3, od3, .func (PySem.W.fnOf "all_span_lots" "all_span_lots" (defArgs s_all_span_lots) (defBody s_all_span_lots) (defScope s_all_span_lots) .none kV3 dc3 pm3 an3 cd3 ct3), sl3⟩) (c3 : PySem.W.codeIn K cd3 "all_span_lots" = true) (k3 : PySem.W.keepIn K (.ref f3) = true)
    (a4 : PySem.W.nsIn K mainGlobals "codes_with" = some (some (.ref f4))) (l4 : K.lookup f4 = some ⟨oc4, od4, .func (PySem.W.fnOf "codes_with" "codes_with" (defArgs s_codes_with) (defBody s_codes_with) (defScope s_codes_with) .none kV4 dc4 pm4 an4 cd4 ct4), sl4⟩) (c4 : PySem.W.codeIn K cd4 "codes_with" = true) (k4 : PySem.W.keepIn K (.ref f4) = true)
    (a5 : PySem.W.nsIn K mainGlobals "_law_pick" = some (some (.ref f5))) (l5 : K.lookup f5 = some ⟨oc5, od5, .func (PySem.W.fnOf "_law_pick" "_law_pick" (defArgs s__law_pick) (defBody s__law_pick) (defScope s__law_pick) .none kV5 dc5 pm5 an5 cd5 ct5), sl5⟩) (c5 : PySem.W.codeIn K cd5 "_law_pick" = true) (k5 : PySem.W.keepIn K (.ref f5) = true)
    (a6 : PySem.W.nsIn K mainGlobals "_law_pairs" = some (some (.ref f6))) (l6 : K.lookup f6 = some ⟨oc6, od6, .func (PySem.W.fnOf "_law_pairs" "_law_pairs" (defArgs s__law_pairs) (defBody s__law_pairs) (defScope s__law_pairs) .none kV6 dc6 pm6 an6 cd6 ct6), sl6⟩) (c6 : PySem.W.codeIn K cd6 "_law_pairs" = true) (k6 : PySem.W.keepIn K (.ref f6) = true)
    (a7 : PySem.W.nsIn K mainGlobals "_law_free" = some (some (.ref f7))) (l7 : K.lookup f7 = some ⟨oc7, od7, .func (PySem.W.fnOf "_law_free" "_law_free" (defArgs s__law_free) (defBody s__law_free) (defScope s__law_free) .none kV7 dc7 pm7 an7 cd7 ct7), sl7⟩) (c7 : PySem.W.codeIn K cd7 "_law_free" = true) (k7 : PySem.W.keepIn K (.ref f7) = true)
    (a8 : PySem.W.nsIn K mainGlobals "_law_parting" = some (some (.ref f8))) (l8 : K.lookup f8 = some ⟨oc8, od8, .func (PySem.W.fnOf "_law_parting" "_law_parting" (defArgs s__law_parting) (defBody s__law_parting) (defScope s__law_parting) .none kV8 dc8 pm8 an8 cd8 ct8), sl8⟩) (c8 : PySem.W.codeIn K cd8 "_law_parting" = true) (k8 : PySem.W.keepIn K (.ref f8) = true)
    (a9 : PySem.W.nsIn K mainGlobals "_law_lot_of" = some (some (.ref f9))) (l9 : K.lookup f9 = some ⟨oc9, od9, .func (PySem.W.fnOf "_law_lot_of" "_law_lot_of" (defArgs s__law_lot_of) (defBody s__law_lot_of) (defScope s__law_lot_of) .none kV9 dc9 pm9 an9 cd9 ct9), sl9⟩) (c9 : PySem.W.codeIn K cd9 "_law_lot_of" = true) (k9 : PySem.W.keepIn K (.ref f9) = true)
    (a10 : PySem.W.nsIn K mainGlobals "_law_partings" = some (some (.ref f10))) (l10 : K.lookup f10 = some ⟨oc10, od10, .func (PySem.W.fnOf "_law_partings" "_law_partings" (defArgs s__law_partings) (defBody s__law_partings) (defScope s__law_partings) .none kV10 dc10 pm10 an10 cd10 ct10), sl10⟩) (c10 : PySem.W.codeIn K cd10 "_law_partings" = true) (k10 : PySem.W.keepIn K (.ref f10) = true)
    (a11 : PySem.W.nsIn K mainGlobals "_law_many" = some (some (.ref f11))) (l11 : K.lookup f11 = some ⟨oc11, od11, .func (PySem.W.fnOf "_law_many" "_law_many" (defArgs s__law_many) (defBody s__law_many) (defScope s__law_many) .none kV11 dc11 pm11 an11 cd11 ct11), sl11⟩) (c11 : PySem.W.codeIn K cd11 "_law_many" = true) (k11 : PySem.W.keepIn K (.ref f11) = true)
    (a12 : PySem.W.nsIn K mainGlobals "_law_of" = some (some (.ref f12))) (l12 : K.lookup f12 = some ⟨oc12, od12, .func (PySem.W.fnOf "_law_of" "_law_of" (defArgs s__law_of) (defBody s__law_of) (defScope s__law_of) .none kV12 dc12 pm12 an12 cd12 ct12), sl12⟩) (c12 : PySem.W.codeIn K cd12 "_law_of" = true) (k12 : PySem.W.keepIn K (.ref f12) = true)
    (a13 : PySem.W.nsIn K mainGlobals "_law_mixed" = some (some (.ref f13))) (l13 : K.lookup f13 = some ⟨oc13, od13, .func (PySem.W.fnOf "_law_mixed" "_law_mixed" (defArgs s__law_mixed) (defBody s__law_mixed) (defScope s__law_mixed) .none kV13 dc13 pm13 an13 cd13 ct13), sl13⟩) (c13 : PySem.W.codeIn K cd13 "_law_mixed" = true) (k13 : PySem.W.keepIn K (.ref f13) = true)
    (a14 : PySem.W.nsIn K mainGlobals "_law_lot" = some (some (.ref f14))) (l14 : K.lookup f14 = some ⟨oc14, od14, .func (PySem.W.fnOf "_law_lot" "_law_lot" (defArgs s__law_lot) (defBody s__law_lot) (defScope s__law_lot) .none kV14 dc14 pm14 an14 cd14 ct14), sl14⟩) (c14 : PySem.W.codeIn K cd14 "_law_lot" = true) (k14 : PySem.W.keepIn K (.ref f14) = true)
    (a15 : PySem.W.nsIn K mainGlobals "law" = some (some (.ref f15))) (l15 : K.lookup f15 = some ⟨oc15, od15, .func (PySem.W.fnOf "law" "law" (defArgs s_law) (defBody s_law) (defScope s_law) .none kV15 dc15 pm15 an15 cd15 ct15), sl15⟩) (c15 : PySem.W.codeIn K cd15 "law" = true) (k15 : PySem.W.keepIn K (.ref f15) = true)
    (zabs : PySem.W.nsIn K mainGlobals "abs" = some none)
    (zdict : PySem.W.nsIn K mainGlobals "dict" = some none)
    (zint : PySem.W.nsIn K mainGlobals "int" = some none)
    (zlen : PySem.W.nsIn K mainGlobals "len" = some none)
    (zlist : PySem.W.nsIn K mainGlobals "list" = some none)
    (zmax : PySem.W.nsIn K mainGlobals "max" = some none)
    (zrange : PySem.W.nsIn K mainGlobals "range" = some none)
    (zrepr : PySem.W.nsIn K mainGlobals "repr" = some none)
    (zset : PySem.W.nsIn K mainGlobals "set" = some none)
    (zsorted : PySem.W.nsIn K mainGlobals "sorted" = some none)
    (zsum : PySem.W.nsIn K mainGlobals "sum" = some none)
    (ztuple : PySem.W.nsIn K mainGlobals "tuple" = some none)
    (zzip : PySem.W.nsIn K mainGlobals "zip" = some none)
    (plain : ∀ ns : List Int, ns.length ≤ 100000 → ∃ ρ', g_law (lawEnv N_law.length ns) = some (.rt (.bool true) ρ')) :
    ∃ fd : FuncData, (∀ (s : Shared) (v : Value), BindsTo s fd ⟨[v], []⟩ [("script", v)]) ∧ ∀ base : Heap, K.In base → base.Ns mainGlobals mg → FnG l.prog w K mg base 4 fa fd ["script"] (spLaw K) := by
  have e := hfa.symm.trans (PySem.W.mg_of X G a15)
  cases e
  have Z : Zs mg := ⟨PySem.W.mg_none_of X G zabs, PySem.W.mg_none_of X G zdict, PySem.W.mg_none_of X G zint, PySem.W.mg_none_of X G zlen, PySem.W.mg_none_of X G zlist, PySem.W.mg_none_of X G zmax, PySem.W.mg_none_of X G zrange, PySem.W.mg_none_of X G zrepr, PySem.W.mg_none_of X G zset, PySem.W.mg_none_of X G zsorted, PySem.W.mg_none_of X G zsum, PySem.W.mg_none_of X G ztuple, PySem.W.mg_none_of X G zzip⟩
  have F0 := fun_mk (st := s__law_source) l0 c0 k0
  have F1 := fun_mk (st := s_parting_of) l1 c1 k1
  have F2 := fun_mk (st := s_lot_of_parting) l2 c2 k2
  have F3 := fun_mk (st := s_all_span_lots) l3 c3 k3
  have F4 := fun_mk (st := s_codes_with) l4 c4 k4
  have F5 := fun_mk (st := s__law_pick) l5 c5 k5
  have F6 := fun_mk (st := s__law_pairs) l6 c6 k6
  have F7 := fun_mk (st := s__law_free) l7 c7 k7
  have F8 := fun_mk (st := s__law_parting) l8 c8 k8
  have F9 := fun_mk (st := s__law_lot_of) l9 c9 k9
  have F10 := fun_mk (st := s__law_partings) l10 c10 k10
  have F11 := fun_mk (st := s__law_many) l11 c11 k11
  have F12 := fun_mk (st := s__law_of) l12 c12 k12
  have F13 := fun_mk (st := s__law_mixed) l13 c13 k13
  have F14 := fun_mk (st := s__law_lot) l14 c14 k14
  have F15 := fun_mk (st := s_law) l15 c15 k15
  refine ⟨_, fun s v => .of_eq rfl, fun base hK hG => (?_ : FnG l.prog w K mg base 4 fa (PySem.W.fnOf "law" "law" (defArgs s_law) (defBody s_law) (defScope s_law) .none kV15 dc15 pm15 an15 cd15 ct15) ["script"] (spLaw K))⟩
  have D__law_source : Dn l.prog w K mg base 1 "_law_source" ["script"] (spSrc K) := ⟨_, _, PySem.W.mg_of X G a0, fn_src (k := 0) F0 sc__law_source fun cdv A outer s H c => b__law_source Z c, k0, F0.binds (ps := ["script"]) fun _ _ _ _ _ _ us hl => match us, hl with | [_], _ => rfl⟩
  have D_parting_of : Dn l.prog w K mg base 1 "parting_of" ["n", "lot"] (spF K 2 0 F_parting_of) := ⟨_, _, PySem.W.mg_of X G a1, fn_F (k := 0) F1 sc_parting_of rfl (fun cdv A outer s H c => b_parting_of Z  c) (fun ds z _ h => h), k1, F1.binds (ps := ["n", "lot"]) fun _ _ _ _ _ _ us hl => match us, hl with | [_, _], _ => rfl⟩
  have D_lot_of_parting : Dn l.prog w K mg base 1 "lot_of_parting" ["n", "parting"] (spF K 2 0 F_lot_of_parting) := ⟨_, _, PySem.W.mg_of X G a2, fn_F (k := 0) F2 sc_lot_of_parting rfl (fun cdv A outer s H c => b_lot_of_parting Z  c) (fun ds z _ h => h), k2, F2.binds (ps := ["n", "parting"]) fun _ _ _ _ _ _ us hl => match us, hl with | [_, _], _ => rfl⟩
  have D_all_span_lots : Dn l.prog w K mg base 1 "all_span_lots" ["n"] (spF K 1 1 F_all_span_lots) := ⟨_, _, PySem.W.mg_of X G a3, fn_F (k := 0) F3 sc_all_span_lots rfl (fun cdv A outer s H c => b_all_span_lots Z  c) (fun ds z _ h => h), k3, F3.binds (ps := ["n"]) fun _ _ _ _ _ _ us hl => match us, hl with | [_], _ => rfl⟩
  have D_codes_with : Dn l.prog w K mg base 1 "codes_with" ["n", "rank"] (spF K 2 0 F_codes_with) := ⟨_, _, PySem.W.mg_of X G a4, fn_F (k := 0) F4 sc_codes_with rfl (fun cdv A outer s H c => b_codes_with Z  c) (fun ds z _ h => h), k4, F4.binds (ps := ["n", "rank"]) fun _ _ _ _ _ _ us hl => match us, hl with | [_, _], _ => rfl⟩
  have D__law_pick : Dn l.prog w K mg base 1 "_law_pick" ["source", "many"] (spI K 1 0 2 F__law_pick) := ⟨_, _, PySem.W.mg_of X G a5, fn_I (k := 0) F5 sc__law_pick rfl (fun cdv A outer s H c => b__law_pick Z  c) (fun s ds z _ h => h), k5, F5.binds (ps := ["source", "many"]) fun _ _ _ _ _ _ us hl => match us, hl with | [_, _], _ => rfl⟩
  have D__law_pairs : Dn l.prog w K mg base 1 "_law_pairs" ["n"] (spF K 1 0 F__law_pairs) := ⟨_, _, PySem.W.mg_of X G a6, fn_F (k := 0) F6 sc__law_pairs rfl (fun cdv A outer s H c => b__law_pairs Z  c) (fun ds z _ h => h), k6, F6.binds (ps := ["n"]) fun _ _ _ _ _ _ us hl => match us, hl with | [_], _ => rfl⟩
  have D__law_free : Dn l.prog w K mg base 1 "_law_free" ["lot"] (spF K 1 0 F__law_free) := ⟨_, _, PySem.W.mg_of X G a7, fn_F (k := 0) F7 sc__law_free rfl (fun cdv A outer s H c => b__law_free Z  c) (fun ds z _ h => h), k7, F7.binds (ps := ["lot"]) fun _ _ _ _ _ _ us hl => match us, hl with | [_], _ => rfl⟩
  have D__law_parting : Dn l.prog w K mg base 1 "_law_parting" ["n", "lot"] (spF K 2 0 F__law_parting) := ⟨_, _, PySem.W.mg_of X G a8, fn_F (k := 0) F8 sc__law_parting rfl (fun cdv A outer s H c => b__law_parting Z  c) (fun ds z _ h => h), k8, F8.binds (ps := ["n", "lot"]) fun _ _ _ _ _ _ us hl => match us, hl with | [_, _], _ => rfl⟩
  have D__law_lot_of : Dn l.prog w K mg base 1 "_law_lot_of" ["parting"] (spF K 1 0 F__law_lot_of) := ⟨_, _, PySem.W.mg_of X G a9, fn_F (k := 0) F9 sc__law_lot_of rfl (fun cdv A outer s H c => b__law_lot_of Z  c) (fun ds z _ h => h), k9, F9.binds (ps := ["parting"]) fun _ _ _ _ _ _ us hl => match us, hl with | [_], _ => rfl⟩
  have D__law_partings : Dn l.prog w K mg base 1 "_law_partings" ["n"] (spF K 1 0 F__law_partings) := ⟨_, _, PySem.W.mg_of X G a10, fn_F (k := 0) F10 sc__law_partings rfl (fun cdv A outer s H c => b__law_partings Z  c) (fun ds z _ h => h), k10, F10.binds (ps := ["n"]) fun _ _ _ _ _ _ us hl => match us, hl with | [_], _ => rfl⟩
  have D__law_many : Dn l.prog w K mg base 1 "_law_many" ["n", "rank"] (spF K 2 0 F__law_many) := ⟨_, _, PySem.W.mg_of X G a11, fn_F (k := 0) F11 sc__law_many rfl (fun cdv A outer s H c => b__law_many Z  c) (fun ds z _ h => h), k11, F11.binds (ps := ["n", "rank"]) fun _ _ _ _ _ _ us hl => match us, hl with | [_, _], _ => rfl⟩
  have D__law_of : Dn l.prog w K mg base 2 "_law_of" ["source", "some"] (spS K 2 0 F__law_of) := ⟨_, _, PySem.W.mg_of X G a12, fn_S (k := 1) F12 sc__law_of rfl (fun cdv A outer s H c => b__law_of Z (D__law_pick.lift (by decide)) c) (fun ds z _ h => h), k12, F12.binds (ps := ["source", "some"]) fun _ _ _ _ _ _ us hl => match us, hl with | [_, _], _ => rfl⟩
  have D__law_mixed : Dn l.prog w K mg base 2 "_law_mixed" ["source", "things"] (spI K 1 0 2 F__law_mixed) := ⟨_, _, PySem.W.mg_of X G a13, fn_I (k := 1) F13 sc__law_mixed rfl (fun cdv A outer s H c => b__law_mixed Z (D__law_pick.lift (by decide)) c) (fun s ds z _ h => h), k13, F13.binds (ps := ["source", "things"]) fun _ _ _ _ _ _ us hl => match us, hl with | [_, _], _ => rfl⟩
  have D__law_lot : Dn l.prog w K mg base 3 "_law_lot" ["source", "n"] (spI K 1 0 2 F__law_lot) := ⟨_, _, PySem.W.mg_of X G a14, fn_I (k := 2) F14 sc__law_lot rfl (fun cdv A outer s H c => b__law_lot Z (D__law_mixed.lift (by decide)) (D__law_pairs.lift (by decide)) (D__law_pick.lift (by decide)) c) (fun s ds z _ h => h), k14, F14.binds (ps := ["source", "n"]) fun _ _ _ _ _ _ us hl => match us, hl with | [_, _], _ => rfl⟩
  exact fn_law (k := 3) F15 sc_law (by decide) (fun cdv A outer s H c => b_law Z (D__law_free.lift (by decide)) (D__law_lot.lift (by decide)) (D__law_lot_of.lift (by decide)) (D__law_many.lift (by decide)) (D__law_of.lift (by decide)) (D__law_parting.lift (by decide)) (D__law_partings.lift (by decide)) (D__law_pick.lift (by decide)) (D__law_source.lift (by decide)) (D_all_span_lots.lift (by decide)) (D_codes_with.lift (by decide)) (D_lot_of_parting.lift (by decide)) (D_parting_of.lift (by decide)) c) plain
end K73
open PySem PySem.W PyProof.Rows in
set_option maxRecDepth 100000 in
set_option maxHeartbeats 0 in
theorem PySem.Challenge.cw_netcodes_k73_whole_spans_and_partings_holds : PySem.Challenge.rw_netcodes_k73_whole_spans_and_partings.Holds := by
  w_on; o_law; k_head; (case hw => w_witness2)
  k_fill
  refine Nt.walkG (n := 63) (k := 4) (x := "script") (sp := fun K => Nt.spLaw K) (l := PySem.Challenge.rw_netcodes_k73_whole_spans_and_partings) rfl (by decide) rfl ⟨rfl, by decide, by decide⟩ rfl (fun w h Y => PySem.W.kIn_of Y) ?F (fun K H a ns hl _ _ hS => ⟨a, ns, rfl, hS, Nat.le_trans hl (by decide), fun _ => rfl⟩)
  case F =>
    intro w mg fa h KX G hmg
    refine' K73.all_mk KX G hmg ?a0 ?l0 ?c0 ?k0 ?a1 ?l1 ?c1 ?k1 ?a2 ?l2 ?c2 ?k2 ?a3 ?l3 ?c3 ?k3 ?a4 ?l4 ?c4 ?k4 ?a5 ?l5 ?c5 ?k5 ?a6 ?l6 ?c6 ?k6 ?a7 ?l7 ?c7 ?k7 ?a8 ?l8 ?c8 ?k8 ?a9 ?l9 ?c9 ?k9 ?a10 ?l10 ?c10 ?k10 ?a11 ?l11 ?c11 ?k11 ?a12 ?l12 ?c12 ?k12 ?a13 ?l13 ?c13 ?k13 ?a14 ?l14 ?c14 ?k14 ?a15 ?l15 ?c15 ?k15 ?zabs ?zdict ?zint ?zlen ?zlist ?zmax ?zrange ?zrepr ?zset ?zsorted ?zsum ?ztuple ?zzip K73.plain
    (case a0 => k_is)
    (case l0 => k_is)
    (case c0 => k_is)
    (case k0 => k_is)
    (case a1 => k_is)
    (case l1 => k_is)
    (case c1 => k_is)
    (case k1 => k_is)
    (case a2 => k_is)
    (case l2 => k_is)
    (case c2 => k_is)
    (case k2 => k_is)
    (case a3 => k_is)
    (case l3 => k_is)
    (case c3 => k_is)
    (case k3 => k_is)
    (case a4 => k_is)
    (case l4 => k_is)
    (case c4 => k_is)
    (case k4 => k_is)
    (case a5 => k_is)
    (case l5 => k_is)
    (case c5 => k_is)
    (case k5 => k_is)
    (case a6 => k_is)
    (case l6 => k_is)
    (case c6 => k_is)
    (case k6 => k_is)
    (case a7 => k_is)
    (case l7 => k_is)
    (case c7 => k_is)
    (case k7 => k_is)
    (case a8 => k_is)
    (case l8 => k_is)
    (case c8 => k_is)
    (case k8 => k_is)
    (case a9 => k_is)
    (case l9 => k_is)
    (case c9 => k_is)
    (case k9 => k_is)
    (case a10 => k_is)
    (case l10 => k_is)
    (case c10 => k_is)
    (case k10 => k_is)
    (case a11 => k_is)
    (case l11 => k_is)
    (case c11 => k_is)
    (case k11 => k_is)
    (case a12 => k_is)
    (case l12 => k_is)
    (case c12 => k_is)
    (case k12 => k_is)
    (case a13 => k_is)
    (case l13 => k_is)
    (case c13 => k_is)
    (case k13 => k_is)
    (case a14 => k_is)
    (case l14 => k_is)
    (case c14 => k_is)
    (case k14 => k_is)
    (case a15 => k_is)
    (case l15 => k_is)
    (case c15 => k_is)
    (case k15 => k_is)
    (case zabs => k_is)
    (case zdict => k_is)
    (case zint => k_is)
    (case zlen => k_is)
    (case zlist => k_is)
    (case zmax => k_is)
    (case zrange => k_is)
    (case zrepr => k_is)
    (case zset => k_is)
    (case zsorted => k_is)
    (case zsum => k_is)
    (case ztuple => k_is)
    (case zzip => k_is)
#print axioms PySem.Challenge.cw_netcodes_k73_whole_spans_and_partings_holds

