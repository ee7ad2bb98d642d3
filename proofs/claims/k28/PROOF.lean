import PyProof.Rows.All
import Wide.All
import OpenK.AllK
import Wide.FinOn
import HandS.ForMost
import HandS.Exc
import HandS.ExcOwn
import HandS.WordsExc
import HandS.Wide
import HandS.Flow
import KE.DataEq
import HandS.TupAny
import HandS.Codes
import HandS.Style
import HandS.IsInst
import HandS.StrMore
import HandS.SortInts
import KE.KStateDown
import HandS.Defaults
import HandS.Head0
import HandS.Head1
import HandS.Head2
import HandS.HeadEnd
import HandS.HeadHook1
import HandS.HeadHook2
import Lean
import PySem.Challenge.RW_firstway_k28_simplified_by_the_rules
set_option Elab.async false
set_option linter.all false
set_option maxRecDepth 100000
set_option maxHeartbeats 2000000
/-! DL, the data layer over HandS: values D with nested tuples and frozen lists as plain data, an owned heap of mutable objects, readings that compute. -/
namespace DL
open PySem PySem.Spec PyProof.Rows L2

/-- a value: tuples and frozen lists by their items -/
inductive D where
  | non | bl (b : Bool) | int (i : Int) | str (x : Str) | tup (ds : List D) | fls (ds : List D) | ref (a : Addr) | ty (n : String) | scr (ns : List Int)

/-- a mutable object: a list, an instance (its class, its attributes) -/
inductive MO where
  | lst (ds : List D)
  | ins (C : Addr) (fs : List (Str × D))
abbrev MH := Addr → Option MO
def updM (L : MH) (a : Addr) (o : MO) : MH := fun b => if b = a then some o else L b
theorem updM_same {L : MH} {a : Addr} {o : MO} : updM L a o a = some o := by unfold updM; rw [if_pos rfl]
theorem updM_ne {L : MH} {a b : Addr} {o : MO} (h : b ≠ a) : updM L a o b = L b := by unfold updM; rw [if_neg h]
theorem updM_upd {L : MH} {a : Addr} {o u : MO} : updM (updM L a o) a u = updM L a u := by
  funext b; unfold updM; split <;> rfl
theorem updM_some {L : MH} {a b : Addr} {o u : MO} (h : updM L a o b = some u) : (b = a ∧ u = o) ∨ (b ≠ a ∧ L b = some u) := by
  unfold updM at h
  split at h
  · rename_i e; exact .inl ⟨e, (Option.some.inj h).symm⟩
  · rename_i e; exact .inr ⟨e, h⟩
/-- a taken out of the owned heap -/
def delM (L : MH) (a : Addr) : MH := fun b => if b = a then none else L b

/-! ### a list that stands still -/
def StL (H : Hp) (a : Addr) (xs : List V) : Prop := ∃ o, H a = some (.frz o (.lst xs))
theorem StL.seq {K : PySem.W.Frag} {H : Hp} {a : Addr} {xs : List V} (h : StL H a xs) : SqL K H a xs := .inl (.inr h)
/-- the script: frozen, or the module's own -/
def StS (K : PySem.W.Frag) (H : Hp) (a : Addr) (xs : List V) : Prop :=
  (∃ o, H a = some (.frz o (.lst xs))) ∨
    ∃ (o : Obj) (its : Array Value) (n : Nat), K.lookup a = some o ∧ o.cls = .type "list" ∧ o.dict = none ∧ o.data = .seq its n ∧ its.size ≤ sizeLine ∧ Vals xs its.toList
theorem StS.seq {K : PySem.W.Frag} {H : Hp} {a : Addr} {xs : List V} (h : StS K H a xs) : SqL K H a xs := by
  rcases h with h | h
  · exact .inl (.inr h)
  · exact .inr h

mutual
def Rep (K : PySem.W.Frag) (H : Hp) : D → V → Prop
  | .non, v => v = .non
  | .bl b, v => v = .bl b
  | .int i, v => v = .int i
  | .str x, v => v = .str x
  | .ty n, v => v = .ty n
  | .ref a, v => v = .ref a
  | .tup ds, v => ∃ a xs, v = .ref a ∧ SqT K H a xs ∧ RepL K H ds xs
  | .fls ds, v => ∃ a xs, v = .ref a ∧ StL H a xs ∧ RepL K H ds xs
  | .scr ns, v => ∃ a, v = .ref a ∧ StS K H a (ns.map V.int)
def RepL (K : PySem.W.Frag) (H : Hp) : List D → List V → Prop
  | [], xs => xs = []
  | d :: ds, xs => ∃ v r, xs = v :: r ∧ Rep K H d v ∧ RepL K H ds r
end

/-- what stands still is kept -/
def Stb (H H' : Hp) : Prop := ∀ b, (∀ xs, H b = some (.tup xs) → H' b = some (.tup xs)) ∧ ∀ o u, H b = some (.frz o u) → H' b = some (.frz o u)
theorem Stb.refl (H : Hp) : Stb H H := fun _ => ⟨fun _ h => h, fun _ _ h => h⟩
theorem Stb.trans {H H1 H2 : Hp} (a : Stb H H1) (b : Stb H1 H2) : Stb H H2 := fun c => ⟨fun xs h => (b c).1 xs ((a c).1 xs h), fun o u h => (b c).2 o u ((a c).2 o u h)⟩
theorem Stb.of_same {H H' : Hp} (s : ∀ b o, H b = some o → H' b = some o) : Stb H H' := fun b => ⟨fun _ h => s b _ h, fun _ _ h => s b _ h⟩

section
variable {K : PySem.W.Frag} {H H' : Hp}
theorem Stb.sqT (s : Stb H H') {a : Addr} {xs : List V} (h : SqT K H a xs) : SqT K H' a xs := by
  rcases h with (h | ⟨o, h⟩) | h
  · exact .inl (.inl ((s a).1 _ h))
  · exact .inl (.inr ⟨o, (s a).2 _ _ h⟩)
  · exact .inr h
theorem Stb.stL (s : Stb H H') {a : Addr} {xs : List V} (h : StL H a xs) : StL H' a xs := by
  obtain ⟨o, h⟩ := h
  exact ⟨o, (s a).2 _ _ h⟩
theorem Stb.stS (s : Stb H H') {a : Addr} {xs : List V} (h : StS K H a xs) : StS K H' a xs := by
  rcases h with ⟨o, h⟩ | h
  · exact .inl ⟨o, (s a).2 _ _ h⟩
  · exact .inr h
mutual
theorem Rep.mono (s : Stb H H') : ∀ {d : D} {v : V}, Rep K H d v → Rep K H' d v
  | .non, _, h => h
  | .bl _, _, h => h
  | .int _, _, h => h
  | .str _, _, h => h
  | .ty _, _, h => h
  | .ref _, _, h => h
  | .tup ds, v, h => by
    obtain ⟨a, xs, e, q, r⟩ := h
    exact ⟨a, xs, e, s.sqT q, RepL.mono s r⟩
  | .fls ds, v, h => by
    obtain ⟨a, xs, e, q, r⟩ := h
    exact ⟨a, xs, e, s.stL q, RepL.mono s r⟩
  | .scr ns, v, h => by
    obtain ⟨a, e, q⟩ := h
    exact ⟨a, e, s.stS q⟩
theorem RepL.mono (s : Stb H H') : ∀ {ds : List D} {xs : List V}, RepL K H ds xs → RepL K H' ds xs
  | [], _, h => h
  | d :: ds, xs, h => by
    obtain ⟨v, r, e, q, t⟩ := h
    exact ⟨v, r, e, Rep.mono s q, RepL.mono s t⟩
end
theorem RepL.length : ∀ {ds : List D} {xs : List V}, RepL K H ds xs → ds.length = xs.length
  | [], xs, h => by
    have h' : xs = [] := h
    subst h'
    rfl
  | d :: ds, xs, h => by
    obtain ⟨v, r, rfl, q, t⟩ := h
    rw [List.length_cons, List.length_cons, RepL.length t]
theorem RepL.nil : RepL K H [] [] := rfl
theorem RepL.cons {d : D} {v : V} {ds : List D} {xs : List V} (h : Rep K H d v) (t : RepL K H ds xs) : RepL K H (d :: ds) (v :: xs) := ⟨v, xs, rfl, h, t⟩
theorem RepL.append : ∀ {ds es : List D} {xs ys : List V}, RepL K H ds xs → RepL K H es ys → RepL K H (ds ++ es) (xs ++ ys)
  | [], es, xs, ys, h, t => by
    have h' : xs = [] := h
    subst h'
    exact t
  | d :: ds, es, xs, ys, h, t => by
    obtain ⟨v, r, rfl, q, u⟩ := h
    exact ⟨v, r ++ ys, rfl, q, RepL.append u t⟩
theorem RepL.get : ∀ {ds : List D} {xs : List V} {i : Nat} {d : D}, RepL K H ds xs → ds[i]? = some d → ∃ v, xs[i]? = some v ∧ Rep K H d v
  | [], _, _, _, _, e => by simp at e
  | a :: ds, xs, 0, d, h, e => by
    obtain ⟨v, r, rfl, q, u⟩ := h
    have e' : a = d := by simpa using e
    subst e'
    exact ⟨v, rfl, q⟩
  | a :: ds, xs, i + 1, d, h, e => by
    obtain ⟨v, r, rfl, q, u⟩ := h
    obtain ⟨w, h1, h2⟩ := RepL.get (i := i) (d := d) u (by simpa using e)
    exact ⟨w, by simpa using h1, h2⟩
theorem RepL.get' : ∀ {ds : List D} {xs : List V} {i : Nat} {v : V}, RepL K H ds xs → xs[i]? = some v → ∃ d, ds[i]? = some d ∧ Rep K H d v
  | [], xs, i, v, h, e => by
    have h' : xs = [] := h
    subst h'
    simp at e
  | a :: ds, xs, 0, w, h, e => by
    obtain ⟨v, r, rfl, q, u⟩ := h
    have e' : v = w := by simpa using e
    subst e'
    exact ⟨a, rfl, q⟩
  | a :: ds, xs, i + 1, w, h, e => by
    obtain ⟨v, r, rfl, q, u⟩ := h
    obtain ⟨d, h1, h2⟩ := RepL.get' (i := i) (v := w) u (by simpa using e)
    exact ⟨d, by simpa using h1, h2⟩
theorem RepL.set {d : D} {v : V} (h : Rep K H d v) : ∀ {ds : List D} {xs : List V} (i : Nat), RepL K H ds xs → RepL K H (ds.set i d) (xs.set i v)
  | [], xs, i, t => by
    have h' : xs = [] := t
    subst h'
    exact t
  | a :: ds, xs, 0, t => by
    obtain ⟨w, r, rfl, q, u⟩ := t
    exact ⟨v, r, rfl, h, u⟩
  | a :: ds, xs, i + 1, t => by
    obtain ⟨w, r, rfl, q, u⟩ := t
    exact ⟨w, r.set i v, rfl, q, RepL.set h i u⟩
theorem RepL.take : ∀ {ds : List D} {xs : List V} (i : Nat), RepL K H ds xs → RepL K H (ds.take i) (xs.take i)
  | [], xs, i, t => by
    have h' : xs = [] := t
    subst h'
    simp only [List.take_nil]
    exact t
  | a :: ds, xs, 0, t => rfl
  | a :: ds, xs, i + 1, t => by
    obtain ⟨w, r, rfl, q, u⟩ := t
    exact ⟨w, r.take i, rfl, q, RepL.take i u⟩
theorem RepL.drop : ∀ {ds : List D} {xs : List V} (i : Nat), RepL K H ds xs → RepL K H (ds.drop i) (xs.drop i)
  | [], xs, i, t => by
    have h' : xs = [] := t
    subst h'
    simp only [List.drop_nil]
    exact t
  | a :: ds, xs, 0, t => t
  | a :: ds, xs, i + 1, t => by
    obtain ⟨w, r, rfl, q, u⟩ := t
    exact RepL.drop i u
theorem RepL.reverse : ∀ {ds : List D} {xs : List V}, RepL K H ds xs → RepL K H ds.reverse xs.reverse
  | [], xs, t => by
    have h' : xs = [] := t
    subst h'
    exact t
  | a :: ds, xs, t => by
    obtain ⟨w, r, rfl, q, u⟩ := t
    rw [List.reverse_cons, List.reverse_cons]
    exact (RepL.reverse u).append (.cons q .nil)
theorem RepL.dropLast {ds : List D} {xs : List V} (t : RepL K H ds xs) : RepL K H ds.dropLast xs.dropLast := by
  rw [List.dropLast_eq_take, List.dropLast_eq_take, t.length]
  exact t.take _
/-- ints -/
theorem RepL.ints : ∀ {ns : List Int} {xs : List V}, RepL K H (ns.map D.int) xs → xs = ns.map V.int
  | [], xs, t => t
  | n :: ns, xs, t => by
    obtain ⟨w, r, rfl, q, u⟩ := t
    have q' : w = .int n := q
    rw [q', RepL.ints u, List.map_cons]
theorem RepL.of_ints : ∀ (ns : List Int), RepL K H (ns.map D.int) (ns.map V.int)
  | [] => rfl
  | n :: ns => ⟨_, _, rfl, rfl, RepL.of_ints ns⟩
theorem RepL.bls : ∀ {ns : List Bool} {xs : List V}, RepL K H (ns.map D.bl) xs → xs = ns.map V.bl
  | [], xs, t => t
  | n :: ns, xs, t => by
    obtain ⟨w, r, rfl, q, u⟩ := t
    have q' : w = .bl n := q
    rw [q', RepL.bls u, List.map_cons]
theorem RepL.strs : ∀ {ns : List Str} {xs : List V}, RepL K H (ns.map D.str) xs → xs = ns.map V.str
  | [], xs, t => t
  | n :: ns, xs, t => by
    obtain ⟨w, r, rfl, q, u⟩ := t
    have q' : w = .str n := q
    rw [q', RepL.strs u, List.map_cons]
theorem RepL.of_strs : ∀ (ns : List Str), RepL K H (ns.map D.str) (ns.map V.str)
  | [] => rfl
  | n :: ns => ⟨_, _, rfl, rfl, RepL.of_strs ns⟩
end

/-! ### attributes -/
def RepF (K : PySem.W.Frag) (H : Hp) : List (Str × D) → List (Str × V) → Prop
  | [], xs => xs = []
  | (f, d) :: ds, xs => ∃ v r, xs = (f, v) :: r ∧ Rep K H d v ∧ RepF K H ds r
def putD (f : Str) (v : D) : List (Str × D) → List (Str × D)
  | [] => [(f, v)]
  | (g, x) :: r => if g = f then (g, v) :: r else (g, x) :: putD f v r
section
variable {K : PySem.W.Frag} {H H' : Hp}
theorem RepF.mono (s : Stb H H') : ∀ {ds : List (Str × D)} {xs : List (Str × V)}, RepF K H ds xs → RepF K H' ds xs
  | [], _, h => h
  | (f, d) :: ds, xs, h => by
    obtain ⟨v, r, e, q, t⟩ := h
    exact ⟨v, r, e, Rep.mono s q, RepF.mono s t⟩
theorem RepF.length : ∀ {ds : List (Str × D)} {xs : List (Str × V)}, RepF K H ds xs → ds.length = xs.length
  | [], xs, h => by
    have h' : xs = [] := h
    subst h'
    rfl
  | (f, d) :: ds, xs, h => by
    obtain ⟨v, r, rfl, q, t⟩ := h
    rw [List.length_cons, List.length_cons, RepF.length t]
theorem RepF.lookup {f : Str} : ∀ {ds : List (Str × D)} {xs : List (Str × V)}, RepF K H ds xs → ∀ {d : D}, ds.lookup f = some d → ∃ v, xs.lookup f = some v ∧ Rep K H d v
  | [], _, _, _, e => by cases e
  | (g, d') :: ds, xs, h, d, e => by
    obtain ⟨v, r, rfl, q, t⟩ := h
    rw [List.lookup_cons] at e ⊢
    split at e
    · cases e
      rename_i hb
      exact ⟨v, by simp [hb], q⟩
    · rename_i hb
      obtain ⟨w, h1, h2⟩ := RepF.lookup t e
      exact ⟨w, by simpa [hb] using h1, h2⟩
theorem RepF.lookup_none {f : Str} : ∀ {ds : List (Str × D)} {xs : List (Str × V)}, RepF K H ds xs → ds.lookup f = none → xs.lookup f = none
  | [], xs, h, _ => by
    have h' : xs = [] := h
    subst h'
    rfl
  | (g, d') :: ds, xs, h, e => by
    obtain ⟨v, r, rfl, q, t⟩ := h
    rw [List.lookup_cons] at e ⊢
    split at e
    · cases e
    · rename_i hb
      have := RepF.lookup_none t e
      simpa [hb] using this
theorem RepF.put {f : Str} {d : D} {v : V} (h : Rep K H d v) : ∀ {ds : List (Str × D)} {xs : List (Str × V)}, RepF K H ds xs → RepF K H (putD f d ds) (putF f v xs)
  | [], xs, t => by
    have h' : xs = [] := t
    subst h'
    exact ⟨v, [], rfl, h, rfl⟩
  | (g, d') :: ds, xs, t => by
    obtain ⟨w, r, rfl, q, u⟩ := t
    show RepF K H (if g = f then (g, d) :: ds else (g, d') :: putD f d ds) (if g = f then (g, v) :: r else (g, w) :: putF f v r)
    by_cases e : g = f
    · rw [if_pos e, if_pos e]
      exact ⟨v, r, rfl, h, u⟩
    · rw [if_neg e, if_neg e]
      exact ⟨w, _, rfl, q, RepF.put h u⟩
end

/-! ### the owned heap -/
def RepO (K : PySem.W.Frag) (H : Hp) (a : Addr) : MO → Prop
  | .lst ds => ∃ xs, H a = some (.lst xs) ∧ RepL K H ds xs
  | .ins C fs => ∃ dx gs, H a = some (.ins C dx gs) ∧ RepF K H fs gs
def RepM (K : PySem.W.Frag) (H : Hp) (L : MH) : Prop := ∀ a o, L a = some o → RepO K H a o
/-- what isn't owned is kept, and isn't owned behind -/
def Ext (L : MH) (H : Hp) (L' : MH) (H' : Hp) : Prop := ∀ b o, H b = some o → L b = none → H' b = some o ∧ L' b = none
section
variable {K : PySem.W.Frag} {H H' H1 H2 : Hp} {L L' L1 L2 : MH}
theorem Ext.refl : Ext L H L H := fun _ _ h l => ⟨h, l⟩
theorem Ext.trans (a : Ext L H L1 H1) (b : Ext L1 H1 L2 H2) : Ext L H L2 H2 := fun c o h l => let ⟨h1, l1⟩ := a c o h l; b c o h1 l1
theorem RepO.ne {a : Addr} {o : MO} (h : RepO K H a o) : (∀ xs, H a ≠ some (.tup xs)) ∧ ∀ p u, H a ≠ some (.frz p u) := by
  cases o with
  | lst ds =>
    obtain ⟨xs, e, _⟩ := h
    rw [e]
    exact ⟨fun _ z => (nomatch z), fun _ _ z => nomatch z⟩
  | ins C fs =>
    obtain ⟨dx, gs, e, _⟩ := h
    rw [e]
    exact ⟨fun _ z => (nomatch z), fun _ _ z => nomatch z⟩
theorem RepO.some {a : Addr} {o : MO} (h : RepO K H a o) : ∃ u, H a = some u := by
  cases o with
  | lst ds => obtain ⟨xs, e, _⟩ := h; exact ⟨_, e⟩
  | ins C fs => obtain ⟨dx, gs, e, _⟩ := h; exact ⟨_, e⟩
theorem RepM.stb (m : RepM K H L) (x : Ext L H L' H') : Stb H H' := fun b => by
  refine ⟨fun xs h => ?_, fun o u h => ?_⟩
  · have l : L b = none := by
      cases e : L b with
      | none => rfl
      | some o => exact absurd h ((m b o e).ne.1 xs)
    exact (x b _ h l).1
  · have l : L b = none := by
      cases e : L b with
      | none => rfl
      | some p => exact absurd h ((m b p e).ne.2 o u)
    exact (x b _ h l).1
theorem RepM.free (m : RepM K H L) {a : Addr} (h : H a = none) : L a = none := by
  cases e : L a with
  | none => rfl
  | some o =>
    obtain ⟨u, q⟩ := (m a o e).some
    rw [h] at q
    cases q
/-- an object's own place is as it was -/
theorem RepO.keep {a : Addr} {o : MO} (h : RepO K H a o) (e : H' a = H a) (s : Stb H H') : RepO K H' a o := by
  cases o with
  | lst ds =>
    obtain ⟨xs, h1, h2⟩ := h
    exact ⟨xs, e.trans h1, h2.mono s⟩
  | ins C fs =>
    obtain ⟨dx, gs, h1, h2⟩ := h
    exact ⟨dx, gs, e.trans h1, h2.mono s⟩
/-- all that was tracked is kept -/
theorem RepM.same (m : RepM K H L) (s : ∀ b o, H b = some o → H' b = some o) : RepM K H' L := fun a o e => by
  have q := m a o e
  obtain ⟨u, hu⟩ := q.some
  exact q.keep ((s a u hu).trans hu.symm) (.of_same s)
theorem Ext.same (s : ∀ b o, H b = some o → H' b = some o) : Ext L H L H' := fun b o h l => ⟨s b o h, l⟩
theorem same_new {p : Addr} {o : HO} (h : H p = none) : ∀ b u, H b = some u → upd H p o b = some u := fun b u q => by rw [upd_ne (ne_of_none q h)]; exact q
/-- a new object, owned -/
theorem RepM.new (m : RepM K H L) {p : Addr} {o : HO} {u : MO} (h : H p = none) (r : RepO K (upd H p o) p u) : RepM K (upd H p o) (updM L p u) := fun a w e => by
  rcases updM_some e with ⟨rfl, rfl⟩ | ⟨ne, e⟩
  · exact r
  · exact (m.same (same_new h)) a w e
theorem Ext.new (m : RepM K H L) {p : Addr} {o : HO} {u : MO} (h : H p = none) : Ext L H (updM L p u) (upd H p o) := fun b w q l => by
  have ne := ne_of_none q h
  exact ⟨by rw [upd_ne ne]; exact q, by rw [updM_ne ne]; exact l⟩
/-- an owned object, written -/
theorem RepM.write (m : RepM K H L) {p : Addr} {o : HO} {u u' : MO} (h : L p = some u) (r : RepO K (upd H p o) p u') : RepM K (upd H p o) (updM L p u') := fun a w e => by
  rcases updM_some e with ⟨rfl, rfl⟩ | ⟨ne, e⟩
  · exact r
  · have hp := m p u h
    refine (m a w e).keep (upd_ne ne) fun b => ⟨fun xs q => ?_, fun o' u' q => ?_⟩
    · rw [upd_ne (fun z => by subst z; exact hp.ne.1 xs q)]; exact q
    · rw [upd_ne (fun z => by subst z; exact hp.ne.2 o' u' q)]; exact q
theorem Ext.write {p : Addr} {o : HO} {u u' : MO} (h : L p = some u) : Ext L H (updM L p u') (upd H p o) := fun b w q l => by
  have ne : b ≠ p := fun z => by subst z; rw [h] at l; cases l
  exact ⟨by rw [upd_ne ne]; exact q, by rw [updM_ne ne]; exact l⟩
theorem stb_write (m : RepM K H L) {p : Addr} {o : HO} {u : MO} (h : L p = some u) : Stb H (upd H p o) := fun b => by
  have hp := m p u h
  refine ⟨fun xs q => ?_, fun o' u' q => ?_⟩
  · rw [upd_ne (fun z => by subst z; exact hp.ne.1 xs q)]; exact q
  · rw [upd_ne (fun z => by subst z; exact hp.ne.2 o' u' q)]; exact q
end

/-! ### slots -/
abbrev DSt := List (Option D)
def RepS (K : PySem.W.Frag) (H : Hp) (δ : DSt) (σ : L2.St) : Prop := δ.length = σ.length ∧ ∀ (i : Nat) (d : D), δ[i]? = some (some d) → ∃ v, σ[i]? = some (some v) ∧ Rep K H d v
section
variable {K : PySem.W.Frag} {H H' : Hp} {δ : DSt} {σ : L2.St}
theorem RepS.mono (s : Stb H H') (h : RepS K H δ σ) : RepS K H' δ σ := ⟨h.1, fun i d e => let ⟨v, h1, h2⟩ := h.2 i d e; ⟨v, h1, h2.mono s⟩⟩
theorem RepS.set (h : RepS K H δ σ) {d : D} {v : V} (r : Rep K H d v) (i : Nat) : RepS K H (δ.set i (some d)) (σ.set i (some v)) := by
  refine ⟨by rw [List.length_set, List.length_set]; exact h.1, fun j e q => ?_⟩
  by_cases hj : i = j
  · subst hj
    have hl : i < δ.length := by
      have := (List.getElem?_eq_some_iff.mp q).1
      rwa [List.length_set] at this
    rw [List.getElem?_set_self hl] at q
    cases q
    exact ⟨v, List.getElem?_set_self (by rw [← h.1]; exact hl), r⟩
  · rw [List.getElem?_set_ne hj] at q
    rw [List.getElem?_set_ne hj]
    exact h.2 j e q
def startD (N : List Str) (ds : List D) : DSt := ds.map some ++ List.replicate (N.length - ds.length) none
theorem startD_rep {N : List Str} {ds : List D} {vs : List V} (r : RepL K H ds vs) : RepS K H (startD N ds) (L2.start N vs) := by
  have hl := r.length
  refine ⟨by unfold startD L2.start; simp [hl], fun i d e => ?_⟩
  unfold startD at e
  have hi : i < ds.length := by
    by_cases hi : i < ds.length
    · exact hi
    · rw [List.getElem?_append_right (by simpa using hi), List.getElem?_replicate] at e
      split at e <;> cases e
  rw [List.getElem?_append_left (by simpa using hi), List.getElem?_map] at e
  cases q : ds[i]? with
  | none => rw [q] at e; cases e
  | some d' =>
    rw [q] at e
    cases e
    obtain ⟨v, h1, h2⟩ := r.get q
    refine ⟨v, ?_, h2⟩
    unfold L2.start
    rw [List.getElem?_append_left (by simpa [← hl] using hi), List.getElem?_map, h1]
    rfl
end
end DL

/-! DL, part b: judgements lifted; expressions, tests, operators. -/
namespace DL
open PySem PySem.Spec PyProof.Rows L2

/-! ### data's ==, as the model's -/
mutual
def D.py : D → PyData
  | .non => .none
  | .bl b => .bool b
  | .int i => .int i
  | .str x => .str x
  | .tup ds => .tuple (D.pys ds)
  | .fls ds => .list (D.pys ds)
  | .ref _ => .none
  | .ty _ => .none
  | .scr _ => .none
def D.pys : List D → List PyData
  | [] => []
  | d :: ds => d.py :: D.pys ds
end
mutual
/-- no object of its own within -/
def D.pr : D → Bool
  | .tup ds => D.prs ds
  | .fls ds => D.prs ds
  | .ref _ => false
  | .ty _ => false
  | .scr _ => false
  | _ => true
def D.prs : List D → Bool
  | [] => true
  | d :: ds => d.pr && D.prs ds
end
mutual
def D.dp : D → Nat
  | .tup ds => D.dps ds + 1
  | .fls ds => D.dps ds + 1
  | _ => 0
def D.dps : List D → Nat
  | [] => 0
  | d :: ds => max d.dp (D.dps ds)
end
abbrev D.eqv (x y : D) : Bool := PyData.eqv x.py y.py
mutual
theorem D.depth_py : ∀ d : D, d.py.depth = d.dp
  | .non => by simp [D.py, D.dp, PyData.depth]
  | .bl _ => by simp [D.py, D.dp, PyData.depth]
  | .int _ => by simp [D.py, D.dp, PyData.depth]
  | .str _ => by simp [D.py, D.dp, PyData.depth]
  | .ref _ => by simp [D.py, D.dp, PyData.depth]
  | .ty _ => by simp [D.py, D.dp, PyData.depth]
  | .scr _ => by simp [D.py, D.dp, PyData.depth]
  | .tup ds => by simp only [D.py, D.dp, PyData.depth, D.depth_pys ds]
  | .fls ds => by simp only [D.py, D.dp, PyData.depth, D.depth_pys ds]
theorem D.depth_pys : ∀ ds : List D, PyData.depthAll (D.pys ds) = D.dps ds
  | [] => by simp [D.pys, D.dps, PyData.depthAll]
  | d :: ds => by simp only [D.pys, D.dps, PyData.depthAll, D.depth_py d, D.depth_pys ds]
end
mutual
theorem D.plain_py : ∀ d : D, d.py.plain = true
  | .non => rfl
  | .bl _ => rfl
  | .int _ => rfl
  | .str _ => rfl
  | .ref _ => rfl
  | .ty _ => rfl
  | .scr _ => rfl
  | .tup ds => by simp only [D.py, PyData.plain, D.plain_pys ds]
  | .fls ds => by simp only [D.py, PyData.plain, D.plain_pys ds]
theorem D.plain_pys : ∀ ds : List D, PyData.plainAll (D.pys ds) = true
  | [] => rfl
  | d :: ds => by simp only [D.pys, PyData.plainAll, D.plain_py d, D.plain_pys ds, Bool.and_self]
end
section
variable {K : PySem.W.Frag} {H : Hp}
mutual
theorem Rep.dp : ∀ {d : D} {v : V}, d.pr = true → Rep K H d v → Dp K H v d.py
  | .non, v, _, h => by cases (show v = .non from h); exact .non
  | .bl b, v, _, h => by cases (show v = .bl b from h); exact .bl b
  | .int i, v, _, h => by cases (show v = .int i from h); exact .int i
  | .str x, v, _, h => by cases (show v = .str x from h); exact .str x
  | .ref a, v, p, h => nomatch p
  | .ty a, v, p, h => nomatch p
  | .scr a, v, p, h => nomatch p
  | .tup ds, v, p, h => by
    obtain ⟨a, xs, rfl, q, r⟩ := h
    exact .tup q (RepL.dp p r)
  | .fls ds, v, p, h => by
    obtain ⟨a, xs, rfl, q, r⟩ := h
    exact .lst q.seq (RepL.dp p r)
theorem RepL.dp : ∀ {ds : List D} {xs : List V}, D.prs ds = true → RepL K H ds xs → DpAll K H xs (D.pys ds)
  | [], xs, _, h => by cases (show xs = [] from h); exact .nil
  | d :: ds, xs, p, h => by
    obtain ⟨v, r, rfl, q, t⟩ := h
    have p' : d.pr = true ∧ D.prs ds = true := by simpa [D.prs] using p
    exact .cons (Rep.dp p'.1 q) (RepL.dp p'.2 t)
end
end

/-! ### readings of data -/
abbrev KD := D → MH → Prop
abbrev DE := DSt → MH → KD → Prop
abbrev DT := DSt → MH → (Bool → MH → Prop) → Prop
abbrev DA := DSt → MH → (List D → MH → Prop) → Prop
structure DEnds where
  nx : DSt → MH → Prop
  rt : KD
  bk : DSt → MH → Prop := fun _ _ => False
  ct : DSt → MH → Prop := fun _ _ => False
abbrev DS := DEnds → DSt → MH → Prop

/-- what is wanted of a value behind -/
def PostE (K : PySem.W.Frag) (L : MH) (H : Hp) (k : KD) (Q : VK) : Prop := ∀ d L', k d L' → ∀ v H', Rep K H' d v → RepM K H' L' → Ext L H L' H' → Q v H'
def PostT (K : PySem.W.Frag) (L : MH) (H : Hp) (k : Bool → MH → Prop) (Q : Bool → Hp → Prop) : Prop := ∀ b L', k b L' → ∀ H', RepM K H' L' → Ext L H L' H' → Q b H'
def PostA (K : PySem.W.Frag) (L : MH) (H : Hp) (k : List D → MH → Prop) (Q : List V → Hp → Prop) : Prop := ∀ ds L', k ds L' → ∀ vs H', RepL K H' ds vs → RepM K H' L' → Ext L H L' H' → Q vs H'
def PostS (K : PySem.W.Frag) (L : MH) (H : Hp) (k : DSt → MH → Prop) (Q : L2.St → Hp → Prop) : Prop := ∀ δ L', k δ L' → ∀ σ H', RepS K H' δ σ → RepM K H' L' → Ext L H L' H' → Q σ H'
/-- the lifts -/
def lE (K : PySem.W.Frag) (t : DE) : TE := fun σ H Q => ∃ δ L k, RepS K H δ σ ∧ RepM K H L ∧ t δ L k ∧ PostE K L H k Q
def lT (K : PySem.W.Frag) (t : DT) : TT := fun σ H Q => ∃ δ L k, RepS K H δ σ ∧ RepM K H L ∧ t δ L k ∧ PostT K L H k Q
def lA (K : PySem.W.Frag) (t : DA) : TA := fun σ H Q => ∃ δ L k, RepS K H δ σ ∧ RepM K H L ∧ t δ L k ∧ PostA K L H k Q
def lS (K : PySem.W.Frag) (t : DS) : TS := fun D σ H => ∃ (δ : DSt) (L : MH) (E : DEnds), RepS K H δ σ ∧ RepM K H L ∧ t E δ L ∧ PostS K L H E.nx D.nx ∧ PostE K L H E.rt D.rt ∧ PostS K L H E.bk D.bk ∧ PostS K L H E.ct D.ct

theorem _root_.L2.PE.mono {X : Cx} {e : Expr} {t u : TE} (h : PE X e t) (m : ∀ σ H Q, u σ H Q → t σ H Q) : PE X e u := ⟨fun pins s σ H Q I q => h.run pins s σ H Q I (m σ H Q q)⟩
theorem _root_.L2.PT.mono {X : Cx} {e : Expr} {t u : TT} (h : PT X e t) (m : ∀ σ H Q, u σ H Q → t σ H Q) : PT X e u := ⟨fun pins s σ H Q I q => h.run pins s σ H Q I (m σ H Q q)⟩
theorem _root_.L2.PW.mono {X : Cx} {e : Expr} {t u : TT} (h : PW X e t) (m : ∀ σ H Q, u σ H Q → t σ H Q) : PW X e u := ⟨fun w pins s σ H Q I q => h.run w pins s σ H Q I (m σ H Q q)⟩
theorem _root_.L2.PA.mono {X : Cx} {es : List Expr} {t u : TA} (h : PA X es t) (m : ∀ σ H Q, u σ H Q → t σ H Q) : PA X es u := ⟨fun pos pins s σ H Q I q => h.run pos pins s σ H Q I (m σ H Q q)⟩
theorem _root_.L2.PS.mono {X : Cx} {st : Stmt} {t u : TS} (h : PS X st t) (m : ∀ D σ H, u D σ H → t D σ H) : PS X st u := ⟨fun pins s σ H D I q => h.run pins s σ H D I (m D σ H q)⟩
theorem _root_.L2.PSs.mono {X : Cx} {st : List Stmt} {t u : TS} (h : PSs X st t) (m : ∀ D σ H, u D σ H → t D σ H) : PSs X st u := ⟨fun pins s σ H D I q => h.run pins s σ H D I (m D σ H q)⟩

section
variable {K : PySem.W.Frag} {H : Hp} {L : MH}
theorem PostE.after {L1 : MH} {H1 : Hp} {k : KD} {Q : VK} (p : PostE K L H k Q) (x : Ext L H L1 H1) : PostE K L1 H1 k Q := fun d L' h v H' r m y => p d L' h v H' r m (x.trans y)
theorem PostT.after {L1 : MH} {H1 : Hp} {k : Bool → MH → Prop} {Q : Bool → Hp → Prop} (p : PostT K L H k Q) (x : Ext L H L1 H1) : PostT K L1 H1 k Q := fun d L' h H' m y => p d L' h H' m (x.trans y)
theorem PostA.after {L1 : MH} {H1 : Hp} {k : List D → MH → Prop} {Q : List V → Hp → Prop} (p : PostA K L H k Q) (x : Ext L H L1 H1) : PostA K L1 H1 k Q := fun d L' h v H' r m y => p d L' h v H' r m (x.trans y)
theorem PostS.after {L1 : MH} {H1 : Hp} {k : DSt → MH → Prop} {Q : L2.St → Hp → Prop} (p : PostS K L H k Q) (x : Ext L H L1 H1) : PostS K L1 H1 k Q := fun d L' h v H' r m y => p d L' h v H' r m (x.trans y)
theorem PostE.here {k : KD} {Q : VK} (p : PostE K L H k Q) (m : RepM K H L) {d : D} {v : V} (h : k d L) (r : Rep K H d v) : Q v H := p d L h v H r m .refl
theorem PostT.here {k : Bool → MH → Prop} {Q : Bool → Hp → Prop} (p : PostT K L H k Q) (m : RepM K H L) {b : Bool} (h : k b L) : Q b H := p b L h H m .refl
theorem PostS.here {k : DSt → MH → Prop} {Q : L2.St → Hp → Prop} (p : PostS K L H k Q) (m : RepM K H L) {δ : DSt} {σ : L2.St} (h : k δ L) (r : RepS K H δ σ) : Q σ H := p δ L h σ H r m .refl
end

/-! ### names and constants -/
def slot : DSt → Nat → Option D
  | [], _ => none
  | o :: _, 0 => o
  | _ :: r, i + 1 => slot r i
theorem slot_eq : ∀ {δ : DSt} {i : Nat} {d : D}, slot δ i = some d → δ[i]? = some (some d)
  | [], _, _, h => nomatch h
  | o :: r, 0, d, h => by
    have h' : o = some d := h
    subst h'
    rfl
  | o :: r, i + 1, d, h => slot_eq (δ := r) (i := i) h
def rV (i : Nat) : DE := fun δ L k => match slot δ i with
  | some d => k d L
  | none => False
def rC (d : D) : DE := fun _ L k => k d L
section
variable {X : Cx}
theorem e_var {i : Nat} {x : Str} {pos : Pos} (h : PE X (.Name x pos) (tVar i)) : PE X (.Name x pos) (lE X.K (rV i)) := h.mono fun σ H Q ⟨δ, L, k, rs, rm, t, p⟩ => by
  unfold rV at t
  split at t
  · rename_i d e
    obtain ⟨v, h1, h2⟩ := rs.2 i d (slot_eq e)
    exact ⟨v, h1, p.here rm t h2⟩
  · exact t.elim
/-- the name in slot i -/
theorem v (i : Nat) {x : Str} {pos : Pos} (hN : X.N[i]? = some x := by rfl) (hv : Vis X.env.scope x := by first | exact Or.inl rfl | exact Or.inr (Or.inl rfl) | exact Or.inr (Or.inr rfl)) (hd : (x == ("__debug__" : Str)) = false := by decide)
    (hcd : (x == ("__classdict__" : Str)) = false := by decide) : PE X (.Name x pos) (lE X.K (rV i)) := e_var (pe_var hN hv hd hcd)
theorem e_const {e : Expr} {w : V} {d : D} (h : PE X e (tC w)) (r : ∀ H, Rep X.K H d w) : PE X e (lE X.K (rC d)) := h.mono fun σ H Q ⟨δ, L, k, rs, rm, t, p⟩ => p.here rm t (r H)
theorem e_int {i j pos} : PE X (.Constant (.int i) j pos) (lE X.K (rC (.int i))) := e_const pe_int fun _ => rfl
theorem e_bl {b j pos} : PE X (.Constant (.bool b) j pos) (lE X.K (rC (.bl b))) := e_const pe_bl fun _ => rfl
theorem e_non {j pos} : PE X (.Constant .none j pos) (lE X.K (rC .non)) := e_const pe_non fun _ => rfl
theorem e_str {x j pos} : PE X (.Constant (.str x) j pos) (lE X.K (rC (.str x))) := e_const pe_str fun _ => rfl
/-- a global's value as data -/
structure GRep (K : PySem.W.Frag) (mg : Str → Option Value) (x : Str) (d : D) : Prop where
  ex : ∃ (u : Value) (w : V), mg x = some u ∧ RelV w u ∧ ∀ H, Rep K H d w
theorem e_glob {x : Str} {d : D} {pos : Pos} (g : GRep X.K X.mg x d) (hg : Gl X x := by rfl) (hd : (x == ("__debug__" : Str)) = false := by decide) : PE X (.Name x pos) (lE X.K (rC d)) := by
  obtain ⟨u, w, h1, h2, h3⟩ := g.ex
  exact e_const (pe_glob hg h1 h2 hd) h3
end

/-! ### one after another -/
section
variable {X : Cx} {a b : Expr} {ta tb : DE}
theorem lE_bind {K : PySem.W.Frag} {t : DE} {σ : L2.St} {H : Hp} {δ : DSt} {L : MH} {k : KD} {Q : VK} (rs : RepS K H δ σ) (rm : RepM K H L) (h : t δ L k) (hk : ∀ d L' v H', k d L' → Rep K H' d v → RepM K H' L' → RepS K H' δ σ → Ext L H L' H' → Stb H H' → Q v H') : lE K t σ H Q :=
  ⟨δ, L, k, rs, rm, h, fun d L' q v H' r m x => hk d L' v H' q r m (rs.mono (rm.stb x)) x (rm.stb x)⟩
theorem lT_bind {K : PySem.W.Frag} {t : DT} {σ : L2.St} {H : Hp} {δ : DSt} {L : MH} {k : Bool → MH → Prop} {Q : Bool → Hp → Prop} (rs : RepS K H δ σ) (rm : RepM K H L) (h : t δ L k) (hk : ∀ b L' H', k b L' → RepM K H' L' → RepS K H' δ σ → Ext L H L' H' → Stb H H' → Q b H') : lT K t σ H Q :=
  ⟨δ, L, k, rs, rm, h, fun b L' q H' m x => hk b L' H' q m (rs.mono (rm.stb x)) x (rm.stb x)⟩
theorem lA_bind {K : PySem.W.Frag} {t : DA} {σ : L2.St} {H : Hp} {δ : DSt} {L : MH} {k : List D → MH → Prop} {Q : List V → Hp → Prop} (rs : RepS K H δ σ) (rm : RepM K H L) (h : t δ L k) (hk : ∀ ds L' vs H', k ds L' → RepL K H' ds vs → RepM K H' L' → RepS K H' δ σ → Ext L H L' H' → Stb H H' → Q vs H') : lA K t σ H Q :=
  ⟨δ, L, k, rs, rm, h, fun ds L' q vs H' r m x => hk ds L' vs H' q r m (rs.mono (rm.stb x)) x (rm.stb x)⟩

/-- an operator on two data -/
abbrev D2 := D → D → MH → KD → Prop
def rO (f : D2) (a b : DE) : DE := fun δ L k => a δ L fun x L1 => b δ L1 fun y L2 => f x y L2 k
/-- the operator's rule serves f -/
def Ref2 (K : PySem.W.Frag) (f : D2) (r : R2) : Prop := ∀ (H : Hp) (L : MH) (x y : V) (dx dy : D) (k : KD) (Q : VK), Rep K H dx x → Rep K H dy y → RepM K H L → f dx dy L k → PostE K L H k Q → r x y H Q
theorem lE_op {K : PySem.W.Frag} {f : D2} {r : R2} (ref : Ref2 K f r) (σ : L2.St) (H : Hp) (Q : VK) (h : lE K (rO f ta tb) σ H Q) : tOp r (lE K ta) (lE K tb) σ H Q := by
  obtain ⟨δ, L, k, rs, rm, t, p⟩ := h
  refine lE_bind rs rm t fun x L1 vx H1 q1 r1 m1 rs1 x1 s1 => ?_
  refine lE_bind rs1 m1 q1 fun y L2 vy H2 q2 r2 m2 rs2 x2 s2 => ?_
  exact ref H2 L2 vx vy x y k Q (r1.mono s2) r2 m2 q2 (p.after (x1.trans x2))
theorem e_op {op : Operator} {r : R2} {f : D2} {pos : Pos} (ho : OpR X (binaryOp op) r) (ref : Ref2 X.K f r) (ha : PE X a (lE X.K ta)) (hb : PE X b (lE X.K tb)) : PE X (.BinOp a op b pos) (lE X.K (rO f ta tb)) :=
  (pe_op ho ha hb).mono (lE_op ref)
theorem e_cmp {op : CmpOp} {r : R2} {f : D2} {pos : Pos} (ho : OpR X (compareOp op) r) (ref : Ref2 X.K f r) (ha : PE X a (lE X.K ta)) (hb : PE X b (lE X.K tb)) (hm : behindInMarks op b = false) : PE X (.Compare a [op] [b] pos) (lE X.K (rO f ta tb)) :=
  (pe_cmpR ho ha hb hm).mono (lE_op ref)
/-- a value as a test -/
def rTest (t : DE) : DT := fun δ L k => t δ L fun x L1 => match x with
  | .bl b => k b L1
  | _ => False
theorem lT_test {K : PySem.W.Frag} {t : DE} {σ : L2.St} {H : Hp} {Q : Bool → Hp → Prop} (h : lT K (rTest t) σ H Q) : lE K t σ H fun x H1 => ∃ c, x = .bl c ∧ Q c H1 := by
  obtain ⟨δ, L, k, rs, rm, q, p⟩ := h
  refine lE_bind rs rm q fun x L1 vx H1 q1 r1 m1 rs1 x1 s1 => ?_
  cases x with
  | bl b =>
    have e : vx = .bl b := r1
    exact ⟨b, e, p.after x1 b L1 q1 H1 m1 .refl⟩
  | _ => exact q1.elim
theorem t_cmp {op : CmpOp} {r : R2} {f : D2} {pos : Pos} (ho : OpR X (compareOp op) r) (ref : Ref2 X.K f r) (ha : PE X a (lE X.K ta)) (hb : PE X b (lE X.K tb)) (hm : behindInMarks op b = false) : PT X (.Compare a [op] [b] pos) (lT X.K (rTest (rO f ta tb))) :=
  (pt_cmpR ho ha hb hm).mono fun σ H Q h => lE_op ref σ H _ (let ⟨δ, L, k, rs, rm, q, p⟩ := h; ⟨δ, L, _, rs, rm, q, fun x L1 q1 vx H1 r1 m1 x1 => by
    cases x with
    | bl b =>
      have e : vx = .bl b := r1
      exact ⟨b, e, p.after x1 b L1 q1 H1 m1 .refl⟩
    | _ => exact q1.elim⟩)
theorem t_val {e : Expr} {t : DE} (h : PE X e (lE X.K t)) (he : ∀ whole, isTrue e X.env whole = (do let v ← whole; standAt e.pos; holding [v] (truthy v)) := by intro _; rfl) : PT X e (lT X.K (rTest t)) :=
  (pt_val h he).mono fun σ H Q h => lT_test h
end

/-! ### the operators -/
def oAdd : D2 := fun x y L k => match x, y with
  | .int i, .int j => k (.int (i + j)) L
  | .str s, .str t => s.length + t.length ≤ sizeLine ∧ k (.str (s ++ t)) L
  | .tup xs, .tup ys => xs.length + ys.length ≤ sizeLine ∧ k (.tup (xs ++ ys)) L
  | .fls xs, .fls ys => xs.length + ys.length ≤ sizeLine ∧ k (.fls (xs ++ ys)) L
  | _, _ => False
def oSub : D2 := fun x y L k => match x, y with
  | .int i, .int j => k (.int (i - j)) L
  | _, _ => False
def oMul : D2 := fun x y L k => match x, y with
  | .int i, .int j => CMul i j ∧ k (.int (i * j)) L
  | _, _ => False
def oFdiv : D2 := fun x y L k => match x, y with
  | .int i, .int j => CDivW i j ∧ k (.int (i / j)) L
  | _, _ => False
def oMod : D2 := fun x y L k => match x, y with
  | .int i, .int j => 0 < j ∧ k (.int (i % j)) L
  | _, _ => False
def oPow : D2 := fun x y L k => match x, y with
  | .int i, .int j => CPow i j ∧ k (.int (i ^ j.toNat)) L
  | _, _ => False
def oAnd : D2 := fun x y L k => match x, y with
  | .int i, .int j => k (.int (Builtin.bitAnd i j)) L
  | _, _ => False
def oCmp (p : Int → Int → Bool) : D2 := fun x y L k => match x, y with
  | .int i, .int j => k (.bl (p i j)) L
  | _, _ => False
abbrev oLt : D2 := oCmp fun i j => decide (i < j)
abbrev oLe : D2 := oCmp fun i j => decide (i ≤ j)
abbrev oGt : D2 := oCmp fun i j => decide (j < i)
abbrev oGe : D2 := oCmp fun i j => decide (j ≤ i)
def oEq : D2 := fun x y L k => x.pr = true ∧ y.pr = true ∧ (x.dp ≤ 140 ∨ y.dp ≤ 140) ∧ k (.bl (x.eqv y)) L
def oNe : D2 := fun x y L k => x.pr = true ∧ y.pr = true ∧ (x.dp ≤ 140 ∨ y.dp ≤ 140) ∧ k (.bl (!x.eqv y)) L
def D.isNon : D → Bool
  | .non => true
  | _ => false
def oIsN : D2 := fun x y L k => match y with
  | .non => k (.bl x.isNon) L
  | _ => False
def oNotN : D2 := fun x y L k => match y with
  | .non => k (.bl (!x.isNon)) L
  | _ => False
/-- the one text within the other -/
def strIn (x y : Str) : Bool := !(Builtin.Str.occurrences y x 0 y.length 1).isEmpty
def oIn (neg : Bool) : D2 := fun x y L k => match y with
  | .str t => (match x with
    | .str s => k (.bl (neg ^^ strIn s t)) L
    | _ => False)
  | .tup ys => x.pr = true ∧ D.prs ys = true ∧ (x.dp ≤ 140 ∨ D.dps ys ≤ 140) ∧ k (.bl (neg ^^ ys.any fun y => y.eqv x)) L
  | .fls ys => x.pr = true ∧ D.prs ys = true ∧ (x.dp ≤ 140 ∨ D.dps ys ≤ 140) ∧ k (.bl (neg ^^ ys.any fun y => y.eqv x)) L
  | .ref p => (match L p with
    | some (.lst ys) => x.pr = true ∧ D.prs ys = true ∧ (x.dp ≤ 140 ∨ D.dps ys ≤ 140) ∧ k (.bl (neg ^^ ys.any fun y => y.eqv x)) L
    | _ => False)
  | _ => False

section
variable {K : PySem.W.Frag}
theorem ref_ii {f : D2} {C : Int → Int → Prop} {g : Int → Int → Int} (hf : ∀ x y L k, f x y L k → ∃ i j, x = .int i ∧ y = .int j ∧ C i j ∧ k (.int (g i j)) L) : Ref2 K f (rI C fun i j => .int (g i j)) := by
  intro H L x y dx dy k Q rx ry rm h p
  obtain ⟨i, j, rfl, rfl, c, q⟩ := hf _ _ _ _ h
  exact ⟨i, j, rx, ry, c, p.here rm q rfl⟩
theorem ref_ii0 {f : D2} {g : Int → Int → Int} (hf : ∀ x y L k, f x y L k → ∃ i j, x = .int i ∧ y = .int j ∧ k (.int (g i j)) L) : Ref2 K f (rI0 fun i j => .int (g i j)) := by
  intro H L x y dx dy k Q rx ry rm h p
  obtain ⟨i, j, rfl, rfl, q⟩ := hf _ _ _ _ h
  exact ⟨i, j, rx, ry, p.here rm q rfl⟩
theorem ref_cmp {q : Int → Int → Bool} : Ref2 K (oCmp q) (rI0 fun i j => .bl (q i j)) := by
  intro H L x y dx dy k Q rx ry rm h p
  cases dx <;> cases dy <;> first | exact h.elim | skip
  exact ⟨_, _, rx, ry, p.here rm h rfl⟩
theorem ref_sub : Ref2 K oSub (rI0 fun i j => .int (i - j)) := ref_ii0 fun x y L k h => by
  cases x <;> cases y <;> first | exact h.elim | exact ⟨_, _, rfl, rfl, h⟩
theorem ref_mul : Ref2 K oMul (rI CMul fun i j => .int (i * j)) := ref_ii fun x y L k h => by
  cases x <;> cases y <;> first | exact h.elim | exact ⟨_, _, rfl, rfl, h⟩
theorem ref_fdiv : Ref2 K oFdiv (rI CDivW fun i j => .int (i / j)) := ref_ii fun x y L k h => by
  cases x <;> cases y <;> first | exact h.elim | exact ⟨_, _, rfl, rfl, h⟩
theorem ref_mod : Ref2 K oMod (rI (fun _ j => 0 < j) fun i j => .int (i % j)) := ref_ii (C := fun _ j => 0 < j) fun x y L k h => by
  cases x <;> cases y <;> first | exact h.elim | exact ⟨_, _, rfl, rfl, h⟩
theorem ref_pow : Ref2 K oPow (rI CPow fun i j => .int (i ^ j.toNat)) := ref_ii fun x y L k h => by
  cases x <;> cases y <;> first | exact h.elim | exact ⟨_, _, rfl, rfl, h⟩
theorem ref_and : Ref2 K oAnd (rI0 fun i j => .int (Builtin.bitAnd i j)) := ref_ii0 fun x y L k h => by
  cases x <;> cases y <;> first | exact h.elim | exact ⟨_, _, rfl, rfl, h⟩
end

section
variable {X : Cx}
/-- what stands still for good: frozen -/
theorem Inv.freeze {pins : List (Addr × Obj)} {σ : L2.St} {H : Hp} {s : Shared} {a : Addr} {xs : List V} (I : Inv X pins σ H s) (h : H a = some (.lst xs)) : ∃ o, Inv X pins σ (upd H a (.frz o (.lst xs))) s := I.lock h trivial
theorem same_frz {H : Hp} {a : Addr} {u : HO} {o : Obj} {xs : List V} (h : H a = none) : ∀ b w, H b = some w → upd (upd H a (.lst xs)) a (.frz o (.lst xs)) b = some w := fun b w q => by
  rw [upd_upd, upd_ne (ne_of_none q h)]; exact q
/-- list + list, frozen ones: the new one frozen -/
theorem op_catF : OpR X (binaryOp .Add) (fun x y H Q => ∃ l b xs zs, x = .ref l ∧ y = .ref b ∧ StL H l xs ∧ StL H b zs ∧ xs.length + zs.length ≤ sizeLine ∧ ∀ p o, H p = none → Q (.ref p) (upd H p (.frz o (.lst (xs ++ zs))))) := by
  intro pins s σ H x y v u Q I rx ry h
  obtain ⟨l, b, xs, zs, rfl, rfl, hH, hB, hz, q⟩ := h
  cases rx
  cases ry
  have exact_ : ∀ {l : Addr} {xs : List V}, StL H l xs → ∃ (its : List Value) (n : Nat), Vals xs its ∧ s.heap.get? l = some { cls := .type "list", data := .seq its.toArray n } := by
    rintro l xs ⟨o, h⟩
    obtain ⟨_, z, its, n, r, e⟩ := I.hok l _ h
    exact ⟨its, n, r, e⟩
  obtain ⟨its, n, r, e⟩ := exact_ hH
  obtain ⟨its2, n2, r2, e2⟩ := exact_ hB
  refine PySem.P.add_list e e2 ?_ (by rw [List.size_toArray, List.size_toArray, ← r.length, ← r2.length]; omega)
  have ea : its.toArray ++ its2.toArray = (its ++ its2).toArray := by simp
  rw [ea]
  have I2 := I.lnew (t' := s.toks) (r.append r2) (by rw [List.length_append]; omega)
  obtain ⟨o, I3⟩ := Inv.freeze I2 (a := s.heap.objs.size) upd_same
  rw [upd_upd] at I3
  exact ⟨.ref _, _, I3, rfl, q _ o I.fresh⟩
end
end DL

/-! DL, part c: the operators' rules, truth, tests, displays, subscripts, slices, built-ins, methods, attributes. -/
namespace DL
open PySem PySem.Spec PyProof.Rows L2

section
variable {X : Cx}
/-! ### + == in is -/
theorem RepL.nil_of {K : PySem.W.Frag} {H : Hp} {ds : List D} (r : RepL K H ds []) : ds = [] := List.length_eq_zero_iff.mp (by rw [r.length]; rfl)
def rAddA (K : PySem.W.Frag) : R2 := fun x y H Q => rI0 (fun i j => .int (i + j)) x y H Q ∨ (∃ i j, x = .str i ∧ y = .str j ∧ i.length + j.length ≤ sizeLine ∧ Q (.str (i ++ j)) H) ∨ rCatA K x y H Q ∨
  ∃ l b xs zs, x = .ref l ∧ y = .ref b ∧ StL H l xs ∧ StL H b zs ∧ xs.length + zs.length ≤ sizeLine ∧ ∀ p o, H p = none → Q (.ref p) (upd H p (.frz o (.lst (xs ++ zs))))
theorem op_addA : OpR X (binaryOp .Add) (rAddA X.K) := op_add.or (op_add_str.or (op_catA.or op_catF))
theorem new_tup {K : PySem.W.Frag} {H : Hp} {L : MH} {k : KD} {Q : VK} (rm : RepM K H L) (p : PostE K L H k Q) {ds : List D} {xs : List V} (r : RepL K H ds xs) (h : k (.tup ds) L) {a : Addr} (ha : H a = none) : Q (.ref a) (upd H a (.tup xs)) := by
  have s := same_new (o := .tup xs) ha
  exact p _ L h _ _ ⟨a, xs, rfl, .of upd_same, r.mono (.of_same s)⟩ (rm.same s) (.same s)
theorem new_fls {K : PySem.W.Frag} {H : Hp} {L : MH} {k : KD} {Q : VK} (rm : RepM K H L) (p : PostE K L H k Q) {ds : List D} {xs : List V} (r : RepL K H ds xs) (h : k (.fls ds) L) {a : Addr} {o : Obj} (ha : H a = none) : Q (.ref a) (upd H a (.frz o (.lst xs))) := by
  have s := same_new (o := .frz o (.lst xs)) ha
  exact p _ L h _ _ ⟨a, xs, rfl, ⟨o, upd_same⟩, r.mono (.of_same s)⟩ (rm.same s) (.same s)
theorem new_lst {K : PySem.W.Frag} {H : Hp} {L : MH} {k : KD} {Q : VK} (rm : RepM K H L) (p : PostE K L H k Q) {ds : List D} {xs : List V} (r : RepL K H ds xs) (h : ∀ a, L a = none → k (.ref a) (updM L a (.lst ds))) {a : Addr} (ha : H a = none) : Q (.ref a) (upd H a (.lst xs)) := by
  have s := same_new (o := .lst xs) ha
  exact p _ _ (h a (rm.free ha)) _ _ rfl (rm.new ha ⟨xs, upd_same, r.mono (.of_same s)⟩) (.new rm ha)
theorem ref_add {K : PySem.W.Frag} : Ref2 K oAdd (rAddA K) := by
  intro H L x y dx dy k Q rx ry rm h p
  cases dx <;> cases dy <;> first | exact h.elim | skip
  · exact .inl ⟨_, _, rx, ry, p.here rm h rfl⟩
  · exact .inr (.inl ⟨_, _, rx, ry, h.1, p.here rm h.2 rfl⟩)
  · obtain ⟨a, xs, rfl, q1, r1⟩ := rx
    obtain ⟨b, ys, rfl, q2, r2⟩ := ry
    obtain ⟨h1, h2⟩ := h
    refine .inr (.inr (.inl ⟨a, b, xs, ys, rfl, rfl, q1, q2, by rw [← r1.length, ← r2.length]; exact h1, fun e => ?_, fun _ e => ?_, fun _ _ a ha => new_tup rm p (r1.append r2) h2 ha⟩))
    · subst e
      obtain rfl := r1.nil_of
      exact p.here rm h2 ⟨b, ys, rfl, q2, r2⟩
    · subst e
      obtain rfl := r2.nil_of
      rw [List.append_nil] at h2
      exact p.here rm h2 ⟨a, xs, rfl, q1, r1⟩
  · obtain ⟨a, xs, rfl, q1, r1⟩ := rx
    obtain ⟨b, ys, rfl, q2, r2⟩ := ry
    obtain ⟨h1, h2⟩ := h
    exact .inr (.inr (.inr ⟨a, b, xs, ys, rfl, rfl, q1, q2, by rw [← r1.length, ← r2.length]; exact h1, fun a o ha => new_fls rm p (r1.append r2) h2 ha⟩))

def rEqP (K : PySem.W.Frag) (neg : Bool) : R2 := fun x y H Q => ∃ d e : PyData, Dp K H x d ∧ Dp K H y e ∧ d.plain = true ∧ e.plain = true ∧ min d.depth e.depth ≤ 140 ∧ Q (.bl (neg ^^ PyData.eqv d e)) H
theorem op_eqP (hu : X.A.units + 160 < cLine) : OpR X (compareOp .Eq) (rEqP X.K false) := by
  intro pins s σ H x y v u Q I rx ry h
  obtain ⟨d, e, hd, he, sd, se, hm, q⟩ := h
  obtain ⟨as, r1⟩ := Dp.reads I d x v hd rx
  obtain ⟨bs, r2⟩ := Dp.reads I e y u he ry
  exact SeqAt.eq_plain r1 r2 sd se (by omega) (fin_bl I q (by simp))
theorem op_neP (hu : X.A.units + 160 < cLine) : OpR X (compareOp .NotEq) (rEqP X.K true) := by
  intro pins s σ H x y v u Q I rx ry h
  obtain ⟨d, e, hd, he, sd, se, hm, q⟩ := h
  obtain ⟨as, r1⟩ := Dp.reads I d x v hd rx
  obtain ⟨bs, r2⟩ := Dp.reads I e y u he ry
  exact SeqAt.ne_plain r1 r2 sd se (by omega) (fin_bl I q (by simp))
theorem ref_eq {K : PySem.W.Frag} : Ref2 K oEq (rEqP K false) := by
  intro H L x y dx dy k Q rx ry rm h p
  obtain ⟨h1, h2, h3, h4⟩ := h
  refine ⟨_, _, rx.dp h1, ry.dp h2, D.plain_py _, D.plain_py _, ?_, p.here rm h4 (by show V.bl _ = V.bl _; simp)⟩
  rw [D.depth_py, D.depth_py]
  rcases h3 with h3 | h3
  · exact Nat.le_trans (Nat.min_le_left _ _) h3
  · exact Nat.le_trans (Nat.min_le_right _ _) h3
theorem ref_ne {K : PySem.W.Frag} : Ref2 K oNe (rEqP K true) := by
  intro H L x y dx dy k Q rx ry rm h p
  obtain ⟨h1, h2, h3, h4⟩ := h
  refine ⟨_, _, rx.dp h1, ry.dp h2, D.plain_py _, D.plain_py _, ?_, p.here rm h4 (by show V.bl _ = V.bl _; simp)⟩
  rw [D.depth_py, D.depth_py]
  rcases h3 with h3 | h3
  · exact Nat.le_trans (Nat.min_le_left _ _) h3
  · exact Nat.le_trans (Nat.min_le_right _ _) h3
theorem rep_non {K : PySem.W.Frag} {H : Hp} {d : D} {v : V} (r : Rep K H d v) : decide (v = .non) = d.isNon := by
  cases d with
  | non => cases (show v = .non from r); rfl
  | tup ds => obtain ⟨a, xs, rfl, _⟩ := r; rfl
  | fls ds => obtain ⟨a, xs, rfl, _⟩ := r; rfl
  | scr ds => obtain ⟨a, rfl, _⟩ := r; rfl
  | bl b => cases (show v = .bl b from r); rfl
  | int b => cases (show v = .int b from r); rfl
  | str b => cases (show v = .str b from r); rfl
  | ref b => cases (show v = .ref b from r); rfl
  | ty b => cases (show v = .ty b from r); rfl
theorem ref_isN {K : PySem.W.Frag} : Ref2 K oIsN (fun x y H Q => y = .non ∧ Q (.bl (decide (x = .non))) H) := by
  intro H L x y dx dy k Q rx ry rm h p
  cases dy <;> first | exact h.elim | skip
  refine ⟨ry, ?_⟩
  rw [rep_non rx]
  exact p.here rm h rfl
theorem ref_notN {K : PySem.W.Frag} : Ref2 K oNotN (fun x y H Q => y = .non ∧ Q (.bl (!decide (x = .non))) H) := by
  intro H L x y dx dy k Q rx ry rm h p
  cases dy <;> first | exact h.elim | skip
  refine ⟨ry, ?_⟩
  rw [rep_non rx]
  exact p.here rm h rfl
theorem pys_any (x : D) : ∀ ds : List D, (D.pys ds).any (fun y => PyData.eqv y x.py) = ds.any fun y => y.eqv x
  | [] => rfl
  | d :: ds => by simp only [D.pys, List.any_cons, pys_any x ds]
def rInP (K : PySem.W.Frag) (neg : Bool) : R2 := fun x y H Q => (∃ s t, x = .str s ∧ y = .str t ∧ Q (.bl (neg ^^ strIn s t)) H) ∨
  ∃ (d : PyData) (ds : List PyData), Dp K H x d ∧ (Dp K H y (.list ds) ∨ Dp K H y (.tuple ds)) ∧ d.plain = true ∧ PyData.plainAll ds = true ∧ min (PyData.depthAll ds) d.depth ≤ 140 ∧ Q (.bl (neg ^^ ds.any fun z => PyData.eqv z d)) H
theorem op_inP (hu : X.A.units + 160 < cLine) : OpR X (compareOp .In) (rInP X.K false) := by
  intro pins s σ H x y v u Q I rx ry h
  rcases h with ⟨a, b, rfl, rfl, q⟩ | ⟨d, e, hd, he, sd, se, hm, q⟩
  · exact op_in_str pins s σ H _ _ v u Q I rx ry ⟨a, b, rfl, rfl, by simpa [strIn] using q⟩
  obtain ⟨as, r1⟩ := Dp.reads I d x v hd rx
  rcases he with he | he
  · obtain ⟨bs, r2⟩ := Dp.reads I _ y u he ry
    exact SeqAt.in_list_data r2 r1 se sd (by omega) (fin_bl I q (by simp))
  · obtain ⟨bs, r2⟩ := Dp.reads I _ y u he ry
    exact SeqAt.in_tuple_data r2 r1 se sd (by omega) (fin_bl I q (by simp))
theorem op_ninP (hu : X.A.units + 160 < cLine) : OpR X (compareOp .NotIn) (rInP X.K true) := by
  intro pins s σ H x y v u Q I rx ry h
  rcases h with ⟨a, b, rfl, rfl, q⟩ | ⟨d, e, hd, he, sd, se, hm, q⟩
  · exact L2.op_notin_str pins s σ H _ _ v u Q I rx ry ⟨a, b, rfl, rfl, by simpa [strIn] using q⟩
  obtain ⟨as, r1⟩ := Dp.reads I d x v hd rx
  rcases he with he | he
  · obtain ⟨bs, r2⟩ := Dp.reads I _ y u he ry
    exact SeqAt.notIn_list_data r2 r1 se sd (by omega) (fin_bl I q (by simp))
  · obtain ⟨bs, r2⟩ := Dp.reads I _ y u he ry
    exact SeqAt.notIn_tuple_data r2 r1 se sd (by omega) (fin_bl I q (by simp))
theorem ref_in {K : PySem.W.Frag} {neg : Bool} : Ref2 K (oIn neg) (rInP K neg) := by
  intro H L x y dx dy k Q rx ry rm h p
  have go : ∀ (ds : List D) (xs : List V), (dx.pr = true ∧ D.prs ds = true ∧ (dx.dp ≤ 140 ∨ D.dps ds ≤ 140) ∧ k (.bl (neg ^^ ds.any fun y => y.eqv dx)) L) → RepL K H ds xs → (Dp K H y (.list (D.pys ds)) ∨ Dp K H y (.tuple (D.pys ds))) → rInP K neg x y H Q := by
    intro ds xs ⟨h1, h2, h3, h4⟩ r hy
    refine .inr ⟨dx.py, D.pys ds, rx.dp h1, hy, D.plain_py _, D.plain_pys _, ?_, p.here rm h4 (by show V.bl _ = V.bl _; rw [pys_any])⟩
    rw [D.depth_py, D.depth_pys]
    rcases h3 with h3 | h3
    · exact Nat.le_trans (Nat.min_le_right _ _) h3
    · exact Nat.le_trans (Nat.min_le_left _ _) h3
  cases dy with
  | str t =>
    cases dx <;> first | exact h.elim | skip
    exact .inl ⟨_, _, rx, ry, p.here rm h rfl⟩
  | tup ds =>
    obtain ⟨b, ys, rfl, q2, r2⟩ := ry
    exact go ds ys h r2 (.inr (.tup q2 (r2.dp h.2.1)))
  | fls ds =>
    obtain ⟨b, ys, rfl, q2, r2⟩ := ry
    exact go ds ys h r2 (.inl (.lst q2.seq (r2.dp h.2.1)))
  | ref b =>
    have e : y = .ref b := ry
    subst e
    have h' : (match L b with
      | some (.lst ys) => dx.pr = true ∧ D.prs ys = true ∧ (dx.dp ≤ 140 ∨ D.dps ys ≤ 140) ∧ k (.bl (neg ^^ ys.any fun y => y.eqv dx)) L
      | _ => False) := h
    cases q : L b with
    | none => rw [q] at h'; exact h'.elim
    | some o =>
      rw [q] at h'
      cases o with
      | lst ds =>
        obtain ⟨xs, q1, r1⟩ := rm b _ q
        exact go ds xs h' r1 (.inl (.lst (.of q1) (r1.dp h'.2.1)))
      | ins C fs => exact h'.elim
  | _ => exact h.elim
end

/-! ### short names for the operators -/
section
variable {X : Cx} {a b : Expr} {ta tb : DE} {pos : Pos}
theorem e_add (ha : PE X a (lE X.K ta)) (hb : PE X b (lE X.K tb)) : PE X (.BinOp a .Add b pos) (lE X.K (rO oAdd ta tb)) := e_op op_addA ref_add ha hb
theorem e_sub (ha : PE X a (lE X.K ta)) (hb : PE X b (lE X.K tb)) : PE X (.BinOp a .Sub b pos) (lE X.K (rO oSub ta tb)) := e_op op_sub ref_sub ha hb
theorem e_mul (ha : PE X a (lE X.K ta)) (hb : PE X b (lE X.K tb)) : PE X (.BinOp a .Mult b pos) (lE X.K (rO oMul ta tb)) := e_op op_mul ref_mul ha hb
theorem e_fdiv (ha : PE X a (lE X.K ta)) (hb : PE X b (lE X.K tb)) : PE X (.BinOp a .FloorDiv b pos) (lE X.K (rO oFdiv ta tb)) := e_op op_fdivW ref_fdiv ha hb
theorem e_mod (ha : PE X a (lE X.K ta)) (hb : PE X b (lE X.K tb)) : PE X (.BinOp a .Mod b pos) (lE X.K (rO oMod ta tb)) := e_op op_mod ref_mod ha hb
theorem e_pow (ha : PE X a (lE X.K ta)) (hb : PE X b (lE X.K tb)) : PE X (.BinOp a .Pow b pos) (lE X.K (rO oPow ta tb)) := e_op op_pow ref_pow ha hb
theorem e_band (ha : PE X a (lE X.K ta)) (hb : PE X b (lE X.K tb)) : PE X (.BinOp a .BitAnd b pos) (lE X.K (rO oAnd ta tb)) := e_op op_and ref_and ha hb
/-- a comparison, by its operator's rule -/
structure CmpD (X : Cx) (op : CmpOp) (f : D2) : Prop where
  ex : ∃ r, OpR X (compareOp op) r ∧ Ref2 X.K f r
theorem c_lt : CmpD X .Lt oLt := ⟨_, op_lt, ref_cmp⟩
theorem c_le : CmpD X .LtE oLe := ⟨_, op_le, ref_cmp⟩
theorem c_gt : CmpD X .Gt oGt := ⟨_, op_gt, ref_cmp⟩
theorem c_ge : CmpD X .GtE oGe := ⟨_, op_ge, ref_cmp⟩
theorem c_eq (hu : X.A.units + 160 < cLine) : CmpD X .Eq oEq := ⟨_, op_eqP hu, ref_eq⟩
theorem c_ne (hu : X.A.units + 160 < cLine) : CmpD X .NotEq oNe := ⟨_, op_neP hu, ref_ne⟩
theorem c_is : CmpD X .Is oIsN := ⟨_, op_isN, ref_isN⟩
theorem c_isnot : CmpD X .IsNot oNotN := ⟨_, op_notN, ref_notN⟩
theorem c_in (hu : X.A.units + 160 < cLine) : CmpD X .In (oIn false) := ⟨_, op_inP hu, ref_in⟩
theorem c_notin (hu : X.A.units + 160 < cLine) : CmpD X .NotIn (oIn true) := ⟨_, op_ninP hu, ref_in⟩
theorem ec {op : CmpOp} {f : D2} (c : CmpD X op f) (ha : PE X a (lE X.K ta)) (hb : PE X b (lE X.K tb)) (hm : behindInMarks op b = false := by first | exact nomark _ | rfl) : PE X (.Compare a [op] [b] pos) (lE X.K (rO f ta tb)) := by
  obtain ⟨r, h1, h2⟩ := c.ex
  exact e_cmp h1 h2 ha hb hm
theorem tc {op : CmpOp} {f : D2} (c : CmpD X op f) (ha : PE X a (lE X.K ta)) (hb : PE X b (lE X.K tb)) (hm : behindInMarks op b = false := by first | exact nomark _ | rfl) : PT X (.Compare a [op] [b] pos) (lT X.K (rTest (rO f ta tb))) := by
  obtain ⟨r, h1, h2⟩ := c.ex
  exact t_cmp h1 h2 ha hb hm
/-- a op b op c -/
def rChain (f g : D2) (a b c : DE) : DE := fun δ L k => a δ L fun x L1 => b δ L1 fun y L2 => f x y L2 fun z L3 => match z with
  | .bl t => if t = true then c δ L3 fun w L4 => g y w L4 k else k (.bl false) L3
  | _ => False
theorem lE_chain {K : PySem.W.Frag} {f g : D2} {r r' : R2} {tc' : DE} (h1 : Ref2 K f r) (h2 : Ref2 K g r') (σ : L2.St) (H : Hp) (Q : VK) (h : lE K (rChain f g ta tb tc') σ H Q) : tChain r r' (lE K ta) (lE K tb) (lE K tc') σ H Q := by
  obtain ⟨δ, L, k, rs, rm, t, p⟩ := h
  refine lE_bind rs rm t fun x L1 vx H1 q1 r1 m1 rs1 x1 s1 => ?_
  refine lE_bind rs1 m1 q1 fun y L2 vy H2 q2 r2 m2 rs2 x2 s2 => ?_
  refine h1 H2 L2 vx vy x y _ _ (r1.mono s2) r2 m2 q2 fun z L3 q3 vz H3 r3 m3 x3 => ?_
  cases z with
  | bl t =>
    refine ⟨t, r3, ?_⟩
    have s3 := m2.stb x3
    cases t with
    | true =>
      rw [if_pos rfl]
      have q3' : tc' δ L3 fun w L4 => g y w L4 k := by simpa using q3
      refine lE_bind (rs2.mono s3) m3 q3' fun w L4 vw H4 q4 r4 m4 rs4 x4 s4 => ?_
      exact h2 H4 L4 vy vw y w k Q ((r2.mono s3).mono s4) r4 m4 q4 (p.after (((x1.trans x2).trans x3).trans x4))
    | false =>
      rw [if_neg Bool.false_ne_true]
      have q3' : k (.bl false) L3 := by simpa using q3
      exact p _ L3 q3' _ _ rfl m3 ((x1.trans x2).trans x3)
  | _ => exact q3.elim
theorem ech {op op' : CmpOp} {f g : D2} {c : Expr} {tc' : DE} (c1 : CmpD X op f) (c2 : CmpD X op' g) (ha : PE X a (lE X.K ta)) (hb : PE X b (lE X.K tb)) (hc : PE X c (lE X.K tc'))
    (hm : lastMarks [op, op'] [b, c] = false := by with_unfolding_all rfl) : PE X (.Compare a [op, op'] [b, c] pos) (lE X.K (rChain f g ta tb tc')) := by
  obtain ⟨r, h1, h2⟩ := c1.ex
  obtain ⟨r', h3, h4⟩ := c2.ex
  exact (pe_chain h1 h3 ha hb hc hm).mono (lE_chain h2 h4)
theorem tch {op op' : CmpOp} {f g : D2} {c : Expr} {tc' : DE} (c1 : CmpD X op f) (c2 : CmpD X op' g) (ha : PE X a (lE X.K ta)) (hb : PE X b (lE X.K tb)) (hc : PE X c (lE X.K tc'))
    (hm : lastMarks [op, op'] [b, c] = false := by with_unfolding_all rfl) : PT X (.Compare a [op, op'] [b, c] pos) (lT X.K (rTest (rChain f g ta tb tc'))) := by
  obtain ⟨r, h1, h2⟩ := c1.ex
  obtain ⟨r', h3, h4⟩ := c2.ex
  exact (pt_chain h1 h3 ha hb hc hm).mono fun σ H Q h => lE_chain h2 h4 σ H _ (let ⟨δ, L, k, rs, rm, q, p⟩ := h; ⟨δ, L, _, rs, rm, q, fun x L1 q1 vx H1 r1 m1 x1 => by
    cases x with
    | bl b =>
      have e : vx = .bl b := r1
      exact ⟨b, e, p.after x1 b L1 q1 H1 m1 .refl⟩
    | _ => exact q1.elim⟩)
end

/-! ### truth -/
def oTru : D → MH → (Bool → MH → Prop) → Prop := fun x L k => match x with
  | .non => k false L
  | .bl b => k b L
  | .int i => k (i != 0) L
  | .str s => s.length ≤ sizeLine ∧ k ((s.length : Int) != 0) L
  | .tup ds => k (!ds.isEmpty) L
  | .fls ds => k (!ds.isEmpty) L
  | .ref p => (match L p with
    | some (.lst ds) => k (!ds.isEmpty) L
    | _ => False)
  | _ => False
def rTru (t : DE) : DT := fun δ L k => t δ L fun x L1 => oTru x L1 k
theorem RepL.isEmpty {K : PySem.W.Frag} {H : Hp} {ds : List D} {xs : List V} (r : RepL K H ds xs) : ds.isEmpty = xs.isEmpty := by
  have := r.length
  cases ds <;> cases xs <;> first | rfl | simp at this
theorem tru_at {K : PySem.W.Frag} {H : Hp} {L : MH} {x : D} {v : V} {k : Bool → MH → Prop} (rm : RepM K H L) (r : Rep K H x v) (h : oTru x L k) : ∃ b, TruV K v H b ∧ k b L := by
  cases x with
  | non => cases (show v = .non from r); exact ⟨false, rfl, h⟩
  | bl b => cases (show v = .bl b from r); exact ⟨b, rfl, h⟩
  | int i => cases (show v = .int i from r); exact ⟨_, rfl, h⟩
  | str s => cases (show v = .str s from r); exact ⟨_, ⟨h.1, rfl⟩, h.2⟩
  | tup ds =>
    obtain ⟨a, xs, rfl, q, u⟩ := r
    exact ⟨_, .inr (.inl ⟨xs, q, rfl⟩), (by rw [← u.isEmpty]; exact h)⟩
  | fls ds =>
    obtain ⟨a, xs, rfl, q, u⟩ := r
    exact ⟨_, .inl ⟨xs, q.seq, rfl⟩, (by rw [← u.isEmpty]; exact h)⟩
  | ref a =>
    cases (show v = .ref a from r)
    have h' : (match L a with
      | some (.lst ds) => k (!ds.isEmpty) L
      | _ => False) := h
    cases q : L a with
    | none => rw [q] at h'; exact h'.elim
    | some o =>
      rw [q] at h'
      cases o with
      | lst ds =>
        obtain ⟨xs, q1, u⟩ := rm a _ q
        exact ⟨_, .inl ⟨xs, .of q1, rfl⟩, (by rw [← u.isEmpty]; exact h')⟩
      | ins C fs => exact h'.elim
  | _ => exact h.elim
theorem tru_of {K : PySem.W.Frag} {H : Hp} {L : MH} {x : D} {v : V} {k : Bool → MH → Prop} {Q : Bool → Hp → Prop} (rm : RepM K H L) (r : Rep K H x v) (h : oTru x L k) (p : PostT K L H k Q) : ∃ b, TruV K v H b ∧ Q b H :=
  let ⟨b, h1, h2⟩ := tru_at rm r h
  ⟨b, h1, p.here rm h2⟩
section
variable {X : Cx} {a b : Expr} {ta tb : DE} {ua ub : DT} {rest : List Expr} {pos : Pos}
/-- any expression, by its truth -/
theorem t_tru (ha : PE X a (lE X.K ta)) (he : ∀ whole, isTrue a X.env whole = (do let v ← whole; standAt a.pos; holding [v] (truthy v)) := by intro _; rfl) : PT X a (lT X.K (rTru ta)) :=
  (pt_truth ha he).mono fun σ H Q ⟨δ, L, k, rs, rm, t, p⟩ => lE_bind rs rm t fun x L1 v H1 q1 r1 m1 _ x1 _ => tru_of m1 r1 q1 (p.after x1)
def rAndT (t u : DT) : DT := fun δ L k => t δ L fun b L1 => if b = true then u δ L1 k else k false L1
def rOrT (t u : DT) : DT := fun δ L k => t δ L fun b L1 => if b = true then k true L1 else u δ L1 k
def rNotT (t : DT) : DT := fun δ L k => t δ L fun b L1 => k (!b) L1
theorem t_and1 (ha : PT X a (lT X.K ua)) : PW X (.BoolOp .And [a] pos) (lT X.K ua) := pw_and1 ha
theorem t_or1 (ha : PT X a (lT X.K ua)) : PW X (.BoolOp .Or [a] pos) (lT X.K ua) := pw_or1 ha
theorem t_and (ha : PT X a (lT X.K ua)) (hb : PW X (.BoolOp .And (b :: rest) pos) (lT X.K ub)) : PW X (.BoolOp .And (a :: b :: rest) pos) (lT X.K (rAndT ua ub)) :=
  (pw_and ha hb).mono fun σ H Q ⟨δ, L, k, rs, rm, t, p⟩ => lT_bind rs rm t fun c L1 H1 q1 m1 rs1 x1 _ => by
    cases c with
    | true => rw [if_pos rfl] at q1 ⊢; exact ⟨δ, L1, k, rs1, m1, q1, p.after x1⟩
    | false => rw [if_neg Bool.false_ne_true] at q1 ⊢; exact p _ _ q1 _ m1 x1
theorem t_or (ha : PT X a (lT X.K ua)) (hb : PW X (.BoolOp .Or (b :: rest) pos) (lT X.K ub)) : PW X (.BoolOp .Or (a :: b :: rest) pos) (lT X.K (rOrT ua ub)) :=
  (pw_or ha hb).mono fun σ H Q ⟨δ, L, k, rs, rm, t, p⟩ => lT_bind rs rm t fun c L1 H1 q1 m1 rs1 x1 _ => by
    cases c with
    | true => rw [if_pos rfl] at q1 ⊢; exact p _ _ q1 _ m1 x1
    | false => rw [if_neg Bool.false_ne_true] at q1 ⊢; exact ⟨δ, L1, k, rs1, m1, q1, p.after x1⟩
theorem t_not (ha : PT X a (lT X.K ua)) : PT X (.UnaryOp .Not a pos) (lT X.K (rNotT ua)) :=
  (pt_not ha).mono fun σ H Q ⟨δ, L, k, rs, rm, t, p⟩ => lT_bind rs rm t fun c L1 H1 q1 m1 _ x1 _ => p _ _ q1 _ m1 x1
/-- .. as values -/
def rAnd (a b : DE) : DE := fun δ L k => a δ L fun x L1 => oTru x L1 fun c L2 => if c = true then b δ L2 k else k x L2
def rOr (a b : DE) : DE := fun δ L k => a δ L fun x L1 => oTru x L1 fun c L2 => if c = true then k x L2 else b δ L2 k
def rNot (a : DE) : DE := fun δ L k => a δ L fun x L1 => oTru x L1 fun c L2 => k (.bl (!c)) L2
theorem e_one {op} (h : PE X a (lE X.K ta)) : PE X (.BoolOp op [a] pos) (lE X.K ta) := pe_one h
theorem e_and (ha : PE X a (lE X.K ta)) (hb : PE X (.BoolOp .And (b :: rest) pos) (lE X.K tb)) : PE X (.BoolOp .And (a :: b :: rest) pos) (lE X.K (rAnd ta tb)) :=
  (pe_andT ha hb).mono fun σ H Q ⟨δ, L, k, rs, rm, t, p⟩ => lE_bind rs rm t fun x L1 v H1 q1 r1 m1 rs1 x1 _ => by
    obtain ⟨c, h1, h2⟩ := tru_at m1 r1 q1
    refine ⟨c, h1, ?_⟩
    cases c with
    | true => rw [if_pos rfl] at h2 ⊢; exact ⟨δ, L1, k, rs1, m1, h2, p.after x1⟩
    | false => rw [if_neg Bool.false_ne_true] at h2 ⊢; exact p x L1 h2 _ _ r1 m1 x1
theorem e_or (ha : PE X a (lE X.K ta)) (hb : PE X (.BoolOp .Or (b :: rest) pos) (lE X.K tb)) : PE X (.BoolOp .Or (a :: b :: rest) pos) (lE X.K (rOr ta tb)) :=
  (pe_orT ha hb).mono fun σ H Q ⟨δ, L, k, rs, rm, t, p⟩ => lE_bind rs rm t fun x L1 v H1 q1 r1 m1 rs1 x1 _ => by
    obtain ⟨c, h1, h2⟩ := tru_at m1 r1 q1
    refine ⟨c, h1, ?_⟩
    cases c with
    | true => rw [if_pos rfl] at h2 ⊢; exact p x L1 h2 _ _ r1 m1 x1
    | false => rw [if_neg Bool.false_ne_true] at h2 ⊢; exact ⟨δ, L1, k, rs1, m1, h2, p.after x1⟩
theorem e_not (ha : PE X a (lE X.K ta)) : PE X (.UnaryOp .Not a pos) (lE X.K (rNot ta)) :=
  (pe_notT ha).mono fun σ H Q ⟨δ, L, k, rs, rm, t, p⟩ => lE_bind rs rm t fun x L1 v H1 q1 r1 m1 rs1 x1 _ => by
    obtain ⟨c, h1, h2⟩ := tru_at m1 r1 q1
    exact ⟨c, h1, p _ L1 h2 _ _ rfl m1 x1⟩
def rIf (t : DT) (a b : DE) : DE := fun δ L k => t δ L fun c L1 => if c = true then a δ L1 k else b δ L1 k
theorem e_if {c : Expr} {uc : DT} (hc : PT X c (lT X.K uc)) (ha : PE X a (lE X.K ta)) (hb : PE X b (lE X.K tb)) : PE X (.IfExp c a b pos) (lE X.K (rIf uc ta tb)) :=
  (pe_ifExp hc ha hb).mono fun σ H Q ⟨δ, L, k, rs, rm, t, p⟩ => lT_bind rs rm t fun c L1 H1 q1 m1 rs1 x1 _ => by
    cases c with
    | true => rw [if_pos rfl] at q1 ⊢; exact ⟨δ, L1, k, rs1, m1, q1, p.after x1⟩
    | false => rw [if_neg Bool.false_ne_true] at q1 ⊢; exact ⟨δ, L1, k, rs1, m1, q1, p.after x1⟩
/-- -a -/
def rNeg (a : DE) : DE := fun δ L k => a δ L fun x L1 => match x with
  | .int i => k (.int (-i)) L1
  | _ => False
theorem e_neg (ha : PE X a (lE X.K ta)) : PE X (.UnaryOp .USub a pos) (lE X.K (rNeg ta)) :=
  (pe_un un_neg ha).mono fun σ H Q ⟨δ, L, k, rs, rm, t, p⟩ => lE_bind rs rm t fun x L1 v H1 q1 r1 m1 rs1 x1 _ => by
    cases x with
    | int c => exact ⟨c, r1, p _ L1 q1 _ _ rfl m1 x1⟩
    | _ => exact q1.elim
end
end DL

/-! DL, part d: argument lists, displays, subscripts, slices, built-ins, methods, attributes. -/
namespace DL
open PySem PySem.Spec PyProof.Rows L2

/-! ### argument lists -/
def rArgs : List DE → DA
  | [], _, L, k => k [] L
  | a :: r, δ, L, k => a δ L fun x L1 => rArgs r δ L1 fun xs L2 => k (x :: xs) L2
def tArgs : List TE → TA
  | [] => tNil
  | t :: r => tCons t (tArgs r)
abbrev tArgsD (K : PySem.W.Frag) (ts : List DE) : TA := tArgs (ts.map (lE K))
theorem args_of {K : PySem.W.Frag} : ∀ {ts : List DE} {σ : L2.St} {H : Hp} {Q : List V → Hp → Prop} {δ : DSt} {L : MH} {k : List D → MH → Prop}, RepS K H δ σ → RepM K H L → rArgs ts δ L k →
    (∀ ds L' vs H', k ds L' → ds.length = ts.length → RepL K H' ds vs → RepM K H' L' → RepS K H' δ σ → Ext L H L' H' → Stb H H' → Q vs H') → tArgsD K ts σ H Q
  | [], σ, H, Q, δ, L, k, rs, rm, h, hk => hk [] L [] H h rfl rfl rm rs .refl (.refl _)
  | t :: r, σ, H, Q, δ, L, k, rs, rm, h, hk => by
    refine lE_bind (Q := fun x H1 => tArgsD K r σ H1 fun xs H2 => Q (x :: xs) H2) rs rm h fun x L1 v H1 q1 r1 m1 rs1 x1 s1 => ?_
    exact args_of rs1 m1 q1 fun ds L' vs H' q2 e2 r2 m2 rs2 x2 s2 => hk (x :: ds) L' (v :: vs) H' q2 (by rw [List.length_cons, List.length_cons, e2]) (.cons (r1.mono s2) r2) m2 rs2 (x1.trans x2) (s1.trans s2)
section
variable {X : Cx} {e : Expr} {es : List Expr} {te : DE} {ts : List DE} {pos : Pos}
/-- an argument list and its readings -/
abbrev PAD (X : Cx) (es : List Expr) (ts : List DE) : Prop := PA X es (tArgsD X.K ts)
theorem a_nil : PAD X [] [] := pa_nil
theorem a_cons (ha : PE X e (lE X.K te)) (hr : PAD X es ts) (hs : starEach (e :: es) X.env = (false, eval e X.env) :: starEach es X.env := by rfl) : PAD X (e :: es) (te :: ts) := pa_cons ha hr hs
/-- what args_of gives, from a lifted reading -/
theorem lE_args {K : PySem.W.Frag} {ts : List DE} {f : List D → MH → KD → Prop} {σ : L2.St} {H : Hp} {Q : VK} {R : List V → Hp → Prop} (h : lE K (fun δ L k => rArgs ts δ L fun ds L1 => f ds L1 k) σ H Q)
    (hk : ∀ ds L' vs H' k, f ds L' k → ds.length = ts.length → RepL K H' ds vs → RepM K H' L' → PostE K L' H' k Q → R vs H') : tArgsD K ts σ H R := by
  obtain ⟨δ, L, k, rs, rm, t, p⟩ := h
  exact args_of rs rm t fun ds L' vs H' q e r m _ x _ => hk ds L' vs H' k q e r m (p.after x)

/-! ### displays -/
def rTup (ts : List DE) : DE := fun δ L k => rArgs ts δ L fun ds L1 => k (.tup ds) L1
/-- a list that will be written -/
def rLst (ts : List DE) : DE := fun δ L k => rArgs ts δ L fun ds L1 => ∀ p, L1 p = none → k (.ref p) (updM L1 p (.lst ds))
/-- a list that stays as it is -/
def rFls (ts : List DE) : DE := fun δ L k => rArgs ts δ L fun ds L1 => k (.fls ds) L1
theorem small_len {n : Nat} (h : Nat.ble n 1000 = true) : n ≤ sizeLine := Nat.le_of_lt (small1000 (Nat.le_of_ble_eq_true h))
theorem e_tup {x1} (h : PAD X es ts) (hn : Nat.ble ts.length 1000 = true := by rfl) : PE X (.Tuple es x1 pos) (lE X.K (rTup ts)) := (pe_tup h).mono fun σ H Q h => lE_args (f := fun ds L1 k => k (.tup ds) L1) h fun ds L' vs H' k q e r m p =>
  ⟨by rw [← r.length, e]; exact small_len hn, fun a ha => new_tup m p r q ha⟩
theorem e_lst (h : PAD X es ts) (hn : Nat.ble ts.length 1000 = true := by rfl) : PE X (.List es pos) (lE X.K (rLst ts)) := (pe_lst h).mono fun σ H Q h => lE_args (f := fun ds L1 k => ∀ p, L1 p = none → k (.ref p) (updM L1 p (.lst ds))) h fun ds L' vs H' k q e r m p =>
  ⟨by rw [← r.length, e]; exact small_len hn, fun a ha => new_lst m p r q ha⟩
/-- a reading whose value is a new list: that list frozen -/
theorem frz_of {e : Expr} {t : TE} (h : PE X e t) : PE X e (fun σ H Q => t σ H fun v H1 => ∃ a xs, v = .ref a ∧ H1 a = some (.lst xs) ∧ ∀ o, Q v (upd H1 a (.frz o (.lst xs)))) := by
  refine ⟨fun pins s σ H Q I q => ?_⟩
  refine thn (h.run pins s σ H _ I q) fun u s1 ⟨v, H1, I1, r1, a, xs, e, ha, q1⟩ => ?_
  obtain ⟨o, I2⟩ := Inv.freeze I1 ha
  exact ⟨v, _, I2, r1, q1 o⟩
theorem new_frz {K : PySem.W.Frag} {H : Hp} {L : MH} {k : KD} {Q : VK} (rm : RepM K H L) (p : PostE K L H k Q) {ds : List D} {xs : List V} (r : RepL K H ds xs) (h : k (.fls ds) L) {a : Addr} (ha : H a = none) :
    ∃ b ys, V.ref a = .ref b ∧ upd H a (.lst xs) b = some (.lst ys) ∧ ∀ o, Q (.ref a) (upd (upd H a (.lst xs)) b (.frz o (.lst ys))) :=
  ⟨a, xs, rfl, upd_same, fun o => by rw [upd_upd]; exact new_fls rm p r h ha⟩
theorem e_fls (h : PAD X es ts) (hn : Nat.ble ts.length 1000 = true := by rfl) : PE X (.List es pos) (lE X.K (rFls ts)) := (frz_of (pe_lst h)).mono fun σ H Q h => lE_args (f := fun ds L1 k => k (.fls ds) L1) h fun ds L' vs H' k q e r m p =>
  ⟨by rw [← r.length, e]; exact small_len hn, fun a ha => new_frz m p r q ha⟩
end

/-! ### an item -/
def at_ {α : Type} (xs : List α) (i : Int) : Option α := match i with
  | .ofNat n => xs[n]?
  | .negSucc n => if n < xs.length then xs[xs.length - 1 - n]? else none
theorem at_atI {α : Type} {xs : List α} {i : Int} {v : α} (h : at_ xs i = some v) : atI xs i = some v := by
  cases i with
  | ofNat n => exact atI_nat h
  | negSucc n =>
    have h' : (if n < xs.length then xs[xs.length - 1 - n]? else none) = some v := h
    by_cases hn : n < xs.length
    · rw [if_pos hn] at h'
      unfold atI ixN
      have h1 : ¬ (0 : Int) ≤ Int.negSucc n := by omega
      have h2 : -(xs.length : Int) ≤ Int.negSucc n := by omega
      rw [if_neg h1, if_pos h2]
      show xs[(Int.negSucc n + (xs.length : Int)).toNat]? = some v
      have e : (Int.negSucc n + (xs.length : Int)).toNat = xs.length - 1 - n := by omega
      rw [e]
      exact h'
    · rw [if_neg hn] at h'; cases h'
theorem at_nat {α : Type} (xs : List α) (n : Nat) : at_ xs (n : Int) = xs[n]? := rfl
theorem at_neg1 {α : Type} (xs : List α) (v : α) : at_ (xs ++ [v]) (-1) = some v := by
  show (if 0 < (xs ++ [v]).length then (xs ++ [v])[(xs ++ [v]).length - 1 - 0]? else none) = some v
  simp
def oIx : D2 := fun x y L k => match y with
  | .int i => (match x with
    | .tup ds => (match at_ ds i with
      | some d => k d L
      | none => False)
    | .fls ds => (match at_ ds i with
      | some d => k d L
      | none => False)
    | .scr ns => (match at_ ns i with
      | some n => k (.int n) L
      | none => False)
    | .str z => z.length ≤ sizeLine ∧ (match at_ z.cps.toList i with
      | some c => k (.str ⟨#[c]⟩) L
      | none => False)
    | .ref p => (match L p with
      | some (.lst ds) => (match at_ ds i with
        | some d => k d L
        | none => False)
      | _ => False)
    | _ => False)
  | _ => False
theorem RepL.atI {K : PySem.W.Frag} {H : Hp} {ds : List D} {xs : List V} (r : RepL K H ds xs) {i : Int} {d : D} (h : at_ ds i = some d) : ∃ v, L2.atI xs i = some v ∧ Rep K H d v := by
  have h2 := at_atI h
  unfold L2.atI at h2 ⊢
  rw [← r.length]
  cases q : ixN ds.length i with
  | none => rw [q] at h2; cases h2
  | some j =>
    rw [q] at h2
    exact r.get (i := j) h2
theorem ref_ix {K : PySem.W.Frag} : Ref2 K oIx (rIx K) := by
  intro H L x y dx dy k Q rx ry rm h p
  cases dy <;> first | exact h.elim | skip
  rename_i i
  have sq : ∀ {ds : List D} {xs : List V}, RepL K H ds xs → (match at_ ds i with
      | some d => k d L
      | none => False) → ∃ v, atI xs i = some v ∧ Q v H := by
    intro ds xs r h
    cases q : at_ ds i with
    | none => rw [q] at h; exact h.elim
    | some d =>
      rw [q] at h
      obtain ⟨v, h1, h2⟩ := r.atI q
      exact ⟨v, h1, p.here rm h h2⟩
  cases dx with
  | tup ds =>
    obtain ⟨a, xs, rfl, q, r⟩ := rx
    obtain ⟨v, h1, h2⟩ := sq r h
    exact .inr (.inl ⟨a, xs, i, v, rfl, ry, q, h1, h2⟩)
  | fls ds =>
    obtain ⟨a, xs, rfl, q, r⟩ := rx
    obtain ⟨v, h1, h2⟩ := sq r h
    exact .inl ⟨a, xs, i, v, rfl, ry, q.seq, h1, h2⟩
  | scr ns =>
    obtain ⟨a, rfl, q⟩ := rx
    have h' : (match at_ ns i with
      | some n => k (.int n) L
      | none => False) := h
    cases e : at_ ns i with
    | none => rw [e] at h'; exact h'.elim
    | some n =>
      rw [e] at h'
      refine .inl ⟨a, _, i, .int n, rfl, ry, q.seq, ?_, p.here rm h' rfl⟩
      have h2 := at_atI e
      unfold atI at h2 ⊢
      rw [List.length_map]
      cases z : ixN ns.length i with
      | none => rw [z] at h2; cases h2
      | some j =>
        rw [z] at h2
        show (ns.map V.int)[j]? = _
        rw [List.getElem?_map]
        rw [show ns[j]? = some n from h2]
        rfl
  | str z =>
    obtain ⟨h1, h2⟩ := h
    have h2' : (match at_ z.cps.toList i with
      | some c => k (.str ⟨#[c]⟩) L
      | none => False) := h2
    cases e : at_ z.cps.toList i with
    | none => rw [e] at h2'; exact h2'.elim
    | some c =>
      rw [e] at h2'
      exact .inr (.inr ⟨z, i, c, rx, ry, h1, at_atI e, p.here rm h2' rfl⟩)
  | ref b =>
    have h' : (match L b with
      | some (.lst ds) => (match at_ ds i with
        | some d => k d L
        | none => False)
      | _ => False) := h
    cases q : L b with
    | none => rw [q] at h'; exact h'.elim
    | some o =>
      rw [q] at h'
      cases o with
      | lst ds =>
        obtain ⟨xs, q1, r⟩ := rm b _ q
        obtain ⟨v, h1, h2⟩ := sq r h'
        exact .inl ⟨b, xs, i, v, rx, ry, .of q1, h1, h2⟩
      | ins C fs => exact h'.elim
  | _ => exact h.elim
section
variable {X : Cx} {a b : Expr} {ta tb : DE} {pos : Pos}
theorem e_ix (ha : PE X a (lE X.K ta)) (hb : PE X b (lE X.K tb)) (hs : PlainIx b := by exact fun _ _ => rfl) : PE X (.Subscript a b pos) (lE X.K (rO oIx ta tb)) := (pe_ix ix_seq ha hb hs).mono (lE_op ref_ix)
end

/-! ### slices -/
abbrev DO := DSt → MH → (Option Int → MH → Prop) → Prop
def lO (K : PySem.W.Frag) (t : DO) : TO := fun σ H Q => ∃ δ L k, RepS K H δ σ ∧ RepM K H L ∧ t δ L k ∧ ∀ o L', k o L' → ∀ H', RepM K H' L' → Ext L H L' H' → Q o H'
def rNoP : DO := fun _ L k => k none L
def rPart (t : DE) : DO := fun δ L k => t δ L fun x L1 => match x with
  | .int i => k (some i) L1
  | _ => False
def cutD (ds : List D) (lo hi : Option Int) : List D := (ds.drop (HT.sIx ds.length 0 lo)).take (HT.sIx ds.length ds.length hi - HT.sIx ds.length 0 lo)
def oSl (x : D) (lo hi : Option Int) (L : MH) (k : KD) : Prop := match x with
  | .tup ds => k (.tup (cutD ds lo hi)) L
  | .fls ds => k (.fls (cutD ds lo hi)) L
  | .str z => z.length ≤ sizeLine ∧ k (.str (Txt.slice z lo hi)) L
  | .ref p => (match L p with
    | some (.lst ds) => k (.fls (cutD ds lo hi)) L
    | _ => False)
  | _ => False
def rSl (t : DE) (lo hi : DO) : DE := fun δ L k => t δ L fun x L1 => lo δ L1 fun l L2 => hi δ L2 fun u L3 => oSl x l u L3 k
theorem RepL.cut {K : PySem.W.Frag} {H : Hp} {ds : List D} {xs : List V} (r : RepL K H ds xs) (lo hi : Option Int) : RepL K H (cutD ds lo hi) (cutV xs lo hi) := by
  unfold cutD cutV
  rw [r.length]
  exact (r.drop _).take _
section
variable {X : Cx} {e : Expr} {te : DE} {lo hi : Option Expr} {tl th : DO} {pos p2 : Pos}
theorem o_none : PO X none (lO X.K rNoP) := ⟨fun pins s σ H Q I h => po_none.run pins s σ H Q I (let ⟨δ, L, k, rs, rm, t, p⟩ := h; p _ L t H rm .refl)⟩
theorem o_some (h : PE X e (lE X.K te)) : PO X (some e) (lO X.K (rPart te)) := ⟨fun pins s σ H Q I q => (po_some h).run pins s σ H Q I (let ⟨δ, L, k, rs, rm, t, p⟩ := q; lE_bind rs rm t fun x L1 v H1 q1 r1 m1 _ x1 _ => by
    cases x with
    | int i => exact ⟨i, r1, p _ L1 q1 H1 m1 x1⟩
    | _ => exact q1.elim)⟩
/-- slices of tuples, lists (frozen at once), texts -/
def rSlAny (K : PySem.W.Frag) : V → Option Int → Option Int → Hp → VK → Prop := fun x lo hi H Q => rSlA K x lo hi H Q ∨ C8.rSlX x lo hi H Q ∨ ∃ a xs, x = .ref a ∧ SqL K H a xs ∧ ∀ p o, H p = none → Q (.ref p) (upd H p (.frz o (.lst (cutV xs lo hi))))
theorem sl_lstF : SlR X (fun x lo hi H Q => ∃ a xs, x = .ref a ∧ SqL X.K H a xs ∧ ∀ p o, H p = none → Q (.ref p) (upd H p (.frz o (.lst (cutV xs lo hi))))) := by
  intro pins s σ H x v vl vu lo hi sl Q I rx hs pl pu h
  obtain ⟨a, xs, rfl, q1, q2⟩ := h
  obtain ⟨T, id, hT, ht, hg⟩ := sl_list pins s σ H _ v vl vu lo hi sl (fun v H1 => ∃ p, v = .ref p ∧ H p = none ∧ H1 = upd H p (.lst (cutV xs lo hi))) I rx hs pl pu ⟨a, xs, rfl, q1, fun p hp => ⟨p, rfl, hp, rfl⟩⟩
  refine ⟨T, id, hT, ht, thn hg fun u s1 ⟨w, H1, I1, r1, p, e1, hp, e2⟩ => ?_⟩
  subst e1 e2
  obtain ⟨o, I2⟩ := Inv.freeze I1 (a := p) upd_same
  rw [upd_upd] at I2
  exact ⟨.ref p, _, I2, r1, q2 p o hp⟩
theorem e_sl (he : PE X e (lE X.K te)) (hl : PO X lo (lO X.K tl)) (hu : PO X hi (lO X.K th)) : PE X (.Subscript e (.Slice lo hi none p2) pos) (lE X.K (rSl te tl th)) :=
  (pe_slice (r := rSlAny X.K) (sl_tupA.or (C8.sl_txt.or sl_lstF)) he hl hu).mono fun σ H Q ⟨δ, L, k, rs, rm, t, p⟩ => lE_bind rs rm t fun x L1 v H1 q1 r1 m1 rs1 x1 s1 =>
    ⟨δ, L1, _, rs1, m1, q1, fun l L2 q2 H2 m2 x2 => ⟨δ, L2, _, rs1.mono (m1.stb x2), m2, q2, fun u L3 q3 H3 m3 x3 => by
      have r3 := (r1.mono (m1.stb x2)).mono (m2.stb x3)
      have p3 := p.after ((x1.trans x2).trans x3)
      cases x with
      | tup ds =>
        obtain ⟨a, xs, rfl, z, r⟩ := r3
        refine .inl ⟨a, xs, rfl, z, fun e => ?_, fun _ b hb => new_tup m3 p3 (r.cut l u) q3 hb⟩
        have ee : cutD ds l u = ds := by
          unfold cutD
          rw [r.length, e.1, e.2, List.drop_zero, Nat.sub_zero, ← r.length, List.take_length]
        have q4 : k (.tup (cutD ds l u)) L3 := q3
        rw [ee] at q4
        exact p3.here m3 q4 ⟨a, xs, rfl, z, r⟩
      | fls ds =>
        obtain ⟨a, xs, rfl, z, r⟩ := r3
        exact .inr (.inr ⟨a, xs, rfl, z.seq, fun b o hb => new_fls m3 p3 (r.cut l u) q3 hb⟩)
      | str z => exact .inr (.inl ⟨z, r3, q3.1, p3.here m3 q3.2 rfl⟩)
      | ref b =>
        cases (show v = .ref b from r3)
        have q3' : (match L3 b with
          | some (.lst ds) => k (.fls (cutD ds l u)) L3
          | _ => False) := q3
        cases q : L3 b with
        | none => rw [q] at q3'; exact q3'.elim
        | some o =>
          rw [q] at q3'
          cases o with
          | lst ds =>
            obtain ⟨xs, z, r⟩ := m3 b _ q
            exact .inr (.inr ⟨b, xs, rfl, .of z, fun b o hb => new_fls m3 p3 (r.cut l u) q3' hb⟩)
          | ins C fs => exact q3'.elim
      | _ => exact q3.elim⟩⟩
/-- xs[::-1], frozen -/
def rRev (t : DE) : DE := fun δ L k => t δ L fun x L1 => match x with
  | .fls ds => k (.fls ds.reverse) L1
  | .ref p => (match L1 p with
    | some (.lst ds) => k (.fls ds.reverse) L1
    | _ => False)
  | _ => False
theorem e_rev {k : Nat} {p1 p3 : Pos} (he : PE X e (lE X.K te)) : PE X (.Subscript e (.Slice none none (some (.UnaryOp .USub (.Constant (.int 1) k p1) p2)) p3) pos) (lE X.K (rRev te)) :=
  (frz_of (pe_revL he)).mono fun σ H Q ⟨δ, L, k, rs, rm, t, p⟩ => lE_bind rs rm t fun x L1 v H1 q1 r1 m1 rs1 x1 s1 => by
    cases x with
    | fls ds =>
      obtain ⟨a, xs, rfl, z, r⟩ := r1
      exact ⟨a, xs, rfl, z.seq, fun b hb => new_frz m1 (p.after x1) r.reverse q1 hb⟩
    | ref b =>
      cases (show v = .ref b from r1)
      have q1' : (match L1 b with
        | some (.lst ds) => k (.fls ds.reverse) L1
        | _ => False) := q1
      cases q : L1 b with
      | none => rw [q] at q1'; exact q1'.elim
      | some o =>
        rw [q] at q1'
        cases o with
        | lst ds =>
          obtain ⟨xs, z, r⟩ := m1 b _ q
          exact ⟨b, xs, rfl, .of z, fun b hb => new_frz m1 (p.after x1) r.reverse q1' hb⟩
        | ins C fs => exact q1'.elim
    | _ => exact q1.elim
end

/-! ### calls of built-ins -/
abbrev DF := List D → MH → KD → Prop
/-- the built-in's rule serves f -/
def RefA (K : PySem.W.Frag) (f : DF) (r : List V → Hp → VK → Prop) : Prop := ∀ (H : Hp) (L : MH) (vs : List V) (ds : List D) (k : KD) (Q : VK), RepL K H ds vs → RepM K H L → f ds L k → PostE K L H k Q → r vs H Q
def rB (f : DF) (ts : List DE) : DE := fun δ L k => rArgs ts δ L fun ds L1 => f ds L1 k
/-- a built-in's rule, hidden -/
structure BltD (X : Cx) (v : Value) (f : DF) : Prop where
  ex : ∃ r, CallR X v r ∧ RefA X.K f r
section
variable {X : Cx} {x : Str} {p pos : Pos} {e : Expr} {es : List Expr} {ts : List DE} {id T : String} {f : DF}
theorem e_blt (b : BltD X (.builtin id) f) (ha : PAD X (e :: es) ts) (hm : X.mg x = none) (hg : Gl X x := by rfl) (hv : bootBuiltins x = some (.builtin id) := by decide +kernel) (hn : x ≠ "__name__" := by decide) (hdb : (x == ("__debug__" : Str)) = false := by decide)
    (he : starEach (e :: es) X.env = (false, eval e X.env) :: starEach es X.env := by rfl) (hpl : (backTo pos (starEach es X.env)).any (·.1) = false := by rfl) : PE X (.Call (.Name x p) (e :: es) [] pos) (lE X.K (rB f ts)) := by
  obtain ⟨r, h1, h2⟩ := b.ex
  exact (pe_callB h1 hg hm hv ha hn hdb he hpl).mono fun σ H Q h => lE_args h fun ds L' vs H' k q _ r m p => h2 H' L' vs ds k Q r m q p
theorem e_bty (b : BltD X (.type T) f) (ha : PAD X (e :: es) ts) (hm : X.mg x = none) (hg : Gl X x := by rfl) (hv : bootBuiltins x = some (.type T) := by decide +kernel) (hn : x ≠ "__name__" := by decide) (hdb : (x == ("__debug__" : Str)) = false := by decide)
    (he : starEach (e :: es) X.env = (false, eval e X.env) :: starEach es X.env := by rfl) (hpl : (backTo pos (starEach es X.env)).any (·.1) = false := by rfl) : PE X (.Call (.Name x p) (e :: es) [] pos) (lE X.K (rB f ts)) := by
  obtain ⟨r, h1, h2⟩ := b.ex
  exact (pe_callTy h1 hg hm hv ha hn hdb he hpl).mono fun σ H Q h => lE_args h fun ds L' vs H' k q _ r m p => h2 H' L' vs ds k Q r m q p
end
def bLen : DF := fun ds L k => match ds with
  | [.str s] => s.length ≤ sizeLine ∧ k (.int s.length) L
  | [.tup xs] => k (.int xs.length) L
  | [.fls xs] => k (.int xs.length) L
  | [.scr xs] => k (.int xs.length) L
  | [.ref p] => (match L p with
    | some (.lst xs) => k (.int xs.length) L
    | _ => False)
  | _ => False
def bInt : DF := fun ds L k => match ds with
  | [.int i] => k (.int i) L
  | [.bl b] => k (.int (if b then 1 else 0)) L
  | [.str s] => s.length ≤ 640 ∧ (match PySem.intText? s with
    | some n => k (.int n) L
    | none => False)
  | _ => False
def bStr : DF := fun ds L k => match ds with
  | [.int i] => i.natAbs.log2 < 1920 ∧ k (.str (toString i)) L
  | _ => False
def bOrd : DF := fun ds L k => match ds with
  | [.str s] => s.length = 1 ∧ k (.int (s.cps.getD 0 0 : Nat)) L
  | _ => False
def bMax : DF := fun ds L k => match ds with
  | [.int i, .int j] => k (.int (if j > i then j else i)) L
  | _ => False
def bMin : DF := fun ds L k => match ds with
  | [.int i, .int j] => k (.int (if j < i then j else i)) L
  | _ => False
/-- tuple(x) -/
def bTup : DF := fun ds L k => match ds with
  | [.tup xs] => k (.tup xs) L
  | [.fls xs] => k (.tup xs) L
  | [.ref p] => (match L p with
    | some (.lst xs) => k (.tup xs) L
    | _ => False)
  | _ => False
/-- list(x), to be written -/
def bLst : DF := fun ds L k => match ds with
  | [.tup xs] => ∀ p, L p = none → k (.ref p) (updM L p (.lst xs))
  | [.fls xs] => ∀ p, L p = none → k (.ref p) (updM L p (.lst xs))
  | [.ref p] => (match L p with
    | some (.lst xs) => ∀ p, L p = none → k (.ref p) (updM L p (.lst xs))
    | _ => False)
  | _ => False
/-- list(x), frozen -/
def bFls : DF := fun ds L k => match ds with
  | [.tup xs] => k (.fls xs) L
  | [.fls xs] => k (.fls xs) L
  | [.ref p] => (match L p with
    | some (.lst xs) => k (.fls xs) L
    | _ => False)
  | _ => False
def D.ints : List D → Option (List Int)
  | [] => some []
  | .int i :: r => (D.ints r).map (i :: ·)
  | _ => none
def D.bls : List D → Option (List Bool)
  | [] => some []
  | .bl i :: r => (D.bls r).map (i :: ·)
  | _ => none
theorem D.ints_eq : ∀ {ds : List D} {ns : List Int}, D.ints ds = some ns → ds = ns.map D.int
  | [], ns, h => by cases h; rfl
  | .int i :: r, ns, h => by
    have h' : (D.ints r).map (i :: ·) = some ns := h
    cases q : D.ints r with
    | none => rw [q] at h'; cases h'
    | some ms =>
      rw [q] at h'
      cases h'
      rw [D.ints_eq q]
      rfl
theorem D.bls_eq : ∀ {ds : List D} {ns : List Bool}, D.bls ds = some ns → ds = ns.map D.bl
  | [], ns, h => by cases h; rfl
  | .bl i :: r, ns, h => by
    have h' : (D.bls r).map (i :: ·) = some ns := h
    cases q : D.bls r with
    | none => rw [q] at h'; cases h'
    | some ms =>
      rw [q] at h'
      cases h'
      rw [D.bls_eq q]
      rfl
theorem D.ints_map : ∀ ns : List Int, D.ints (ns.map D.int) = some ns
  | [] => rfl
  | n :: ns => by simp only [List.map_cons, D.ints, D.ints_map ns, Option.map_some]
theorem D.bls_map : ∀ ns : List Bool, D.bls (ns.map D.bl) = some ns
  | [] => rfl
  | n :: ns => by simp only [List.map_cons, D.bls, D.bls_map ns, Option.map_some]
def bSum : DF := fun ds L k => match ds with
  | [.fls xs] => (match D.ints xs with
    | some ns => k (.int ns.sum) L
    | none => False)
  | _ => False
def bAny : DF := fun ds L k => match ds with
  | [.fls xs] => (match D.bls xs with
    | some ns => k (.bl (ns.any id)) L
    | none => False)
  | _ => False
def bAll : DF := fun ds L k => match ds with
  | [.fls xs] => (match D.bls xs with
    | some ns => k (.bl (ns.all id)) L
    | none => False)
  | _ => False
/-- isinstance(x, a built-in class) -/
def tyName : D → MH → Option String
  | .non, _ => some "NoneType"
  | .bl _, _ => some "bool"
  | .int _, _ => some "int"
  | .str _, _ => some "str"
  | .tup _, _ => some "tuple"
  | .fls _, _ => some "list"
  | .ref p, L => (match L p with
    | some (.lst _) => some "list"
    | _ => none)
  | _, _ => none
def kitN (a b : String) : Option Bool := if a = b then some true else match a, b with
  | "bool", "int" => some true
  | "bool", "str" => some false | "bool", "tuple" => some false | "bool", "list" => some false
  | "int", "bool" => some false | "int", "str" => some false | "int", "tuple" => some false | "int", "list" => some false
  | "str", "bool" => some false | "str", "int" => some false | "str", "tuple" => some false | "str", "list" => some false
  | "tuple", "bool" => some false | "tuple", "int" => some false | "tuple", "str" => some false | "tuple", "list" => some false
  | "list", "bool" => some false | "list", "int" => some false | "list", "str" => some false | "list", "tuple" => some false
  | "NoneType", "bool" => some false | "NoneType", "int" => some false | "NoneType", "str" => some false | "NoneType", "tuple" => some false | "NoneType", "list" => some false
  | _, _ => none
def bIsi : DF := fun ds L k => match ds with
  | [x, .ty n] => (match tyName x L with
    | some a => (match kitN a n with
      | some b => k (.bl b) L
      | none => False)
    | none => False)
  | _ => False
theorem kitN_ok {a b : String} {r : Bool} (h : kitN a b = some r) : kitB a b = some r := by
  unfold kitN at h
  split at h
  · rename_i e
    cases h
    subst e
    unfold kitB
    rw [if_pos (by simp)]
  · split at h <;> first | (cases h; decide +kernel) | cases h
section
variable {K : PySem.W.Frag} {X : Cx}
theorem L_lst {H : Hp} {L : MH} {b : Addr} {C : List D → Prop} (rm : RepM K H L) (h : match L b with
    | some (.lst ds) => C ds
    | _ => False) : ∃ ds xs, H b = some (.lst xs) ∧ RepL K H ds xs ∧ C ds ∧ L b = some (.lst ds) := by
  cases q : L b with
  | none => rw [q] at h; exact h.elim
  | some o =>
    rw [q] at h
    cases o with
    | lst ds =>
      obtain ⟨xs, q1, r⟩ := rm b _ q
      exact ⟨ds, xs, q1, r, h, rfl⟩
    | ins C fs => exact h.elim
theorem one_of {H : Hp} {d : D} {vs : List V} (r : RepL K H [d] vs) : ∃ v, vs = [v] ∧ Rep K H d v := by
  obtain ⟨v, r', rfl, q, t⟩ := r
  cases (show r' = [] from t)
  exact ⟨v, rfl, q⟩
theorem two_of {H : Hp} {d e : D} {vs : List V} (r : RepL K H [d, e] vs) : ∃ v w, vs = [v, w] ∧ Rep K H d v ∧ Rep K H e w := by
  obtain ⟨v, r', rfl, q, t⟩ := r
  obtain ⟨w, rfl, q2⟩ := one_of t
  exact ⟨v, w, rfl, q, q2⟩
theorem b_len : BltD X (.builtin "len") bLen := ⟨_, call_len, fun H L vs ds k Q r rm h p => by
  unfold bLen at h
  split at h
  · obtain ⟨v, rfl, q⟩ := one_of r
    cases q
    exact ⟨_, _, rfl, ⟨h.1, rfl⟩, p.here rm h.2 rfl⟩
  · obtain ⟨v, rfl, a, xs, rfl, q, u⟩ := one_of r
    exact ⟨_, _, rfl, .inr ⟨xs, q, rfl⟩, p.here rm h (by show V.int _ = V.int _; rw [u.length])⟩
  · obtain ⟨v, rfl, a, xs, rfl, q, u⟩ := one_of r
    exact ⟨_, _, rfl, .inl ⟨xs, q.seq, rfl⟩, p.here rm h (by show V.int _ = V.int _; rw [u.length])⟩
  · obtain ⟨v, rfl, a, rfl, q⟩ := one_of r
    exact ⟨_, _, rfl, .inl ⟨_, q.seq, rfl⟩, p.here rm h (by show V.int _ = V.int _; rw [List.length_map])⟩
  · obtain ⟨v, rfl, q⟩ := one_of r
    cases q
    obtain ⟨ds, xs, q, u, h, _⟩ := L_lst rm h
    exact ⟨_, _, rfl, .inl ⟨xs, .of q, rfl⟩, p.here rm h (by show V.int _ = V.int _; rw [u.length])⟩
  · exact h.elim⟩
theorem b_int : BltD X (.type "int") bInt := ⟨_, call_int1.or call_int_str, fun H L vs ds k Q r rm h p => by
  unfold bInt at h
  split at h
  · obtain ⟨v, rfl, q⟩ := one_of r
    cases q
    exact .inl (.inl ⟨_, rfl, p.here rm h rfl⟩)
  · obtain ⟨v, rfl, q⟩ := one_of r
    cases q
    exact .inl (.inr ⟨_, rfl, p.here rm h rfl⟩)
  · obtain ⟨v, rfl, q⟩ := one_of r
    cases q
    obtain ⟨h1, h2⟩ := h
    split at h2
    · rename_i n e
      exact .inr ⟨_, n, rfl, e, h1, p.here rm h2 rfl⟩
    · exact h2.elim
  · exact h.elim⟩
theorem b_str : BltD X (.type "str") bStr := ⟨_, call_str_int, fun H L vs ds k Q r rm h p => by
  unfold bStr at h
  split at h
  · obtain ⟨v, rfl, q⟩ := one_of r
    cases q
    exact ⟨_, rfl, h.1, p.here rm h.2 rfl⟩
  · exact h.elim⟩
theorem b_ord : BltD X (.builtin "ord") bOrd := ⟨_, call_ord, fun H L vs ds k Q r rm h p => by
  unfold bOrd at h
  split at h
  · obtain ⟨v, rfl, q⟩ := one_of r
    cases q
    exact ⟨_, rfl, h.1, p.here rm h.2 rfl⟩
  · exact h.elim⟩
theorem b_max (hc : X.calm = true := by rfl) : BltD X (.builtin "max") bMax := ⟨_, call_max2 hc, fun H L vs ds k Q r rm h p => by
  unfold bMax at h
  split at h
  · obtain ⟨v, w, rfl, q, q'⟩ := two_of r
    cases q
    cases q'
    exact ⟨_, _, rfl, p.here rm h rfl⟩
  · exact h.elim⟩
theorem b_min (hc : X.calm = true := by rfl) : BltD X (.builtin "min") bMin := ⟨_, call_min2 hc, fun H L vs ds k Q r rm h p => by
  unfold bMin at h
  split at h
  · obtain ⟨v, w, rfl, q, q'⟩ := two_of r
    cases q
    cases q'
    exact ⟨_, _, rfl, p.here rm h rfl⟩
  · exact h.elim⟩
theorem b_tup : BltD X (.type "tuple") bTup := ⟨_, call_tuple_of, fun H L vs ds k Q r rm h p => by
  unfold bTup at h
  split at h
  · obtain ⟨v, rfl, a, xs, rfl, q, u⟩ := one_of r
    exact ⟨a, xs, rfl, .inr ⟨q, p.here rm h ⟨a, xs, rfl, q, u⟩⟩⟩
  · obtain ⟨v, rfl, a, xs, rfl, q, u⟩ := one_of r
    exact ⟨a, xs, rfl, .inl ⟨q.seq, fun b hb => new_tup rm p u h hb⟩⟩
  · obtain ⟨v, rfl, q⟩ := one_of r
    cases q
    obtain ⟨ds, xs, q, u, h, _⟩ := L_lst rm h
    exact ⟨_, xs, rfl, .inl ⟨.of q, fun b hb => new_tup rm p u h hb⟩⟩
  · exact h.elim⟩
theorem b_lst : BltD X (.type "list") bLst := ⟨_, call_list_of, fun H L vs ds k Q r rm h p => by
  unfold bLst at h
  split at h
  · obtain ⟨v, rfl, a, xs, rfl, q, u⟩ := one_of r
    exact ⟨a, xs, rfl, .inr q, fun b hb => new_lst rm p u h hb⟩
  · obtain ⟨v, rfl, a, xs, rfl, q, u⟩ := one_of r
    exact ⟨a, xs, rfl, .inl q.seq, fun b hb => new_lst rm p u h hb⟩
  · obtain ⟨v, rfl, q⟩ := one_of r
    cases q
    obtain ⟨ds, xs, q, u, h, _⟩ := L_lst (C := fun xs => ∀ p, L p = none → k (.ref p) (updM L p (.lst xs))) rm h
    exact ⟨_, xs, rfl, .inl (.of q), fun b hb => new_lst rm p u h hb⟩
  · exact h.elim⟩
/-- a call's new list, frozen -/
theorem callR_frz {v : Value} {r : List V → Hp → VK → Prop} (h : CallR X v r) : CallR X v (fun vs H Q => r vs H fun w H1 => ∃ a xs, w = .ref a ∧ H1 a = some (.lst xs) ∧ ∀ o, Q w (upd H1 a (.frz o (.lst xs)))) := by
  intro pins s σ H xs us Q I r q
  refine thn (h pins s σ H xs us _ I r q) fun u s1 ⟨v, H1, I1, r1, a, xs, e, ha, q1⟩ => ?_
  obtain ⟨o, I2⟩ := Inv.freeze I1 ha
  exact ⟨v, _, I2, r1, q1 o⟩
theorem b_fls : BltD X (.type "list") bFls := ⟨_, callR_frz call_list_of, fun H L vs ds k Q r rm h p => by
  unfold bFls at h
  split at h
  · obtain ⟨v, rfl, a, xs, rfl, q, u⟩ := one_of r
    exact ⟨a, xs, rfl, .inr q, fun b hb => new_frz rm p u h hb⟩
  · obtain ⟨v, rfl, a, xs, rfl, q, u⟩ := one_of r
    exact ⟨a, xs, rfl, .inl q.seq, fun b hb => new_frz rm p u h hb⟩
  · obtain ⟨v, rfl, q⟩ := one_of r
    cases q
    obtain ⟨ds, xs, q, u, h, _⟩ := L_lst (C := fun xs => k (.fls xs) L) rm h
    exact ⟨_, xs, rfl, .inl (.of q), fun b hb => new_frz rm p u h hb⟩
  · exact h.elim⟩
theorem b_sum (hc : X.calm = true := by rfl) : BltD X (.builtin "sum") bSum := ⟨_, cr_sum hc, fun H L vs ds k Q r rm h p => by
  unfold bSum at h
  split at h
  · obtain ⟨v, rfl, a, xs, rfl, q, u⟩ := one_of r
    split at h
    · rename_i ns e
      rw [D.ints_eq e] at u
      have := u.ints
      subst this
      exact ⟨a, ns, rfl, q.seq, p.here rm h rfl⟩
    · exact h.elim
  · exact h.elim⟩
theorem b_any (hc : X.calm = true := by rfl) : BltD X (.builtin "any") bAny := ⟨_, cr_any hc, fun H L vs ds k Q r rm h p => by
  unfold bAny at h
  split at h
  · obtain ⟨v, rfl, a, xs, rfl, q, u⟩ := one_of r
    split at h
    · rename_i ns e
      rw [D.bls_eq e] at u
      have := u.bls
      subst this
      exact ⟨a, ns, rfl, q.seq, p.here rm h rfl⟩
    · exact h.elim
  · exact h.elim⟩
theorem b_all (hc : X.calm = true := by rfl) : BltD X (.builtin "all") bAll := ⟨_, cr_all hc, fun H L vs ds k Q r rm h p => by
  unfold bAll at h
  split at h
  · obtain ⟨v, rfl, a, xs, rfl, q, u⟩ := one_of r
    split at h
    · rename_i ns e
      rw [D.bls_eq e] at u
      have := u.bls
      subst this
      exact ⟨a, ns, rfl, q.seq, p.here rm h rfl⟩
    · exact h.elim
  · exact h.elim⟩
theorem ty_of {H : Hp} {L : MH} {x : D} {v : V} {a : String} (rm : RepM K H L) (r : Rep K H x v) (h : tyName x L = some a) : TyX K H v (.type a) := by
  cases x with
  | non => cases r; cases h; exact .base .non
  | bl b => cases r; cases h; exact .base (.bl b)
  | int b => cases r; cases h; exact .base (.int b)
  | str b => cases r; cases h; exact .base (.str b)
  | tup ds =>
    obtain ⟨p, xs, rfl, q, u⟩ := r
    cases h
    rcases q with (q | ⟨o, q⟩) | ⟨o, its, n, h1, h2, h3⟩
    · exact .base (.tup q)
    · exact .fTuple q
    · exact .kTuple h1 h2
  | fls ds =>
    obtain ⟨p, xs, rfl, ⟨o, q⟩, u⟩ := r
    cases h
    exact .base (.frz q)
  | ref p =>
    cases (show v = .ref p from r)
    have h' : (match L p with
      | some (.lst _) => some "list"
      | _ => none) = some a := h
    cases q : L p with
    | none => rw [q] at h'; cases h'
    | some o =>
      rw [q] at h'
      cases o with
      | lst ds =>
        cases h'
        obtain ⟨xs, q1, _⟩ := rm p _ q
        exact .base (.lst q1)
      | ins C fs => cases h'
  | _ => cases h
theorem b_isi : BltD X (.builtin "isinstance") bIsi := ⟨_, call_isi, fun H L vs ds k Q r rm h p => by
  unfold bIsi at h
  split at h
  · rename_i x n
    obtain ⟨v, w, rfl, q, q'⟩ := two_of r
    cases (show w = .ty n from q')
    split at h
    · rename_i a e
      split at h
      · rename_i b e2
        exact ⟨v, .ty n, .type a, .type n, b, rfl, .ty n, ty_of rm q e, kit_ty (kitN_ok e2), p.here rm h rfl⟩
      · exact h.elim
    · exact h.elim
  · exact h.elim⟩
/-- a built-in class as a value -/
theorem e_type {x : Str} {n : String} {pos : Pos} (hm : X.mg x = none) (hg : Gl X x := by rfl) (hv : bootBuiltins x = some (.type n) := by decide +kernel) (hn : x ≠ "__name__" := by decide) (hd : (x == ("__debug__" : Str)) = false := by decide) : PE X (.Name x pos) (lE X.K (rC (.ty n))) :=
  e_const (pe_bltn hg hm hv (v := .ty n) rfl hn hd) fun _ => rfl
end
end DL

/-! DL, part s: sorted of ints and of pairs of ints. -/
namespace DL
open PySem PySem.Spec PyProof.Rows L2

/-! ### insertion sort -/
section
variable {α : Type}
def insB (le : α → α → Bool) (x : α) : List α → List α
  | [] => [x]
  | y :: ys => if le x y then x :: y :: ys else y :: insB le x ys
def sortB (le : α → α → Bool) : List α → List α
  | [] => []
  | x :: xs => insB le x (sortB le xs)
theorem insB_perm (le : α → α → Bool) (x : α) : ∀ l : List α, (insB le x l).Perm (x :: l)
  | [] => .refl _
  | y :: ys => by
    unfold insB
    split
    · exact .refl _
    · exact ((insB_perm le x ys).cons y).trans (.swap x y ys)
theorem sortB_perm (le : α → α → Bool) : ∀ l : List α, (sortB le l).Perm l
  | [] => .refl _
  | x :: xs => (insB_perm le x _).trans ((sortB_perm le xs).cons x)
structure TotB (le : α → α → Bool) : Prop where
  tot : ∀ x y, le x y = true ∨ le y x = true
  tr : ∀ x y z, le x y = true → le y z = true → le x z = true
  anti : ∀ x y, le x y = true → le y x = true → x = y
theorem insB_srt {le : α → α → Bool} (T : TotB le) (x : α) : ∀ {l : List α}, l.Pairwise (fun a b => le a b = true) → (insB le x l).Pairwise (fun a b => le a b = true)
  | [], _ => .cons (fun _ h => nomatch h) .nil
  | y :: ys, h => by
    unfold insB
    obtain ⟨h1, h2⟩ := List.pairwise_cons.mp h
    split
    · rename_i e
      exact .cons (fun z hz => by
        rcases List.mem_cons.mp hz with e2 | e2
        · subst e2; exact e
        · exact T.tr x y z e (h1 z e2)) h
    · rename_i e
      refine .cons (fun z hz => ?_) (insB_srt T x h2)
      rcases List.mem_cons.mp ((insB_perm le x ys).mem_iff.mp hz) with e2 | e2
      · subst e2
        rcases T.tot z y with q | q
        · exact absurd q e
        · exact q
      · exact h1 z e2
theorem sortB_srt {le : α → α → Bool} (T : TotB le) : ∀ l : List α, (sortB le l).Pairwise (fun a b => le a b = true)
  | [] => .nil
  | x :: xs => insB_srt T x (sortB_srt T xs)
theorem srt_uniq {le : α → α → Bool} (T : TotB le) : ∀ {l m : List α}, l.Pairwise (fun a b => le a b = true) → m.Pairwise (fun a b => le a b = true) → l.Perm m → l = m
  | [], m, _, _, p => (List.Perm.eq_nil p.symm).symm
  | x :: l, [], _, _, p => absurd p.length_eq (by simp)
  | x :: l, y :: m, hl, hm, p => by
    have e : x = y := by
      have a : le x y = true := by
        rcases List.mem_cons.mp (p.mem_iff.mpr (List.mem_cons_self (a := y) (l := m))) with e | h
        · subst e; rcases T.tot y y with q | q <;> exact q
        · exact (List.pairwise_cons.mp hl).1 y h
      have b : le y x = true := by
        rcases List.mem_cons.mp (p.mem_iff.mp (List.mem_cons_self (a := x) (l := l))) with e | h
        · subst e; rcases T.tot x x with q | q <;> exact q
        · exact (List.pairwise_cons.mp hm).1 x h
      exact T.anti x y a b
    subst e
    rw [srt_uniq T (List.pairwise_cons.mp hl).2 (List.pairwise_cons.mp hm).2 p.cons_inv]
theorem sortB_eq {le : α → α → Bool} (T : TotB le) {l m : List α} (s : l.Pairwise (fun a b => le a b = true)) (p : l.Perm m) : l = sortB le m := srt_uniq T s (sortB_srt T m) (p.trans (sortB_perm le m).symm)
end
def leI (a b : Int) : Bool := decide (a ≤ b)
def leP (a b : Int × Int) : Bool := !SrtO.lexB b a
theorem totI : TotB leI := ⟨fun x y => by simp only [leI, decide_eq_true_eq]; omega, fun x y z h1 h2 => by simp only [leI, decide_eq_true_eq] at *; omega, fun x y h1 h2 => by simp only [leI, decide_eq_true_eq] at *; omega⟩
theorem leP_iff {a b : Int × Int} : leP a b = true ↔ a.1 < b.1 ∨ (a.1 = b.1 ∧ a.2 ≤ b.2) := by
  unfold leP
  rw [Bool.not_eq_true', SrtO.lexB_no]
  omega
theorem totP : TotB leP := ⟨fun x y => by rw [leP_iff, leP_iff]; omega, fun x y z h1 h2 => by rw [leP_iff] at *; omega, fun x y h1 h2 => by
  rw [leP_iff] at *
  exact Prod.ext (by omega) (by omega)⟩
def sortI (l : List Int) : List Int := sortB leI l
def sortP (l : List (Int × Int)) : List (Int × Int) := sortB leP l
/-- a pair of ints as data -/
def encP (p : Int × Int) : D := .tup [.int p.1, .int p.2]
def D.prss : List D → Option (List (Int × Int))
  | [] => some []
  | .tup [.int a, .int b] :: r => (D.prss r).map ((a, b) :: ·)
  | _ => none
theorem D.prss_map : ∀ ps : List (Int × Int), D.prss (ps.map encP) = some ps
  | [] => rfl
  | p :: ps => by
    show (D.prss (ps.map encP)).map ((p.1, p.2) :: ·) = some (p :: ps)
    rw [D.prss_map ps]
    rfl
theorem D.prss_eq : ∀ {ds : List D} {ps : List (Int × Int)}, D.prss ds = some ps → ds = ps.map encP
  | [], ps, h => by cases h; rfl
  | d :: r, ps, h => by
    unfold D.prss at h
    split at h
    · rename_i e; cases e
    · rename_i a b r' e
      cases e
      cases q : D.prss r with
      | none => rw [q] at h; cases h
      | some qs =>
        rw [q] at h
        cases h
        rw [D.prss_eq q]
        rfl
    · cases h
def bSrt : DF := fun ds L k => match ds with
  | [.fls xs] => (match D.ints xs with
    | some ns => k (.fls ((sortI ns).map D.int)) L
    | none => (match D.prss xs with
      | some ps => k (.fls ((sortP ps).map encP)) L
      | none => False))
  | _ => False
/-- sorted(xs), xs a list of pairs of ints that may be the module's own -/
def rSortedPT (K : PySem.W.Frag) : List V → Hp → VK → Prop := fun vs H Q => ∃ (a : Addr) (xs : List V) (k : V → Int × Int), vs = [V.ref a] ∧ SqL K H a xs ∧ (∀ x ∈ xs, ∃ t, x = V.ref t ∧ SqT K H t [.int (k x).1, .int (k x).2]) ∧
  ∀ ys p, SrtO.Srtd (ltP k) ys → SrtO.Stb (ltP k) ys xs → H p = none → Q (.ref p) (upd H p (.lst ys))
section
variable {X : Cx}
theorem cr_sortedPT : CallR X (.builtin "sorted") (rSortedPT X.K) := by
  intro pins s σ H vs us Q I r h
  obtain ⟨a, xs, k, rfl, hs, hx, q⟩ := h
  obtain ⟨its, rv, hl, hz⟩ := I.list hs
  obtain ⟨u, rfl, ru⟩ := vals1 r
  obtain rfl : u = Value.ref a := ru
  obtain ⟨e1, e2⟩ := refs_back rv fun x m => by
    obtain ⟨t, e, _⟩ := hx x m
    exact ⟨t, e⟩
  refine SrtO.sorted_pairsO (k := fun u => k (backV u)) hl.isList (by rw [← rv.length]; exact hz) (fun v hv => ?_) fun h' d out h1 h2 kp hd hn => ?_
  · obtain ⟨t, rfl⟩ := e2 v hv
    have hm : V.ref t ∈ xs := by rw [e1]; exact List.mem_map.mpr ⟨_, hv, rfl⟩
    obtain ⟨t', e, ht⟩ := hx _ hm
    cases e
    obtain ⟨its2, r2, ⟨o, ho, hc, n, hd⟩, _⟩ := I.tuple ht
    obtain ⟨u1, u2, rfl, ri, rj⟩ := vals2 r2
    obtain ⟨t1, rfl⟩ := ri
    obtain ⟨t2, rfl⟩ := rj
    exact ⟨t, o, t1, t2, n, rfl, ho, hc, hd⟩
  · have h3 : ∀ u ∈ out, ∃ a, u = Value.ref a := fun u hu => e2 u (h2.perm.mem_iff.mp hu)
    obtain ⟨n, hn⟩ := hn
    have hb : SrtO.Stb (ltP k) (out.map backV) xs := by
      rw [e1]
      exact SrtO.Stb.map (ltP_swo k) backV h2
    refine ⟨.ref d, upd H d (.lst (out.map backV)), I.laid (t' := s.toks) kp hd ⟨?_, out, n, vals_back h3, hn⟩, rfl, q _ d (SrtO.srtd_map h1) hb (I.hok.fresh hd)⟩
    rw [hb.len]
    exact hz
/-- what a value stands for, as a pair -/
noncomputable def pairOf (K : PySem.W.Frag) (H : Hp) (v : V) : Int × Int := by
  classical exact if h : ∃ p : Int × Int, Rep K H (encP p) v then h.choose else (0, 0)
theorem pairs_rep {K : PySem.W.Frag} {H : Hp} {f : V → Int × Int} : ∀ {ys : List V}, (∀ y ∈ ys, Rep K H (encP (f y)) y) → RepL K H ((ys.map f).map encP) ys
  | [], _ => rfl
  | y :: ys, h => .cons (h y List.mem_cons_self) (pairs_rep fun z hz => h z (List.mem_cons_of_mem _ hz))
theorem pairs_mem {K : PySem.W.Frag} {H : Hp} : ∀ {ps : List (Int × Int)} {xs : List V}, RepL K H (ps.map encP) xs → ∀ x ∈ xs, ∃ p, Rep K H (encP p) x
  | [], xs, r, x, hx => by
    cases (show xs = [] from r)
    cases hx
  | p :: ps, xs, r, x, hx => by
    obtain ⟨v, t, rfl, q, u⟩ := r
    rcases List.mem_cons.mp hx with e | e
    · subst e; exact ⟨p, q⟩
    · exact pairs_mem u x e
theorem pairs_map {K : PySem.W.Frag} {H : Hp} {f : V → Int × Int} : ∀ {ps : List (Int × Int)} {xs : List V}, RepL K H (ps.map encP) xs → (∀ x p, Rep K H (encP p) x → f x = p) → xs.map f = ps
  | [], xs, r, h => by
    cases (show xs = [] from r)
    rfl
  | p :: ps, xs, r, h => by
    obtain ⟨v, t, rfl, q, u⟩ := r
    rw [List.map_cons, h v p q, pairs_map u h]
theorem b_srt : BltD X (.builtin "sorted") bSrt := by
  refine ⟨fun vs H Q => ∃ (a : Addr) (xs : List V), vs = [.ref a] ∧ StL H a xs ∧ ((∃ ns, xs = ns.map V.int ∧ ∀ p o, H p = none → Q (.ref p) (upd H p (.frz o (.lst ((sortI ns).map V.int))))) ∨
    ∃ ps : List (Int × Int), RepL X.K H (ps.map encP) xs ∧ ∀ p o ys, H p = none → RepL X.K H ((sortP ps).map encP) ys → Q (.ref p) (upd H p (.frz o (.lst ys)))), ?_, fun H L vs ds k Q r rm h p => ?_⟩
  · intro pins s σ H vs us Q I r h
    obtain ⟨a, xs, rfl, hs, h | h⟩ := h
    · obtain ⟨ns, rfl, q⟩ := h
      refine thn (cr_sortedI pins s σ H _ us (fun v H1 => ∃ p, v = .ref p ∧ H p = none ∧ H1 = upd H p (.lst ((sortI ns).map V.int))) I r ⟨a, ns, rfl, hs.seq, fun ns' p h1 h2 h3 => ⟨p, rfl, h3, ?_⟩⟩) fun u s1 ⟨v, H1, I1, r1, p, e1, hp, e2⟩ => ?_
      · have e : ns' = sortI ns := sortB_eq totI (h2.imp fun {x y} h => by simpa [leI] using h) h1
        rw [e]
      · subst e1 e2
        obtain ⟨o, I2⟩ := Inv.freeze I1 (a := p) upd_same
        rw [upd_upd] at I2
        exact ⟨.ref p, _, I2, r1, q p o hp⟩
    · obtain ⟨ps, r2, q⟩ := h
      have fe : ∀ x p, Rep X.K H (encP p) x → pairOf X.K H x = p := fun x p hp => by
        have ex : ∃ p : Int × Int, Rep X.K H (encP p) x := ⟨p, hp⟩
        have e1 : pairOf X.K H x = ex.choose := by unfold pairOf; rw [dif_pos ex]
        rw [e1]
        have h2 := ex.choose_spec
        generalize ex.choose = p' at h2
        obtain ⟨a1, xs1, rfl, q1, u1⟩ := hp
        obtain ⟨a2, xs2, e, q2, u2⟩ := h2
        cases e
        have e3 := I.tuple_inj q1 q2
        subst e3
        obtain ⟨v1, v2, rfl, w1, w2⟩ := two_of u1
        obtain ⟨v3, v4, e4, w3, w4⟩ := two_of u2
        cases e4
        have a1 : V.int p'.1 = V.int p.1 := (show v1 = .int p'.1 from w3).symm.trans w1
        have a2 : V.int p'.2 = V.int p.2 := (show v2 = .int p'.2 from w4).symm.trans w2
        injection a1 with a1
        injection a2 with a2
        exact Prod.ext a1 a2
      have hx : ∀ x ∈ xs, Rep X.K H (encP (pairOf X.K H x)) x := fun x hx => by
        obtain ⟨p, hp⟩ := pairs_mem r2 x hx
        rw [fe x p hp]
        exact hp
      refine thn (cr_sortedPT pins s σ H _ us (fun v H1 => ∃ p ys, v = .ref p ∧ H p = none ∧ H1 = upd H p (.lst ys) ∧ RepL X.K H ((sortP ps).map encP) ys) I r ⟨a, xs, pairOf X.K H, rfl, hs.seq, fun x m => ?_, fun ys p h1 h2 h3 => ⟨p, ys, rfl, h3, rfl, ?_⟩⟩) fun u s1 ⟨v, H1, I1, r1, p, ys, e1, hp, e2, r3⟩ => ?_
      · obtain ⟨t, zs, e, qt, ut⟩ := hx x m
        obtain ⟨v1, v2, rfl, w1, w2⟩ := two_of ut
        cases w1
        cases w2
        exact ⟨t, e, qt⟩
      · have hy : ∀ y ∈ ys, Rep X.K H (encP (pairOf X.K H y)) y := fun y hy => hx y (h2.perm.mem_iff.mp hy)
        have e : ys.map (pairOf X.K H) = sortP ps := by
          refine sortB_eq totP ?_ ?_
          · rw [List.pairwise_map]
            refine h1.imp fun {x y} h => ?_
            have h' : SrtO.lexB (pairOf X.K H y) (pairOf X.K H x) = false := h
            show (!SrtO.lexB (pairOf X.K H y) (pairOf X.K H x)) = true
            rw [h']
            rfl
          · have p1 := h2.perm.map (pairOf X.K H)
            rw [pairs_map r2 fe] at p1
            exact p1
        rw [← e]
        exact pairs_rep hy
      · subst e1 e2
        obtain ⟨o, I2⟩ := Inv.freeze I1 (a := p) upd_same
        rw [upd_upd] at I2
        exact ⟨.ref p, _, I2, r1, q p o ys hp r3⟩
  · unfold bSrt at h
    split at h
    · obtain ⟨v, rfl, a, xs, rfl, q, u⟩ := one_of r
      split at h
      · rename_i ns e
        rw [D.ints_eq e] at u
        have := u.ints
        subst this
        exact ⟨a, _, rfl, q, .inl ⟨ns, rfl, fun b o hb => new_fls rm p (.of_ints _) h hb⟩⟩
      · split at h
        · rename_i ps e
          rw [D.prss_eq e] at u
          exact ⟨a, xs, rfl, q, .inr ⟨ps, u, fun b o ys hb r3 => new_fls rm p r3 h hb⟩⟩
        · exact h.elim
    · exact h.elim
end
end DL

/-! DL, part e: methods, attributes, targets, statements, loops, comprehensions. -/
namespace DL
open PySem PySem.Spec PyProof.Rows L2

/-! ### methods of built-in types -/
abbrev DM := D → List D → MH → KD → Prop
def RefM (K : PySem.W.Frag) (f : DM) (r : V → List V → Hp → VK → Prop) : Prop := ∀ (H : Hp) (L : MH) (x : V) (dx : D) (vs : List V) (ds : List D) (k : KD) (Q : VK), Rep K H dx x → RepL K H ds vs → RepM K H L → f dx ds L k → PostE K L H k Q → r x vs H Q
def rM (T : String) (f : DM) (o : DE) (ts : List DE) : DE := fun δ L k => o δ L fun x L1 => tyName x L1 = some T ∧ rArgs ts δ L1 fun ds L2 => f x ds L2 k
structure MetD (X : Cx) (T : String) (name : Str) (f : DM) : Prop where
  ex : ∃ id r, PlainAttrs T ∧ Slot T name id ∧ typeOf (.builtin id) = pure (.type "method_descriptor") ∧ MtR X id r ∧ RefM X.K f r
theorem tyV_of {K : PySem.W.Frag} {H : Hp} {L : MH} {x : D} {v : V} {T : String} (rm : RepM K H L) (r : Rep K H x v) (h : tyName x L = some T) (hT : T = "list" ∨ T = "str") : tyV K T v H := by
  cases x with
  | str z => cases r; cases h; rfl
  | fls ds =>
    obtain ⟨a, xs, rfl, q, _⟩ := r
    cases h
    exact .inl ⟨rfl, xs, q.seq⟩
  | ref p =>
    cases (show v = .ref p from r)
    have h' : (match L p with
      | some (.lst _) => some "list"
      | _ => none) = some T := h
    cases q : L p with
    | none => rw [q] at h'; cases h'
    | some o =>
      rw [q] at h'
      cases o with
      | lst ds =>
        cases h'
        obtain ⟨xs, q1, _⟩ := rm p _ q
        exact .inl ⟨rfl, xs, .of q1⟩
      | ins C fs => cases h'
  | tup ds => have e : "tuple" = T := Option.some.inj h; subst e; rcases hT with h | h <;> exact absurd h (by decide)
  | non => have e : "NoneType" = T := Option.some.inj h; subst e; rcases hT with h | h <;> exact absurd h (by decide)
  | bl _ => have e : "bool" = T := Option.some.inj h; subst e; rcases hT with h | h <;> exact absurd h (by decide)
  | int _ => have e : "int" = T := Option.some.inj h; subst e; rcases hT with h | h <;> exact absurd h (by decide)
  | _ => cases h
section
variable {X : Cx} {o e : Expr} {es : List Expr} {to : DE} {ts : List DE} {name : Str} {apos cpos : Pos} {T : String} {f : DM}
theorem e_bm0 (m : MetD X T name f) (ho : PE X o (lE X.K to)) (hT : T = "list" ∨ T = "str" := by first | exact Or.inl rfl | exact Or.inr rfl) (hbase : attributeBase o name X.env (eval o X.env) = eval o X.env := by rfl) (hline : (apos.endLine == cpos.line) = true := by rfl) :
    PE X (.Call (.Attribute o name apos) [] [] cpos) (lE X.K (rM T f to [])) := by
  obtain ⟨id, r, h1, h2, h3, h4, h5⟩ := m.ex
  exact (pe_bm0 h1 h2 h3 h4 ho hbase hline).mono fun σ H Q ⟨δ, L, k, rs, rm, t, p⟩ => lE_bind rs rm t fun x L1 v H1 q1 r1 m1 rs1 x1 s1 => ⟨tyV_of m1 r1 q1.1 hT, h5 H1 L1 v x [] [] k Q r1 rfl m1 q1.2 (p.after x1)⟩
theorem e_bm (m : MetD X T name f) (ho : PE X o (lE X.K to)) (ha : PAD X (e :: es) ts) (hT : T = "list" ∨ T = "str" := by first | exact Or.inl rfl | exact Or.inr rfl) (hbase : attributeBase o name X.env (eval o X.env) = eval o X.env := by rfl)
    (hfew : ((backTo cpos (starEach (e :: es) X.env)).all (fun x => !x.1) && (backToKw cpos (keywordEach [] X.env)).all (fun x => x.1.isSome)
      && decide ((e :: es).length + ([] : List Keyword).length + (if ([] : List Keyword).isEmpty then 0 else 1) < 30)) = true := by rfl)
    (hline : (apos.endLine == cpos.line) = true := by rfl) (hs : starEach (e :: es) X.env = (false, eval e X.env) :: starEach es X.env := by rfl) (hplain : (backTo cpos (starEach es X.env)).any (·.1) = false := by rfl) :
    PE X (.Call (.Attribute o name apos) (e :: es) [] cpos) (lE X.K (rM T f to ts)) := by
  obtain ⟨id, r, h1, h2, h3, h4, h5⟩ := m.ex
  exact (pe_bm h1 h2 h3 h4 ho ha hbase hfew hline hs hplain).mono fun σ H Q ⟨δ, L, k, rs, rm, t, p⟩ => lE_bind rs rm t fun x L1 v H1 q1 r1 m1 rs1 x1 s1 =>
    ⟨tyV_of m1 r1 q1.1 hT, args_of rs1 m1 q1.2 fun ds L2 vs H2 q2 _ r2 m2 _ x2 s2 => h5 H2 L2 v x vs ds k Q (r1.mono s2) r2 m2 q2 (p.after (x1.trans x2))⟩
end
def mAppend : DM := fun x ds L k => match x, ds with
  | .ref p, [d] => (match L p with
    | some (.lst xs) => xs.length < sizeLine ∧ k .non (updM L p (.lst (xs ++ [d])))
    | _ => False)
  | _, _ => False
def mExtend : DM := fun x ds L k => match x, ds with
  | .ref p, [.fls ys] => (match L p with
    | some (.lst xs) => xs.length + ys.length ≤ sizeLine ∧ k .non (updM L p (.lst (xs ++ ys)))
    | _ => False)
  | _, _ => False
def mPop : DM := fun x ds L k => match x, ds with
  | .ref p, [] => (match L p with
    | some (.lst xs) => (match xs[xs.length - 1]? with
      | some d => k d (updM L p (.lst xs.dropLast))
      | none => False)
    | _ => False)
  | _, _ => False
def mReverse : DM := fun x ds L k => match x, ds with
  | .ref p, [] => (match L p with
    | some (.lst xs) => k .non (updM L p (.lst xs.reverse))
    | _ => False)
  | _, _ => False
/-- list.extend by a frozen list -/
theorem mt_extF {X : Cx} : MtM X "list.extend" (fun x vs H Q => ∃ l b xs zs, x = .ref l ∧ vs = [.ref b] ∧ H l = some (.lst xs) ∧ StL H b zs ∧ xs.length + zs.length ≤ sizeLine ∧ Q .non (upd H l (.lst (xs ++ zs)))) := by
  intro pins s σ H x vs v us Q I rx rv h
  obtain ⟨l, b, xs, zs, rfl, rfl, hH, ⟨o, hB⟩, hz, q⟩ := h
  cases rx
  obtain ⟨u, rfl, ru⟩ := rv.one
  cases ru
  obtain ⟨z, its, n, r, hl, e⟩ := I.lstM hH
  obtain ⟨_, z2, its2, n2, r2, e2⟩ := I.hok b _ hB
  have hl2 := r2.length
  have hsz : its.toArray.size + its2.toArray.size ≤ sizeLine := by rw [List.size_toArray, List.size_toArray]; omega
  have hlong : ¬ (!its.toArray.isEmpty && Builtin.List.listTooLong (its.toArray.size + its2.toArray.size)) = true := by
    rw [notLongL hsz, Bool.and_false]
    exact Bool.false_ne_true
  refine call_meets F.slot_list_extend ⟨_, e, rfl⟩ F.entry_list_extend (F.args_list_extend_2 _ _)
    (AutoSeq1.list_extend_list_list_0 l its.toArray n b its2.toArray n2 hlong (by rw [List.size_toArray]; omega) (by omega)) ⟨e, e2, ?_⟩
  refine ⟨.non, _, I.lset (its' := its ++ its2) hH e (by simp) (r.append r2) ?_, rfl, q⟩
  rw [List.length_append]
  omega
section
variable {K : PySem.W.Frag} {X : Cx}
theorem L_wr {H : Hp} {L : MH} {k : KD} {Q : VK} {p : Addr} {ds es : List D} {ys : List V} {v : V} {d : D} (rm : RepM K H L) (po : PostE K L H k Q) (hL : L p = some (.lst ds)) (r : RepL K H es ys) (h : k d (updM L p (.lst es))) (rv : Rep K H d v) : Q v (upd H p (.lst ys)) :=
  po _ _ h _ _ (rv.mono (stb_write rm hL)) (rm.write hL ⟨ys, upd_same, r.mono (stb_write rm hL)⟩) (.write hL)
theorem m_append : MetD X "list" "append" mAppend := ⟨_, _, F.plainAttrs_list, F.slot_list_append, F.type_list_append, mt_append, fun H L x dx vs ds k Q rx r rm h p => by
  unfold mAppend at h
  split at h
  · cases rx
    obtain ⟨v, rfl, q⟩ := one_of r
    obtain ⟨es, xs, h1, u, h, hL⟩ := L_lst rm h
    exact ⟨_, xs, v, rfl, rfl, h1, by rw [← u.length]; exact h.1, L_wr rm p hL (u.append (.cons q .nil)) h.2 rfl⟩
  · exact h.elim⟩
theorem m_extend : MetD X "list" "extend" mExtend := ⟨_, _, F.plainAttrs_list, F.slot_list_extend, F.type_list_extend, mt_extF, fun H L x dx vs ds k Q rx r rm h p => by
  unfold mExtend at h
  split at h
  · cases rx
    obtain ⟨v, rfl, b, ys, rfl, q, u2⟩ := one_of r
    obtain ⟨es, xs, h1, u, h, hL⟩ := L_lst rm h
    exact ⟨_, b, xs, ys, rfl, rfl, h1, q, by rw [← u.length, ← u2.length]; exact h.1, L_wr rm p hL (u.append u2) h.2 rfl⟩
  · exact h.elim⟩
theorem m_pop : MetD X "list" "pop" mPop := ⟨_, _, F.plainAttrs_list, F.slot_list_pop, F.type_list_pop, mt_pop, fun H L x dx vs ds k Q rx r rm h p => by
  unfold mPop at h
  split at h
  · cases rx
    cases (show vs = [] from r)
    obtain ⟨es, xs, h1, u, h, hL⟩ := L_lst rm h
    split at h
    · rename_i d e
      obtain ⟨v, e2, rv⟩ := u.get e
      exact ⟨_, xs, v, rfl, rfl, h1, by rw [← u.length]; exact e2, L_wr rm p hL u.dropLast h rv⟩
    · exact h.elim
  · exact h.elim⟩
theorem m_reverse : MetD X "list" "reverse" mReverse := ⟨_, _, F.plainAttrs_list, F.slot_list_reverse, F.type_list_reverse, mt_reverse, fun H L x dx vs ds k Q rx r rm h p => by
  unfold mReverse at h
  split at h
  · cases rx
    cases (show vs = [] from r)
    obtain ⟨es, xs, h1, u, h, hL⟩ := L_lst rm h
    exact ⟨_, xs, rfl, rfl, h1, L_wr rm p hL u.reverse h rfl⟩
  · exact h.elim⟩
def D.strs : List D → Option (List Str)
  | [] => some []
  | .str i :: r => (D.strs r).map (i :: ·)
  | _ => none
theorem D.strs_eq : ∀ {ds : List D} {ns : List Str}, D.strs ds = some ns → ds = ns.map D.str
  | [], ns, h => by cases h; rfl
  | .str i :: r, ns, h => by
    have h' : (D.strs r).map (i :: ·) = some ns := h
    cases q : D.strs r with
    | none => rw [q] at h'; cases h'
    | some ms =>
      rw [q] at h'
      cases h'
      rw [D.strs_eq q]
      rfl
theorem D.strs_map : ∀ ns : List Str, D.strs (ns.map D.str) = some ns
  | [] => rfl
  | n :: ns => by simp only [List.map_cons, D.strs, D.strs_map ns, Option.map_some]
def mJoin : DM := fun x ds L k => match x, ds with
  | .str a, [.fls ys] => (match D.strs ys with
    | some zs => (zs.map (·.length)).sum + zs.length * a.length ≤ 16777216 ∧ k (.str (Txt.join a zs)) L
    | none => False)
  | _, _ => False
def mLower : DM := fun x ds L k => match x, ds with
  | .str a, [] => a.length ≤ 5592405 ∧ k (.str (Txt.lower a)) L
  | _, _ => False
def mUpper : DM := fun x ds L k => match x, ds with
  | .str a, [] => a.length ≤ 5592405 ∧ k (.str (Txt.upper a)) L
  | _, _ => False
def mFind : DM := fun x ds L k => match x, ds with
  | .str a, [.str b] => k (.int (Txt.find a b)) L
  | _, _ => False
theorem m_join : MetD X "str" "join" mJoin := ⟨_, _, F.plainAttrs_str, F.slot_str_join, F.type_str_join, mt_join, fun H L x dx vs ds k Q rx r rm h p => by
  unfold mJoin at h
  split at h
  · cases rx
    obtain ⟨v, rfl, b, ys, rfl, q, u2⟩ := one_of r
    split at h
    · rename_i zs e
      rw [D.strs_eq e] at u2
      have := u2.strs
      subst this
      exact ⟨_, b, zs, rfl, rfl, .inl q.seq, h.1, p.here rm h.2 rfl⟩
    · exact h.elim
  · exact h.elim⟩
theorem m_lower : MetD X "str" "lower" mLower := ⟨_, _, F.plainAttrs_str, F.slot_str_lower, F.type_str_lower, mt_lower, fun H L x dx vs ds k Q rx r rm h p => by
  unfold mLower at h
  split at h
  · cases rx
    cases (show vs = [] from r)
    exact ⟨_, rfl, rfl, h.1, p.here rm h.2 rfl⟩
  · exact h.elim⟩
theorem m_upper : MetD X "str" "upper" mUpper := ⟨_, _, F.plainAttrs_str, F.slot_str_upper, F.type_str_upper, mt_upper, fun H L x dx vs ds k Q rx r rm h p => by
  unfold mUpper at h
  split at h
  · cases rx
    cases (show vs = [] from r)
    exact ⟨_, rfl, rfl, h.1, p.here rm h.2 rfl⟩
  · exact h.elim⟩
theorem m_find : MetD X "str" "find" mFind := ⟨_, _, F.plainAttrs_str, F.slot_str_find, F.type_str_find, mt_find, fun H L x dx vs ds k Q rx r rm h p => by
  unfold mFind at h
  split at h
  · cases rx
    obtain ⟨v, rfl, q⟩ := one_of r
    cases q
    exact ⟨_, _, rfl, rfl, p.here rm h rfl⟩
  · exact h.elim⟩
end

/-! ### attributes -/
def rF (C : Addr) (f : Str) (o : DE) : DE := fun δ L k => o δ L fun x L1 => match x with
  | .ref p => (match L1 p with
    | some (.ins C' fs) => C' = C ∧ (match fs.lookup f with
      | some d => k d L1
      | none => False)
    | _ => False)
  | _ => False
section
variable {K : PySem.W.Frag} {X : Cx} {o e : Expr} {to te : DE} {f : Str} {C : Addr} {pos pos' : Pos}
theorem L_ins {H : Hp} {L : MH} {b C : Addr} {R : List (Str × D) → Prop} (rm : RepM K H L) (h : match L b with
    | some (.ins C' fs) => C' = C ∧ R fs
    | _ => False) : ∃ fs dx gs, H b = some (.ins C dx gs) ∧ RepF K H fs gs ∧ R fs ∧ L b = some (.ins C fs) := by
  cases q : L b with
  | none => rw [q] at h; exact h.elim
  | some o =>
    rw [q] at h
    cases o with
    | lst ds => exact h.elim
    | ins C' fs =>
      obtain ⟨rfl, h⟩ := h
      obtain ⟨dx, gs, q1, r⟩ := rm b _ q
      exact ⟨fs, dx, gs, q1, r, h, rfl⟩
theorem e_fld (c : Cls X.K C) (n : NoAttr X.K C f) (ho : PE X o (lE X.K to)) (hb : attributeBase o f X.env (eval o X.env) = eval o X.env := by rfl) : PE X (.Attribute o f pos) (lE X.K (rF C f to)) :=
  (pe_fld ho hb).mono fun σ H Q ⟨δ, L, k, rs, rm, t, p⟩ => lE_bind rs rm t fun x L1 v H1 q1 r1 m1 rs1 x1 s1 => by
    cases x with
    | ref a =>
      cases (show v = .ref a from r1)
      obtain ⟨fs, dx, gs, h1, u, h, hL⟩ := L_ins (C := C) (R := fun fs => match fs.lookup f with
        | some d => k d L1
        | none => False) m1 q1
      cases e : fs.lookup f with
      | none => rw [e] at h; exact h.elim
      | some d =>
        rw [e] at h
        obtain ⟨w, e2, rw'⟩ := u.lookup e
        exact ⟨a, C, dx, gs, w, rfl, h1, c, n, e2, p _ L1 h _ _ rw' m1 x1⟩
    | _ => exact q1.elim
end

/-! ### targets -/
inductive Tg where
  | nm (i : Nat) | tp (is : List Nat)
def setAll : List Nat → List D → DSt → Option DSt
  | [], [], δ => some δ
  | i :: is, d :: ds, δ => setAll is ds (δ.set i (some d))
  | _, _, _ => none
def Tg.set : Tg → D → DSt → Option DSt
  | .nm i, d, δ => some (δ.set i (some d))
  | .tp is, .tup ds, δ => setAll is ds δ
  | .tp _, _, _ => none
def gNames : List Nat → TGs
  | [] => gNil
  | i :: is => gCons (gName i) (gNames is)
def Tg.tg (K : PySem.W.Frag) : Tg → TG
  | .nm i => gName i
  | .tp is => gTup K is.length (gNames is)
def Tg.slots : Tg → List Nat
  | .nm i => [i]
  | .tp is => is
theorem wipe_set {vs : List Nat} {i : Nat} {x : Option V} (h : i ∈ vs) : ∀ (σ : L2.St), wipe (σ.set i x) vs = wipe σ vs := by
  intro σ
  induction vs with
  | nil => cases h
  | cons v vs ih =>
    unfold wipe
    by_cases e : i = v
    · subst e
      by_cases hm : i ∈ vs
      · rw [ih hm]
      · have out : ∀ (vs : List Nat), i ∉ vs → wipe (σ.set i x) vs = (wipe σ vs).set i x := by
          intro vs
          induction vs with
          | nil => intro _; rfl
          | cons w ws ih2 =>
            intro hn
            unfold wipe
            rw [ih2 (fun z => hn (List.mem_cons_of_mem _ z))]
            rw [List.set_comm _ _ (fun z => hn (by rw [z]; exact List.mem_cons_self))]
        rw [out vs hm, List.set_set]
    · rcases List.mem_cons.mp h with z | z
      · exact absurd z e
      · rw [ih z]
section
variable {K : PySem.W.Frag}
theorem setAll_run {vs : List Nat} : ∀ {is : List Nat} {ds : List D} {xs : List V} {δ δ' : DSt} {σ : L2.St} {H : Hp} {Q : L2.St → Hp → Prop}, (∀ i ∈ is, i ∈ vs) → RepL K H ds xs → RepS K H δ σ → setAll is ds δ = some δ' →
    (∀ σ', RepS K H δ' σ' → wipe σ' vs = wipe σ vs → Q σ' H) → gNames is xs σ H Q
  | [], [], xs, δ, δ', σ, H, Q, hv, r, rs, h, hQ => by
    cases (show xs = [] from r)
    cases h
    exact ⟨rfl, hQ σ rs rfl⟩
  | i :: is, d :: ds, xs, δ, δ', σ, H, Q, hv, r, rs, h, hQ => by
    obtain ⟨v, t, rfl, q, u⟩ := r
    refine ⟨v, t, rfl, ?_⟩
    exact setAll_run (fun j hj => hv j (List.mem_cons_of_mem _ hj)) u (rs.set q i) h fun σ' rs' w => hQ σ' rs' (w.trans (wipe_set (hv i List.mem_cons_self) σ))
  | [], d :: ds, xs, δ, δ', σ, H, Q, hv, r, rs, h, hQ => nomatch h
  | i :: is, [], xs, δ, δ', σ, H, Q, hv, r, rs, h, hQ => nomatch h
theorem wipe_at {vs : List Nat} {i : Nat} (h : i ∈ vs) : ∀ (σ : L2.St) (x : Option V), (L2.wipe σ vs)[i]? = some x → x = none := by
  intro σ x
  induction vs with
  | nil => cases h
  | cons v vs ih =>
    unfold L2.wipe
    intro e
    by_cases hv : v = i
    · subst hv
      by_cases hl : v < (L2.wipe σ vs).length
      · rw [List.getElem?_set_self hl] at e; cases e; rfl
      · rw [List.getElem?_eq_none (by simpa using hl)] at e; cases e
    · rw [List.getElem?_set_ne hv] at e
      rcases List.mem_cons.mp h with z | z
      · exact absurd z.symm hv
      · exact ih z e
theorem wipe_none {vs : List Nat} {i : Nat} (h : i ∈ vs) {σ : L2.St} : (L2.wipe σ vs).set i none = L2.wipe σ vs := by
  refine List.ext_getElem? fun j => ?_
  by_cases hj : i = j
  · subst hj
    cases e : (L2.wipe σ vs)[i]? with
    | none =>
      have : (L2.wipe σ vs).length ≤ i := List.getElem?_eq_none_iff.mp e
      exact List.getElem?_eq_none (by simpa using this)
    | some x =>
      have hx := wipe_at h σ x e
      subst hx
      have hl := (List.getElem?_eq_some_iff.mp e).1
      rw [List.getElem?_set_self hl]
  · rw [List.getElem?_set_ne hj]
theorem setAll_len : ∀ {is : List Nat} {ds : List D} {δ δ' : DSt}, setAll is ds δ = some δ' → is.length = ds.length
  | [], [], _, _, _ => rfl
  | i :: is, d :: ds, δ, δ', h => by rw [List.length_cons, List.length_cons, setAll_len (is := is) (ds := ds) h]
  | [], d :: ds, _, _, h => nomatch h
  | i :: is, [], _, _, h => nomatch h
theorem Tg.run {tg : Tg} {d : D} {v : V} {δ δ' : DSt} {σ : L2.St} {H : Hp} {Q : L2.St → Hp → Prop} (r : Rep K H d v) (rs : RepS K H δ σ) (h : tg.set d δ = some δ') (hQ : ∀ σ', RepS K H δ' σ' → wipe σ' tg.slots = wipe σ tg.slots → Q σ' H) : tg.tg K v σ H Q := by
  cases tg with
  | nm i =>
    cases h
    exact hQ _ (rs.set r i) (wipe_set (by simp [Tg.slots]) σ)
  | tp is =>
    cases d with
    | tup ds =>
      obtain ⟨a, xs, rfl, q, u⟩ := r
      exact ⟨a, xs, rfl, q, by rw [← u.length, setAll_len h], setAll_run (vs := is) (fun _ h => h) u rs h hQ⟩
    | _ => cases h
end
section
variable {X : Cx} {pos : Pos}
theorem g_nm {i : Nat} {x : Str} (hN : X.N.Nodup) (hi : X.N[i]? = some x := by rfl) (hx : Loc X.env.scope x := by first | exact Or.inl rfl | exact Or.inr rfl) (hf : X.fn x = true ∨ X.env.scope.names.lookup x = some .local := by first | exact .inl rfl | exact .inr rfl) : PG X (.Name x pos) ((Tg.nm i).tg X.K) := pg_name hN hi hx hf
theorem g_tp {es : List Expr} {k : Nat} {is : List Nat} (h : PGs X es (gNames is)) (hc : X.calm = true := by rfl) (hn : (assignEach es X.env).length = is.length := by rfl) (hst : (assignEach es X.env).findIdx? (·.1) = none := by rfl) : PG X (.Tuple es k pos) ((Tg.tp is).tg X.K) := pg_tup hc h hn hst
theorem g_nil : PGs X [] (gNames []) := pgs_nil
theorem g_cons {i : Nat} {x : Str} {es : List Expr} {is : List Nat} (hN : X.N.Nodup) (h2 : PGs X es (gNames is)) (hi : X.N[i]? = some x := by rfl) (hx : Loc X.env.scope x := by first | exact Or.inl rfl | exact Or.inr rfl) (hf : X.fn x = true ∨ X.env.scope.names.lookup x = some .local := by first | exact .inl rfl | exact .inr rfl)
    (hs : (assignEach (.Name x pos :: es) X.env).map (·.2) = assign (.Name x pos) X.env :: (assignEach es X.env).map (·.2) := by rfl) : PGs X (.Name x pos :: es) (gNames (i :: is)) := pgs_cons (pg_name hN hi hx hf) h2 hs
end

/-! ### statements -/
def rNext : DS := fun E δ L => E.nx δ L
def rSeq (t u : DS) : DS := fun E δ L => t { E with nx := fun δ' L' => u E δ' L' } δ L
def rSet (tg : Tg) (t : DE) : DS := fun E δ L => t δ L fun d L1 => match tg.set d δ with
  | some δ1 => E.nx δ1 L1
  | none => False
def rDrop (t : DE) : DS := fun E δ L => t δ L fun _ L1 => E.nx δ L1
def rRet (t : DE) : DS := fun E δ L => t δ L E.rt
/-- a list that was written is handed back, frozen -/
def rRetF (t : DE) : DS := fun E δ L => t δ L fun d L1 => match d with
  | .ref p => (match L1 p with
    | some (.lst ds) => E.rt (.fls ds) (delM L1 p)
    | _ => False)
  | _ => False
def rRetN : DS := fun E _ L => E.rt .non L
def rIfS (c : DT) (t u : DS) : DS := fun E δ L => c δ L fun b L1 => if b = true then t E δ L1 else u E δ L1
def rBrk : DS := fun E δ L => E.bk δ L
def rCnt : DS := fun E δ L => E.ct δ L
section
variable {X : Cx} {st : Stmt} {rest : List Stmt} {t u : DS} {e : Expr} {te : DE} {pos : Pos}
theorem s_nil : PSs X [] (lS X.K rNext) := pss_nil.mono fun D σ H ⟨δ, L, E, rs, rm, h, p1, _, _, _⟩ => p1.here rm h rs
theorem lS_seq {K : PySem.W.Frag} {D : Ends} {σ : L2.St} {H : Hp} (h : lS K (rSeq t u) D σ H) : tSeq (lS K t) (lS K u) D σ H := by
  obtain ⟨δ, L, E, rs, rm, h, p1, p2, p3, p4⟩ := h
  exact ⟨δ, L, { E with nx := fun δ' L' => u E δ' L' }, rs, rm, h, fun δ' L' q σ' H' r' m' x' => ⟨δ', L', E, r', m', q, p1.after x', p2.after x', p3.after x', p4.after x'⟩, p2, p3, p4⟩
theorem s_cons (h1 : PS X st (lS X.K t)) (h2 : PSs X rest (lS X.K u)) : PSs X (st :: rest) (lS X.K (rSeq t u)) := (pss_cons h1 h2).mono fun D σ H h => lS_seq h
theorem s_one (h1 : PS X st (lS X.K t)) : PSs X [st] (lS X.K t) := pss_one h1
theorem s_pass : PS X (.Pass pos) (lS X.K rNext) := ps_pass.mono fun D σ H ⟨δ, L, E, rs, rm, h, p1, _, _, _⟩ => p1.here rm h rs
theorem s_break : PS X (.Break pos) (lS X.K rBrk) := ps_break.mono fun D σ H ⟨δ, L, E, rs, rm, h, _, _, p1, _⟩ => p1.here rm h rs
theorem s_continue : PS X (.Continue pos) (lS X.K rCnt) := ps_continue.mono fun D σ H ⟨δ, L, E, rs, rm, h, _, _, _, p1⟩ => p1.here rm h rs
theorem s_expr (he : PE X e (lE X.K te)) (hs : swapsWith e none pos.line X.env = pure false := by rfl) : PS X (.Expr e pos) (lS X.K (rDrop te)) := (ps_expr he hs).mono fun D σ H ⟨δ, L, E, rs, rm, h, p1, _, _, _⟩ =>
  lE_bind rs rm h fun d L1 v H1 q1 r1 m1 rs1 x1 _ => p1 _ _ q1 _ _ rs1 m1 x1
theorem s_ret (he : PE X e (lE X.K te)) : PS X (.Return (some e) pos) (lS X.K (rRet te)) := (ps_ret he).mono fun D σ H ⟨δ, L, E, rs, rm, h, _, p1, _, _⟩ => ⟨δ, L, E.rt, rs, rm, h, p1⟩
theorem s_retF (he : PE X e (lE X.K te)) : PS X (.Return (some e) pos) (lS X.K (rRetF te)) := (ps_ret (frz_of he)).mono fun D σ H ⟨δ, L, E, rs, rm, h, _, p1, _, _⟩ =>
  lE_bind rs rm h fun d L1 v H1 q1 r1 m1 rs1 x1 _ => by
    cases d with
    | ref a =>
      cases (show v = .ref a from r1)
      obtain ⟨ds, xs, h1, u, h, hL⟩ := L_lst (C := fun ds => E.rt (.fls ds) (delM L1 a)) m1 q1
      refine ⟨a, xs, rfl, h1, fun o => ?_⟩
      have stb : Stb H1 (upd H1 a (.frz o (.lst xs))) := stb_write m1 hL
      refine p1 _ _ h _ _ ⟨a, xs, rfl, ⟨o, upd_same⟩, u.mono stb⟩ (fun b w e => ?_) fun b w e1 e2 => ?_
      · unfold delM at e
        by_cases hb : b = a
        · rw [if_pos hb] at e; cases e
        · rw [if_neg hb] at e
          exact (m1 b w e).keep (upd_ne hb) stb
      · obtain ⟨e3, e4⟩ := x1 b w e1 e2
        have hb : b ≠ a := fun z => by subst z; rw [hL] at e4; cases e4
        exact ⟨by rw [upd_ne hb]; exact e3, by unfold delM; rw [if_neg hb]; exact e4⟩
    | _ => exact q1.elim
theorem s_retN : PS X (.Return none pos) (lS X.K rRetN) := ps_retN.mono fun D σ H ⟨δ, L, E, rs, rm, h, _, p1, _, _⟩ => p1.here rm h rfl
theorem s_if {c : Expr} {a b : List Stmt} {tc : DT} (hc : PT X c (lT X.K tc)) (ha : PSs X a (lS X.K t)) (hb : PSs X b (lS X.K u)) : PS X (.If c a b pos) (lS X.K (rIfS tc t u)) := (ps_if hc ha hb).mono fun D σ H ⟨δ, L, E, rs, rm, h, p1, p2, p3, p4⟩ =>
  lT_bind rs rm h fun c L1 H1 q1 m1 rs1 x1 _ => by
    cases c with
    | true => rw [if_pos rfl] at q1 ⊢; exact ⟨δ, L1, E, rs1, m1, q1, p1.after x1, p2.after x1, p3.after x1, p4.after x1⟩
    | false => rw [if_neg Bool.false_ne_true] at q1 ⊢; exact ⟨δ, L1, E, rs1, m1, q1, p1.after x1, p2.after x1, p3.after x1, p4.after x1⟩
theorem lS_set {K : PySem.W.Frag} {tg : Tg} {D : Ends} {σ : L2.St} {H : Hp} (h : lS K (rSet tg te) D σ H) : tAsg (lE K te) (tg.tg K) D σ H := by
  obtain ⟨δ, L, E, rs, rm, h, p1, _, _, _⟩ := h
  refine lE_bind rs rm h fun d L1 v H1 q1 r1 m1 rs1 x1 _ => ?_
  have q1' : (match tg.set d δ with
    | some δ1 => E.nx δ1 L1
    | none => False) := q1
  cases e : tg.set d δ with
  | none => rw [e] at q1'; exact q1'.elim
  | some δ1 =>
    rw [e] at q1'
    exact Tg.run r1 rs1 e fun σ' rs' _ => p1 _ _ q1' _ _ rs' m1 x1
theorem s_asg {tg : Expr} {g : Tg} (hg : PG X tg (g.tg X.K)) (he : PE X e (lE X.K te)) (hs : swapsWithSole [tg] e pos.line X.env = pure false := by rfl) (hw : swappedStores [tg] e X.env = pure none := by rfl)
    (h1 : (assignEach [tg] X.env).map (·.2) = [assign tg X.env] := by rfl) : PS X (.Assign [tg] e pos) (lS X.K (rSet g te)) := (ps_asg he hg hs hw h1).mono fun D σ H h => lS_set h
theorem s_set {i : Nat} {x : Str} {pos' : Pos} (hN : X.N.Nodup) (he : PE X e (lE X.K te)) (hi : X.N[i]? = some x := by rfl) (hx : Loc X.env.scope x := by first | exact Or.inl rfl | exact Or.inr rfl) (hs : swapsWith e (some (.Name x pos')) pos.line X.env = pure false := by rfl)
    (hf : X.fn x = true ∨ X.env.scope.names.lookup x = some .local := by first | exact .inl rfl | exact .inr rfl) : PS X (.Assign [.Name x pos'] e pos) (lS X.K (rSet (.nm i) te)) := (ps_set hN hi hx he hs hf).mono fun D σ H h => lS_set (tg := .nm i) h
/-- o[i] = e -/
def rStore (te to ti : DE) : DS := fun E δ L => te δ L fun d L1 => to δ L1 fun o L2 => ti δ L2 fun i L3 => match o, i with
  | .ref p, .int k => (match L3 p with
    | some (.lst ds) => (match ixN ds.length k with
      | some j => E.nx δ (updM L3 p (.lst (ds.set j d)))
      | none => False)
    | _ => False)
  | _, _ => False
theorem s_store {o i : Expr} {to ti : DE} {ipos : Pos} (he : PE X e (lE X.K te)) (ho : PE X o (lE X.K to)) (hi : PE X i (lE X.K ti))
    (ha : ∀ v, assign (.Subscript o i ipos) X.env v = (do
      let ov ← holding [v] (eval o X.env)
      let iv ← holding [v, ov] (eval i X.env)
      standAt ipos
      holding [v, ov, iv] (setItem ov iv v)
      release [v, ov, iv] []) := by intro _; rfl) (hs : swapsWithSole [.Subscript o i ipos] e pos.line X.env = pure false := by rfl) (hw : swappedStores [.Subscript o i ipos] e X.env = pure none := by rfl)
    (h1 : (assignEach [.Subscript o i ipos] X.env).map (·.2) = [assign (.Subscript o i ipos) X.env] := by rfl) : PS X (.Assign [.Subscript o i ipos] e pos) (lS X.K (rStore te to ti)) :=
  (ps_asg he (pg_sub ho hi set_list ha) hs hw h1).mono fun D σ H ⟨δ, L, E, rs, rm, h, p1, _, _, _⟩ =>
    lE_bind rs rm h fun d L1 v H1 q1 r1 m1 rs1 x1 _ => lE_bind rs1 m1 q1 fun o L2 ov H2 q2 r2 m2 rs2 x2 s2 => lE_bind rs2 m2 q2 fun i L3 iv H3 q3 r3 m3 rs3 x3 s3 => by
      have r1' := (r1.mono s2).mono s3
      have r2' := r2.mono s3
      cases o with
      | ref p =>
        cases i with
        | int k =>
          cases (show ov = .ref p from r2')
          cases (show iv = .int k from r3)
          obtain ⟨ds, xs, h1, u, h, hL⟩ := L_lst (C := fun ds => match ixN ds.length k with
            | some j => E.nx δ (updM L3 p (.lst (ds.set j d)))
            | none => False) m3 q3
          cases e : ixN ds.length k with
          | none => rw [e] at h; exact h.elim
          | some j =>
            rw [e] at h
            have stb : Stb H3 (upd H3 p (.lst (xs.set j v))) := stb_write m3 hL
            exact ⟨p, xs, k, j, rfl, rfl, h1, by rw [← u.length]; exact e, p1 _ _ h _ _ (rs3.mono stb) (m3.write hL ⟨_, upd_same, (u.set r1' j).mono stb⟩) (((x1.trans x2).trans x3).trans (.write hL))⟩
        | _ => exact q3.elim
      | _ => exact q3.elim
/-- o.f = e -/
def rFSet (C : Addr) (f : Str) (te to : DE) : DS := fun E δ L => te δ L fun d L1 => to δ L1 fun o L2 => match o with
  | .ref p => (match L2 p with
    | some (.ins C' fs) => C' = C ∧ (fs.length < 1000 ∧ E.nx δ (updM L2 p (.ins C (putD f d fs))))
    | _ => False)
  | _ => False
theorem s_fld {o : Expr} {to : DE} {f : Str} {C : Addr} {pos' : Pos} (c : Cls X.K C) (n : NoAttr X.K C f) (ho : PE X o (lE X.K to)) (he : PE X e (lE X.K te)) (hs : swapsWith e (some (.Attribute o f pos')) pos.line X.env = pure false := by rfl) : PS X (.Assign [.Attribute o f pos'] e pos) (lS X.K (rFSet C f te to)) :=
  (ps_fld ho he hs).mono fun D σ H ⟨δ, L, E, rs, rm, h, p1, _, _, _⟩ =>
    lE_bind rs rm h fun d L1 v H1 q1 r1 m1 rs1 x1 _ => lE_bind rs1 m1 q1 fun o L2 ov H2 q2 r2 m2 rs2 x2 s2 => by
      have r1' := r1.mono s2
      cases o with
      | ref p =>
        cases (show ov = .ref p from r2)
        obtain ⟨fs, dx, gs, h1, u, h, hL⟩ := L_ins (C := C) (R := fun fs => fs.length < 1000 ∧ E.nx δ (updM L2 p (.ins C (putD f d fs)))) m2 q2
        have stb : Stb H2 (upd H2 p (.ins C dx (putF f v gs))) := stb_write m2 hL
        exact ⟨p, C, dx, gs, rfl, h1, c, n, by rw [← u.length]; exact h.1, p1 _ _ h.2 _ _ (rs2.mono stb) (m2.write hL ⟨dx, _, upd_same, (RepF.put r1' u).mono stb⟩) ((x1.trans x2).trans (.write hL))⟩
      | _ => exact q2.elim
/-- the list in slot i, from here on frozen -/
def rFrz (i : Nat) (t : DS) : DS := fun E δ L => match slot δ i with
  | some (.ref p) => (match L p with
    | some (.lst ds) => t E (δ.set i (some (.fls ds))) (delM L p)
    | _ => False)
  | _ => False
theorem s_frz {sts : List Stmt} {i : Nat} (h : PSs X sts (lS X.K t)) : PSs X sts (lS X.K (rFrz i t)) := by
  refine ⟨fun pins s σ H D I ⟨δ, L, E, rs, rm, q, p1, p2, p3, p4⟩ => ?_⟩
  unfold rFrz at q
  split at q
  · rename_i p e
    obtain ⟨ds, xs, h1, u, q, hL⟩ := L_lst (C := fun ds => t E (δ.set i (some (.fls ds))) (delM L p)) rm q
    obtain ⟨o, I2⟩ := Inv.freeze I h1
    have stb : Stb H (upd H p (.frz o (.lst xs))) := stb_write rm hL
    have x1 : Ext L H (delM L p) (upd H p (.frz o (.lst xs))) := fun b w e1 e2 => by
      have hb : b ≠ p := fun z => by subst z; rw [hL] at e2; cases e2
      exact ⟨by rw [upd_ne hb]; exact e1, by unfold delM; rw [if_neg hb]; exact e2⟩
    have rs2 : RepS X.K (upd H p (.frz o (.lst xs))) (δ.set i (some (.fls ds))) σ := by
      obtain ⟨v, e1, e2⟩ := rs.2 i _ (slot_eq e)
      cases (show v = .ref p from e2)
      have z := (rs.mono stb).set (d := .fls ds) (v := .ref p) ⟨p, xs, rfl, ⟨o, upd_same⟩, u.mono stb⟩ i
      have hi : i < σ.length := (List.getElem?_eq_some_iff.mp e1).1
      have e3 : σ.set i (some (.ref p)) = σ := by
        refine List.ext_getElem? fun j => ?_
        by_cases hj : i = j
        · subst hj; rw [List.getElem?_set_self hi, e1]
        · rw [List.getElem?_set_ne hj]
      rw [e3] at z
      exact z
    refine h.run pins s σ _ D I2 ⟨_, _, E, rs2, fun b w e => ?_, q, p1.after x1, p2.after x1, p3.after x1, p4.after x1⟩
    unfold delM at e
    by_cases hb : b = p
    · rw [if_pos hb] at e; cases e
    · rw [if_neg hb] at e
      exact (rm b w e).keep (upd_ne hb) stb
  · exact q.elim
end

/-! ### what is walked -/
abbrev DI := DSt → MH → (List D → MH → Prop) → Prop
structure ItD (K : PySem.W.Frag) (J : It) (ds : List D) (H0 : Hp) : Prop where
  len : ds.length ≤ sizeLine
  go : ∀ H, Stb H0 H → ∀ i, i < ds.length → J.go i H
  stop : ∀ H, Stb H0 H → ∀ i, ds.length ≤ i → J.stop i H
  yld : ∀ H, Stb H0 H → ∀ i x H', J.yld i H x H' → ∀ d, ds[i]? = some d → Rep K H' d x ∧ Stb H H' ∧ ∀ L, RepM K H L → RepM K H' L ∧ Ext L H L H'
def lI (K : PySem.W.Frag) (t : DI) : TI := fun σ H R => ∃ δ L k, RepS K H δ σ ∧ RepM K H L ∧ t δ L k ∧ ∀ ds L', k ds L' → ∀ J H', ItD K J ds H' → RepM K H' L' → Ext L H L' H' → R J H'
/-- a list, a tuple, the script, a text -/
def rIt (t : DE) : DI := fun δ L k => t δ L fun x L1 => match x with
  | .fls ds => k ds L1
  | .tup ds => k ds L1
  | .scr ns => k (ns.map D.int) L1
  | .str z => z.length ≤ sizeLine ∧ k (z.cps.toList.map fun c => D.str ⟨#[c]⟩) L1
  | _ => False
def rangeD (lo : Int) (n : Nat) : List D := (List.range n).map fun i => D.int (lo + (i : Nat))
def rng1 (ds : List D) (L : MH) (k : List D → MH → Prop) : Prop := match ds with
  | [.int j] => (-1000000 ≤ j ∧ j ≤ 1000000) ∧ k (rangeD 0 j.toNat) L
  | _ => False
def rng2 (ds : List D) (L : MH) (k : List D → MH → Prop) : Prop := match ds with
  | [.int i, .int j] => (-1000000 ≤ i ∧ i ≤ 1000000 ∧ -1000000 ≤ j ∧ j ≤ 1000000) ∧ k (rangeD i (j - i).toNat) L
  | _ => False
def rRng1 (ts : List DE) : DI := fun δ L k => rArgs ts δ L fun ds L1 => rng1 ds L1 k
def rRng2 (ts : List DE) : DI := fun δ L k => rArgs ts δ L fun ds L1 => rng2 ds L1 k
section
variable {K : PySem.W.Frag}
theorem itd_list {a : Addr} {ds : List D} {xs : List V} {H : Hp} (q : StL H a xs) (r : RepL K H ds xs) (hz : xs.length ≤ sizeLine) (uniq : ∀ H', Stb H H' → ∀ ys, SqL K H' a ys → ys = xs) : ItD K (Itl K a) ds H := by
  have hl := r.length
  refine ⟨by rw [hl]; exact hz, fun H' s i hi => ?_, fun H' s i hi => ⟨xs, (s.stL q).seq, by rw [← hl]; exact hi⟩, fun H' s i x H2 y d e => ?_⟩
  · rw [hl] at hi
    exact ⟨xs, xs[i], (s.stL q).seq, List.getElem?_eq_getElem hi⟩
  · obtain ⟨rfl, y⟩ := y
    obtain ⟨v, e1, e2⟩ := r.get e
    have e3 := y xs (s.stL q).seq
    rw [e1] at e3
    cases e3
    exact ⟨e2.mono s, .refl _, fun L m => ⟨m, .refl⟩⟩
theorem itd_scr {a : Addr} {ns : List Int} {H : Hp} (q : StS K H a (ns.map V.int)) (hz : (ns.map V.int).length ≤ sizeLine) : ItD K (Itl K a) (ns.map D.int) H := by
  refine ⟨by rw [List.length_map] at hz ⊢; exact hz, fun H' s i hi => ?_, fun H' s i hi => ⟨_, (s.stS q).seq, by rw [List.length_map] at hi ⊢; exact hi⟩, fun H' s i x H2 y d e => ?_⟩
  · rw [List.length_map] at hi
    have hi' : i < (ns.map V.int).length := by rw [List.length_map]; exact hi
    exact ⟨_, (ns.map V.int)[i], (s.stS q).seq, List.getElem?_eq_getElem hi'⟩
  · obtain ⟨rfl, y⟩ := y
    have e3 := y _ (s.stS q).seq
    rw [List.getElem?_map] at e3 e
    cases z : ns[i]? with
    | none => rw [z] at e; cases e
    | some n =>
      rw [z] at e3 e
      cases e
      cases e3
      exact ⟨rfl, .refl _, fun L m => ⟨m, .refl⟩⟩
theorem itd_tup {a : Addr} {ds : List D} {xs : List V} {H : Hp} (q : SqT K H a xs) (r : RepL K H ds xs) (hz : xs.length ≤ sizeLine) : ItD K (Itt K a) ds H := by
  have hl := r.length
  refine ⟨by rw [hl]; exact hz, fun H' s i hi => ?_, fun H' s i hi => ⟨xs, s.sqT q, by rw [← hl]; exact hi⟩, fun H' s i x H2 y d e => ?_⟩
  · rw [hl] at hi
    exact ⟨xs, xs[i], s.sqT q, List.getElem?_eq_getElem hi⟩
  · obtain ⟨rfl, y⟩ := y
    obtain ⟨v, e1, e2⟩ := r.get e
    have e3 := y xs (s.sqT q)
    rw [e1] at e3
    cases e3
    exact ⟨e2.mono s, .refl _, fun L m => ⟨m, .refl⟩⟩
theorem itd_str {z : Str} {H : Hp} (hz : z.length ≤ sizeLine) : ItD K (Its z) (z.cps.toList.map fun c => D.str ⟨#[c]⟩) H := by
  have hl : (z.cps.toList.map fun c => D.str ⟨#[c]⟩).length = z.cps.size := by simp
  refine ⟨by rw [hl]; exact hz, fun H' s i hi => by rw [hl] at hi; exact hi, fun H' s i hi => by rw [hl] at hi; exact hi, fun H' s i x H2 y d e => ?_⟩
  obtain ⟨rfl, c, e1, rfl⟩ := y
  rw [List.getElem?_map, Array.getElem?_toList, e1] at e
  cases e
  exact ⟨rfl, .refl _, fun L m => ⟨m, .refl⟩⟩
theorem itd_range {lo : Int} {n : Nat} {H : Hp} (hz : n ≤ sizeLine) : ItD K (Itr lo n) (rangeD lo n) H := by
  have hl : (rangeD lo n).length = n := by simp [rangeD]
  refine ⟨by rw [hl]; exact hz, fun H' s i hi => by rw [hl] at hi; exact hi, fun H' s i hi => by rw [hl] at hi; exact hi, fun H' s i x H2 y d e => ?_⟩
  obtain ⟨rfl, rfl⟩ := y
  unfold rangeD at e
  rw [List.getElem?_map] at e
  cases q : (List.range n)[i]? with
  | none => rw [q] at e; cases e
  | some j =>
    rw [q] at e
    cases e
    have e2 : j = i := by
      have := (List.getElem?_eq_some_iff.mp q)
      obtain ⟨h1, h2⟩ := this
      simpa using h2.symm
    subst e2
    exact ⟨rfl, .refl _, fun L m => ⟨m, .refl⟩⟩
end
section
variable {X : Cx} {tg l : Expr} {tl : DE} {ts : List DE}
theorem i_seq (hl : PE X l (lE X.K tl)) : PI X tg l (lI X.K (rIt tl)) := by
  refine ⟨fun pins s σ H R I ⟨δ, L, k, rs, rm, t, p⟩ => ?_⟩
  have hE : lE X.K tl σ H fun v H1 => ∃ x L1, Rep X.K H1 x v ∧ RepM X.K H1 L1 ∧ Ext L H L1 H1 ∧ (match x with
      | .fls ds => k ds L1
      | .tup ds => k ds L1
      | .scr ns => k (ns.map D.int) L1
      | .str z => z.length ≤ sizeLine ∧ k (z.cps.toList.map fun c => D.str ⟨#[c]⟩) L1
      | _ => False) := lE_bind rs rm t fun x L1 v H1 q1 r1 m1 _ x1 _ => ⟨x, L1, r1, m1, x1, q1⟩
  refine thn (hl.run pins s σ H _ I hE) fun v s1 ⟨xv, H1, I1, r1, x, L1, rx, m1, x1, q⟩ => ?_
  cases x with
  | fls ds =>
    obtain ⟨a, xs, rfl, qL, u⟩ := rx
    cases r1
    obtain ⟨its, rv, pl, hz⟩ := I1.list qL.seq
    refine wpAny_pyIter_list pl.isList ?_
    refine ⟨s1.heap.objs.size, [s1.heap.objs.size], _, _, H1, rfl, I1.kept (t' := s1.toks) fun b o e => Heap.get?_push_of_some _ e, turn_list a _, ⟨_, Heap.get?_push_size _ rfl, rfl, rfl⟩, fun b hb => ?_, p ds L1 q _ _ (itd_list qL u hz ?_) m1 x1⟩
    · have e : b = s1.heap.objs.size := by simpa using hb
      subst e
      exact I1.fpOk (Nat.le_refl _) (I1.hok.fresh (Nat.le_refl _))
    · intro H' s ys hy
      obtain ⟨o, qo⟩ := qL
      have q' := (s a).2 _ _ qo
      rcases hy with (h | ⟨o', h⟩) | ⟨ob, its', n, h1, h2, h3, h4, h5, h6⟩
      · rw [q'] at h; cases h
      · rw [q'] at h; cases h; rfl
      · -- an object of the written part is not tracked
        have := (I1.bs a ob (I1.mod.kin a ob h1)).2
        rw [qo] at this
        cases this
  | tup ds =>
    obtain ⟨a, xs, rfl, qL, u⟩ := rx
    cases r1
    obtain ⟨its, rv, pl, hz⟩ := I1.tuple qL
    refine wpAny_pyIter_tuple (show s1.heap.IsTuple a its.toArray from pl) ?_
    refine ⟨s1.heap.objs.size, [s1.heap.objs.size], _, _, H1, rfl, I1.kept (t' := s1.toks) fun b o e => Heap.get?_push_of_some _ e, turn_tuple a _, ⟨_, Heap.get?_push_size _ rfl, rfl, rfl⟩, fun b hb => ?_, p ds L1 q _ _ (itd_tup qL u hz) m1 x1⟩
    have e : b = s1.heap.objs.size := by simpa using hb
    subst e
    exact I1.fpOk (Nat.le_refl _) (I1.hok.fresh (Nat.le_refl _))
  | scr ns =>
    obtain ⟨a, rfl, qL⟩ := rx
    cases r1
    obtain ⟨its, rv, pl, hz⟩ := I1.list qL.seq
    refine wpAny_pyIter_list pl.isList ?_
    refine ⟨s1.heap.objs.size, [s1.heap.objs.size], _, _, H1, rfl, I1.kept (t' := s1.toks) fun b o e => Heap.get?_push_of_some _ e, turn_list a _, ⟨_, Heap.get?_push_size _ rfl, rfl, rfl⟩, fun b hb => ?_, p _ L1 q _ _ (itd_scr qL hz) m1 x1⟩
    have e : b = s1.heap.objs.size := by simpa using hb
    subst e
    exact I1.fpOk (Nat.le_refl _) (I1.hok.fresh (Nat.le_refl _))
  | str z =>
    cases (show xv = .str z from rx)
    obtain ⟨t, rfl⟩ := r1
    have q2 := p _ L1 q.2 _ _ (itd_str q.1) m1 x1
    cases ha : z.cps.all (· < 128)
    · exact wpAny_pyIter_wide ha (pi_one (tk := s1.toks) I1 _ (turn_str _ z t "str_iterator" (.inr rfl)) ⟨_, Heap.get?_push_size _ rfl, rfl, rfl⟩ q2)
    · exact wpAny_pyIter_ascii ha (pi_one (tk := s1.toks) I1 _ (turn_str _ z t "str_ascii_iterator" (.inl rfl)) ⟨_, Heap.get?_push_size _ rfl, rfl, rfl⟩ q2)
  | _ => exact q.elim
theorem i_rng1 {a : Expr} {p pos : Pos} (ha : PAD X [a] ts) (hm : X.mg "range" = none) (hg : Gl X "range" := by rfl) (hs : starEach [a] X.env = [(false, eval a X.env)] := by rfl) : PI X tg (.Call (.Name "range" p) [a] [] pos) (lI X.K (rRng1 ts)) :=
  ⟨fun pins s σ H R I ⟨δ, L, k, rs, rm, t, po⟩ => (pi_range1 hg hm ha hs).run pins s σ H R I (args_of rs rm t fun ds L' vs H' q _ r m _ x _ => by
    unfold rng1 at q
    split at q
    · rename_i j _
      obtain ⟨v, rfl, rv⟩ := one_of r
      cases (show v = .int j from rv)
      exact ⟨j, rfl, by omega, by omega, po _ L' q.2 _ _ (itd_range (by rw [sizeLine_eq]; omega)) m x⟩
    · exact q.elim)⟩
theorem i_rng2 {a b : Expr} {p pos : Pos} (ha : PAD X [a, b] ts) (hm : X.mg "range" = none) (hg : Gl X "range" := by rfl) (hs : starEach [a, b] X.env = [(false, eval a X.env), (false, eval b X.env)] := by rfl) (hs2 : starEach [b] X.env = [(false, eval b X.env)] := by rfl) : PI X tg (.Call (.Name "range" p) [a, b] [] pos) (lI X.K (rRng2 ts)) :=
  ⟨fun pins s σ H R I ⟨δ, L, k, rs, rm, t, po⟩ => (pi_range2 hg hm ha hs hs2).run pins s σ H R I (args_of rs rm t fun ds L' vs H' q _ r m _ x _ => by
    unfold rng2 at q
    split at q
    · rename_i i j _
      obtain ⟨v, w, rfl, rv, rw'⟩ := two_of r
      cases (show v = .int i from rv)
      cases (show w = .int j from rw')
      exact ⟨i, j, rfl, ⟨by omega, by omega, by omega, by omega⟩, po _ L' q.2 _ _ (itd_range (by rw [sizeLine_eq]; omega)) m x⟩
    · exact q.elim)⟩
end

/-! ### for -/
def forD (g : Tg) (tb : DS) (E : DEnds) : List D → DSt → MH → Prop
  | [], δ, L => E.nx δ L
  | x :: r, δ, L => match g.set x δ with
    | some δ1 => tb ⟨forD g tb E r, E.rt, E.nx, forD g tb E r⟩ δ1 L
    | none => False
def rFor (it : DI) (g : Tg) (tb : DS) : DS := fun E δ L => it δ L fun ds L1 => forD g tb E ds δ L1
theorem drop_cons {α : Type} {l : List α} {i : Nat} (h : i < l.length) : l.drop i = l[i] :: l.drop (i + 1) := List.drop_eq_getElem_cons h
section
variable {X : Cx} {pos : Pos}
theorem lS_for {K : PySem.W.Frag} {it : DI} {g : Tg} {tb : DS} {D : Ends} {σ : L2.St} {H : Hp} (h : lS K (rFor it g tb) D σ H) : tFor (lI K it) (g.tg K) (lS K tb) D σ H := by
  obtain ⟨δ, L, E, rs, rm, h, p1, p2, p3, p4⟩ := h
  refine ⟨δ, L, _, rs, rm, h, fun ds L1 q J H1 I m1 x1 => ?_⟩
  have rs1 := rs.mono (rm.stb x1)
  refine ⟨fun i m σ' H' => m = ds.length - i ∧ i ≤ ds.length ∧ ∃ δ' L', RepS K H' δ' σ' ∧ RepM K H' L' ∧ Ext L H L' H' ∧ Stb H1 H' ∧ forD g tb E (ds.drop i) δ' L', ⟨ds.length, by simp, Nat.zero_le _, δ, L1, rs1, m1, x1, .refl _, q⟩, ?_⟩
  rintro i m σ' H' ⟨rfl, hi, δ', L', rs', m', x', s', q'⟩
  by_cases hlt : i < ds.length
  · refine .inr ⟨I.go H' s' i hlt, fun σ2 H2 => ds.length - (i + 1) = ds.length - (i + 1) ∧ i + 1 ≤ ds.length ∧ ∃ δ' L', RepS K H2 δ' σ2 ∧ RepM K H2 L' ∧ Ext L H L' H2 ∧ Stb H1 H2 ∧ forD g tb E (ds.drop (i + 1)) δ' L', fun σ2 H2 z => ⟨ds.length - (i + 1), by omega, z⟩, fun x H2 y => ?_⟩
    rw [drop_cons hlt] at q'
    obtain ⟨rx, s2, k2⟩ := I.yld H' s' i x H2 y ds[i] (List.getElem?_eq_getElem hlt)
    obtain ⟨m2, x2⟩ := k2 L' m'
    have q'' : (match g.set ds[i] δ' with
      | some δ1 => tb ⟨forD g tb E (ds.drop (i + 1)), E.rt, E.nx, forD g tb E (ds.drop (i + 1))⟩ δ1 L'
      | none => False) := q'
    cases e : g.set ds[i] δ' with
    | none => rw [e] at q''; exact q''.elim
    | some δ1 =>
      rw [e] at q''
      refine Tg.run rx (rs'.mono s2) e fun σ3 rs3 _ => ?_
      have xx := x'.trans x2
      have nxt : PostS K L' H2 (forD g tb E (ds.drop (i + 1))) fun σ2 H2 => ds.length - (i + 1) = ds.length - (i + 1) ∧ i + 1 ≤ ds.length ∧ ∃ δ' L', RepS K H2 δ' σ2 ∧ RepM K H2 L' ∧ Ext L H L' H2 ∧ Stb H1 H2 ∧ forD g tb E (ds.drop (i + 1)) δ' L' :=
        fun δ4 L4 q4 σ4 H4 r4 m4 x4 => ⟨rfl, hlt, δ4, L4, r4, m4, xx.trans x4, (s'.trans s2).trans (m2.stb x4), q4⟩
      exact ⟨δ1, L', _, rs3, m2, q'', nxt, p2.after xx, p1.after xx, nxt⟩
  · have e : i = ds.length := by omega
    subst e
    rw [List.drop_length] at q'
    exact .inl ⟨I.stop H' s' _ (Nat.le_refl _), p1 δ' L' q' σ' H' rs' m' x'⟩
theorem s_for {tg iter : Expr} {body : List Stmt} {it : DI} {g : Tg} {tb : DS} (hi : PI X tg iter (lI X.K it)) (hg : PG X tg (g.tg X.K)) (hb : PSs X body (lS X.K tb)) (hp : PassesOwn (model X.prog X.w) X.A X.env X.xe := by exact PassesOwn.never) (hc : X.calm = true := by rfl)
    (hs : ∀ x, foldedSetIterable iter X.env x = pure x := by intro _; rfl) : PS X (.For tg iter body [] pos) (lS X.K (rFor it g tb)) := (ps_for hp hc hi hg hb hs).mono fun D σ H h => lS_for h
end

/-! ### while -/
def whileD (c : DT) (tb : DS) (E : DEnds) : Nat → DSt → MH → Prop
  | 0, _, _ => False
  | n + 1, δ, L => c δ L fun b L1 => if b = true then tb ⟨whileD c tb E n, E.rt, E.nx, whileD c tb E n⟩ δ L1 else E.nx δ L1
def rWhile (c : DT) (tb : DS) : DS := fun E δ L => ∃ n, whileD c tb E n δ L
section
variable {X : Cx} {pos : Pos}
theorem lS_while {K : PySem.W.Frag} {c : DT} {tb : DS} {D : Ends} {σ : L2.St} {H : Hp} (h : lS K (rWhile c tb) D σ H) : tWhile (lT K c) (lS K tb) D σ H := by
  obtain ⟨δ, L, E, rs, rm, ⟨n, h⟩, p1, p2, p3, p4⟩ := h
  refine ⟨fun m σ' H' => ∃ δ' L', RepS K H' δ' σ' ∧ RepM K H' L' ∧ Ext L H L' H' ∧ whileD c tb E m δ' L', ⟨n, δ, L, rs, rm, .refl, h⟩, ?_⟩
  rintro m σ' H' ⟨δ', L', rs', m', x', q⟩
  cases m with
  | zero => exact q.elim
  | succ m =>
    refine lT_bind rs' m' q fun b L1 H1 q1 m1 rs1 x1 _ => ?_
    have xx := x'.trans x1
    cases b with
    | true =>
      rw [if_pos rfl] at q1 ⊢
      have nxt : PostS K L1 H1 (whileD c tb E m) fun σ2 H2 => ∃ δ' L', RepS K H2 δ' σ2 ∧ RepM K H2 L' ∧ Ext L H L' H2 ∧ whileD c tb E m δ' L' := fun δ4 L4 q4 σ4 H4 r4 m4 x4 => ⟨δ4, L4, r4, m4, xx.trans x4, q4⟩
      exact ⟨_, fun σ2 H2 z => ⟨m, Nat.lt_succ_self m, z⟩, δ', L1, _, rs1, m1, q1, nxt, p2.after xx, p1.after xx, nxt⟩
    | false =>
      rw [if_neg Bool.false_ne_true] at q1 ⊢
      exact p1 δ' L1 q1 σ' H1 rs1 m1 xx
theorem s_while {c : Expr} {body : List Stmt} {tc : DT} {tb : DS} (hc : PT X c (lT X.K tc)) (hb : PSs X body (lS X.K tb)) (hp : PassesOwn (model X.prog X.w) X.A X.env X.xe := by exact PassesOwn.never) : PS X (.While c body [] pos) (lS X.K (rWhile tc tb)) := (ps_while hp hc hb).mono fun D σ H h => lS_while h
end

/-! ### list comprehensions -/
def compD (g : Tg) (tt : DT) (te : DE) (δ0 : DSt) : List D → List D → MH → KD → Prop
  | [], acc, L, k => k (.fls acc) L
  | x :: r, acc, L, k => match g.set x δ0 with
    | some δ1 => tt δ1 L fun b L2 => if b = true then te δ1 L2 fun d L3 => compD g tt te δ0 r (acc ++ [d]) L3 k else compD g tt te δ0 r acc L2 k
    | none => False
def wipeD (δ : DSt) : List Nat → DSt
  | [] => δ
  | v :: vs => (wipeD δ vs).set v none
def rYes : DT := fun _ L k => k true L
def rLc (it : DI) (g : Tg) (tt : DT) (te : DE) : DE := fun δ L k => it δ L fun ds L1 => compD g tt te (wipeD δ g.slots) ds [] L1 k
theorem RepS.forget {K : PySem.W.Frag} {H : Hp} {δ : DSt} {σ : L2.St} (h : RepS K H δ σ) (i : Nat) (x : Option V) : RepS K H (δ.set i none) (σ.set i x) := by
  refine ⟨by rw [List.length_set, List.length_set]; exact h.1, fun j e q => ?_⟩
  by_cases hj : i = j
  · subst hj
    by_cases hl : i < δ.length
    · rw [List.getElem?_set_self hl] at q; cases q
    · rw [List.getElem?_eq_none (by simpa using hl)] at q; cases q
  · rw [List.getElem?_set_ne hj] at q
    rw [List.getElem?_set_ne hj]
    exact h.2 j e q
theorem RepS.wipe {K : PySem.W.Frag} {H : Hp} {δ : DSt} {σ : L2.St} (h : RepS K H δ σ) : ∀ vs : List Nat, RepS K H (wipeD δ vs) (L2.wipe σ vs)
  | [] => h
  | v :: vs => (h.wipe vs).forget v none
section
variable {X : Cx} {pos : Pos}
/-- the core: the new list's place is beside the owned heap -/
theorem lc_run {K : PySem.W.Frag} {it : DI} {g : Tg} {tt : DT} {te : DE} {σ : L2.St} {H : Hp} {Q : VK} {δ : DSt} {L : MH} {k : KD} (rs : RepS K H δ σ) (rm : RepM K H L) (h : rLc it g tt te δ L k)
    (fin : ∀ acc L' D xs H', k (.fls acc) L' → H' D = some (.lst xs) → L' D = none → RepL K H' acc xs → RepM K H' L' → Ext L H L' H' → (∀ b o, H b = some o → L b = none → b ≠ D) → Q (.ref D) H') :
    tLc (lI K it) (g.tg K) (lT K tt) (lE K te) g.slots σ H Q := by
  refine ⟨δ, L, _, rs, rm, h, fun ds L1 q J H1 I m1 x1 D hD => ?_⟩
  have rs1 := (rs.mono (rm.stb x1)).wipe g.slots
  have nD : ∀ b o, H b = some o → L b = none → b ≠ D := fun b o e1 e2 z => by
    have e3 := (x1 b o e1 e2).1
    rw [z, hD] at e3
    cases e3
  refine ⟨fun i m H' => m = ds.length - i ∧ i ≤ ds.length ∧ ∃ acc xs L', H' D = some (.lst xs) ∧ L' D = none ∧ acc.length ≤ i ∧ RepL K H' acc xs ∧ RepM K H' L' ∧ Ext L H L' H' ∧ Stb H1 H' ∧ compD g tt te (wipeD δ g.slots) (ds.drop i) acc L' k,
    ⟨ds.length, by simp, Nat.zero_le _, [], [], L1, upd_same, m1.free hD, Nat.le_refl _, rfl, m1.same (same_new hD), fun b o e1 e2 => ?_, .of_same (same_new hD), q⟩, ?_⟩
  · obtain ⟨e3, e4⟩ := x1 b o e1 e2
    exact ⟨same_new hD b o e3, e4⟩
  rintro i m H' ⟨rfl, hi, acc, xs, L', hx, hLD, hacc, r', m', x', s', q'⟩
  by_cases hlt : i < ds.length
  · refine .inr ⟨I.go H' s' i hlt, fun H2 => i + 1 ≤ ds.length ∧ ∃ acc xs L', H2 D = some (.lst xs) ∧ L' D = none ∧ acc.length ≤ i + 1 ∧ RepL K H2 acc xs ∧ RepM K H2 L' ∧ Ext L H L' H2 ∧ Stb H1 H2 ∧ compD g tt te (wipeD δ g.slots) (ds.drop (i + 1)) acc L' k,
      fun H2 z => ⟨ds.length - (i + 1), by omega, rfl, z⟩, fun x H2 y => ?_⟩
    rw [drop_cons hlt] at q'
    obtain ⟨rx, s2, k2⟩ := I.yld H' s' i x H2 y ds[i] (List.getElem?_eq_getElem hlt)
    obtain ⟨m2, x2⟩ := k2 L' m'
    have q'' : (match g.set ds[i] (wipeD δ g.slots) with
      | some δ1 => tt δ1 L' fun b L2 => if b = true then te δ1 L2 fun d L3 => compD g tt te (wipeD δ g.slots) (ds.drop (i + 1)) (acc ++ [d]) L3 k else compD g tt te (wipeD δ g.slots) (ds.drop (i + 1)) acc L2 k
      | none => False) := q'
    cases e : g.set ds[i] (wipeD δ g.slots) with
    | none => rw [e] at q''; exact q''.elim
    | some δ1 =>
      rw [e] at q''
      refine Tg.run rx (rs1.mono (s'.trans s2)) e fun σ3 rs3 w3 => ⟨?_, ?_⟩
      · rw [w3]
        have ww : ∀ vs : List Nat, ∀ us : List Nat, (∀ u ∈ us, u ∈ vs) → L2.wipe (L2.wipe σ vs) us = L2.wipe σ vs := by
          intro vs us
          induction us with
          | nil => intro _; rfl
          | cons u us ih =>
            intro hu
            show (L2.wipe (L2.wipe σ vs) us).set u none = L2.wipe σ vs
            rw [ih (fun z hz => hu z (List.mem_cons_of_mem _ hz))]
            exact wipe_none (hu u List.mem_cons_self)
        exact ww _ _ fun _ h => h
      · refine lT_bind rs3 m2 q'' fun b L3 H3 q3 m3 rs4 x3 s3 => ?_
        have hx2 := (x2 D _ hx hLD)
        have hx3 := x3 D _ hx2.1 hx2.2
        cases b with
        | true =>
          rw [if_pos rfl] at q3 ⊢
          refine lE_bind rs4 m3 q3 fun d L4 v H4 q4 r4 m4 rs5 x4 s4 => ?_
          have hx4 := x4 D _ hx3.1 hx3.2
          have xall : Ext L H L4 H4 := (((x'.trans (show Ext L' H' L' H2 from x2)).trans x3).trans x4)
          have ne : ∀ b w, L4 b = some w → b ≠ D := fun b w e1 z => by subst z; rw [hx4.2] at e1; cases e1
          have stb : Stb H4 (upd H4 D (.lst (xs ++ [v]))) := fun b => by
            refine ⟨fun ys e1 => ?_, fun o u e1 => ?_⟩
            · rw [upd_ne (fun z => by subst z; rw [hx4.1] at e1; cases e1)]; exact e1
            · rw [upd_ne (fun z => by subst z; rw [hx4.1] at e1; cases e1)]; exact e1
          have hlen := I.len
          refine ⟨xs, hx4.1, by rw [← r'.length]; omega, hlt, acc ++ [d], xs ++ [v], L4, upd_same, hx4.2, by rw [List.length_append]; simpa using hacc, ?_, fun b w e1 => ?_, fun b o e1 e2 => ?_, (((s'.trans s2).trans s3).trans s4).trans stb, q4⟩
          · exact (((r'.mono s2).mono s3).mono s4 |>.append (.cons r4 .nil)).mono stb
          · exact (m4 b w e1).keep (upd_ne (ne b w e1)) stb
          · obtain ⟨a1, a2⟩ := xall b o e1 e2
            exact ⟨by rw [upd_ne (nD b o e1 e2)]; exact a1, a2⟩
        | false =>
          rw [if_neg Bool.false_ne_true] at q3 ⊢
          exact ⟨hlt, acc, xs, L3, hx3.1, hx3.2, by omega, (r'.mono s2).mono s3, m3, (x'.trans (show Ext L' H' L' H2 from x2)).trans x3, (s'.trans s2).trans s3, q3⟩
  · have e : i = ds.length := by omega
    subst e
    rw [List.drop_length] at q'
    exact .inl ⟨I.stop H' s' _ (Nat.le_refl _), fin acc L' D xs H' q' hx hLD r' m' x' nD⟩
theorem fin_frz {K : PySem.W.Frag} {L : MH} {H : Hp} {k : KD} {Q : VK} (p : PostE K L H k Q) (acc : List D) (L' : MH) (D : Addr) (xs : List V) (H' : Hp) (q : k (.fls acc) L') (hx : H' D = some (.lst xs)) (hL : L' D = none) (r : RepL K H' acc xs) (m : RepM K H' L') (x : Ext L H L' H')
    (nD : ∀ b o, H b = some o → L b = none → b ≠ D) (o : Obj) : Q (.ref D) (upd H' D (.frz o (.lst xs))) := by
  have stb : Stb H' (upd H' D (.frz o (.lst xs))) := fun b => by
    refine ⟨fun ys e1 => ?_, fun o u e1 => ?_⟩
    · rw [upd_ne (fun z => by subst z; rw [hx] at e1; cases e1)]; exact e1
    · rw [upd_ne (fun z => by subst z; rw [hx] at e1; cases e1)]; exact e1
  refine p (.fls acc) L' q _ _ ⟨D, xs, rfl, ⟨o, upd_same⟩, r.mono stb⟩ (fun b w e1 => ?_) fun b w e1 e2 => ?_
  · have ne : b ≠ D := fun z => by subst z; rw [hL] at e1; cases e1
    exact (m b w e1).keep (upd_ne ne) stb
  · obtain ⟨a1, a2⟩ := x b w e1 e2
    exact ⟨by rw [upd_ne (nD b w e1 e2)]; exact a1, a2⟩
/-- a new frozen list, owned instead -/
def rOwn (t : DE) : DE := fun δ L k => t δ L fun d L1 => match d with
  | .fls ds => ∀ p, L1 p = none → k (.ref p) (updM L1 p (.lst ds))
  | _ => False
theorem fin_own {K : PySem.W.Frag} {L : MH} {H : Hp} {k : KD} {Q : VK} (p : PostE K L H k Q) (acc : List D) (L' : MH) (D : Addr) (xs : List V) (H' : Hp) (q : ∀ p, L' p = none → k (.ref p) (updM L' p (.lst acc))) (hx : H' D = some (.lst xs)) (hL : L' D = none) (r : RepL K H' acc xs) (m : RepM K H' L') (x : Ext L H L' H')
    (nD : ∀ b o, H b = some o → L b = none → b ≠ D) : Q (.ref D) H' := by
  refine p (.ref D) _ (q D hL) _ _ rfl (fun b w e1 => ?_) fun b w e1 e2 => ?_
  · rcases updM_some e1 with ⟨rfl, rfl⟩ | ⟨ne, e1⟩
    · exact ⟨xs, hx, r⟩
    · exact m b w e1
  · obtain ⟨a1, a2⟩ := x b w e1 e2
    exact ⟨a1, by rw [updM_ne (nD b w e1 e2)]; exact a2⟩
section
variable {elt tg iter : Expr} {ifs : List Expr} {scope : Scope} {own : List (Str × Nat)} {it : DI} {g : Tg} {tt : DT} {te : DE}
abbrev BlkX (X : Cx) (P : Cx → Prop) (scope : Scope) : Prop := ∀ (s : Shared) (H : Hp) (C : Addr) (cl : List (Str × Addr)) (fp : List Addr), P (X.blk s H scope (compEnvC scope cl C X.env) fp)
theorem p_nil : PTs X [] (lT X.K rYes) := ⟨fun pins s σ H Q I ⟨δ, L, k, rs, rm, t, p⟩ => pts_nil.run pins s σ H Q I (p.here rm t)⟩
theorem p_one {c : Expr} {t : DT} (h : PT X c (lT X.K t)) : PTs X [c] (lT X.K t) := pts_one h
theorem e_lc (hN : X.N.Nodup) (hi : PI X tg iter (lI X.K it)) (ok : BlkOk X.N X.env.scope scope own) (ho : own.map (·.2) = g.slots)
    (hg : ∀ (s : Shared) (H : Hp) (C : Addr) (cl : List (Str × Addr)) (fp : List Addr), PG (X.blk s H scope (compEnvC scope cl C X.env) fp) tg (g.tg X.K)) (ht : ∀ (s : Shared) (H : Hp) (C : Addr) (cl : List (Str × Addr)) (fp : List Addr), PTs (X.blk s H scope (compEnvC scope cl C X.env) fp) ifs (lT X.K tt))
    (he : ∀ (s : Shared) (H : Hp) (C : Addr) (cl : List (Str × Addr)) (fp : List Addr), PE (X.blk s H scope (compEnvC scope cl C X.env) fp) elt (lE X.K te)) (hc : X.calm = true := by rfl) (hs : ∀ x, foldedSetIterable iter X.env x = pure x := by intro _; rfl) :
    PE X (.ListComp elt [⟨tg, iter, ifs, 0⟩] scope pos) (lE X.K (rLc it g tt te)) :=
  (frz_of (pe_lc hc hN hi ok hg ht he hs)).mono fun σ H Q ⟨δ, L, k, rs, rm, h, p⟩ => by
    rw [ho]
    exact lc_run rs rm h fun acc L' D xs H' q hx hL r m x nD => ⟨D, xs, rfl, hx, fun o => fin_frz p acc L' D xs H' q hx hL r m x nD o⟩
theorem e_lcO (hN : X.N.Nodup) (hi : PI X tg iter (lI X.K it)) (ok : BlkOk X.N X.env.scope scope own) (ho : own.map (·.2) = g.slots)
    (hg : ∀ (s : Shared) (H : Hp) (C : Addr) (cl : List (Str × Addr)) (fp : List Addr), PG (X.blk s H scope (compEnvC scope cl C X.env) fp) tg (g.tg X.K)) (ht : ∀ (s : Shared) (H : Hp) (C : Addr) (cl : List (Str × Addr)) (fp : List Addr), PTs (X.blk s H scope (compEnvC scope cl C X.env) fp) ifs (lT X.K tt))
    (he : ∀ (s : Shared) (H : Hp) (C : Addr) (cl : List (Str × Addr)) (fp : List Addr), PE (X.blk s H scope (compEnvC scope cl C X.env) fp) elt (lE X.K te)) (hc : X.calm = true := by rfl) (hs : ∀ x, foldedSetIterable iter X.env x = pure x := by intro _; rfl) :
    PE X (.ListComp elt [⟨tg, iter, ifs, 0⟩] scope pos) (lE X.K (rOwn (rLc it g tt te))) :=
  (pe_lc hc hN hi ok hg ht he hs).mono fun σ H Q ⟨δ, L, k, rs, rm, h, p⟩ => by
    rw [ho]
    exact lc_run rs rm h fun acc L' D xs H' q hx hL r m x nD => fin_own p acc L' D xs H' q hx hL r m x nD
/-- behind a statement that leaves a new list: that list frozen -/
theorem ps_frzPost {st : Stmt} {t : TS} (h : PS X st t) : PS X st (fun D σ H => t { D with nx := fun σ' H' => ∃ a xs, H' a = some (.lst xs) ∧ ∀ o, D.nx σ' (upd H' a (.frz o (.lst xs))) } σ H) := by
  refine ⟨fun pins s σ H D I q => ?_⟩
  refine thn (h.run pins s σ H _ I q) fun f s1 z => ?_
  cases f with
  | next =>
    obtain ⟨σ', H', I', a, xs, ha, q'⟩ := z
    obtain ⟨o, I2⟩ := Inv.freeze I' ha
    exact ⟨σ', _, I2, q' o⟩
  | ret u => exact z
  | brk => exact z
  | cont => exact z
/-- name = [..], frozen -/
theorem s_lc {i : Nat} {y : Str} {py spos : Pos} (hN : X.N.Nodup) (hi : PI X tg iter (lI X.K it)) (ok : BlkOk X.N X.env.scope scope own) (ho : own.map (·.2) = g.slots)
    (hg : ∀ (s : Shared) (H : Hp) (C : Addr) (cl : List (Str × Addr)) (fp : List Addr), PG (X.blk s H scope (compEnvC scope cl C X.env) fp) tg (g.tg X.K)) (ht : ∀ (s : Shared) (H : Hp) (C : Addr) (cl : List (Str × Addr)) (fp : List Addr), PTs (X.blk s H scope (compEnvC scope cl C X.env) fp) ifs (lT X.K tt))
    (he : ∀ (s : Shared) (H : Hp) (C : Addr) (cl : List (Str × Addr)) (fp : List Addr), PE (X.blk s H scope (compEnvC scope cl C X.env) fp) elt (lE X.K te))
    (hsw : swapsWith (.ListComp elt [⟨tg, iter, ifs, 0⟩] scope pos) (some (.Name y py)) spos.line X.env = pure true) (hy : X.N[i]? = some y := by rfl) (hyl : X.env.scope.names.lookup y = some .local := by rfl) (hc : X.calm = true := by rfl) (hs : ∀ x, foldedSetIterable iter X.env x = pure x := by intro _; rfl) :
    PS X (.Assign [.Name y py] (.ListComp elt [⟨tg, iter, ifs, 0⟩] scope pos) spos) (lS X.K (rSet (.nm i) (rLc it g tt te))) :=
  (ps_frzPost (ps_setLc hc hN hy hyl hsw hi ok hg ht he hs)).mono fun D σ H ⟨δ, L, E, rs, rm, h, p1, p2, p3, p4⟩ => by
    rw [ho]
    refine lc_run rs rm h fun acc L' D xs H' q hx hL r m x nD => ⟨D, xs, hx, fun o => ?_⟩
    have q' : E.nx (δ.set i (some (.fls acc))) L' := q
    have stb : Stb H' (upd H' D (.frz o (.lst xs))) := fun b => by
      refine ⟨fun ys e1 => ?_, fun o u e1 => ?_⟩
      · rw [upd_ne (fun z => by subst z; rw [hx] at e1; cases e1)]; exact e1
      · rw [upd_ne (fun z => by subst z; rw [hx] at e1; cases e1)]; exact e1
    refine p1 _ L' q' _ _ (((rs.mono (rm.stb x)).mono stb).set (d := .fls acc) (v := .ref D) ⟨D, xs, rfl, ⟨o, upd_same⟩, r.mono stb⟩ i) (fun b w e1 => ?_) fun b w e1 e2 => ?_
    · have ne : b ≠ D := fun z => by subst z; rw [hL] at e1; cases e1
      exact (m b w e1).keep (upd_ne ne) stb
    · obtain ⟨a1, a2⟩ := x b w e1 e2
      exact ⟨by rw [upd_ne (nD b w e1 e2)]; exact a1, a2⟩
/-- name = [..], to be written -/
theorem s_lcO {i : Nat} {y : Str} {py spos : Pos} (hN : X.N.Nodup) (hi : PI X tg iter (lI X.K it)) (ok : BlkOk X.N X.env.scope scope own) (ho : own.map (·.2) = g.slots)
    (hg : ∀ (s : Shared) (H : Hp) (C : Addr) (cl : List (Str × Addr)) (fp : List Addr), PG (X.blk s H scope (compEnvC scope cl C X.env) fp) tg (g.tg X.K)) (ht : ∀ (s : Shared) (H : Hp) (C : Addr) (cl : List (Str × Addr)) (fp : List Addr), PTs (X.blk s H scope (compEnvC scope cl C X.env) fp) ifs (lT X.K tt))
    (he : ∀ (s : Shared) (H : Hp) (C : Addr) (cl : List (Str × Addr)) (fp : List Addr), PE (X.blk s H scope (compEnvC scope cl C X.env) fp) elt (lE X.K te))
    (hsw : swapsWith (.ListComp elt [⟨tg, iter, ifs, 0⟩] scope pos) (some (.Name y py)) spos.line X.env = pure true) (hy : X.N[i]? = some y := by rfl) (hyl : X.env.scope.names.lookup y = some .local := by rfl) (hc : X.calm = true := by rfl) (hs : ∀ x, foldedSetIterable iter X.env x = pure x := by intro _; rfl) :
    PS X (.Assign [.Name y py] (.ListComp elt [⟨tg, iter, ifs, 0⟩] scope pos) spos) (lS X.K (rSet (.nm i) (rOwn (rLc it g tt te)))) :=
  (ps_setLc hc hN hy hyl hsw hi ok hg ht he hs).mono fun D σ H ⟨δ, L, E, rs, rm, h, p1, p2, p3, p4⟩ => by
    rw [ho]
    refine lc_run rs rm h fun acc L' D xs H' q hx hL r m x nD => ?_
    have q' : E.nx (δ.set i (some (.ref D))) (updM L' D (.lst acc)) := q D hL
    refine p1 _ _ q' _ _ ((rs.mono (rm.stb x)).set (d := .ref D) (v := .ref D) rfl i) (fun b w e1 => ?_) fun b w e1 e2 => ?_
    · rcases updM_some e1 with ⟨rfl, rfl⟩ | ⟨ne, e1⟩
      · exact ⟨xs, hx, r⟩
      · exact m b w e1
    · obtain ⟨a1, a2⟩ := x b w e1 e2
      exact ⟨a1, by rw [updM_ne (nD b w e1 e2)]; exact a2⟩
end
end

/-! ### a, b = x, y -/
def rPar (is : List Nat) (ts : List DE) : DS := fun E δ L => rArgs ts δ L fun ds L1 => match setAll is ds δ with
  | some δ1 => E.nx δ1 L1
  | none => False
section
variable {X : Cx} {pos : Pos}
theorem s_par {i j : Nat} {x y : Str} {a b : Expr} {ts : List DE} {px py pt : Pos} {kt k2 pt2} (hN : X.N.Nodup) (ha : PAD X [a, b] ts) (hi : X.N[i]? = some x := by rfl) (hj : X.N[j]? = some y := by rfl) (hij : i ≠ j := by decide)
    (hx : X.env.scope.names.lookup x = some .local := by rfl) (hy : X.env.scope.names.lookup y = some .local := by rfl) (hw : swappedStores [.Tuple [.Name x px, .Name y py] kt pt] (.Tuple [a, b] k2 pt2) X.env = pure (some [x, y]) := by rfl)
    (hc : X.calm = true := by rfl) (hs : swapsWithSole [.Tuple [.Name x px, .Name y py] kt pt] (.Tuple [a, b] k2 pt2) pos.line X.env = pure false := by rfl) :
    PS X (.Assign [.Tuple [.Name x px, .Name y py] kt pt] (.Tuple [a, b] k2 pt2) pos) (lS X.K (rPar [i, j] ts)) := (ps_par hc hN hi hj hij hx hy ha hw hs).mono fun D σ H ⟨δ, L, E, rs, rm, h, p1, _, _, _⟩ =>
  args_of rs rm h fun ds L1 vs H1 q _ r m1 rs1 x1 _ => by
    have q' : (match setAll [i, j] ds δ with
      | some δ1 => E.nx δ1 L1
      | none => False) := q
    match ds, q', r with
    | [d, e], q', r =>
      obtain ⟨v, w, rfl, r1, r2⟩ := two_of r
      exact ⟨v, w, rfl, p1 _ _ q' _ _ ((rs1.set r1 i).set r2 j) m1 x1⟩
    | [], q', _ => exact q'.elim
    | [d], q', _ => exact q'.elim
    | d :: e :: f :: r, q', _ => exact q'.elim
theorem s_par3 {i j l : Nat} {x y z : Str} {a b c : Expr} {ts : List DE} {px py pz pt : Pos} {kt k2 pt2} (hN : X.N.Nodup) (ha : PAD X [a, b, c] ts) (hi : X.N[i]? = some x := by rfl) (hj : X.N[j]? = some y := by rfl) (hl : X.N[l]? = some z := by rfl) (hij : i ≠ j := by decide) (hil : i ≠ l := by decide) (hjl : j ≠ l := by decide)
    (hx : X.env.scope.names.lookup x = some .local := by rfl) (hy : X.env.scope.names.lookup y = some .local := by rfl) (hz : X.env.scope.names.lookup z = some .local := by rfl) (hw : swappedStores [.Tuple [.Name x px, .Name y py, .Name z pz] kt pt] (.Tuple [a, b, c] k2 pt2) X.env = pure (some [x, y, z]) := by rfl)
    (hc : X.calm = true := by rfl) (hs : swapsWithSole [.Tuple [.Name x px, .Name y py, .Name z pz] kt pt] (.Tuple [a, b, c] k2 pt2) pos.line X.env = pure false := by rfl) :
    PS X (.Assign [.Tuple [.Name x px, .Name y py, .Name z pz] kt pt] (.Tuple [a, b, c] k2 pt2) pos) (lS X.K (rPar [i, j, l] ts)) := (ps_par3 hc hN hi hj hl hij hil hjl hx hy hz ha hw hs).mono fun D σ H ⟨δ, L, E, rs, rm, h, p1, _, _, _⟩ =>
  args_of rs rm h fun ds L1 vs H1 q _ r m1 rs1 x1 _ => by
    have q' : (match setAll [i, j, l] ds δ with
      | some δ1 => E.nx δ1 L1
      | none => False) := q
    match ds, q', r with
    | [d, e, f], q', r =>
      obtain ⟨v, r', rfl, r1, r2⟩ := r
      obtain ⟨w, u, rfl, r2, r3⟩ := two_of r2
      exact ⟨v, w, u, rfl, p1 _ _ q' _ _ (((rs1.set r1 i).set r2 j).set r3 l) m1 x1⟩
    | [], q', _ => exact q'.elim
    | [d], q', _ => exact q'.elim
    | [d, e], q', _ => exact q'.elim
    | d :: e :: f :: g :: r, q', _ => exact q'.elim
end
end DL

/-! DL, part f: promises of defs, calls, the facts of the top, the law's end. -/
namespace DL
open PySem PySem.Spec PyProof.Rows L2

/-! ### promises over data -/
abbrev SpD := List D → MH → KD → Prop
def lSp (K : PySem.W.Frag) (sp : SpD) : Sp := fun vs H Q _ => ∃ ds L k, RepL K H ds vs ∧ RepM K H L ∧ sp ds L k ∧ PostE K L H k Q
/-- a def of the module that keeps a promise, at a level -/
structure CallD (P : Program) (w : World) (K : PySem.W.Frag) (mg : Str → Option Value) (base : Heap) (k : Nat) (x : Str) (sp : SpD) : Prop where
  ex : ∃ (f : Addr) (fd : FuncData) (ps : List Str), FnOk P w K mg base CX0 k f fd ps (lSp K sp) ∧ mg x = some (.ref f) ∧ PySem.W.keepIn K (.ref f) = true ∧ Binds K fd ps []
theorem CallD.mono {P : Program} {w : World} {K : PySem.W.Frag} {mg : Str → Option Value} {base : Heap} {j k : Nat} {x : Str} {sp : SpD} (c : CallD P w K mg base j x sp) (h : j ≤ k) : CallD P w K mg base k x sp :=
  let ⟨f, fd, ps, h1, h2⟩ := c.ex
  ⟨f, fd, ps, h1.mono h, h2⟩
theorem CallD.imp {P : Program} {w : World} {K : PySem.W.Frag} {mg : Str → Option Value} {base : Heap} {k : Nat} {x : Str} {sp sp' : SpD} (c : CallD P w K mg base k x sp) (h : ∀ ds L q, sp' ds L q → sp ds L q) : CallD P w K mg base k x sp' :=
  let ⟨f, fd, ps, h1, h2⟩ := c.ex
  ⟨f, fd, ps, h1.imp fun vs H Q E ⟨ds, L, q, r, m, s, p⟩ => ⟨ds, L, q, r, m, h ds L q s, p⟩, h2⟩
def rCall (sp : SpD) (ts : List DE) : DE := fun δ L k => rArgs ts δ L fun ds L1 => sp ds L1 k
section
variable {X : Cx} {x : Str} {p pos : Pos} {e : Expr} {es : List Expr} {ts : List DE} {sp : SpD} {j k : Nat}
theorem e_call (c : CallD X.prog X.w X.K X.mg X.base k x sp) (hr : Room j X.A) (ha : PAD X (e :: es) ts) (hk : k ≤ j := by decide) (hg : Gl X x := by rfl) (hdb : (x == ("__debug__" : Str)) = false := by decide)
    (he : starEach (e :: es) X.env = (false, eval e X.env) :: starEach es X.env := by rfl) (hpl : (backTo pos (starEach es X.env)).any (·.1) = false := by rfl) : PE X (.Call (.Name x p) (e :: es) [] pos) (lE X.K (rCall sp ts)) := by
  obtain ⟨f, fd, ps, h1, h2, h3, h4⟩ := c.ex
  exact (pe_call h1 (hr.mono hk) hg h2 h3 h4 .nil pass0 ha hdb he hpl).mono fun σ H Q h => lE_args h fun ds L' vs H' q z _ r m p => ⟨ds, L', q, by rw [List.append_nil]; exact r, m, z, p⟩
theorem e_call0 (c : CallD X.prog X.w X.K X.mg X.base k x sp) (hr : Room j X.A) (hk : k ≤ j := by decide) (hg : Gl X x := by rfl) (hdb : (x == ("__debug__" : Str)) = false := by decide) : PE X (.Call (.Name x p) [] [] pos) (lE X.K (rCall sp [])) := by
  obtain ⟨f, fd, ps, h1, h2, h3, h4⟩ := c.ex
  exact (pe_call0 h1 (hr.mono hk) hg h2 h3 h4 .nil pass0 hdb).mono fun σ H Q ⟨δ, L, q, rs, rm, t, po⟩ => ⟨[], L, q, rfl, rm, t, po⟩
end
/-- a def as it stands behind the top -/
structure DefAt (K : PySem.W.Frag) (mg : Str → Option Value) (x : Str) (st : Stmt) (ps : List Str) : Prop where
  ex : ∃ (f : Addr) (fd : FuncData), FunD K x x (defArgs st) (defBody st) (defScope st) [] [] f fd ∧ mg x = some (.ref f) ∧ Binds K fd ps []
section
variable {P : Program} {w : World} {K : PySem.W.Frag} {mg : Str → Option Value} {base : Heap}
/-- THE RULE: a def by its body's derivation and that derivation's reading -/
theorem mkOk {x : Str} {st : Stmt} {N ps : List Str} {k : Nat} {sp : SpD} {f : Addr} {fd : FuncData} (F : FunD K x x (defArgs st) (defBody st) (defScope st) [] [] f fd) (S : FnScope N ps (defScope st)) (len : ∀ ds L q, sp ds L q → ds.length = ps.length) (t : DS)
    (der : ∀ (f : Addr) (cdv : Value) (A : Around) (outer : List Env) (s : Shared) (H : Hp) (E : XK), Room k (A.deeper (envOfC x (defScope st) s.heap.objs.size f cdv)) →
      PSs (cxOf CX0 P w K mg base N x (defScope st) f cdv A outer s H E).nox (defBody st) (lS K t))
    (rd : ∀ ds L q, sp ds L q → t { nx := fun _ L' => q .non L', rt := q } (startD N ds) L) : FnOk P w K mg base CX0 (k + 1) f fd ps (lSp K sp) := by
  refine F.ok S (fun vs H Q E ⟨ds, L, q, r, _, s, _⟩ => by rw [← r.length]; exact len ds L q s) (fun cdv A outer s H vs Q E hr ⟨ds, L, q, r, m, z, p⟩ => ⟨lS K t, (der f cdv A outer s H E hr).nox, ?_⟩)
  refine ⟨startD N ds, L, { nx := fun _ L' => q .non L', rt := q }, startD_rep r, m, rd ds L q z, ?_, p, ?_, ?_⟩
  · exact fun δ L' q' σ' H' _ m' x' => p .non L' q' .non H' rfl m' x'
  · exact fun δ L' q' => q'.elim
  · exact fun δ L' q' => q'.elim
theorem mk {x : Str} {st : Stmt} {N ps : List Str} {k : Nat} {sp : SpD} (D : DefAt K mg x st ps) (S : FnScope N ps (defScope st)) (len : ∀ ds L q, sp ds L q → ds.length = ps.length) (t : DS)
    (der : ∀ (f : Addr) (cdv : Value) (A : Around) (outer : List Env) (s : Shared) (H : Hp) (E : XK), Room k (A.deeper (envOfC x (defScope st) s.heap.objs.size f cdv)) →
      PSs (cxOf CX0 P w K mg base N x (defScope st) f cdv A outer s H E).nox (defBody st) (lS K t))
    (rd : ∀ ds L q, sp ds L q → t { nx := fun _ L' => q .non L', rt := q } (startD N ds) L) : CallD P w K mg base (k + 1) x sp := by
  obtain ⟨f, fd, F, h1, h2⟩ := D.ex
  exact ⟨f, fd, ps, mkOk F S len t der rd, h1, F.kp, h2⟩
/-- .. by a recursion's depth: nothing can be asked at level 0 -/
theorem CallD.zero {x : Str} {st : Stmt} {ps : List Str} {sp : SpD} (D : DefAt K mg x st ps) (no : ∀ ds L q, ¬ sp ds L q) : CallD P w K mg base 0 x sp := by
  obtain ⟨f, fd, F, h1, h2⟩ := D.ex
  exact ⟨f, fd, ps, ⟨fun vs H Q E ⟨ds, L, q, _, _, s, _⟩ => absurd s (no ds L q), fun A outer s H args us vs Q E _ _ _ _ ⟨ds, L, q, _, _, z, _⟩ => absurd z (no ds L q)⟩, h1, F.kp, h2⟩
end
theorem room_hu {k : Nat} {A : Around} (r : Room k A) : A.units + 160 < cLine := by have := r.un; omega

/-! ### constants of the top, as data -/
mutual
def repB (K : PySem.W.Frag) : D → Value → Bool
  | .non, .none => true
  | .bl b, .bool c => b == c
  | .int i, .int j _ => decide (i = j)
  | .str x, .str y _ => decide (x = y)
  | .ty n, .type m => decide (n = m)
  | .tup ds, .ref a => (match K.lookup a with
    | some ⟨.type c, _, .seq its _, _⟩ => decide (c = "tuple") && (decide (its.size ≤ sizeLine) && repBs K ds its.toList)
    | _ => false)
  | _, _ => false
def repBs (K : PySem.W.Frag) : List D → List Value → Bool
  | [], [] => true
  | d :: ds, u :: us => repB K d u && repBs K ds us
  | _, _ => false
end
mutual
theorem repB_ok {K : PySem.W.Frag} : ∀ {d : D} {u : Value}, repB K d u = true → ∃ v, RelV v u ∧ ∀ H, Rep K H d v
  | .non, u, h => by
    cases u <;> first | (exact ⟨.non, rfl, fun _ => rfl⟩) | (simp [repB] at h)
  | .bl b, u, h => by
    cases u <;> first | (simp [repB] at h; done) | (simp only [repB, beq_iff_eq, decide_eq_true_eq] at h; subst h; exact ⟨.bl _, rfl, fun _ => rfl⟩)
  | .int b, u, h => by
    cases u <;> first | (simp [repB] at h; done) | (simp only [repB, beq_iff_eq, decide_eq_true_eq] at h; subst h; exact ⟨.int _, ⟨_, rfl⟩, fun _ => rfl⟩)
  | .str b, u, h => by
    cases u <;> first | (simp [repB] at h; done) | (simp only [repB, beq_iff_eq, decide_eq_true_eq] at h; subst h; exact ⟨.str _, ⟨_, rfl⟩, fun _ => rfl⟩)
  | .ty b, u, h => by
    cases u <;> first | (simp [repB] at h; done) | (simp only [repB, beq_iff_eq, decide_eq_true_eq] at h; subst h; exact ⟨.ty _, rfl, fun _ => rfl⟩)
  | .tup ds, u, h => by
    cases u <;> first | (simp [repB] at h; done) | skip
    rename_i a
    have h' : (match K.lookup a with
      | some ⟨.type c, _, .seq its _, _⟩ => decide (c = "tuple") && (decide (its.size ≤ sizeLine) && repBs K ds its.toList)
      | _ => false) = true := by simpa only [repB] using h
    cases q : K.lookup a with
    | none => rw [q] at h'; cases h'
    | some o =>
      obtain ⟨oc, od, dt, osl⟩ := o
      rw [q] at h'
      cases oc with
      | type c =>
        cases dt with
        | seq its n =>
          have h2 : (decide (c = "tuple") && (decide (its.size ≤ sizeLine) && repBs K ds its.toList)) = true := h'
          simp only [Bool.and_eq_true, decide_eq_true_eq] at h2
          obtain ⟨h3, h4, h5⟩ := h2
          subst h3
          obtain ⟨vs, r1, r2⟩ := repBs_ok h5
          exact ⟨.ref a, rfl, fun H => ⟨a, vs, rfl, .inr ⟨_, its, n, q, rfl, rfl, h4, r1⟩, r2 H⟩⟩
        | _ => cases h'
      | _ => cases dt <;> cases h'
  | .fls ds, u, h => by cases u <;> simp [repB] at h
  | .ref ds, u, h => by cases u <;> simp [repB] at h
  | .scr ds, u, h => by cases u <;> simp [repB] at h
theorem repBs_ok {K : PySem.W.Frag} : ∀ {ds : List D} {us : List Value}, repBs K ds us = true → ∃ vs, Vals vs us ∧ ∀ H, RepL K H ds vs
  | [], us, h => by
    cases us with
    | nil => exact ⟨[], .nil, fun _ => rfl⟩
    | cons _ _ => simp [repBs] at h
  | d :: ds, us, h => by
    cases us with
    | nil => simp [repBs] at h
    | cons u us =>
      have h' : repB K d u = true ∧ repBs K ds us = true := by simpa [repBs] using h
      obtain ⟨v, r1, r2⟩ := repB_ok h'.1
      obtain ⟨vs, r3, r4⟩ := repBs_ok h'.2
      exact ⟨v :: vs, .cons r1 r3, fun H => .cons (r2 H) (r4 H)⟩
end
def constB (K : PySem.W.Frag) (c : Str × D) : Bool := match PySem.W.nsIn K mainGlobals c.1 with
  | some (some u) => repB K c.2 u
  | _ => false
theorem constB_ok {K : PySem.W.Frag} {h : Heap} {mg : Str → Option Value} (X : K.In h) (G : h.Ns mainGlobals mg) {x : Str} {d : D} (c : constB K (x, d) = true) : GRep K mg x d := by
  have c' : (match PySem.W.nsIn K mainGlobals x with
    | some (some u) => repB K d u
    | _ => false) = true := c
  cases q : PySem.W.nsIn K mainGlobals x with
  | none => rw [q] at c'; cases c'
  | some o =>
    rw [q] at c'
    cases o with
    | none => cases c'
    | some u =>
      obtain ⟨v, r1, r2⟩ := repB_ok c'
      exact ⟨u, v, PySem.W.mg_of X G q, r1, r2⟩

/-! ### the Hook -/
abbrev AlX : Type := He.AlD × Bool
def obsX (fa : List He.Fa) (fn : List He.DefD) (cs : List (Str × D)) (K : PySem.W.Frag) : AlX := (He.obsD fa fn K, cs.all fun c => constB K c)
def valX (fn : List He.DefD) : AlX := (He.valD fn, true)
def obsXG (n : Nat) (fa : List He.Fa) (fn : List He.DefD) (cs : List (Str × D)) (g : Addr → Option Obj) : AlX := obsX fa fn cs (He.frG g (He.asD g n))
def SaysX (fa : List He.Fa) (fn : List He.DefD) (cs : List (Str × D)) (K : PySem.W.Frag) : Prop := obsX fa fn cs K = valX fn
def hookX (n : Nat) (fa : List He.Fa) (fn : List He.DefD) (cs : List (Str × D)) : PySem.W.Hook where
  α := AlX
  obs := fun s => obsXG n fa fn cs s.heap.get?
  val := fun _ => valX fn
  says := fun _ h => ∃ K : PySem.W.Frag, K.In h ∧ SaysX fa fn cs K
  of := fun _ _ e => ⟨_, He.frG_in, e⟩
  keeps := fun _ _ _ ⟨K, hK, c⟩ k => ⟨K, PySem.W.Frag.In.keeps hK k, c⟩
theorem obsXG_eq {n : Nat} {fa : List He.Fa} {fn : List He.DefD} {cs : List (Str × D)} {g : Addr → Option Obj} {s : Shared} (h : ∀ a, g a = s.heap.get? a) : obsXG n fa fn cs g = (hookX n fa fn cs).obs s := by
  have e : g = s.heap.get? := funext h
  rw [e] <;> rfl
/-- what the top has written, for the defs' proofs -/
structure TopIs (fa : List He.Fa) (fn : List He.DefD) (cs : List (Str × D)) (K : PySem.W.Frag) (mg : Str → Option Value) : Prop where
  ex : ∃ h : Heap, K.In h ∧ h.Ns mainGlobals mg
  says : SaysX fa fn cs K
section
variable {fa : List He.Fa} {fn : List He.DefD} {cs : List (Str × D)} {K : PySem.W.Frag} {mg : Str → Option Value}
theorem TopIs.d (T : TopIs fa fn cs K mg) : He.SaysD fa fn K := congrArg (fun z : AlX => z.1) T.says
theorem TopIs.fact (T : TopIs fa fn cs K mg) (i : Nat) {f : He.Fa} (h : fa[i]? = some f := by rfl) : f.ok K = true := T.d.fact i h
theorem TopIs.free (T : TopIs fa fn cs K mg) (i : Nat) {x : Str} (h : fa[i]? = some (.free x) := by rfl) : mg x = none := let ⟨_, X, G⟩ := T.ex; He.free_ok X G (T.fact i h)
theorem TopIs.glo (T : TopIs fa fn cs K mg) (i : Nat) {x : Str} (h : fa[i]? = some (.glo x) := by rfl) : mg x = some (.ref (He.ga K x)) := let ⟨_, X, G⟩ := T.ex; He.glo_ok X G (T.fact i h)
theorem TopIs.con (T : TopIs fa fn cs K mg) (i : Nat) {x : Str} {d : D} (h : cs[i]? = some (x, d) := by rfl) : GRep K mg x d := by
  obtain ⟨_, X, G⟩ := T.ex
  have e : (cs.all fun c => constB K c) = true := congrArg (fun z : AlX => z.2) T.says
  exact constB_ok X G (List.all_eq_true.mp e (x, d) (List.mem_of_getElem? h))
/-- a plain def: the i-th of fn, its name the j-th fact -/
theorem TopIs.defAt (T : TopIs fa fn cs K mg) (i j : Nat) {x : Str} {st : Stmt} {ps : List Str} (h : fn[i]? = some ⟨(x, none), x, x, defArgs st, defBody st, defScope st, [], []⟩) (hj : fa[j]? = some (.glo x))
    (hb : ∀ (kV doc pm : Value) (an : Option Addr) (cdv ct : Value) (us : List Value), us.length = ps.length → bindArgs (PySem.W.fnOf x x (defArgs st) (defBody st) (defScope st) .none kV doc pm an cdv ct) ⟨us, []⟩ = pure (ps.zip us)) : DefAt K mg x st ps := by
  obtain ⟨fd, F⟩ := T.d.def_ i h
  exact ⟨_, fd, F, T.glo j hj, F.bindsN hb⟩
end

/-! ### the law's end -/
/-- the law's promise: a list of at most n ints comes in, True comes out -/
def spLaw (n : Nat) : SpD := fun ds _ k => ∃ ns : List Int, ds = [.scr ns] ∧ ns.length ≤ n ∧ ∀ L', k (.bl true) L'
theorem law_sp {K : PySem.W.Frag} {n : Nat} (H : Hp) (a : Addr) (ns : List Int) (hl : ns.length ≤ n) (hO : Only H) (hS : SqL K H a (ns.map V.int)) : lSp K (spLaw n) [.ref a] H (fun v _ => v = .bl true) fun _ _ _ => False := by
  refine ⟨[.scr ns], fun _ => none, fun d _ => d = .bl true, ⟨.ref a, [], rfl, ⟨a, rfl, ?_⟩, rfl⟩, (fun _ _ e => nomatch e), ⟨ns, rfl, hl, fun _ => rfl⟩, fun d L' e v H' r m x => ?_⟩
  · rcases hS with (h | ⟨o, h⟩) | h
    · rcases hO a with e | ⟨o, xs, e⟩
      · rw [e] at h; cases h
      · rw [e] at h; cases h
    · exact .inl ⟨o, h⟩
    · exact .inr h
  · subst e
    exact r
end DL

/-! DL, part g: lemmas that run readings by simp; loop rules. Printed by mkDLg.py -/
namespace DL
open PySem L2
section
variable {α : Type} {a b : DE} {t u : DS} {c d : DT} {E : DEnds} {δ : DSt} {L : MH} {k : KD} {kb : Bool → MH → Prop} {f : D2}
@[simp] theorem slot_0 {x0 : Option D} {l : DSt} : slot (x0 :: l) 0 = x0 := rfl
@[simp ↓] theorem rv_0 {y : D} {l : DSt} : rV 0 (some y :: l) L k = k y L := rfl
@[simp] theorem dset_0 {x0 y : Option D} {l : DSt} : List.set (x0 :: l) 0 y = y :: l := rfl
@[simp] theorem slot_1 {x0 x1 : Option D} {l : DSt} : slot (x0 :: x1 :: l) 1 = x1 := rfl
@[simp ↓] theorem rv_1 {x0 : Option D} {y : D} {l : DSt} : rV 1 (x0 :: some y :: l) L k = k y L := rfl
@[simp] theorem dset_1 {x0 x1 y : Option D} {l : DSt} : List.set (x0 :: x1 :: l) 1 y = x0 :: y :: l := rfl
@[simp] theorem slot_2 {x0 x1 x2 : Option D} {l : DSt} : slot (x0 :: x1 :: x2 :: l) 2 = x2 := rfl
@[simp ↓] theorem rv_2 {x0 x1 : Option D} {y : D} {l : DSt} : rV 2 (x0 :: x1 :: some y :: l) L k = k y L := rfl
@[simp] theorem dset_2 {x0 x1 x2 y : Option D} {l : DSt} : List.set (x0 :: x1 :: x2 :: l) 2 y = x0 :: x1 :: y :: l := rfl
@[simp] theorem slot_3 {x0 x1 x2 x3 : Option D} {l : DSt} : slot (x0 :: x1 :: x2 :: x3 :: l) 3 = x3 := rfl
@[simp ↓] theorem rv_3 {x0 x1 x2 : Option D} {y : D} {l : DSt} : rV 3 (x0 :: x1 :: x2 :: some y :: l) L k = k y L := rfl
@[simp] theorem dset_3 {x0 x1 x2 x3 y : Option D} {l : DSt} : List.set (x0 :: x1 :: x2 :: x3 :: l) 3 y = x0 :: x1 :: x2 :: y :: l := rfl
@[simp] theorem slot_4 {x0 x1 x2 x3 x4 : Option D} {l : DSt} : slot (x0 :: x1 :: x2 :: x3 :: x4 :: l) 4 = x4 := rfl
@[simp ↓] theorem rv_4 {x0 x1 x2 x3 : Option D} {y : D} {l : DSt} : rV 4 (x0 :: x1 :: x2 :: x3 :: some y :: l) L k = k y L := rfl
@[simp] theorem dset_4 {x0 x1 x2 x3 x4 y : Option D} {l : DSt} : List.set (x0 :: x1 :: x2 :: x3 :: x4 :: l) 4 y = x0 :: x1 :: x2 :: x3 :: y :: l := rfl
@[simp] theorem slot_5 {x0 x1 x2 x3 x4 x5 : Option D} {l : DSt} : slot (x0 :: x1 :: x2 :: x3 :: x4 :: x5 :: l) 5 = x5 := rfl
@[simp ↓] theorem rv_5 {x0 x1 x2 x3 x4 : Option D} {y : D} {l : DSt} : rV 5 (x0 :: x1 :: x2 :: x3 :: x4 :: some y :: l) L k = k y L := rfl
@[simp] theorem dset_5 {x0 x1 x2 x3 x4 x5 y : Option D} {l : DSt} : List.set (x0 :: x1 :: x2 :: x3 :: x4 :: x5 :: l) 5 y = x0 :: x1 :: x2 :: x3 :: x4 :: y :: l := rfl
@[simp] theorem slot_6 {x0 x1 x2 x3 x4 x5 x6 : Option D} {l : DSt} : slot (x0 :: x1 :: x2 :: x3 :: x4 :: x5 :: x6 :: l) 6 = x6 := rfl
@[simp ↓] theorem rv_6 {x0 x1 x2 x3 x4 x5 : Option D} {y : D} {l : DSt} : rV 6 (x0 :: x1 :: x2 :: x3 :: x4 :: x5 :: some y :: l) L k = k y L := rfl
@[simp] theorem dset_6 {x0 x1 x2 x3 x4 x5 x6 y : Option D} {l : DSt} : List.set (x0 :: x1 :: x2 :: x3 :: x4 :: x5 :: x6 :: l) 6 y = x0 :: x1 :: x2 :: x3 :: x4 :: x5 :: y :: l := rfl
@[simp] theorem slot_7 {x0 x1 x2 x3 x4 x5 x6 x7 : Option D} {l : DSt} : slot (x0 :: x1 :: x2 :: x3 :: x4 :: x5 :: x6 :: x7 :: l) 7 = x7 := rfl
@[simp ↓] theorem rv_7 {x0 x1 x2 x3 x4 x5 x6 : Option D} {y : D} {l : DSt} : rV 7 (x0 :: x1 :: x2 :: x3 :: x4 :: x5 :: x6 :: some y :: l) L k = k y L := rfl
@[simp] theorem dset_7 {x0 x1 x2 x3 x4 x5 x6 x7 y : Option D} {l : DSt} : List.set (x0 :: x1 :: x2 :: x3 :: x4 :: x5 :: x6 :: x7 :: l) 7 y = x0 :: x1 :: x2 :: x3 :: x4 :: x5 :: x6 :: y :: l := rfl
@[simp] theorem slot_8 {x0 x1 x2 x3 x4 x5 x6 x7 x8 : Option D} {l : DSt} : slot (x0 :: x1 :: x2 :: x3 :: x4 :: x5 :: x6 :: x7 :: x8 :: l) 8 = x8 := rfl
@[simp ↓] theorem rv_8 {x0 x1 x2 x3 x4 x5 x6 x7 : Option D} {y : D} {l : DSt} : rV 8 (x0 :: x1 :: x2 :: x3 :: x4 :: x5 :: x6 :: x7 :: some y :: l) L k = k y L := rfl
@[simp] theorem dset_8 {x0 x1 x2 x3 x4 x5 x6 x7 x8 y : Option D} {l : DSt} : List.set (x0 :: x1 :: x2 :: x3 :: x4 :: x5 :: x6 :: x7 :: x8 :: l) 8 y = x0 :: x1 :: x2 :: x3 :: x4 :: x5 :: x6 :: x7 :: y :: l := rfl
@[simp] theorem slot_9 {x0 x1 x2 x3 x4 x5 x6 x7 x8 x9 : Option D} {l : DSt} : slot (x0 :: x1 :: x2 :: x3 :: x4 :: x5 :: x6 :: x7 :: x8 :: x9 :: l) 9 = x9 := rfl
@[simp ↓] theorem rv_9 {x0 x1 x2 x3 x4 x5 x6 x7 x8 : Option D} {y : D} {l : DSt} : rV 9 (x0 :: x1 :: x2 :: x3 :: x4 :: x5 :: x6 :: x7 :: x8 :: some y :: l) L k = k y L := rfl
@[simp] theorem dset_9 {x0 x1 x2 x3 x4 x5 x6 x7 x8 x9 y : Option D} {l : DSt} : List.set (x0 :: x1 :: x2 :: x3 :: x4 :: x5 :: x6 :: x7 :: x8 :: x9 :: l) 9 y = x0 :: x1 :: x2 :: x3 :: x4 :: x5 :: x6 :: x7 :: x8 :: y :: l := rfl
@[simp] theorem slot_10 {x0 x1 x2 x3 x4 x5 x6 x7 x8 x9 x10 : Option D} {l : DSt} : slot (x0 :: x1 :: x2 :: x3 :: x4 :: x5 :: x6 :: x7 :: x8 :: x9 :: x10 :: l) 10 = x10 := rfl
@[simp ↓] theorem rv_10 {x0 x1 x2 x3 x4 x5 x6 x7 x8 x9 : Option D} {y : D} {l : DSt} : rV 10 (x0 :: x1 :: x2 :: x3 :: x4 :: x5 :: x6 :: x7 :: x8 :: x9 :: some y :: l) L k = k y L := rfl
@[simp] theorem dset_10 {x0 x1 x2 x3 x4 x5 x6 x7 x8 x9 x10 y : Option D} {l : DSt} : List.set (x0 :: x1 :: x2 :: x3 :: x4 :: x5 :: x6 :: x7 :: x8 :: x9 :: x10 :: l) 10 y = x0 :: x1 :: x2 :: x3 :: x4 :: x5 :: x6 :: x7 :: x8 :: x9 :: y :: l := rfl
@[simp] theorem slot_11 {x0 x1 x2 x3 x4 x5 x6 x7 x8 x9 x10 x11 : Option D} {l : DSt} : slot (x0 :: x1 :: x2 :: x3 :: x4 :: x5 :: x6 :: x7 :: x8 :: x9 :: x10 :: x11 :: l) 11 = x11 := rfl
@[simp ↓] theorem rv_11 {x0 x1 x2 x3 x4 x5 x6 x7 x8 x9 x10 : Option D} {y : D} {l : DSt} : rV 11 (x0 :: x1 :: x2 :: x3 :: x4 :: x5 :: x6 :: x7 :: x8 :: x9 :: x10 :: some y :: l) L k = k y L := rfl
@[simp] theorem dset_11 {x0 x1 x2 x3 x4 x5 x6 x7 x8 x9 x10 x11 y : Option D} {l : DSt} : List.set (x0 :: x1 :: x2 :: x3 :: x4 :: x5 :: x6 :: x7 :: x8 :: x9 :: x10 :: x11 :: l) 11 y = x0 :: x1 :: x2 :: x3 :: x4 :: x5 :: x6 :: x7 :: x8 :: x9 :: x10 :: y :: l := rfl
@[simp] theorem slot_12 {x0 x1 x2 x3 x4 x5 x6 x7 x8 x9 x10 x11 x12 : Option D} {l : DSt} : slot (x0 :: x1 :: x2 :: x3 :: x4 :: x5 :: x6 :: x7 :: x8 :: x9 :: x10 :: x11 :: x12 :: l) 12 = x12 := rfl
@[simp ↓] theorem rv_12 {x0 x1 x2 x3 x4 x5 x6 x7 x8 x9 x10 x11 : Option D} {y : D} {l : DSt} : rV 12 (x0 :: x1 :: x2 :: x3 :: x4 :: x5 :: x6 :: x7 :: x8 :: x9 :: x10 :: x11 :: some y :: l) L k = k y L := rfl
@[simp] theorem dset_12 {x0 x1 x2 x3 x4 x5 x6 x7 x8 x9 x10 x11 x12 y : Option D} {l : DSt} : List.set (x0 :: x1 :: x2 :: x3 :: x4 :: x5 :: x6 :: x7 :: x8 :: x9 :: x10 :: x11 :: x12 :: l) 12 y = x0 :: x1 :: x2 :: x3 :: x4 :: x5 :: x6 :: x7 :: x8 :: x9 :: x10 :: x11 :: y :: l := rfl
@[simp] theorem slot_13 {x0 x1 x2 x3 x4 x5 x6 x7 x8 x9 x10 x11 x12 x13 : Option D} {l : DSt} : slot (x0 :: x1 :: x2 :: x3 :: x4 :: x5 :: x6 :: x7 :: x8 :: x9 :: x10 :: x11 :: x12 :: x13 :: l) 13 = x13 := rfl
@[simp ↓] theorem rv_13 {x0 x1 x2 x3 x4 x5 x6 x7 x8 x9 x10 x11 x12 : Option D} {y : D} {l : DSt} : rV 13 (x0 :: x1 :: x2 :: x3 :: x4 :: x5 :: x6 :: x7 :: x8 :: x9 :: x10 :: x11 :: x12 :: some y :: l) L k = k y L := rfl
@[simp] theorem dset_13 {x0 x1 x2 x3 x4 x5 x6 x7 x8 x9 x10 x11 x12 x13 y : Option D} {l : DSt} : List.set (x0 :: x1 :: x2 :: x3 :: x4 :: x5 :: x6 :: x7 :: x8 :: x9 :: x10 :: x11 :: x12 :: x13 :: l) 13 y = x0 :: x1 :: x2 :: x3 :: x4 :: x5 :: x6 :: x7 :: x8 :: x9 :: x10 :: x11 :: x12 :: y :: l := rfl
@[simp] theorem slot_14 {x0 x1 x2 x3 x4 x5 x6 x7 x8 x9 x10 x11 x12 x13 x14 : Option D} {l : DSt} : slot (x0 :: x1 :: x2 :: x3 :: x4 :: x5 :: x6 :: x7 :: x8 :: x9 :: x10 :: x11 :: x12 :: x13 :: x14 :: l) 14 = x14 := rfl
@[simp ↓] theorem rv_14 {x0 x1 x2 x3 x4 x5 x6 x7 x8 x9 x10 x11 x12 x13 : Option D} {y : D} {l : DSt} : rV 14 (x0 :: x1 :: x2 :: x3 :: x4 :: x5 :: x6 :: x7 :: x8 :: x9 :: x10 :: x11 :: x12 :: x13 :: some y :: l) L k = k y L := rfl
@[simp] theorem dset_14 {x0 x1 x2 x3 x4 x5 x6 x7 x8 x9 x10 x11 x12 x13 x14 y : Option D} {l : DSt} : List.set (x0 :: x1 :: x2 :: x3 :: x4 :: x5 :: x6 :: x7 :: x8 :: x9 :: x10 :: x11 :: x12 :: x13 :: x14 :: l) 14 y = x0 :: x1 :: x2 :: x3 :: x4 :: x5 :: x6 :: x7 :: x8 :: x9 :: x10 :: x11 :: x12 :: x13 :: y :: l := rfl
@[simp] theorem slot_15 {x0 x1 x2 x3 x4 x5 x6 x7 x8 x9 x10 x11 x12 x13 x14 x15 : Option D} {l : DSt} : slot (x0 :: x1 :: x2 :: x3 :: x4 :: x5 :: x6 :: x7 :: x8 :: x9 :: x10 :: x11 :: x12 :: x13 :: x14 :: x15 :: l) 15 = x15 := rfl
@[simp ↓] theorem rv_15 {x0 x1 x2 x3 x4 x5 x6 x7 x8 x9 x10 x11 x12 x13 x14 : Option D} {y : D} {l : DSt} : rV 15 (x0 :: x1 :: x2 :: x3 :: x4 :: x5 :: x6 :: x7 :: x8 :: x9 :: x10 :: x11 :: x12 :: x13 :: x14 :: some y :: l) L k = k y L := rfl
@[simp] theorem dset_15 {x0 x1 x2 x3 x4 x5 x6 x7 x8 x9 x10 x11 x12 x13 x14 x15 y : Option D} {l : DSt} : List.set (x0 :: x1 :: x2 :: x3 :: x4 :: x5 :: x6 :: x7 :: x8 :: x9 :: x10 :: x11 :: x12 :: x13 :: x14 :: x15 :: l) 15 y = x0 :: x1 :: x2 :: x3 :: x4 :: x5 :: x6 :: x7 :: x8 :: x9 :: x10 :: x11 :: x12 :: x13 :: x14 :: y :: l := rfl
@[simp ↓] theorem ixtup_0 {x0 : D} {l : List D} : oIx (.tup (x0 :: l)) (.int 0) L k = k x0 L := rfl
@[simp ↓] theorem ixfls_0 {x0 : D} {l : List D} : oIx (.fls (x0 :: l)) (.int 0) L k = k x0 L := rfl
@[simp ↓] theorem ixtup_1 {x0 x1 : D} {l : List D} : oIx (.tup (x0 :: x1 :: l)) (.int 1) L k = k x1 L := rfl
@[simp ↓] theorem ixfls_1 {x0 x1 : D} {l : List D} : oIx (.fls (x0 :: x1 :: l)) (.int 1) L k = k x1 L := rfl
@[simp ↓] theorem ixtup_2 {x0 x1 x2 : D} {l : List D} : oIx (.tup (x0 :: x1 :: x2 :: l)) (.int 2) L k = k x2 L := rfl
@[simp ↓] theorem ixfls_2 {x0 x1 x2 : D} {l : List D} : oIx (.fls (x0 :: x1 :: x2 :: l)) (.int 2) L k = k x2 L := rfl
@[simp ↓] theorem ixtup_3 {x0 x1 x2 x3 : D} {l : List D} : oIx (.tup (x0 :: x1 :: x2 :: x3 :: l)) (.int 3) L k = k x3 L := rfl
@[simp ↓] theorem ixfls_3 {x0 x1 x2 x3 : D} {l : List D} : oIx (.fls (x0 :: x1 :: x2 :: x3 :: l)) (.int 3) L k = k x3 L := rfl
@[simp ↓] theorem ixtup_4 {x0 x1 x2 x3 x4 : D} {l : List D} : oIx (.tup (x0 :: x1 :: x2 :: x3 :: x4 :: l)) (.int 4) L k = k x4 L := rfl
@[simp ↓] theorem ixfls_4 {x0 x1 x2 x3 x4 : D} {l : List D} : oIx (.fls (x0 :: x1 :: x2 :: x3 :: x4 :: l)) (.int 4) L k = k x4 L := rfl
@[simp ↓] theorem ixtup_5 {x0 x1 x2 x3 x4 x5 : D} {l : List D} : oIx (.tup (x0 :: x1 :: x2 :: x3 :: x4 :: x5 :: l)) (.int 5) L k = k x5 L := rfl
@[simp ↓] theorem ixfls_5 {x0 x1 x2 x3 x4 x5 : D} {l : List D} : oIx (.fls (x0 :: x1 :: x2 :: x3 :: x4 :: x5 :: l)) (.int 5) L k = k x5 L := rfl
@[simp ↓] theorem ixtup_6 {x0 x1 x2 x3 x4 x5 x6 : D} {l : List D} : oIx (.tup (x0 :: x1 :: x2 :: x3 :: x4 :: x5 :: x6 :: l)) (.int 6) L k = k x6 L := rfl
@[simp ↓] theorem ixfls_6 {x0 x1 x2 x3 x4 x5 x6 : D} {l : List D} : oIx (.fls (x0 :: x1 :: x2 :: x3 :: x4 :: x5 :: x6 :: l)) (.int 6) L k = k x6 L := rfl
@[simp ↓] theorem ixtup_7 {x0 x1 x2 x3 x4 x5 x6 x7 : D} {l : List D} : oIx (.tup (x0 :: x1 :: x2 :: x3 :: x4 :: x5 :: x6 :: x7 :: l)) (.int 7) L k = k x7 L := rfl
@[simp ↓] theorem ixfls_7 {x0 x1 x2 x3 x4 x5 x6 x7 : D} {l : List D} : oIx (.fls (x0 :: x1 :: x2 :: x3 :: x4 :: x5 :: x6 :: x7 :: l)) (.int 7) L k = k x7 L := rfl
@[simp] theorem at_0 {xs : List α} : at_ xs (0 : Int) = xs[0]? := rfl
@[simp] theorem at_1 {xs : List α} : at_ xs (1 : Int) = xs[1]? := rfl
@[simp] theorem at_2 {xs : List α} : at_ xs (2 : Int) = xs[2]? := rfl
@[simp] theorem at_3 {xs : List α} : at_ xs (3 : Int) = xs[3]? := rfl
@[simp] theorem at_4 {xs : List α} : at_ xs (4 : Int) = xs[4]? := rfl
@[simp] theorem at_5 {xs : List α} : at_ xs (5 : Int) = xs[5]? := rfl
@[simp] theorem at_6 {xs : List α} : at_ xs (6 : Int) = xs[6]? := rfl
@[simp] theorem at_7 {xs : List α} : at_ xs (7 : Int) = xs[7]? := rfl
@[simp] theorem at_8 {xs : List α} : at_ xs (8 : Int) = xs[8]? := rfl
@[simp] theorem at_9 {xs : List α} : at_ xs (9 : Int) = xs[9]? := rfl
@[simp] theorem at_10 {xs : List α} : at_ xs (10 : Int) = xs[10]? := rfl
@[simp] theorem at_11 {xs : List α} : at_ xs (11 : Int) = xs[11]? := rfl
@[simp] theorem at_m1 {xs : List α} : at_ xs (-1 : Int) = xs.getLast? := by
  show (if 0 < xs.length then xs[xs.length - 1 - 0]? else none) = _
  rw [List.getLast?_eq_getElem?]
  split
  · simp
  · rename_i h
    have : xs.length = 0 := by omega
    simp [List.length_eq_zero_iff.mp this]
@[simp ↓] theorem x_rV {i : Nat} : rV i δ L k = (match slot δ i with
  | some d => k d L
  | none => False) := rfl
@[simp ↓] theorem x_rC {d : D} : rC d δ L k = k d L := rfl
@[simp ↓] theorem x_rO : rO f a b δ L k = a δ L fun x L1 => b δ L1 fun y L2 => f x y L2 k := rfl
@[simp ↓] theorem x_rTest : rTest a δ L kb = a δ L fun x L1 => match x with
  | .bl b => kb b L1
  | _ => False := rfl
@[simp ↓] theorem x_rTru : rTru a δ L kb = a δ L fun x L1 => oTru x L1 kb := rfl
@[simp ↓] theorem x_rAndT : rAndT c d δ L kb = c δ L fun b L1 => if b = true then d δ L1 kb else kb false L1 := rfl
@[simp ↓] theorem x_rOrT : rOrT c d δ L kb = c δ L fun b L1 => if b = true then kb true L1 else d δ L1 kb := rfl
@[simp ↓] theorem x_rNotT : rNotT c δ L kb = c δ L fun b L1 => kb (!b) L1 := rfl
@[simp ↓] theorem x_rAnd : rAnd a b δ L k = a δ L fun x L1 => oTru x L1 fun c L2 => if c = true then b δ L2 k else k x L2 := rfl
@[simp ↓] theorem x_rOr : rOr a b δ L k = a δ L fun x L1 => oTru x L1 fun c L2 => if c = true then k x L2 else b δ L2 k := rfl
@[simp ↓] theorem x_rNot : rNot a δ L k = a δ L fun x L1 => oTru x L1 fun c L2 => k (.bl (!c)) L2 := rfl
@[simp ↓] theorem x_rIf : rIf c a b δ L k = c δ L fun c L1 => if c = true then a δ L1 k else b δ L1 k := rfl
@[simp ↓] theorem x_rNeg : rNeg a δ L k = a δ L fun x L1 => match x with
  | .int i => k (.int (-i)) L1
  | _ => False := rfl
@[simp ↓] theorem x_rArgs0 {ka : List D → MH → Prop} : rArgs [] δ L ka = ka [] L := rfl
@[simp ↓] theorem x_rArgs1 {ts : List DE} {ka : List D → MH → Prop} : rArgs (a :: ts) δ L ka = a δ L fun x L1 => rArgs ts δ L1 fun xs L2 => ka (x :: xs) L2 := rfl
@[simp ↓] theorem x_rTup {ts : List DE} : rTup ts δ L k = rArgs ts δ L fun ds L1 => k (.tup ds) L1 := rfl
@[simp ↓] theorem x_rLst {ts : List DE} : rLst ts δ L k = rArgs ts δ L fun ds L1 => ∀ p, L1 p = none → k (.ref p) (updM L1 p (.lst ds)) := rfl
@[simp ↓] theorem x_rFls {ts : List DE} : rFls ts δ L k = rArgs ts δ L fun ds L1 => k (.fls ds) L1 := rfl
@[simp ↓] theorem x_rB {ts : List DE} {f : DF} : rB f ts δ L k = rArgs ts δ L fun ds L1 => f ds L1 k := rfl
@[simp ↓] theorem x_rCall {ts : List DE} {sp : SpD} : rCall sp ts δ L k = rArgs ts δ L fun ds L1 => sp ds L1 k := rfl
@[simp ↓] theorem x_rM {ts : List DE} {T : String} {f : DM} : rM T f a ts δ L k = a δ L fun x L1 => tyName x L1 = some T ∧ rArgs ts δ L1 fun ds L2 => f x ds L2 k := rfl
@[simp ↓] theorem x_rF {C : Addr} {f : Str} : rF C f a δ L k = a δ L fun x L1 => match x with
  | .ref p => (match L1 p with
    | some (.ins C' fs) => C' = C ∧ (match fs.lookup f with
      | some d => k d L1
      | none => False)
    | _ => False)
  | _ => False := rfl
@[simp ↓] theorem x_rNoP {ko : Option Int → MH → Prop} : rNoP δ L ko = ko none L := rfl
@[simp ↓] theorem x_rPart {ko : Option Int → MH → Prop} : rPart a δ L ko = a δ L fun x L1 => match x with
  | .int i => ko (some i) L1
  | _ => False := rfl
@[simp ↓] theorem x_rSl {lo hi : DO} : rSl a lo hi δ L k = a δ L fun x L1 => lo δ L1 fun l L2 => hi δ L2 fun u L3 => oSl x l u L3 k := rfl
@[simp ↓] theorem x_rRev : rRev a δ L k = a δ L fun x L1 => match x with
  | .fls ds => k (.fls ds.reverse) L1
  | .ref p => (match L1 p with
    | some (.lst ds) => k (.fls ds.reverse) L1
    | _ => False)
  | _ => False := rfl
@[simp ↓] theorem x_rChain {f g : D2} {a b c : DE} : rChain f g a b c δ L k = a δ L fun x L1 => b δ L1 fun y L2 => f x y L2 fun z L3 => match z with
  | .bl t => if t = true then c δ L3 fun w L4 => g y w L4 k else k (.bl false) L3
  | _ => False := rfl
@[simp ↓] theorem x_rYes : rYes δ L kb = kb true L := rfl
@[simp ↓] theorem x_rOwn : rOwn a δ L k = a δ L fun d L1 => match d with
  | .fls ds => ∀ p, L1 p = none → k (.ref p) (updM L1 p (.lst ds))
  | _ => False := rfl
@[simp ↓] theorem x_rNext : rNext E δ L = E.nx δ L := rfl
@[simp ↓] theorem x_rSeq : rSeq t u E δ L = t { E with nx := fun δ' L' => u E δ' L' } δ L := rfl
@[simp ↓] theorem x_rSet {g : Tg} : rSet g a E δ L = a δ L fun d L1 => match g.set d δ with
  | some δ1 => E.nx δ1 L1
  | none => False := rfl
@[simp ↓] theorem x_rDrop : rDrop a E δ L = a δ L fun _ L1 => E.nx δ L1 := rfl
@[simp ↓] theorem x_rRet : rRet a E δ L = a δ L E.rt := rfl
@[simp ↓] theorem x_rRetN : rRetN E δ L = E.rt .non L := rfl
@[simp ↓] theorem x_rIfS : rIfS c t u E δ L = c δ L fun b L1 => if b = true then t E δ L1 else u E δ L1 := rfl
@[simp ↓] theorem x_rBrk : rBrk E δ L = E.bk δ L := rfl
@[simp ↓] theorem x_rCnt : rCnt E δ L = E.ct δ L := rfl
@[simp ↓] theorem x_rPar {is : List Nat} {ts : List DE} : rPar is ts E δ L = rArgs ts δ L fun ds L1 => match setAll is ds δ with
  | some δ1 => E.nx δ1 L1
  | none => False := rfl
@[simp ↓] theorem x_rStore {te to ti : DE} : rStore te to ti E δ L = te δ L fun d L1 => to δ L1 fun o L2 => ti δ L2 fun i L3 => match o, i with
  | .ref p, .int k => (match L3 p with
    | some (.lst ds) => (match ixN ds.length k with
      | some j => E.nx δ (updM L3 p (.lst (ds.set j d)))
      | none => False)
    | _ => False)
  | _, _ => False := rfl
@[simp ↓] theorem x_rFrz {i : Nat} : rFrz i t E δ L = match slot δ i with
  | some (.ref p) => (match L p with
    | some (.lst ds) => t E (δ.set i (some (.fls ds))) (delM L p)
    | _ => False)
  | _ => False := rfl
@[simp ↓] theorem x_rFor {it : DI} {g : Tg} : rFor it g t E δ L = it δ L fun ds L1 => forD g t E ds δ L1 := rfl
@[simp ↓] theorem x_rWhile : rWhile c t E δ L = ∃ n, whileD c t E n δ L := rfl
@[simp ↓] theorem x_rIt {ki : List D → MH → Prop} : rIt a δ L ki = a δ L fun x L1 => match x with
  | .fls ds => ki ds L1
  | .tup ds => ki ds L1
  | .scr ns => ki (ns.map D.int) L1
  | .str z => z.length ≤ sizeLine ∧ ki (z.cps.toList.map fun c => D.str ⟨#[c]⟩) L1
  | _ => False := rfl
@[simp ↓] theorem x_rRng1 {ts : List DE} {ki : List D → MH → Prop} : rRng1 ts δ L ki = rArgs ts δ L fun ds L1 => rng1 ds L1 ki := rfl
@[simp ↓] theorem x_rRng2 {ts : List DE} {ki : List D → MH → Prop} : rRng2 ts δ L ki = rArgs ts δ L fun ds L1 => rng2 ds L1 ki := rfl
@[simp ↓] theorem x_rng1 {j : Int} {ki : List D → MH → Prop} : rng1 [.int j] L ki = ((-1000000 ≤ j ∧ j ≤ 1000000) ∧ ki (rangeD 0 j.toNat) L) := rfl
@[simp ↓] theorem x_rng2 {i j : Int} {ki : List D → MH → Prop} : rng2 [.int i, .int j] L ki = ((-1000000 ≤ i ∧ i ≤ 1000000 ∧ -1000000 ≤ j ∧ j ≤ 1000000) ∧ ki (rangeD i (j - i).toNat) L) := rfl
@[simp ↓] theorem x_rLc {it : DI} {g : Tg} {tt : DT} {te : DE} : rLc it g tt te δ L k = it δ L fun ds L1 => compD g tt te (wipeD δ g.slots) ds [] L1 k := rfl
@[simp ↓] theorem x_tgnm {i : Nat} {d : D} : Tg.set (.nm i) d δ = some (δ.set i (some d)) := rfl
@[simp ↓] theorem x_tgtp {is : List Nat} {ds : List D} : Tg.set (.tp is) (.tup ds) δ = setAll is ds δ := rfl
@[simp ↓] theorem x_setAll0 : setAll [] [] δ = some δ := rfl
@[simp ↓] theorem x_setAll1 {i : Nat} {is : List Nat} {d : D} {ds : List D} : setAll (i :: is) (d :: ds) δ = setAll is ds (δ.set i (some d)) := rfl
@[simp ↓] theorem x_slnm {i : Nat} : Tg.slots (.nm i) = [i] := rfl
@[simp ↓] theorem x_sltp {is : List Nat} : Tg.slots (.tp is) = is := rfl
@[simp ↓] theorem x_wipe0 : wipeD δ [] = δ := rfl
@[simp ↓] theorem x_wipe1 {i : Nat} {is : List Nat} : wipeD δ (i :: is) = (wipeD δ is).set i none := rfl
@[simp ↓] theorem x_for1 {g : Tg} {tb : DS} {x : D} {r : List D} : forD g tb E (x :: r) δ L = match g.set x δ with
    | some δ1 => tb ⟨forD g tb E r, E.rt, E.nx, forD g tb E r⟩ δ1 L
    | none => False := rfl
@[simp ↓] theorem x_comp1 {g : Tg} {tt : DT} {te : DE} {x : D} {r acc : List D} : compD g tt te δ (x :: r) acc L k = match g.set x δ with
    | some δ1 => tt δ1 L fun b L2 => if b = true then te δ1 L2 fun d L3 => compD g tt te δ r (acc ++ [d]) L3 k else compD g tt te δ r acc L2 k
    | none => False := rfl
@[simp ↓] theorem x_for0 {g : Tg} : forD g t E [] δ L = E.nx δ L := rfl
@[simp ↓] theorem x_comp0 {g : Tg} {acc : List D} : compD g c a δ [] acc L k = k (.fls acc) L := rfl
/-! operators on data -/
section
variable {i j : Int} {x y : D} {s z : Str} {xs ys : List D} {p : Addr}
@[simp ↓] theorem o_add_i : oAdd (.int i) (.int j) L k = k (.int (i + j)) L := rfl
@[simp ↓] theorem o_add_s : oAdd (.str s) (.str z) L k = (s.length + z.length ≤ sizeLine ∧ k (.str (s ++ z)) L) := rfl
@[simp ↓] theorem o_add_t : oAdd (.tup xs) (.tup ys) L k = (xs.length + ys.length ≤ sizeLine ∧ k (.tup (xs ++ ys)) L) := rfl
@[simp ↓] theorem o_add_f : oAdd (.fls xs) (.fls ys) L k = (xs.length + ys.length ≤ sizeLine ∧ k (.fls (xs ++ ys)) L) := rfl
@[simp ↓] theorem o_sub : oSub (.int i) (.int j) L k = k (.int (i - j)) L := rfl
@[simp ↓] theorem o_mul : oMul (.int i) (.int j) L k = (CMul i j ∧ k (.int (i * j)) L) := rfl
@[simp ↓] theorem o_fdiv : oFdiv (.int i) (.int j) L k = (CDivW i j ∧ k (.int (i / j)) L) := rfl
@[simp ↓] theorem o_mod : oMod (.int i) (.int j) L k = (0 < j ∧ k (.int (i % j)) L) := rfl
@[simp ↓] theorem o_pow : oPow (.int i) (.int j) L k = (CPow i j ∧ k (.int (i ^ j.toNat)) L) := rfl
@[simp ↓] theorem o_and : oAnd (.int i) (.int j) L k = k (.int (Builtin.bitAnd i j)) L := rfl
@[simp ↓] theorem o_cmp {q : Int → Int → Bool} : oCmp q (.int i) (.int j) L k = k (.bl (q i j)) L := rfl
@[simp ↓] theorem o_eq : oEq x y L k = (x.pr = true ∧ y.pr = true ∧ (x.dp ≤ 140 ∨ y.dp ≤ 140) ∧ k (.bl (x.eqv y)) L) := rfl
@[simp ↓] theorem o_ne : oNe x y L k = (x.pr = true ∧ y.pr = true ∧ (x.dp ≤ 140 ∨ y.dp ≤ 140) ∧ k (.bl (!x.eqv y)) L) := rfl
@[simp ↓] theorem o_isN : oIsN x .non L k = k (.bl x.isNon) L := rfl
@[simp ↓] theorem o_notN : oNotN x .non L k = k (.bl (!x.isNon)) L := rfl
@[simp ↓] theorem o_in_t {neg : Bool} : oIn neg x (.tup ys) L k = (x.pr = true ∧ D.prs ys = true ∧ (x.dp ≤ 140 ∨ D.dps ys ≤ 140) ∧ k (.bl (neg ^^ ys.any fun y => y.eqv x)) L) := rfl
@[simp ↓] theorem o_in_f {neg : Bool} : oIn neg x (.fls ys) L k = (x.pr = true ∧ D.prs ys = true ∧ (x.dp ≤ 140 ∨ D.dps ys ≤ 140) ∧ k (.bl (neg ^^ ys.any fun y => y.eqv x)) L) := rfl
@[simp ↓] theorem o_in_s {neg : Bool} : oIn neg (.str s) (.str z) L k = k (.bl (neg ^^ strIn s z)) L := rfl
@[simp ↓] theorem o_ix_t : oIx (.tup xs) (.int i) L k = (match at_ xs i with
  | some d => k d L
  | none => False) := rfl
@[simp ↓] theorem o_ix_f : oIx (.fls xs) (.int i) L k = (match at_ xs i with
  | some d => k d L
  | none => False) := rfl
@[simp ↓] theorem o_ix_s : oIx (.str z) (.int i) L k = (z.length ≤ sizeLine ∧ (match at_ z.cps.toList i with
  | some c => k (.str ⟨#[c]⟩) L
  | none => False)) := rfl
@[simp ↓] theorem o_ix_sc {ns : List Int} : oIx (.scr ns) (.int i) L k = (match at_ ns i with
  | some d => k (.int d) L
  | none => False) := rfl
@[simp ↓] theorem o_ix_r : oIx (.ref p) (.int i) L k = (match L p with
  | some (.lst ds) => (match at_ ds i with
    | some d => k d L
    | none => False)
  | _ => False) := rfl
@[simp ↓] theorem o_sl_t {lo hi : Option Int} : oSl (.tup xs) lo hi L k = k (.tup (cutD xs lo hi)) L := rfl
@[simp ↓] theorem o_sl_f {lo hi : Option Int} : oSl (.fls xs) lo hi L k = k (.fls (cutD xs lo hi)) L := rfl
@[simp ↓] theorem o_sl_s {lo hi : Option Int} : oSl (.str z) lo hi L k = (z.length ≤ sizeLine ∧ k (.str (Txt.slice z lo hi)) L) := rfl
@[simp ↓] theorem o_sl_r {lo hi : Option Int} : oSl (.ref p) lo hi L k = (match L p with
  | some (.lst ds) => k (.fls (cutD ds lo hi)) L
  | _ => False) := rfl
@[simp ↓] theorem o_tru_n : oTru .non L kb = kb false L := rfl
@[simp ↓] theorem o_tru_b {b : Bool} : oTru (.bl b) L kb = kb b L := rfl
@[simp ↓] theorem o_tru_i : oTru (.int i) L kb = kb (i != 0) L := rfl
@[simp ↓] theorem o_tru_s : oTru (.str s) L kb = (s.length ≤ sizeLine ∧ kb ((s.length : Int) != 0) L) := rfl
@[simp ↓] theorem o_tru_t : oTru (.tup xs) L kb = kb (!xs.isEmpty) L := rfl
@[simp ↓] theorem o_tru_f : oTru (.fls xs) L kb = kb (!xs.isEmpty) L := rfl
@[simp ↓] theorem o_tru_r : oTru (.ref p) L kb = (match L p with
  | some (.lst ds) => kb (!ds.isEmpty) L
  | _ => False) := rfl
@[simp ↓] theorem b_len_t : bLen [.tup xs] L k = k (.int xs.length) L := rfl
@[simp ↓] theorem b_len_f : bLen [.fls xs] L k = k (.int xs.length) L := rfl
@[simp ↓] theorem b_len_sc {ns : List Int} : bLen [.scr ns] L k = k (.int ns.length) L := rfl
@[simp ↓] theorem b_len_s : bLen [.str s] L k = (s.length ≤ sizeLine ∧ k (.int s.length) L) := rfl
@[simp ↓] theorem b_len_r : bLen [.ref p] L k = (match L p with
  | some (.lst xs) => k (.int xs.length) L
  | _ => False) := rfl
@[simp ↓] theorem b_int_i : bInt [.int i] L k = k (.int i) L := rfl
@[simp ↓] theorem b_max2 : bMax [.int i, .int j] L k = k (.int (if j > i then j else i)) L := rfl
@[simp ↓] theorem b_min2 : bMin [.int i, .int j] L k = k (.int (if j < i then j else i)) L := rfl
@[simp ↓] theorem b_tup_t : bTup [.tup xs] L k = k (.tup xs) L := rfl
@[simp ↓] theorem b_tup_f : bTup [.fls xs] L k = k (.tup xs) L := rfl
@[simp ↓] theorem b_fls_t : bFls [.tup xs] L k = k (.fls xs) L := rfl
@[simp ↓] theorem b_fls_f : bFls [.fls xs] L k = k (.fls xs) L := rfl
@[simp ↓] theorem b_sum_f {ns : List Int} : bSum [.fls (ns.map D.int)] L k = k (.int ns.sum) L := by
  show (match D.ints (ns.map D.int) with
    | some ns => k (.int ns.sum) L
    | none => False) = _
  rw [D.ints_map]
@[simp ↓] theorem b_any_f {ns : List Bool} : bAny [.fls (ns.map D.bl)] L k = k (.bl (ns.any id)) L := by
  show (match D.bls (ns.map D.bl) with
    | some ns => k (.bl (ns.any id)) L
    | none => False) = _
  rw [D.bls_map]
@[simp ↓] theorem b_all_f {ns : List Bool} : bAll [.fls (ns.map D.bl)] L k = k (.bl (ns.all id)) L := by
  show (match D.bls (ns.map D.bl) with
    | some ns => k (.bl (ns.all id)) L
    | none => False) = _
  rw [D.bls_map]
theorem D.ints_pr : ∀ ps : List (Int × Int), ps ≠ [] → D.ints (ps.map encP) = none
  | [], h => absurd rfl h
  | p :: ps, _ => rfl
@[simp ↓] theorem b_srt_i {ns : List Int} : bSrt [.fls (ns.map D.int)] L k = k (.fls ((sortI ns).map D.int)) L := by
  show (match D.ints (ns.map D.int) with
    | some ns => k (.fls ((sortI ns).map D.int)) L
    | none => _) = _
  rw [D.ints_map]
@[simp ↓] theorem b_srt_p {ps : List (Int × Int)} : bSrt [.fls (ps.map encP)] L k = k (.fls ((sortP ps).map encP)) L := by
  cases ps with
  | nil => rfl
  | cons p ps =>
    show (match D.ints ((p :: ps).map encP) with
      | some ns => k (.fls ((sortI ns).map D.int)) L
      | none => (match D.prss ((p :: ps).map encP) with
        | some ps => k (.fls ((sortP ps).map encP)) L
        | none => False)) = _
    rw [D.ints_pr _ (by simp), D.prss_map]
@[simp ↓] theorem m_app : mAppend (.ref p) [x] L k = (match L p with
  | some (.lst xs) => xs.length < sizeLine ∧ k .non (updM L p (.lst (xs ++ [x])))
  | _ => False) := rfl
@[simp ↓] theorem m_ext : mExtend (.ref p) [.fls ys] L k = (match L p with
  | some (.lst xs) => xs.length + ys.length ≤ sizeLine ∧ k .non (updM L p (.lst (xs ++ ys)))
  | _ => False) := rfl
@[simp ↓] theorem m_pop' : mPop (.ref p) [] L k = (match L p with
  | some (.lst xs) => (match xs[xs.length - 1]? with
    | some d => k d (updM L p (.lst xs.dropLast))
    | none => False)
  | _ => False) := rfl
@[simp ↓] theorem m_rev : mReverse (.ref p) [] L k = (match L p with
  | some (.lst xs) => k .non (updM L p (.lst xs.reverse))
  | _ => False) := rfl
theorem ty_r {xs : List D} (h : L p = some (.lst xs)) : tyName (.ref p) L = some "list" := by
  show (match L p with
    | some (.lst _) => some "list"
    | _ => none) = _
  rw [h]
@[simp] theorem ty_f : tyName (.fls xs) L = some "list" := rfl
@[simp] theorem ty_s : tyName (.str s) L = some "str" := rfl
@[simp] theorem ty_t : tyName (.tup xs) L = some "tuple" := rfl
@[simp] theorem ty_i : tyName (.int i) L = some "int" := rfl
@[simp] theorem ty_b {b : Bool} : tyName (.bl b) L = some "bool" := rfl
@[simp] theorem ty_n : tyName .non L = some "NoneType" := rfl
@[simp ↓] theorem b_isi_x {n : String} : bIsi [x, .ty n] L k = (match tyName x L with
    | some a => (match kitN a n with
      | some b => k (.bl b) L
      | none => False)
    | none => False) := rfl
end
/-! the kinds of isinstance -/
@[simp] theorem kit_bool_bool : kitN "bool" "bool" = some true := by decide
@[simp] theorem kit_bool_int : kitN "bool" "int" = some true := by decide
@[simp] theorem kit_bool_str : kitN "bool" "str" = some false := by decide
@[simp] theorem kit_bool_tuple : kitN "bool" "tuple" = some false := by decide
@[simp] theorem kit_bool_list : kitN "bool" "list" = some false := by decide
@[simp] theorem kit_int_bool : kitN "int" "bool" = some false := by decide
@[simp] theorem kit_int_int : kitN "int" "int" = some true := by decide
@[simp] theorem kit_int_str : kitN "int" "str" = some false := by decide
@[simp] theorem kit_int_tuple : kitN "int" "tuple" = some false := by decide
@[simp] theorem kit_int_list : kitN "int" "list" = some false := by decide
@[simp] theorem kit_str_bool : kitN "str" "bool" = some false := by decide
@[simp] theorem kit_str_int : kitN "str" "int" = some false := by decide
@[simp] theorem kit_str_str : kitN "str" "str" = some true := by decide
@[simp] theorem kit_str_tuple : kitN "str" "tuple" = some false := by decide
@[simp] theorem kit_str_list : kitN "str" "list" = some false := by decide
@[simp] theorem kit_tuple_bool : kitN "tuple" "bool" = some false := by decide
@[simp] theorem kit_tuple_int : kitN "tuple" "int" = some false := by decide
@[simp] theorem kit_tuple_str : kitN "tuple" "str" = some false := by decide
@[simp] theorem kit_tuple_tuple : kitN "tuple" "tuple" = some true := by decide
@[simp] theorem kit_tuple_list : kitN "tuple" "list" = some false := by decide
@[simp] theorem kit_list_bool : kitN "list" "bool" = some false := by decide
@[simp] theorem kit_list_int : kitN "list" "int" = some false := by decide
@[simp] theorem kit_list_str : kitN "list" "str" = some false := by decide
@[simp] theorem kit_list_tuple : kitN "list" "tuple" = some false := by decide
@[simp] theorem kit_list_list : kitN "list" "list" = some true := by decide
@[simp] theorem kit_NoneType_bool : kitN "NoneType" "bool" = some false := by decide
@[simp] theorem kit_NoneType_int : kitN "NoneType" "int" = some false := by decide
@[simp] theorem kit_NoneType_str : kitN "NoneType" "str" = some false := by decide
@[simp] theorem kit_NoneType_tuple : kitN "NoneType" "tuple" = some false := by decide
@[simp] theorem kit_NoneType_list : kitN "NoneType" "list" = some false := by decide
/-! the heap -/
theorem sl_eq : sizeLine = 16777216 := by decide
theorem e_own {p : Addr} (o : MO) : tyName (.ref p) (updM L p o) = (match o with
    | .lst _ => some "list"
    | _ => none) := by
  show (match updM L p o p with
    | some (.lst _) => some "list"
    | _ => none) = _
  rw [updM_same]
  cases o <;> rfl
/-- a def's end -/
abbrev rE (q : KD) : DEnds := { nx := fun _ L' => q .non L', rt := q }
theorem ixN_m1 {n : Nat} (h : n ≠ 0) : ixN n (-1) = some (n - 1) := by
  unfold ixN
  simp
  omega
@[simp] theorem upd_same' {p : Addr} {o : MO} : updM L p o p = some o := updM_same
@[simp] theorem upd_upd' {p : Addr} {o u : MO} : updM (updM L p o) p u = updM L p u := updM_upd
@[simp] theorem del_upd' {p : Addr} {o : MO} : delM (updM L p o) p = delM L p := by
  funext b
  unfold delM updM
  split <;> rfl
theorem del_none {p : Addr} (h : L p = none) : delM L p = L := by
  funext b
  unfold delM
  split
  · rename_i e; rw [e, h]
  · rfl
/-! data -/
theorem beq_dec {α : Type} [BEq α] [LawfulBEq α] [DecidableEq α] (a b : α) : (a == b) = decide (a = b) := by
  by_cases h : a = b
  · subst h; simp
  · rw [decide_eq_false h]; exact beq_eq_false_iff_ne.mpr h
@[simp] theorem pr_n : D.pr .non = true := by simp [D.pr]
@[simp] theorem pr_i {i : Int} : D.pr (.int i) = true := by simp [D.pr]
@[simp] theorem pr_b {i : Bool} : D.pr (.bl i) = true := by simp [D.pr]
@[simp] theorem pr_s {i : Str} : D.pr (.str i) = true := by simp [D.pr]
@[simp] theorem pr_t {ds : List D} : D.pr (.tup ds) = D.prs ds := by simp [D.pr]
@[simp] theorem pr_f {ds : List D} : D.pr (.fls ds) = D.prs ds := by simp [D.pr]
@[simp] theorem prs_0 : D.prs [] = true := by simp [D.prs]
@[simp] theorem prs_1 {x : D} {ds : List D} : D.prs (x :: ds) = (x.pr && D.prs ds) := by simp [D.prs]
@[simp] theorem dp_n : D.dp .non = 0 := by simp [D.dp]
@[simp] theorem dp_i {i : Int} : D.dp (.int i) = 0 := by simp [D.dp]
@[simp] theorem dp_b {i : Bool} : D.dp (.bl i) = 0 := by simp [D.dp]
@[simp] theorem dp_s {i : Str} : D.dp (.str i) = 0 := by simp [D.dp]
@[simp] theorem dp_t {ds : List D} : D.dp (.tup ds) = D.dps ds + 1 := by simp [D.dp]
@[simp] theorem dp_f {ds : List D} : D.dp (.fls ds) = D.dps ds + 1 := by simp [D.dp]
@[simp] theorem dps_0 : D.dps [] = 0 := by simp [D.dps]
@[simp] theorem dps_1 {x : D} {ds : List D} : D.dps (x :: ds) = max x.dp (D.dps ds) := by simp [D.dps]
theorem prs_map {f : α → D} (h : ∀ x, (f x).pr = true) : ∀ xs : List α, D.prs (xs.map f) = true
  | [] => by simp
  | x :: xs => by simp [h, prs_map h xs]
theorem dps_map {f : α → D} {n : Nat} : ∀ {xs : List α}, (∀ x ∈ xs, (f x).dp ≤ n) → D.dps (xs.map f) ≤ n
  | [], _ => by simp
  | x :: xs, h => by
    simp only [List.map_cons, dps_1]
    exact Nat.max_le.mpr ⟨h x List.mem_cons_self, dps_map fun y hy => h y (List.mem_cons_of_mem _ hy)⟩
/-- lists' == -/
def D.eqs (xs ys : List D) : Bool := PyData.eqvAll (D.pys xs) (D.pys ys)
@[simp] theorem eqv_non_non : PyData.eqv (D.py (.non)) (D.py (.non)) = true := by simp [D.py, PyData.eqv, D.eqs, beq_dec]
@[simp] theorem eqv_non_bl {b : Bool} : PyData.eqv (D.py (.non)) (D.py (.bl b)) = false := by simp [D.py, PyData.eqv, D.eqs, beq_dec]
@[simp] theorem eqv_non_int {b : Int} : PyData.eqv (D.py (.non)) (D.py (.int b)) = false := by simp [D.py, PyData.eqv, D.eqs, beq_dec]
@[simp] theorem eqv_non_str {b : Str} : PyData.eqv (D.py (.non)) (D.py (.str b)) = false := by simp [D.py, PyData.eqv, D.eqs, beq_dec]
@[simp] theorem eqv_non_tup {b : List D} : PyData.eqv (D.py (.non)) (D.py (.tup b)) = false := by simp [D.py, PyData.eqv, D.eqs, beq_dec]
@[simp] theorem eqv_non_fls {b : List D} : PyData.eqv (D.py (.non)) (D.py (.fls b)) = false := by simp [D.py, PyData.eqv, D.eqs, beq_dec]
@[simp] theorem eqv_bl_non {a : Bool} : PyData.eqv (D.py (.bl a)) (D.py (.non)) = false := by simp [D.py, PyData.eqv, D.eqs, beq_dec]
@[simp] theorem eqv_bl_bl {a : Bool} {b : Bool} : PyData.eqv (D.py (.bl a)) (D.py (.bl b)) = decide (a = b) := by simp [D.py, PyData.eqv, D.eqs, beq_dec]
@[simp] theorem eqv_bl_int {a : Bool} {b : Int} : PyData.eqv (D.py (.bl a)) (D.py (.int b)) = decide ((if a = true then (1 : Int) else 0) = b) := by simp [D.py, PyData.eqv, D.eqs, beq_dec]
@[simp] theorem eqv_bl_str {a : Bool} {b : Str} : PyData.eqv (D.py (.bl a)) (D.py (.str b)) = false := by simp [D.py, PyData.eqv, D.eqs, beq_dec]
@[simp] theorem eqv_bl_tup {a : Bool} {b : List D} : PyData.eqv (D.py (.bl a)) (D.py (.tup b)) = false := by simp [D.py, PyData.eqv, D.eqs, beq_dec]
@[simp] theorem eqv_bl_fls {a : Bool} {b : List D} : PyData.eqv (D.py (.bl a)) (D.py (.fls b)) = false := by simp [D.py, PyData.eqv, D.eqs, beq_dec]
@[simp] theorem eqv_int_non {a : Int} : PyData.eqv (D.py (.int a)) (D.py (.non)) = false := by simp [D.py, PyData.eqv, D.eqs, beq_dec]
@[simp] theorem eqv_int_bl {a : Int} {b : Bool} : PyData.eqv (D.py (.int a)) (D.py (.bl b)) = decide (a = if b = true then (1 : Int) else 0) := by simp [D.py, PyData.eqv, D.eqs, beq_dec]
@[simp] theorem eqv_int_int {a : Int} {b : Int} : PyData.eqv (D.py (.int a)) (D.py (.int b)) = decide (a = b) := by simp [D.py, PyData.eqv, D.eqs, beq_dec]
@[simp] theorem eqv_int_str {a : Int} {b : Str} : PyData.eqv (D.py (.int a)) (D.py (.str b)) = false := by simp [D.py, PyData.eqv, D.eqs, beq_dec]
@[simp] theorem eqv_int_tup {a : Int} {b : List D} : PyData.eqv (D.py (.int a)) (D.py (.tup b)) = false := by simp [D.py, PyData.eqv, D.eqs, beq_dec]
@[simp] theorem eqv_int_fls {a : Int} {b : List D} : PyData.eqv (D.py (.int a)) (D.py (.fls b)) = false := by simp [D.py, PyData.eqv, D.eqs, beq_dec]
@[simp] theorem eqv_str_non {a : Str} : PyData.eqv (D.py (.str a)) (D.py (.non)) = false := by simp [D.py, PyData.eqv, D.eqs, beq_dec]
@[simp] theorem eqv_str_bl {a : Str} {b : Bool} : PyData.eqv (D.py (.str a)) (D.py (.bl b)) = false := by simp [D.py, PyData.eqv, D.eqs, beq_dec]
@[simp] theorem eqv_str_int {a : Str} {b : Int} : PyData.eqv (D.py (.str a)) (D.py (.int b)) = false := by simp [D.py, PyData.eqv, D.eqs, beq_dec]
@[simp] theorem eqv_str_str {a : Str} {b : Str} : PyData.eqv (D.py (.str a)) (D.py (.str b)) = decide (a = b) := by simp [D.py, PyData.eqv, D.eqs, beq_dec]
@[simp] theorem eqv_str_tup {a : Str} {b : List D} : PyData.eqv (D.py (.str a)) (D.py (.tup b)) = false := by simp [D.py, PyData.eqv, D.eqs, beq_dec]
@[simp] theorem eqv_str_fls {a : Str} {b : List D} : PyData.eqv (D.py (.str a)) (D.py (.fls b)) = false := by simp [D.py, PyData.eqv, D.eqs, beq_dec]
@[simp] theorem eqv_tup_non {a : List D} : PyData.eqv (D.py (.tup a)) (D.py (.non)) = false := by simp [D.py, PyData.eqv, D.eqs, beq_dec]
@[simp] theorem eqv_tup_bl {a : List D} {b : Bool} : PyData.eqv (D.py (.tup a)) (D.py (.bl b)) = false := by simp [D.py, PyData.eqv, D.eqs, beq_dec]
@[simp] theorem eqv_tup_int {a : List D} {b : Int} : PyData.eqv (D.py (.tup a)) (D.py (.int b)) = false := by simp [D.py, PyData.eqv, D.eqs, beq_dec]
@[simp] theorem eqv_tup_str {a : List D} {b : Str} : PyData.eqv (D.py (.tup a)) (D.py (.str b)) = false := by simp [D.py, PyData.eqv, D.eqs, beq_dec]
@[simp] theorem eqv_tup_tup {a : List D} {b : List D} : PyData.eqv (D.py (.tup a)) (D.py (.tup b)) = D.eqs a b := by simp [D.py, PyData.eqv, D.eqs, beq_dec]
@[simp] theorem eqv_tup_fls {a : List D} {b : List D} : PyData.eqv (D.py (.tup a)) (D.py (.fls b)) = false := by simp [D.py, PyData.eqv, D.eqs, beq_dec]
@[simp] theorem eqv_fls_non {a : List D} : PyData.eqv (D.py (.fls a)) (D.py (.non)) = false := by simp [D.py, PyData.eqv, D.eqs, beq_dec]
@[simp] theorem eqv_fls_bl {a : List D} {b : Bool} : PyData.eqv (D.py (.fls a)) (D.py (.bl b)) = false := by simp [D.py, PyData.eqv, D.eqs, beq_dec]
@[simp] theorem eqv_fls_int {a : List D} {b : Int} : PyData.eqv (D.py (.fls a)) (D.py (.int b)) = false := by simp [D.py, PyData.eqv, D.eqs, beq_dec]
@[simp] theorem eqv_fls_str {a : List D} {b : Str} : PyData.eqv (D.py (.fls a)) (D.py (.str b)) = false := by simp [D.py, PyData.eqv, D.eqs, beq_dec]
@[simp] theorem eqv_fls_tup {a : List D} {b : List D} : PyData.eqv (D.py (.fls a)) (D.py (.tup b)) = false := by simp [D.py, PyData.eqv, D.eqs, beq_dec]
@[simp] theorem eqv_fls_fls {a : List D} {b : List D} : PyData.eqv (D.py (.fls a)) (D.py (.fls b)) = D.eqs a b := by simp [D.py, PyData.eqv, D.eqs, beq_dec]
@[simp] theorem eqs_00 : D.eqs [] [] = true := by simp [D.eqs, D.pys, PyData.eqvAll]
@[simp] theorem eqs_01 {x : D} {xs : List D} : D.eqs [] (x :: xs) = false := by simp [D.eqs, D.pys, PyData.eqvAll]
@[simp] theorem eqs_10 {x : D} {xs : List D} : D.eqs (x :: xs) [] = false := by simp [D.eqs, D.pys, PyData.eqvAll]
@[simp] theorem eqs_11 {x y : D} {xs ys : List D} : D.eqs (x :: xs) (y :: ys) = (PyData.eqv x.py y.py && D.eqs xs ys) := by simp [D.eqs, D.pys, PyData.eqvAll]
theorem eqs_map {f : α → D} [DecidableEq α] (h : ∀ x y, PyData.eqv (f x).py (f y).py = decide (x = y)) : ∀ xs ys : List α, D.eqs (xs.map f) (ys.map f) = decide (xs = ys)
  | [], [] => by simp
  | [], y :: ys => by simp
  | x :: xs, [] => by simp
  | x :: xs, y :: ys => by simp [h, eqs_map h xs ys]
@[simp] theorem isNon_n : D.isNon .non = true := rfl
@[simp] theorem isNon_i {i : Int} : D.isNon (.int i) = false := rfl
@[simp] theorem isNon_b {i : Bool} : D.isNon (.bl i) = false := rfl
@[simp] theorem isNon_s {i : Str} : D.isNon (.str i) = false := rfl
@[simp] theorem isNon_t {i : List D} : D.isNon (.tup i) = false := rfl
@[simp] theorem isNon_f {i : List D} : D.isNon (.fls i) = false := rfl
end
/-! step by step -/
theorem seq_by {t u : DS} {E : DEnds} {δ : DSt} {L : MH} (I : DSt → MH → Prop) (h1 : ∀ nx : DSt → MH → Prop, (∀ δ' L', I δ' L' → nx δ' L') → t ⟨nx, E.rt, E.bk, E.ct⟩ δ L) (h2 : ∀ δ' L', I δ' L' → u E δ' L') : rSeq t u E δ L := h1 _ h2
theorem seq_to {t u : DS} {E : DEnds} {δ : DSt} {L : MH} (δ1 : DSt) (L1 : MH) (h1 : ∀ nx : DSt → MH → Prop, nx δ1 L1 → t ⟨nx, E.rt, E.bk, E.ct⟩ δ L) (h2 : u E δ1 L1) : rSeq t u E δ L := h1 _ h2
/-! loops -/
section
variable {α β : Type} {g : Tg} {tb : DS} {E : DEnds}
/-- a loop that runs through: a fold -/
theorem forD_inv (enc : α → D) (Inv : β → DSt → MH → Prop) (step : β → α → β) (hb : ∀ b a δ L, Inv b δ L → ∃ δ1, g.set (enc a) δ = some δ1 ∧ ∀ nx : DSt → MH → Prop, (∀ δ' L', Inv (step b a) δ' L' → nx δ' L') → tb ⟨nx, E.rt, E.nx, nx⟩ δ1 L) :
    ∀ (xs : List α) (b : β) (δ : DSt) (L : MH), Inv b δ L → (∀ δ' L', Inv (xs.foldl step b) δ' L' → E.nx δ' L') → forD g tb E (xs.map enc) δ L
  | [], b, δ, L, h, hk => hk δ L h
  | x :: xs, b, δ, L, h, hk => by
    obtain ⟨δ1, e, q⟩ := hb b x δ L h
    show (match g.set (enc x) δ with
      | some δ1 => tb ⟨forD g tb E (xs.map enc), E.rt, E.nx, forD g tb E (xs.map enc)⟩ δ1 L
      | none => False)
    rw [e]
    exact q _ fun δ' L' i => forD_inv enc Inv step hb xs (step b x) δ' L' i hk
/-- .. with what is known of the items -/
theorem forD_invM (enc : α → D) (Inv : β → DSt → MH → Prop) (step : β → α → β) (M : α → Prop) (hb : ∀ b a δ L, M a → Inv b δ L → ∃ δ1, g.set (enc a) δ = some δ1 ∧ ∀ nx : DSt → MH → Prop, (∀ δ' L', Inv (step b a) δ' L' → nx δ' L') → tb ⟨nx, E.rt, E.nx, nx⟩ δ1 L) :
    ∀ (xs : List α), (∀ x ∈ xs, M x) → ∀ (b : β) (δ : DSt) (L : MH), Inv b δ L → (∀ δ' L', Inv (xs.foldl step b) δ' L' → E.nx δ' L') → forD g tb E (xs.map enc) δ L
  | [], _, b, δ, L, h, hk => hk δ L h
  | x :: xs, m, b, δ, L, h, hk => by
    obtain ⟨δ1, e, q⟩ := hb b x δ L (m x List.mem_cons_self) h
    show (match g.set (enc x) δ with
      | some δ1 => tb ⟨forD g tb E (xs.map enc), E.rt, E.nx, forD g tb E (xs.map enc)⟩ δ1 L
      | none => False)
    rw [e]
    exact q _ fun δ' L' i => forD_invM enc Inv step M hb xs (fun y hy => m y (List.mem_cons_of_mem _ hy)) (step b x) δ' L' i hk
/-- .. that can leave early: P holds before each item, by the items left; D's are free -/
theorem forD_any (I : List D → DSt → MH → Prop) (h0 : ∀ δ L, I [] δ L → E.nx δ L) (hs : ∀ x xs δ L, I (x :: xs) δ L → ∃ δ1, g.set x δ = some δ1 ∧ ∀ nx : DSt → MH → Prop, (∀ δ' L', I xs δ' L' → nx δ' L') → tb ⟨nx, E.rt, E.nx, nx⟩ δ1 L) :
    ∀ (xs : List D) (δ : DSt) (L : MH), I xs δ L → forD g tb E xs δ L
  | [], δ, L, h => h0 δ L h
  | x :: xs, δ, L, h => by
    obtain ⟨δ1, e, q⟩ := hs x xs δ L h
    show (match g.set x δ with
      | some δ1 => tb ⟨forD g tb E xs, E.rt, E.nx, forD g tb E xs⟩ δ1 L
      | none => False)
    rw [e]
    exact q _ fun δ' L' i => forD_any I h0 hs xs δ' L' i
/-- a loop by what is left of it -/
theorem forD_rest (enc : α → D) (Inv : List α → DSt → MH → Prop) (hb : ∀ a r δ L, Inv (a :: r) δ L → ∃ δ1, g.set (enc a) δ = some δ1 ∧ ∀ nx : DSt → MH → Prop, (∀ δ' L', Inv r δ' L' → nx δ' L') → tb ⟨nx, E.rt, E.nx, nx⟩ δ1 L) :
    ∀ (xs : List α) (δ : DSt) (L : MH), Inv xs δ L → (∀ δ' L', Inv [] δ' L' → E.nx δ' L') → forD g tb E (xs.map enc) δ L
  | [], δ, L, h, hk => hk δ L h
  | x :: xs, δ, L, h, hk => by
    obtain ⟨δ1, e, q⟩ := hb x xs δ L h
    show (match g.set (enc x) δ with
      | some δ1 => tb ⟨forD g tb E (xs.map enc), E.rt, E.nx, forD g tb E (xs.map enc)⟩ δ1 L
      | none => False)
    rw [e]
    exact q _ fun δ' L' i => forD_rest enc Inv hb xs δ' L' i hk
/-- a comprehension that changes nothing -/
theorem compD_pure (enc : α → D) (p : α → Bool) (f : α → D) {tt : DT} {te : DE} {δ0 : DSt} {L : MH} {k : KD} :
    ∀ (xs : List α) (acc : List D), (∀ x ∈ xs, ∃ δ1, g.set (enc x) δ0 = some δ1 ∧ (∀ kb : Bool → MH → Prop, kb (p x) L → tt δ1 L kb) ∧ (p x = true → ∀ k : KD, k (f x) L → te δ1 L k)) → k (.fls (acc ++ (xs.filter p).map f)) L → compD g tt te δ0 (xs.map enc) acc L k
  | [], acc, _, h => by simpa using h
  | x :: xs, acc, hx, h => by
    obtain ⟨δ1, e, q1, q2⟩ := hx x List.mem_cons_self
    show (match g.set (enc x) δ0 with
      | some δ1 => tt δ1 L fun b L2 => if b = true then te δ1 L2 fun d L3 => compD g tt te δ0 (xs.map enc) (acc ++ [d]) L3 k else compD g tt te δ0 (xs.map enc) acc L2 k
      | none => False)
    rw [e]
    refine q1 _ ?_
    by_cases hp : p x = true
    · rw [if_pos hp]
      refine q2 hp _ (compD_pure enc p f xs _ (fun y hy => hx y (List.mem_cons_of_mem _ hy)) ?_)
      rw [List.filter_cons_of_pos hp] at h
      simpa using h
    · rw [if_neg hp]
      refine compD_pure enc p f xs _ (fun y hy => hx y (List.mem_cons_of_mem _ hy)) ?_
      rw [List.filter_cons_of_neg hp] at h
      exact h
/-- .. without a test -/
theorem compD_map (enc : α → D) (f : α → D) {te : DE} {δ0 : DSt} {L : MH} {k : KD} (xs : List α) (hx : ∀ x ∈ xs, ∃ δ1, g.set (enc x) δ0 = some δ1 ∧ ∀ k : KD, k (f x) L → te δ1 L k) (h : k (.fls (xs.map f)) L) : compD g rYes te δ0 (xs.map enc) [] L k := by
  refine compD_pure enc (fun _ => true) f xs [] (fun x m => ?_) (by rw [List.filter_eq_self.mpr fun _ _ => rfl, List.nil_append]; exact h)
  obtain ⟨δ1, e, q⟩ := hx x m
  exact ⟨δ1, e, fun kb z => z, fun _ => q⟩
theorem rangeD_eq (lo : Int) (n : Nat) : rangeD lo n = (List.range n).map fun i => D.int (lo + (i : Nat)) := rfl
theorem forD_range {lo : Int} {n : Nat} (I : Nat → DSt → MH → Prop) {δ : DSt} {L : MH} (h0 : I 0 δ L) (hb : ∀ i δ L, i < n → I i δ L → ∃ δ1, g.set (D.int (lo + (i : Nat))) δ = some δ1 ∧ ∀ nx : DSt → MH → Prop, (∀ δ' L', I (i + 1) δ' L' → nx δ' L') → tb ⟨nx, E.rt, E.nx, nx⟩ δ1 L)
    (hk : ∀ δ' L', I n δ' L' → E.nx δ' L') : forD g tb E (rangeD lo n) δ L := by
  rw [rangeD_eq, List.range_eq_range']
  refine forD_rest (fun i : Nat => D.int (lo + (i : Nat))) (fun r δ L => ∃ i, i ≤ n ∧ r = List.range' i (n - i) ∧ I i δ L) (fun a r δ L ⟨i, h1, h2, h3⟩ => ?_) _ _ _ ⟨0, by omega, by simp, h0⟩ (fun δ L ⟨i, h1, h2, h3⟩ => ?_)
  · by_cases e : i < n
    · have e2 : n - i = (n - (i + 1)) + 1 := by omega
      rw [e2, List.range'_succ] at h2
      injection h2 with e3 e4
      subst e3
      obtain ⟨δ1, h4, h5⟩ := hb a δ L e h3
      exact ⟨δ1, h4, fun nx hnx => h5 nx fun δ' L' z => hnx δ' L' ⟨a + 1, by omega, e4, z⟩⟩
    · have e2 : n - i = 0 := by omega
      rw [e2] at h2
      cases h2
  · have e : n - i = 0 := by
      have := congrArg List.length h2
      simpa using this.symm
    have e2 : i = n := by omega
    subst e2
    exact hk δ L h3
theorem whileD_succ {c : DT} {n : Nat} {δ : DSt} {L : MH} : whileD c tb E (n + 1) δ L = c δ L fun b L1 => if b = true then tb ⟨whileD c tb E n, E.rt, E.nx, whileD c tb E n⟩ δ L1 else E.nx δ L1 := rfl
end
/-- a recursion by depth -/
theorem CallD.fam {P : Program} {w : World} {K : PySem.W.Frag} {mg : Str → Option Value} {base : Heap} {x : Str} {st : Stmt} {ps : List Str} (A : DefAt K mg x st ps) (sp : Nat → SpD) (l0 : Nat) (no : ∀ ds L q, ¬ sp 0 ds L q) (step : ∀ k, CallD P w K mg base (l0 + k) x (sp k) → CallD P w K mg base (l0 + k + 1) x (sp (k + 1))) : ∀ k, CallD P w K mg base (l0 + k) x (sp k)
  | 0 => (CallD.zero A no).mono (Nat.zero_le _)
  | k + 1 => step k (CallD.fam A sp l0 no step k)
/-- .. up to a bound -/
theorem CallD.famB {P : Program} {w : World} {K : PySem.W.Frag} {mg : Str → Option Value} {base : Heap} {x : Str} {st : Stmt} {ps : List Str} (A : DefAt K mg x st ps) (sp : Nat → SpD) (l0 B : Nat) (no : ∀ ds L q, ¬ sp 0 ds L q) (step : ∀ k, k < B → CallD P w K mg base (l0 + k) x (sp k) → CallD P w K mg base (l0 + k + 1) x (sp (k + 1))) : ∀ k, k ≤ B → CallD P w K mg base (l0 + k) x (sp k)
  | 0, _ => (CallD.zero A no).mono (Nat.zero_le _)
  | k + 1, h => step k h (CallD.famB A sp l0 B no step k (Nat.le_of_lt h))
end DL

/-! Tr: the program's trees as data; what its simplifier computes. -/
namespace DL
open PySem L2

inductive Tr where
  | emp | set (rs : List (Int × Int)) | anc (s : Str) | seq (a b : Tr) | cho (a b : Tr) | rep (a : Tr) (lo : Int) (hi : Option Int) (g : Bool) | grp (n : Int) (a : Tr) | look (ah ps : Bool) (a : Tr)
  deriving DecidableEq
def encO : Option Int → D
  | none => .non
  | some i => .int i
namespace Tr
def enc : Tr → D
  | emp => .tup [.str "empty"]
  | set rs => .tup [.str "set", .tup (rs.map encP)]
  | anc s => .tup [.str "anchor", .str s]
  | seq a b => .tup [.str "sequence", a.enc, b.enc]
  | cho a b => .tup [.str "choice", a.enc, b.enc]
  | rep a lo hi g => .tup [.str "repeat", a.enc, .int lo, encO hi, .bl g]
  | grp n a => .tup [.str "group", .int n, a.enc]
  | look ah ps a => .tup [.str "look", .bl ah, .bl ps, a.enc]
def sz : Tr → Nat
  | emp => 1
  | set _ => 1
  | anc _ => 1
  | seq a b => a.sz + b.sz + 1
  | cho a b => a.sz + b.sz + 1
  | rep a _ _ _ => a.sz + 1
  | grp _ a => a.sz + 1
  | look _ _ a => a.sz + 1
theorem sz_pos : ∀ t : Tr, 1 ≤ t.sz
  | emp => Nat.le_refl _
  | set _ => Nat.le_refl _
  | anc _ => Nat.le_refl _
  | seq a b => Nat.le_add_left _ _
  | cho a b => Nat.le_add_left _ _
  | rep a _ _ _ => Nat.le_add_left _ _
  | grp _ a => Nat.le_add_left _ _
  | look _ _ a => Nat.le_add_left _ _
/-- the inner nodes -/
def nd : Tr → Nat
  | seq a b => a.nd + b.nd + 1
  | cho a b => a.nd + b.nd + 1
  | rep a _ _ _ => a.nd + 1
  | grp _ a => a.nd + 1
  | look _ _ a => a.nd + 1
  | _ => 0
theorem sz_nd : ∀ t : Tr, t.sz ≤ 2 * t.nd + 1
  | emp => by simp [sz, nd]
  | set _ => by simp [sz, nd]
  | anc _ => by simp [sz, nd]
  | seq a b => by have := sz_nd a; have := sz_nd b; simp only [sz, nd]; omega
  | cho a b => by have := sz_nd a; have := sz_nd b; simp only [sz, nd]; omega
  | rep a _ _ _ => by have := sz_nd a; simp only [sz, nd]; omega
  | grp _ a => by have := sz_nd a; simp only [sz, nd]; omega
  | look _ _ a => by have := sz_nd a; simp only [sz, nd]; omega
def kids : Tr → List Tr
  | seq a b => [a, b]
  | cho a b => [a, b]
  | rep a _ _ _ => [a]
  | grp _ a => [a]
  | look _ _ a => [a]
  | _ => []
theorem kids_sz : ∀ {t u : Tr}, u ∈ t.kids → u.sz < t.sz := by
  intro t u h
  cases t <;> simp [kids] at h <;> rcases h with h | h <;> subst_vars <;> simp [sz] <;> omega
theorem kids_nd : ∀ {t u : Tr}, u ∈ t.kids → u.nd < t.nd := by
  intro t u h
  cases t <;> simp [kids] at h <;> rcases h with h | h <;> subst_vars <;> simp [nd] <;> omega
theorem sz_kids (t : Tr) : t.sz = 1 + ((t.kids.map sz).sum) := by
  cases t <;> simp [kids, sz] <;> omega
end Tr
@[simp] theorem encO_pr {o : Option Int} : (encO o).pr = true := by cases o <;> simp [encO]
@[simp] theorem encO_dp {o : Option Int} : (encO o).dp = 0 := by cases o <;> simp [encO]
@[simp] theorem encP_pr {p : Int × Int} : (encP p).pr = true := by simp [encP]
@[simp] theorem encP_dp {p : Int × Int} : (encP p).dp = 1 := by simp [encP]
@[simp] theorem encP_prs {ps : List (Int × Int)} : D.prs (ps.map encP) = true := prs_map (fun _ => encP_pr) ps
theorem encP_dps {ps : List (Int × Int)} : D.dps (ps.map encP) ≤ 1 := dps_map fun _ _ => by simp
@[simp] theorem encP_eqv {p q : Int × Int} : PyData.eqv (encP p).py (encP q).py = decide (p = q) := by
  simp [encP, Prod.ext_iff]
@[simp] theorem encPs_eqs {ps qs : List (Int × Int)} : D.eqs (ps.map encP) (qs.map encP) = decide (ps = qs) := eqs_map (fun _ _ => encP_eqv) ps qs
@[simp] theorem encO_eqv {o p : Option Int} : PyData.eqv (encO o).py (encO p).py = decide (o = p) := by
  cases o <;> cases p <;> simp [encO]
@[simp] theorem encO_eqi {o : Option Int} {i : Int} : PyData.eqv (encO o).py (D.int i).py = decide (o = some i) := by
  cases o <;> simp [encO]
@[simp] theorem encO_eqn {o : Option Int} : PyData.eqv (encO o).py D.non.py = decide (o = none) := by
  cases o <;> simp [encO]
@[simp] theorem encO_isn {o : Option Int} : (encO o).isNon = decide (o = none) := by
  cases o <;> simp [encO]
namespace Tr
@[simp] theorem enc_pr : ∀ t : Tr, t.enc.pr = true
  | emp => by simp [enc]
  | set _ => by simp [enc]
  | anc _ => by simp [enc]
  | seq a b => by simp [enc, enc_pr a, enc_pr b]
  | cho a b => by simp [enc, enc_pr a, enc_pr b]
  | rep a _ _ _ => by simp [enc, enc_pr a]
  | grp _ a => by simp [enc, enc_pr a]
  | look _ _ a => by simp [enc, enc_pr a]
theorem enc_dp : ∀ t : Tr, t.enc.dp ≤ t.nd + 3
  | emp => by simp [enc, nd]
  | set rs => by
    have := encP_dps (ps := rs)
    simp only [enc, nd, dp_t, dps_1, dp_s, dps_0]
    omega
  | anc _ => by simp [enc, nd]
  | seq a b => by
    have := enc_dp a
    have := enc_dp b
    simp only [enc, nd, dp_t, dps_1, dp_s, dps_0]
    omega
  | cho a b => by
    have := enc_dp a
    have := enc_dp b
    simp only [enc, nd, dp_t, dps_1, dp_s, dps_0]
    omega
  | rep a _ _ _ => by
    have := enc_dp a
    simp only [enc, nd, dp_t, dps_1, dp_s, dps_0, dp_i, dp_b, encO_dp]
    omega
  | grp _ a => by
    have := enc_dp a
    simp only [enc, nd, dp_t, dps_1, dp_s, dps_0, dp_i, dp_b]
    omega
  | look _ _ a => by
    have := enc_dp a
    simp only [enc, nd, dp_t, dps_1, dp_s, dps_0, dp_i, dp_b]
    omega
end Tr
@[simp] theorem tg_empty_set : (("empty" : Str) = ("set" : Str)) = False := by decide
@[simp] theorem tg_empty_anchor : (("empty" : Str) = ("anchor" : Str)) = False := by decide
@[simp] theorem tg_empty_sequence : (("empty" : Str) = ("sequence" : Str)) = False := by decide
@[simp] theorem tg_empty_choice : (("empty" : Str) = ("choice" : Str)) = False := by decide
@[simp] theorem tg_empty_repeat : (("empty" : Str) = ("repeat" : Str)) = False := by decide
@[simp] theorem tg_empty_group : (("empty" : Str) = ("group" : Str)) = False := by decide
@[simp] theorem tg_empty_look : (("empty" : Str) = ("look" : Str)) = False := by decide
@[simp] theorem tg_set_empty : (("set" : Str) = ("empty" : Str)) = False := by decide
@[simp] theorem tg_set_anchor : (("set" : Str) = ("anchor" : Str)) = False := by decide
@[simp] theorem tg_set_sequence : (("set" : Str) = ("sequence" : Str)) = False := by decide
@[simp] theorem tg_set_choice : (("set" : Str) = ("choice" : Str)) = False := by decide
@[simp] theorem tg_set_repeat : (("set" : Str) = ("repeat" : Str)) = False := by decide
@[simp] theorem tg_set_group : (("set" : Str) = ("group" : Str)) = False := by decide
@[simp] theorem tg_set_look : (("set" : Str) = ("look" : Str)) = False := by decide
@[simp] theorem tg_anchor_empty : (("anchor" : Str) = ("empty" : Str)) = False := by decide
@[simp] theorem tg_anchor_set : (("anchor" : Str) = ("set" : Str)) = False := by decide
@[simp] theorem tg_anchor_sequence : (("anchor" : Str) = ("sequence" : Str)) = False := by decide
@[simp] theorem tg_anchor_choice : (("anchor" : Str) = ("choice" : Str)) = False := by decide
@[simp] theorem tg_anchor_repeat : (("anchor" : Str) = ("repeat" : Str)) = False := by decide
@[simp] theorem tg_anchor_group : (("anchor" : Str) = ("group" : Str)) = False := by decide
@[simp] theorem tg_anchor_look : (("anchor" : Str) = ("look" : Str)) = False := by decide
@[simp] theorem tg_sequence_empty : (("sequence" : Str) = ("empty" : Str)) = False := by decide
@[simp] theorem tg_sequence_set : (("sequence" : Str) = ("set" : Str)) = False := by decide
@[simp] theorem tg_sequence_anchor : (("sequence" : Str) = ("anchor" : Str)) = False := by decide
@[simp] theorem tg_sequence_choice : (("sequence" : Str) = ("choice" : Str)) = False := by decide
@[simp] theorem tg_sequence_repeat : (("sequence" : Str) = ("repeat" : Str)) = False := by decide
@[simp] theorem tg_sequence_group : (("sequence" : Str) = ("group" : Str)) = False := by decide
@[simp] theorem tg_sequence_look : (("sequence" : Str) = ("look" : Str)) = False := by decide
@[simp] theorem tg_choice_empty : (("choice" : Str) = ("empty" : Str)) = False := by decide
@[simp] theorem tg_choice_set : (("choice" : Str) = ("set" : Str)) = False := by decide
@[simp] theorem tg_choice_anchor : (("choice" : Str) = ("anchor" : Str)) = False := by decide
@[simp] theorem tg_choice_sequence : (("choice" : Str) = ("sequence" : Str)) = False := by decide
@[simp] theorem tg_choice_repeat : (("choice" : Str) = ("repeat" : Str)) = False := by decide
@[simp] theorem tg_choice_group : (("choice" : Str) = ("group" : Str)) = False := by decide
@[simp] theorem tg_choice_look : (("choice" : Str) = ("look" : Str)) = False := by decide
@[simp] theorem tg_repeat_empty : (("repeat" : Str) = ("empty" : Str)) = False := by decide
@[simp] theorem tg_repeat_set : (("repeat" : Str) = ("set" : Str)) = False := by decide
@[simp] theorem tg_repeat_anchor : (("repeat" : Str) = ("anchor" : Str)) = False := by decide
@[simp] theorem tg_repeat_sequence : (("repeat" : Str) = ("sequence" : Str)) = False := by decide
@[simp] theorem tg_repeat_choice : (("repeat" : Str) = ("choice" : Str)) = False := by decide
@[simp] theorem tg_repeat_group : (("repeat" : Str) = ("group" : Str)) = False := by decide
@[simp] theorem tg_repeat_look : (("repeat" : Str) = ("look" : Str)) = False := by decide
@[simp] theorem tg_group_empty : (("group" : Str) = ("empty" : Str)) = False := by decide
@[simp] theorem tg_group_set : (("group" : Str) = ("set" : Str)) = False := by decide
@[simp] theorem tg_group_anchor : (("group" : Str) = ("anchor" : Str)) = False := by decide
@[simp] theorem tg_group_sequence : (("group" : Str) = ("sequence" : Str)) = False := by decide
@[simp] theorem tg_group_choice : (("group" : Str) = ("choice" : Str)) = False := by decide
@[simp] theorem tg_group_repeat : (("group" : Str) = ("repeat" : Str)) = False := by decide
@[simp] theorem tg_group_look : (("group" : Str) = ("look" : Str)) = False := by decide
@[simp] theorem tg_look_empty : (("look" : Str) = ("empty" : Str)) = False := by decide
@[simp] theorem tg_look_set : (("look" : Str) = ("set" : Str)) = False := by decide
@[simp] theorem tg_look_anchor : (("look" : Str) = ("anchor" : Str)) = False := by decide
@[simp] theorem tg_look_sequence : (("look" : Str) = ("sequence" : Str)) = False := by decide
@[simp] theorem tg_look_choice : (("look" : Str) = ("choice" : Str)) = False := by decide
@[simp] theorem tg_look_repeat : (("look" : Str) = ("repeat" : Str)) = False := by decide
@[simp] theorem tg_look_group : (("look" : Str) = ("group" : Str)) = False := by decide
namespace Tr
theorem enc_eqv : ∀ t u : Tr, PyData.eqv t.enc.py u.enc.py = decide (t = u)
  | emp, u => by cases u <;> simp [enc]
  | set _, u => by cases u <;> simp [enc]
  | anc _, u => by cases u <;> simp [enc]
  | seq a b, u => by cases u <;> simp [enc, enc_eqv a, enc_eqv b]
  | cho a b, u => by cases u <;> simp [enc, enc_eqv a, enc_eqv b]
  | rep a _ _ _, u => by cases u <;> simp [enc, enc_eqv a]
  | grp _ a, u => by cases u <;> simp [enc, enc_eqv a]
  | look _ _ a, u => by cases u <;> simp [enc, enc_eqv a]
theorem enc_inj {t u : Tr} (h : t.enc = u.enc) : t = u := by
  have e := enc_eqv t u
  rw [h, enc_eqv u u] at e
  simpa using e
@[simp] theorem enc_inj_iff {t u : Tr} : t.enc = u.enc ↔ t = u := ⟨enc_inj, fun h => by rw [h]⟩
section
variable {t a b : Tr} {rs : List (Int × Int)} {lo n : Int} {hi : Option Int} {g ah ps : Bool} {s : Str} {i : Int}
end
def tag : Tr → Str
  | emp => "empty"
  | set _ => "set"
  | anc _ => "anchor"
  | seq _ _ => "sequence"
  | cho _ _ => "choice"
  | rep _ _ _ _ => "repeat"
  | grp _ _ => "group"
  | look _ _ _ => "look"
section
variable {t a b : Tr} {rs : List (Int × Int)} {lo n : Int} {hi : Option Int} {g ah ps : Bool} {s : Str} {i : Int} {L : MH} {k : KD}
@[simp] theorem tag_emp : emp.tag = "empty" := rfl
@[simp] theorem tag_set : (set rs).tag = "set" := rfl
@[simp] theorem tag_anc : (anc s).tag = "anchor" := rfl
@[simp] theorem tag_seq : (seq a b).tag = "sequence" := rfl
@[simp] theorem tag_cho : (cho a b).tag = "choice" := rfl
@[simp] theorem tag_rep : (rep a lo hi g).tag = "repeat" := rfl
@[simp] theorem tag_grp : (grp n a).tag = "group" := rfl
@[simp] theorem tag_look : (look ah ps a).tag = "look" := rfl
@[simp ↓] theorem ix_tag : oIx t.enc (.int 0) L k = k (.str t.tag) L := by cases t <;> rfl
@[simp ↓] theorem ix_set1 : oIx (set rs).enc (.int 1) L k = k (.tup (rs.map encP)) L := rfl
@[simp ↓] theorem ix_anc1 : oIx (anc s).enc (.int 1) L k = k (.str s) L := rfl
@[simp ↓] theorem ix_seq1 : oIx (seq a b).enc (.int 1) L k = k a.enc L := rfl
@[simp ↓] theorem ix_seq2 : oIx (seq a b).enc (.int 2) L k = k b.enc L := rfl
@[simp ↓] theorem ix_cho1 : oIx (cho a b).enc (.int 1) L k = k a.enc L := rfl
@[simp ↓] theorem ix_cho2 : oIx (cho a b).enc (.int 2) L k = k b.enc L := rfl
@[simp ↓] theorem ix_rep1 : oIx (rep a lo hi g).enc (.int 1) L k = k a.enc L := rfl
@[simp ↓] theorem ix_rep2 : oIx (rep a lo hi g).enc (.int 2) L k = k (.int lo) L := rfl
@[simp ↓] theorem ix_rep3 : oIx (rep a lo hi g).enc (.int 3) L k = k (encO hi) L := rfl
@[simp ↓] theorem ix_rep4 : oIx (rep a lo hi g).enc (.int 4) L k = k (.bl g) L := rfl
@[simp ↓] theorem sl_rep : oSl (rep a lo hi g).enc (some 2) none L k = k (.tup [.int lo, encO hi, .bl g]) L := rfl
@[simp ↓] theorem ix_grp1 : oIx (grp n a).enc (.int 1) L k = k (.int n) L := rfl
@[simp ↓] theorem ix_grp2 : oIx (grp n a).enc (.int 2) L k = k a.enc L := rfl
@[simp ↓] theorem ix_look1 : oIx (look ah ps a).enc (.int 1) L k = k (.bl ah) L := rfl
@[simp ↓] theorem ix_look2 : oIx (look ah ps a).enc (.int 2) L k = k (.bl ps) L := rfl
@[simp ↓] theorem ix_look3 : oIx (look ah ps a).enc (.int 3) L k = k a.enc L := rfl
@[simp] theorem enc_eqv' : PyData.eqv a.enc.py b.enc.py = decide (a = b) := enc_eqv a b
@[simp] theorem eqv_emp : PyData.eqv a.enc.py (D.tup [.str "empty"]).py = decide (a = emp) := enc_eqv a emp
@[simp] theorem eqv_nev : PyData.eqv a.enc.py (D.tup [.str "set", .tup []]).py = decide (a = set []) := enc_eqv a (set [])
@[simp] theorem enc_isn : a.enc.isNon = false := by cases a <;> rfl
@[simp] theorem dp_emp : emp.enc.dp = 1 := by simp [enc]
@[simp] theorem dp_nev : (Tr.set []).enc.dp = 2 := by simp [enc]
@[simp] theorem f_emp : D.tup [.str "empty"] = emp.enc := rfl
@[simp] theorem f_nev : D.tup [.str "set", .tup []] = (set []).enc := rfl
@[simp] theorem f_set : D.tup [.str "set", .tup (rs.map encP)] = (set rs).enc := rfl
@[simp] theorem f_anc : D.tup [.str "anchor", .str s] = (anc s).enc := rfl
@[simp] theorem f_seq : D.tup [.str "sequence", a.enc, b.enc] = (seq a b).enc := rfl
@[simp] theorem f_cho : D.tup [.str "choice", a.enc, b.enc] = (cho a b).enc := rfl
@[simp] theorem f_rep : D.tup [.str "repeat", a.enc, .int lo, encO hi, .bl g] = (rep a lo hi g).enc := rfl
@[simp] theorem f_repn : D.tup [.str "repeat", a.enc, .int lo, .non, .bl g] = (rep a lo none g).enc := rfl
@[simp] theorem f_repi : D.tup [.str "repeat", a.enc, .int lo, .int i, .bl g] = (rep a lo (some i) g).enc := rfl
@[simp] theorem f_grp : D.tup [.str "group", .int n, a.enc] = (grp n a).enc := rfl
@[simp] theorem f_look : D.tup [.str "look", .bl ah, .bl ps, a.enc] = (look ah ps a).enc := rfl
end
end Tr
end DL

/-! readings, printed by gen.py -/
namespace DL
open PySem L2
def k_NEVER : D := (.tup [(.str "set"), (.tup [])])
def k_EMPTY : D := (.tup [(.str "empty")])
namespace R
def parts : DS := (rSeq (rIfS (rTest (rO (oIn false) (rO oIx (rV 0) (rC (.int 0))) (rTup [(rC (.str "sequence")), (rC (.str "choice"))]))) (rRet (rFls [(rO oIx (rV 0) (rC (.int 1))), (rO oIx (rV 0) (rC (.int 2)))])) rNext)
  (rSeq (rIfS (rTest (rO oEq (rO oIx (rV 0) (rC (.int 0))) (rC (.str "repeat")))) (rRet (rFls [(rO oIx (rV 0) (rC (.int 1)))])) rNext)
  (rSeq (rIfS (rTest (rO oEq (rO oIx (rV 0) (rC (.int 0))) (rC (.str "group")))) (rRet (rFls [(rO oIx (rV 0) (rC (.int 2)))])) rNext)
  (rSeq (rIfS (rTest (rO oEq (rO oIx (rV 0) (rC (.int 0))) (rC (.str "look")))) (rRet (rFls [(rO oIx (rV 0) (rC (.int 3)))])) rNext)
  (rRet (rFls []))))))
def inner_groups (sp_parts : SpD) (sp_inner_groups : SpD) : DS := (rSeq (rSet (.nm 1) (rLst []))
  (rSeq (rIfS (rTest (rO oEq (rO oIx (rV 0) (rC (.int 0))) (rC (.str "group")))) (rDrop (rM "list" mAppend (rV 1) [(rO oIx (rV 0) (rC (.int 1)))])) rNext)
  (rSeq (rFor (rIt (rCall sp_parts [(rV 0)])) (.nm 2) (rDrop (rM "list" mExtend (rV 1) [(rCall sp_inner_groups [(rV 2)])])))
  (rFrz 1 (rRet (rB bSrt [(rV 1)]))))))
def make_set : DS := (rSeq (rSet (.nm 1) (rLst []))
  (rSeq (rFor (rIt (rB bSrt [(rV 0)])) (.tp [2, 3]) (rSeq (rIfS (rTest (rO oGe (rV 2) (rV 3))) rCnt rNext)
  (rIfS (rAndT (rTru (rV 1)) (rTest (rO oLe (rV 2) (rO oIx (rO oIx (rV 1) (rNeg (rC (.int 1)))) (rC (.int 1)))))) (rStore (rTup [(rO oIx (rO oIx (rV 1) (rNeg (rC (.int 1)))) (rC (.int 0))), (rB bMax [(rO oIx (rO oIx (rV 1) (rNeg (rC (.int 1)))) (rC (.int 1))), (rV 3)])]) (rV 1) (rNeg (rC (.int 1)))) (rDrop (rM "list" mAppend (rV 1) [(rTup [(rV 2), (rV 3)])])))))
  (rFrz 1 (rRet (rB bTup [(rV 1)])))))
def union (sp_make_set : SpD) : DS := (rRet (rCall sp_make_set [(rO oAdd (rB bFls [(rV 0)]) (rB bFls [(rV 1)]))]))
def tree_size (sp_parts : SpD) (sp_tree_size : SpD) : DS := (rRet (rO oAdd (rC (.int 1)) (rB bSum [(rLc (rIt (rCall sp_parts [(rV 0)])) (.nm 1) rYes (rCall sp_tree_size [(rV 1)]))])))
def bare (sp_inner_groups : SpD) : DS := (rRet (rNot (rCall sp_inner_groups [(rV 0)])))
def join_sequence (sp_bare : SpD) (sp_join_sequence : SpD) : DS := (rSeq (rIfS (rTest (rO oEq (rO oIx (rV 0) (rC (.int 0))) (rC (.str "sequence")))) (rRet (rCall sp_join_sequence [(rO oIx (rV 0) (rC (.int 1))), (rCall sp_join_sequence [(rO oIx (rV 0) (rC (.int 2))), (rV 1)])])) rNext)
  (rSeq (rIfS (rTest (rO oEq (rV 0) (rC k_EMPTY))) (rRet (rV 1)) rNext)
  (rSeq (rIfS (rTest (rO oEq (rV 1) (rC k_EMPTY))) (rRet (rV 0)) rNext)
  (rSeq (rIfS (rOrT (rAndT (rTest (rO oEq (rV 0) (rC k_NEVER))) (rTru (rCall sp_bare [(rV 1)]))) (rAndT (rTest (rO oEq (rV 1) (rC k_NEVER))) (rTru (rCall sp_bare [(rV 0)])))) (rRet (rC k_NEVER)) rNext)
  (rRet (rTup [(rC (.str "sequence")), (rV 0), (rV 1)]))))))
def alternatives : DS := (rSeq (rSet (.nm 1) (rLst []))
  (rSeq (rWhile (rTest (rO oEq (rO oIx (rV 0) (rC (.int 0))) (rC (.str "choice")))) (rSeq (rDrop (rM "list" mAppend (rV 1) [(rO oIx (rV 0) (rC (.int 1)))]))
  (rSet (.nm 0) (rO oIx (rV 0) (rC (.int 2))))))
  (rSeq (rDrop (rM "list" mAppend (rV 1) [(rV 0)]))
  (rFrz 1 (rRet (rV 1))))))
def choice_of : DS := (rSeq (rSet (.nm 1) (rO oIx (rV 0) (rNeg (rC (.int 1)))))
  (rSeq (rFor (rIt (rRev (rSl (rV 0) rNoP (rPart (rNeg (rC (.int 1))))))) (.nm 2) (rSet (.nm 1) (rTup [(rC (.str "choice")), (rV 2), (rV 1)])))
  (rRet (rV 1))))
def merged (sp_union : SpD) : DS := (rSeq (rIfS (rAndT (rTest (rO oEq (rO oIx (rV 0) (rC (.int 0))) (rC (.str "set")))) (rTest (rO oEq (rO oIx (rV 1) (rC (.int 0))) (rC (.str "set"))))) (rRet (rTup [(rC (.str "set")), (rCall sp_union [(rO oIx (rV 0) (rC (.int 1))), (rO oIx (rV 1) (rC (.int 1)))])])) rNext)
  (rSeq (rIfS (rAndT (rTest (rO oEq (rO oIx (rV 0) (rC (.int 0))) (rC (.str "sequence")))) (rAndT (rTest (rO oEq (rO oIx (rV 1) (rC (.int 0))) (rC (.str "sequence")))) (rAndT (rTest (rO oEq (rO oIx (rV 0) (rC (.int 1))) (rO oIx (rV 1) (rC (.int 1))))) (rTest (rO (oIn false) (rO oIx (rO oIx (rV 0) (rC (.int 1))) (rC (.int 0))) (rTup [(rC (.str "set")), (rC (.str "anchor"))])))))) (rRet (rTup [(rC (.str "sequence")), (rO oIx (rV 0) (rC (.int 1))), (rTup [(rC (.str "choice")), (rO oIx (rV 0) (rC (.int 2))), (rO oIx (rV 1) (rC (.int 2)))])])) rNext)
  (rRet (rC .non))))
def join_choice (sp_choice_of : SpD) (sp_bare : SpD) (sp_merged : SpD) (sp_alternatives : SpD) (sp_join_choice : SpD) : DS := (rSeq (rIfS (rTest (rO oEq (rO oIx (rV 0) (rC (.int 0))) (rC (.str "choice")))) (rRet (rCall sp_join_choice [(rO oIx (rV 0) (rC (.int 1))), (rCall sp_join_choice [(rO oIx (rV 0) (rC (.int 2))), (rV 1)])])) rNext)
  (rSeq (rIfS (rTest (rO oEq (rV 0) (rC k_NEVER))) (rRet (rV 1)) rNext)
  (rSeq (rIfS (rTest (rO oEq (rV 1) (rC k_NEVER))) (rRet (rV 0)) rNext)
  (rSeq (rSet (.nm 2) (rCall sp_alternatives [(rV 1)]))
  (rSeq (rSet (.nm 3) (rCall sp_merged [(rV 0), (rO oIx (rV 2) (rC (.int 0)))]))
  (rSeq (rIfS (rTest (rO oNotN (rV 3) (rC .non))) (rRet (rCall sp_choice_of [(rO oAdd (rFls [(rV 3)]) (rSl (rV 2) (rPart (rC (.int 1))) rNoP))])) rNext)
  (rSeq (rIfS (rTru (rCall sp_bare [(rV 0)])) (rSet (.nm 2) (rLc (rIt (rV 2)) (.nm 4) (rTest (rO oNe (rV 4) (rV 0))) (rV 4))) rNext)
  (rRet (rCall sp_choice_of [(rO oAdd (rFls [(rV 0)]) (rV 2))])))))))))
def simple_repeat (sp_bare : SpD) : DS := (rSeq (rPar [2, 3, 4] [(rO oIx (rV 1) (rC (.int 2))), (rO oIx (rV 1) (rC (.int 3))), (rO oIx (rV 1) (rC (.int 4)))])
  (rSeq (rIfS (rOrT (rTest (rO oEq (rV 0) (rC k_EMPTY))) (rAndT (rTest (rO oEq (rV 0) (rC k_NEVER))) (rTest (rO oEq (rV 2) (rC (.int 0)))))) (rRet (rC k_EMPTY)) rNext)
  (rSeq (rIfS (rTest (rO oEq (rV 0) (rC k_NEVER))) (rRet (rC k_NEVER)) rNext)
  (rSeq (rIfS (rTru (rCall sp_bare [(rV 0)])) (rSeq (rIfS (rTest (rO oEq (rV 3) (rC (.int 0)))) (rRet (rC k_EMPTY)) rNext)
  (rSeq (rIfS (rAndT (rTest (rO oEq (rV 2) (rC (.int 1)))) (rTest (rO oEq (rV 3) (rC (.int 1))))) (rRet (rV 0)) rNext)
  (rIfS (rAndT (rTest (rO oEq (rO oIx (rV 0) (rC (.int 0))) (rC (.str "repeat")))) (rAndT (rTest (rO oEq (rV 2) (rC (.int 0)))) (rAndT (rTest (rO oIsN (rV 3) (rC .non))) (rTest (rO oEq (rSl (rV 0) (rPart (rC (.int 2))) rNoP) (rTup [(rC (.int 0)), (rC .non), (rV 4)])))))) (rRet (rV 0)) rNext))) rNext)
  (rRet (rTup [(rC (.str "repeat")), (rV 0), (rV 2), (rV 3), (rV 4)]))))))
def simple_look : DS := (rSeq (rIfS (rTest (rO oEq (rV 0) (rC k_EMPTY))) (rRet (rIf (rTru (rO oIx (rV 1) (rC (.int 2)))) (rC k_EMPTY) (rC k_NEVER))) rNext)
  (rSeq (rIfS (rTest (rO oEq (rV 0) (rC k_NEVER))) (rRet (rIf (rTru (rO oIx (rV 1) (rC (.int 2)))) (rC k_NEVER) (rC k_EMPTY))) rNext)
  (rRet (rTup [(rC (.str "look")), (rO oIx (rV 1) (rC (.int 1))), (rO oIx (rV 1) (rC (.int 2))), (rV 0)]))))
def simplify (sp_simplify : SpD) (sp_simple_look : SpD) (sp_simple_repeat : SpD) (sp_join_choice : SpD) (sp_join_sequence : SpD) : DS := (rSeq (rSet (.nm 1) (rO oIx (rV 0) (rC (.int 0))))
  (rSeq (rIfS (rTest (rO oEq (rV 1) (rC (.str "sequence")))) (rRet (rCall sp_join_sequence [(rCall sp_simplify [(rO oIx (rV 0) (rC (.int 1)))]), (rCall sp_simplify [(rO oIx (rV 0) (rC (.int 2)))])])) rNext)
  (rSeq (rIfS (rTest (rO oEq (rV 1) (rC (.str "choice")))) (rRet (rCall sp_join_choice [(rCall sp_simplify [(rO oIx (rV 0) (rC (.int 1)))]), (rCall sp_simplify [(rO oIx (rV 0) (rC (.int 2)))])])) rNext)
  (rSeq (rIfS (rTest (rO oEq (rV 1) (rC (.str "repeat")))) (rRet (rCall sp_simple_repeat [(rCall sp_simplify [(rO oIx (rV 0) (rC (.int 1)))]), (rV 0)])) rNext)
  (rSeq (rIfS (rTest (rO oEq (rV 1) (rC (.str "group")))) (rRet (rTup [(rC (.str "group")), (rO oIx (rV 0) (rC (.int 1))), (rCall sp_simplify [(rO oIx (rV 0) (rC (.int 2)))])])) rNext)
  (rSeq (rIfS (rTest (rO oEq (rV 1) (rC (.str "look")))) (rRet (rCall sp_simple_look [(rCall sp_simplify [(rO oIx (rV 0) (rC (.int 3)))]), (rV 0)])) rNext)
  (rRet (rV 0))))))))
def simplest (sp_tree_size : SpD) (sp_simplify : SpD) : DS := (rSeq (rFor (rRng1 [(rCall sp_tree_size [(rV 0)])]) (.nm 1) (rSeq (rSet (.nm 2) (rCall sp_simplify [(rV 0)]))
  (rSeq (rIfS (rTest (rO oEq (rV 2) (rV 0))) rBrk rNext)
  (rSet (.nm 0) (rV 2)))))
  (rRet (rV 0)))
def _law_row : DS := (rSeq (rSet (.nm 2) (rC (.int 0)))
  (rSeq (rIfS (rTest (rO oLt (rV 1) (rB bLen [(rV 0)]))) (rSet (.nm 2) (rO oIx (rV 0) (rV 1))) rNext)
  (rSeq (rIfS (rTest (rO oLt (rV 2) (rC (.int 0)))) (rSet (.nm 2) (rO oSub (rC (.int 1)) (rO oMul (rC (.int 2)) (rV 2)))) rNext)
  (rSeq (rIfS (rTest (rO oGe (rV 2) (rO oPow (rC (.int 10)) (rC (.int 9))))) (rRet (rV 2)) rNext)
  (rSeq (rSet (.nm 3) (rO oMod (rB bInt [(rO oAdd (rO oMul (rO oAdd (rO oAdd (rV 2) (rO oMul (rC (.int 7919)) (rV 1))) (rC (.int 1))) (rC (.int 6364136223846793005))) (rC (.int 1442695040888963407)))]) (rC (.int 2305843009213693951))))
  (rRet (rO oMod (rB bInt [(rO oAdd (rO oAdd (rO oMul (rV 3) (rV 3)) (rO oMul (rC (.int 104729)) (rV 1))) (rC (.int 977)))]) (rC (.int 2305843009213693951)))))))))
def _law_digit (sp__law_row : SpD) : DS := (rSeq (rIfS (rTest (rO oEq (rO oIx (rV 1) (rC (.int 0))) (rC (.int 0)))) (rSeq (rStore (rCall sp__law_row [(rV 0), (rO oIx (rV 1) (rC (.int 1)))]) (rV 1) (rC (.int 0)))
  (rStore (rO oAdd (rO oIx (rV 1) (rC (.int 1))) (rC (.int 1))) (rV 1) (rC (.int 1)))) rNext)
  (rSeq (rSet (.nm 3) (rO oMod (rB bInt [(rO oIx (rV 1) (rC (.int 0)))]) (rV 2)))
  (rSeq (rStore (rO oFdiv (rO oIx (rV 1) (rC (.int 0))) (rV 2)) (rV 1) (rC (.int 0)))
  (rRet (rV 3)))))
def _law_same (sp__law_same : SpD) : DS := (rSeq (rIfS (rTest (rO oIsN (rV 1) (rC .non))) (rRet (rO oIsN (rV 0) (rC .non))) rNext)
  (rSeq (rIfS (rTru (rB bIsi [(rV 1), (rC (.ty "bool"))])) (rRet (rAnd (rB bIsi [(rV 0), (rC (.ty "bool"))]) (rO oEq (rV 0) (rV 1)))) rNext)
  (rSeq (rIfS (rTru (rB bIsi [(rV 1), (rC (.ty "int"))])) (rRet (rAnd (rB bIsi [(rV 0), (rC (.ty "int"))]) (rAnd (rNot (rB bIsi [(rV 0), (rC (.ty "bool"))])) (rO oEq (rV 0) (rV 1))))) rNext)
  (rSeq (rIfS (rTru (rB bIsi [(rV 1), (rC (.ty "str"))])) (rRet (rAnd (rB bIsi [(rV 0), (rC (.ty "str"))]) (rO oEq (rV 0) (rV 1)))) rNext)
  (rSeq (rIfS (rAndT (rTru (rB bIsi [(rV 1), (rC (.ty "tuple"))])) (rNotT (rTru (rB bIsi [(rV 0), (rC (.ty "tuple"))])))) (rRet (rC (.bl false))) rNext)
  (rSeq (rIfS (rAndT (rTru (rB bIsi [(rV 1), (rC (.ty "list"))])) (rNotT (rTru (rB bIsi [(rV 0), (rC (.ty "list"))])))) (rRet (rC (.bl false))) rNext)
  (rSeq (rIfS (rTest (rO oNe (rB bLen [(rV 0)]) (rB bLen [(rV 1)]))) (rRet (rC (.bl false))) rNext)
  (rSeq (rFor (rRng1 [(rB bLen [(rV 1)])]) (.nm 2) (rIfS (rNotT (rTru (rCall sp__law_same [(rO oIx (rV 0) (rV 2)), (rO oIx (rV 1) (rV 2))]))) (rRet (rC (.bl false))) rNext))
  (rRet (rC (.bl true)))))))))))
def _law_tree (sp__law_digit : SpD) (sp__law_tree : SpD) : DS := (rSeq (rSet (.nm 3) (rCall sp__law_digit [(rV 0), (rV 1), (rC (.int 18))]))
  (rSeq (rIfS (rOrT (rTest (rO oEq (rV 2) (rC (.int 0)))) (rTest (rO oLt (rV 3) (rC (.int 4))))) (rSeq (rSet (.nm 4) (rFls [(rTup [(rC (.str "empty"))]), (rTup [(rC (.str "set")), (rTup [])]), (rTup [(rC (.str "set")), (rTup [(rTup [(rC (.int 97)), (rC (.int 98))])])]), (rTup [(rC (.str "set")), (rTup [(rTup [(rC (.int 98)), (rC (.int 99))])])]), (rTup [(rC (.str "set")), (rTup [(rTup [(rC (.int 97)), (rC (.int 98))]), (rTup [(rC (.int 100)), (rC (.int 104))])])])]))
  (rSeq (rSet (.nm 4) (rO oAdd (rV 4) (rFls [(rTup [(rC (.str "anchor")), (rC (.str "text_start"))]), (rTup [(rC (.str "anchor")), (rC (.str "line_end"))]), (rTup [(rC (.str "set")), (rTup [(rTup [(rC (.int 99)), (rC (.int 101))])])])])))
  (rRet (rO oIx (rV 4) (rCall sp__law_digit [(rV 0), (rV 1), (rC (.int 8))]))))) rNext)
  (rSeq (rIfS (rTest (rO oLt (rV 3) (rC (.int 7)))) (rRet (rTup [(rC (.str "sequence")), (rCall sp__law_tree [(rV 0), (rV 1), (rO oSub (rV 2) (rC (.int 1)))]), (rCall sp__law_tree [(rV 0), (rV 1), (rO oSub (rV 2) (rC (.int 1)))])])) rNext)
  (rSeq (rIfS (rTest (rO oLt (rV 3) (rC (.int 11)))) (rRet (rTup [(rC (.str "choice")), (rCall sp__law_tree [(rV 0), (rV 1), (rO oSub (rV 2) (rC (.int 1)))]), (rCall sp__law_tree [(rV 0), (rV 1), (rO oSub (rV 2) (rC (.int 1)))])])) rNext)
  (rSeq (rIfS (rTest (rO oEq (rV 3) (rC (.int 11)))) (rSeq (rSet (.nm 5) (rCall sp__law_tree [(rV 0), (rLst [(rO oIx (rV 1) (rC (.int 0))), (rO oIx (rV 1) (rC (.int 1))), (rC (.int 0))]), (rC (.int 0))]))
  (rSeq (rSet (.nm 6) (rTup [(rC (.str "sequence")), (rV 5), (rCall sp__law_tree [(rV 0), (rV 1), (rO oSub (rV 2) (rC (.int 1)))])]))
  (rRet (rTup [(rC (.str "choice")), (rV 6), (rTup [(rC (.str "sequence")), (rV 5), (rCall sp__law_tree [(rV 0), (rV 1), (rO oSub (rV 2) (rC (.int 1)))])])])))) rNext)
  (rSeq (rIfS (rTest (rO oLt (rV 3) (rC (.int 15)))) (rSeq (rSet (.nm 7) (rFls [(rTup [(rC (.int 0)), (rC .non)]), (rTup [(rC (.int 1)), (rC (.int 1))]), (rTup [(rC (.int 0)), (rC (.int 0))]), (rTup [(rC (.int 0)), (rC (.int 1))]), (rTup [(rC (.int 2)), (rC .non)]), (rTup [(rC (.int 0)), (rC .non)]), (rTup [(rC (.int 1)), (rC .non)]), (rTup [(rC (.int 2)), (rC (.int 3))])]))
  (rSeq (rSet (.nm 8) (rO oIx (rV 7) (rCall sp__law_digit [(rV 0), (rV 1), (rC (.int 8))])))
  (rSeq (rSet (.nm 9) (rO oEq (rCall sp__law_digit [(rV 0), (rV 1), (rC (.int 2))]) (rC (.int 0))))
  (rRet (rTup [(rC (.str "repeat")), (rCall sp__law_tree [(rV 0), (rV 1), (rO oSub (rV 2) (rC (.int 1)))]), (rO oIx (rV 8) (rC (.int 0))), (rO oIx (rV 8) (rC (.int 1))), (rV 9)]))))) rNext)
  (rSeq (rIfS (rTest (rO oLt (rV 3) (rC (.int 17)))) (rSeq (rStore (rO oAdd (rO oIx (rV 1) (rC (.int 2))) (rC (.int 1))) (rV 1) (rC (.int 2)))
  (rRet (rTup [(rC (.str "group")), (rO oSub (rO oIx (rV 1) (rC (.int 2))) (rC (.int 1))), (rCall sp__law_tree [(rV 0), (rV 1), (rO oSub (rV 2) (rC (.int 1)))])]))) rNext)
  (rSeq (rSet (.nm 10) (rO oEq (rCall sp__law_digit [(rV 0), (rV 1), (rC (.int 2))]) (rC (.int 0))))
  (rRet (rTup [(rC (.str "look")), (rV 10), (rO oEq (rCall sp__law_digit [(rV 0), (rV 1), (rC (.int 2))]) (rC (.int 0))), (rCall sp__law_tree [(rV 0), (rV 1), (rO oSub (rV 2) (rC (.int 1)))])]))))))))))
def _law_looks (sp__law_looks : SpD) : DS := (rSeq (rIfS (rOrT (rTest (rO oEq (rO oIx (rV 0) (rC (.int 0))) (rC (.str "sequence")))) (rTest (rO oEq (rO oIx (rV 0) (rC (.int 0))) (rC (.str "choice"))))) (rRet (rO oAdd (rCall sp__law_looks [(rO oIx (rV 0) (rC (.int 1)))]) (rCall sp__law_looks [(rO oIx (rV 0) (rC (.int 2)))]))) rNext)
  (rSeq (rIfS (rTest (rO oEq (rO oIx (rV 0) (rC (.int 0))) (rC (.str "repeat")))) (rRet (rCall sp__law_looks [(rO oIx (rV 0) (rC (.int 1)))])) rNext)
  (rSeq (rIfS (rTest (rO oEq (rO oIx (rV 0) (rC (.int 0))) (rC (.str "group")))) (rRet (rCall sp__law_looks [(rO oIx (rV 0) (rC (.int 2)))])) rNext)
  (rRet (rIf (rTest (rO oEq (rO oIx (rV 0) (rC (.int 0))) (rC (.str "look")))) (rO oAdd (rC (.int 1)) (rCall sp__law_looks [(rO oIx (rV 0) (rC (.int 3)))])) (rC (.int 0)))))))
def _law_parts : DS := (rSeq (rIfS (rOrT (rTest (rO oEq (rO oIx (rV 0) (rC (.int 0))) (rC (.str "sequence")))) (rTest (rO oEq (rO oIx (rV 0) (rC (.int 0))) (rC (.str "choice"))))) (rRet (rFls [(rO oIx (rV 0) (rC (.int 1))), (rO oIx (rV 0) (rC (.int 2)))])) rNext)
  (rSeq (rIfS (rTest (rO oEq (rO oIx (rV 0) (rC (.int 0))) (rC (.str "repeat")))) (rRet (rFls [(rO oIx (rV 0) (rC (.int 1)))])) rNext)
  (rSeq (rIfS (rTest (rO oEq (rO oIx (rV 0) (rC (.int 0))) (rC (.str "group")))) (rRet (rFls [(rO oIx (rV 0) (rC (.int 2)))])) rNext)
  (rRet (rIf (rTest (rO oEq (rO oIx (rV 0) (rC (.int 0))) (rC (.str "look")))) (rFls [(rO oIx (rV 0) (rC (.int 3)))]) (rFls []))))))
def _law_size (sp__law_parts : SpD) (sp__law_size : SpD) : DS := (rRet (rO oAdd (rC (.int 1)) (rB bSum [(rLc (rIt (rCall sp__law_parts [(rV 0)])) (.nm 1) rYes (rCall sp__law_size [(rV 1)]))])))
def _law_bare (sp__law_parts : SpD) (sp__law_bare : SpD) : DS := (rRet (rAnd (rO oNe (rO oIx (rV 0) (rC (.int 0))) (rC (.str "group"))) (rB bAll [(rLc (rIt (rCall sp__law_parts [(rV 0)])) (.nm 1) rYes (rCall sp__law_bare [(rV 1)]))])))
def _law_sequence (sp__law_bare : SpD) (sp__law_sequence : SpD) : DS := (rSeq (rSet (.nm 2) (rTup [(rC (.str "set")), (rTup [])]))
  (rSeq (rIfS (rTest (rO oEq (rO oIx (rV 0) (rC (.int 0))) (rC (.str "sequence")))) (rRet (rCall sp__law_sequence [(rO oIx (rV 0) (rC (.int 1))), (rCall sp__law_sequence [(rO oIx (rV 0) (rC (.int 2))), (rV 1)])])) rNext)
  (rSeq (rIfS (rTest (rO oEq (rV 0) (rTup [(rC (.str "empty"))]))) (rRet (rV 1)) rNext)
  (rSeq (rIfS (rTest (rO oEq (rV 1) (rTup [(rC (.str "empty"))]))) (rRet (rV 0)) rNext)
  (rSeq (rIfS (rOrT (rAndT (rTest (rO oEq (rV 0) (rV 2))) (rTru (rCall sp__law_bare [(rV 1)]))) (rAndT (rTest (rO oEq (rV 1) (rV 2))) (rTru (rCall sp__law_bare [(rV 0)])))) (rRet (rV 2)) rNext)
  (rRet (rTup [(rC (.str "sequence")), (rV 0), (rV 1)])))))))
def _law_union : DS := (rSeq (rSet (.nm 2) (rLst []))
  (rSeq (rFor (rRng1 [(rC (.int 128))]) (.nm 3) (rSeq (rSet (.nm 4) (rB bAny [(rLc (rIt (rO oAdd (rO oIx (rV 0) (rC (.int 1))) (rO oIx (rV 1) (rC (.int 1))))) (.nm 5) rYes (rAnd (rO oLe (rO oIx (rV 5) (rC (.int 0))) (rV 3)) (rO oLt (rV 3) (rO oIx (rV 5) (rC (.int 1))))))]))
  (rIfS (rAndT (rTru (rV 4)) (rAndT (rTest (rO oGt (rB bLen [(rV 2)]) (rC (.int 0)))) (rTest (rO oEq (rO oIx (rO oIx (rV 2) (rNeg (rC (.int 1)))) (rC (.int 1))) (rV 3))))) (rStore (rTup [(rO oIx (rO oIx (rV 2) (rNeg (rC (.int 1)))) (rC (.int 0))), (rO oAdd (rV 3) (rC (.int 1)))]) (rV 2) (rNeg (rC (.int 1)))) (rIfS (rTru (rV 4)) (rDrop (rM "list" mAppend (rV 2) [(rTup [(rV 3), (rO oAdd (rV 3) (rC (.int 1)))])])) rNext))))
  (rFrz 2 (rRet (rTup [(rC (.str "set")), (rB bTup [(rV 2)])])))))
def _law_choice (sp__law_bare : SpD) (sp__law_union : SpD) (sp__law_choice : SpD) : DS := (rSeq (rIfS (rTest (rO oEq (rO oIx (rV 0) (rC (.int 0))) (rC (.str "choice")))) (rRet (rCall sp__law_choice [(rO oIx (rV 0) (rC (.int 1))), (rCall sp__law_choice [(rO oIx (rV 0) (rC (.int 2))), (rV 1)])])) rNext)
  (rSeq (rIfS (rTest (rO oEq (rV 0) (rTup [(rC (.str "set")), (rTup [])]))) (rRet (rV 1)) rNext)
  (rSeq (rIfS (rTest (rO oEq (rV 1) (rTup [(rC (.str "set")), (rTup [])]))) (rRet (rV 0)) rNext)
  (rSeq (rSet (.nm 2) (rV 1))
  (rSeq (rIfS (rTest (rO oEq (rO oIx (rV 1) (rC (.int 0))) (rC (.str "choice")))) (rSet (.nm 2) (rO oIx (rV 1) (rC (.int 1)))) rNext)
  (rSeq (rSet (.nm 3) (rC .non))
  (rSeq (rIfS (rAndT (rTest (rO oEq (rO oIx (rV 0) (rC (.int 0))) (rC (.str "set")))) (rTest (rO oEq (rO oIx (rV 2) (rC (.int 0))) (rC (.str "set"))))) (rSet (.nm 3) (rCall sp__law_union [(rV 0), (rV 2)])) rNext)
  (rSeq (rIfS (rAndT (rTest (rO oEq (rO oIx (rV 0) (rC (.int 0))) (rC (.str "sequence")))) (rAndT (rTest (rO oEq (rO oIx (rV 2) (rC (.int 0))) (rC (.str "sequence")))) (rAndT (rTest (rO oEq (rO oIx (rV 0) (rC (.int 1))) (rO oIx (rV 2) (rC (.int 1))))) (rTest (rO (oIn false) (rO oIx (rO oIx (rV 0) (rC (.int 1))) (rC (.int 0))) (rFls [(rC (.str "set")), (rC (.str "anchor"))])))))) (rSet (.nm 3) (rTup [(rC (.str "sequence")), (rO oIx (rV 0) (rC (.int 1))), (rTup [(rC (.str "choice")), (rO oIx (rV 0) (rC (.int 2))), (rO oIx (rV 2) (rC (.int 2)))])])) rNext)
  (rSeq (rIfS (rTest (rO oNotN (rV 3) (rC .non))) (rRet (rIf (rTest (rO oEq (rO oIx (rV 1) (rC (.int 0))) (rC (.str "choice")))) (rTup [(rC (.str "choice")), (rV 3), (rO oIx (rV 1) (rC (.int 2)))]) (rV 3))) rNext)
  (rSeq (rSet (.nm 4) (rLst []))
  (rSeq (rWhile (rAndT (rTest (rO oEq (rO oIx (rV 1) (rC (.int 0))) (rC (.str "choice")))) (rTest (rO oLt (rB bLen [(rV 4)]) (rC (.int 200))))) (rSeq (rDrop (rM "list" mAppend (rV 4) [(rO oIx (rV 1) (rC (.int 1)))]))
  (rSet (.nm 1) (rO oIx (rV 1) (rC (.int 2))))))
  (rSeq (rDrop (rM "list" mAppend (rV 4) [(rV 1)]))
  (rFrz 4 (rSeq (rIfS (rTru (rCall sp__law_bare [(rV 0)])) (rSet (.nm 4) (rLc (rIt (rV 4)) (.nm 5) (rTest (rO oNe (rV 5) (rV 0))) (rV 5))) rNext)
  (rSeq (rSet (.nm 4) (rO oAdd (rFls [(rV 0)]) (rV 4)))
  (rSeq (rSet (.nm 5) (rO oIx (rV 4) (rNeg (rC (.int 1)))))
  (rSeq (rFor (rRng1 [(rO oSub (rB bLen [(rV 4)]) (rC (.int 1)))]) (.nm 6) (rSet (.nm 5) (rTup [(rC (.str "choice")), (rO oIx (rV 4) (rO oSub (rO oSub (rB bLen [(rV 4)]) (rC (.int 2))) (rV 6))), (rV 5)])))
  (rRet (rV 5)))))))))))))))))))
def _law_simple (sp__law_bare : SpD) (sp__law_simple : SpD) (sp__law_choice : SpD) (sp__law_sequence : SpD) : DS := (rSeq (rIfS (rTest (rO oEq (rO oIx (rV 0) (rC (.int 0))) (rC (.str "sequence")))) (rRet (rCall sp__law_sequence [(rCall sp__law_simple [(rO oIx (rV 0) (rC (.int 1)))]), (rCall sp__law_simple [(rO oIx (rV 0) (rC (.int 2)))])])) rNext)
  (rSeq (rIfS (rTest (rO oEq (rO oIx (rV 0) (rC (.int 0))) (rC (.str "choice")))) (rRet (rCall sp__law_choice [(rCall sp__law_simple [(rO oIx (rV 0) (rC (.int 1)))]), (rCall sp__law_simple [(rO oIx (rV 0) (rC (.int 2)))])])) rNext)
  (rSeq (rIfS (rTest (rO oEq (rO oIx (rV 0) (rC (.int 0))) (rC (.str "group")))) (rRet (rTup [(rC (.str "group")), (rO oIx (rV 0) (rC (.int 1))), (rCall sp__law_simple [(rO oIx (rV 0) (rC (.int 2)))])])) rNext)
  (rSeq (rIfS (rTest (rO oEq (rO oIx (rV 0) (rC (.int 0))) (rC (.str "look")))) (rSeq (rSet (.nm 1) (rCall sp__law_simple [(rO oIx (rV 0) (rC (.int 3)))]))
  (rSeq (rIfS (rOrT (rTest (rO oEq (rV 1) (rTup [(rC (.str "empty"))]))) (rTest (rO oEq (rV 1) (rTup [(rC (.str "set")), (rTup [])])))) (rRet (rIf (rTest (rO oEq (rO oIx (rV 0) (rC (.int 2))) (rO oEq (rV 1) (rTup [(rC (.str "empty"))])))) (rTup [(rC (.str "empty"))]) (rTup [(rC (.str "set")), (rTup [])]))) rNext)
  (rRet (rTup [(rC (.str "look")), (rO oIx (rV 0) (rC (.int 1))), (rO oIx (rV 0) (rC (.int 2))), (rV 1)])))) rNext)
  (rSeq (rIfS (rTest (rO oNe (rO oIx (rV 0) (rC (.int 0))) (rC (.str "repeat")))) (rRet (rV 0)) rNext)
  (rSeq (rSet (.nm 1) (rCall sp__law_simple [(rO oIx (rV 0) (rC (.int 1)))]))
  (rSeq (rIfS (rTest (rO oEq (rV 1) (rTup [(rC (.str "empty"))]))) (rRet (rV 1)) rNext)
  (rSeq (rIfS (rTest (rO oEq (rV 1) (rTup [(rC (.str "set")), (rTup [])]))) (rRet (rIf (rTest (rO oEq (rO oIx (rV 0) (rC (.int 2))) (rC (.int 0)))) (rTup [(rC (.str "empty"))]) (rV 1))) rNext)
  (rSeq (rIfS (rAndT (rTru (rCall sp__law_bare [(rV 1)])) (rTest (rO oEq (rO oIx (rV 0) (rC (.int 3))) (rC (.int 0))))) (rRet (rTup [(rC (.str "empty"))])) rNext)
  (rSeq (rIfS (rAndT (rTru (rCall sp__law_bare [(rV 1)])) (rAndT (rTest (rO oEq (rO oIx (rV 0) (rC (.int 2))) (rC (.int 1)))) (rTest (rO oEq (rO oIx (rV 0) (rC (.int 3))) (rC (.int 1)))))) (rRet (rV 1)) rNext)
  (rSeq (rSet (.nm 2) (rAnd (rO oEq (rO oIx (rV 1) (rC (.int 0))) (rC (.str "repeat"))) (rAnd (rO oEq (rSl (rV 0) (rPart (rC (.int 2))) rNoP) (rTup [(rC (.int 0)), (rC .non), (rO oIx (rV 0) (rC (.int 4)))])) (rO oEq (rSl (rV 1) (rPart (rC (.int 2))) rNoP) (rSl (rV 0) (rPart (rC (.int 2))) rNoP)))))
  (rSeq (rIfS (rAndT (rTru (rCall sp__law_bare [(rV 1)])) (rTru (rV 2))) (rRet (rV 1)) rNext)
  (rRet (rTup [(rC (.str "repeat")), (rV 1), (rO oIx (rV 0) (rC (.int 2))), (rO oIx (rV 0) (rC (.int 3))), (rO oIx (rV 0) (rC (.int 4)))]))))))))))))))
def law (sp_simplest : SpD) (sp__law_same : SpD) (sp__law_size : SpD) (sp__law_simple : SpD) (sp_tree_size : SpD) (sp_simplify : SpD) (sp__law_looks : SpD) (sp__law_digit : SpD) (sp__law_tree : SpD) : DS := (rSeq (rSet (.nm 1) (rLst [(rC (.int 0)), (rC (.int 0)), (rC (.int 0))]))
  (rSeq (rSet (.nm 2) (rCall sp__law_tree [(rV 0), (rV 1), (rO oAdd (rC (.int 1)) (rCall sp__law_digit [(rV 0), (rV 1), (rC (.int 4))]))]))
  (rSeq (rIfS (rTest (rO oGt (rCall sp__law_looks [(rV 2)]) (rC (.int 4)))) (rSet (.nm 2) (rTup [(rC (.str "choice")), (rTup [(rC (.str "look")), (rC (.bl false)), (rC (.bl true)), (rTup [(rC (.str "set")), (rTup [])])]), (rTup [(rC (.str "repeat")), (rTup [(rC (.str "set")), (rTup [(rTup [(rC (.int 97)), (rC (.int 98))])])]), (rC (.int 1)), (rC (.int 1)), (rC (.bl false))])])) rNext)
  (rSeq (rIfS (rOrT (rNotT (rTru (rCall sp__law_same [(rCall sp_tree_size [(rV 2)]), (rCall sp__law_size [(rV 2)])]))) (rNotT (rTru (rCall sp__law_same [(rCall sp_simplify [(rV 2)]), (rCall sp__law_simple [(rV 2)])])))) (rRet (rC (.bl false))) rNext)
  (rSeq (rSet (.nm 3) (rV 2))
  (rSeq (rFor (rRng1 [(rCall sp__law_size [(rV 2)])]) (.nm 4) (rSeq (rSet (.nm 5) (rCall sp__law_simple [(rV 3)]))
  (rSeq (rIfS (rTest (rO oEq (rV 5) (rV 3))) rBrk rNext)
  (rSet (.nm 3) (rV 5)))))
  (rRet (rCall sp__law_same [(rCall sp_simplest [(rV 2)]), (rV 3)]))))))))
end R
end DL

namespace DL
open PySem L2
namespace Tr
def bare : Tr → Bool
  | grp _ _ => false
  | seq a b => a.bare && b.bare
  | cho a b => a.bare && b.bare
  | rep a _ _ _ => a.bare
  | look _ _ a => a.bare
  | _ => true
def igs : Tr → List Int
  | seq a b => sortI (a.igs ++ b.igs)
  | cho a b => sortI (a.igs ++ b.igs)
  | rep a _ _ _ => sortI a.igs
  | grp n a => sortI (n :: a.igs)
  | look _ _ a => sortI a.igs
  | _ => []
theorem sortI_emp (l : List Int) : (sortI l).isEmpty = l.isEmpty := by
  have := (sortB_perm leI l).length_eq
  unfold sortI
  cases h : sortB leI l <;> cases l <;> simp_all
theorem igs_bare : ∀ t : Tr, t.igs.isEmpty = t.bare
  | emp => rfl
  | set _ => rfl
  | anc _ => rfl
  | seq a b => by simp only [igs, bare, sortI_emp, ← igs_bare a, ← igs_bare b]; cases a.igs <;> simp
  | cho a b => by simp only [igs, bare, sortI_emp, ← igs_bare a, ← igs_bare b]; cases a.igs <;> simp
  | rep a _ _ _ => by simp only [igs, bare, sortI_emp, ← igs_bare a]
  | grp _ a => by simp only [igs, bare, sortI_emp]; rfl
  | look _ _ a => by simp only [igs, bare, sortI_emp, ← igs_bare a]
end Tr
open Tr
section
variable {L : MH} {q : KD}
def spParts : SpD := fun ds L q => ∃ t : Tr, ds = [t.enc] ∧ q (.fls (t.kids.map Tr.enc)) L
theorem rd_parts (t : Tr) (h : q (.fls (t.kids.map Tr.enc)) L) : R.parts (rE q) [some t.enc] L := by
  unfold R.parts
  cases t <;> simpa [Tr.kids] using h
def spIgs (n : Nat) : SpD := fun ds L q => ∃ t : Tr, ds = [t.enc] ∧ t.nd < n ∧ q (.fls (t.igs.map D.int)) L
theorem igs_len : ∀ t : Tr, t.igs.length ≤ t.nd := by
  have e : ∀ l : List Int, (sortI l).length = l.length := fun l => (sortB_perm leI l).length_eq
  intro t
  induction t <;> simp only [Tr.igs, Tr.nd, e, List.length_append, List.length_cons, List.length_nil] <;> omega
theorem b_srt_ii {a b : List Int} {k : KD} : bSrt [.fls (a.map D.int ++ b.map D.int)] L k = k (.fls ((sortI (a ++ b)).map D.int)) L := by
  rw [← List.map_append, b_srt_i]
theorem b_srt_ic {a : Int} {b : List Int} {k : KD} : bSrt [.fls (.int a :: b.map D.int)] L k = k (.fls ((sortI (a :: b)).map D.int)) L := b_srt_i (ns := a :: b)
theorem b_srt_0 {k : KD} : bSrt [.fls []] L k = k (.fls []) L := b_srt_i (ns := [])
theorem rd_igs {n : Nat} (hn : n < 1000) (t : Tr) (ht : t.nd < n + 1) (h : q (.fls (t.igs.map D.int)) L) : R.inner_groups spParts (spIgs n) (rE q) [some t.enc, none, none] L := by
  unfold R.inner_groups
  have sl := sl_eq
  simp only [x_rSeq, x_rSet, x_rLst, x_rArgs0]
  intro p hp
  cases t
  case seq a b =>
    have ha := igs_len a
    have hb := igs_len b
    simp only [Tr.nd, Tr.igs] at ht h
    simp [spParts, Tr.kids, spIgs, e_own, b_srt_ii, del_none hp]
    exact ⟨by omega, by omega, by omega, by omega, h⟩
  case cho a b =>
    have ha := igs_len a
    have hb := igs_len b
    simp only [Tr.nd, Tr.igs] at ht h
    simp [spParts, Tr.kids, spIgs, e_own, b_srt_ii, del_none hp]
    exact ⟨by omega, by omega, by omega, by omega, h⟩
  case rep a _ _ _ =>
    have ha := igs_len a
    simp only [Tr.nd, Tr.igs] at ht h
    simp [spParts, Tr.kids, spIgs, e_own, b_srt_ii, del_none hp]
    exact ⟨by omega, by omega, h⟩
  case grp i a =>
    have ha := igs_len a
    simp only [Tr.nd, Tr.igs] at ht h
    simp [spParts, Tr.kids, spIgs, e_own, b_srt_ic, del_none hp]
    exact ⟨by omega, by omega, by omega, h⟩
  case look _ _ a =>
    have ha := igs_len a
    simp only [Tr.nd, Tr.igs] at ht h
    simp [spParts, Tr.kids, spIgs, e_own, b_srt_ii, del_none hp]
    exact ⟨by omega, by omega, h⟩
  all_goals
    simp only [Tr.nd, Tr.igs] at ht h
    simp [spParts, Tr.kids, spIgs, e_own, b_srt_0, del_none hp]
    exact h
def spBare (n : Nat) : SpD := fun ds L q => ∃ t : Tr, ds = [t.enc] ∧ t.nd < n ∧ q (.bl t.bare) L
theorem rd_bare {n : Nat} (t : Tr) (ht : t.nd < n) (h : q (.bl t.bare) L) : R.bare (spIgs n) (rE q) [some t.enc] L := by
  unfold R.bare
  rw [← igs_bare] at h
  simp [spIgs]
  exact ⟨ht, by simpa using h⟩
end
end DL

namespace DL
open PySem L2 Tr
/-! sets -/
def msStep (acc : List (Int × Int)) (p : Int × Int) : List (Int × Int) :=
  if p.1 ≥ p.2 then acc else match acc.getLast? with
    | some a => if p.1 ≤ a.2 then acc.dropLast ++ [(a.1, if p.2 > a.2 then p.2 else a.2)] else acc ++ [p]
    | none => acc ++ [p]
def msF (l : List (Int × Int)) : List (Int × Int) := (sortP l).foldl msStep []
theorem msStep_len (acc : List (Int × Int)) (p : Int × Int) : (msStep acc p).length ≤ acc.length + 1 := by
  unfold msStep
  split
  · omega
  · split
    · split
      · simp
      · simp
    · simp
def spMs : SpD := fun ds L q => ∃ ps : List (Int × Int), ds = [.fls (ps.map encP)] ∧ ps.length < 1000 ∧ q (.tup ((msF ps).map encP)) L
theorem set_last {α : Type} (a x : α) : ∀ l : List α, (l ++ [a]).set l.length x = l ++ [x]
  | [] => rfl
  | y :: l => by simp [set_last a x l]
section
variable {L : MH} {q : KD}
theorem rd_ms (ps : List (Int × Int)) (hl : ps.length < 1000) (h : q (.tup ((msF ps).map encP)) L) : R.make_set (rE q) [some (.fls (ps.map encP)), none, none, none] L := by
  unfold R.make_set
  have sl := sl_eq
  simp only [x_rSeq, x_rSet, x_rLst, x_rArgs0]
  intro p hp
  simp
  refine forD_rest encP (fun r δ L' => ∃ acc o2 o3, acc.length + r.length < 1000 ∧ r.foldl msStep acc = msF ps ∧ δ = [some (.fls (ps.map encP)), some (.ref p), o2, o3] ∧ L' = updM L p (.lst (acc.map encP))) ?_ (sortP ps) _ _ ⟨[], none, none, by rw [show (sortP ps).length = ps.length from (sortB_perm leP ps).length_eq]; simpa using hl, rfl, rfl, rfl⟩ ?_
  · rintro a r δ L' ⟨acc, o2, o3, h1, h2, rfl, rfl⟩
    simp [encP]
    intro nx hnx
    simp only [List.length_cons, List.foldl_cons] at h1 h2
    have hs := msStep_len acc a
    have hx : ∀ o2 o3, nx [some (.fls (ps.map encP)), some (.ref p), o2, o3] (updM L p (.lst ((msStep acc a).map encP))) := fun o2 o3 => hnx _ _ (msStep acc a) (by omega) h2 o2 o3 rfl rfl
    clear hnx h2 hs
    unfold msStep at hx
    split at hx
    · rename_i e
      rw [if_pos (by omega)]
      exact hx _ _
    · rename_i e
      rw [if_neg (by omega)]
      rcases List.eq_nil_or_concat acc with rfl | ⟨l, b, rfl⟩
      · simp [e_own] at hx ⊢
        exact ⟨by omega, hx _ _⟩
      · simp at hx h1
        simp [e_own, encP, ixN_m1]
        split at hx
        · rename_i e2
          rw [if_pos e2]
          simp [encP] at hx
          have := set_last (D.tup [D.int b.1, D.int b.2]) (D.tup [D.int b.1, D.int (if b.2 < a.2 then a.2 else b.2)]) (l.map encP)
          simp at this
          simpa [this, encP] using hx _ _
        · rename_i e2
          rw [if_neg e2]
          simp [encP] at hx
          exact ⟨by omega, hx _ _⟩
  · rintro δ L' ⟨acc, o2, o3, h1, h2, rfl, rfl⟩
    simp at h2
    subst h2
    simpa [del_none hp] using h
def spUn : SpD := fun ds L q => ∃ a b : List (Int × Int), ds = [.tup (a.map encP), .tup (b.map encP)] ∧ a.length < 100 ∧ b.length < 100 ∧ q (.tup ((msF (a ++ b)).map encP)) L
theorem map_encP_inj {a b : List (Int × Int)} (h : a.map encP = b.map encP) : a = b := by
  have := encPs_eqs (ps := a) (qs := b)
  rw [h, encPs_eqs] at this
  simpa using this
theorem rd_un (a b : List (Int × Int)) (ha : a.length < 100) (hb : b.length < 100) (h : q (.tup ((msF (a ++ b)).map encP)) L) : R.union spMs (rE q) [some (.tup (a.map encP)), some (.tup (b.map encP))] L := by
  unfold R.union
  have sl := sl_eq
  simp
  refine ⟨by omega, a ++ b, by simp, by simp; omega, h⟩
/-! sizes -/
def spSz (n : Nat) : SpD := fun ds L q => ∃ t : Tr, ds = [t.enc] ∧ t.nd < n ∧ q (.int t.sz) L
theorem sum_sz (l : List Tr) : (l.map fun t => (t.sz : Int)).sum = ((l.map sz).sum : Nat) := by
  induction l with
  | nil => rfl
  | cons a l ih => simp [ih]
theorem rd_tsz {n : Nat} (t : Tr) (ht : t.nd < n + 1) (h : q (.int t.sz) L) : R.tree_size spParts (spSz n) (rE q) [some t.enc, none] L := by
  unfold R.tree_size
  simp [spParts]
  refine compD_map enc (fun t => D.int t.sz) t.kids (fun u hu => ?_) ?_
  · have := kids_nd hu
    simp [spSz]
    intro k hk
    exact ⟨by omega, hk⟩
  · have e : t.kids.map (fun t => D.int t.sz) = (t.kids.map fun t => (t.sz : Int)).map D.int := by simp
    rw [e, b_sum_f, sum_sz]
    have := sz_kids t
    rw [this] at h
    simpa using h
/-! joining -/
end
namespace Tr
def joinSeq : Tr → Tr → Tr
  | seq x y, b => joinSeq x (joinSeq y b)
  | a, b => if a = emp then b else if b = emp then a else if (a = set [] ∧ b.bare = true) ∨ (b = set [] ∧ a.bare = true) then set [] else seq a b
theorem joinSeq_else {a : Tr} (h : a.tag ≠ "sequence") (b : Tr) : joinSeq a b = if a = emp then b else if b = emp then a else if (a = set [] ∧ b.bare = true) ∨ (b = set [] ∧ a.bare = true) then set [] else seq a b := by
  cases a <;> first | rfl | (simp at h)
theorem joinSeq_sz : ∀ a b : Tr, (joinSeq a b).nd ≤ a.nd + b.nd + 1 := by
  intro a
  induction a with
  | seq x y ihx ihy =>
    intro b
    have h1 := ihy b
    have h2 := ihx (joinSeq y b)
    simp only [joinSeq, nd] at *
    omega
  | _ =>
    intro b
    rw [joinSeq_else (by simp)]
    split <;> (try split) <;> (try split) <;> simp only [nd] <;> omega
theorem tag_seq_iff {a : Tr} (h : a.tag = "sequence") : ∃ x y, a = seq x y := by
  cases a <;> first | exact ⟨_, _, rfl⟩ | simp at h
theorem tag_cho_iff {a : Tr} (h : a.tag = "choice") : ∃ x y, a = cho x y := by
  cases a <;> first | exact ⟨_, _, rfl⟩ | simp at h
theorem tag_set_iff {a : Tr} (h : a.tag = "set") : ∃ x, a = set x := by
  cases a <;> first | exact ⟨_, rfl⟩ | simp at h
theorem tag_rep_iff {a : Tr} (h : a.tag = "repeat") : ∃ x l m g, a = rep x l m g := by
  cases a <;> first | exact ⟨_, _, _, _, rfl⟩ | simp at h
end Tr
section
variable {L : MH} {q : KD}
/-- two trees in, one out -/
def sp2 (f : Tr → Tr → Tr) (n : Nat) : SpD := fun ds L q => ∃ a b : Tr, ds = [a.enc, b.enc] ∧ a.nd < n ∧ a.nd + b.nd ≤ 45 ∧ q (f a b).enc L
theorem rd_jseq {n : Nat} (a b : Tr) (ha : a.nd < n + 1) (hs : a.nd + b.nd ≤ 45) (h : q (joinSeq a b).enc L) : R.join_sequence (spBare 46) (sp2 joinSeq n) (rE q) [some a.enc, some b.enc] L := by
  unfold R.join_sequence
  have da : a.enc.dp ≤ 140 := by have := a.enc_dp; omega
  have db : b.enc.dp ≤ 140 := by have := b.enc_dp; omega
  have sa : a.nd < 46 := by omega
  have sb : b.nd < 46 := by omega
  simp [k_EMPTY, k_NEVER, da, db]
  by_cases e : a.tag = "sequence"
  · obtain ⟨x, y, rfl⟩ := tag_seq_iff e
    have := joinSeq_sz y b
    simp only [nd] at ha hs
    simp [sp2]
    exact ⟨y, b, ⟨rfl, rfl⟩, by omega, by omega, x, joinSeq y b, ⟨rfl, rfl⟩, by omega, by omega, h⟩
  · rw [joinSeq_else e] at h
    simp [e, spBare, sa, sb]
    clear ha hs
    have eb : (set []).bare = true := rfl
    by_cases e1 : a = emp
    · simp_all
    by_cases e2 : b = emp
    · simp_all
    by_cases e3 : a = set [] <;> by_cases e4 : b = set [] <;> cases e5 : a.bare <;> cases e6 : b.bare <;> simp_all
theorem rd_lseq {n : Nat} (a b : Tr) (ha : a.nd < n + 1) (hs : a.nd + b.nd ≤ 45) (h : q (joinSeq a b).enc L) : R._law_sequence (spBare 46) (sp2 joinSeq n) (rE q) [some a.enc, some b.enc, none] L := by
  unfold R._law_sequence
  have da : a.enc.dp ≤ 140 := by have := a.enc_dp; omega
  have db : b.enc.dp ≤ 140 := by have := b.enc_dp; omega
  have sa : a.nd < 46 := by omega
  have sb : b.nd < 46 := by omega
  simp [k_EMPTY, k_NEVER, da, db]
  by_cases e : a.tag = "sequence"
  · obtain ⟨x, y, rfl⟩ := tag_seq_iff e
    have := joinSeq_sz y b
    simp only [nd] at ha hs
    simp [sp2]
    exact ⟨y, b, ⟨rfl, rfl⟩, by omega, by omega, x, joinSeq y b, ⟨rfl, rfl⟩, by omega, by omega, h⟩
  · rw [joinSeq_else e] at h
    simp [e, spBare, sa, sb]
    clear ha hs
    have eb : (set []).bare = true := rfl
    by_cases e1 : a = emp
    · simp_all
    by_cases e2 : b = emp
    · simp_all
    by_cases e3 : a = set [] <;> by_cases e4 : b = set [] <;> cases e5 : a.bare <;> cases e6 : b.bare <;> simp_all
end
end DL

namespace DL
open PySem L2 Tr
namespace Tr
def alts : Tr → List Tr
  | cho a b => a :: b.alts
  | t => [t]
theorem alts_else {t : Tr} (h : t.tag ≠ "choice") : t.alts = [t] := by
  cases t <;> first | rfl | simp at h
theorem alts_ne (t : Tr) : t.alts ≠ [] := by
  by_cases h : t.tag = "choice"
  · obtain ⟨x, y, rfl⟩ := tag_cho_iff h
    simp [alts]
  · rw [alts_else h]; simp
theorem alts_len : ∀ t : Tr, t.alts.length ≤ t.nd + 1
  | cho a b => by
    have := alts_len b
    simp only [alts, nd, List.length_cons]
    omega
  | emp => by simp [alts, nd]
  | set _ => by simp [alts, nd]
  | anc _ => by simp [alts, nd]
  | seq _ _ => by simp [alts, nd]
  | rep _ _ _ _ => by simp [alts, nd]
  | grp _ _ => by simp [alts, nd]
  | look _ _ _ => by simp [alts, nd]
def choF : List Tr → Tr
  | [] => emp
  | [t] => t
  | a :: b :: r => cho a (choF (b :: r))
theorem choF_cons (a : Tr) {l : List Tr} (h : l ≠ []) : choF (a :: l) = cho a (choF l) := by
  cases l with
  | nil => exact absurd rfl h
  | cons b r => rfl
theorem choF_alts : ∀ t : Tr, choF t.alts = t
  | cho a b => by
    rw [alts, choF_cons a (alts_ne b), choF_alts b]
  | emp => rfl
  | set _ => rfl
  | anc _ => rfl
  | seq _ _ => rfl
  | rep _ _ _ _ => rfl
  | grp _ _ => rfl
  | look _ _ _ => rfl
/-- the whole of a list of alternatives -/
def szs (l : List Tr) : Nat := (l.map nd).sum + l.length
theorem choF_sz : ∀ {l : List Tr}, l ≠ [] → (choF l).nd + 1 = szs l
  | [], h => absurd rfl h
  | [t], _ => by simp [choF, szs]
  | a :: b :: r, _ => by
    have := choF_sz (l := b :: r) (by simp)
    simp only [choF, nd, szs, List.map_cons, List.sum_cons, List.length_cons] at this ⊢
    omega
theorem alts_szs (t : Tr) : szs t.alts = t.nd + 1 := by
  have := choF_sz (alts_ne t)
  rw [choF_alts] at this
  exact this.symm
theorem choF_fold : ∀ (l : List Tr) (x : Tr), l.reverse.foldl (fun acc t => cho t acc) x = choF (l ++ [x])
  | [], x => rfl
  | a :: l, x => by
    rw [List.reverse_cons, List.foldl_append, choF_fold l x, List.cons_append, choF_cons a (by simp)]
    rfl
end Tr
section
variable {L : MH} {q : KD}
def spAlts : SpD := fun ds L q => ∃ t : Tr, ds = [t.enc] ∧ t.nd < 1000 ∧ q (.fls (t.alts.map enc)) L
theorem rd_alts (t : Tr) (ht : t.nd < 1000) (h : q (.fls (t.alts.map enc)) L) : R.alternatives (rE q) [some t.enc, none] L := by
  unfold R.alternatives
  have sl := sl_eq
  simp only [x_rSeq, x_rSet, x_rLst, x_rArgs0]
  intro p hp
  simp only [x_tgnm, dset_1, x_rWhile]
  have go : ∀ (u : Tr) (acc : List Tr) (E : DEnds), acc.length + u.nd < 1000 → acc ++ u.alts = t.alts → (∀ (v : Tr) (bcc : List Tr), bcc.length < 1000 → bcc ++ [v] = t.alts → E.nx [some v.enc, some (.ref p)] (updM L p (.lst (bcc.map enc)))) → ∃ n, whileD (rTest (rO oEq (rO oIx (rV 0) (rC (.int 0))) (rC (.str "choice")))) (rSeq (rDrop (rM "list" mAppend (rV 1) [(rO oIx (rV 0) (rC (.int 1)))])) (rSet (.nm 0) (rO oIx (rV 0) (rC (.int 2))))) E n [some u.enc, some (.ref p)] (updM L p (.lst (acc.map enc))) := by
    intro u
    induction u with
    | cho a b iha ihb =>
      intro acc E h1 h2 h3
      simp only [nd] at h1
      obtain ⟨n, hn⟩ := ihb (acc ++ [a]) E (by simp; omega) (by simpa [alts] using h2) h3
      refine ⟨n + 1, ?_⟩
      rw [whileD_succ]
      simp [e_own]
      exact ⟨by omega, by simpa using hn⟩
    | _ =>
      intro acc E h1 h2 h3
      refine ⟨1, ?_⟩
      rw [whileD_succ]
      simp
      exact h3 _ acc (by omega) h2
  refine go t [] _ (by simpa using ht) (by simp) fun v bcc h1 h2 => ?_
  simp [e_own, del_none hp]
  refine ⟨by omega, ?_⟩
  rw [← h2] at h
  simpa using h
def spCho : SpD := fun ds L q => ∃ l : List Tr, ds = [.fls (l.map enc)] ∧ l ≠ [] ∧ q (choF l).enc L
theorem cutD_init {ds : List D} : cutD ds none (some (-1)) = ds.dropLast := by
  have e1 : HT.sIx ds.length 0 none = 0 := rfl
  have e2 : HT.sIx ds.length ds.length (some (-1)) = ds.length - 1 := by
    show (if (-1 : Int) < 0 then ((-1 : Int) + (ds.length : Int)).toNat else min (-1 : Int).toNat ds.length) = ds.length - 1
    rw [if_pos (by omega)]
    omega
  unfold cutD
  rw [e1, e2, List.dropLast_eq_take]
  rfl
theorem cutD_tail {ds : List D} {n : Nat} (h : n ≤ ds.length) : cutD ds (some (n : Int)) none = ds.drop n := by
  have e1 : HT.sIx ds.length 0 (some (n : Int)) = n := by rw [HT.sIx_nat]; omega
  have e2 : HT.sIx ds.length ds.length none = ds.length := rfl
  unfold cutD
  rw [e1, e2, List.take_of_length_le (by simp)]
theorem rd_cho (l : List Tr) (hl : l ≠ []) (h : q (choF l).enc L) : R.choice_of (rE q) [some (.fls (l.map enc)), none, none] L := by
  unfold R.choice_of
  obtain ⟨m, x, rfl⟩ : ∃ m x, l = m ++ [x] := by
    rcases List.eq_nil_or_concat l with h | ⟨m, x, h⟩
    · exact absurd h hl
    · exact ⟨m, x, by simpa using h⟩
  simp [cutD_init]
  rw [← List.map_reverse]
  refine forD_rest enc (fun r δ L' => L' = L ∧ ∃ o acc, δ = [some (.fls ((m ++ [x]).map enc)), some (Tr.enc acc), o] ∧ r.foldl (fun acc t => cho t acc) acc = choF (m ++ [x])) ?_ m.reverse _ _ ⟨rfl, none, x, by simp, choF_fold m x⟩ ?_
  · rintro a r δ L' ⟨rfl, o, acc, rfl, e⟩
    simp only [x_tgnm, dset_2, Option.some.injEq, exists_eq_left']
    intro nx hnx
    simp
    exact hnx _ _ ⟨rfl, some a.enc, cho a acc, by simp, by simpa using e⟩
  · rintro δ L' ⟨rfl, o, acc, rfl, e⟩
    simp at e
    subst e
    simpa using h
end
/-! the sets that come up -/
def S12 : List (List (Int × Int)) := [[], [(97, 98)], [(97, 99)], [(97, 101)], [(97, 104)], [(98, 99)], [(98, 101)], [(99, 101)], [(97, 98), (99, 101)], [(97, 98), (99, 104)], [(97, 98), (100, 104)], [(97, 99), (100, 104)]]
namespace Tr
def ok : Tr → Bool
  | set rs => decide (rs ∈ S12)
  | seq a b => a.ok && b.ok
  | cho a b => a.ok && b.ok
  | rep a _ _ _ => a.ok
  | grp _ a => a.ok
  | look _ _ a => a.ok
  | _ => true
def mrg : Tr → Tr → Option Tr
  | set r, set s => some (set (msF (r ++ s)))
  | seq x p, seq y q => if x = y ∧ (x.tag = "set" ∨ x.tag = "anchor") then some (seq x (cho p q)) else none
  | _, _ => none
def joinCho : Tr → Tr → Tr
  | cho x y, b => joinCho x (joinCho y b)
  | a, b => if a = set [] then b else if b = set [] then a else match mrg a (b.alts.headD emp) with
    | some m => choF (m :: b.alts.tail)
    | none => choF (a :: if a.bare = true then b.alts.filter (fun t => decide (t ≠ a)) else b.alts)
theorem joinCho_else {a : Tr} (h : a.tag ≠ "choice") (b : Tr) : joinCho a b = if a = set [] then b else if b = set [] then a else match mrg a (b.alts.headD emp) with
    | some m => choF (m :: b.alts.tail)
    | none => choF (a :: if a.bare = true then b.alts.filter (fun t => decide (t ≠ a)) else b.alts) := by
  cases a <;> first | rfl | (simp at h)
end Tr
theorem S12_len : ∀ r ∈ S12, r.length < 100 := by decide
theorem S12_un : ∀ r ∈ S12, ∀ s ∈ S12, msF (r ++ s) ∈ S12 := by decide +kernel
namespace Tr
theorem mrg_ok {a b m : Tr} (ha : a.ok = true) (hb : b.ok = true) (h : mrg a b = some m) : m.ok = true := by
  unfold mrg at h
  split at h
  · cases h
    simp only [ok, decide_eq_true_eq] at *
    exact S12_un _ ha _ hb
  · split at h
    · cases h
      simp only [ok, Bool.and_eq_true] at *
      exact ⟨ha.1, ha.2, hb.2⟩
    · cases h
  · cases h
theorem mrg_sz {a b m : Tr} (h : mrg a b = some m) : m.nd ≤ a.nd + b.nd := by
  unfold mrg at h
  split at h
  · cases h
    simp [nd]
  · split at h
    · cases h
      rename_i e
      have := sz_pos
      rename_i x p y q
      have h1 := sz_pos y
      simp only [nd]
      omega
    · cases h
  · cases h
theorem filter_szs {l : List Tr} (p : Tr → Bool) : szs (l.filter p) ≤ szs l := by
  induction l with
  | nil => simp
  | cons a l ih =>
    by_cases h : p a = true
    · rw [List.filter_cons_of_pos h]
      simp only [szs, List.map_cons, List.sum_cons, List.length_cons] at *
      omega
    · rw [List.filter_cons_of_neg h]
      simp only [szs, List.map_cons, List.sum_cons, List.length_cons] at *
      omega
theorem cho_le {a : Tr} {l : List Tr} {n : Nat} (h : szs l ≤ n + 1) : (choF (a :: l)).nd ≤ a.nd + n + 1 := by
  have h3 := choF_sz (l := a :: l) (by simp)
  simp only [szs, List.map_cons, List.sum_cons, List.length_cons] at *
  omega
theorem joinCho_sz : ∀ a b : Tr, (joinCho a b).nd ≤ a.nd + b.nd + 1 := by
  intro a
  induction a with
  | cho x y ihx ihy =>
    intro b
    have h1 := ihy b
    have h2 := ihx (joinCho y b)
    simp only [joinCho, nd] at *
    omega
  | _ =>
    intro b
    rw [joinCho_else (by simp)]
    split
    · omega
    split
    · omega
    have ha := alts_szs b
    split
    · rename_i m e
      have e2 := mrg_sz e
      have h3 := choF_sz (l := m :: b.alts.tail) (by simp)
      cases hb : b.alts with
      | nil => exact absurd hb (alts_ne b)
      | cons c r =>
        rw [hb] at e2 h3 ha
        simp only [szs, List.map_cons, List.sum_cons, List.length_cons, List.tail_cons, List.headD_cons] at *
        omega
    · rename_i e
      split
      · exact cho_le (Nat.le_trans (filter_szs _) (Nat.le_of_eq ha))
      · exact cho_le (Nat.le_of_eq ha)
theorem alts_ok : ∀ {t : Tr}, t.ok = true → ∀ u ∈ t.alts, u.ok = true
  | cho a b, h, u, hu => by
    simp only [ok, Bool.and_eq_true] at h
    rcases List.mem_cons.mp hu with e | e
    · subst e; exact h.1
    · exact alts_ok h.2 u e
  | emp, h, u, hu => by simp [alts] at hu; subst hu; exact h
  | set _, h, u, hu => by simp [alts] at hu; subst hu; exact h
  | anc _, h, u, hu => by simp [alts] at hu; subst hu; exact h
  | seq _ _, h, u, hu => by simp [alts] at hu; subst hu; exact h
  | rep _ _ _ _, h, u, hu => by simp [alts] at hu; subst hu; exact h
  | grp _ _, h, u, hu => by simp [alts] at hu; subst hu; exact h
  | look _ _ _, h, u, hu => by simp [alts] at hu; subst hu; exact h
theorem choF_ok : ∀ {l : List Tr}, (∀ u ∈ l, u.ok = true) → (choF l).ok = true
  | [], _ => rfl
  | [t], h => h t (by simp)
  | a :: b :: r, h => by
    rw [choF, ok, h a (by simp), choF_ok fun u hu => h u (List.mem_cons_of_mem _ hu)]
    rfl
theorem joinCho_ok : ∀ {a b : Tr}, a.ok = true → b.ok = true → (joinCho a b).ok = true := by
  intro a
  induction a with
  | cho x y ihx ihy =>
    intro b ha hb
    simp only [ok, Bool.and_eq_true] at ha
    exact ihx ha.1 (ihy ha.2 hb)
  | _ =>
    intro b ha hb
    rw [joinCho_else (by simp)]
    split
    · exact hb
    split
    · exact ha
    have hal := alts_ok hb
    split
    · rename_i m e
      refine choF_ok fun u hu => ?_
      rcases List.mem_cons.mp hu with e1 | e1
      · subst e1
        refine mrg_ok ha ?_ e
        cases hb : b.alts with
        | nil => exact absurd hb (alts_ne b)
        | cons c r => exact hal c (by rw [hb]; simp)
      · exact hal u (List.mem_of_mem_tail e1)
    · refine choF_ok fun u hu => ?_
      rcases List.mem_cons.mp hu with e1 | e1
      · subst e1; exact ha
      · split at e1
        · exact hal u (List.mem_filter.mp e1).1
        · exact hal u e1
theorem joinSeq_ok : ∀ {a b : Tr}, a.ok = true → b.ok = true → (joinSeq a b).ok = true := by
  intro a
  induction a with
  | seq x y ihx ihy =>
    intro b ha hb
    simp only [ok, Bool.and_eq_true] at ha
    exact ihx ha.1 (ihy ha.2 hb)
  | _ =>
    intro b ha hb
    rw [joinSeq_else (by simp)]
    split
    · exact hb
    split
    · exact ha
    split
    · rfl
    · show (_ && _) = true
      rw [Bool.and_eq_true]
      exact ⟨ha, hb⟩
end Tr
end DL

namespace DL
open PySem L2 Tr
/-! merging and joining choices, read -/
def encT : Option Tr → D
  | none => .non
  | some t => t.enc
@[simp] theorem encT_isn {o : Option Tr} : (encT o).isNon = o.isNone := by
  cases o with
  | none => rfl
  | some t => cases t <;> rfl
section
variable {L : MH} {q : KD}
def spMrg : SpD := fun ds L q => ∃ a b : Tr, ds = [a.enc, b.enc] ∧ a.nd ≤ 45 ∧ b.nd ≤ 45 ∧ a.ok = true ∧ b.ok = true ∧ q (encT (mrg a b)) L
theorem rd_mrg (a b : Tr) (sa : a.nd ≤ 45) (sb : b.nd ≤ 45) (oa : a.ok = true) (ob : b.ok = true) (h : q (encT (mrg a b)) L) : R.merged spUn (rE q) [some a.enc, some b.enc] L := by
  unfold R.merged
  have da : a.enc.dp ≤ 140 := by have := a.enc_dp; omega
  by_cases e1 : a.tag = "set"
  · obtain ⟨r, rfl⟩ := tag_set_iff e1
    by_cases e2 : b.tag = "set"
    · obtain ⟨s, rfl⟩ := tag_set_iff e2
      simp only [ok, decide_eq_true_eq] at oa ob
      have := S12_len _ oa
      have := S12_len _ ob
      simp [spUn]
      exact ⟨r, s, ⟨rfl, rfl⟩, by omega, by omega, h⟩
    · have e : mrg (set r) b = none := by
        cases b <;> first | rfl | simp at e2
      rw [e] at h
      simp [e2]
      exact h
  · by_cases e2 : a.tag = "sequence"
    · obtain ⟨x, p, rfl⟩ := tag_seq_iff e2
      by_cases e3 : b.tag = "sequence"
      · obtain ⟨y, s, rfl⟩ := tag_seq_iff e3
        simp only [nd] at sa
        have dx : x.enc.dp ≤ 140 := by have := x.enc_dp; omega
        simp [dx]
        by_cases e4 : x = y
        · subst e4
          simp
          by_cases e5 : x.tag = "set"
          · simpa [mrg, encT, e5] using h
          · by_cases e6 : x.tag = "anchor"
            · simpa [mrg, encT, e6] using h
            · have e7 : ¬ (("set" : Str) = x.tag) := fun z => e5 z.symm
              have e8 : ¬ (("anchor" : Str) = x.tag) := fun z => e6 z.symm
              simpa [mrg, encT, e5, e6, e7, e8] using h
        · simpa [e4, mrg, encT] using h
      · have e : mrg (seq x p) b = none := by
          cases b <;> first | rfl | simp at e3
        rw [e] at h
        simp [e3]
        exact h
    · have e : mrg a b = none := by
        cases a <;> first | rfl | (simp at e1; done) | (simp at e2; done)
      rw [e] at h
      simp [e1, e2]
      exact h
def sp2o (f : Tr → Tr → Tr) (n : Nat) : SpD := fun ds L q => ∃ a b : Tr, ds = [a.enc, b.enc] ∧ a.nd < n ∧ a.nd + b.nd ≤ 45 ∧ a.ok = true ∧ b.ok = true ∧ q (f a b).enc L
theorem rd_jcho {n : Nat} (a b : Tr) (ha : a.nd < n + 1) (hs : a.nd + b.nd ≤ 45) (oa : a.ok = true) (ob : b.ok = true) (h : q (joinCho a b).enc L) : R.join_choice spCho (spBare 46) spMrg spAlts (sp2o joinCho n) (rE q) [some a.enc, some b.enc, none, none, none] L := by
  unfold R.join_choice
  have sl := sl_eq
  have da : a.enc.dp ≤ 140 := by have := a.enc_dp; omega
  have db : b.enc.dp ≤ 140 := by have := b.enc_dp; omega
  have pb := b.sz_pos
  have pa := a.sz_pos
  simp [k_NEVER, da, db]
  by_cases e : a.tag = "choice"
  · obtain ⟨x, y, rfl⟩ := tag_cho_iff e
    have h1 := joinCho_sz y b
    simp only [nd] at ha hs
    simp only [ok, Bool.and_eq_true] at oa
    have h2 := joinCho_ok oa.2 ob
    simp [sp2o]
    exact ⟨y, b, ⟨rfl, rfl⟩, by omega, by omega, oa.2, ob, x, joinCho y b, ⟨rfl, rfl⟩, by omega, by omega, oa.1, h2, h⟩
  rw [joinCho_else e] at h
  simp [e]
  by_cases e1 : a = set []
  · simpa [e1] using h
  by_cases e2 : b = set []
  · simpa [e1, e2] using h
  simp only [e1, e2, if_false] at h ⊢
  simp [spAlts]
  refine ⟨by omega, ?_⟩
  obtain ⟨c, r, hc⟩ : ∃ c r, b.alts = c :: r := by
    cases hb : b.alts with
    | nil => exact absurd hb (alts_ne b)
    | cons c r => exact ⟨c, r, rfl⟩
  have hal := alts_ok ob
  have hss := alts_szs b
  have h0 : b.alts[0]? = some c := by rw [hc]; rfl
  have hlen := alts_len b
  have hsc : c.nd ≤ b.nd := by
    rw [hc] at hss
    simp only [szs, List.map_cons, List.sum_cons, List.length_cons] at hss
    omega
  have hcd : b.alts.headD emp = c := by rw [hc]; rfl
  rw [hcd] at h
  simp [h0, spMrg]
  refine ⟨a, c, ⟨rfl, rfl⟩, by omega, by omega, oa, hal c (by rw [hc]; simp), ?_⟩
  cases hm : mrg a c with
  | some m =>
    rw [hm] at h
    have ht : cutD (b.alts.map enc) (some 1) none = b.alts.tail.map enc := by
      rw [show (1 : Int) = ((1 : Nat) : Int) from rfl, cutD_tail (by rw [hc]; simp)]
      simp
    simp [encT, ht, spCho]
    exact ⟨by omega, m :: b.alts.tail, by simp, by simp, h⟩
  | none =>
    rw [hm] at h
    simp [spBare]
    refine ⟨by omega, ?_⟩
    cases hb : a.bare with
    | true =>
      rw [hb] at h
      simp
      refine compD_pure enc (fun t => decide (t ≠ a)) enc b.alts [] (fun u hu => ⟨_, rfl, fun kb hk => ?_, fun _ k hk => ?_⟩) ?_
      · simp [da]
        simpa using hk
      · simpa using hk
      · have hf : (b.alts.filter fun t => decide (t ≠ a)).length ≤ b.alts.length := List.length_filter_le _ _
        simp [spCho]
        refine ⟨by simp at hf; omega, a :: b.alts.filter fun t => decide (t ≠ a), by simp, by simp, by simpa using h⟩
    | false =>
      rw [hb] at h
      simp [spCho]
      exact ⟨by omega, a :: b.alts, by simp, by simp, by simpa using h⟩
/-! the law's own -/
def luStep (r s acc : List (Int × Int)) (c : Nat) : List (Int × Int) :=
  if (r ++ s).any (fun p => decide (p.1 ≤ (c : Int)) && decide ((c : Int) < p.2)) = true then match acc.getLast? with
    | some a => if a.2 = c then acc.dropLast ++ [(a.1, (c : Int) + 1)] else acc ++ [((c : Int), (c : Int) + 1)]
    | none => acc ++ [((c : Int), (c : Int) + 1)]
  else acc
def luF (r s : List (Int × Int)) : List (Int × Int) := (List.range 128).foldl (luStep r s) []
theorem luStep_len (r s acc : List (Int × Int)) (c : Nat) : (luStep r s acc c).length ≤ acc.length + 1 := by
  unfold luStep
  split
  · split
    · split
      · simp
      · simp
    · simp
  · omega
theorem luF_eq : ∀ r ∈ S12, ∀ s ∈ S12, luF r s = msF (r ++ s) := by decide +kernel
def spLun : SpD := fun ds L q => ∃ r s : List (Int × Int), ds = [(set r).enc, (set s).enc] ∧ r ∈ S12 ∧ s ∈ S12 ∧ q (set (msF (r ++ s))).enc L
theorem rd_lun (r s : List (Int × Int)) (hr : r ∈ S12) (hs : s ∈ S12) (h : q (set (msF (r ++ s))).enc L) : R._law_union (rE q) [some (set r).enc, some (set s).enc, none, none, none, none] L := by
  unfold R._law_union
  have sl := sl_eq
  have l1 := S12_len _ hr
  have l2 := S12_len _ hs
  rw [← luF_eq r hr s hs] at h
  simp only [x_rSeq, x_rSet, x_rLst, x_rArgs0]
  intro p hp
  simp [rangeD_eq]
  refine forD_rest (fun i : Nat => D.int i) (fun u δ L' => ∃ acc o3 o4 o5, acc.length + u.length ≤ 128 ∧ u.foldl (luStep r s) acc = luF r s ∧ δ = [some (set r).enc, some (set s).enc, some (.ref p), o3, o4, o5] ∧ L' = updM L p (.lst (acc.map encP))) ?_ (List.range 128) _ _ ⟨[], none, none, none, by simp, rfl, rfl, rfl⟩ ?_
  · rintro c u δ L' ⟨acc, o3, o4, o5, h1, h2, rfl, rfl⟩
    refine ⟨_, rfl, fun nx hnx => ?_⟩
    simp
    refine ⟨by omega, ?_⟩
    simp only [List.length_cons, List.foldl_cons] at h1 h2
    have hx : ∀ o3 o4 o5, nx [some (set r).enc, some (set s).enc, some (.ref p), o3, o4, o5] (updM L p (.lst ((luStep r s acc c).map encP))) := fun o3 o4 o5 => hnx _ _ ⟨luStep r s acc c, o3, o4, o5, by
      have := luStep_len r s acc c
      omega, h2, rfl, rfl⟩
    clear hnx h2 h
    rw [← List.map_append]
    refine compD_map encP (fun p : Int × Int => D.bl (decide (p.1 ≤ (c : Int)) && decide ((c : Int) < p.2))) (r ++ s) (fun a ha => ⟨_, rfl, fun k hk => ?_⟩) ?_
    · simp [encP]
      by_cases e1 : a.1 ≤ c
      · simpa [e1] using hk
      · simpa [e1] using hk
    · have e : (r ++ s).map (fun p : Int × Int => D.bl (decide (p.1 ≤ (c : Int)) && decide ((c : Int) < p.2))) = ((r ++ s).map fun p : Int × Int => decide (p.1 ≤ (c : Int)) && decide ((c : Int) < p.2)).map D.bl := by rw [List.map_map]; rfl
      rw [e, b_any_f]
      have e2 : (((r ++ s).map fun p : Int × Int => decide (p.1 ≤ (c : Int)) && decide ((c : Int) < p.2)).any id) = (r ++ s).any (fun p => decide (p.1 ≤ (c : Int)) && decide ((c : Int) < p.2)) := by rw [List.any_map]; rfl
      rw [e2]
      unfold luStep at hx
      cases hb : (r ++ s).any (fun p => decide (p.1 ≤ (c : Int)) && decide ((c : Int) < p.2)) with
      | false =>
        rw [hb] at hx
        simpa using hx _ _ _
      | true =>
        rw [hb] at hx
        simp only [if_true] at hx
        rcases List.eq_nil_or_concat acc with rfl | ⟨l, b, rfl⟩
        · simp [e_own, encP] at hx ⊢
          exact ⟨by omega, hx _ _ _⟩
        · simp at hx h1
          simp [e_own, encP, ixN_m1]
          split at hx
          · rename_i e3
            simp [encP] at hx
            have := set_last (D.tup [D.int b.1, D.int b.2]) (D.tup [D.int b.1, D.int ((c : Int) + 1)]) (l.map encP)
            simp at this
            simpa [this, e3, encP] using hx _ _ _
          · rename_i e3
            simp [encP] at hx
            simp [e3]
            exact ⟨by omega, hx _ _ _⟩
  · rintro δ L' ⟨acc, o3, o4, o5, h1, h2, rfl, rfl⟩
    simp at h2
    subst h2
    simpa [del_none hp] using h
end
end DL

namespace DL
open PySem L2 Tr
section
variable {L : MH} {q : KD}
theorem rd_lparts (t : Tr) (h : q (.fls (t.kids.map Tr.enc)) L) : R._law_parts (rE q) [some t.enc] L := by
  unfold R._law_parts
  cases t <;> simpa [Tr.kids] using h
theorem rd_lsz {n : Nat} (t : Tr) (ht : t.nd < n + 1) (h : q (.int t.sz) L) : R._law_size spParts (spSz n) (rE q) [some t.enc, none] L := by
  unfold R._law_size
  simp [spParts]
  refine compD_map enc (fun t => D.int t.sz) t.kids (fun u hu => ?_) ?_
  · have := kids_nd hu
    simp [spSz]
    intro k hk
    exact ⟨by omega, hk⟩
  · have e : t.kids.map (fun t => D.int t.sz) = (t.kids.map fun t => (t.sz : Int)).map D.int := by simp
    rw [e, b_sum_f, sum_sz]
    have := sz_kids t
    rw [this] at h
    simpa using h
theorem bare_kids (t : Tr) : t.bare = (decide (t.tag ≠ "group") && t.kids.all bare) := by
  cases t <;> simp [bare, kids]
theorem rd_lbare {n : Nat} (t : Tr) (ht : t.nd < n + 1) (h : q (.bl t.bare) L) : R._law_bare spParts (spBare n) (rE q) [some t.enc, none] L := by
  unfold R._law_bare
  rw [bare_kids] at h
  by_cases e : t.tag = "group"
  · simpa [e] using h
  · simp [e, spParts] at h ⊢
    refine compD_map enc (fun t => D.bl t.bare) t.kids (fun u hu => ?_) ?_
    · have := kids_nd hu
      simp [spBare]
      intro k hk
      exact ⟨by omega, hk⟩
    · have e : t.kids.map (fun t => D.bl t.bare) = (t.kids.map fun t => t.bare).map D.bl := by simp
      rw [e, b_all_f]
      simpa [List.all_map] using h
theorem choF_snoc (l : List Tr) (x : Tr) : choF (l ++ [x]) = l.reverse.foldl (fun acc t => cho t acc) x := (choF_fold l x).symm
theorem alts_while (t : Tr) (ht : t.nd < 200) (δ0 δ2 δ3 δ5 δ6 : Option D) (p : Addr) (E : DEnds) (h : ∀ v bcc, bcc.length < 200 → bcc ++ [v] = t.alts → E.nx [δ0, some (Tr.enc v), δ2, δ3, some (.ref p), δ5, δ6] (updM L p (.lst (bcc.map enc)))) :
    rWhile (rAndT (rTest (rO oEq (rO oIx (rV 1) (rC (.int 0))) (rC (.str "choice")))) (rTest (rO oLt (rB bLen [(rV 4)]) (rC (.int 200))))) (rSeq (rDrop (rM "list" mAppend (rV 4) [(rO oIx (rV 1) (rC (.int 1)))])) (rSet (.nm 1) (rO oIx (rV 1) (rC (.int 2))))) E [δ0, some t.enc, δ2, δ3, some (.ref p), δ5, δ6] (updM L p (.lst [])) := by
  have sl := sl_eq
  have go : ∀ (u : Tr) (acc : List Tr), acc.length + u.nd < 200 → acc ++ u.alts = t.alts → ∃ n, whileD (rAndT (rTest (rO oEq (rO oIx (rV 1) (rC (.int 0))) (rC (.str "choice")))) (rTest (rO oLt (rB bLen [(rV 4)]) (rC (.int 200))))) (rSeq (rDrop (rM "list" mAppend (rV 4) [(rO oIx (rV 1) (rC (.int 1)))])) (rSet (.nm 1) (rO oIx (rV 1) (rC (.int 2))))) E n [δ0, some u.enc, δ2, δ3, some (.ref p), δ5, δ6] (updM L p (.lst (acc.map enc))) := by
    intro u
    induction u with
    | cho a b iha ihb =>
      intro acc h1 h2
      simp only [nd] at h1
      obtain ⟨n, hn⟩ := ihb (acc ++ [a]) (by simp; omega) (by simpa [alts] using h2)
      refine ⟨n + 1, ?_⟩
      have hl : (acc.length : Int) < 200 := by omega
      rw [whileD_succ]
      simp [e_own, hl]
      exact ⟨by omega, by simpa using hn⟩
    | _ =>
      intro acc h1 h2
      refine ⟨1, ?_⟩
      rw [whileD_succ]
      simp
      exact h _ acc (by omega) h2
  exact go t [] (by simpa using ht) (by simp)
theorem rd_lcho {n : Nat} (a b : Tr) (ha : a.nd < n + 1) (hs : a.nd + b.nd ≤ 45) (oa : a.ok = true) (ob : b.ok = true) (h : q (joinCho a b).enc L) : R._law_choice (spBare 46) spLun (sp2o joinCho n) (rE q) [some a.enc, some b.enc, none, none, none, none, none] L := by
  unfold R._law_choice
  have sl := sl_eq
  have da : a.enc.dp ≤ 140 := by have := a.enc_dp; omega
  have db : b.enc.dp ≤ 140 := by have := b.enc_dp; omega
  have pb := b.sz_pos
  have pa := a.sz_pos
  by_cases e : a.tag = "choice"
  · obtain ⟨x, y, rfl⟩ := tag_cho_iff e
    have h1 := joinCho_sz y b
    simp only [nd] at ha hs
    simp only [ok, Bool.and_eq_true] at oa
    have h2 := joinCho_ok oa.2 ob
    simp [sp2o]
    exact ⟨y, b, ⟨rfl, rfl⟩, by omega, by omega, oa.2, ob, x, joinCho y b, ⟨rfl, rfl⟩, by omega, by omega, oa.1, h2, h⟩
  rw [joinCho_else e] at h
  refine seq_to _ _ (fun nx hnx => by simp [e]; exact hnx) ?_
  by_cases e1 : a = Tr.set []
  · subst e1
    simpa using h
  refine seq_to _ _ (fun nx hnx => by simp [e1, da]; exact hnx) ?_
  by_cases e2 : b = Tr.set []
  · subst e2
    simpa [e1, e, da] using h
  refine seq_to _ _ (fun nx hnx => by simp [e2, db]; exact hnx) ?_
  simp only [e1, e2, if_false] at h
  obtain ⟨c, r, hc⟩ : ∃ c r, b.alts = c :: r := by
    cases hb : b.alts with
    | nil => exact absurd hb (alts_ne b)
    | cons c r => exact ⟨c, r, rfl⟩
  have hal := alts_ok ob
  have hss := alts_szs b
  have hlen := alts_len b
  have hcd : b.alts.headD emp = c := by rw [hc]; rfl
  rw [hcd] at h
  have hcs : c.nd ≤ b.nd := by
    rw [hc] at hss
    simp only [szs, List.map_cons, List.sum_cons, List.length_cons] at hss
    omega
  have oc : c.ok = true := hal c (by rw [hc]; simp)
  have dc : c.enc.dp ≤ 140 := by have := c.enc_dp; omega
  refine seq_to [some a.enc, some b.enc, some b.enc, none, none, none, none] L (fun nx hnx => by simp; exact hnx) ?_
  refine seq_to [some a.enc, some b.enc, some c.enc, none, none, none, none] L (fun nx hnx => ?_) ?_
  · by_cases e3 : b.tag = "choice"
    · obtain ⟨x, y, rfl⟩ := tag_cho_iff e3
      simp only [alts, List.cons.injEq] at hc
      obtain ⟨rfl, rfl⟩ := hc
      simp
      exact hnx
    · rw [alts_else e3] at hc
      injection hc with hc
      subst hc
      simp [e3]
      exact hnx
  refine seq_to [some a.enc, some b.enc, some c.enc, some .non, none, none, none] L (fun nx hnx => by simp; exact hnx) ?_
  refine seq_to [some a.enc, some b.enc, some c.enc, some (if a.tag = "set" ∧ c.tag = "set" then encT (mrg a c) else .non), none, none, none] L (fun nx hnx => ?_) ?_
  · by_cases e3 : a.tag = "set"
    · by_cases e4 : c.tag = "set"
      · obtain ⟨x, rfl⟩ := tag_set_iff e3
        obtain ⟨y, rfl⟩ := tag_set_iff e4
        simp only [ok, decide_eq_true_eq] at oa oc
        simp [spLun]
        refine ⟨x, y, ⟨rfl, rfl⟩, oa, oc, ?_⟩
        simpa [mrg, encT] using hnx
      · simpa [e3, e4] using hnx
    · simpa [e3] using hnx
  refine seq_to [some a.enc, some b.enc, some c.enc, some (encT (mrg a c)), none, none, none] L (fun nx hnx => ?_) ?_
  · by_cases e3 : a.tag = "sequence"
    · obtain ⟨x, p, rfl⟩ := tag_seq_iff e3
      by_cases e4 : c.tag = "sequence"
      · obtain ⟨y, s, rfl⟩ := tag_seq_iff e4
        simp only [nd] at hs
        have dx : x.enc.dp ≤ 140 := by have := x.enc_dp; omega
        by_cases e5 : x = y
        · subst e5
          by_cases e6 : x.tag = "set"
          · simpa [mrg, encT, e6, dx] using hnx
          · by_cases e7 : x.tag = "anchor"
            · simpa [mrg, encT, e7, dx] using hnx
            · have e8 : ¬ (("set" : Str) = x.tag) := fun z => e6 z.symm
              have e9 : ¬ (("anchor" : Str) = x.tag) := fun z => e7 z.symm
              simpa [mrg, encT, e6, e7, e8, e9, dx] using hnx
        · simpa [mrg, encT, e5, dx] using hnx
      · have e5 : mrg (seq x p) c = none := by
          cases c <;> first | rfl | simp at e4
        rw [e5] at hnx
        simpa [e4, encT] using hnx
    · by_cases e4 : a.tag = "set" ∧ c.tag = "set"
      · simpa [e3, e4] using hnx
      · have e5 : mrg a c = none := by
          cases a <;> cases c <;> first | rfl | (simp at e4; done) | (simp at e3; done)
        rw [e5] at hnx
        simpa [e3, e4, encT] using hnx
  cases hm : mrg a c with
  | some m =>
    rw [hm] at h
    by_cases e3 : b.tag = "choice"
    · obtain ⟨x, y, rfl⟩ := tag_cho_iff e3
      simp only [alts, List.tail_cons] at h
      rw [choF_cons m (alts_ne y), choF_alts] at h
      simpa [encT] using h
    · rw [alts_else e3] at h
      simpa [encT, e3, choF] using h
  | none =>
    rw [hm] at h
    refine seq_to _ _ (fun nx hnx => by simp [encT]; exact hnx) ?_
    simp only [x_rSeq, x_rSet, x_rLst, x_rArgs0]
    intro p hp
    simp only [x_tgnm, dset_4]
    refine alts_while b (by omega) _ _ _ _ _ p _ fun v bcc h1 h2 => ?_
    simp only [x_rDrop, x_rM, rv_4, rv_1, e_own, x_rArgs0, x_rArgs1, m_app, upd_same', upd_upd', true_and]
    refine ⟨by simp; omega, ?_⟩
    simp only [x_rFrz, slot_4, upd_same', del_upd', del_none hp, dset_4]
    have hbb : bcc.map enc ++ [v.enc] = b.alts.map enc := by rw [← h2]; simp
    rw [hbb]
    refine seq_to [some a.enc, some v.enc, some c.enc, some (encT none), some (.fls ((if a.bare = true then b.alts.filter (fun t => decide (t ≠ a)) else b.alts).map enc)), none, none] L (fun nx hnx => ?_) ?_
    · simp [spBare]
      refine ⟨by omega, ?_⟩
      cases hb : a.bare with
      | true =>
        rw [hb] at hnx
        simp
        refine compD_pure enc (fun t => decide (t ≠ a)) enc b.alts [] (fun u hu => ⟨_, rfl, fun kb hk => ?_, fun _ k hk => ?_⟩) ?_
        · simp [da]
          simpa using hk
        · simpa using hk
        · simpa [encT] using hnx
      | false =>
        rw [hb] at hnx
        simpa [encT] using hnx
    · generalize hl : (if a.bare = true then b.alts.filter (fun t => decide (t ≠ a)) else b.alts) = l at h
      have hll : l.length ≤ b.alts.length := by
        rw [← hl]
        split
        · exact List.length_filter_le _ _
        · exact Nat.le_refl _
      refine seq_to [some a.enc, some v.enc, some c.enc, some (encT none), some (.fls ((a :: l).map enc)), none, none] L (fun nx hnx => ?_) ?_
      · simp
        exact ⟨by omega, by simpa using hnx⟩
      · obtain ⟨m, x, hx⟩ : ∃ m x, a :: l = m ++ [x] := by
          rcases List.eq_nil_or_concat (a :: l) with h | ⟨m, x, h⟩
          · exact absurd h (by simp)
          · exact ⟨m, x, by simpa using h⟩
        rw [hx] at h ⊢
        have hml : m.length = l.length := by
          have := congrArg List.length hx
          simpa using this.symm
        rw [choF_snoc] at h
        simp
        refine ⟨by omega, ?_⟩
        refine forD_range (fun i δ L' => L' = L ∧ ∃ o, δ = [some a.enc, some v.enc, some c.enc, some (encT none), some (.fls ((m ++ [x]).map enc)), some (Tr.enc ((m.drop (m.length - i)).reverse.foldl (fun acc t => cho t acc) x)), o]) ⟨rfl, none, by simp⟩ ?_ ?_
        · rintro i δ L' hi ⟨rfl, o, rfl⟩
          refine ⟨_, rfl, fun nx hnx => ?_⟩
          have e5 : ((m.length : Int) + 1 - 2 - i) = ((m.length - (i + 1) : Nat) : Int) := by omega
          have e6 : m.drop (m.length - (i + 1)) = m[m.length - (i + 1)]'(by omega) :: m.drop (m.length - i) := by
            rw [List.drop_eq_getElem_cons (by omega : m.length - (i + 1) < m.length)]
            congr 2
            omega
          have e7 : (m.map enc ++ [x.enc])[m.length - (i + 1)]? = some (m[m.length - (i + 1)]'(by omega)).enc := by
            rw [List.getElem?_append_left (by simp; omega)]
            simp
          simp [e5, at_nat, e7]
          refine hnx _ _ ⟨rfl, some (D.int i), ?_⟩
          rw [e6]
          simp
        · rintro δ L' ⟨rfl, o, rfl⟩
          simp at h ⊢
          exact h
end
end DL

namespace DL
open PySem L2 Tr
@[simp ↓] theorem k_EMPTY_eq : k_EMPTY = emp.enc := rfl
@[simp ↓] theorem k_NEVER_eq : k_NEVER = (Tr.set []).enc := rfl
namespace Tr
def isRep (g : Bool) : Tr → Bool
  | rep _ l h g' => decide (l = 0) && (decide (h = none) && decide (g' = g))
  | _ => false
def repF (a : Tr) (lo : Int) (hi : Option Int) (g : Bool) : Tr :=
  if a = emp then emp else if a = Tr.set [] then (if lo = 0 then emp else Tr.set []) else
  if a.bare = true ∧ hi = some 0 then emp else if a.bare = true ∧ lo = 1 ∧ hi = some 1 then a else
  if a.bare = true ∧ lo = 0 ∧ hi = none ∧ a.isRep g = true then a else rep a lo hi g
def lookF (ah ps : Bool) (a : Tr) : Tr :=
  if a = emp then (if ps = true then emp else Tr.set []) else if a = Tr.set [] then (if ps = true then Tr.set [] else emp) else look ah ps a
def simp : Tr → Tr
  | seq a b => joinSeq a.simp b.simp
  | cho a b => joinCho a.simp b.simp
  | rep a lo hi g => repF a.simp lo hi g
  | grp n a => grp n a.simp
  | look ah ps a => lookF ah ps a.simp
  | t => t
theorem repF_sz (a : Tr) (lo hi g) : (repF a lo hi g).nd ≤ a.nd + 1 := by
  have := a.sz_pos
  unfold repF
  repeat' split
  all_goals (try simp only [nd]) <;> omega
theorem lookF_sz (ah ps) (a : Tr) : (lookF ah ps a).nd ≤ a.nd + 1 := by
  have := a.sz_pos
  unfold lookF
  repeat' split
  all_goals (try simp only [nd]) <;> omega
theorem simp_sz : ∀ t : Tr, t.simp.nd ≤ t.nd
  | seq a b => by
    have h1 := simp_sz a
    have h2 := simp_sz b
    have h3 := joinSeq_sz a.simp b.simp
    simp only [simp, nd]
    omega
  | cho a b => by
    have h1 := simp_sz a
    have h2 := simp_sz b
    have h3 := joinCho_sz a.simp b.simp
    simp only [simp, nd]
    omega
  | rep a lo hi g => by
    have h1 := simp_sz a
    have h3 := repF_sz a.simp lo hi g
    simp only [simp, nd]
    omega
  | grp n a => by
    have h1 := simp_sz a
    simp only [simp, nd]
    omega
  | look ah ps a => by
    have h1 := simp_sz a
    have h3 := lookF_sz ah ps a.simp
    simp only [simp, nd]
    omega
  | emp => Nat.le_refl _
  | set _ => Nat.le_refl _
  | anc _ => Nat.le_refl _
theorem repF_ok {a : Tr} {lo hi g} (h : a.ok = true) : (repF a lo hi g).ok = true := by
  unfold repF
  repeat' split
  all_goals first | rfl | exact h
theorem lookF_ok {ah ps} {a : Tr} (h : a.ok = true) : (lookF ah ps a).ok = true := by
  unfold lookF
  repeat' split
  all_goals first | rfl | exact h
theorem simp_ok : ∀ {t : Tr}, t.ok = true → t.simp.ok = true
  | seq a b, h => by
    simp only [ok, Bool.and_eq_true] at h
    exact joinSeq_ok (simp_ok h.1) (simp_ok h.2)
  | cho a b, h => by
    simp only [ok, Bool.and_eq_true] at h
    exact joinCho_ok (simp_ok h.1) (simp_ok h.2)
  | rep a lo hi g, h => repF_ok (simp_ok (t := a) h)
  | grp n a, h => simp_ok (t := a) h
  | look ah ps a, h => lookF_ok (simp_ok (t := a) h)
  | emp, h => h
  | set _, h => h
  | anc _, h => h
end Tr
section
variable {L : MH} {q : KD}
def spRep : SpD := fun ds L q => ∃ (a b : Tr) (lo : Int) (hi : Option Int) (g : Bool), ds = [a.enc, (rep b lo hi g).enc] ∧ a.nd < 46 ∧ q (repF a lo hi g).enc L
theorem rd_rep (a b : Tr) (lo : Int) (hi : Option Int) (g : Bool) (ha : a.nd < 46) (h : q (repF a lo hi g).enc L) : R.simple_repeat (spBare 46) (rE q) [some a.enc, some (rep b lo hi g).enc, none, none, none] L := by
  unfold R.simple_repeat
  have da : a.enc.dp ≤ 140 := by have := a.enc_dp; omega
  unfold repF at h
  refine seq_to _ _ (fun nx hnx => by simp; exact hnx) ?_
  by_cases e1 : a = emp
  · subst e1
    simpa using h
  simp only [e1, if_false] at h
  by_cases e2 : a = Tr.set []
  · subst e2
    by_cases e3 : lo = 0
    · simpa [e3] using h
    · simpa [e3] using h
  simp only [e2, if_false] at h
  refine seq_to _ _ (fun nx hnx => by simp [e1, e2, da]; exact hnx) ?_
  refine seq_to _ _ (fun nx hnx => by simp [e1, e2, da]; exact hnx) ?_
  cases hb : a.bare with
  | false =>
    rw [hb] at h
    simp [spBare, hb, ha]
    simpa using h
  | true =>
    rw [hb] at h
    simp [spBare, hb, ha]
    by_cases e3 : hi = some 0
    · simpa [e3] using h
    simp [e3] at h ⊢
    by_cases e4 : lo = 1
    · subst e4
      by_cases e5 : hi = some 1
      · subst e5
        simpa using h
      · simp [e5] at h ⊢
        by_cases e6 : a.tag = "repeat"
        · simpa [e6] using h
        · simpa [e6] using h
    · simp [e4] at h ⊢
      by_cases e6 : a.tag = "repeat"
      · obtain ⟨x, l, m, g', rfl⟩ := tag_rep_iff e6
        by_cases e7 : lo = 0
        · subst e7
          by_cases e8 : hi = none
          · subst e8
            by_cases e9 : l = 0 ∧ m = none ∧ g' = g
            · obtain ⟨rfl, rfl, rfl⟩ := e9
              simpa [isRep] using h
            · have e9' := e9
              by_cases f1 : l = 0
              · by_cases f2 : m = none
                · by_cases f3 : g' = g
                  · exact absurd ⟨f1, f2, f3⟩ e9'
                  · simpa [isRep, f1, f2, f3] using h
                · simpa [isRep, f1, f2] using h
              · simpa [isRep, f1] using h
          · simpa [e8] using h
        · simpa [e7] using h
      · have e7 : a.isRep g = false := by
          cases a <;> first | rfl | simp at e6
        simp [e6]
        simpa [e7] using h
def spLook : SpD := fun ds L q => ∃ (a b : Tr) (ah ps : Bool), ds = [a.enc, (look ah ps b).enc] ∧ a.nd < 46 ∧ q (lookF ah ps a).enc L
theorem rd_look (a b : Tr) (ah ps : Bool) (ha : a.nd < 46) (h : q (lookF ah ps a).enc L) : R.simple_look (rE q) [some a.enc, some (look ah ps b).enc] L := by
  unfold R.simple_look
  have da : a.enc.dp ≤ 140 := by have := a.enc_dp; omega
  unfold lookF at h
  by_cases e1 : a = emp
  · subst e1
    cases ps <;> simpa [k_EMPTY, k_NEVER] using h
  by_cases e2 : a = Tr.set []
  · subst e2
    cases ps <;> simpa [k_EMPTY, k_NEVER] using h
  simpa [k_EMPTY, k_NEVER, e1, e2, da] using h
def sp1 (f : Tr → Tr) (n : Nat) : SpD := fun ds L q => ∃ t : Tr, ds = [t.enc] ∧ t.nd < n ∧ t.nd ≤ 45 ∧ t.ok = true ∧ q (f t).enc L
theorem rd_simp {n : Nat} (t : Tr) (ht : t.nd < n + 1) (h45 : t.nd ≤ 45) (ho : t.ok = true) (h : q t.simp.enc L) : R.simplify (sp1 Tr.simp n) spLook spRep (sp2o joinCho 46) (sp2 joinSeq 46) (rE q) [some t.enc, none] L := by
  unfold R.simplify
  cases t with
  | seq a b =>
    have h1 := simp_sz a
    have h2 := simp_sz b
    simp only [nd] at ht h45
    simp only [ok, Bool.and_eq_true] at ho
    simp [sp1, sp2]
    exact ⟨by omega, by omega, ho.1, by omega, by omega, ho.2, a.simp, b.simp, ⟨rfl, rfl⟩, by omega, by omega, h⟩
  | cho a b =>
    have h1 := simp_sz a
    have h2 := simp_sz b
    simp only [nd] at ht h45
    simp only [ok, Bool.and_eq_true] at ho
    simp [sp1, sp2o]
    exact ⟨by omega, by omega, ho.1, by omega, by omega, ho.2, a.simp, b.simp, ⟨rfl, rfl⟩, by omega, by omega, simp_ok ho.1, simp_ok ho.2, h⟩
  | rep a lo hi g =>
    have h1 := simp_sz a
    simp only [nd] at ht h45
    simp [sp1]
    exact ⟨by omega, by omega, ho, a.simp, a, lo, hi, g, rfl, by omega, h⟩
  | grp i a =>
    simp only [nd] at ht h45
    simp [sp1]
    exact ⟨by omega, by omega, ho, h⟩
  | look ah ps a =>
    have h1 := simp_sz a
    simp only [nd] at ht h45
    simp [sp1]
    exact ⟨by omega, by omega, ho, a.simp, a, ah, ps, rfl, by omega, h⟩
  | emp => simpa [Tr.simp] using h
  | set _ => simpa [Tr.simp] using h
  | anc _ => simpa [Tr.simp] using h
theorem rd_lsimp {n : Nat} (t : Tr) (ht : t.nd < n + 1) (h45 : t.nd ≤ 45) (ho : t.ok = true) (h : q t.simp.enc L) : R._law_simple (spBare 46) (sp1 Tr.simp n) (sp2o joinCho 46) (sp2 joinSeq 46) (rE q) [some t.enc, none, none] L := by
  unfold R._law_simple
  cases t with
  | seq a b =>
    have h1 := simp_sz a
    have h2 := simp_sz b
    simp only [nd] at ht h45
    simp only [ok, Bool.and_eq_true] at ho
    simp [sp1, sp2]
    exact ⟨by omega, by omega, ho.1, by omega, by omega, ho.2, a.simp, b.simp, ⟨rfl, rfl⟩, by omega, by omega, h⟩
  | cho a b =>
    have h1 := simp_sz a
    have h2 := simp_sz b
    simp only [nd] at ht h45
    simp only [ok, Bool.and_eq_true] at ho
    simp [sp1, sp2o]
    exact ⟨by omega, by omega, ho.1, by omega, by omega, ho.2, a.simp, b.simp, ⟨rfl, rfl⟩, by omega, by omega, simp_ok ho.1, simp_ok ho.2, h⟩
  | grp i a =>
    simp only [nd] at ht h45
    simp [sp1]
    exact ⟨by omega, by omega, ho, h⟩
  | look ah ps a =>
    have h1 := simp_sz a
    simp only [nd] at ht h45
    have da : a.simp.enc.dp ≤ 140 := by have := a.simp.enc_dp; omega
    simp [sp1]
    refine ⟨by omega, by omega, ho, ?_⟩
    simp only [Tr.simp] at h
    generalize a.simp = b at *
    unfold lookF at h
    by_cases e1 : b = emp
    · subst e1
      cases ps <;> simpa using h
    by_cases e2 : b = Tr.set []
    · subst e2
      cases ps <;> simpa using h
    simpa [e1, e2, da] using h
  | rep a lo hi g =>
    have h1 := simp_sz a
    simp only [nd] at ht h45
    have da : a.simp.enc.dp ≤ 140 := by have := a.simp.enc_dp; omega
    refine seq_to _ _ (fun nx hnx => by simp; exact hnx) ?_
    refine seq_to _ _ (fun nx hnx => by simp; exact hnx) ?_
    refine seq_to _ _ (fun nx hnx => by simp; exact hnx) ?_
    refine seq_to _ _ (fun nx hnx => by simp; exact hnx) ?_
    refine seq_to _ _ (fun nx hnx => by simp; exact hnx) ?_
    refine seq_to [some (rep a lo hi g).enc, some a.simp.enc, none] L (fun nx hnx => by simp [sp1]; exact ⟨by omega, by omega, ho, hnx⟩) ?_
    simp only [Tr.simp] at h
    have hb46 : a.simp.nd < 46 := by omega
    generalize a.simp = b at *
    unfold repF at h
    by_cases e1 : b = emp
    · subst e1
      simpa using h
    simp only [e1, if_false] at h
    refine seq_to _ _ (fun nx hnx => by simp [e1, da]; exact hnx) ?_
    by_cases e2 : b = Tr.set []
    · subst e2
      by_cases e3 : lo = 0
      · simpa [e3] using h
      · simpa [e3] using h
    simp only [e2, if_false] at h
    refine seq_to _ _ (fun nx hnx => by simp [e2, da]; exact hnx) ?_
    cases hb : b.bare with
    | false =>
      rw [hb] at h
      refine seq_to _ _ (fun nx hnx => by simp [spBare, hb, hb46]; exact hnx) ?_
      refine seq_to _ _ (fun nx hnx => by simp [spBare, hb, hb46]; exact hnx) ?_
      refine seq_by (fun δ' L' => L' = L ∧ ∃ o, δ' = [some (rep a lo hi g).enc, some b.enc, some (.bl o)]) (fun nx hnx => ?_) ?_
      · by_cases e6 : b.tag = "repeat"
        · obtain ⟨x, l, m, g', rfl⟩ := tag_rep_iff e6
          simp
          by_cases f1 : lo = 0
          · by_cases f2 : hi = none
            · subst f1 f2
              simp
              exact hnx _ _ ⟨rfl, _, rfl⟩
            · subst f1
              simp [f2]
              exact hnx _ _ ⟨rfl, _, rfl⟩
          · simp [f1]
            exact hnx _ _ ⟨rfl, _, rfl⟩
        · simp [e6]
          exact hnx _ _ ⟨rfl, _, rfl⟩
      · rintro δ' L' ⟨rfl, o, rfl⟩
        simp [spBare, hb, hb46]
        simpa using h
    | true =>
      rw [hb] at h
      by_cases e3 : hi = some 0
      · simp [spBare, hb, hb46]
        simpa [e3] using h
      refine seq_to _ _ (fun nx hnx => by simp [spBare, hb, hb46, e3]; exact hnx) ?_
      simp [e3] at h
      by_cases e4 : lo = 1 ∧ hi = some 1
      · obtain ⟨rfl, rfl⟩ := e4
        simp [spBare, hb, hb46]
        simpa using h
      refine seq_to [some (rep a lo hi g).enc, some b.enc, none] L (fun nx hnx => ?_) ?_
      · simp [spBare, hb, hb46]
        by_cases f1 : lo = 1
        · by_cases f2 : hi = some 1
          · exact absurd ⟨f1, f2⟩ e4
          · simpa [f1, f2] using hnx
        · simpa [f1] using hnx
      simp [e4] at h
      refine seq_to [some (rep a lo hi g).enc, some b.enc, some (.bl (decide (lo = 0) && (decide (hi = none) && b.isRep g)))] L (fun nx hnx => ?_) ?_
      · by_cases e6 : b.tag = "repeat"
        · obtain ⟨x, l, m, g', rfl⟩ := tag_rep_iff e6
          by_cases f1 : lo = 0
          · by_cases f2 : hi = none
            · subst f1 f2
              simpa [isRep] using hnx
            · simpa [f1, f2] using hnx
          · simpa [f1] using hnx
        · have e7 : b.isRep g = false := by
            cases b <;> first | rfl | simp at e6
          simpa [e6, e7] using hnx
      · simp [spBare, hb, hb46]
        by_cases f1 : lo = 0 ∧ hi = none ∧ b.isRep g = true
        · obtain ⟨rfl, rfl, f3⟩ := f1
          simpa [f3] using h
        · have f1' := f1
          simp only [f1, if_false] at h
          by_cases f4 : lo = 0
          · by_cases f5 : hi = none
            · by_cases f6 : b.isRep g = true
              · exact absurd ⟨f4, f5, f6⟩ f1'
              · simpa [f6] using h
            · simpa [f5] using h
          · simpa [f4] using h
  | emp => simpa [Tr.simp] using h
  | set _ => simpa [Tr.simp] using h
  | anc _ => simpa [Tr.simp] using h
end
/-- simplified as far as it goes -/
def Tr.most : Nat → Tr → Tr
  | 0, t => t
  | n + 1, t => if t.simp = t then t else Tr.most n t.simp
section
variable {L : MH} {q : KD}
/-! the two loops -/
def spMost : SpD := fun ds L q => ∃ t : Tr, ds = [t.enc] ∧ t.nd ≤ 45 ∧ t.ok = true ∧ q (Tr.most t.sz t).enc L
theorem rd_most (t : Tr) (ht : t.nd ≤ 45) (ho : t.ok = true) (h : q (Tr.most t.sz t).enc L) : R.simplest (spSz 46) (sp1 Tr.simp 46) (rE q) [some t.enc, none, none] L := by
  unfold R.simplest
  have hsz := t.sz_nd
  simp [spSz]
  refine ⟨by omega, by omega, ?_⟩
  rw [rangeD_eq]
  refine forD_rest (fun i : Nat => D.int (0 + (i : Nat))) (fun r δ L' => L' = L ∧ ∃ u o1 o2, δ = [some (Tr.enc u), o1, o2] ∧ u.nd ≤ 45 ∧ u.ok = true ∧ Tr.most r.length u = Tr.most t.sz t) ?_ (List.range t.sz) _ _ ⟨rfl, t, none, none, rfl, ht, ho, by simp⟩ ?_
  · rintro i r δ L' ⟨rfl, u, o1, o2, rfl, h1, h2, h3⟩
    refine ⟨_, rfl, fun nx hnx => ?_⟩
    have hs := simp_sz u
    have du : u.enc.dp ≤ 140 := by have := u.enc_dp; omega
    simp [sp1, du]
    refine ⟨by omega, by omega, h2, ?_⟩
    simp only [List.length_cons, Tr.most] at h3
    by_cases e : u.simp = u
    · rw [if_pos e] at h3
      simp [e]
      rw [h3]
      exact h
    · rw [if_neg e] at h3
      simp [e]
      exact hnx _ _ ⟨rfl, u.simp, _, _, rfl, by omega, simp_ok h2, h3⟩
  · rintro δ L' ⟨rfl, u, o1, o2, rfl, h1, h2, h3⟩
    simp [Tr.most] at h3
    subst h3
    simpa using h

mutual
/-- no list or tuple is longer than a million -/
def D.wid : D → Bool
  | .tup ds => decide (ds.length ≤ 1000000) && D.wids ds
  | .fls ds => decide (ds.length ≤ 1000000) && D.wids ds
  | _ => true
def D.wids : List D → Bool
  | [] => true
  | d :: ds => d.wid && D.wids ds
end
theorem wids_mem : ∀ {ds : List D}, D.wids ds = true → ∀ d ∈ ds, d.wid = true
  | [], _, _, h => nomatch h
  | a :: r, h, d, hd => by
    have h' : a.wid = true ∧ D.wids r = true := by simpa [D.wids] using h
    rcases List.mem_cons.mp hd with e | e
    · subst e; exact h'.1
    · exact wids_mem h'.2 d e
theorem wid_t {ds : List D} (h : (D.tup ds).wid = true) : ds.length ≤ 1000000 ∧ ∀ d ∈ ds, d.wid = true := by
  have h' : ds.length ≤ 1000000 ∧ D.wids ds = true := by simpa [D.wid] using h
  exact ⟨h'.1, wids_mem h'.2⟩
theorem wid_f {ds : List D} (h : (D.fls ds).wid = true) : ds.length ≤ 1000000 ∧ ∀ d ∈ ds, d.wid = true := by
  have h' : ds.length ≤ 1000000 ∧ D.wids ds = true := by simpa [D.wid] using h
  exact ⟨h'.1, wids_mem h'.2⟩
@[simp] theorem wid_map {α : Type} {f : α → D} (h : ∀ x, (f x).wid = true) : ∀ xs : List α, D.wids (xs.map f) = true
  | [] => by simp [D.wids]
  | x :: xs => by simp [D.wids, h, wid_map h xs]
def spSame (n : Nat) : SpD := fun ds L q => ∃ d : D, ds = [d, d] ∧ d.pr = true ∧ d.dp < n ∧ d.wid = true ∧ q (.bl true) L
theorem D.eqv_refl (d : D) : d.eqv d = true := PySem.SeqAt.eqv_refl_plain _ (D.plain_py d)
theorem prs_get {ds : List D} (h : D.prs ds = true) {i : Nat} {d : D} (e : ds[i]? = some d) : d.pr = true ∧ d.dp ≤ D.dps ds := by
  induction ds generalizing i with
  | nil => simp at e
  | cons a r ih =>
    simp only [prs_1, Bool.and_eq_true] at h
    simp only [dps_1]
    cases i with
    | zero => 
      simp at e
      subst e
      exact ⟨h.1, Nat.le_max_left _ _⟩
    | succ i =>
      have := ih h.2 (i := i) (by simpa using e)
      exact ⟨this.1, Nat.le_trans this.2 (Nat.le_max_right _ _)⟩
end
end DL

namespace DL
open PySem L2 Tr
section
variable {L : MH} {q : KD}
theorem rd_same {n : Nat} (hn : n < 140) (d : D) (hp : d.pr = true) (hd : d.dp < n + 1) (hw : d.wid = true) (h : q (.bl true) L) : R._law_same (spSame n) (rE q) [some d, some d, none] L := by
  unfold R._law_same
  have er := D.eqv_refl d
  cases d with
  | non => simpa using h
  | bl b => simpa using h
  | int i =>
    refine seq_to _ _ (fun nx hnx => by simp; exact hnx) ?_
    refine seq_to _ _ (fun nx hnx => by simp; exact hnx) ?_
    simpa using h
  | str s =>
    refine seq_to _ _ (fun nx hnx => by simp; exact hnx) ?_
    refine seq_to _ _ (fun nx hnx => by simp; exact hnx) ?_
    refine seq_to _ _ (fun nx hnx => by simp; exact hnx) ?_
    simpa using h
  | fls ds =>
    simp at hp hd
    obtain ⟨hl, hk⟩ := wid_f hw
    refine seq_to _ _ (fun nx hnx => by simp; exact hnx) ?_
    refine seq_to _ _ (fun nx hnx => by simp; exact hnx) ?_
    refine seq_to _ _ (fun nx hnx => by simp; exact hnx) ?_
    refine seq_to _ _ (fun nx hnx => by simp; exact hnx) ?_
    refine seq_to _ _ (fun nx hnx => by simp; exact hnx) ?_
    refine seq_to _ _ (fun nx hnx => by simp; exact hnx) ?_
    refine seq_to _ _ (fun nx hnx => by simp; exact hnx) ?_
    simp
    refine ⟨by omega, ?_⟩
    refine forD_range (fun i δ L' => L' = L ∧ ∃ o, δ = [some (.fls ds), some (.fls ds), o]) ⟨rfl, none, rfl⟩ ?_ ?_
    · rintro i δ L' hi ⟨rfl, o, rfl⟩
      refine ⟨_, rfl, fun nx hnx => ?_⟩
      have e : ds[i]? = some ds[i] := List.getElem?_eq_getElem hi
      have g := prs_get hp e
      simp [at_nat, e, spSame]
      exact ⟨g.1, by omega, hk _ (List.getElem_mem hi), hnx _ _ ⟨rfl, _, rfl⟩⟩
    · rintro δ L' ⟨rfl, o, rfl⟩
      simpa using h
  | tup ds =>
    simp at hp hd
    obtain ⟨hl, hk⟩ := wid_t hw
    refine seq_to _ _ (fun nx hnx => by simp; exact hnx) ?_
    refine seq_to _ _ (fun nx hnx => by simp; exact hnx) ?_
    refine seq_to _ _ (fun nx hnx => by simp; exact hnx) ?_
    refine seq_to _ _ (fun nx hnx => by simp; exact hnx) ?_
    refine seq_to _ _ (fun nx hnx => by simp; exact hnx) ?_
    refine seq_to _ _ (fun nx hnx => by simp; exact hnx) ?_
    refine seq_to _ _ (fun nx hnx => by simp; exact hnx) ?_
    simp
    refine ⟨by omega, ?_⟩
    refine forD_range (fun i δ L' => L' = L ∧ ∃ o, δ = [some (.tup ds), some (.tup ds), o]) ⟨rfl, none, rfl⟩ ?_ ?_
    · rintro i δ L' hi ⟨rfl, o, rfl⟩
      refine ⟨_, rfl, fun nx hnx => ?_⟩
      have e : ds[i]? = some ds[i] := List.getElem?_eq_getElem hi
      have g := prs_get hp e
      simp [at_nat, e, spSame]
      exact ⟨g.1, by omega, hk _ (List.getElem_mem hi), hnx _ _ ⟨rfl, _, rfl⟩⟩
    · rintro δ L' ⟨rfl, o, rfl⟩
      simpa using h
  | ref _ => simp [D.pr] at hp
  | ty _ => simp [D.pr] at hp
  | scr _ => simp [D.pr] at hp
end
end DL

namespace DL
open PySem L2 Tr
section
variable {L : MH} {q : KD}
def spRow : SpD := fun ds L q => ∃ (ns : List Int) (y : Int), ds = [.scr ns, .int y] ∧ 0 ≤ y ∧ ∀ v : Int, q (.int v) L
theorem cmul_l {i j : Int} (h1 : -(2 ^ 64) < i) (h2 : i < 2 ^ 64) : CMul i j := .inl ⟨h1, h2⟩
theorem cmul_r {i j : Int} (h1 : -(2 ^ 64) < j) (h2 : j < 2 ^ 64) : CMul i j := .inr ⟨h1, h2⟩
theorem rd_row (ns : List Int) (y : Int) (hy : 0 ≤ y) (h : ∀ v : Int, q (.int v) L) : R._law_row (rE q) [some (.scr ns), some (.int y), none, none] L := by
  unfold R._law_row
  refine seq_to _ _ (fun nx hnx => by simp; exact hnx) ?_
  refine seq_by (fun δ' L' => L' = L ∧ ∃ v : Int, δ' = [some (.scr ns), some (.int y), some (.int v), none]) (fun nx hnx => ?_) ?_
  · simp
    by_cases e : y < ns.length
    · obtain ⟨n, rfl⟩ := Int.eq_ofNat_of_zero_le hy
      have hn : n < ns.length := by omega
      simp [at_nat, List.getElem?_eq_getElem hn, hn]
      exact hnx _ _ ⟨rfl, _, rfl⟩
    · simp [e]
      exact hnx _ _ ⟨rfl, _, rfl⟩
  rintro δ' L' ⟨rfl, v, rfl⟩
  refine seq_by (fun δ' L'' => L'' = L' ∧ ∃ v : Int, δ' = [some (.scr ns), some (.int y), some (.int v), none]) (fun nx hnx => ?_) ?_
  · simp
    by_cases e : v < 0
    · simp [e]
      exact ⟨cmul_l (by decide) (by decide), hnx _ _ ⟨rfl, _, rfl⟩⟩
    · simp [e]
      exact hnx _ _ ⟨rfl, _, rfl⟩
  rintro δ' L'' ⟨rfl, v, rfl⟩
  refine seq_by (fun δ' L3 => L3 = L'' ∧ ∃ v : Int, δ' = [some (.scr ns), some (.int y), some (.int v), none]) (fun nx hnx => ?_) ?_
  · simp
    refine ⟨⟨by decide, by decide, by decide⟩, ?_⟩
    by_cases e : (1000000000 : Int) ≤ v
    · simp [e]
      exact h _
    · simp [e]
      exact hnx _ _ ⟨rfl, _, rfl⟩
  rintro δ' L'' ⟨rfl, v, rfl⟩
  simp
  refine ⟨cmul_l (by decide) (by decide), cmul_r (by decide) (by decide), cmul_l ?_ ?_, cmul_l (by decide) (by decide), h _⟩
  · have := Int.emod_nonneg ((v + 7919 * y + 1) * 6364136223846793005 + 1442695040888963407) (b := 2305843009213693951) (by decide)
    omega
  · have := Int.emod_lt_of_pos ((v + 7919 * y + 1) * 6364136223846793005 + 1442695040888963407) (b := 2305843009213693951) (by decide)
    omega
def spDig : SpD := fun ds L q => ∃ (ns : List Int) (a : Addr) (x y : Int) (r : List D) (b : Int), ds = [.scr ns, .ref a, .int b] ∧ L a = some (.lst (.int x :: .int y :: r)) ∧ 0 ≤ y ∧ 0 < b ∧ b < 1000 ∧
  ∀ d x' y' : Int, 0 ≤ d → d < b → 0 ≤ y' → q (.int d) (updM L a (.lst (.int x' :: .int y' :: r)))
theorem ixN_0 {n : Nat} (h : 0 < n) : ixN n 0 = some 0 := by
  unfold ixN
  simp [h]
theorem ixN_1 {n : Nat} (h : 1 < n) : ixN n 1 = some 1 := by
  unfold ixN
  simp
  omega
theorem ixN_2 {n : Nat} (h : 2 < n) : ixN n 2 = some 2 := by
  unfold ixN
  simp
  omega
theorem updM_self {L : MH} {a : Addr} {o : MO} (h : L a = some o) : updM L a o = L := by
  funext b
  unfold updM
  split
  · rename_i e; rw [e, h]
  · rfl
theorem cdiv {i b : Int} (h1 : 0 < b) (h2 : b < 1000) : CDivW i b := by
  refine ⟨h1, ?_⟩
  have : b.natAbs < 2 ^ 10 := by omega
  have h3 : b.natAbs.log2 < 10 := (Nat.log2_lt (by omega)).mpr this
  omega
theorem rd_dig (ns : List Int) (a : Addr) (x y : Int) (r : List D) (b : Int) (hL : L a = some (.lst (.int x :: .int y :: r))) (hy : 0 ≤ y) (hb : 0 < b) (hb2 : b < 1000)
    (h : ∀ d x' y' : Int, 0 ≤ d → d < b → 0 ≤ y' → q (.int d) (updM L a (.lst (.int x' :: .int y' :: r)))) : R._law_digit spRow (rE q) [some (.scr ns), some (.ref a), some (.int b), none] L := by
  unfold R._law_digit
  refine seq_by (fun δ' L' => δ' = [some (.scr ns), some (.ref a), some (.int b), none] ∧ ∃ x' y' : Int, 0 ≤ y' ∧ L' = updM L a (.lst (.int x' :: .int y' :: r))) (fun nx hnx => ?_) ?_
  · by_cases e : x = 0
    · simp [hL, e]
      refine ⟨ns, y, rfl, hy, fun v => ?_⟩
      simp [hL, ixN_0, ixN_1]
      exact hnx _ _ ⟨rfl, _, _, by omega, rfl⟩
    · simp [hL, e]
      exact hnx _ _ ⟨rfl, x, y, hy, (updM_self hL).symm⟩
  · rintro δ' L' ⟨rfl, x', y', hy', rfl⟩
    simp [hb, cdiv hb hb2, ixN_0]
    exact h _ _ _ (Int.emod_nonneg _ (by omega)) (Int.emod_lt_of_pos _ hb) hy'
end
end DL

namespace DL
open PySem L2 Tr
/-- the law's state: the number in hand, the place in the script, a counter -/
def St3 (a : Addr) (L : MH) : Prop := ∃ x y z : Int, 0 ≤ y ∧ L a = some (.lst [.int x, .int y, .int z])
/-- what else was owned is kept -/
def Kp (a : Addr) (L L' : MH) : Prop := ∀ b, b ≠ a → L b ≠ none → L' b = L b
theorem Kp.refl {a : Addr} {L : MH} : Kp a L L := fun _ _ _ => rfl
theorem Kp.trans {a : Addr} {L L1 L2 : MH} (h1 : Kp a L L1) (h2 : Kp a L1 L2) : Kp a L L2 := fun b n h => by
  rw [← h1 b n h]
  exact h2 b n (by rw [h1 b n h]; exact h)
theorem Kp.upd {a : Addr} {L : MH} {o : MO} : Kp a L (updM L a o) := fun b n h => updM_ne n
section
variable {L : MH} {q : KD}
theorem dig_i {k : KD} {ns : List Int} {a : Addr} {b : Int} (s : St3 a L) (h0 : 0 < b) (h1 : b < 1000) (h : ∀ (d : Int) L', St3 a L' → Kp a L L' → 0 ≤ d → d < b → k (.int d) L') : spDig [.scr ns, .ref a, .int b] L k := by
  obtain ⟨x, y, z, hy, hL⟩ := s
  exact ⟨ns, a, x, y, [.int z], b, rfl, hL, hy, h0, h1, fun d x' y' h2 h3 h4 => h d _ ⟨x', y', z, h4, updM_same⟩ .upd h2 h3⟩
def Sd : Nat → Nat
  | 0 => 0
  | n + 1 => 2 * Sd n + 3
theorem Sd_pos (n : Nat) : 0 ≤ Sd n := Nat.zero_le _
theorem Sd_mono {m n : Nat} (h : m ≤ n) : Sd m ≤ Sd n := by
  induction n with
  | zero =>
    have : m = 0 := by omega
    subst this
    exact Nat.le_refl _
  | succ n ih =>
    by_cases e : m = n + 1
    · subst e; exact Nat.le_refl _
    · have := ih (by omega)
      simp only [Sd]
      omega
def spTree (n : Nat) : SpD := fun ds L q => ∃ (ns : List Int) (a : Addr) (d : Nat), ds = [.scr ns, .ref a, .int d] ∧ d < n ∧ St3 a L ∧ ∀ (t : Tr) L', St3 a L' → Kp a L L' → t.nd ≤ Sd d → t.ok = true → q t.enc L'
theorem tree_i {n : Nat} {k : KD} {ns : List Int} {a : Addr} {d : Nat} {i : Int} (hi : i = (d : Int)) (hd : d < n) (s : St3 a L) (h : ∀ (t : Tr) L', St3 a L' → Kp a L L' → t.nd ≤ Sd d → t.ok = true → k t.enc L') : spTree n [.scr ns, .ref a, .int i] L k := by
  subst hi
  exact ⟨ns, a, d, rfl, hd, s, h⟩
theorem lt8 {P : Int → Prop} (h0 : P 0) (h1 : P 1) (h2 : P 2) (h3 : P 3) (h4 : P 4) (h5 : P 5) (h6 : P 6) (h7 : P 7) {d : Int} (a : 0 ≤ d) (b : d < 8) : P d := by
  rcases (by omega : d = 0 ∨ d = 1 ∨ d = 2 ∨ d = 3 ∨ d = 4 ∨ d = 5 ∨ d = 6 ∨ d = 7) with e | e | e | e | e | e | e | e <;> subst e <;> assumption
theorem rd_tree {n : Nat} (ns : List Int) (a : Addr) (d : Nat) (hd : d < n + 1) (s : St3 a L) (h : ∀ (t : Tr) L', St3 a L' → Kp a L L' → t.nd ≤ Sd d → t.ok = true → q t.enc L') : R._law_tree spDig (spTree n) (rE q) [some (.scr ns), some (.ref a), some (.int d), none, none, none, none, none, none, none, none] L := by
  unfold R._law_tree
  have sl := sl_eq
  have hpos := Sd_pos d
  refine seq_by (fun δ' L' => ∃ x : Int, 0 ≤ x ∧ x < 18 ∧ St3 a L' ∧ Kp a L L' ∧ δ' = [some (.scr ns), some (.ref a), some (.int d), some (.int x), none, none, none, none, none, none, none]) (fun nx hnx => ?_) ?_
  · simp
    refine dig_i s (by decide) (by decide) fun x L' s1 k1 h1 h2 => ?_
    try simp
    exact hnx _ _ ⟨x, h1, h2, s1, k1, rfl⟩
  rintro δ' L1 ⟨x, h1, h2, s1, k1, rfl⟩
  -- a leaf
  refine seq_by (fun δ' L' => 0 < d ∧ 4 ≤ x ∧ L' = L1 ∧ δ' = [some (.scr ns), some (.ref a), some (.int d), some (.int x), none, none, none, none, none, none, none]) (fun nx hnx => ?_) ?_
  · by_cases e : (d : Int) = 0 ∨ x < 4
    · have leaf : ∀ (nx' : DSt → MH → Prop), rSeq (rSet (.nm 4) (rFls [(rTup [(rC (.str "empty"))]), (rTup [(rC (.str "set")), (rTup [])]), (rTup [(rC (.str "set")), (rTup [(rTup [(rC (.int 97)), (rC (.int 98))])])]), (rTup [(rC (.str "set")), (rTup [(rTup [(rC (.int 98)), (rC (.int 99))])])]), (rTup [(rC (.str "set")), (rTup [(rTup [(rC (.int 97)), (rC (.int 98))]), (rTup [(rC (.int 100)), (rC (.int 104))])])])])) (rSeq (rSet (.nm 4) (rO oAdd (rV 4) (rFls [(rTup [(rC (.str "anchor")), (rC (.str "text_start"))]), (rTup [(rC (.str "anchor")), (rC (.str "line_end"))]), (rTup [(rC (.str "set")), (rTup [(rTup [(rC (.int 99)), (rC (.int 101))])])])]))) (rRet (rO oIx (rV 4) (rCall spDig [(rV 0), (rV 1), (rC (.int 8))])))) ⟨nx', q, fun _ _ => False, fun _ _ => False⟩ [some (.scr ns), some (.ref a), some (.int d), some (.int x), none, none, none, none, none, none, none] L1 := by
        intro nx'
        simp only [x_rSeq, x_rSet, x_rFls, x_rArgs1, x_rArgs0, x_rTup, x_rC, x_tgnm, dset_4, x_rO, rv_4, o_add_f, List.length_cons, List.length_nil, x_rRet, x_rCall, rv_0, rv_1]
        refine ⟨by omega, ?_⟩
        refine dig_i s1 (by decide) (by decide) fun x L' s2 k2 g1 g2 => ?_
        refine lt8 (P := fun x => oIx _ (.int x) L' q) ?_ ?_ ?_ ?_ ?_ ?_ ?_ ?_ g1 g2
        · exact h emp L' s2 (k1.trans k2) hpos rfl
        · exact h (Tr.set []) L' s2 (k1.trans k2) hpos rfl
        · exact h (Tr.set [(97, 98)]) L' s2 (k1.trans k2) hpos rfl
        · exact h (Tr.set [(98, 99)]) L' s2 (k1.trans k2) hpos rfl
        · exact h (Tr.set [(97, 98), (100, 104)]) L' s2 (k1.trans k2) hpos rfl
        · exact h (Tr.anc "text_start") L' s2 (k1.trans k2) hpos rfl
        · exact h (Tr.anc "line_end") L' s2 (k1.trans k2) hpos rfl
        · exact h (Tr.set [(99, 101)]) L' s2 (k1.trans k2) hpos rfl
      by_cases e0 : (d : Int) = 0
      · simp only [x_rIfS, x_rOrT, x_rTest, x_rO, rv_2, x_rC, o_eq, pr_i, dp_i, eqv_int_int, e0, decide_true, if_true]
        exact ⟨trivial, trivial, Or.inl (by decide), by rw [← e0]; exact leaf _⟩
      · have e1 : x < 4 := by omega
        simp only [x_rIfS, x_rOrT, x_rTest, x_rO, rv_2, rv_3, x_rC, o_eq, pr_i, dp_i, eqv_int_int, e0, decide_false, o_cmp, e1, decide_true, if_true, Bool.false_eq_true, if_false]
        exact ⟨trivial, trivial, Or.inl (by decide), leaf _⟩
    · have e0 : ¬ (d : Int) = 0 := fun z => e (.inl z)
      have e1 : ¬ x < 4 := fun z => e (.inr z)
      simp only [x_rIfS, x_rOrT, x_rTest, x_rO, rv_2, rv_3, x_rC, o_eq, pr_i, dp_i, eqv_int_int, e0, decide_false, o_cmp, e1, if_true, Bool.false_eq_true, if_false, x_rNext]
      exact ⟨trivial, trivial, Or.inl (by decide), hnx _ _ ⟨by omega, by omega, rfl, rfl⟩⟩
  rintro δ' L2 ⟨hd0, h4, rfl, rfl⟩
  obtain ⟨d', rfl⟩ : ∃ d', d = d' + 1 := ⟨d - 1, by omega⟩
  have hdi : ((d' + 1 : Nat) : Int) - 1 = (d' : Int) := by omega
  have hS : Sd (d' + 1) = 2 * Sd d' + 3 := rfl
  -- a sequence
  by_cases e7 : x < 7
  · simp [e7]
    refine tree_i (d := d') rfl (by omega) s1 fun t1 L3 s3 k3 z3 o3 => ?_
    refine tree_i (d := d') rfl (by omega) s3 fun t2 L4 s4 k4 z4 o4 => ?_
    exact h (seq t1 t2) L4 s4 (k1.trans (k3.trans k4)) (by simp only [nd]; omega) (by simp only [ok, o3, o4]; rfl)
  refine seq_to _ _ (fun nx hnx => by simp [e7]; exact hnx) ?_
  by_cases e11 : x < 11
  · simp [e11]
    refine tree_i (d := d') rfl (by omega) s1 fun t1 L3 s3 k3 z3 o3 => ?_
    refine tree_i (d := d') rfl (by omega) s3 fun t2 L4 s4 k4 z4 o4 => ?_
    exact h (cho t1 t2) L4 s4 (k1.trans (k3.trans k4)) (by simp only [nd]; omega) (by simp only [ok, o3, o4]; rfl)
  refine seq_to _ _ (fun nx hnx => by simp [e11]; exact hnx) ?_
  by_cases e12 : x = 11
  · simp [e12]
    obtain ⟨x', y', z', hy', hL'⟩ := s1
    simp [hL']
    intro p hp
    have hpa : p ≠ a := fun z => by subst z; rw [hp] at hL'; cases hL'
    have sp : St3 p (updM L2 p (.lst [.int x', .int y', .int 0])) := ⟨x', y', 0, hy', updM_same⟩
    refine tree_i (d := 0) rfl (by omega) sp fun t0 L3 s3 k3 z3 o3 => ?_
    have ka : L3 a = L2 a := by
      rw [k3 a (fun z => hpa z.symm) (by rw [updM_ne (fun z => hpa z.symm), hL']; simp), updM_ne (fun z => hpa z.symm)]
    have kk : Kp a L2 L3 := fun b hb hn => by
      by_cases e : b = p
      · subst e; exact absurd hp hn
      · rw [k3 b e (by rw [updM_ne e]; exact hn), updM_ne e]
    have s3a : St3 a L3 := ⟨x', y', z', hy', ka.trans hL'⟩
    try simp
    refine tree_i (d := d') rfl (by omega) s3a fun t1 L4 s4 k4 z4 o4 => ?_
    simp
    refine tree_i (d := d') rfl (by omega) s4 fun t2 L5 s5 k5 z5 o5 => ?_
    simp
    have hz : t0.nd ≤ 0 := z3
    exact h (cho (seq t0 t1) (seq t0 t2)) L5 s5 (k1.trans (kk.trans (k4.trans k5))) (by simp only [nd]; omega) (by simp only [ok, o3, o4, o5]; rfl)
  refine seq_to _ _ (fun nx hnx => by simp [e12]; exact hnx) ?_
  by_cases e15 : x < 15
  · simp [e15]
    refine dig_i s1 (by decide) (by decide) fun v L3 s3 k3 g1 g2 => ?_
    refine lt8 (P := fun v => oIx _ (.int v) L3 _) ?_ ?_ ?_ ?_ ?_ ?_ ?_ ?_ g1 g2
    all_goals
      simp
      refine dig_i s3 (by decide) (by decide) fun w L4 s4 k4 g3 g4 => ?_
      simp
      refine tree_i (d := d') rfl (by omega) s4 fun t1 L5 s5 k5 z5 o5 => ?_
      simp
      exact h (rep t1 _ _ _) L5 s5 (k1.trans (k3.trans (k4.trans k5))) (by simp only [nd]; omega) (by simp only [ok, o5])
  refine seq_to _ _ (fun nx hnx => by simp [e15]; exact hnx) ?_
  by_cases e17 : x < 17
  · simp [e17]
    obtain ⟨x', y', z', hy', hL'⟩ := s1
    simp [hL', ixN_2]
    refine tree_i (d := d') rfl (by omega) (⟨x', y', _, hy', updM_same⟩) fun t1 L5 s5 k5 z5 o5 => ?_
    simp
    exact h (grp _ t1) L5 s5 (k1.trans (Kp.upd.trans k5)) (by simp only [nd]; omega) (by simp only [ok, o5])
  refine seq_to _ _ (fun nx hnx => by simp [e17]; exact hnx) ?_
  simp
  refine dig_i s1 (by decide) (by decide) fun w L4 s4 k4 g3 g4 => ?_
  simp
  refine dig_i s4 (by decide) (by decide) fun w2 L5 s5 k5 g5 g6 => ?_
  simp
  refine tree_i (d := d') rfl (by omega) s5 fun t1 L6 s6 k6 z6 o6 => ?_
  simp
  exact h (look _ _ t1) L6 s6 (k1.trans (k4.trans (k5.trans k6))) (by simp only [nd]; omega) (by simp only [ok, o6])
end
end DL

namespace DL
open PySem L2 Tr
def Tr.lks : Tr → Int
  | seq a b => a.lks + b.lks
  | cho a b => a.lks + b.lks
  | rep a _ _ _ => a.lks
  | grp _ a => a.lks
  | look _ _ a => 1 + a.lks
  | _ => 0
theorem most_sz : ∀ (n : Nat) (t : Tr), (Tr.most n t).nd ≤ t.nd
  | 0, t => Nat.le_refl _
  | n + 1, t => by
    rw [Tr.most]
    split
    · exact Nat.le_refl _
    · exact Nat.le_trans (most_sz n _) (simp_sz t)
theorem wid_encP {rs : List (Int × Int)} (h : rs.length ≤ 1000000) : (D.tup (rs.map encP)).wid = true := by
  have e : D.wids (rs.map encP) = true := wid_map (fun x => by simp [encP, D.wid, D.wids]) rs
  simp [D.wid, e, h]
theorem enc_wid : ∀ {t : Tr}, t.ok = true → t.enc.wid = true
  | emp, _ => rfl
  | Tr.set rs, h => by
    have h1 : rs ∈ S12 := by simpa [ok] using h
    have h2 := wid_encP (rs := rs) (by have := S12_len _ h1; omega)
    simp only [D.wid] at h2
    simp only [enc, D.wids, D.wid, h2]
    rfl
  | anc _, _ => rfl
  | seq a b, h => by
    simp only [ok, Bool.and_eq_true] at h
    simp only [enc, D.wid, D.wids, enc_wid h.1, enc_wid h.2]
    rfl
  | cho a b, h => by
    simp only [ok, Bool.and_eq_true] at h
    simp only [enc, D.wid, D.wids, enc_wid h.1, enc_wid h.2]
    rfl
  | rep a lo hi g, h => by
    have e : (encO hi).wid = true := by cases hi <;> rfl
    simp only [enc, D.wid, D.wids, enc_wid (t := a) h, e]
    rfl
  | grp _ a, h => by
    simp only [enc, D.wid, D.wids, enc_wid (t := a) h]
    rfl
  | look _ _ a, h => by
    simp only [enc, D.wid, D.wids, enc_wid (t := a) h]
    rfl
section
variable {L : MH} {q : KD}
def spLks (n : Nat) : SpD := fun ds L q => ∃ t : Tr, ds = [t.enc] ∧ t.nd < n ∧ q (.int t.lks) L
theorem rd_lks {n : Nat} (t : Tr) (ht : t.nd < n + 1) (h : q (.int t.lks) L) : R._law_looks (spLks n) (rE q) [some t.enc] L := by
  unfold R._law_looks
  cases t
  case seq a b =>
    simp only [nd] at ht
    simp [spLks]
    exact ⟨by omega, by omega, h⟩
  case cho a b =>
    simp only [nd] at ht
    simp [spLks]
    exact ⟨by omega, by omega, h⟩
  case rep a _ _ _ =>
    simp only [nd] at ht
    simp [spLks]
    exact ⟨by omega, h⟩
  case grp _ a =>
    simp only [nd] at ht
    simp [spLks]
    exact ⟨by omega, h⟩
  case look _ _ a =>
    simp only [nd] at ht
    simp [spLks]
    exact ⟨by omega, h⟩
  all_goals simpa [Tr.lks] using h
theorem most_ok : ∀ (n : Nat) {t : Tr}, t.ok = true → (Tr.most n t).ok = true
  | 0, t, h => h
  | n + 1, t, h => by
    rw [Tr.most]
    split
    · exact h
    · exact most_ok n (simp_ok h)
theorem same_t {t : Tr} {k : KD} (h1 : t.nd ≤ 45) (h2 : t.ok = true) (h : k (.bl true) L) : spSame 140 [t.enc, t.enc] L k := ⟨t.enc, rfl, enc_pr t, by have := t.enc_dp; omega, enc_wid h2, h⟩
theorem same_i {i : Int} {k : KD} (h : k (.bl true) L) : spSame 140 [.int i, .int i] L k := ⟨.int i, rfl, by simp, by simp, by simp [D.wid], h⟩
theorem rd_law (ns : List Int) (h : ∀ L', q (.bl true) L') : R.law spMost (spSame 140) (spSz 46) (sp1 Tr.simp 46) (spSz 46) (sp1 Tr.simp 46) (spLks 46) spDig (spTree 5) (rE q) [some (.scr ns), none, none, none, none, none] L := by
  unfold R.law
  refine seq_by (fun δ' L' => ∃ p, St3 p L' ∧ δ' = [some (.scr ns), some (.ref p), none, none, none, none]) (fun nx hnx => ?_) ?_
  · simp only [x_rSet, x_rLst, x_rArgs0, x_rArgs1, x_rC]
    intro p hp
    exact hnx _ _ ⟨p, ⟨0, 0, 0, by decide, updM_same⟩, rfl⟩
  rintro δ' L0 ⟨p, s0, rfl⟩
  refine seq_by (fun δ' L' => ∃ t : Tr, t.nd ≤ 45 ∧ t.ok = true ∧ δ' = [some (.scr ns), some (.ref p), some t.enc, none, none, none]) (fun nx hnx => ?_) ?_
  · simp
    refine dig_i s0 (by decide) (by decide) fun w L1 s1 k1 g1 g2 => ?_
    simp only [o_add_i]
    obtain ⟨d, hd⟩ : ∃ d : Nat, w = d := ⟨w.toNat, by omega⟩
    subst hd
    refine tree_i (d := d + 1) (by omega) (by omega) s1 fun t L2 s2 k2 z2 o2 => ?_
    have ht : t.nd ≤ 45 := Nat.le_trans z2 (Nat.le_trans (Sd_mono (by omega : d + 1 ≤ 4)) (by decide))
    exact hnx _ _ ⟨t, ht, o2, rfl⟩
  rintro δ' L2 ⟨t, ht, o2, rfl⟩
  have fin : ∀ u : Tr, u.nd ≤ 45 → u.ok = true → rSeq (rIfS (rOrT (rNotT (rTru (rCall (spSame 140) [(rCall (spSz 46) [(rV 2)]), (rCall (spSz 46) [(rV 2)])]))) (rNotT (rTru (rCall (spSame 140) [(rCall (sp1 Tr.simp 46) [(rV 2)]), (rCall (sp1 Tr.simp 46) [(rV 2)])])))) (rRet (rC (.bl false))) rNext)
      (rSeq (rSet (.nm 3) (rV 2))
      (rSeq (rFor (rRng1 [(rCall (spSz 46) [(rV 2)])]) (.nm 4) (rSeq (rSet (.nm 5) (rCall (sp1 Tr.simp 46) [(rV 3)]))
      (rSeq (rIfS (rTest (rO oEq (rV 5) (rV 3))) rBrk rNext)
      (rSet (.nm 3) (rV 5)))))
      (rRet (rCall (spSame 140) [(rCall spMost [(rV 2)]), (rV 3)])))) (rE q) [some (.scr ns), some (.ref p), some u.enc, none, none, none] L2 := by
    intro u hu ho
    have hs := simp_sz u
    refine seq_to [some (.scr ns), some (.ref p), some u.enc, none, none, none] L2 (fun nx hnx => ?_) ?_
    · simp [spSz]
      refine ⟨by omega, ?_⟩
      refine same_i ?_
      simp [sp1]
      refine ⟨by omega, hu, ho, by omega, hu, ho, same_t (by omega) (simp_ok ho) ?_⟩
      simp
      exact hnx
    refine seq_to _ _ (fun nx hnx => by simp; exact hnx) ?_
    refine seq_by (fun δ' L' => L' = L2 ∧ ∃ o4 o5, δ' = [some (.scr ns), some (.ref p), some u.enc, some (Tr.most u.sz u).enc, o4, o5]) (fun nx hnx => ?_) ?_
    · have hsz := u.sz_nd
      simp [spSz]
      refine ⟨by omega, by omega, ?_⟩
      rw [rangeD_eq]
      refine forD_rest (fun i : Nat => D.int (0 + (i : Nat))) (fun r δ L' => L' = L2 ∧ ∃ v o4 o5, δ = [some (.scr ns), some (.ref p), some u.enc, some (Tr.enc v), o4, o5] ∧ v.nd ≤ 45 ∧ v.ok = true ∧ Tr.most r.length v = Tr.most u.sz u) ?_ (List.range u.sz) _ _ ⟨rfl, u, none, none, rfl, hu, ho, by simp⟩ ?_
      · rintro i r δ L' ⟨rfl, v, o1, o2, rfl, h1, h2, h3⟩
        refine ⟨_, rfl, fun nx' hnx' => ?_⟩
        have hs := simp_sz v
        have dv : v.enc.dp ≤ 140 := by have := v.enc_dp; omega
        simp [sp1, dv]
        refine ⟨by omega, by omega, h2, ?_⟩
        simp only [List.length_cons, Tr.most] at h3
        by_cases e : v.simp = v
        · rw [if_pos e] at h3
          simp [e]
          rw [h3]
          exact hnx _ _ ⟨rfl, _, _, rfl⟩
        · rw [if_neg e] at h3
          simp [e]
          exact hnx' _ _ ⟨rfl, v.simp, _, _, rfl, by omega, simp_ok h2, h3⟩
      · rintro δ L' ⟨rfl, v, o1, o2, rfl, h1, h2, h3⟩
        simp [Tr.most] at h3
        subst h3
        exact hnx _ _ ⟨rfl, _, _, rfl⟩
    · rintro δ' L' ⟨rfl, o4, o5, rfl⟩
      have hm := most_sz u.sz u
      simp [spMost]
      exact ⟨hu, ho, same_t (by omega) (most_ok _ ho) (h _)⟩
  by_cases e : 4 < t.lks
  · refine seq_to [some (.scr ns), some (.ref p), some (Tr.cho (Tr.look false true (Tr.set [])) (Tr.rep (Tr.set [(97, 98)]) 1 (some 1) false)).enc, none, none, none] L2 (fun nx hnx => ?_) (fin _ (by decide) (by decide))
    simp [spLks, e]
    exact ⟨by omega, hnx⟩
  · refine seq_to [some (.scr ns), some (.ref p), some t.enc, none, none, none] L2 (fun nx hnx => ?_) (fin _ ht o2)
    simp [spLks, e]
    exact ⟨by omega, hnx⟩
end
end DL

/-! the top's facts and the derivations, printed by gen.py -/
namespace DL
open PySem PySem.Spec PyProof.Rows L2
def top (i : Nat) : Stmt := PySem.Challenge.pw_firstway_k28_simplified_by_the_rules.main.body.getD i (.Pass ⟨0, 0, 0, 0⟩)
abbrev s_parts : Stmt := top 1
abbrev s_inner_groups : Stmt := top 2
abbrev s_make_set : Stmt := top 4
abbrev s_union : Stmt := top 5
abbrev s_tree_size : Stmt := top 9
abbrev s_bare : Stmt := top 10
abbrev s_join_sequence : Stmt := top 11
abbrev s_alternatives : Stmt := top 12
abbrev s_choice_of : Stmt := top 13
abbrev s_merged : Stmt := top 14
abbrev s_join_choice : Stmt := top 15
abbrev s_simple_repeat : Stmt := top 16
abbrev s_simple_look : Stmt := top 17
abbrev s_simplify : Stmt := top 18
abbrev s_simplest : Stmt := top 19
abbrev s__law_row : Stmt := top 21
abbrev s__law_digit : Stmt := top 22
abbrev s__law_same : Stmt := top 23
abbrev s__law_tree : Stmt := top 24
abbrev s__law_looks : Stmt := top 25
abbrev s__law_parts : Stmt := top 26
abbrev s__law_size : Stmt := top 27
abbrev s__law_bare : Stmt := top 28
abbrev s__law_sequence : Stmt := top 29
abbrev s__law_union : Stmt := top 30
abbrev s__law_choice : Stmt := top 31
abbrev s__law_simple : Stmt := top 32
abbrev s_law : Stmt := top 33
def fa0 : List He.Fa := [.glo "parts", .glo "inner_groups", .glo "make_set", .glo "union", .glo "tree_size", .glo "bare", .glo "join_sequence", .glo "alternatives", .glo "choice_of", .glo "merged", .glo "join_choice", .glo "simple_repeat"]
def fa1 : List He.Fa := [.glo "simple_look", .glo "simplify", .glo "simplest", .glo "_law_row", .glo "_law_digit", .glo "_law_same", .glo "_law_tree", .glo "_law_looks", .glo "_law_parts", .glo "_law_size", .glo "_law_bare", .glo "_law_sequence"]
def fa2 : List He.Fa := [.glo "_law_union", .glo "_law_choice", .glo "_law_simple", .glo "law", .free "sorted", .free "tuple", .free "max", .free "list", .free "sum", .free "range", .free "int", .free "len"]
def fa3 : List He.Fa := [.free "isinstance", .free "str", .free "bool", .free "all", .free "any"]
def fa : List He.Fa := fa0 ++ (fa1 ++ (fa2 ++ (fa3)))
def fn0 : List He.DefD := [⟨("parts", none), "parts", "parts", defArgs s_parts, defBody s_parts, defScope s_parts, [], []⟩, ⟨("inner_groups", none), "inner_groups", "inner_groups", defArgs s_inner_groups, defBody s_inner_groups, defScope s_inner_groups, [], []⟩, ⟨("make_set", none), "make_set", "make_set", defArgs s_make_set, defBody s_make_set, defScope s_make_set, [], []⟩, ⟨("union", none), "union", "union", defArgs s_union, defBody s_union, defScope s_union, [], []⟩, ⟨("tree_size", none), "tree_size", "tree_size", defArgs s_tree_size, defBody s_tree_size, defScope s_tree_size, [], []⟩, ⟨("bare", none), "bare", "bare", defArgs s_bare, defBody s_bare, defScope s_bare, [], []⟩]
def fn1 : List He.DefD := [⟨("join_sequence", none), "join_sequence", "join_sequence", defArgs s_join_sequence, defBody s_join_sequence, defScope s_join_sequence, [], []⟩, ⟨("alternatives", none), "alternatives", "alternatives", defArgs s_alternatives, defBody s_alternatives, defScope s_alternatives, [], []⟩, ⟨("choice_of", none), "choice_of", "choice_of", defArgs s_choice_of, defBody s_choice_of, defScope s_choice_of, [], []⟩, ⟨("merged", none), "merged", "merged", defArgs s_merged, defBody s_merged, defScope s_merged, [], []⟩, ⟨("join_choice", none), "join_choice", "join_choice", defArgs s_join_choice, defBody s_join_choice, defScope s_join_choice, [], []⟩, ⟨("simple_repeat", none), "simple_repeat", "simple_repeat", defArgs s_simple_repeat, defBody s_simple_repeat, defScope s_simple_repeat, [], []⟩]
def fn2 : List He.DefD := [⟨("simple_look", none), "simple_look", "simple_look", defArgs s_simple_look, defBody s_simple_look, defScope s_simple_look, [], []⟩, ⟨("simplify", none), "simplify", "simplify", defArgs s_simplify, defBody s_simplify, defScope s_simplify, [], []⟩, ⟨("simplest", none), "simplest", "simplest", defArgs s_simplest, defBody s_simplest, defScope s_simplest, [], []⟩, ⟨("_law_row", none), "_law_row", "_law_row", defArgs s__law_row, defBody s__law_row, defScope s__law_row, [], []⟩, ⟨("_law_digit", none), "_law_digit", "_law_digit", defArgs s__law_digit, defBody s__law_digit, defScope s__law_digit, [], []⟩, ⟨("_law_same", none), "_law_same", "_law_same", defArgs s__law_same, defBody s__law_same, defScope s__law_same, [], []⟩]
def fn3 : List He.DefD := [⟨("_law_tree", none), "_law_tree", "_law_tree", defArgs s__law_tree, defBody s__law_tree, defScope s__law_tree, [], []⟩, ⟨("_law_looks", none), "_law_looks", "_law_looks", defArgs s__law_looks, defBody s__law_looks, defScope s__law_looks, [], []⟩, ⟨("_law_parts", none), "_law_parts", "_law_parts", defArgs s__law_parts, defBody s__law_parts, defScope s__law_parts, [], []⟩, ⟨("_law_size", none), "_law_size", "_law_size", defArgs s__law_size, defBody s__law_size, defScope s__law_size, [], []⟩, ⟨("_law_bare", none), "_law_bare", "_law_bare", defArgs s__law_bare, defBody s__law_bare, defScope s__law_bare, [], []⟩, ⟨("_law_sequence", none), "_law_sequence", "_law_sequence", defArgs s__law_sequence, defBody s__law_sequence, defScope s__law_sequence, [], []⟩]
def fn4 : List He.DefD := [⟨("_law_union", none), "_law_union", "_law_union", defArgs s__law_union, defBody s__law_union, defScope s__law_union, [], []⟩, ⟨("_law_choice", none), "_law_choice", "_law_choice", defArgs s__law_choice, defBody s__law_choice, defScope s__law_choice, [], []⟩, ⟨("_law_simple", none), "_law_simple", "_law_simple", defArgs s__law_simple, defBody s__law_simple, defScope s__law_simple, [], []⟩, ⟨("law", none), "law", "law", defArgs s_law, defBody s_law, defScope s_law, [], []⟩]
def fn : List He.DefD := fn0 ++ (fn1 ++ (fn2 ++ (fn3 ++ (fn4))))
def cs0 : List (Str × D) := [("NEVER", k_NEVER), ("EMPTY", k_EMPTY)]
def cs : List (Str × D) := cs0
abbrev Top (K : PySem.W.Frag) (mg : Str → Option Value) : Prop := TopIs fa fn cs K mg
section
variable {P : Program} {w : World} {K : PySem.W.Frag} {mg : Str → Option Value} {base : Heap}
theorem fr_sorted (T : Top K mg) : mg "sorted" = none := T.free 28
theorem fr_tuple (T : Top K mg) : mg "tuple" = none := T.free 29
theorem fr_max (T : Top K mg) : mg "max" = none := T.free 30
theorem fr_list (T : Top K mg) : mg "list" = none := T.free 31
theorem fr_sum (T : Top K mg) : mg "sum" = none := T.free 32
theorem fr_range (T : Top K mg) : mg "range" = none := T.free 33
theorem fr_int (T : Top K mg) : mg "int" = none := T.free 34
theorem fr_len (T : Top K mg) : mg "len" = none := T.free 35
theorem fr_isinstance (T : Top K mg) : mg "isinstance" = none := T.free 36
theorem fr_str (T : Top K mg) : mg "str" = none := T.free 37
theorem fr_bool (T : Top K mg) : mg "bool" = none := T.free 38
theorem fr_all (T : Top K mg) : mg "all" = none := T.free 39
theorem fr_any (T : Top K mg) : mg "any" = none := T.free 40
theorem gc_NEVER (T : Top K mg) : GRep K mg "NEVER" k_NEVER := T.con 0
theorem gc_EMPTY (T : Top K mg) : GRep K mg "EMPTY" k_EMPTY := T.con 1
theorem da_parts (T : Top K mg) : DefAt K mg "parts" s_parts ["tree"] := T.defAt 0 0 rfl rfl fun _ _ _ _ _ _ us hl => match us, hl with | [_], _ => rfl
def N_parts : List Str := ["tree"]
theorem sc_parts : FnScope N_parts ["tree"] (defScope s_parts) := ⟨rfl, rfl, rfl, by decide +kernel, rfl, by decide +kernel, by decide +kernel⟩
theorem der_parts {k : Nat} (T : Top K mg) : ∀ (f : Addr) (cdv : Value) (A : Around) (outer : List Env) (s : Shared) (H : Hp) (E : XK), Room k (A.deeper (envOfC "parts" (defScope s_parts) s.heap.objs.size f cdv)) →
    PSs (cxOf CX0 P w K mg base N_parts "parts" (defScope s_parts) f cdv A outer s H E).nox (defBody s_parts) (lS K (R.parts)) := fun f cdv A outer s H E hr => by
  have hu := room_hu hr
  have nd := sc_parts.nd
  exact (s_cons (s_if (tc (c_in hu) (e_ix (v 0) e_int) (e_tup (a_cons e_str (a_cons e_str a_nil)))) (s_one (s_ret (e_fls (a_cons (e_ix (v 0) e_int) (a_cons (e_ix (v 0) e_int) a_nil))))) s_nil)
    (s_cons (s_if (tc (c_eq hu) (e_ix (v 0) e_int) e_str) (s_one (s_ret (e_fls (a_cons (e_ix (v 0) e_int) a_nil)))) s_nil)
    (s_cons (s_if (tc (c_eq hu) (e_ix (v 0) e_int) e_str) (s_one (s_ret (e_fls (a_cons (e_ix (v 0) e_int) a_nil)))) s_nil)
    (s_cons (s_if (tc (c_eq hu) (e_ix (v 0) e_int) e_str) (s_one (s_ret (e_fls (a_cons (e_ix (v 0) e_int) a_nil)))) s_nil)
    (s_one (s_ret (e_fls a_nil)))))))
theorem da_inner_groups (T : Top K mg) : DefAt K mg "inner_groups" s_inner_groups ["tree"] := T.defAt 1 1 rfl rfl fun _ _ _ _ _ _ us hl => match us, hl with | [_], _ => rfl
def N_inner_groups : List Str := ["tree", "numbers", "part"]
theorem sc_inner_groups : FnScope N_inner_groups ["tree"] (defScope s_inner_groups) := ⟨rfl, rfl, rfl, by decide +kernel, rfl, by decide +kernel, by decide +kernel⟩
theorem der_inner_groups {k : Nat} (T : Top K mg) {sp_parts : SpD} (c_parts : CallD P w K mg base k "parts" sp_parts) {sp_inner_groups : SpD} (c_inner_groups : CallD P w K mg base k "inner_groups" sp_inner_groups) : ∀ (f : Addr) (cdv : Value) (A : Around) (outer : List Env) (s : Shared) (H : Hp) (E : XK), Room k (A.deeper (envOfC "inner_groups" (defScope s_inner_groups) s.heap.objs.size f cdv)) →
    PSs (cxOf CX0 P w K mg base N_inner_groups "inner_groups" (defScope s_inner_groups) f cdv A outer s H E).nox (defBody s_inner_groups) (lS K (R.inner_groups sp_parts sp_inner_groups)) := fun f cdv A outer s H E hr => by
  have hu := room_hu hr
  have nd := sc_inner_groups.nd
  exact (s_cons (s_set (i := 1) nd (e_lst a_nil))
    (s_cons (s_if (tc (c_eq hu) (e_ix (v 0) e_int) e_str) (s_one (s_expr (e_bm m_append (v 1) (a_cons (e_ix (v 0) e_int) a_nil)))) s_nil)
    (s_cons (s_for (g := (.nm 2)) (i_seq (e_call c_parts hr (a_cons (v 0) a_nil) (Nat.le_refl _))) (g_nm (i := 2) nd) (s_one (s_expr (e_bm m_extend (v 1) (a_cons (e_call c_inner_groups hr (a_cons (v 2) a_nil) (Nat.le_refl _)) a_nil)))))
    (s_frz (i := 1) (s_one (s_ret (e_blt b_srt (a_cons (v 1) a_nil) (fr_sorted T))))))))
theorem da_make_set (T : Top K mg) : DefAt K mg "make_set" s_make_set ["pairs"] := T.defAt 2 2 rfl rfl fun _ _ _ _ _ _ us hl => match us, hl with | [_], _ => rfl
def N_make_set : List Str := ["pairs", "ranges", "low", "high"]
theorem sc_make_set : FnScope N_make_set ["pairs"] (defScope s_make_set) := ⟨rfl, rfl, rfl, by decide +kernel, rfl, by decide +kernel, by decide +kernel⟩
theorem der_make_set {k : Nat} (T : Top K mg) : ∀ (f : Addr) (cdv : Value) (A : Around) (outer : List Env) (s : Shared) (H : Hp) (E : XK), Room k (A.deeper (envOfC "make_set" (defScope s_make_set) s.heap.objs.size f cdv)) →
    PSs (cxOf CX0 P w K mg base N_make_set "make_set" (defScope s_make_set) f cdv A outer s H E).nox (defBody s_make_set) (lS K (R.make_set)) := fun f cdv A outer s H E hr => by
  have hu := room_hu hr
  have nd := sc_make_set.nd
  exact (s_cons (s_set (i := 1) nd (e_lst a_nil))
    (s_cons (s_for (g := (.tp [2, 3])) (i_seq (e_blt b_srt (a_cons (v 0) a_nil) (fr_sorted T))) (g_tp (g_cons (i := 2) nd (g_cons (i := 3) nd g_nil))) (s_cons (s_if (tc c_ge (v 2) (v 3)) (s_one s_continue) s_nil)
    (s_one (s_if (PW.pt (t_and (t_tru (v 1)) (t_and1 (tc c_le (v 2) (e_ix (e_ix (v 1) (e_neg e_int)) e_int))))) (s_one (s_store (e_tup (a_cons (e_ix (e_ix (v 1) (e_neg e_int)) e_int) (a_cons (e_blt b_max (a_cons (e_ix (e_ix (v 1) (e_neg e_int)) e_int) (a_cons (v 3) a_nil)) (fr_max T)) a_nil))) (v 1) (e_neg e_int))) (s_one (s_expr (e_bm m_append (v 1) (a_cons (e_tup (a_cons (v 2) (a_cons (v 3) a_nil))) a_nil))))))))
    (s_frz (i := 1) (s_one (s_ret (e_bty b_tup (a_cons (v 1) a_nil) (fr_tuple T)))))))
theorem da_union (T : Top K mg) : DefAt K mg "union" s_union ["a", "b"] := T.defAt 3 3 rfl rfl fun _ _ _ _ _ _ us hl => match us, hl with | [_, _], _ => rfl
def N_union : List Str := ["a", "b"]
theorem sc_union : FnScope N_union ["a", "b"] (defScope s_union) := ⟨rfl, rfl, rfl, by decide +kernel, rfl, by decide +kernel, by decide +kernel⟩
theorem der_union {k : Nat} (T : Top K mg) {sp_make_set : SpD} (c_make_set : CallD P w K mg base k "make_set" sp_make_set) : ∀ (f : Addr) (cdv : Value) (A : Around) (outer : List Env) (s : Shared) (H : Hp) (E : XK), Room k (A.deeper (envOfC "union" (defScope s_union) s.heap.objs.size f cdv)) →
    PSs (cxOf CX0 P w K mg base N_union "union" (defScope s_union) f cdv A outer s H E).nox (defBody s_union) (lS K (R.union sp_make_set)) := fun f cdv A outer s H E hr => by
  have hu := room_hu hr
  have nd := sc_union.nd
  exact (s_one (s_ret (e_call c_make_set hr (a_cons (e_add (e_bty b_fls (a_cons (v 0) a_nil) (fr_list T)) (e_bty b_fls (a_cons (v 1) a_nil) (fr_list T))) a_nil) (Nat.le_refl _))))
theorem da_tree_size (T : Top K mg) : DefAt K mg "tree_size" s_tree_size ["tree"] := T.defAt 4 4 rfl rfl fun _ _ _ _ _ _ us hl => match us, hl with | [_], _ => rfl
def N_tree_size : List Str := ["tree", "part"]
theorem sc_tree_size : FnScope N_tree_size ["tree"] (defScope s_tree_size) := ⟨rfl, rfl, rfl, by decide +kernel, rfl, by decide +kernel, by decide +kernel⟩
theorem der_tree_size {k : Nat} (T : Top K mg) {sp_parts : SpD} (c_parts : CallD P w K mg base k "parts" sp_parts) {sp_tree_size : SpD} (c_tree_size : CallD P w K mg base k "tree_size" sp_tree_size) : ∀ (f : Addr) (cdv : Value) (A : Around) (outer : List Env) (s : Shared) (H : Hp) (E : XK), Room k (A.deeper (envOfC "tree_size" (defScope s_tree_size) s.heap.objs.size f cdv)) →
    PSs (cxOf CX0 P w K mg base N_tree_size "tree_size" (defScope s_tree_size) f cdv A outer s H E).nox (defBody s_tree_size) (lS K (R.tree_size sp_parts sp_tree_size)) := fun f cdv A outer s H E hr => by
  have hu := room_hu hr
  have nd := sc_tree_size.nd
  exact (s_one (s_ret (e_add e_int (e_blt b_sum (a_cons (e_lc (own := [("part", 1)]) nd (i_seq (e_call c_parts hr (a_cons (v 0) a_nil) (Nat.le_refl _))) (blkOk_by (N := N_tree_size) (sc := defScope s_tree_size) (by decide +kernel)) rfl (fun _ _ _ _ _ => (g_nm (i := 1) nd)) (fun _ _ _ _ _ => p_nil) (fun _ _ _ _ _ => (e_call c_tree_size hr (a_cons (v 1) a_nil) (Nat.le_refl _)))) a_nil) (fr_sum T)))))
theorem da_bare (T : Top K mg) : DefAt K mg "bare" s_bare ["tree"] := T.defAt 5 5 rfl rfl fun _ _ _ _ _ _ us hl => match us, hl with | [_], _ => rfl
def N_bare : List Str := ["tree"]
theorem sc_bare : FnScope N_bare ["tree"] (defScope s_bare) := ⟨rfl, rfl, rfl, by decide +kernel, rfl, by decide +kernel, by decide +kernel⟩
theorem der_bare {k : Nat} (T : Top K mg) {sp_inner_groups : SpD} (c_inner_groups : CallD P w K mg base k "inner_groups" sp_inner_groups) : ∀ (f : Addr) (cdv : Value) (A : Around) (outer : List Env) (s : Shared) (H : Hp) (E : XK), Room k (A.deeper (envOfC "bare" (defScope s_bare) s.heap.objs.size f cdv)) →
    PSs (cxOf CX0 P w K mg base N_bare "bare" (defScope s_bare) f cdv A outer s H E).nox (defBody s_bare) (lS K (R.bare sp_inner_groups)) := fun f cdv A outer s H E hr => by
  have hu := room_hu hr
  have nd := sc_bare.nd
  exact (s_one (s_ret (e_not (e_call c_inner_groups hr (a_cons (v 0) a_nil) (Nat.le_refl _)))))
theorem da_join_sequence (T : Top K mg) : DefAt K mg "join_sequence" s_join_sequence ["a", "b"] := T.defAt 6 6 rfl rfl fun _ _ _ _ _ _ us hl => match us, hl with | [_, _], _ => rfl
def N_join_sequence : List Str := ["a", "b"]
theorem sc_join_sequence : FnScope N_join_sequence ["a", "b"] (defScope s_join_sequence) := ⟨rfl, rfl, rfl, by decide +kernel, rfl, by decide +kernel, by decide +kernel⟩
theorem der_join_sequence {k : Nat} (T : Top K mg) {sp_bare : SpD} (c_bare : CallD P w K mg base k "bare" sp_bare) {sp_join_sequence : SpD} (c_join_sequence : CallD P w K mg base k "join_sequence" sp_join_sequence) : ∀ (f : Addr) (cdv : Value) (A : Around) (outer : List Env) (s : Shared) (H : Hp) (E : XK), Room k (A.deeper (envOfC "join_sequence" (defScope s_join_sequence) s.heap.objs.size f cdv)) →
    PSs (cxOf CX0 P w K mg base N_join_sequence "join_sequence" (defScope s_join_sequence) f cdv A outer s H E).nox (defBody s_join_sequence) (lS K (R.join_sequence sp_bare sp_join_sequence)) := fun f cdv A outer s H E hr => by
  have hu := room_hu hr
  have nd := sc_join_sequence.nd
  exact (s_cons (s_if (tc (c_eq hu) (e_ix (v 0) e_int) e_str) (s_one (s_ret (e_call c_join_sequence hr (a_cons (e_ix (v 0) e_int) (a_cons (e_call c_join_sequence hr (a_cons (e_ix (v 0) e_int) (a_cons (v 1) a_nil)) (Nat.le_refl _)) a_nil)) (Nat.le_refl _)))) s_nil)
    (s_cons (s_if (tc (c_eq hu) (v 0) (e_glob (gc_EMPTY T))) (s_one (s_ret (v 1))) s_nil)
    (s_cons (s_if (tc (c_eq hu) (v 1) (e_glob (gc_EMPTY T))) (s_one (s_ret (v 0))) s_nil)
    (s_cons (s_if (PW.pt (t_or (PW.pt (t_and (tc (c_eq hu) (v 0) (e_glob (gc_NEVER T))) (t_and1 (t_tru (e_call c_bare hr (a_cons (v 1) a_nil) (Nat.le_refl _)))))) (t_or1 (PW.pt (t_and (tc (c_eq hu) (v 1) (e_glob (gc_NEVER T))) (t_and1 (t_tru (e_call c_bare hr (a_cons (v 0) a_nil) (Nat.le_refl _))))))))) (s_one (s_ret (e_glob (gc_NEVER T)))) s_nil)
    (s_one (s_ret (e_tup (a_cons e_str (a_cons (v 0) (a_cons (v 1) a_nil))))))))))
theorem da_alternatives (T : Top K mg) : DefAt K mg "alternatives" s_alternatives ["tree"] := T.defAt 7 7 rfl rfl fun _ _ _ _ _ _ us hl => match us, hl with | [_], _ => rfl
def N_alternatives : List Str := ["tree", "found"]
theorem sc_alternatives : FnScope N_alternatives ["tree"] (defScope s_alternatives) := ⟨rfl, rfl, rfl, by decide +kernel, rfl, by decide +kernel, by decide +kernel⟩
theorem der_alternatives {k : Nat} (T : Top K mg) : ∀ (f : Addr) (cdv : Value) (A : Around) (outer : List Env) (s : Shared) (H : Hp) (E : XK), Room k (A.deeper (envOfC "alternatives" (defScope s_alternatives) s.heap.objs.size f cdv)) →
    PSs (cxOf CX0 P w K mg base N_alternatives "alternatives" (defScope s_alternatives) f cdv A outer s H E).nox (defBody s_alternatives) (lS K (R.alternatives)) := fun f cdv A outer s H E hr => by
  have hu := room_hu hr
  have nd := sc_alternatives.nd
  exact (s_cons (s_set (i := 1) nd (e_lst a_nil))
    (s_cons (s_while (tc (c_eq hu) (e_ix (v 0) e_int) e_str) (s_cons (s_expr (e_bm m_append (v 1) (a_cons (e_ix (v 0) e_int) a_nil)))
    (s_one (s_set (i := 0) nd (e_ix (v 0) e_int)))))
    (s_cons (s_expr (e_bm m_append (v 1) (a_cons (v 0) a_nil)))
    (s_frz (i := 1) (s_one (s_ret (v 1)))))))
theorem da_choice_of (T : Top K mg) : DefAt K mg "choice_of" s_choice_of ["trees"] := T.defAt 8 8 rfl rfl fun _ _ _ _ _ _ us hl => match us, hl with | [_], _ => rfl
def N_choice_of : List Str := ["trees", "tree", "part"]
theorem sc_choice_of : FnScope N_choice_of ["trees"] (defScope s_choice_of) := ⟨rfl, rfl, rfl, by decide +kernel, rfl, by decide +kernel, by decide +kernel⟩
theorem der_choice_of {k : Nat} (T : Top K mg) : ∀ (f : Addr) (cdv : Value) (A : Around) (outer : List Env) (s : Shared) (H : Hp) (E : XK), Room k (A.deeper (envOfC "choice_of" (defScope s_choice_of) s.heap.objs.size f cdv)) →
    PSs (cxOf CX0 P w K mg base N_choice_of "choice_of" (defScope s_choice_of) f cdv A outer s H E).nox (defBody s_choice_of) (lS K (R.choice_of)) := fun f cdv A outer s H E hr => by
  have hu := room_hu hr
  have nd := sc_choice_of.nd
  exact (s_cons (s_set (i := 1) nd (e_ix (v 0) (e_neg e_int)))
    (s_cons (s_for (g := (.nm 2)) (i_seq (e_rev (e_sl (v 0) o_none (o_some (e_neg e_int))))) (g_nm (i := 2) nd) (s_one (s_set (i := 1) nd (e_tup (a_cons e_str (a_cons (v 2) (a_cons (v 1) a_nil)))))))
    (s_one (s_ret (v 1)))))
theorem da_merged (T : Top K mg) : DefAt K mg "merged" s_merged ["a", "b"] := T.defAt 9 9 rfl rfl fun _ _ _ _ _ _ us hl => match us, hl with | [_, _], _ => rfl
def N_merged : List Str := ["a", "b"]
theorem sc_merged : FnScope N_merged ["a", "b"] (defScope s_merged) := ⟨rfl, rfl, rfl, by decide +kernel, rfl, by decide +kernel, by decide +kernel⟩
theorem der_merged {k : Nat} (T : Top K mg) {sp_union : SpD} (c_union : CallD P w K mg base k "union" sp_union) : ∀ (f : Addr) (cdv : Value) (A : Around) (outer : List Env) (s : Shared) (H : Hp) (E : XK), Room k (A.deeper (envOfC "merged" (defScope s_merged) s.heap.objs.size f cdv)) →
    PSs (cxOf CX0 P w K mg base N_merged "merged" (defScope s_merged) f cdv A outer s H E).nox (defBody s_merged) (lS K (R.merged sp_union)) := fun f cdv A outer s H E hr => by
  have hu := room_hu hr
  have nd := sc_merged.nd
  exact (s_cons (s_if (PW.pt (t_and (tc (c_eq hu) (e_ix (v 0) e_int) e_str) (t_and1 (tc (c_eq hu) (e_ix (v 1) e_int) e_str)))) (s_one (s_ret (e_tup (a_cons e_str (a_cons (e_call c_union hr (a_cons (e_ix (v 0) e_int) (a_cons (e_ix (v 1) e_int) a_nil)) (Nat.le_refl _)) a_nil))))) s_nil)
    (s_cons (s_if (PW.pt (t_and (tc (c_eq hu) (e_ix (v 0) e_int) e_str) (t_and (tc (c_eq hu) (e_ix (v 1) e_int) e_str) (t_and (tc (c_eq hu) (e_ix (v 0) e_int) (e_ix (v 1) e_int)) (t_and1 (tc (c_in hu) (e_ix (e_ix (v 0) e_int) e_int) (e_tup (a_cons e_str (a_cons e_str a_nil))))))))) (s_one (s_ret (e_tup (a_cons e_str (a_cons (e_ix (v 0) e_int) (a_cons (e_tup (a_cons e_str (a_cons (e_ix (v 0) e_int) (a_cons (e_ix (v 1) e_int) a_nil)))) a_nil)))))) s_nil)
    (s_one (s_ret e_non))))
theorem da_join_choice (T : Top K mg) : DefAt K mg "join_choice" s_join_choice ["a", "b"] := T.defAt 10 10 rfl rfl fun _ _ _ _ _ _ us hl => match us, hl with | [_, _], _ => rfl
def N_join_choice : List Str := ["a", "b", "others", "both", "other"]
theorem sc_join_choice : FnScope N_join_choice ["a", "b"] (defScope s_join_choice) := ⟨rfl, rfl, rfl, by decide +kernel, rfl, by decide +kernel, by decide +kernel⟩
theorem der_join_choice {k : Nat} (T : Top K mg) {sp_choice_of : SpD} (c_choice_of : CallD P w K mg base k "choice_of" sp_choice_of) {sp_bare : SpD} (c_bare : CallD P w K mg base k "bare" sp_bare) {sp_merged : SpD} (c_merged : CallD P w K mg base k "merged" sp_merged) {sp_alternatives : SpD} (c_alternatives : CallD P w K mg base k "alternatives" sp_alternatives) {sp_join_choice : SpD} (c_join_choice : CallD P w K mg base k "join_choice" sp_join_choice) : ∀ (f : Addr) (cdv : Value) (A : Around) (outer : List Env) (s : Shared) (H : Hp) (E : XK), Room k (A.deeper (envOfC "join_choice" (defScope s_join_choice) s.heap.objs.size f cdv)) →
    PSs (cxOf CX0 P w K mg base N_join_choice "join_choice" (defScope s_join_choice) f cdv A outer s H E).nox (defBody s_join_choice) (lS K (R.join_choice sp_choice_of sp_bare sp_merged sp_alternatives sp_join_choice)) := fun f cdv A outer s H E hr => by
  have hu := room_hu hr
  have nd := sc_join_choice.nd
  exact (s_cons (s_if (tc (c_eq hu) (e_ix (v 0) e_int) e_str) (s_one (s_ret (e_call c_join_choice hr (a_cons (e_ix (v 0) e_int) (a_cons (e_call c_join_choice hr (a_cons (e_ix (v 0) e_int) (a_cons (v 1) a_nil)) (Nat.le_refl _)) a_nil)) (Nat.le_refl _)))) s_nil)
    (s_cons (s_if (tc (c_eq hu) (v 0) (e_glob (gc_NEVER T))) (s_one (s_ret (v 1))) s_nil)
    (s_cons (s_if (tc (c_eq hu) (v 1) (e_glob (gc_NEVER T))) (s_one (s_ret (v 0))) s_nil)
    (s_cons (s_set (i := 2) nd (e_call c_alternatives hr (a_cons (v 1) a_nil) (Nat.le_refl _)))
    (s_cons (s_set (i := 3) nd (e_call c_merged hr (a_cons (v 0) (a_cons (e_ix (v 2) e_int) a_nil)) (Nat.le_refl _)))
    (s_cons (s_if (tc c_isnot (v 3) e_non) (s_one (s_ret (e_call c_choice_of hr (a_cons (e_add (e_fls (a_cons (v 3) a_nil)) (e_sl (v 2) (o_some e_int) o_none)) a_nil) (Nat.le_refl _)))) s_nil)
    (s_cons (s_if (t_tru (e_call c_bare hr (a_cons (v 0) a_nil) (Nat.le_refl _))) (s_one (s_lc (i := 2) (own := [("other", 4)]) nd (i_seq (v 2)) (blkOk_by (N := N_join_choice) (sc := defScope s_join_choice) (by decide +kernel)) rfl (fun _ _ _ _ _ => (g_nm (i := 4) nd)) (fun _ _ _ _ _ => (p_one (tc (c_ne hu) (v 4) (v 0)))) (fun _ _ _ _ _ => (v 4)) (sw_true rfl rfl rfl (by decide +kernel)))) s_nil)
    (s_one (s_ret (e_call c_choice_of hr (a_cons (e_add (e_fls (a_cons (v 0) a_nil)) (v 2)) a_nil) (Nat.le_refl _)))))))))))
theorem da_simple_repeat (T : Top K mg) : DefAt K mg "simple_repeat" s_simple_repeat ["inner", "tree"] := T.defAt 11 11 rfl rfl fun _ _ _ _ _ _ us hl => match us, hl with | [_, _], _ => rfl
def N_simple_repeat : List Str := ["inner", "tree", "least", "most", "greedy"]
theorem sc_simple_repeat : FnScope N_simple_repeat ["inner", "tree"] (defScope s_simple_repeat) := ⟨rfl, rfl, rfl, by decide +kernel, rfl, by decide +kernel, by decide +kernel⟩
theorem der_simple_repeat {k : Nat} (T : Top K mg) {sp_bare : SpD} (c_bare : CallD P w K mg base k "bare" sp_bare) : ∀ (f : Addr) (cdv : Value) (A : Around) (outer : List Env) (s : Shared) (H : Hp) (E : XK), Room k (A.deeper (envOfC "simple_repeat" (defScope s_simple_repeat) s.heap.objs.size f cdv)) →
    PSs (cxOf CX0 P w K mg base N_simple_repeat "simple_repeat" (defScope s_simple_repeat) f cdv A outer s H E).nox (defBody s_simple_repeat) (lS K (R.simple_repeat sp_bare)) := fun f cdv A outer s H E hr => by
  have hu := room_hu hr
  have nd := sc_simple_repeat.nd
  exact (s_cons (s_par3 (i := 2) (j := 3) (l := 4) nd (a_cons (e_ix (v 1) e_int) (a_cons (e_ix (v 1) e_int) (a_cons (e_ix (v 1) e_int) a_nil))))
    (s_cons (s_if (PW.pt (t_or (tc (c_eq hu) (v 0) (e_glob (gc_EMPTY T))) (t_or1 (PW.pt (t_and (tc (c_eq hu) (v 0) (e_glob (gc_NEVER T))) (t_and1 (tc (c_eq hu) (v 2) e_int))))))) (s_one (s_ret (e_glob (gc_EMPTY T)))) s_nil)
    (s_cons (s_if (tc (c_eq hu) (v 0) (e_glob (gc_NEVER T))) (s_one (s_ret (e_glob (gc_NEVER T)))) s_nil)
    (s_cons (s_if (t_tru (e_call c_bare hr (a_cons (v 0) a_nil) (Nat.le_refl _))) (s_cons (s_if (tc (c_eq hu) (v 3) e_int) (s_one (s_ret (e_glob (gc_EMPTY T)))) s_nil)
    (s_cons (s_if (PW.pt (t_and (tc (c_eq hu) (v 2) e_int) (t_and1 (tc (c_eq hu) (v 3) e_int)))) (s_one (s_ret (v 0))) s_nil)
    (s_one (s_if (PW.pt (t_and (tc (c_eq hu) (e_ix (v 0) e_int) e_str) (t_and (tc (c_eq hu) (v 2) e_int) (t_and (tc c_is (v 3) e_non) (t_and1 (tc (c_eq hu) (e_sl (v 0) (o_some e_int) o_none) (e_tup (a_cons e_int (a_cons e_non (a_cons (v 4) a_nil)))))))))) (s_one (s_ret (v 0))) s_nil)))) s_nil)
    (s_one (s_ret (e_tup (a_cons e_str (a_cons (v 0) (a_cons (v 2) (a_cons (v 3) (a_cons (v 4) a_nil))))))))))))
theorem da_simple_look (T : Top K mg) : DefAt K mg "simple_look" s_simple_look ["inner", "tree"] := T.defAt 12 12 rfl rfl fun _ _ _ _ _ _ us hl => match us, hl with | [_, _], _ => rfl
def N_simple_look : List Str := ["inner", "tree"]
theorem sc_simple_look : FnScope N_simple_look ["inner", "tree"] (defScope s_simple_look) := ⟨rfl, rfl, rfl, by decide +kernel, rfl, by decide +kernel, by decide +kernel⟩
theorem der_simple_look {k : Nat} (T : Top K mg) : ∀ (f : Addr) (cdv : Value) (A : Around) (outer : List Env) (s : Shared) (H : Hp) (E : XK), Room k (A.deeper (envOfC "simple_look" (defScope s_simple_look) s.heap.objs.size f cdv)) →
    PSs (cxOf CX0 P w K mg base N_simple_look "simple_look" (defScope s_simple_look) f cdv A outer s H E).nox (defBody s_simple_look) (lS K (R.simple_look)) := fun f cdv A outer s H E hr => by
  have hu := room_hu hr
  have nd := sc_simple_look.nd
  exact (s_cons (s_if (tc (c_eq hu) (v 0) (e_glob (gc_EMPTY T))) (s_one (s_ret (e_if (t_tru (e_ix (v 1) e_int)) (e_glob (gc_EMPTY T)) (e_glob (gc_NEVER T))))) s_nil)
    (s_cons (s_if (tc (c_eq hu) (v 0) (e_glob (gc_NEVER T))) (s_one (s_ret (e_if (t_tru (e_ix (v 1) e_int)) (e_glob (gc_NEVER T)) (e_glob (gc_EMPTY T))))) s_nil)
    (s_one (s_ret (e_tup (a_cons e_str (a_cons (e_ix (v 1) e_int) (a_cons (e_ix (v 1) e_int) (a_cons (v 0) a_nil)))))))))
theorem da_simplify (T : Top K mg) : DefAt K mg "simplify" s_simplify ["tree"] := T.defAt 13 13 rfl rfl fun _ _ _ _ _ _ us hl => match us, hl with | [_], _ => rfl
def N_simplify : List Str := ["tree", "kind"]
theorem sc_simplify : FnScope N_simplify ["tree"] (defScope s_simplify) := ⟨rfl, rfl, rfl, by decide +kernel, rfl, by decide +kernel, by decide +kernel⟩
theorem der_simplify {k : Nat} (T : Top K mg) {sp_simplify : SpD} (c_simplify : CallD P w K mg base k "simplify" sp_simplify) {sp_simple_look : SpD} (c_simple_look : CallD P w K mg base k "simple_look" sp_simple_look) {sp_simple_repeat : SpD} (c_simple_repeat : CallD P w K mg base k "simple_repeat" sp_simple_repeat) {sp_join_choice : SpD} (c_join_choice : CallD P w K mg base k "join_choice" sp_join_choice) {sp_join_sequence : SpD} (c_join_sequence : CallD P w K mg base k "join_sequence" sp_join_sequence) : ∀ (f : Addr) (cdv : Value) (A : Around) (outer : List Env) (s : Shared) (H : Hp) (E : XK), Room k (A.deeper (envOfC "simplify" (defScope s_simplify) s.heap.objs.size f cdv)) →
    PSs (cxOf CX0 P w K mg base N_simplify "simplify" (defScope s_simplify) f cdv A outer s H E).nox (defBody s_simplify) (lS K (R.simplify sp_simplify sp_simple_look sp_simple_repeat sp_join_choice sp_join_sequence)) := fun f cdv A outer s H E hr => by
  have hu := room_hu hr
  have nd := sc_simplify.nd
  exact (s_cons (s_set (i := 1) nd (e_ix (v 0) e_int))
    (s_cons (s_if (tc (c_eq hu) (v 1) e_str) (s_one (s_ret (e_call c_join_sequence hr (a_cons (e_call c_simplify hr (a_cons (e_ix (v 0) e_int) a_nil) (Nat.le_refl _)) (a_cons (e_call c_simplify hr (a_cons (e_ix (v 0) e_int) a_nil) (Nat.le_refl _)) a_nil)) (Nat.le_refl _)))) s_nil)
    (s_cons (s_if (tc (c_eq hu) (v 1) e_str) (s_one (s_ret (e_call c_join_choice hr (a_cons (e_call c_simplify hr (a_cons (e_ix (v 0) e_int) a_nil) (Nat.le_refl _)) (a_cons (e_call c_simplify hr (a_cons (e_ix (v 0) e_int) a_nil) (Nat.le_refl _)) a_nil)) (Nat.le_refl _)))) s_nil)
    (s_cons (s_if (tc (c_eq hu) (v 1) e_str) (s_one (s_ret (e_call c_simple_repeat hr (a_cons (e_call c_simplify hr (a_cons (e_ix (v 0) e_int) a_nil) (Nat.le_refl _)) (a_cons (v 0) a_nil)) (Nat.le_refl _)))) s_nil)
    (s_cons (s_if (tc (c_eq hu) (v 1) e_str) (s_one (s_ret (e_tup (a_cons e_str (a_cons (e_ix (v 0) e_int) (a_cons (e_call c_simplify hr (a_cons (e_ix (v 0) e_int) a_nil) (Nat.le_refl _)) a_nil)))))) s_nil)
    (s_cons (s_if (tc (c_eq hu) (v 1) e_str) (s_one (s_ret (e_call c_simple_look hr (a_cons (e_call c_simplify hr (a_cons (e_ix (v 0) e_int) a_nil) (Nat.le_refl _)) (a_cons (v 0) a_nil)) (Nat.le_refl _)))) s_nil)
    (s_one (s_ret (v 0)))))))))
theorem da_simplest (T : Top K mg) : DefAt K mg "simplest" s_simplest ["tree"] := T.defAt 14 14 rfl rfl fun _ _ _ _ _ _ us hl => match us, hl with | [_], _ => rfl
def N_simplest : List Str := ["tree", "_", "simpler"]
theorem sc_simplest : FnScope N_simplest ["tree"] (defScope s_simplest) := ⟨rfl, rfl, rfl, by decide +kernel, rfl, by decide +kernel, by decide +kernel⟩
theorem der_simplest {k : Nat} (T : Top K mg) {sp_tree_size : SpD} (c_tree_size : CallD P w K mg base k "tree_size" sp_tree_size) {sp_simplify : SpD} (c_simplify : CallD P w K mg base k "simplify" sp_simplify) : ∀ (f : Addr) (cdv : Value) (A : Around) (outer : List Env) (s : Shared) (H : Hp) (E : XK), Room k (A.deeper (envOfC "simplest" (defScope s_simplest) s.heap.objs.size f cdv)) →
    PSs (cxOf CX0 P w K mg base N_simplest "simplest" (defScope s_simplest) f cdv A outer s H E).nox (defBody s_simplest) (lS K (R.simplest sp_tree_size sp_simplify)) := fun f cdv A outer s H E hr => by
  have hu := room_hu hr
  have nd := sc_simplest.nd
  exact (s_cons (s_for (g := (.nm 1)) (i_rng1 (a_cons (e_call c_tree_size hr (a_cons (v 0) a_nil) (Nat.le_refl _)) a_nil) (fr_range T)) (g_nm (i := 1) nd) (s_cons (s_set (i := 2) nd (e_call c_simplify hr (a_cons (v 0) a_nil) (Nat.le_refl _)))
    (s_cons (s_if (tc (c_eq hu) (v 2) (v 0)) (s_one s_break) s_nil)
    (s_one (s_set (i := 0) nd (v 2))))))
    (s_one (s_ret (v 0))))
theorem da__law_row (T : Top K mg) : DefAt K mg "_law_row" s__law_row ["_law_script", "_law_k"] := T.defAt 15 15 rfl rfl fun _ _ _ _ _ _ us hl => match us, hl with | [_, _], _ => rfl
def N__law_row : List Str := ["_law_script", "_law_k", "_law_cell", "_law_mixed"]
theorem sc__law_row : FnScope N__law_row ["_law_script", "_law_k"] (defScope s__law_row) := ⟨rfl, rfl, rfl, by decide +kernel, rfl, by decide +kernel, by decide +kernel⟩
theorem der__law_row {k : Nat} (T : Top K mg) : ∀ (f : Addr) (cdv : Value) (A : Around) (outer : List Env) (s : Shared) (H : Hp) (E : XK), Room k (A.deeper (envOfC "_law_row" (defScope s__law_row) s.heap.objs.size f cdv)) →
    PSs (cxOf CX0 P w K mg base N__law_row "_law_row" (defScope s__law_row) f cdv A outer s H E).nox (defBody s__law_row) (lS K (R._law_row)) := fun f cdv A outer s H E hr => by
  have hu := room_hu hr
  have nd := sc__law_row.nd
  exact (s_cons (s_set (i := 2) nd e_int)
    (s_cons (s_if (tc c_lt (v 1) (e_blt b_len (a_cons (v 0) a_nil) (fr_len T))) (s_one (s_set (i := 2) nd (e_ix (v 0) (v 1)))) s_nil)
    (s_cons (s_if (tc c_lt (v 2) e_int) (s_one (s_set (i := 2) nd (e_sub e_int (e_mul e_int (v 2))))) s_nil)
    (s_cons (s_if (tc c_ge (v 2) (e_pow e_int e_int)) (s_one (s_ret (v 2))) s_nil)
    (s_cons (s_set (i := 3) nd (e_mod (e_bty b_int (a_cons (e_add (e_mul (e_add (e_add (v 2) (e_mul e_int (v 1))) e_int) e_int) e_int) a_nil) (fr_int T)) e_int))
    (s_one (s_ret (e_mod (e_bty b_int (a_cons (e_add (e_add (e_mul (v 3) (v 3)) (e_mul e_int (v 1))) e_int) a_nil) (fr_int T)) e_int))))))))
theorem da__law_digit (T : Top K mg) : DefAt K mg "_law_digit" s__law_digit ["_law_script", "_law_state", "_law_many"] := T.defAt 16 16 rfl rfl fun _ _ _ _ _ _ us hl => match us, hl with | [_, _, _], _ => rfl
def N__law_digit : List Str := ["_law_script", "_law_state", "_law_many", "_law_digit_here"]
theorem sc__law_digit : FnScope N__law_digit ["_law_script", "_law_state", "_law_many"] (defScope s__law_digit) := ⟨rfl, rfl, rfl, by decide +kernel, rfl, by decide +kernel, by decide +kernel⟩
theorem der__law_digit {k : Nat} (T : Top K mg) {sp__law_row : SpD} (c__law_row : CallD P w K mg base k "_law_row" sp__law_row) : ∀ (f : Addr) (cdv : Value) (A : Around) (outer : List Env) (s : Shared) (H : Hp) (E : XK), Room k (A.deeper (envOfC "_law_digit" (defScope s__law_digit) s.heap.objs.size f cdv)) →
    PSs (cxOf CX0 P w K mg base N__law_digit "_law_digit" (defScope s__law_digit) f cdv A outer s H E).nox (defBody s__law_digit) (lS K (R._law_digit sp__law_row)) := fun f cdv A outer s H E hr => by
  have hu := room_hu hr
  have nd := sc__law_digit.nd
  exact (s_cons (s_if (tc (c_eq hu) (e_ix (v 1) e_int) e_int) (s_cons (s_store (e_call c__law_row hr (a_cons (v 0) (a_cons (e_ix (v 1) e_int) a_nil)) (Nat.le_refl _)) (v 1) e_int)
    (s_one (s_store (e_add (e_ix (v 1) e_int) e_int) (v 1) e_int))) s_nil)
    (s_cons (s_set (i := 3) nd (e_mod (e_bty b_int (a_cons (e_ix (v 1) e_int) a_nil) (fr_int T)) (v 2)))
    (s_cons (s_store (e_fdiv (e_ix (v 1) e_int) (v 2)) (v 1) e_int)
    (s_one (s_ret (v 3))))))
theorem da__law_same (T : Top K mg) : DefAt K mg "_law_same" s__law_same ["_law_actual", "_law_expected"] := T.defAt 17 17 rfl rfl fun _ _ _ _ _ _ us hl => match us, hl with | [_, _], _ => rfl
def N__law_same : List Str := ["_law_actual", "_law_expected", "_law_k"]
theorem sc__law_same : FnScope N__law_same ["_law_actual", "_law_expected"] (defScope s__law_same) := ⟨rfl, rfl, rfl, by decide +kernel, rfl, by decide +kernel, by decide +kernel⟩
theorem der__law_same {k : Nat} (T : Top K mg) {sp__law_same : SpD} (c__law_same : CallD P w K mg base k "_law_same" sp__law_same) : ∀ (f : Addr) (cdv : Value) (A : Around) (outer : List Env) (s : Shared) (H : Hp) (E : XK), Room k (A.deeper (envOfC "_law_same" (defScope s__law_same) s.heap.objs.size f cdv)) →
    PSs (cxOf CX0 P w K mg base N__law_same "_law_same" (defScope s__law_same) f cdv A outer s H E).nox (defBody s__law_same) (lS K (R._law_same sp__law_same)) := fun f cdv A outer s H E hr => by
  have hu := room_hu hr
  have nd := sc__law_same.nd
  exact (s_cons (s_if (tc c_is (v 1) e_non) (s_one (s_ret (ec c_is (v 0) e_non))) s_nil)
    (s_cons (s_if (t_tru (e_blt b_isi (a_cons (v 1) (a_cons (e_type (fr_bool T)) a_nil)) (fr_isinstance T))) (s_one (s_ret (e_and (e_blt b_isi (a_cons (v 0) (a_cons (e_type (fr_bool T)) a_nil)) (fr_isinstance T)) (e_one (ec (c_eq hu) (v 0) (v 1)))))) s_nil)
    (s_cons (s_if (t_tru (e_blt b_isi (a_cons (v 1) (a_cons (e_type (fr_int T)) a_nil)) (fr_isinstance T))) (s_one (s_ret (e_and (e_blt b_isi (a_cons (v 0) (a_cons (e_type (fr_int T)) a_nil)) (fr_isinstance T)) (e_and (e_not (e_blt b_isi (a_cons (v 0) (a_cons (e_type (fr_bool T)) a_nil)) (fr_isinstance T))) (e_one (ec (c_eq hu) (v 0) (v 1))))))) s_nil)
    (s_cons (s_if (t_tru (e_blt b_isi (a_cons (v 1) (a_cons (e_type (fr_str T)) a_nil)) (fr_isinstance T))) (s_one (s_ret (e_and (e_blt b_isi (a_cons (v 0) (a_cons (e_type (fr_str T)) a_nil)) (fr_isinstance T)) (e_one (ec (c_eq hu) (v 0) (v 1)))))) s_nil)
    (s_cons (s_if (PW.pt (t_and (t_tru (e_blt b_isi (a_cons (v 1) (a_cons (e_type (fr_tuple T)) a_nil)) (fr_isinstance T))) (t_and1 (t_not (t_tru (e_blt b_isi (a_cons (v 0) (a_cons (e_type (fr_tuple T)) a_nil)) (fr_isinstance T))))))) (s_one (s_ret e_bl)) s_nil)
    (s_cons (s_if (PW.pt (t_and (t_tru (e_blt b_isi (a_cons (v 1) (a_cons (e_type (fr_list T)) a_nil)) (fr_isinstance T))) (t_and1 (t_not (t_tru (e_blt b_isi (a_cons (v 0) (a_cons (e_type (fr_list T)) a_nil)) (fr_isinstance T))))))) (s_one (s_ret e_bl)) s_nil)
    (s_cons (s_if (tc (c_ne hu) (e_blt b_len (a_cons (v 0) a_nil) (fr_len T)) (e_blt b_len (a_cons (v 1) a_nil) (fr_len T))) (s_one (s_ret e_bl)) s_nil)
    (s_cons (s_for (g := (.nm 2)) (i_rng1 (a_cons (e_blt b_len (a_cons (v 1) a_nil) (fr_len T)) a_nil) (fr_range T)) (g_nm (i := 2) nd) (s_one (s_if (t_not (t_tru (e_call c__law_same hr (a_cons (e_ix (v 0) (v 2)) (a_cons (e_ix (v 1) (v 2)) a_nil)) (Nat.le_refl _)))) (s_one (s_ret e_bl)) s_nil)))
    (s_one (s_ret e_bl))))))))))
theorem da__law_tree (T : Top K mg) : DefAt K mg "_law_tree" s__law_tree ["_law_script", "_law_state", "_law_depth"] := T.defAt 18 18 rfl rfl fun _ _ _ _ _ _ us hl => match us, hl with | [_, _, _], _ => rfl
def N__law_tree : List Str := ["_law_script", "_law_state", "_law_depth", "_law_kind", "_law_leaves", "_law_both", "_law_first", "_law_pairs", "_law_pair", "_law_greedy", "_law_ahead"]
theorem sc__law_tree : FnScope N__law_tree ["_law_script", "_law_state", "_law_depth"] (defScope s__law_tree) := ⟨rfl, rfl, rfl, by decide +kernel, rfl, by decide +kernel, by decide +kernel⟩
theorem der__law_tree {k : Nat} (T : Top K mg) {sp__law_digit : SpD} (c__law_digit : CallD P w K mg base k "_law_digit" sp__law_digit) {sp__law_tree : SpD} (c__law_tree : CallD P w K mg base k "_law_tree" sp__law_tree) : ∀ (f : Addr) (cdv : Value) (A : Around) (outer : List Env) (s : Shared) (H : Hp) (E : XK), Room k (A.deeper (envOfC "_law_tree" (defScope s__law_tree) s.heap.objs.size f cdv)) →
    PSs (cxOf CX0 P w K mg base N__law_tree "_law_tree" (defScope s__law_tree) f cdv A outer s H E).nox (defBody s__law_tree) (lS K (R._law_tree sp__law_digit sp__law_tree)) := fun f cdv A outer s H E hr => by
  have hu := room_hu hr
  have nd := sc__law_tree.nd
  exact (s_cons (s_set (i := 3) nd (e_call c__law_digit hr (a_cons (v 0) (a_cons (v 1) (a_cons e_int a_nil))) (Nat.le_refl _)))
    (s_cons (s_if (PW.pt (t_or (tc (c_eq hu) (v 2) e_int) (t_or1 (tc c_lt (v 3) e_int)))) (s_cons (s_set (i := 4) nd (e_fls (a_cons (e_tup (a_cons e_str a_nil)) (a_cons (e_tup (a_cons e_str (a_cons (e_tup a_nil) a_nil))) (a_cons (e_tup (a_cons e_str (a_cons (e_tup (a_cons (e_tup (a_cons e_int (a_cons e_int a_nil))) a_nil)) a_nil))) (a_cons (e_tup (a_cons e_str (a_cons (e_tup (a_cons (e_tup (a_cons e_int (a_cons e_int a_nil))) a_nil)) a_nil))) (a_cons (e_tup (a_cons e_str (a_cons (e_tup (a_cons (e_tup (a_cons e_int (a_cons e_int a_nil))) (a_cons (e_tup (a_cons e_int (a_cons e_int a_nil))) a_nil))) a_nil))) a_nil)))))))
    (s_cons (s_set (i := 4) nd (e_add (v 4) (e_fls (a_cons (e_tup (a_cons e_str (a_cons e_str a_nil))) (a_cons (e_tup (a_cons e_str (a_cons e_str a_nil))) (a_cons (e_tup (a_cons e_str (a_cons (e_tup (a_cons (e_tup (a_cons e_int (a_cons e_int a_nil))) a_nil)) a_nil))) a_nil))))))
    (s_one (s_ret (e_ix (v 4) (e_call c__law_digit hr (a_cons (v 0) (a_cons (v 1) (a_cons e_int a_nil))) (Nat.le_refl _))))))) s_nil)
    (s_cons (s_if (tc c_lt (v 3) e_int) (s_one (s_ret (e_tup (a_cons e_str (a_cons (e_call c__law_tree hr (a_cons (v 0) (a_cons (v 1) (a_cons (e_sub (v 2) e_int) a_nil))) (Nat.le_refl _)) (a_cons (e_call c__law_tree hr (a_cons (v 0) (a_cons (v 1) (a_cons (e_sub (v 2) e_int) a_nil))) (Nat.le_refl _)) a_nil)))))) s_nil)
    (s_cons (s_if (tc c_lt (v 3) e_int) (s_one (s_ret (e_tup (a_cons e_str (a_cons (e_call c__law_tree hr (a_cons (v 0) (a_cons (v 1) (a_cons (e_sub (v 2) e_int) a_nil))) (Nat.le_refl _)) (a_cons (e_call c__law_tree hr (a_cons (v 0) (a_cons (v 1) (a_cons (e_sub (v 2) e_int) a_nil))) (Nat.le_refl _)) a_nil)))))) s_nil)
    (s_cons (s_if (tc (c_eq hu) (v 3) e_int) (s_cons (s_set (i := 5) nd (e_call c__law_tree hr (a_cons (v 0) (a_cons (e_lst (a_cons (e_ix (v 1) e_int) (a_cons (e_ix (v 1) e_int) (a_cons e_int a_nil)))) (a_cons e_int a_nil))) (Nat.le_refl _)))
    (s_cons (s_set (i := 6) nd (e_tup (a_cons e_str (a_cons (v 5) (a_cons (e_call c__law_tree hr (a_cons (v 0) (a_cons (v 1) (a_cons (e_sub (v 2) e_int) a_nil))) (Nat.le_refl _)) a_nil)))))
    (s_one (s_ret (e_tup (a_cons e_str (a_cons (v 6) (a_cons (e_tup (a_cons e_str (a_cons (v 5) (a_cons (e_call c__law_tree hr (a_cons (v 0) (a_cons (v 1) (a_cons (e_sub (v 2) e_int) a_nil))) (Nat.le_refl _)) a_nil)))) a_nil)))))))) s_nil)
    (s_cons (s_if (tc c_lt (v 3) e_int) (s_cons (s_set (i := 7) nd (e_fls (a_cons (e_tup (a_cons e_int (a_cons e_non a_nil))) (a_cons (e_tup (a_cons e_int (a_cons e_int a_nil))) (a_cons (e_tup (a_cons e_int (a_cons e_int a_nil))) (a_cons (e_tup (a_cons e_int (a_cons e_int a_nil))) (a_cons (e_tup (a_cons e_int (a_cons e_non a_nil))) (a_cons (e_tup (a_cons e_int (a_cons e_non a_nil))) (a_cons (e_tup (a_cons e_int (a_cons e_non a_nil))) (a_cons (e_tup (a_cons e_int (a_cons e_int a_nil))) a_nil))))))))))
    (s_cons (s_set (i := 8) nd (e_ix (v 7) (e_call c__law_digit hr (a_cons (v 0) (a_cons (v 1) (a_cons e_int a_nil))) (Nat.le_refl _))))
    (s_cons (s_set (i := 9) nd (ec (c_eq hu) (e_call c__law_digit hr (a_cons (v 0) (a_cons (v 1) (a_cons e_int a_nil))) (Nat.le_refl _)) e_int))
    (s_one (s_ret (e_tup (a_cons e_str (a_cons (e_call c__law_tree hr (a_cons (v 0) (a_cons (v 1) (a_cons (e_sub (v 2) e_int) a_nil))) (Nat.le_refl _)) (a_cons (e_ix (v 8) e_int) (a_cons (e_ix (v 8) e_int) (a_cons (v 9) a_nil))))))))))) s_nil)
    (s_cons (s_if (tc c_lt (v 3) e_int) (s_cons (s_store (e_add (e_ix (v 1) e_int) e_int) (v 1) e_int)
    (s_one (s_ret (e_tup (a_cons e_str (a_cons (e_sub (e_ix (v 1) e_int) e_int) (a_cons (e_call c__law_tree hr (a_cons (v 0) (a_cons (v 1) (a_cons (e_sub (v 2) e_int) a_nil))) (Nat.le_refl _)) a_nil))))))) s_nil)
    (s_cons (s_set (i := 10) nd (ec (c_eq hu) (e_call c__law_digit hr (a_cons (v 0) (a_cons (v 1) (a_cons e_int a_nil))) (Nat.le_refl _)) e_int))
    (s_one (s_ret (e_tup (a_cons e_str (a_cons (v 10) (a_cons (ec (c_eq hu) (e_call c__law_digit hr (a_cons (v 0) (a_cons (v 1) (a_cons e_int a_nil))) (Nat.le_refl _)) e_int) (a_cons (e_call c__law_tree hr (a_cons (v 0) (a_cons (v 1) (a_cons (e_sub (v 2) e_int) a_nil))) (Nat.le_refl _)) a_nil)))))))))))))))
theorem da__law_looks (T : Top K mg) : DefAt K mg "_law_looks" s__law_looks ["_law_tree_here"] := T.defAt 19 19 rfl rfl fun _ _ _ _ _ _ us hl => match us, hl with | [_], _ => rfl
def N__law_looks : List Str := ["_law_tree_here"]
theorem sc__law_looks : FnScope N__law_looks ["_law_tree_here"] (defScope s__law_looks) := ⟨rfl, rfl, rfl, by decide +kernel, rfl, by decide +kernel, by decide +kernel⟩
theorem der__law_looks {k : Nat} (T : Top K mg) {sp__law_looks : SpD} (c__law_looks : CallD P w K mg base k "_law_looks" sp__law_looks) : ∀ (f : Addr) (cdv : Value) (A : Around) (outer : List Env) (s : Shared) (H : Hp) (E : XK), Room k (A.deeper (envOfC "_law_looks" (defScope s__law_looks) s.heap.objs.size f cdv)) →
    PSs (cxOf CX0 P w K mg base N__law_looks "_law_looks" (defScope s__law_looks) f cdv A outer s H E).nox (defBody s__law_looks) (lS K (R._law_looks sp__law_looks)) := fun f cdv A outer s H E hr => by
  have hu := room_hu hr
  have nd := sc__law_looks.nd
  exact (s_cons (s_if (PW.pt (t_or (tc (c_eq hu) (e_ix (v 0) e_int) e_str) (t_or1 (tc (c_eq hu) (e_ix (v 0) e_int) e_str)))) (s_one (s_ret (e_add (e_call c__law_looks hr (a_cons (e_ix (v 0) e_int) a_nil) (Nat.le_refl _)) (e_call c__law_looks hr (a_cons (e_ix (v 0) e_int) a_nil) (Nat.le_refl _))))) s_nil)
    (s_cons (s_if (tc (c_eq hu) (e_ix (v 0) e_int) e_str) (s_one (s_ret (e_call c__law_looks hr (a_cons (e_ix (v 0) e_int) a_nil) (Nat.le_refl _)))) s_nil)
    (s_cons (s_if (tc (c_eq hu) (e_ix (v 0) e_int) e_str) (s_one (s_ret (e_call c__law_looks hr (a_cons (e_ix (v 0) e_int) a_nil) (Nat.le_refl _)))) s_nil)
    (s_one (s_ret (e_if (tc (c_eq hu) (e_ix (v 0) e_int) e_str) (e_add e_int (e_call c__law_looks hr (a_cons (e_ix (v 0) e_int) a_nil) (Nat.le_refl _))) e_int))))))
theorem da__law_parts (T : Top K mg) : DefAt K mg "_law_parts" s__law_parts ["_law_tree_here"] := T.defAt 20 20 rfl rfl fun _ _ _ _ _ _ us hl => match us, hl with | [_], _ => rfl
def N__law_parts : List Str := ["_law_tree_here"]
theorem sc__law_parts : FnScope N__law_parts ["_law_tree_here"] (defScope s__law_parts) := ⟨rfl, rfl, rfl, by decide +kernel, rfl, by decide +kernel, by decide +kernel⟩
theorem der__law_parts {k : Nat} (T : Top K mg) : ∀ (f : Addr) (cdv : Value) (A : Around) (outer : List Env) (s : Shared) (H : Hp) (E : XK), Room k (A.deeper (envOfC "_law_parts" (defScope s__law_parts) s.heap.objs.size f cdv)) →
    PSs (cxOf CX0 P w K mg base N__law_parts "_law_parts" (defScope s__law_parts) f cdv A outer s H E).nox (defBody s__law_parts) (lS K (R._law_parts)) := fun f cdv A outer s H E hr => by
  have hu := room_hu hr
  have nd := sc__law_parts.nd
  exact (s_cons (s_if (PW.pt (t_or (tc (c_eq hu) (e_ix (v 0) e_int) e_str) (t_or1 (tc (c_eq hu) (e_ix (v 0) e_int) e_str)))) (s_one (s_ret (e_fls (a_cons (e_ix (v 0) e_int) (a_cons (e_ix (v 0) e_int) a_nil))))) s_nil)
    (s_cons (s_if (tc (c_eq hu) (e_ix (v 0) e_int) e_str) (s_one (s_ret (e_fls (a_cons (e_ix (v 0) e_int) a_nil)))) s_nil)
    (s_cons (s_if (tc (c_eq hu) (e_ix (v 0) e_int) e_str) (s_one (s_ret (e_fls (a_cons (e_ix (v 0) e_int) a_nil)))) s_nil)
    (s_one (s_ret (e_if (tc (c_eq hu) (e_ix (v 0) e_int) e_str) (e_fls (a_cons (e_ix (v 0) e_int) a_nil)) (e_fls a_nil)))))))
theorem da__law_size (T : Top K mg) : DefAt K mg "_law_size" s__law_size ["_law_tree_here"] := T.defAt 21 21 rfl rfl fun _ _ _ _ _ _ us hl => match us, hl with | [_], _ => rfl
def N__law_size : List Str := ["_law_tree_here", "_law_part"]
theorem sc__law_size : FnScope N__law_size ["_law_tree_here"] (defScope s__law_size) := ⟨rfl, rfl, rfl, by decide +kernel, rfl, by decide +kernel, by decide +kernel⟩
theorem der__law_size {k : Nat} (T : Top K mg) {sp__law_parts : SpD} (c__law_parts : CallD P w K mg base k "_law_parts" sp__law_parts) {sp__law_size : SpD} (c__law_size : CallD P w K mg base k "_law_size" sp__law_size) : ∀ (f : Addr) (cdv : Value) (A : Around) (outer : List Env) (s : Shared) (H : Hp) (E : XK), Room k (A.deeper (envOfC "_law_size" (defScope s__law_size) s.heap.objs.size f cdv)) →
    PSs (cxOf CX0 P w K mg base N__law_size "_law_size" (defScope s__law_size) f cdv A outer s H E).nox (defBody s__law_size) (lS K (R._law_size sp__law_parts sp__law_size)) := fun f cdv A outer s H E hr => by
  have hu := room_hu hr
  have nd := sc__law_size.nd
  exact (s_one (s_ret (e_add e_int (e_blt b_sum (a_cons (e_lc (own := [("_law_part", 1)]) nd (i_seq (e_call c__law_parts hr (a_cons (v 0) a_nil) (Nat.le_refl _))) (blkOk_by (N := N__law_size) (sc := defScope s__law_size) (by decide +kernel)) rfl (fun _ _ _ _ _ => (g_nm (i := 1) nd)) (fun _ _ _ _ _ => p_nil) (fun _ _ _ _ _ => (e_call c__law_size hr (a_cons (v 1) a_nil) (Nat.le_refl _)))) a_nil) (fr_sum T)))))
theorem da__law_bare (T : Top K mg) : DefAt K mg "_law_bare" s__law_bare ["_law_tree_here"] := T.defAt 22 22 rfl rfl fun _ _ _ _ _ _ us hl => match us, hl with | [_], _ => rfl
def N__law_bare : List Str := ["_law_tree_here", "_law_part"]
theorem sc__law_bare : FnScope N__law_bare ["_law_tree_here"] (defScope s__law_bare) := ⟨rfl, rfl, rfl, by decide +kernel, rfl, by decide +kernel, by decide +kernel⟩
theorem der__law_bare {k : Nat} (T : Top K mg) {sp__law_parts : SpD} (c__law_parts : CallD P w K mg base k "_law_parts" sp__law_parts) {sp__law_bare : SpD} (c__law_bare : CallD P w K mg base k "_law_bare" sp__law_bare) : ∀ (f : Addr) (cdv : Value) (A : Around) (outer : List Env) (s : Shared) (H : Hp) (E : XK), Room k (A.deeper (envOfC "_law_bare" (defScope s__law_bare) s.heap.objs.size f cdv)) →
    PSs (cxOf CX0 P w K mg base N__law_bare "_law_bare" (defScope s__law_bare) f cdv A outer s H E).nox (defBody s__law_bare) (lS K (R._law_bare sp__law_parts sp__law_bare)) := fun f cdv A outer s H E hr => by
  have hu := room_hu hr
  have nd := sc__law_bare.nd
  exact (s_one (s_ret (e_and (ec (c_ne hu) (e_ix (v 0) e_int) e_str) (e_one (e_blt b_all (a_cons (e_lc (own := [("_law_part", 1)]) nd (i_seq (e_call c__law_parts hr (a_cons (v 0) a_nil) (Nat.le_refl _))) (blkOk_by (N := N__law_bare) (sc := defScope s__law_bare) (by decide +kernel)) rfl (fun _ _ _ _ _ => (g_nm (i := 1) nd)) (fun _ _ _ _ _ => p_nil) (fun _ _ _ _ _ => (e_call c__law_bare hr (a_cons (v 1) a_nil) (Nat.le_refl _)))) a_nil) (fr_all T))))))
theorem da__law_sequence (T : Top K mg) : DefAt K mg "_law_sequence" s__law_sequence ["_law_a", "_law_b"] := T.defAt 23 23 rfl rfl fun _ _ _ _ _ _ us hl => match us, hl with | [_, _], _ => rfl
def N__law_sequence : List Str := ["_law_a", "_law_b", "_law_never"]
theorem sc__law_sequence : FnScope N__law_sequence ["_law_a", "_law_b"] (defScope s__law_sequence) := ⟨rfl, rfl, rfl, by decide +kernel, rfl, by decide +kernel, by decide +kernel⟩
theorem der__law_sequence {k : Nat} (T : Top K mg) {sp__law_bare : SpD} (c__law_bare : CallD P w K mg base k "_law_bare" sp__law_bare) {sp__law_sequence : SpD} (c__law_sequence : CallD P w K mg base k "_law_sequence" sp__law_sequence) : ∀ (f : Addr) (cdv : Value) (A : Around) (outer : List Env) (s : Shared) (H : Hp) (E : XK), Room k (A.deeper (envOfC "_law_sequence" (defScope s__law_sequence) s.heap.objs.size f cdv)) →
    PSs (cxOf CX0 P w K mg base N__law_sequence "_law_sequence" (defScope s__law_sequence) f cdv A outer s H E).nox (defBody s__law_sequence) (lS K (R._law_sequence sp__law_bare sp__law_sequence)) := fun f cdv A outer s H E hr => by
  have hu := room_hu hr
  have nd := sc__law_sequence.nd
  exact (s_cons (s_set (i := 2) nd (e_tup (a_cons e_str (a_cons (e_tup a_nil) a_nil))))
    (s_cons (s_if (tc (c_eq hu) (e_ix (v 0) e_int) e_str) (s_one (s_ret (e_call c__law_sequence hr (a_cons (e_ix (v 0) e_int) (a_cons (e_call c__law_sequence hr (a_cons (e_ix (v 0) e_int) (a_cons (v 1) a_nil)) (Nat.le_refl _)) a_nil)) (Nat.le_refl _)))) s_nil)
    (s_cons (s_if (tc (c_eq hu) (v 0) (e_tup (a_cons e_str a_nil))) (s_one (s_ret (v 1))) s_nil)
    (s_cons (s_if (tc (c_eq hu) (v 1) (e_tup (a_cons e_str a_nil))) (s_one (s_ret (v 0))) s_nil)
    (s_cons (s_if (PW.pt (t_or (PW.pt (t_and (tc (c_eq hu) (v 0) (v 2)) (t_and1 (t_tru (e_call c__law_bare hr (a_cons (v 1) a_nil) (Nat.le_refl _)))))) (t_or1 (PW.pt (t_and (tc (c_eq hu) (v 1) (v 2)) (t_and1 (t_tru (e_call c__law_bare hr (a_cons (v 0) a_nil) (Nat.le_refl _))))))))) (s_one (s_ret (v 2))) s_nil)
    (s_one (s_ret (e_tup (a_cons e_str (a_cons (v 0) (a_cons (v 1) a_nil)))))))))))
theorem da__law_union (T : Top K mg) : DefAt K mg "_law_union" s__law_union ["_law_a", "_law_b"] := T.defAt 24 24 rfl rfl fun _ _ _ _ _ _ us hl => match us, hl with | [_, _], _ => rfl
def N__law_union : List Str := ["_law_a", "_law_b", "_law_found", "_law_code", "_law_inside", "_law_pair"]
theorem sc__law_union : FnScope N__law_union ["_law_a", "_law_b"] (defScope s__law_union) := ⟨rfl, rfl, rfl, by decide +kernel, rfl, by decide +kernel, by decide +kernel⟩
theorem der__law_union {k : Nat} (T : Top K mg) : ∀ (f : Addr) (cdv : Value) (A : Around) (outer : List Env) (s : Shared) (H : Hp) (E : XK), Room k (A.deeper (envOfC "_law_union" (defScope s__law_union) s.heap.objs.size f cdv)) →
    PSs (cxOf CX0 P w K mg base N__law_union "_law_union" (defScope s__law_union) f cdv A outer s H E).nox (defBody s__law_union) (lS K (R._law_union)) := fun f cdv A outer s H E hr => by
  have hu := room_hu hr
  have nd := sc__law_union.nd
  exact (s_cons (s_set (i := 2) nd (e_lst a_nil))
    (s_cons (s_for (g := (.nm 3)) (i_rng1 (a_cons e_int a_nil) (fr_range T)) (g_nm (i := 3) nd) (s_cons (s_set (i := 4) nd (e_blt b_any (a_cons (e_lc (own := [("_law_pair", 5)]) nd (i_seq (e_add (e_ix (v 0) e_int) (e_ix (v 1) e_int))) (blkOk_by (N := N__law_union) (sc := defScope s__law_union) (by decide +kernel)) rfl (fun _ _ _ _ _ => (g_nm (i := 5) nd)) (fun _ _ _ _ _ => p_nil) (fun _ _ _ _ _ => (e_and (ec c_le (e_ix (v 5) e_int) (v 3)) (e_one (ec c_lt (v 3) (e_ix (v 5) e_int)))))) a_nil) (fr_any T)))
    (s_one (s_if (PW.pt (t_and (t_tru (v 4)) (t_and (tc c_gt (e_blt b_len (a_cons (v 2) a_nil) (fr_len T)) e_int) (t_and1 (tc (c_eq hu) (e_ix (e_ix (v 2) (e_neg e_int)) e_int) (v 3)))))) (s_one (s_store (e_tup (a_cons (e_ix (e_ix (v 2) (e_neg e_int)) e_int) (a_cons (e_add (v 3) e_int) a_nil))) (v 2) (e_neg e_int))) (s_one (s_if (t_tru (v 4)) (s_one (s_expr (e_bm m_append (v 2) (a_cons (e_tup (a_cons (v 3) (a_cons (e_add (v 3) e_int) a_nil))) a_nil)))) s_nil))))))
    (s_frz (i := 2) (s_one (s_ret (e_tup (a_cons e_str (a_cons (e_bty b_tup (a_cons (v 2) a_nil) (fr_tuple T)) a_nil))))))))
theorem da__law_choice (T : Top K mg) : DefAt K mg "_law_choice" s__law_choice ["_law_a", "_law_b"] := T.defAt 25 25 rfl rfl fun _ _ _ _ _ _ us hl => match us, hl with | [_, _], _ => rfl
def N__law_choice : List Str := ["_law_a", "_law_b", "_law_first", "_law_both", "_law_row_here", "_law_tree_here", "_law_k"]
theorem sc__law_choice : FnScope N__law_choice ["_law_a", "_law_b"] (defScope s__law_choice) := ⟨rfl, rfl, rfl, by decide +kernel, rfl, by decide +kernel, by decide +kernel⟩
theorem der__law_choice {k : Nat} (T : Top K mg) {sp__law_bare : SpD} (c__law_bare : CallD P w K mg base k "_law_bare" sp__law_bare) {sp__law_union : SpD} (c__law_union : CallD P w K mg base k "_law_union" sp__law_union) {sp__law_choice : SpD} (c__law_choice : CallD P w K mg base k "_law_choice" sp__law_choice) : ∀ (f : Addr) (cdv : Value) (A : Around) (outer : List Env) (s : Shared) (H : Hp) (E : XK), Room k (A.deeper (envOfC "_law_choice" (defScope s__law_choice) s.heap.objs.size f cdv)) →
    PSs (cxOf CX0 P w K mg base N__law_choice "_law_choice" (defScope s__law_choice) f cdv A outer s H E).nox (defBody s__law_choice) (lS K (R._law_choice sp__law_bare sp__law_union sp__law_choice)) := fun f cdv A outer s H E hr => by
  have hu := room_hu hr
  have nd := sc__law_choice.nd
  exact (s_cons (s_if (tc (c_eq hu) (e_ix (v 0) e_int) e_str) (s_one (s_ret (e_call c__law_choice hr (a_cons (e_ix (v 0) e_int) (a_cons (e_call c__law_choice hr (a_cons (e_ix (v 0) e_int) (a_cons (v 1) a_nil)) (Nat.le_refl _)) a_nil)) (Nat.le_refl _)))) s_nil)
    (s_cons (s_if (tc (c_eq hu) (v 0) (e_tup (a_cons e_str (a_cons (e_tup a_nil) a_nil)))) (s_one (s_ret (v 1))) s_nil)
    (s_cons (s_if (tc (c_eq hu) (v 1) (e_tup (a_cons e_str (a_cons (e_tup a_nil) a_nil)))) (s_one (s_ret (v 0))) s_nil)
    (s_cons (s_set (i := 2) nd (v 1))
    (s_cons (s_if (tc (c_eq hu) (e_ix (v 1) e_int) e_str) (s_one (s_set (i := 2) nd (e_ix (v 1) e_int))) s_nil)
    (s_cons (s_set (i := 3) nd e_non)
    (s_cons (s_if (PW.pt (t_and (tc (c_eq hu) (e_ix (v 0) e_int) e_str) (t_and1 (tc (c_eq hu) (e_ix (v 2) e_int) e_str)))) (s_one (s_set (i := 3) nd (e_call c__law_union hr (a_cons (v 0) (a_cons (v 2) a_nil)) (Nat.le_refl _)))) s_nil)
    (s_cons (s_if (PW.pt (t_and (tc (c_eq hu) (e_ix (v 0) e_int) e_str) (t_and (tc (c_eq hu) (e_ix (v 2) e_int) e_str) (t_and (tc (c_eq hu) (e_ix (v 0) e_int) (e_ix (v 2) e_int)) (t_and1 (tc (c_in hu) (e_ix (e_ix (v 0) e_int) e_int) (e_fls (a_cons e_str (a_cons e_str a_nil))))))))) (s_one (s_set (i := 3) nd (e_tup (a_cons e_str (a_cons (e_ix (v 0) e_int) (a_cons (e_tup (a_cons e_str (a_cons (e_ix (v 0) e_int) (a_cons (e_ix (v 2) e_int) a_nil)))) a_nil)))))) s_nil)
    (s_cons (s_if (tc c_isnot (v 3) e_non) (s_one (s_ret (e_if (tc (c_eq hu) (e_ix (v 1) e_int) e_str) (e_tup (a_cons e_str (a_cons (v 3) (a_cons (e_ix (v 1) e_int) a_nil)))) (v 3)))) s_nil)
    (s_cons (s_set (i := 4) nd (e_lst a_nil))
    (s_cons (s_while (PW.pt (t_and (tc (c_eq hu) (e_ix (v 1) e_int) e_str) (t_and1 (tc c_lt (e_blt b_len (a_cons (v 4) a_nil) (fr_len T)) e_int)))) (s_cons (s_expr (e_bm m_append (v 4) (a_cons (e_ix (v 1) e_int) a_nil)))
    (s_one (s_set (i := 1) nd (e_ix (v 1) e_int)))))
    (s_cons (s_expr (e_bm m_append (v 4) (a_cons (v 1) a_nil)))
    (s_frz (i := 4) (s_cons (s_if (t_tru (e_call c__law_bare hr (a_cons (v 0) a_nil) (Nat.le_refl _))) (s_one (s_lc (i := 4) (own := [("_law_tree_here", 5)]) nd (i_seq (v 4)) (blkOk_by (N := N__law_choice) (sc := defScope s__law_choice) (by decide +kernel)) rfl (fun _ _ _ _ _ => (g_nm (i := 5) nd)) (fun _ _ _ _ _ => (p_one (tc (c_ne hu) (v 5) (v 0)))) (fun _ _ _ _ _ => (v 5)) (sw_true rfl rfl rfl (by decide +kernel)))) s_nil)
    (s_cons (s_set (i := 4) nd (e_add (e_fls (a_cons (v 0) a_nil)) (v 4)))
    (s_cons (s_set (i := 5) nd (e_ix (v 4) (e_neg e_int)))
    (s_cons (s_for (g := (.nm 6)) (i_rng1 (a_cons (e_sub (e_blt b_len (a_cons (v 4) a_nil) (fr_len T)) e_int) a_nil) (fr_range T)) (g_nm (i := 6) nd) (s_one (s_set (i := 5) nd (e_tup (a_cons e_str (a_cons (e_ix (v 4) (e_sub (e_sub (e_blt b_len (a_cons (v 4) a_nil) (fr_len T)) e_int) (v 6))) (a_cons (v 5) a_nil)))))))
    (s_one (s_ret (v 5))))))))))))))))))))
theorem da__law_simple (T : Top K mg) : DefAt K mg "_law_simple" s__law_simple ["_law_tree_here"] := T.defAt 26 26 rfl rfl fun _ _ _ _ _ _ us hl => match us, hl with | [_], _ => rfl
def N__law_simple : List Str := ["_law_tree_here", "_law_inner", "_law_same_here"]
theorem sc__law_simple : FnScope N__law_simple ["_law_tree_here"] (defScope s__law_simple) := ⟨rfl, rfl, rfl, by decide +kernel, rfl, by decide +kernel, by decide +kernel⟩
theorem der__law_simple {k : Nat} (T : Top K mg) {sp__law_bare : SpD} (c__law_bare : CallD P w K mg base k "_law_bare" sp__law_bare) {sp__law_simple : SpD} (c__law_simple : CallD P w K mg base k "_law_simple" sp__law_simple) {sp__law_choice : SpD} (c__law_choice : CallD P w K mg base k "_law_choice" sp__law_choice) {sp__law_sequence : SpD} (c__law_sequence : CallD P w K mg base k "_law_sequence" sp__law_sequence) : ∀ (f : Addr) (cdv : Value) (A : Around) (outer : List Env) (s : Shared) (H : Hp) (E : XK), Room k (A.deeper (envOfC "_law_simple" (defScope s__law_simple) s.heap.objs.size f cdv)) →
    PSs (cxOf CX0 P w K mg base N__law_simple "_law_simple" (defScope s__law_simple) f cdv A outer s H E).nox (defBody s__law_simple) (lS K (R._law_simple sp__law_bare sp__law_simple sp__law_choice sp__law_sequence)) := fun f cdv A outer s H E hr => by
  have hu := room_hu hr
  have nd := sc__law_simple.nd
  exact (s_cons (s_if (tc (c_eq hu) (e_ix (v 0) e_int) e_str) (s_one (s_ret (e_call c__law_sequence hr (a_cons (e_call c__law_simple hr (a_cons (e_ix (v 0) e_int) a_nil) (Nat.le_refl _)) (a_cons (e_call c__law_simple hr (a_cons (e_ix (v 0) e_int) a_nil) (Nat.le_refl _)) a_nil)) (Nat.le_refl _)))) s_nil)
    (s_cons (s_if (tc (c_eq hu) (e_ix (v 0) e_int) e_str) (s_one (s_ret (e_call c__law_choice hr (a_cons (e_call c__law_simple hr (a_cons (e_ix (v 0) e_int) a_nil) (Nat.le_refl _)) (a_cons (e_call c__law_simple hr (a_cons (e_ix (v 0) e_int) a_nil) (Nat.le_refl _)) a_nil)) (Nat.le_refl _)))) s_nil)
    (s_cons (s_if (tc (c_eq hu) (e_ix (v 0) e_int) e_str) (s_one (s_ret (e_tup (a_cons e_str (a_cons (e_ix (v 0) e_int) (a_cons (e_call c__law_simple hr (a_cons (e_ix (v 0) e_int) a_nil) (Nat.le_refl _)) a_nil)))))) s_nil)
    (s_cons (s_if (tc (c_eq hu) (e_ix (v 0) e_int) e_str) (s_cons (s_set (i := 1) nd (e_call c__law_simple hr (a_cons (e_ix (v 0) e_int) a_nil) (Nat.le_refl _)))
    (s_cons (s_if (PW.pt (t_or (tc (c_eq hu) (v 1) (e_tup (a_cons e_str a_nil))) (t_or1 (tc (c_eq hu) (v 1) (e_tup (a_cons e_str (a_cons (e_tup a_nil) a_nil))))))) (s_one (s_ret (e_if (tc (c_eq hu) (e_ix (v 0) e_int) (ec (c_eq hu) (v 1) (e_tup (a_cons e_str a_nil)))) (e_tup (a_cons e_str a_nil)) (e_tup (a_cons e_str (a_cons (e_tup a_nil) a_nil)))))) s_nil)
    (s_one (s_ret (e_tup (a_cons e_str (a_cons (e_ix (v 0) e_int) (a_cons (e_ix (v 0) e_int) (a_cons (v 1) a_nil))))))))) s_nil)
    (s_cons (s_if (tc (c_ne hu) (e_ix (v 0) e_int) e_str) (s_one (s_ret (v 0))) s_nil)
    (s_cons (s_set (i := 1) nd (e_call c__law_simple hr (a_cons (e_ix (v 0) e_int) a_nil) (Nat.le_refl _)))
    (s_cons (s_if (tc (c_eq hu) (v 1) (e_tup (a_cons e_str a_nil))) (s_one (s_ret (v 1))) s_nil)
    (s_cons (s_if (tc (c_eq hu) (v 1) (e_tup (a_cons e_str (a_cons (e_tup a_nil) a_nil)))) (s_one (s_ret (e_if (tc (c_eq hu) (e_ix (v 0) e_int) e_int) (e_tup (a_cons e_str a_nil)) (v 1)))) s_nil)
    (s_cons (s_if (PW.pt (t_and (t_tru (e_call c__law_bare hr (a_cons (v 1) a_nil) (Nat.le_refl _))) (t_and1 (tc (c_eq hu) (e_ix (v 0) e_int) e_int)))) (s_one (s_ret (e_tup (a_cons e_str a_nil)))) s_nil)
    (s_cons (s_if (PW.pt (t_and (t_tru (e_call c__law_bare hr (a_cons (v 1) a_nil) (Nat.le_refl _))) (t_and (tc (c_eq hu) (e_ix (v 0) e_int) e_int) (t_and1 (tc (c_eq hu) (e_ix (v 0) e_int) e_int))))) (s_one (s_ret (v 1))) s_nil)
    (s_cons (s_set (i := 2) nd (e_and (ec (c_eq hu) (e_ix (v 1) e_int) e_str) (e_and (ec (c_eq hu) (e_sl (v 0) (o_some e_int) o_none) (e_tup (a_cons e_int (a_cons e_non (a_cons (e_ix (v 0) e_int) a_nil))))) (e_one (ec (c_eq hu) (e_sl (v 1) (o_some e_int) o_none) (e_sl (v 0) (o_some e_int) o_none))))))
    (s_cons (s_if (PW.pt (t_and (t_tru (e_call c__law_bare hr (a_cons (v 1) a_nil) (Nat.le_refl _))) (t_and1 (t_tru (v 2))))) (s_one (s_ret (v 1))) s_nil)
    (s_one (s_ret (e_tup (a_cons e_str (a_cons (v 1) (a_cons (e_ix (v 0) e_int) (a_cons (e_ix (v 0) e_int) (a_cons (e_ix (v 0) e_int) a_nil))))))))))))))))))))
theorem da_law (T : Top K mg) : DefAt K mg "law" s_law ["_law_script"] := T.defAt 27 27 rfl rfl fun _ _ _ _ _ _ us hl => match us, hl with | [_], _ => rfl
def N_law : List Str := ["_law_script", "_law_state", "_law_tree_here", "_law_expected", "_law_k", "_law_simpler"]
theorem sc_law : FnScope N_law ["_law_script"] (defScope s_law) := ⟨rfl, rfl, rfl, by decide +kernel, rfl, by decide +kernel, by decide +kernel⟩
theorem der_law {k : Nat} (T : Top K mg) {sp_simplest : SpD} (c_simplest : CallD P w K mg base k "simplest" sp_simplest) {sp__law_same : SpD} (c__law_same : CallD P w K mg base k "_law_same" sp__law_same) {sp__law_size : SpD} (c__law_size : CallD P w K mg base k "_law_size" sp__law_size) {sp__law_simple : SpD} (c__law_simple : CallD P w K mg base k "_law_simple" sp__law_simple) {sp_tree_size : SpD} (c_tree_size : CallD P w K mg base k "tree_size" sp_tree_size) {sp_simplify : SpD} (c_simplify : CallD P w K mg base k "simplify" sp_simplify) {sp__law_looks : SpD} (c__law_looks : CallD P w K mg base k "_law_looks" sp__law_looks) {sp__law_digit : SpD} (c__law_digit : CallD P w K mg base k "_law_digit" sp__law_digit) {sp__law_tree : SpD} (c__law_tree : CallD P w K mg base k "_law_tree" sp__law_tree) : ∀ (f : Addr) (cdv : Value) (A : Around) (outer : List Env) (s : Shared) (H : Hp) (E : XK), Room k (A.deeper (envOfC "law" (defScope s_law) s.heap.objs.size f cdv)) →
    PSs (cxOf CX0 P w K mg base N_law "law" (defScope s_law) f cdv A outer s H E).nox (defBody s_law) (lS K (R.law sp_simplest sp__law_same sp__law_size sp__law_simple sp_tree_size sp_simplify sp__law_looks sp__law_digit sp__law_tree)) := fun f cdv A outer s H E hr => by
  have hu := room_hu hr
  have nd := sc_law.nd
  exact (s_cons (s_set (i := 1) nd (e_lst (a_cons e_int (a_cons e_int (a_cons e_int a_nil)))))
    (s_cons (s_set (i := 2) nd (e_call c__law_tree hr (a_cons (v 0) (a_cons (v 1) (a_cons (e_add e_int (e_call c__law_digit hr (a_cons (v 0) (a_cons (v 1) (a_cons e_int a_nil))) (Nat.le_refl _))) a_nil))) (Nat.le_refl _)))
    (s_cons (s_if (tc c_gt (e_call c__law_looks hr (a_cons (v 2) a_nil) (Nat.le_refl _)) e_int) (s_one (s_set (i := 2) nd (e_tup (a_cons e_str (a_cons (e_tup (a_cons e_str (a_cons e_bl (a_cons e_bl (a_cons (e_tup (a_cons e_str (a_cons (e_tup a_nil) a_nil))) a_nil))))) (a_cons (e_tup (a_cons e_str (a_cons (e_tup (a_cons e_str (a_cons (e_tup (a_cons (e_tup (a_cons e_int (a_cons e_int a_nil))) a_nil)) a_nil))) (a_cons e_int (a_cons e_int (a_cons e_bl a_nil)))))) a_nil)))))) s_nil)
    (s_cons (s_if (PW.pt (t_or (t_not (t_tru (e_call c__law_same hr (a_cons (e_call c_tree_size hr (a_cons (v 2) a_nil) (Nat.le_refl _)) (a_cons (e_call c__law_size hr (a_cons (v 2) a_nil) (Nat.le_refl _)) a_nil)) (Nat.le_refl _)))) (t_or1 (t_not (t_tru (e_call c__law_same hr (a_cons (e_call c_simplify hr (a_cons (v 2) a_nil) (Nat.le_refl _)) (a_cons (e_call c__law_simple hr (a_cons (v 2) a_nil) (Nat.le_refl _)) a_nil)) (Nat.le_refl _))))))) (s_one (s_ret e_bl)) s_nil)
    (s_cons (s_set (i := 3) nd (v 2))
    (s_cons (s_for (g := (.nm 4)) (i_rng1 (a_cons (e_call c__law_size hr (a_cons (v 2) a_nil) (Nat.le_refl _)) a_nil) (fr_range T)) (g_nm (i := 4) nd) (s_cons (s_set (i := 5) nd (e_call c__law_simple hr (a_cons (v 3) a_nil) (Nat.le_refl _)))
    (s_cons (s_if (tc (c_eq hu) (v 5) (v 3)) (s_one s_break) s_nil)
    (s_one (s_set (i := 3) nd (v 5))))))
    (s_one (s_ret (e_call c__law_same hr (a_cons (e_call c_simplest hr (a_cons (v 2) a_nil) (Nat.le_refl _)) (a_cons (v 3) a_nil)) (Nat.le_refl _))))))))))
end
end DL

/-! k28: the defs keep their promises -/
namespace DL
open PySem PySem.Spec PyProof.Rows L2 Tr
section
variable {P : Program} {w : World} {K : PySem.W.Frag} {mg : Str → Option Value} {base : Heap}
theorem c_parts (T : Top K mg) : CallD P w K mg base 1 "parts" spParts :=
  mk (k := 0) (da_parts T) sc_parts (fun _ _ _ ⟨_, e, _⟩ => by subst e; rfl) _ (der_parts T) fun _ _ _ ⟨t, e, h⟩ => by subst e; exact rd_parts t h
theorem c_igs (T : Top K mg) : ∀ k, k ≤ 46 → CallD P w K mg base (1 + k) "inner_groups" (spIgs k) :=
  CallD.famB (da_inner_groups T) spIgs 1 46 (fun _ _ _ ⟨_, _, h, _⟩ => absurd h (by omega)) fun k hk c =>
    mk (da_inner_groups T) sc_inner_groups (fun _ _ _ ⟨_, e, _⟩ => by subst e; rfl) _ (der_inner_groups T ((c_parts T).mono (by omega)) c) fun _ _ _ ⟨t, e, h1, h⟩ => by subst e; exact rd_igs (by omega) t h1 h
theorem c_bare (T : Top K mg) : CallD P w K mg base 48 "bare" (spBare 46) :=
  mk (da_bare T) sc_bare (fun _ _ _ ⟨_, e, _⟩ => by subst e; rfl) _ (der_bare T (c_igs T 46 (by decide))) fun _ _ _ ⟨t, e, h1, h⟩ => by subst e; exact rd_bare t h1 h
theorem c_lparts (T : Top K mg) : CallD P w K mg base 1 "_law_parts" spParts :=
  mk (k := 0) (da__law_parts T) sc__law_parts (fun _ _ _ ⟨_, e, _⟩ => by subst e; rfl) _ (der__law_parts T) fun _ _ _ ⟨t, e, h⟩ => by subst e; exact rd_lparts t h
theorem c_lbare (T : Top K mg) : ∀ k, k ≤ 46 → CallD P w K mg base (1 + k) "_law_bare" (spBare k) :=
  CallD.famB (da__law_bare T) spBare 1 46 (fun _ _ _ ⟨_, _, h, _⟩ => absurd h (by omega)) fun k hk c =>
    mk (da__law_bare T) sc__law_bare (fun _ _ _ ⟨_, e, _⟩ => by subst e; rfl) _ (der__law_bare T ((c_lparts T).mono (by omega)) c) fun _ _ _ ⟨t, e, h1, h⟩ => by subst e; exact rd_lbare t h1 h
theorem c_tsz (T : Top K mg) : ∀ k, k ≤ 46 → CallD P w K mg base (1 + k) "tree_size" (spSz k) :=
  CallD.famB (da_tree_size T) spSz 1 46 (fun _ _ _ ⟨_, _, h, _⟩ => absurd h (by omega)) fun k hk c =>
    mk (da_tree_size T) sc_tree_size (fun _ _ _ ⟨_, e, _⟩ => by subst e; rfl) _ (der_tree_size T ((c_parts T).mono (by omega)) c) fun _ _ _ ⟨t, e, h1, h⟩ => by subst e; exact rd_tsz t h1 h
theorem c_lsz (T : Top K mg) : ∀ k, k ≤ 46 → CallD P w K mg base (1 + k) "_law_size" (spSz k) :=
  CallD.famB (da__law_size T) spSz 1 46 (fun _ _ _ ⟨_, _, h, _⟩ => absurd h (by omega)) fun k hk c =>
    mk (da__law_size T) sc__law_size (fun _ _ _ ⟨_, e, _⟩ => by subst e; rfl) _ (der__law_size T ((c_lparts T).mono (by omega)) c) fun _ _ _ ⟨t, e, h1, h⟩ => by subst e; exact rd_lsz t h1 h
theorem c_lks (T : Top K mg) : ∀ k, k ≤ 46 → CallD P w K mg base (1 + k) "_law_looks" (spLks k) :=
  CallD.famB (da__law_looks T) spLks 1 46 (fun _ _ _ ⟨_, _, h, _⟩ => absurd h (by omega)) fun k hk c =>
    mk (da__law_looks T) sc__law_looks (fun _ _ _ ⟨_, e, _⟩ => by subst e; rfl) _ (der__law_looks T c) fun _ _ _ ⟨t, e, h1, h⟩ => by subst e; exact rd_lks t h1 h
theorem c_ms (T : Top K mg) : CallD P w K mg base 1 "make_set" spMs :=
  mk (k := 0) (da_make_set T) sc_make_set (fun _ _ _ ⟨_, e, _⟩ => by subst e; rfl) _ (der_make_set T) fun _ _ _ ⟨t, e, h1, h⟩ => by subst e; exact rd_ms t h1 h
theorem c_un (T : Top K mg) : CallD P w K mg base 2 "union" spUn :=
  mk (da_union T) sc_union (fun _ _ _ ⟨_, _, e, _⟩ => by subst e; rfl) _ (der_union T (c_ms T)) fun _ _ _ ⟨a, b, e, h1, h2, h⟩ => by subst e; exact rd_un a b h1 h2 h
theorem c_mrg (T : Top K mg) : CallD P w K mg base 3 "merged" spMrg :=
  mk (da_merged T) sc_merged (fun _ _ _ ⟨_, _, e, _⟩ => by subst e; rfl) _ (der_merged T (c_un T)) fun _ _ _ ⟨a, b, e, h1, h2, h3, h4, h⟩ => by subst e; exact rd_mrg a b h1 h2 h3 h4 h
theorem c_alts (T : Top K mg) : CallD P w K mg base 1 "alternatives" spAlts :=
  mk (k := 0) (da_alternatives T) sc_alternatives (fun _ _ _ ⟨_, e, _⟩ => by subst e; rfl) _ (der_alternatives T) fun _ _ _ ⟨t, e, h1, h⟩ => by subst e; exact rd_alts t h1 h
theorem c_cho (T : Top K mg) : CallD P w K mg base 1 "choice_of" spCho :=
  mk (k := 0) (da_choice_of T) sc_choice_of (fun _ _ _ ⟨_, e, _⟩ => by subst e; rfl) _ (der_choice_of T) fun _ _ _ ⟨t, e, h1, h⟩ => by subst e; exact rd_cho t h1 h
theorem c_jseq (T : Top K mg) : ∀ k, k ≤ 46 → CallD P w K mg base (48 + k) "join_sequence" (sp2 joinSeq k) :=
  CallD.famB (da_join_sequence T) (sp2 joinSeq) 48 46 (fun _ _ _ ⟨_, _, _, h, _⟩ => absurd h (by omega)) fun k hk c =>
    mk (da_join_sequence T) sc_join_sequence (fun _ _ _ ⟨_, _, e, _⟩ => by subst e; rfl) _ (der_join_sequence T ((c_bare T).mono (by omega)) c) fun _ _ _ ⟨a, b, e, h1, h2, h⟩ => by subst e; exact rd_jseq a b h1 h2 h
theorem c_lseq (T : Top K mg) : ∀ k, k ≤ 46 → CallD P w K mg base (48 + k) "_law_sequence" (sp2 joinSeq k) :=
  CallD.famB (da__law_sequence T) (sp2 joinSeq) 48 46 (fun _ _ _ ⟨_, _, _, h, _⟩ => absurd h (by omega)) fun k hk c =>
    mk (da__law_sequence T) sc__law_sequence (fun _ _ _ ⟨_, _, e, _⟩ => by subst e; rfl) _ (der__law_sequence T ((c_lbare T 46 (by decide)).mono (by omega)) c) fun _ _ _ ⟨a, b, e, h1, h2, h⟩ => by subst e; exact rd_lseq a b h1 h2 h
theorem c_jcho (T : Top K mg) : ∀ k, k ≤ 46 → CallD P w K mg base (48 + k) "join_choice" (sp2o joinCho k) :=
  CallD.famB (da_join_choice T) (sp2o joinCho) 48 46 (fun _ _ _ ⟨_, _, _, h, _⟩ => absurd h (by omega)) fun k hk c =>
    mk (da_join_choice T) sc_join_choice (fun _ _ _ ⟨_, _, e, _⟩ => by subst e; rfl) _ (der_join_choice T ((c_cho T).mono (by omega)) ((c_bare T).mono (by omega)) ((c_mrg T).mono (by omega)) ((c_alts T).mono (by omega)) c) fun _ _ _ ⟨a, b, e, h1, h2, h3, h4, h⟩ => by subst e; exact rd_jcho a b h1 h2 h3 h4 h
theorem c_lun (T : Top K mg) : CallD P w K mg base 1 "_law_union" spLun :=
  mk (k := 0) (da__law_union T) sc__law_union (fun _ _ _ ⟨_, _, e, _⟩ => by subst e; rfl) _ (der__law_union T) fun _ _ _ ⟨a, b, e, h1, h2, h⟩ => by subst e; exact rd_lun a b h1 h2 h
theorem c_lcho (T : Top K mg) : ∀ k, k ≤ 46 → CallD P w K mg base (48 + k) "_law_choice" (sp2o joinCho k) :=
  CallD.famB (da__law_choice T) (sp2o joinCho) 48 46 (fun _ _ _ ⟨_, _, _, h, _⟩ => absurd h (by omega)) fun k hk c =>
    mk (da__law_choice T) sc__law_choice (fun _ _ _ ⟨_, _, e, _⟩ => by subst e; rfl) _ (der__law_choice T ((c_lbare T 46 (by decide)).mono (by omega)) ((c_lun T).mono (by omega)) c) fun _ _ _ ⟨a, b, e, h1, h2, h3, h4, h⟩ => by subst e; exact rd_lcho a b h1 h2 h3 h4 h
theorem c_rep (T : Top K mg) : CallD P w K mg base 49 "simple_repeat" spRep :=
  mk (da_simple_repeat T) sc_simple_repeat (fun _ _ _ ⟨_, _, _, _, _, e, _⟩ => by subst e; rfl) _ (der_simple_repeat T (c_bare T)) fun _ _ _ ⟨a, b, lo, hi, g, e, h1, h⟩ => by subst e; exact rd_rep a b lo hi g h1 h
theorem c_look (T : Top K mg) : CallD P w K mg base 1 "simple_look" spLook :=
  mk (k := 0) (da_simple_look T) sc_simple_look (fun _ _ _ ⟨_, _, _, _, e, _⟩ => by subst e; rfl) _ (der_simple_look T) fun _ _ _ ⟨a, b, ah, ps, e, h1, h⟩ => by subst e; exact rd_look a b ah ps h1 h
theorem c_simp (T : Top K mg) : ∀ k, k ≤ 46 → CallD P w K mg base (94 + k) "simplify" (sp1 Tr.simp k) :=
  CallD.famB (da_simplify T) (sp1 Tr.simp) 94 46 (fun _ _ _ ⟨_, _, h, _⟩ => absurd h (by omega)) fun k hk c =>
    mk (da_simplify T) sc_simplify (fun _ _ _ ⟨_, e, _⟩ => by subst e; rfl) _ (der_simplify T c ((c_look T).mono (by omega)) ((c_rep T).mono (by omega)) ((c_jcho T 46 (by decide)).mono (by omega)) ((c_jseq T 46 (by decide)).mono (by omega))) fun _ _ _ ⟨t, e, h1, h2, h3, h⟩ => by subst e; exact rd_simp t h1 h2 h3 h
theorem c_lsimp (T : Top K mg) : ∀ k, k ≤ 46 → CallD P w K mg base (94 + k) "_law_simple" (sp1 Tr.simp k) :=
  CallD.famB (da__law_simple T) (sp1 Tr.simp) 94 46 (fun _ _ _ ⟨_, _, h, _⟩ => absurd h (by omega)) fun k hk c =>
    mk (da__law_simple T) sc__law_simple (fun _ _ _ ⟨_, e, _⟩ => by subst e; rfl) _ (der__law_simple T ((c_lbare T 46 (by decide)).mono (by omega)) c ((c_lcho T 46 (by decide)).mono (by omega)) ((c_lseq T 46 (by decide)).mono (by omega))) fun _ _ _ ⟨t, e, h1, h2, h3, h⟩ => by subst e; exact rd_lsimp t h1 h2 h3 h
theorem c_most (T : Top K mg) : CallD P w K mg base 141 "simplest" spMost :=
  mk (da_simplest T) sc_simplest (fun _ _ _ ⟨_, e, _⟩ => by subst e; rfl) _ (der_simplest T ((c_tsz T 46 (by decide)).mono (by omega)) (c_simp T 46 (by decide))) fun _ _ _ ⟨t, e, h1, h2, h⟩ => by subst e; exact rd_most t h1 h2 h
theorem c_same (T : Top K mg) : ∀ k, k ≤ 140 → CallD P w K mg base (0 + k) "_law_same" (spSame k) :=
  CallD.famB (da__law_same T) spSame 0 140 (fun _ _ _ ⟨_, _, _, h, _⟩ => absurd h (by omega)) fun k hk c =>
    mk (da__law_same T) sc__law_same (fun _ _ _ ⟨_, e, _⟩ => by subst e; rfl) _ (der__law_same T c) fun _ _ _ ⟨t, e, h1, h2, h3, h⟩ => by subst e; exact rd_same hk t h1 h2 h3 h
theorem c_row (T : Top K mg) : CallD P w K mg base 1 "_law_row" spRow :=
  mk (k := 0) (da__law_row T) sc__law_row (fun _ _ _ ⟨_, _, e, _⟩ => by subst e; rfl) _ (der__law_row T) fun _ _ _ ⟨ns, y, e, h1, h⟩ => by subst e; exact rd_row ns y h1 h
theorem c_dig (T : Top K mg) : CallD P w K mg base 2 "_law_digit" spDig :=
  mk (da__law_digit T) sc__law_digit (fun _ _ _ ⟨_, _, _, _, _, _, e, _⟩ => by subst e; rfl) _ (der__law_digit T (c_row T)) fun _ _ _ ⟨ns, a, x, y, r, b, e, h1, h2, h3, h4, h⟩ => by subst e; exact rd_dig ns a x y r b h1 h2 h3 h4 h
theorem c_tree (T : Top K mg) : ∀ k, k ≤ 5 → CallD P w K mg base (2 + k) "_law_tree" (spTree k) :=
  CallD.famB (da__law_tree T) spTree 2 5 (fun _ _ _ ⟨_, _, _, _, h, _⟩ => absurd h (by omega)) fun k hk c =>
    mk (da__law_tree T) sc__law_tree (fun _ _ _ ⟨_, _, _, e, _⟩ => by subst e; rfl) _ (der__law_tree T ((c_dig T).mono (by omega)) c) fun _ _ _ ⟨ns, a, d, e, h1, h2, h⟩ => by subst e; exact rd_tree ns a d h1 h2 h
theorem ok_law (T : Top K mg) {f : Addr} {fd : FuncData} (F : FunD K "law" "law" (defArgs s_law) (defBody s_law) (defScope s_law) [] [] f fd) : FnOk P w K mg base CX0 143 f fd ["_law_script"] (lSp K (spLaw 63)) :=
  mkOk (k := 142) F sc_law (fun _ _ _ ⟨_, e, _⟩ => by subst e; rfl) _
    (der_law T ((c_most T).mono (by omega)) ((c_same T 140 (by decide)).mono (by omega)) ((c_lsz T 46 (by decide)).mono (by omega)) ((c_lsimp T 46 (by decide)).mono (by omega)) ((c_tsz T 46 (by decide)).mono (by omega)) ((c_simp T 46 (by decide)).mono (by omega)) ((c_lks T 46 (by decide)).mono (by omega)) ((c_dig T).mono (by omega)) ((c_tree T 5 (by decide)).mono (by omega)))
    fun _ _ _ ⟨ns, e, _, h⟩ => by subst e; exact rd_law ns h
end
end DL

namespace DL
abbrev lawN : Nat := 63
end DL
/-! the head, the end. Printed by gen_end.py -/
namespace DL
open PySem PySem.Spec PyProof.Rows L2
abbrev RowX : PySem.W.OpenRow := PySem.W.OpenLaw.row PySem.Challenge.rw_firstway_k28_simplified_by_the_rules
abbrev hk : PySem.W.Hook := hookX 2 fa fn cs
def ob (s : PySem.W.SharedT) : AlX := obsXG 2 fa fn cs (HandSHeadRun.getT s)
theorem ob_eq (s : PySem.W.SharedT) : ob s = hk.obs s.abs := obsXG_eq (HandSHeadRun.getT_eq s)
def names : List PySem.Str := (["parts", "inner_groups", "make_set", "union", "EMPTY", "NEVER", "tree_size", "bare", "join_sequence", "alternatives", "choice_of", "merged"] : List PySem.Str) ++ (["join_choice", "simple_repeat", "simple_look", "simplify", "simplest", "_law_row", "_law_digit", "_law_same", "_law_tree", "_law_looks", "_law_parts", "_law_size"] : List PySem.Str) ++ (["_law_bare", "_law_sequence", "_law_union", "_law_choice", "_law_simple"] : List PySem.Str)
theorem run (w : World) : HandSHeadRun.RunEq RowX (PySem.W.view RowX.prog [33]) hk ob 3000 names w := by
  intro os
  kernel_rfl
theorem facts {P : Program} {w : World} {K : PySem.W.Frag} {h : Heap} {mg : Str → Option Value} {f : Addr} (X : K.In h) (G : h.Ns mainGlobals mg) (hfa : mg ("law" : Str) = some (.ref f)) (c : SaysX fa fn cs K) :
    ∃ fd : FuncData, (∀ (s : Shared) (v : Value), BindsTo s fd ⟨[v], []⟩ [("_law_script", v)]) ∧ ∀ base : Heap, K.In base → base.Ns mainGlobals mg → FnOk P w K mg base CX0 143 f fd ["_law_script"] (lSp K (spLaw lawN)) := by
  have T : Top K mg := ⟨⟨h, X, G⟩, c⟩
  obtain ⟨fd, F⟩ := T.d.def_ 27 (d := ⟨("law", none), "law", "law", defArgs s_law, defBody s_law, defScope s_law, [], []⟩) rfl
  have g := T.glo 27 (x := "law") rfl
  have e := hfa.symm.trans g
  cases e
  have b := FunD.bindsA (ps := ["_law_script"]) F fun _ _ _ _ _ _ us hl => match us, hl with | [_], _ => rfl
  exact ⟨fd, fun s v => b s [v] rfl, fun base _ _ => ok_law T F⟩
end DL
open PySem PySem.W PySem.Calls PyProof.Rows
theorem PySem.Challenge.cw_firstway_k28_simplified_by_the_rules_holds : PySem.Challenge.rw_firstway_k28_simplified_by_the_rules.Holds := by
  w_on; o_law
  refine HandSHeadRun.head_any (r := OpenLaw.row PySem.Challenge.rw_firstway_k28_simplified_by_the_rules) (q := view (OpenLaw.row PySem.Challenge.rw_firstway_k28_simplified_by_the_rules).prog [33]) (H := DL.hk) (ob := DL.ob) (M := 3000) (loose := DL.names) (d := HandSHeadRun.topDef (OpenLaw.row PySem.Challenge.rw_firstway_k28_simplified_by_the_rules).prog 33) (kwd := []) DL.ob_eq
    (by kernel_rfl) (fun s => by kernel_rfl) DL.run (by kernel_rfl) (by kernel_rfl) (by kernel_rfl) (by rfl) (by first | assumption | decide +kernel) (by decide +kernel) ⟨rfl, rfl, rfl, rfl, rfl, by decide +kernel⟩ ?hw ?hc
  case hw => w_witness2
  case hc =>
    refine L2.walk_ofE (l := PySem.Challenge.rw_firstway_k28_simplified_by_the_rules) (n := DL.lawN) (k := 143) (x := "_law_script") (CX := L2.CX0) rfl (by decide) (by kernel_rfl) ⟨rfl, by decide, by decide⟩ ?F (fun _ _ _ _ z => z)
    intro w mg fa h Y G hmg0
    obtain ⟨K, KX, c⟩ := Y
    have hmg : mg ("law" : PySem.Str) = some (.ref fa) := by
      have e : (HandSHeadRun.topDef (OpenLaw.row PySem.Challenge.rw_firstway_k28_simplified_by_the_rules).prog 33).name = ("law" : PySem.Str) := by kernel_rfl
      rw [← e]
      exact hmg0
    obtain ⟨fd, hb, hF⟩ := DL.facts (P := (PySem.Challenge.rw_firstway_k28_simplified_by_the_rules).prog) (w := w) KX G hmg c
    exact ⟨K, fd, DL.lSp K (DL.spLaw DL.lawN), KX, hb, fun H a ns hl hO hS => DL.law_sp H a ns hl hO hS, hF⟩

