import PyProof.Rows.All
import Wide.All
import OpenK.AllK
import Wide.FinOn
import HandS.ForMost
import HandS.Conv
import HandS.TupAny
import HandS.Wide
import HandS.IsInst
import HandS.SortInts
import KE.GoesEnum
import KE.GoesMore
import HandS.Zip
import HandS.NoneIn
import HandS.Small
import HandS.Strs
import HandS.SetBool
import PySem.Challenge.RW_whateverdrops_k72_whole_spread_code
set_option Elab.async false
set_option linter.all false
set_option maxRecDepth 100000
/-! Eng1: values without addresses. Tuples are plain data, a list is a value that one slot holds. -/
namespace VL
open PySem PySem.Spec PyProof.Rows L2

/-- plain data: what never changes -/
inductive P where
  | non | bl (b : Bool) | int (i : Int) | str (x : Str) | tup (xs : List P)
/-- a value of a slot: plain data, a list of plain data, a list of values, a tuple that holds lists, dicts -/
inductive D where
  | p (x : P) | l (xs : List P) | ll (xs : List D) | t (xs : List D) | d (kvs : List (Key × P)) | dt (kvs : List (List Key × P)) | s (xs : List Int)

mutual
def RepP (K : PySem.W.Frag) (H : Hp) : P → V → Prop
  | .non, v => v = .non
  | .bl b, v => v = .bl b
  | .int i, v => v = .int i
  | .str x, v => v = .str x
  | .tup xs, v => ∃ a vs, v = .ref a ∧ SqT K H a vs ∧ RepPs K H xs vs
def RepPs (K : PySem.W.Frag) (H : Hp) : List P → List V → Prop
  | [], vs => vs = []
  | x :: xs, vs => ∃ v ws, vs = v :: ws ∧ RepP K H x v ∧ RepPs K H xs ws
end
/-- the pairs of a dict -/
def RepK {κ : Type} (K : PySem.W.Frag) (H : Hp) : List (κ × P) → List (κ × V) → Prop
  | [], vs => vs = []
  | (k, x) :: xs, vs => ∃ v ws, vs = (k, v) :: ws ∧ RepP K H x v ∧ RepK K H xs ws
/-- a list of the module's own top -/
def KL (K : PySem.W.Frag) (a : Addr) (xs : List V) : Prop :=
  ∃ (o : Obj) (its : Array Value) (n : Nat), K.lookup a = some o ∧ o.cls = .type "list" ∧ o.dict = none ∧ o.data = .seq its n ∧ its.size ≤ sizeLine ∧ Vals xs its.toList
mutual
def Own (K : PySem.W.Frag) (H : Hp) : D → V → List Addr → Prop
  | .p x, v, B => B = [] ∧ RepP K H x v
  | .l xs, v, B => ∃ a vs, v = .ref a ∧ B = [a] ∧ H a = some (.lst vs) ∧ RepPs K H xs vs
  | .ll ds, v, B => ∃ a vs C, v = .ref a ∧ B = a :: C ∧ a ∉ C ∧ H a = some (.lst vs) ∧ Owns K H ds vs C
  | .t ds, v, B => ∃ a vs, v = .ref a ∧ SqT K H a vs ∧ Owns K H ds vs B
  | .d kvs, v, B => ∃ a vs, v = .ref a ∧ B = [a] ∧ H a = some (.dK vs) ∧ RepK K H kvs vs
  | .dt kvs, v, B => ∃ a vs, v = .ref a ∧ B = [a] ∧ H a = some (.dT vs) ∧ RepK K H kvs vs
  | .s ns, v, B => ∃ a, v = .ref a ∧ ((B = [a] ∧ (H a = some (.lst (ns.map V.int)) ∨ ∃ o, H a = some (.frz o (.lst (ns.map V.int))))) ∨ (B = [] ∧ KL K a (ns.map V.int)))
def Owns (K : PySem.W.Frag) (H : Hp) : List D → List V → List Addr → Prop
  | [], vs, B => vs = [] ∧ B = []
  | d :: ds, vs, B => ∃ v ws B1 B2, vs = v :: ws ∧ B = B1 ++ B2 ∧ (∀ a ∈ B1, a ∉ B2) ∧ Own K H d v B1 ∧ Owns K H ds ws B2
end

/-! ### frames -/
/-- a tuple to be read -/
def TupO (o : HO) : Prop := (∃ xs, o = .tup xs) ∨ ∃ ob xs, o = .frz ob (.tup xs)
def Ext (H H' : Hp) : Prop := ∀ b o, H b = some o → TupO o → H' b = some o
theorem Ext.refl (H : Hp) : Ext H H := fun _ _ h _ => h
theorem Ext.trans {H H1 H2 : Hp} (a : Ext H H1) (b : Ext H1 H2) : Ext H H2 := fun c o h t => b c o (a c o h t) t
theorem Ext.sqT {K : PySem.W.Frag} {H H' : Hp} (e : Ext H H') {a : Addr} {vs : List V} (h : SqT K H a vs) : SqT K H' a vs := by
  rcases h with (h | ⟨o, h⟩) | h
  · exact .inl (.inl (e _ _ h (.inl ⟨_, rfl⟩)))
  · exact .inl (.inr ⟨o, e _ _ h (.inr ⟨_, _, rfl⟩)⟩)
  · exact .inr h
mutual
theorem RepP.ext {K : PySem.W.Frag} {H H' : Hp} (e : Ext H H') : ∀ {x : P} {v : V}, RepP K H x v → RepP K H' x v
  | .non, _, h => h
  | .bl _, _, h => h
  | .int _, _, h => h
  | .str _, _, h => h
  | .tup xs, _, h => by
    obtain ⟨a, vs, h1, h2, h3⟩ := h
    exact ⟨a, vs, h1, e.sqT h2, RepPs.ext e h3⟩
theorem RepPs.ext {K : PySem.W.Frag} {H H' : Hp} (e : Ext H H') : ∀ {xs : List P} {vs : List V}, RepPs K H xs vs → RepPs K H' xs vs
  | [], _, h => h
  | x :: xs, _, h => by
    obtain ⟨v, ws, h1, h2, h3⟩ := h
    exact ⟨v, ws, h1, RepP.ext e h2, RepPs.ext e h3⟩
end
theorem RepK.ext {κ : Type} {K : PySem.W.Frag} {H H' : Hp} (e : Ext H H') : ∀ {xs : List (κ × P)} {vs : List (κ × V)}, RepK K H xs vs → RepK K H' xs vs
  | [], _, h => h
  | (k, x) :: xs, _, h => by
    obtain ⟨v, ws, h1, h2, h3⟩ := h
    exact ⟨v, ws, h1, RepP.ext e h2, RepK.ext e h3⟩
/-- the addresses at B are as they were -/
def Kept (H H' : Hp) (B : List Addr) : Prop := ∀ a ∈ B, ∀ o, H a = some o → H' a = some o
mutual
/-- what is owned stands in H, and is no tuple -/
theorem Own.at {K : PySem.W.Frag} {H : Hp} : ∀ {d : D} {v : V} {B : List Addr}, Own K H d v B → ∀ a ∈ B, ∃ o, H a = some o ∧ ¬ TupO o
  | .p x, v, B, h, a, ha => by obtain ⟨rfl, _⟩ := h; simp at ha
  | .l xs, v, B, h, a, ha => by
    obtain ⟨c, vs, _, rfl, h1, _⟩ := h
    simp at ha; subst ha
    exact ⟨_, h1, by rintro (⟨_, z⟩ | ⟨_, _, z⟩) <;> cases z⟩
  | .ll ds, v, B, h, a, ha => by
    obtain ⟨c, vs, C, _, rfl, _, h1, h2⟩ := h
    rcases List.mem_cons.mp ha with rfl | ha
    · exact ⟨_, h1, by rintro (⟨_, z⟩ | ⟨_, _, z⟩) <;> cases z⟩
    · exact Owns.at h2 a ha
  | .t ds, v, B, h, a, ha => by
    obtain ⟨c, vs, _, _, h2⟩ := h
    exact Owns.at h2 a ha
  | .d xs, v, B, h, a, ha => by
    obtain ⟨c, vs, _, rfl, h1, _⟩ := h
    simp at ha; subst ha
    exact ⟨_, h1, by rintro (⟨_, z⟩ | ⟨_, _, z⟩) <;> cases z⟩
  | .dt xs, v, B, h, a, ha => by
    obtain ⟨c, vs, _, rfl, h1, _⟩ := h
    simp at ha; subst ha
    exact ⟨_, h1, by rintro (⟨_, z⟩ | ⟨_, _, z⟩) <;> cases z⟩
  | .s ns, v, B, h, a, ha => by
    obtain ⟨c, _, ⟨rfl, h1 | ⟨o, h1⟩⟩ | ⟨rfl, _⟩⟩ := h
    · simp at ha; subst ha
      exact ⟨_, h1, by rintro (⟨_, z⟩ | ⟨_, _, z⟩) <;> cases z⟩
    · simp at ha; subst ha
      exact ⟨_, h1, by rintro (⟨_, z⟩ | ⟨_, _, z⟩) <;> cases z⟩
    · simp at ha
theorem Owns.at {K : PySem.W.Frag} {H : Hp} : ∀ {ds : List D} {vs : List V} {B : List Addr}, Owns K H ds vs B → ∀ a ∈ B, ∃ o, H a = some o ∧ ¬ TupO o
  | [], vs, B, h, a, ha => by obtain ⟨_, rfl⟩ := h; simp at ha
  | d :: ds, vs, B, h, a, ha => by
    obtain ⟨v, ws, B1, B2, _, rfl, _, h1, h2⟩ := h
    rcases List.mem_append.mp ha with ha | ha
    · exact Own.at h1 a ha
    · exact Owns.at h2 a ha
end
theorem Kept.left {H H' : Hp} {B C : List Addr} (k : Kept H H' (B ++ C)) : Kept H H' B := fun a ha => k a (List.mem_append_left _ ha)
theorem Kept.right {H H' : Hp} {B C : List Addr} (k : Kept H H' (B ++ C)) : Kept H H' C := fun a ha => k a (List.mem_append_right _ ha)
mutual
theorem Own.kept {K : PySem.W.Frag} {H H' : Hp} (e : Ext H H') : ∀ {d : D} {v : V} {B : List Addr}, Own K H d v B → Kept H H' B → Own K H' d v B
  | .p x, v, B, h, _ => ⟨h.1, RepP.ext e h.2⟩
  | .l xs, v, B, h, k => by
    obtain ⟨c, vs, h0, rfl, h1, h2⟩ := h
    exact ⟨c, vs, h0, rfl, k c (by simp) _ h1, RepPs.ext e h2⟩
  | .ll ds, v, B, h, k => by
    obtain ⟨c, vs, C, h0, rfl, hn, h1, h2⟩ := h
    exact ⟨c, vs, C, h0, rfl, hn, k c (by simp) _ h1, Owns.kept e h2 fun a ha => k a (List.mem_cons_of_mem _ ha)⟩
  | .t ds, v, B, h, k => by
    obtain ⟨c, vs, h0, h1, h2⟩ := h
    exact ⟨c, vs, h0, e.sqT h1, Owns.kept e h2 k⟩
  | .d xs, v, B, h, k => by
    obtain ⟨c, vs, h0, rfl, h1, h2⟩ := h
    exact ⟨c, vs, h0, rfl, k c (by simp) _ h1, RepK.ext e h2⟩
  | .dt xs, v, B, h, k => by
    obtain ⟨c, vs, h0, rfl, h1, h2⟩ := h
    exact ⟨c, vs, h0, rfl, k c (by simp) _ h1, RepK.ext e h2⟩
  | .s ns, v, B, h, k => by
    obtain ⟨c, h0, ⟨rfl, h2 | ⟨o, h2⟩⟩ | ⟨rfl, h2⟩⟩ := h
    · exact ⟨c, h0, .inl ⟨rfl, .inl (k c (by simp) _ h2)⟩⟩
    · exact ⟨c, h0, .inl ⟨rfl, .inr ⟨o, k c (by simp) _ h2⟩⟩⟩
    · exact ⟨c, h0, .inr ⟨rfl, h2⟩⟩
theorem Owns.kept {K : PySem.W.Frag} {H H' : Hp} (e : Ext H H') : ∀ {ds : List D} {vs : List V} {B : List Addr}, Owns K H ds vs B → Kept H H' B → Owns K H' ds vs B
  | [], vs, B, h, k => h
  | d :: ds, vs, B, h, k => by
    obtain ⟨v, ws, B1, B2, h0, rfl, hd, h1, h2⟩ := h
    exact ⟨v, ws, B1, B2, h0, rfl, hd, Own.kept e h1 k.left, Owns.kept e h2 k.right⟩
end

theorem RepPs.length {K : PySem.W.Frag} {H : Hp} : ∀ {xs : List P} {vs : List V}, RepPs K H xs vs → vs.length = xs.length
  | [], _, h => by cases h; rfl
  | x :: xs, _, h => by
    obtain ⟨v, ws, rfl, _, h3⟩ := h
    simp [RepPs.length h3]
theorem Owns.length {K : PySem.W.Frag} {H : Hp} : ∀ {xs : List D} {vs : List V} {B : List Addr}, Owns K H xs vs B → vs.length = xs.length
  | [], _, _, h => by cases h.1; rfl
  | x :: xs, _, _, h => by
    obtain ⟨v, ws, _, _, rfl, _, _, _, h3⟩ := h
    simp [Owns.length h3]
theorem RepPs.get {K : PySem.W.Frag} {H : Hp} : ∀ {xs : List P} {vs : List V} {i : Nat} {x : P}, RepPs K H xs vs → xs[i]? = some x → ∃ v, vs[i]? = some v ∧ RepP K H x v
  | [], _, _, _, _, e => by simp at e
  | x :: xs, _, 0, y, h, e => by
    obtain ⟨v, ws, rfl, h2, h3⟩ := h
    simp at e; subst e
    exact ⟨v, by simp, h2⟩
  | x :: xs, _, i + 1, y, h, e => by
    obtain ⟨v, ws, rfl, h2, h3⟩ := h
    obtain ⟨u, e1, e2⟩ := RepPs.get (i := i) h3 (by simpa using e)
    exact ⟨u, by simpa using e1, e2⟩
theorem RepPs.append {K : PySem.W.Frag} {H : Hp} : ∀ {xs ys : List P} {vs ws : List V}, RepPs K H xs vs → RepPs K H ys ws → RepPs K H (xs ++ ys) (vs ++ ws)
  | [], _, _, _, h, k => by cases h; exact k
  | x :: xs, _, _, _, h, k => by
    obtain ⟨v, us, rfl, h2, h3⟩ := h
    exact ⟨v, _, rfl, h2, RepPs.append h3 k⟩
theorem RepPs.set {K : PySem.W.Frag} {H : Hp} {y : P} {w : V} (r : RepP K H y w) : ∀ {xs : List P} {vs : List V} (i : Nat), RepPs K H xs vs → RepPs K H (xs.set i y) (vs.set i w)
  | [], _, _, h => by cases h; rfl
  | x :: xs, _, 0, h => by
    obtain ⟨v, us, rfl, h2, h3⟩ := h
    exact ⟨w, us, rfl, r, h3⟩
  | x :: xs, _, i + 1, h => by
    obtain ⟨v, us, rfl, h2, h3⟩ := h
    exact ⟨v, _, rfl, h2, RepPs.set r i h3⟩
theorem RepPs.take {K : PySem.W.Frag} {H : Hp} : ∀ {xs : List P} {vs : List V} (n : Nat), RepPs K H xs vs → RepPs K H (xs.take n) (vs.take n)
  | _, _, 0, h => by simp [RepPs]
  | [], _, n + 1, h => by cases h; rfl
  | x :: xs, _, n + 1, h => by
    obtain ⟨v, us, rfl, h2, h3⟩ := h
    exact ⟨v, _, rfl, h2, RepPs.take n h3⟩
theorem RepPs.drop {K : PySem.W.Frag} {H : Hp} : ∀ {xs : List P} {vs : List V} (n : Nat), RepPs K H xs vs → RepPs K H (xs.drop n) (vs.drop n)
  | _, _, 0, h => h
  | [], _, n + 1, h => by cases h; rfl
  | x :: xs, _, n + 1, h => by
    obtain ⟨v, us, rfl, h2, h3⟩ := h
    exact RepPs.drop n h3
theorem RepPs.eraseIdx {K : PySem.W.Frag} {H : Hp} : ∀ {xs : List P} {vs : List V} (n : Nat), RepPs K H xs vs → RepPs K H (xs.eraseIdx n) (vs.eraseIdx n)
  | [], _, n, h => by cases h; rfl
  | x :: xs, _, 0, h => by
    obtain ⟨v, us, rfl, h2, h3⟩ := h
    exact h3
  | x :: xs, _, n + 1, h => by
    obtain ⟨v, us, rfl, h2, h3⟩ := h
    exact ⟨v, _, rfl, h2, RepPs.eraseIdx n h3⟩
theorem RepPs.ints {K : PySem.W.Frag} {H : Hp} : ∀ {ns : List Int} {vs : List V}, RepPs K H (ns.map P.int) vs → vs = ns.map V.int
  | [], _, h => h
  | n :: ns, _, h => by
    obtain ⟨v, us, rfl, h2, h3⟩ := h
    cases h2
    rw [RepPs.ints h3]; rfl
theorem RepPs.of_ints {K : PySem.W.Frag} {H : Hp} : ∀ (ns : List Int), RepPs K H (ns.map P.int) (ns.map V.int)
  | [] => rfl
  | n :: ns => ⟨_, _, rfl, rfl, RepPs.of_ints ns⟩
/-- plain items are owned with nothing -/
theorem Owns.of_p {K : PySem.W.Frag} {H : Hp} : ∀ {xs : List P} {vs : List V}, RepPs K H xs vs → Owns K H (xs.map D.p) vs []
  | [], _, h => ⟨h, rfl⟩
  | x :: xs, _, h => by
    obtain ⟨v, us, rfl, h2, h3⟩ := h
    exact ⟨v, us, [], [], rfl, rfl, by simp, ⟨rfl, h2⟩, Owns.of_p h3⟩
theorem Owns.to_p {K : PySem.W.Frag} {H : Hp} : ∀ {xs : List P} {vs : List V} {B : List Addr}, Owns K H (xs.map D.p) vs B → B = [] ∧ RepPs K H xs vs
  | [], _, _, h => ⟨h.2, h.1⟩
  | x :: xs, _, _, h => by
    obtain ⟨v, us, B1, B2, rfl, rfl, _, h2, h3⟩ := h
    obtain ⟨rfl, h4⟩ := Owns.to_p h3
    obtain ⟨rfl, h5⟩ := h2
    exact ⟨rfl, v, us, rfl, h5, h4⟩
theorem Owns.get {K : PySem.W.Frag} {H : Hp} : ∀ {ds : List D} {vs : List V} {B : List Addr} {i : Nat} {d : D}, Owns K H ds vs B → ds[i]? = some d → ∃ v C, vs[i]? = some v ∧ Own K H d v C ∧ ∀ a ∈ C, a ∈ B
  | [], _, _, _, _, _, e => by simp at e
  | x :: xs, _, _, 0, y, h, e => by
    obtain ⟨v, us, B1, B2, rfl, rfl, _, h2, h3⟩ := h
    simp at e; subst e
    exact ⟨v, B1, by simp, h2, fun a ha => List.mem_append_left _ ha⟩
  | x :: xs, _, _, i + 1, y, h, e => by
    obtain ⟨v, us, B1, B2, rfl, rfl, _, h2, h3⟩ := h
    obtain ⟨u, C, e1, e2, e3⟩ := Owns.get (i := i) h3 (by simpa using e)
    exact ⟨u, C, by simpa using e1, e2, fun a ha => List.mem_append_right _ (e3 a ha)⟩

section
variable {κ : Type} [DecidableEq κ] {K : PySem.W.Frag} {H : Hp}
def lookP (kvs : List (κ × P)) (k : κ) : Option P := (kvs.find? fun kv => decide (kv.1 = k)).map (·.2)
def putP (kvs : List (κ × P)) (k : κ) (x : P) : List (κ × P) := if (kvs.any fun kv => decide (kv.1 = k)) = true then kvs.map fun kv => if kv.1 = k then (kv.1, x) else kv else kvs ++ [(k, x)]
def dropP (kvs : List (κ × P)) (k : κ) : List (κ × P) := kvs.filter fun kv => decide (kv.1 ≠ k)
theorem RepK.length : ∀ {xs : List (κ × P)} {vs : List (κ × V)}, RepK K H xs vs → vs.length = xs.length
  | [], _, h => by cases h; rfl
  | (k, x) :: xs, _, h => by
    obtain ⟨v, ws, rfl, h2, h3⟩ := h
    simp [RepK.length h3]
theorem RepK.keys : ∀ {xs : List (κ × P)} {vs : List (κ × V)}, RepK K H xs vs → vs.map (·.1) = xs.map (·.1)
  | [], _, h => by cases h; rfl
  | (k, x) :: xs, _, h => by
    obtain ⟨v, ws, rfl, h2, h3⟩ := h
    simp [RepK.keys h3]
theorem RepK.look (k : κ) : ∀ {xs : List (κ × P)} {vs : List (κ × V)}, RepK K H xs vs → (lookP xs k = none ∧ valV vs k = none) ∨ ∃ x v, lookP xs k = some x ∧ valV vs k = some v ∧ RepP K H x v
  | [], _, h => by cases h; exact .inl ⟨rfl, rfl⟩
  | (j, x) :: xs, _, h => by
    obtain ⟨v, ws, rfl, h2, h3⟩ := h
    by_cases e : j = k
    · exact .inr ⟨x, v, by simp [lookP, List.find?_cons, e], valV_pos e, h2⟩
    · rw [valV_neg (p := (j, v)) e]
      have : lookP ((j, x) :: xs) k = lookP xs k := by simp [lookP, List.find?_cons, e]
      rw [this]
      exact RepK.look k h3
theorem RepK.any (k : κ) : ∀ {xs : List (κ × P)} {vs : List (κ × V)}, RepK K H xs vs → (vs.any fun kv => decide (kv.1 = k)) = xs.any fun kv => decide (kv.1 = k)
  | [], _, h => by cases h; rfl
  | (j, x) :: xs, _, h => by
    obtain ⟨v, ws, rfl, h2, h3⟩ := h
    rw [List.any_cons, List.any_cons, RepK.any k h3]
theorem RepK.append : ∀ {xs ys : List (κ × P)} {vs ws : List (κ × V)}, RepK K H xs vs → RepK K H ys ws → RepK K H (xs ++ ys) (vs ++ ws)
  | [], _, _, _, h, g => by cases h; exact g
  | (j, x) :: xs, _, _, _, h, g => by
    obtain ⟨v, ws, rfl, h2, h3⟩ := h
    exact ⟨v, _, rfl, h2, RepK.append h3 g⟩
theorem RepK.repl (k : κ) {y : P} {w : V} (r : RepP K H y w) : ∀ {xs : List (κ × P)} {vs : List (κ × V)}, RepK K H xs vs → RepK K H (xs.map fun kv => if kv.1 = k then (kv.1, y) else kv) (vs.map fun kv => if kv.1 = k then (kv.1, w) else kv)
  | [], _, h => by cases h; rfl
  | (j, x) :: xs, _, h => by
    obtain ⟨v, ws, rfl, h2, h3⟩ := h
    have := RepK.repl k r h3
    by_cases e : j = k
    · subst e
      simp only [List.map_cons, if_true]
      exact ⟨w, _, rfl, r, this⟩
    · simp only [List.map_cons, e, if_false]
      exact ⟨v, _, rfl, h2, this⟩
theorem RepK.put (k : κ) {y : P} {w : V} (r : RepP K H y w) {xs : List (κ × P)} {vs : List (κ × V)} (h : RepK K H xs vs) : RepK K H (putP xs k y) (putK vs k w) := by
  unfold putP putK
  rw [h.any k]
  split
  · exact h.repl k r
  · exact h.append ⟨w, [], rfl, r, rfl⟩
theorem RepK.drop (k : κ) : ∀ {xs : List (κ × P)} {vs : List (κ × V)}, RepK K H xs vs → RepK K H (dropP xs k) (dropK vs k)
  | [], _, h => by cases h; rfl
  | (j, x) :: xs, _, h => by
    obtain ⟨v, ws, rfl, h2, h3⟩ := h
    have := RepK.drop k h3
    unfold dropP dropK at this ⊢
    by_cases e : j = k
    · simpa [List.filter_cons, e] using this
    · simp only [List.filter_cons, ne_eq, e, not_false_eq_true, decide_true, if_true]
      exact ⟨v, _, rfl, h2, this⟩
theorem lookP_cons (k j : κ) (x : P) (r : List (κ × P)) : lookP ((k, x) :: r) j = if k = j then some x else lookP r j := by
  by_cases e : k = j
  · simp [lookP, List.find?_cons, e]
  · simp [lookP, List.find?_cons, e]
theorem lookP_any (k : κ) : ∀ kvs : List (κ × P), (kvs.any fun kv => decide (kv.1 = k)) = (lookP kvs k).isSome
  | [] => rfl
  | (j, x) :: r => by
    rw [List.any_cons, lookP_cons, lookP_any k r]
    by_cases e : j = k <;> simp [e]
theorem lookP_map (k j : κ) (y : P) : ∀ kvs : List (κ × P), lookP (kvs.map fun kv => if kv.1 = k then (kv.1, y) else kv) j = (lookP kvs j).map fun x => if j = k then y else x
  | [] => rfl
  | (i, x) :: r => by
    have ih := lookP_map k j y r
    rw [List.map_cons, lookP_cons]
    by_cases e : i = k
    · subst e
      simp only [if_true]
      rw [lookP_cons]
      by_cases e2 : i = j
      · subst e2; simp
      · simp [e2, ih]
    · simp only [e, if_false]
      rw [lookP_cons]
      by_cases e2 : i = j
      · subst e2; simp [e]
      · simp [e2, ih]
theorem lookP_snoc (k j : κ) (y : P) : ∀ kvs : List (κ × P), lookP kvs k = none → lookP (kvs ++ [(k, y)]) j = if j = k then some y else lookP kvs j
  | [], _ => by
    rw [List.nil_append, lookP_cons]
    by_cases e : j = k
    · simp [e]
    · simp [e, Ne.symm e, lookP]
  | (i, x) :: r, h => by
    rw [lookP_cons] at h
    by_cases e : i = k
    · rw [if_pos e] at h; cases h
    · rw [if_neg e] at h
      rw [List.cons_append, lookP_cons, lookP_cons, lookP_snoc k j y r h]
      by_cases e2 : i = j
      · subst e2; simp [e]
      · simp [e2]
theorem lookP_put (kvs : List (κ × P)) (k j : κ) (x : P) : lookP (putP kvs k x) j = if j = k then some x else lookP kvs j := by
  unfold putP
  split
  · rename_i h
    rw [lookP_any] at h
    rw [lookP_map]
    by_cases e : j = k
    · subst e
      obtain ⟨y, e⟩ := Option.isSome_iff_exists.mp h
      simp [e]
    · simp only [e, if_false]
      cases lookP kvs j <;> rfl
  · rename_i h
    rw [lookP_any] at h
    exact lookP_snoc k j x kvs (by simpa using h)
theorem lookP_drop (kvs : List (κ × P)) (k j : κ) : lookP (dropP kvs k) j = if j = k then none else lookP kvs j := by
  induction kvs with
  | nil => simp [dropP, lookP]
  | cons p r ih =>
    obtain ⟨i, x⟩ := p
    unfold dropP at ih ⊢
    rw [List.filter_cons]
    by_cases e : i = k
    · subst e
      simp only [ne_eq, not_true, decide_false, Bool.false_eq_true, if_false]
      rw [ih, lookP_cons]
      by_cases e2 : j = i
      · simp [e2]
      · simp [e2, Ne.symm e2]
    · simp only [ne_eq, e, not_false_eq_true, decide_true, if_true]
      rw [lookP_cons, lookP_cons, ih]
      by_cases e2 : i = j
      · subst e2; simp [e]
      · simp [e2]
end
end VL
/-! Eng2: slots, frames, the judgement of an expression. -/
namespace VL
open PySem PySem.Spec PyProof.Rows L2

/-- a slot: empty; a value of its own; a list of the caller's that may be changed; another name for a list that is read; a locked one -/
inductive Sl where
  | e | o (d : D) | b (d : D) | r (g : Nat) (d : D) | k (d : D)
def Sl.dat : Sl → Option D
  | .e => none
  | .o d => some d
  | .b d => some d
  | .r _ d => some d
  | .k d => some d
/-- the slot holds its value itself -/
def Sl.ow : Sl → Bool
  | .o _ => true
  | .b _ => true
  | .k _ => true
  | _ => false
/-- locked -/
def Sl.isk : Sl → Bool
  | .k _ => true
  | _ => false
/-- another name for what is within slot i -/
def Sl.of (i : Nat) : Sl → Bool
  | .r g _ => g == i + 1
  | _ => false
def Sl.wr : Sl → Bool
  | .o _ => true
  | .b _ => true
  | _ => false
abbrev En := List Sl
abbrev Ft := Nat → List Addr

structure S (K : PySem.W.Frag) (H : Hp) (en : En) (σ : L2.St) (F : Ft) : Prop where
  len : en.length = σ.length
  own : ∀ (i : Nat) s d, en[i]? = some s → s.dat = some d → ∃ v, σ[i]? = some (some v) ∧ Own K H d v (F i)
  dis : ∀ (i j : Nat) s s' d, en[i]? = some s → en[j]? = some s' → s.ow = true → s'.dat = some d → s'.of i = false → i ≠ j → ∀ a, a ∈ F i → a ∉ F j
  tag : ∀ (i j : Nat) s s', en[i]? = some s → en[j]? = some s' → s'.of i = true → s.isk = true
def Wr (en : En) (F : Ft) (a : Addr) : Prop := ∃ (i : Nat) (s : Sl), en[i]? = some s ∧ s.wr = true ∧ a ∈ F i
def Us (en : En) (F : Ft) (a : Addr) : Prop := ∃ (i : Nat) (s : Sl) (d : D), en[i]? = some s ∧ s.dat = some d ∧ a ∈ F i
theorem Sl.wr_dat {s : Sl} (h : s.wr = true) : ∃ d, s.dat = some d := by
  cases s with
  | o d => exact ⟨d, rfl⟩
  | b d => exact ⟨d, rfl⟩
  | e => cases h
  | r g d => cases h
  | k d => cases h
theorem Sl.ow_dat {s : Sl} (h : s.ow = true) : ∃ d, s.dat = some d := by
  cases s with
  | o d => exact ⟨d, rfl⟩
  | b d => exact ⟨d, rfl⟩
  | e => cases h
  | r g d => cases h
  | k d => exact ⟨d, rfl⟩
theorem Sl.wr_ow {s : Sl} (h : s.wr = true) : s.ow = true := by
  cases s with
  | o d => rfl
  | b d => rfl
  | e => cases h
  | r g d => cases h
  | k d => rfl
/-- what a slot that may be written holds is in no other slot -/
theorem S.dis' {K : PySem.W.Frag} {H : Hp} {en : En} {σ : L2.St} {F : Ft} (z : S K H en σ F) {i j : Nat} {s s' : Sl} {d : D} (h1 : en[i]? = some s) (h2 : en[j]? = some s') (hw : s.wr = true) (hd : s'.dat = some d) (hij : i ≠ j) :
    ∀ a, a ∈ F i → a ∉ F j := by
  refine z.dis i j s s' d h1 h2 (s.wr_ow hw) hd ?_ hij
  cases q : s'.of i with
  | false => rfl
  | true =>
    have := z.tag i j s s' h1 h2 q
    cases s <;> first | (cases hw; done) | (cases this; done)
theorem Wr.us {en : En} {F : Ft} {a : Addr} (h : Wr en F a) : Us en F a := by
  obtain ⟨i, s, h1, h2, h3⟩ := h
  obtain ⟨d, hd⟩ := s.wr_dat h2
  exact ⟨i, s, d, h1, hd, h3⟩
structure Fr (H : Hp) (W U : Addr → Prop) (H' : Hp) (W' U' : Addr → Prop) : Prop where
  keep : ∀ b o, H b = some o → ¬ W b → H' b = some o
  wr : ∀ b, W' b → W b ∨ H b = none
  us : ∀ b, U' b → U b ∨ H b = none
theorem Fr.refl {H : Hp} {W U W' U' : Addr → Prop} (h1 : ∀ b, W' b → W b) (h2 : ∀ b, U' b → U b) : Fr H W U H W' U' :=
  ⟨fun _ _ h _ => h, fun b h => .inl (h1 b h), fun b h => .inl (h2 b h)⟩
theorem Fr.trans {H H1 H2 : Hp} {W U W1 U1 W1' U1' W2 U2 W3 U3 : Addr → Prop} (a : Fr H W U H1 W1 U1) (b : Fr H1 W1' U1' H2 W2 U2) (wu : ∀ x, W x → U x)
    (h1 : ∀ x, W1' x → W1 x) (h2 : ∀ x, U1' x → U1 x) (h3 : ∀ x, W3 x → W2 x ∨ W1 x) (h4 : ∀ x, U3 x → U2 x ∨ U1 x) : Fr H W U H2 W3 U3 := by
  have nn : ∀ x, H1 x = none → W x ∨ H x = none := fun x h => by
    cases q : H x with
    | none => exact .inr rfl
    | some o =>
      by_cases hw : W x
      · exact .inl hw
      · rw [a.keep x o q hw] at h; cases h
  refine ⟨fun x o h hw => ?_, fun x h => ?_, fun x h => ?_⟩
  · refine b.keep x o (a.keep x o h hw) fun z => ?_
    rcases a.wr x (h1 x z) with q | q
    · exact hw q
    · rw [h] at q; cases q
  · rcases h3 x h with z | z
    · rcases b.wr x z with q | q
      · exact a.wr x (h1 x q)
      · exact nn x q
    · exact a.wr x z
  · rcases h4 x h with z | z
    · rcases b.us x z with q | q
      · exact a.us x (h2 x q)
      · exact (nn x q).imp (wu x) id
    · exact a.us x z
section
variable {K : PySem.W.Frag} {H H' : Hp} {en en' : En} {σ : L2.St} {F F' : Ft}
theorem S.at (s : S K H en σ F) {a : Addr} (h : Us en F a) : ∃ o, H a = some o ∧ ¬ TupO o := by
  obtain ⟨i, sl, d, h1, h2, h3⟩ := h
  obtain ⟨v, _, q⟩ := s.own i sl d h1 h2
  exact q.at a h3
theorem Fr.ext {W' U' : Addr → Prop} (f : Fr H (Wr en F) (Us en F) H' W' U') (s : S K H en σ F) : Ext H H' := fun b o h t => f.keep b o h fun z => by
  obtain ⟨o', e, n⟩ := s.at z.us
  rw [h] at e; cases e
  exact n t
/-- a value beside the slots stays -/
theorem Fr.temp {W' U' : Addr → Prop} (f : Fr H (Wr en F) (Us en F) H' W' U') (s : S K H en σ F) {d : D} {v : V} {B : List Addr} (o : Own K H d v B) (off : ∀ a ∈ B, ¬ Us en F a) :
    Own K H' d v B ∧ (∀ a ∈ B, ¬ W' a) ∧ ∀ a ∈ B, ¬ U' a := by
  refine ⟨o.kept (f.ext s) fun a ha ob e => f.keep a ob e fun z => off a ha z.us, fun a ha z => ?_, fun a ha z => ?_⟩
  · obtain ⟨ob, e, _⟩ := o.at a ha
    rcases f.wr a z with q | q
    · exact off a ha q.us
    · rw [e] at q; cases q
  · obtain ⟨ob, e, _⟩ := o.at a ha
    rcases f.us a z with q | q
    · exact off a ha q
    · rw [e] at q; cases q
theorem Fr.temps {W' U' : Addr → Prop} (f : Fr H (Wr en F) (Us en F) H' W' U') (s : S K H en σ F) {d : List D} {v : List V} {B : List Addr} (o : Owns K H d v B) (off : ∀ a ∈ B, ¬ Us en F a) :
    Owns K H' d v B ∧ (∀ a ∈ B, ¬ W' a) ∧ ∀ a ∈ B, ¬ U' a := by
  refine ⟨o.kept (f.ext s) fun a ha ob e => f.keep a ob e fun z => off a ha z.us, fun a ha z => ?_, fun a ha z => ?_⟩
  · obtain ⟨ob, e, _⟩ := o.at a ha
    rcases f.wr a z with q | q
    · exact off a ha q.us
    · rw [e] at q; cases q
  · obtain ⟨ob, e, _⟩ := o.at a ha
    rcases f.us a z with q | q
    · exact off a ha q
    · rw [e] at q; cases q
end
/-- what stays of the slots' kinds -/
structure Kp (en : En) (F : Ft) (en' : En) (F' : Ft) : Prop where
  len : en'.length = en.length
  b : ∀ (i : Nat) d, en[i]? = some (.b d) → ∃ d', en'[i]? = some (.b d')
  k : ∀ (i : Nat) d, en[i]? = some (.k d) → en'[i]? = some (.k d) ∧ F' i = F i
  kb : ∀ (i : Nat) d, en'[i]? = some (.k d) → en[i]? = some (.k d)
theorem Kp.refl (en : En) (F : Ft) : Kp en F en F := ⟨rfl, fun _ d h => ⟨d, h⟩, fun _ _ h => ⟨h, rfl⟩, fun _ _ h => h⟩
theorem Kp.trans {en en1 en2 : En} {F F1 F2 : Ft} (a : Kp en F en1 F1) (b : Kp en1 F1 en2 F2) : Kp en F en2 F2 :=
  ⟨b.len.trans a.len, fun i d h => by obtain ⟨d', h'⟩ := a.b i d h; exact b.b i d' h', fun i d h => ⟨(b.k i d (a.k i d h).1).1, (b.k i d (a.k i d h).1).2.trans (a.k i d h).2⟩, fun i d h => a.kb i d (b.kb i d h)⟩

/-! ### expressions -/
/-- the weakest reading -/
def wpE (X : Cx) (e : Expr) : TE := fun σ H Q => ∀ (pins : List (Addr × Obj)) (s : Shared), Inv X pins σ H s → wpAny (model X.prog X.w) X.A (eval e X.env) (EP X pins σ Q) X.xe s
theorem pe_wp (X : Cx) (e : Expr) : PE X e (wpE X e) := ⟨fun pins s _ _ _ I h => h pins s I⟩
theorem wpE.of {X : Cx} {e : Expr} {t : TE} (h : PE X e t) {σ : L2.St} {H : Hp} {Q : VK} (q : t σ H Q) : wpE X e σ H Q := fun pins s I => h.run pins s σ H Q I q
theorem ep_mono {X : Cx} {pins : List (Addr × Obj)} {σ : L2.St} {Q Q' : VK} {u : Value} {s : Shared} (h : EP X pins σ Q u s) (k : ∀ v H, Q v H → Q' v H) : EP X pins σ Q' u s := by
  obtain ⟨v, H, I, r, q⟩ := h
  exact ⟨v, H, I, r, k v H q⟩
theorem wpE.mono {X : Cx} {e : Expr} {σ : L2.St} {H : Hp} {Q Q' : VK} (h : wpE X e σ H Q) (k : ∀ v H, Q v H → Q' v H) : wpE X e σ H Q' := fun pins s I => thn (h pins s I) fun _ _ q => ep_mono q k
def wpA (X : Cx) (es : List Expr) : TA := fun σ H Q => ∀ (pos : Pos) (pins : List (Addr × Obj)) (s : Shared), Inv X pins σ H s → wpAny (model X.prog X.w) X.A (spliced (backTo pos (starEach es X.env))) (AP X pins σ Q) X.xe s
theorem pa_wp (X : Cx) (es : List Expr) : PA X es (wpA X es) := ⟨fun pos pins s _ _ _ I h => h pos pins s I⟩
theorem wpA.of {X : Cx} {e : List Expr} {t : TA} (h : PA X e t) {σ : L2.St} {H : Hp} {Q : List V → Hp → Prop} (q : t σ H Q) : wpA X e σ H Q := fun pos pins s I => h.run pos pins s σ H Q I q
def wpT (X : Cx) (e : Expr) : TT := fun σ H Q => ∀ (pins : List (Addr × Obj)) (s : Shared), Inv X pins σ H s → wpAny (model X.prog X.w) X.A (isTrue e X.env (eval e X.env)) (TP X pins σ Q) X.xe s
theorem pt_wp (X : Cx) (e : Expr) : PT X e (wpT X e) := ⟨fun pins s _ _ _ I h => h pins s I⟩
theorem wpT.of {X : Cx} {e : Expr} {t : TT} (h : PT X e t) {σ : L2.St} {H : Hp} {Q : Bool → Hp → Prop} (q : t σ H Q) : wpT X e σ H Q := fun pins s I => h.run pins s σ H Q I q
theorem wpT.mono {X : Cx} {e : Expr} {σ : L2.St} {H : Hp} {Q Q' : Bool → Hp → Prop} (h : wpT X e σ H Q) (k : ∀ v H, Q v H → Q' v H) : wpT X e σ H Q' := fun pins s I => thn (h pins s I) fun b _ ⟨H1, I1, q⟩ => ⟨H1, I1, k b H1 q⟩
def wpW (X : Cx) (e : Expr) : TT := fun σ H Q => ∀ (whole : Sem Value) (pins : List (Addr × Obj)) (s : Shared), Inv X pins σ H s → wpAny (model X.prog X.w) X.A (isTrue e X.env whole) (TP X pins σ Q) X.xe s
theorem pw_wp (X : Cx) (e : Expr) : PW X e (wpW X e) := ⟨fun wh pins s _ _ _ I h => h wh pins s I⟩
theorem wpW.of {X : Cx} {e : Expr} {t : TT} (h : PW X e t) {σ : L2.St} {H : Hp} {Q : Bool → Hp → Prop} (q : t σ H Q) : wpW X e σ H Q := fun wh pins s I => h.run wh pins s σ H Q I q

abbrev VT := En → (D → En → Prop) → Prop
/-- what stands behind an expression -/
def EPo (K : PySem.W.Frag) (H : Hp) (en : En) (σ : L2.St) (F : Ft) (Q : D → En → Prop) : VK := fun v H' => ∃ d en' F' B, S K H' en' σ F' ∧ Own K H' d v B ∧ (∀ a ∈ B, ¬ Us en' F' a) ∧
  Fr H (Wr en F) (Us en F) H' (fun a => Wr en' F' a ∨ a ∈ B) (fun a => Us en' F' a ∨ a ∈ B) ∧ Kp en F en' F' ∧ Q d en'
structure QE (X : Cx) (e : Expr) (t : VT) : Prop where
  run : ∀ σ H en F Q, S X.K H en σ F → t en Q → wpE X e σ H (EPo X.K H en σ F Q)
abbrev VA := En → (List D → En → Prop) → Prop
def APo (K : PySem.W.Frag) (H : Hp) (en : En) (σ : L2.St) (F : Ft) (Q : List D → En → Prop) : List V → Hp → Prop := fun vs H' => ∃ ds en' F' B, S K H' en' σ F' ∧ Owns K H' ds vs B ∧ (∀ a ∈ B, ¬ Us en' F' a) ∧
  Fr H (Wr en F) (Us en F) H' (fun a => Wr en' F' a ∨ a ∈ B) (fun a => Us en' F' a ∨ a ∈ B) ∧ Kp en F en' F' ∧ Q ds en'
structure QA (X : Cx) (es : List Expr) (t : VA) : Prop where
  run : ∀ σ H en F Q, S X.K H en σ F → t en Q → wpA X es σ H (APo X.K H en σ F Q)
abbrev VTst := En → (Bool → En → Prop) → Prop
def TPo (K : PySem.W.Frag) (H : Hp) (en : En) (σ : L2.St) (F : Ft) (Q : Bool → En → Prop) : Bool → Hp → Prop := fun b H' => ∃ en' F', S K H' en' σ F' ∧ Fr H (Wr en F) (Us en F) H' (Wr en' F') (Us en' F') ∧ Kp en F en' F' ∧ Q b en'
structure QT (X : Cx) (e : Expr) (t : VTst) : Prop where
  run : ∀ σ H en F Q, S X.K H en σ F → t en Q → wpT X e σ H (TPo X.K H en σ F Q)
structure QW (X : Cx) (e : Expr) (t : VTst) : Prop where
  run : ∀ σ H en F Q, S X.K H en σ F → t en Q → wpW X e σ H (TPo X.K H en σ F Q)

section
variable {X : Cx} {e a b : Expr} {es : List Expr} {t ta tb : VT} {pos : Pos}
/-- plain data handed on, the slots untouched -/
theorem EPo.pure {K : PySem.W.Frag} {H H' : Hp} {en : En} {σ : L2.St} {F : Ft} {Q : D → En → Prop} {v : V} {x : P} (s : S K H en σ F) (k : ∀ b o, H b = some o → H' b = some o) (r : RepP K H' x v) (q : Q (.p x) en) : EPo K H en σ F Q v H' := by
  have ex : Ext H H' := fun b o h _ => k b o h
  refine ⟨.p x, en, F, [], ⟨s.len, fun i sl d h1 h2 => ?_, s.dis, s.tag⟩, ⟨rfl, r⟩, by simp, ⟨fun b o h _ => k b o h, fun b h => ?_, fun b h => ?_⟩, Kp.refl en F, q⟩
  · obtain ⟨u, e, o⟩ := s.own i sl d h1 h2
    exact ⟨u, e, o.kept ex fun a _ ob z => k a ob z⟩
  · exact .inl (h.resolve_right (by simp))
  · exact .inl (h.resolve_right (by simp))

/-! constants -/
def tC (x : P) : VT := fun en Q => Q (.p x) en
theorem q_of_const {v : V} {x : P} (h : PE X e (L2.tC v)) (r : ∀ K H, RepP K H x v) : QE X e (tC x) := ⟨fun σ H en F Q s q => wpE.of h (EPo.pure s (fun _ _ h => h) (r _ _) q)⟩
theorem q_int {i : Int} {j pos} : QE X (.Constant (.int i) j pos) (tC (.int i)) := q_of_const pe_int fun _ _ => rfl
theorem q_bl {b : Bool} {j pos} : QE X (.Constant (.bool b) j pos) (tC (.bl b)) := q_of_const pe_bl fun _ _ => rfl
theorem q_non {j pos} : QE X (.Constant .none j pos) (tC .non) := q_of_const pe_non fun _ _ => rfl
theorem q_str {x : Str} {j pos} : QE X (.Constant (.str x) j pos) (tC (.str x)) := q_of_const pe_str fun _ _ => rfl

/-! a name -/
/-- reading a slot: plain data are copied, an own list is moved -/
def rdS (s : Option Sl) (en : En) (i : Nat) (Q : D → En → Prop) : Prop := match s with
  | some (.o (.p x)) => Q (.p x) en
  | some (.b (.p x)) => Q (.p x) en
  | some (.r _ (.p x)) => Q (.p x) en
  | some (.k (.p x)) => Q (.p x) en
  | some (.o d) => Q d (en.set i .e)
  | _ => False
def tVar (i : Nat) : VT := fun en Q => rdS en[i]? en i Q
theorem q_var (i : Nat) (h : PE X e (L2.tVar i)) : QE X e (tVar i) := by
  refine ⟨fun σ H en F Q s q => wpE.of h ?_⟩
  have cp : ∀ (sl : Sl) (x : P), en[i]? = some sl → sl.dat = some (.p x) → Q (.p x) en → L2.tVar i σ H (EPo X.K H en σ F Q) := fun sl x h1 h2 q => by
    obtain ⟨v, e, o⟩ := s.own i sl _ h1 h2
    exact ⟨v, e, EPo.pure s (fun _ _ h => h) o.2 q⟩
  have mv : ∀ (d : D), en[i]? = some (.o d) → Q d (en.set i .e) → L2.tVar i σ H (EPo X.K H en σ F Q) := fun d h1 q => by
    obtain ⟨v, e, o⟩ := s.own i _ d h1 rfl
    have hi : i < en.length := (List.getElem?_eq_some_iff.mp h1).1
    have un : ∀ (j : Nat) sl d', (en.set i .e)[j]? = some sl → sl.dat = some d' → j ≠ i ∧ en[j]? = some sl := fun j sl d' h2 h3 => by
      by_cases hj : i = j
      · subst hj
        rw [List.getElem?_set_self hi] at h2; cases h2; cases h3
      · rw [List.getElem?_set_ne hj] at h2
        exact ⟨fun z => hj z.symm, h2⟩
    have us : ∀ a, Us (en.set i .e) F a → Us en F a := fun a ⟨j, sl, d', h1, h2, h3⟩ => ⟨j, sl, d', (un j sl d' h1 h2).2, h2, h3⟩
    refine ⟨v, e, d, en.set i .e, F, F i, ⟨by rw [List.length_set]; exact s.len, fun j sl d' h2 h3 => s.own j sl d' (un j sl d' h2 h3).2 h3, fun j k sl sl' d' h2 h3 h4 h5 => ?_, fun j k sl sl' h2 h3 h4 => ?_⟩, o, fun a ha z => ?_, Fr.refl (fun a z => ?_) (fun a z => ?_), ?_, q⟩
    · obtain ⟨d'', hd⟩ := sl.ow_dat h4
      exact s.dis j k sl sl' d' (un j sl d'' h2 hd).2 (un k sl' d' h3 h5).2 h4 h5
    · obtain ⟨d2, hd2⟩ : ∃ d2, sl'.dat = some d2 := by
        cases sl' with
        | r g d2 => exact ⟨d2, rfl⟩
        | _ => cases h4
      by_cases hj : i = j
      · subst hj
        have := s.tag i k _ sl' h1 (un k sl' d2 h3 hd2).2 h4
        cases this
      · rw [List.getElem?_set_ne hj] at h2
        exact s.tag j k sl sl' h2 (un k sl' d2 h3 hd2).2 h4
    · obtain ⟨j, sl, d', h2, h3, h4⟩ := z
      obtain ⟨n, h2'⟩ := un j sl d' h2 h3
      exact s.dis' h1 h2' rfl h3 n.symm a ha h4
    · rcases z with ⟨j, sl, h2, h3, h4⟩ | z
      · obtain ⟨d'', hd⟩ := sl.wr_dat h3
        exact ⟨j, sl, (un j sl d'' h2 hd).2, h3, h4⟩
      · exact ⟨i, _, h1, rfl, z⟩
    · rcases z with z | z
      · exact us a z
      · exact ⟨i, _, d, h1, rfl, z⟩
    · refine ⟨List.length_set, fun j d' h2 => ?_, fun j d' h2 => ?_, fun j d' h2 => ?_⟩
      · have hj : i ≠ j := fun z => by subst z; rw [h1] at h2; cases h2
        exact ⟨d', by rw [List.getElem?_set_ne hj]; exact h2⟩
      · have hj : i ≠ j := fun z => by subst z; rw [h1] at h2; cases h2
        exact ⟨by rw [List.getElem?_set_ne hj]; exact h2, rfl⟩
      · have hj : i ≠ j := fun z => by subst z; rw [List.getElem?_set_self hi] at h2; cases h2
        rw [List.getElem?_set_ne hj] at h2; exact h2
  unfold tVar rdS at q
  split at q
  · rename_i x h1; exact cp _ x h1 rfl q
  · rename_i x h1; exact cp _ x h1 rfl q
  · rename_i _ x h1; exact cp _ x h1 rfl q
  · rename_i x h1; exact cp _ x h1 rfl q
  · rename_i d _ h1; exact mv d h1 q
  · exact q.elim
end
end VL
/-! Eng3: references, operators, comparisons, tests. -/
namespace VL
open PySem PySem.Spec PyProof.Rows L2

/-- an operand: a value, or the name of a slot, to be looked at when the operation is done -/
inductive Rf where
  | v (d : D) | n (j : Nat)
def Rf.get : Rf → En → Option D
  | .v d, _ => some d
  | .n j, en => (en[j]?).bind Sl.dat
def RfO (K : PySem.W.Frag) (H : Hp) (σ : L2.St) (rf : Rf) (v : V) (B : List Addr) : Prop := match rf with
  | .v d => Own K H d v B
  | .n j => B = [] ∧ σ[j]? = some (some v)
abbrev VR := En → (Rf → En → Prop) → Prop
def RPo (K : PySem.W.Frag) (H : Hp) (en : En) (σ : L2.St) (F : Ft) (Q : Rf → En → Prop) : VK := fun v H' => ∃ rf en' F' B, S K H' en' σ F' ∧ RfO K H' σ rf v B ∧ (∀ a ∈ B, ¬ Us en' F' a) ∧
  Fr H (Wr en F) (Us en F) H' (fun a => Wr en' F' a ∨ a ∈ B) (fun a => Us en' F' a ∨ a ∈ B) ∧ Kp en F en' F' ∧ Q rf en'
structure QR (X : Cx) (e : Expr) (t : VR) : Prop where
  run : ∀ σ H en F Q, S X.K H en σ F → t en Q → wpE X e σ H (RPo X.K H en σ F Q)
section
variable {X : Cx} {e a b c : Expr} {es : List Expr} {t : VT} {pos : Pos}
def tRv (t : VT) : VR := fun en Q => t en fun d en' => Q (.v d) en'
theorem q_rv (h : QE X e t) : QR X e (tRv t) := ⟨fun σ H en F Q s q => (h.run σ H en F _ s q).mono fun v H' ⟨d, en', F', B, s', o, off, fr, kp, q⟩ => ⟨.v d, en', F', B, s', o, off, fr, kp, q⟩⟩
def isD (s : Option Sl) (p : Prop) : Prop := match s with
  | some (.o _) => p
  | some (.b _) => p
  | some (.r _ _) => p
  | some (.k _) => p
  | _ => False
def tRn (j : Nat) : VR := fun en Q => isD en[j]? (Q (.n j) en)
theorem isD_of {s : Option Sl} {p : Prop} (h : isD s p) : ∃ sl d, s = some sl ∧ sl.dat = some d ∧ p := by
  unfold isD at h
  split at h
  · exact ⟨_, _, rfl, rfl, h⟩
  · exact ⟨_, _, rfl, rfl, h⟩
  · exact ⟨_, _, rfl, rfl, h⟩
  · exact ⟨_, _, rfl, rfl, h⟩
  · exact h.elim
theorem Fr.same {H : Hp} {en : En} {F : Ft} : Fr H (Wr en F) (Us en F) H (fun a => Wr en F a ∨ a ∈ ([] : List Addr)) (fun a => Us en F a ∨ a ∈ ([] : List Addr)) :=
  Fr.refl (fun _ h => h.resolve_right (by simp)) (fun _ h => h.resolve_right (by simp))
theorem q_rn (j : Nat) (h : PE X e (L2.tVar j)) : QR X e (tRn j) := by
  refine ⟨fun σ H en F Q s q => wpE.of h ?_⟩
  obtain ⟨sl, d, h1, h2, q⟩ := isD_of q
  obtain ⟨v, e, o⟩ := s.own j sl d h1 h2
  exact ⟨v, e, .n j, en, F, [], s, ⟨rfl, e⟩, by simp, Fr.same, Kp.refl en F, q⟩
/-- the value of an operand, at last -/
theorem RfO.get {K : PySem.W.Frag} {H : Hp} {en : En} {σ : L2.St} {F : Ft} {rf : Rf} {v : V} {B : List Addr} {d : D} (s : S K H en σ F) (r : RfO K H σ rf v B) (h : rf.get en = some d) : ∃ C, Own K H d v C ∧ ∀ a ∈ C, a ∈ B ∨ Us en F a := by
  cases rf with
  | v d' =>
    cases h
    exact ⟨B, r, fun a ha => .inl ha⟩
  | n j =>
    obtain ⟨_, e⟩ := r
    have h : (en[j]?).bind Sl.dat = some d := h
    cases q : en[j]? with
    | none => rw [q] at h; cases h
    | some sl =>
      rw [q] at h
      obtain ⟨u, e', o⟩ := s.own j sl d q h
      rw [e] at e'; cases e'
      exact ⟨F j, o, fun a ha => .inr ⟨j, sl, d, q, h, ha⟩⟩
theorem RfO.kept {K : PySem.W.Frag} {H H' : Hp} {en : En} {σ : L2.St} {F : Ft} {rf : Rf} {v : V} {B : List Addr} {W' U' : Addr → Prop} (s : S K H en σ F) (r : RfO K H σ rf v B) (off : ∀ a ∈ B, ¬ Us en F a)
    (f : Fr H (Wr en F) (Us en F) H' W' U') : RfO K H' σ rf v B ∧ (∀ a ∈ B, ¬ W' a) ∧ ∀ a ∈ B, ¬ U' a := by
  cases rf with
  | v d => exact f.temp s r off
  | n j =>
    obtain ⟨rfl, e⟩ := r
    exact ⟨⟨rfl, e⟩, by simp, by simp⟩
/-- two operands in a row -/
def Two (K : PySem.W.Frag) (H : Hp) (en : En) (σ : L2.St) (F : Ft) (R : Rf → Rf → En → Prop) (v1 v2 : V) (H2 : Hp) : Prop := ∃ r1 r2 en2 F2 B1 B2, S K H2 en2 σ F2 ∧ RfO K H2 σ r1 v1 B1 ∧ RfO K H2 σ r2 v2 B2 ∧
  (∀ a ∈ B1, ¬ Us en2 F2 a) ∧ (∀ a ∈ B2, ¬ Us en2 F2 a) ∧ (∀ a ∈ B1, a ∉ B2) ∧
  Fr H (Wr en F) (Us en F) H2 (fun a => Wr en2 F2 a ∨ a ∈ B1 ∨ a ∈ B2) (fun a => Us en2 F2 a ∨ a ∈ B1 ∨ a ∈ B2) ∧ Kp en F en2 F2 ∧ R r1 r2 en2
theorem two {ta tb : VR} (ha : QR X a ta) (hb : QR X b tb) {σ : L2.St} {H : Hp} {en : En} {F : Ft} {R : Rf → Rf → En → Prop} (s : S X.K H en σ F) (q : ta en fun r1 en1 => tb en1 fun r2 en2 => R r1 r2 en2) :
    wpE X a σ H fun v1 H1 => wpE X b σ H1 fun v2 H2 => Two X.K H en σ F R v1 v2 H2 := by
  refine (ha.run σ H en F _ s q).mono fun v1 H1 ⟨r1, en1, F1, B1, s1, o1, off1, fr1, kp1, q1⟩ => ?_
  refine (hb.run σ H1 en1 F1 _ s1 q1).mono fun v2 H2 ⟨r2, en2, F2, B2, s2, o2, off2, fr2, kp2, q2⟩ => ?_
  obtain ⟨o1', w1, u1⟩ := o1.kept s1 off1 fr2
  refine ⟨r1, r2, en2, F2, B1, B2, s2, o1', o2, fun a h z => u1 a h (.inl z), off2, fun a h z => u1 a h (.inr z), fr1.trans fr2 (fun _ => Wr.us) (fun _ h => .inl h) (fun _ h => .inl h) (fun x h => ?_) (fun x h => ?_), kp1.trans kp2, q2⟩
  · rcases h with h | h | h
    · exact .inl (.inl h)
    · exact .inr (.inr h)
    · exact .inl (.inr h)
  · rcases h with h | h | h
    · exact .inl (.inl h)
    · exact .inr (.inr h)
    · exact .inl (.inr h)
/-- all that stands is kept -/
def Grow (H H' : Hp) : Prop := ∀ b o, H b = some o → H' b = some o
theorem Grow.refl (H : Hp) : Grow H H := fun _ _ h => h
theorem Grow.ext {H H' : Hp} (g : Grow H H') : Ext H H' := fun b o h _ => g b o h
theorem Grow.upd {H : Hp} {p : Addr} {o : HO} (h : H p = none) : Grow H (upd H p o) := fun b u e => by rw [upd_ne (ne_of_none e h)]; exact e
theorem Grow.trans {H H1 H2 : Hp} (a : Grow H H1) (b : Grow H1 H2) : Grow H H2 := fun c o h => b c o (a c o h)
theorem S.grow {K : PySem.W.Frag} {H H' : Hp} {en : En} {σ : L2.St} {F : Ft} (s : S K H en σ F) (g : Grow H H') : S K H' en σ F :=
  ⟨s.len, fun i sl d h1 h2 => by obtain ⟨u, e, o⟩ := s.own i sl d h1 h2; exact ⟨u, e, o.kept g.ext fun a _ ob z => g a ob z⟩, s.dis, s.tag⟩
/-- an operation's end: the heap has grown, the value is new -/
theorem EPo.fin {K : PySem.W.Frag} {H H2 H3 : Hp} {en en2 : En} {σ : L2.St} {F F2 : Ft} {Q : D → En → Prop} {v : V} {d : D} {B : List Addr} {W' U' : Addr → Prop} (s2 : S K H2 en2 σ F2)
    (fr : Fr H (Wr en F) (Us en F) H2 W' U') (hw : ∀ a, Wr en2 F2 a → W' a) (hu : ∀ a, Us en2 F2 a → U' a) (kp : Kp en F en2 F2) (g : Grow H2 H3) (o : Own K H3 d v B) (new : ∀ a ∈ B, H2 a = none) (q : Q d en2) : EPo K H en σ F Q v H3 := by
  refine ⟨d, en2, F2, B, s2.grow g, o, fun a ha z => ?_, fr.trans (W1' := Wr en2 F2) (U1' := Us en2 F2) (W2 := fun a => Wr en2 F2 a ∨ a ∈ B) (U2 := fun a => Us en2 F2 a ∨ a ∈ B) ⟨fun b ob h _ => g b ob h, fun b h => ?_, fun b h => ?_⟩ (fun _ => Wr.us) hw hu (fun _ h => .inl h) (fun _ h => .inl h), kp, q⟩
  · obtain ⟨ob, e, _⟩ := s2.at z
    rw [new a ha] at e; cases e
  · exact h.imp id (new b)
  · exact h.imp id (new b)

/-! ### operators by values -/
abbrev F2 := D → D → (D → Prop) → Prop
/-- the value of an operator -/
def Op2 (X : Cx) (g : Value → Value → Sem Value) (f : F2) : Prop := ∀ (H : Hp) (x y : D) (v w : V) (B1 B2 : List Addr) (k : D → Prop), Own X.K H x v B1 → Own X.K H y w B2 → f x y k →
  ∃ r, OpR X g r ∧ ∀ Q : VK, (∀ z u H' B, Grow H H' → Own X.K H' z u B → (∀ b ∈ B, H b = none) → k z → Q u H') → r v w H Q
def bin2 (f : F2) (x y : Option D) (k : D → Prop) : Prop := match x, y with
  | some a, some b => f a b k
  | _, _ => False
def tBin (f : F2) (ta tb : VR) : VT := fun en Q => ta en fun r1 en1 => tb en1 fun r2 en2 => bin2 f (r1.get en2) (r2.get en2) fun z => Q z en2
theorem bin2_of {f : F2} {x y : Option D} {k : D → Prop} (h : bin2 f x y k) : ∃ a b, x = some a ∧ y = some b ∧ f a b k := by
  unfold bin2 at h
  split at h
  · exact ⟨_, _, rfl, rfl, h⟩
  · exact h.elim
/-- two operands and an operation -/
theorem bin_core {ta tb : VR} {f : F2} {g : Value → Value → Sem Value} (ho : Op2 X g f) (ha : QR X a ta) (hb : QR X b tb) {σ : L2.St} {H : Hp} {en : En} {F : Ft} {Q : D → En → Prop} (s : S X.K H en σ F) (q : tBin f ta tb en Q) :
    wpE X a σ H fun v1 H1 => wpE X b σ H1 fun v2 H2 => ∃ r, OpR X g r ∧ r v1 v2 H2 (EPo X.K H en σ F Q) := by
  refine (two ha hb s q).mono fun v1 H1 h => h.mono fun v2 H2 ⟨r1, r2, en2, F2, B1, B2, s2, o1, o2, off1, off2, dj, fr, kp, q⟩ => ?_
  obtain ⟨x, y, e1, e2, q⟩ := bin2_of q
  obtain ⟨C1, w1, _⟩ := o1.get s2 e1
  obtain ⟨C2, w2, _⟩ := o2.get s2 e2
  obtain ⟨r, hr, h⟩ := ho H2 x y v1 v2 C1 C2 _ w1 w2 q
  exact ⟨r, hr, h _ fun z u H' B g o new k => EPo.fin s2 fr (fun _ h => .inl h) (fun _ h => .inl h) kp g o new k⟩
theorem q_bin {op : Operator} {ta tb : VR} {f : F2} (ho : Op2 X (binaryOp op) f) (ha : QR X a ta) (hb : QR X b tb) : QE X (.BinOp a op b pos) (tBin f ta tb) := by
  refine ⟨fun σ H en F Q s q pins sh I => ?_⟩
  refine wpAny_BinOp ?_
  refine thn (bin_core ho ha hb s q pins sh I) fun v s1 ⟨x, H1, I1, r1, h1⟩ => thn (h1 pins s1 I1) fun u s2 ⟨y, H2, I2, r2, r, hr, h2⟩ => ?_
  exact hr pins s2 σ H2 x y v u _ I2 r1 r2 h2
theorem q_cmp {op : CmpOp} {ta tb : VR} {f : F2} (ho : Op2 X (compareOp op) f) (ha : QR X a ta) (hb : QR X b tb) (hm : behindInMarks op b = false) : QE X (.Compare a [op] [b] pos) (tBin f ta tb) := by
  refine ⟨fun σ H en F Q s q pins sh I => ?_⟩
  refine wpAny_Compare1 ?_ hm
  refine thn (bin_core ho ha hb s q pins sh I) fun v s1 ⟨x, H1, I1, r1, h1⟩ => thn (h1 pins s1 I1) fun u s2 ⟨y, H2, I2, r2, r, hr, h2⟩ => ?_
  exact hr pins s2 σ H2 x y v u _ I2 r1 r2 h2
/-- a one-place operation -/
abbrev F1 := D → (D → Prop) → Prop
def Op1 (X : Cx) (g : Value → Sem Value) (f : F1) : Prop := ∀ (H : Hp) (x : D) (v : V) (B : List Addr) (k : D → Prop), Own X.K H x v B → f x k →
  ∃ r, UnR X g r ∧ ∀ Q : VK, (∀ z u H' B, Grow H H' → Own X.K H' z u B → (∀ b ∈ B, H b = none) → k z → Q u H') → r v H Q
def un1 (f : F1) (x : Option D) (k : D → Prop) : Prop := match x with
  | some a => f a k
  | _ => False
def tUn (f : F1) (ta : VR) : VT := fun en Q => ta en fun r1 en1 => un1 f (r1.get en1) fun z => Q z en1
theorem un1_of {f : F1} {x : Option D} {k : D → Prop} (h : un1 f x k) : ∃ a, x = some a ∧ f a k := by
  unfold un1 at h
  split at h
  · exact ⟨_, rfl, h⟩
  · exact h.elim
theorem q_un {op : UnaryOp} {ta : VR} {f : F1} (ho : Op1 X (unaryOp op) f) (ha : QR X a ta) : QE X (.UnaryOp op a pos) (tUn f ta) := by
  refine ⟨fun σ H en F Q s q pins sh I => ?_⟩
  refine UnaryOp_ (thn (ha.run σ H en F _ s q pins sh I) fun v s1 ⟨x, H1, I1, rv, r1, en1, F1, B1, s1', o1, off1, fr1, kp1, q1⟩ => ?_)
  obtain ⟨d, e1, q1⟩ := un1_of q1
  obtain ⟨C1, w1, _⟩ := o1.get s1' e1
  obtain ⟨r, hr, h⟩ := ho H1 d x C1 _ w1 q1
  exact hr pins s1 σ H1 x v _ I1 rv (h _ fun z u H' B g o new k => EPo.fin s1' fr1 (fun _ h => .inl h) (fun _ h => .inl h) kp1 g o new k)


/-! ### the operators -/
theorem own_p {K : PySem.W.Frag} {H : Hp} {x : P} {v : V} (r : RepP K H x v) : Own K H (.p x) v [] := ⟨rfl, r⟩
theorem own_l {K : PySem.W.Frag} {H : Hp} {a : Addr} {xs : List P} {vs : List V} (h : H a = some (.lst vs)) (r : RepPs K H xs vs) : Own K H (.l xs) (.ref a) [a] := ⟨a, vs, rfl, rfl, h, r⟩
abbrev Fin (K : PySem.W.Frag) (H : Hp) (k : D → Prop) (Q : VK) : Prop := ∀ z u H' B, Grow H H' → Own K H' z u B → (∀ b ∈ B, H b = none) → k z → Q u H'
theorem fin_p {K : PySem.W.Frag} {H : Hp} {Q : VK} {k : D → Prop} {x : P} {v : V} (q : Fin K H k Q) (h : k (.p x)) (r : RepP K H x v) : Q v H :=
  q (.p x) v H [] (Grow.refl H) (own_p r) (by simp) h
theorem fin_l {K : PySem.W.Frag} {H : Hp} {Q : VK} {k : D → Prop} {xs : List P} {vs : List V} {p : Addr} (q : Fin K H k Q) (h : k (.l xs)) (r : RepPs K H xs vs) (hp : H p = none) : Q (.ref p) (upd H p (.lst vs)) :=
  q _ _ _ [p] (Grow.upd hp) (own_l upd_same (RepPs.ext (Grow.upd hp).ext r)) (by simpa using hp) h
theorem fin_t {K : PySem.W.Frag} {H : Hp} {Q : VK} {k : D → Prop} {xs : List P} {vs : List V} {p : Addr} (q : Fin K H k Q) (h : k (.p (.tup xs))) (r : RepPs K H xs vs) (hp : H p = none) : Q (.ref p) (upd H p (.tup vs)) :=
  q (.p (.tup xs)) _ _ [] (Grow.upd hp) (own_p ⟨p, vs, rfl, .inl (.inl upd_same), RepPs.ext (Grow.upd hp).ext r⟩) (by simp) h
theorem RepPs.nil_iff {K : PySem.W.Frag} {H : Hp} {xs : List P} {vs : List V} (r : RepPs K H xs vs) : vs = [] ↔ xs = [] := by
  have := r.length
  constructor
  · intro e; subst e; cases xs with
    | nil => rfl
    | cons _ _ => simp at this
  · intro e; subst e; exact r
theorem RepPs.rep {K : PySem.W.Frag} {H : Hp} {xs : List P} {vs : List V} (r : RepPs K H xs vs) : ∀ k : Nat, RepPs K H (List.replicate k xs).flatten (List.replicate k vs).flatten
  | 0 => rfl
  | k + 1 => by
    rw [List.replicate_succ, List.replicate_succ, List.flatten_cons, List.flatten_cons]
    exact r.append (RepPs.rep r k)
def addF : F2
  | .p (.int i), .p (.int j), k => k (.p (.int (i + j)))
  | .p (.str i), .p (.str j), k => i.length + j.length ≤ sizeLine ∧ k (.p (.str (i ++ j)))
  | .p (.tup i), .p (.tup j), k => i.length + j.length ≤ sizeLine ∧ k (.p (.tup (i ++ j)))
  | .l i, .l j, k => i.length + j.length ≤ sizeLine ∧ k (.l (i ++ j))
  | _, _, _ => False
theorem o_add : Op2 X (binaryOp .Add) addF := by
  intro H x y v w B1 B2 k o1 o2 h
  unfold addF at h
  split at h
  · obtain ⟨_, rfl⟩ := o1; obtain ⟨_, rfl⟩ := o2
    exact ⟨_, op_add, fun Q q => ⟨_, _, rfl, rfl, fin_p q h rfl⟩⟩
  · obtain ⟨_, rfl⟩ := o1; obtain ⟨_, rfl⟩ := o2
    exact ⟨_, op_add_str, fun Q q => ⟨_, _, rfl, rfl, h.1, fin_p q h.2 rfl⟩⟩
  · rename_i i j
    obtain ⟨_, a, vs, rfl, h1, h2⟩ := o1; obtain ⟨_, b, ws, rfl, h3, h4⟩ := o2
    refine ⟨_, op_catA, fun Q q => ?_⟩
    refine ⟨a, b, vs, ws, rfl, rfl, h1, h3, by rw [h2.length, h4.length]; exact h.1, fun e => ?_, fun _ e => ?_, fun _ _ p hp => fin_t q h.2 (h2.append h4) hp⟩
    · rw [h2.nil_iff] at e; subst e
      exact fin_p q h.2 ⟨b, ws, rfl, h3, h4⟩
    · rw [h4.nil_iff] at e; subst e
      exact fin_p q h.2 ⟨a, vs, rfl, h1, by rw [List.append_nil]; exact h2⟩
  · obtain ⟨a, vs, rfl, rfl, h1, h2⟩ := o1; obtain ⟨b, ws, rfl, rfl, h3, h4⟩ := o2
    exact ⟨_, op_cat, fun Q q => ⟨a, b, vs, ws, rfl, rfl, h1, h3, by rw [h2.length, h4.length]; exact h.1, fun p hp => fin_l q h.2 (h2.append h4) hp⟩⟩
  · exact h.elim
def iaddF : F2
  | .p (.int i), .p (.int j), k => k (.p (.int (i + j)))
  | .p (.str i), .p (.str j), k => i.length + j.length ≤ sizeLine ∧ k (.p (.str (i ++ j)))
  | _, _, _ => False
theorem o_iadd : Op2 X (inplaceOp .Add) iaddF := by
  intro H x y v w B1 B2 k o1 o2 h
  unfold iaddF at h
  split at h
  · obtain ⟨_, rfl⟩ := o1; obtain ⟨_, rfl⟩ := o2
    exact ⟨_, iop_add, fun Q q => ⟨_, _, rfl, rfl, fin_p q h rfl⟩⟩
  · obtain ⟨_, rfl⟩ := o1; obtain ⟨_, rfl⟩ := o2
    exact ⟨_, iop_add_str, fun Q q => ⟨_, _, rfl, rfl, h.1, fin_p q h.2 rfl⟩⟩
  · exact h.elim
def subF : F2
  | .p (.int i), .p (.int j), k => k (.p (.int (i - j)))
  | _, _, _ => False
theorem o_sub : Op2 X (binaryOp .Sub) subF := by
  intro H x y v w B1 B2 k o1 o2 h
  unfold subF at h
  split at h
  · obtain ⟨_, rfl⟩ := o1; obtain ⟨_, rfl⟩ := o2
    exact ⟨_, op_sub, fun Q q => ⟨_, _, rfl, rfl, fin_p q h rfl⟩⟩
  · exact h.elim
theorem o_isub : Op2 X (inplaceOp .Sub) subF := by
  intro H x y v w B1 B2 k o1 o2 h
  unfold subF at h
  split at h
  · obtain ⟨_, rfl⟩ := o1; obtain ⟨_, rfl⟩ := o2
    exact ⟨_, iop_sub, fun Q q => ⟨_, _, rfl, rfl, fin_p q h rfl⟩⟩
  · exact h.elim
def MulOk (i j : Int) : Prop := CMul i j ∨ CMulW i j
def mulF : F2
  | .p (.int i), .p (.int j), k => MulOk i j ∧ k (.p (.int (i * j)))
  | .l xs, .p (.int j), k => -(2 ^ 63) ≤ j ∧ j < 2 ^ 63 ∧ xs.length * j.toNat ≤ sizeLine ∧ k (.l (List.replicate j.toNat xs).flatten)
  | _, _, _ => False
theorem o_mul : Op2 X (binaryOp .Mult) mulF := by
  intro H x y v w B1 B2 k o1 o2 h
  unfold mulF at h
  split at h
  · obtain ⟨_, rfl⟩ := o1; obtain ⟨_, rfl⟩ := o2
    rcases h with ⟨h1 | h1, h2⟩
    · exact ⟨_, op_mul, fun Q q => ⟨_, _, rfl, rfl, h1, fin_p q h2 rfl⟩⟩
    · exact ⟨_, op_mulW, fun Q q => ⟨_, _, rfl, rfl, h1, fin_p q h2 rfl⟩⟩
  · obtain ⟨a, vs, rfl, rfl, h1, h2⟩ := o1; obtain ⟨_, rfl⟩ := o2
    obtain ⟨k1, k2, k3, k4⟩ := h
    exact ⟨_, op_rep, fun Q q => ⟨a, _, vs, rfl, rfl, h1, k1, k2, by rw [h2.length]; exact k3, fun p hp => fin_l q k4 (h2.rep _) hp⟩⟩
  · exact h.elim
def fdivF : F2
  | .p (.int i), .p (.int j), k => (0 < j ∧ j.natAbs.log2 < 9000) ∧ k (.p (.int (i / j)))
  | _, _, _ => False
theorem o_fdiv : Op2 X (binaryOp .FloorDiv) fdivF := by
  intro H x y v w B1 B2 k o1 o2 h
  unfold fdivF at h
  split at h
  · obtain ⟨_, rfl⟩ := o1; obtain ⟨_, rfl⟩ := o2
    exact ⟨_, op_fdivW, fun Q q => ⟨_, _, rfl, rfl, h.1, fin_p q h.2 rfl⟩⟩
  · exact h.elim
def modF : F2
  | .p (.int i), .p (.int j), k => 0 < j ∧ k (.p (.int (i % j)))
  | _, _, _ => False
theorem o_mod : Op2 X (binaryOp .Mod) modF := by
  intro H x y v w B1 B2 k o1 o2 h
  unfold modF at h
  split at h
  · obtain ⟨_, rfl⟩ := o1; obtain ⟨_, rfl⟩ := o2
    exact ⟨_, op_mod, fun Q q => ⟨_, _, rfl, rfl, h.1, fin_p q h.2 rfl⟩⟩
  · exact h.elim
def powF : F2
  | .p (.int i), .p (.int j), k => (0 ≤ j ∧ j ≤ 1000000 ∧ i.natAbs < 2 ^ 64) ∧ k (.p (.int (i ^ j.toNat)))
  | _, _, _ => False
theorem o_pow : Op2 X (binaryOp .Pow) powF := by
  intro H x y v w B1 B2 k o1 o2 h
  unfold powF at h
  split at h
  · obtain ⟨_, rfl⟩ := o1; obtain ⟨_, rfl⟩ := o2
    exact ⟨_, op_pow, fun Q q => ⟨_, _, rfl, rfl, h.1, fin_p q h.2 rfl⟩⟩
  · exact h.elim
def shlF : F2
  | .p (.int i), .p (.int j), k => (0 ≤ j ∧ j ≤ 1000000 ∧ i.natAbs < 2 ^ 64) ∧ k (.p (.int (i * 2 ^ j.toNat)))
  | _, _, _ => False
theorem o_shl : Op2 X (binaryOp .LShift) shlF := by
  intro H x y v w B1 B2 k o1 o2 h
  unfold shlF at h
  split at h
  · obtain ⟨_, rfl⟩ := o1; obtain ⟨_, rfl⟩ := o2
    exact ⟨_, op_shl, fun Q q => ⟨_, _, rfl, rfl, h.1, fin_p q h.2 rfl⟩⟩
  · exact h.elim
def negF : F1
  | .p (.int i), k => k (.p (.int (-i)))
  | _, _ => False
theorem o_neg : Op1 X (unaryOp .USub) negF := by
  intro H x v B1 k o1 h
  unfold negF at h
  split at h
  · obtain ⟨_, rfl⟩ := o1
    exact ⟨_, un_neg, fun Q q => ⟨_, rfl, fin_p q h rfl⟩⟩
  · exact h.elim
def cmpF (f : Int → Int → Bool) : F2
  | .p (.int i), .p (.int j), k => k (.p (.bl (f i j)))
  | _, _, _ => False
theorem cmp_of {g : Value → Value → Sem Value} {f : Int → Int → Bool} (h : OpR X g (rI0 fun i j => .bl (f i j))) : Op2 X g (cmpF f) := by
  intro H x y v w B1 B2 k o1 o2 h'
  unfold cmpF at h'
  split at h'
  · obtain ⟨_, rfl⟩ := o1; obtain ⟨_, rfl⟩ := o2
    exact ⟨_, h, fun Q q => ⟨_, _, rfl, rfl, fin_p q h' rfl⟩⟩
  · exact h'.elim
def ltF : F2 := cmpF fun i j => decide (i < j)
def leF : F2 := cmpF fun i j => decide (i ≤ j)
def gtF : F2 := cmpF fun i j => decide (j < i)
def geF : F2 := cmpF fun i j => decide (j ≤ i)
theorem o_lt : Op2 X (compareOp .Lt) ltF := cmp_of op_lt
theorem o_le : Op2 X (compareOp .LtE) leF := cmp_of op_le
theorem o_gt : Op2 X (compareOp .Gt) gtF := cmp_of op_gt
theorem o_ge : Op2 X (compareOp .GtE) geF := cmp_of op_ge

/-! equality -/
mutual
def P.py : P → PyData
  | .non => .none
  | .bl b => .bool b
  | .int i => .int i
  | .str x => .str x
  | .tup xs => .tuple (P.pys xs)
def P.pys : List P → List PyData
  | [] => []
  | x :: xs => P.py x :: P.pys xs
end
mutual
/-- Python's == of plain data -/
def eqP : P → P → Bool
  | .non, .non => true
  | .bl a, .bl b => a == b
  | .bl a, .int j => (if a then 1 else 0) == j
  | .int i, .bl b => i == (if b then 1 else 0)
  | .int i, .int j => i == j
  | .str x, .str y => x == y
  | .tup xs, .tup ys => eqPs xs ys
  | _, _ => false
def eqPs : List P → List P → Bool
  | [], [] => true
  | x :: xs, y :: ys => eqP x y && eqPs xs ys
  | _, _ => false
end
mutual
theorem eqv_py : ∀ x y : P, PyData.eqv x.py y.py = eqP x y
  | .non, y => by cases y <;> simp [P.py, PyData.eqv, eqP]
  | .bl _, y => by cases y <;> simp [P.py, PyData.eqv, eqP]
  | .int _, y => by cases y <;> simp [P.py, PyData.eqv, eqP]
  | .str _, y => by cases y <;> simp [P.py, PyData.eqv, eqP]
  | .tup xs, .tup ys => by simp only [P.py, PyData.eqv, eqP]; exact eqv_pys xs ys
  | .tup xs, .non => by simp [P.py, PyData.eqv, eqP]
  | .tup xs, .bl _ => by simp [P.py, PyData.eqv, eqP]
  | .tup xs, .int _ => by simp [P.py, PyData.eqv, eqP]
  | .tup xs, .str _ => by simp [P.py, PyData.eqv, eqP]
theorem eqv_pys : ∀ xs ys : List P, PyData.eqvAll (P.pys xs) (P.pys ys) = eqPs xs ys
  | [], [] => by simp [P.pys, PyData.eqvAll, eqPs]
  | [], _ :: _ => by simp [P.pys, PyData.eqvAll, eqPs]
  | _ :: _, [] => by simp [P.pys, PyData.eqvAll, eqPs]
  | x :: xs, y :: ys => by simp only [P.pys, PyData.eqvAll, eqPs]; rw [eqv_py x y, eqv_pys xs ys]
end
mutual
theorem RepP.dp {K : PySem.W.Frag} {H : Hp} : ∀ {x : P} {v : V}, RepP K H x v → Dp K H v x.py
  | .non, _, h => by cases h; exact .non
  | .bl b, _, h => by cases h; exact .bl b
  | .int b, _, h => by cases h; exact .int b
  | .str b, _, h => by cases h; exact .str b
  | .tup xs, _, h => by
    obtain ⟨a, vs, rfl, h1, h2⟩ := h
    exact .tup h1 (RepPs.dp h2)
theorem RepPs.dp {K : PySem.W.Frag} {H : Hp} : ∀ {xs : List P} {vs : List V}, RepPs K H xs vs → DpAll K H vs (P.pys xs)
  | [], _, h => by cases h; exact .nil
  | x :: xs, _, h => by
    obtain ⟨v, ws, rfl, h1, h2⟩ := h
    exact .cons (RepP.dp h1) (RepPs.dp h2)
end
/-- of a size that == takes -/
def shP (x : P) : Bool := SeqAt.shaped x.py
def shL (x : List P) : Bool := SeqAt.shaped (.list (P.pys x))
def eqK : P → P → (Bool → Prop) → Prop
  | .int i, .int j, k => k (decide (i = j))
  | .str i, .str j, k => k (decide (i = j))
  | x, y, k => (shP x = true ∧ shP y = true) ∧ k (eqP x y)
def eqF : F2
  | .p x, .p y, k => eqK x y fun b => k (.p (.bl b))
  | .l x, .l y, k => (shL x = true ∧ shL y = true) ∧ k (.p (.bl (eqPs x y)))
  | _, _, _ => False
def neF : F2
  | .p x, .p y, k => eqK x y fun b => k (.p (.bl (!b)))
  | .l x, .l y, k => (shL x = true ∧ shL y = true) ∧ k (.p (.bl (!eqPs x y)))
  | _, _, _ => False
theorem decV_int {i j : Int} : decide (V.int i = V.int j) = decide (i = j) := by
  by_cases h : i = j
  · subst h; simp
  · rw [decide_eq_false h, decide_eq_false fun e => h (V.int.inj e)]
theorem decV_str {i j : Str} : decide (V.str i = V.str j) = decide (i = j) := by
  by_cases h : i = j
  · subst h; simp
  · rw [decide_eq_false h, decide_eq_false fun e => h (V.str.inj e)]
theorem o_eq (hu : X.A.units + 64 < cLine) : Op2 X (compareOp .Eq) eqF := by
  intro H x y v w B1 B2 k o1 o2 h
  unfold eqF at h
  split at h
  · obtain ⟨_, r1⟩ := o1; obtain ⟨_, r2⟩ := o2
    unfold eqK at h
    split at h
    · cases r1; cases r2
      exact ⟨_, op_eq, fun Q q => ⟨rfl, fin_p q h (by show _ = _; rw [decV_int])⟩⟩
    · cases r1; cases r2
      exact ⟨_, op_eq, fun Q q => ⟨rfl, fin_p q h (by show _ = _; rw [decV_str])⟩⟩
    · exact ⟨_, op_eqD hu, fun Q q => ⟨_, _, r1.dp, r2.dp, h.1.1, h.1.2, fin_p q h.2 (by show _ = _; rw [eqv_py])⟩⟩
  · obtain ⟨a, vs, rfl, rfl, h1, h2⟩ := o1; obtain ⟨b, ws, rfl, rfl, h3, h4⟩ := o2
    exact ⟨_, op_eqD hu, fun Q q => ⟨_, _, .lst (SqL.of h1) h2.dp, .lst (SqL.of h3) h4.dp, h.1.1, h.1.2, fin_p q h.2 (by show _ = _; rw [PyData.eqv, eqv_pys])⟩⟩
  · exact h.elim
theorem o_ne (hu : X.A.units + 64 < cLine) : Op2 X (compareOp .NotEq) neF := by
  intro H x y v w B1 B2 k o1 o2 h
  unfold neF at h
  split at h
  · obtain ⟨_, r1⟩ := o1; obtain ⟨_, r2⟩ := o2
    unfold eqK at h
    split at h
    · cases r1; cases r2
      exact ⟨_, op_ne, fun Q q => ⟨rfl, fin_p q h (by show _ = _; rw [decV_int])⟩⟩
    · cases r1; cases r2
      exact ⟨_, op_ne, fun Q q => ⟨rfl, fin_p q h (by show _ = _; rw [decV_str])⟩⟩
    · exact ⟨_, op_neD hu, fun Q q => ⟨_, _, r1.dp, r2.dp, h.1.1, h.1.2, fin_p q h.2 (by show _ = _; rw [eqv_py])⟩⟩
  · obtain ⟨a, vs, rfl, rfl, h1, h2⟩ := o1; obtain ⟨b, ws, rfl, rfl, h3, h4⟩ := o2
    exact ⟨_, op_neD hu, fun Q q => ⟨_, _, .lst (SqL.of h1) h2.dp, .lst (SqL.of h3) h4.dp, h.1.1, h.1.2, fin_p q h.2 (by show _ = _; rw [PyData.eqv, eqv_pys])⟩⟩
  · exact h.elim
/-! is None -/
def isN : P → Bool
  | .non => true
  | _ => false
theorem RepP.isN {K : PySem.W.Frag} {H : Hp} {x : P} {v : V} (r : RepP K H x v) : decide (v = .non) = isN x := by
  cases x with
  | non => cases r; rfl
  | bl b => cases r; rfl
  | int b => cases r; rfl
  | str b => cases r; rfl
  | tup b => obtain ⟨a, vs, rfl, _⟩ := r; rfl
def isNF : F2
  | .p x, .p .non, k => k (.p (.bl (isN x)))
  | _, _, _ => False
def notNF : F2
  | .p x, .p .non, k => k (.p (.bl (!isN x)))
  | _, _, _ => False
theorem o_isN : Op2 X (compareOp .Is) isNF := by
  intro H x y v w B1 B2 k o1 o2 h
  unfold isNF at h
  split at h
  · obtain ⟨_, r1⟩ := o1; obtain ⟨_, rfl⟩ := o2
    exact ⟨_, op_isN, fun Q q => ⟨rfl, fin_p q h (by show _ = _; rw [r1.isN])⟩⟩
  · exact h.elim
theorem o_notN : Op2 X (compareOp .IsNot) notNF := by
  intro H x y v w B1 B2 k o1 o2 h
  unfold notNF at h
  split at h
  · obtain ⟨_, r1⟩ := o1; obtain ⟨_, rfl⟩ := o2
    exact ⟨_, op_notN, fun Q q => ⟨rfl, fin_p q h (by show _ = _; rw [r1.isN])⟩⟩
  · exact h.elim
/-! in, not in: a list or a tuple of flat items -/
def flP : P → Bool
  | .tup _ => false
  | _ => true
def P.toV : P → V
  | .non => .non
  | .bl b => .bl b
  | .int i => .int i
  | .str x => .str x
  | .tup _ => .non
theorem RepP.flat {K : PySem.W.Frag} {H : Hp} {x : P} {v : V} (r : RepP K H x v) (h : flP x = true) : v = x.toV ∧ flatV v = true := by
  cases x with
  | tup _ => cases h
  | non => cases r; exact ⟨rfl, rfl⟩
  | bl b => cases r; exact ⟨rfl, rfl⟩
  | int b => cases r; exact ⟨rfl, rfl⟩
  | str b => cases r; exact ⟨rfl, rfl⟩
theorem RepPs.flat {K : PySem.W.Frag} {H : Hp} : ∀ {xs : List P} {vs : List V}, RepPs K H xs vs → xs.all flP = true → vs = xs.map P.toV ∧ vs.all flatV = true
  | [], _, h, _ => by cases h; exact ⟨rfl, rfl⟩
  | x :: xs, _, h, f => by
    obtain ⟨v, ws, rfl, h1, h2⟩ := h
    rw [List.all_cons, Bool.and_eq_true] at f
    obtain ⟨rfl, e1⟩ := h1.flat f.1
    obtain ⟨rfl, e2⟩ := RepPs.flat h2 f.2
    exact ⟨rfl, by rw [List.all_cons, e1, e2]; rfl⟩
theorem eqV_toV : ∀ {x y : P}, flP x = true → flP y = true → eqV x.toV y.toV = eqP x y := by
  intro x y hx hy
  cases x <;> cases y <;> first | rfl | (cases hx; done) | (cases hy; done) | (unfold P.toV eqV eqP; rfl)
def inP (x : P) (xs : List P) : Bool := xs.any fun y => eqP y x
theorem inV_toV {x : P} (hx : flP x = true) : ∀ {xs : List P}, xs.all flP = true → inV x.toV (xs.map P.toV) = inP x xs
  | [], _ => rfl
  | y :: xs, f => by
    rw [List.all_cons, Bool.and_eq_true] at f
    have ih := inV_toV hx f.2
    unfold inV inP at ih ⊢
    rw [List.map_cons, List.any_cons, List.any_cons, eqV_toV f.1 hx, ih]
def inF (neg : Bool) : F2
  | .p x, .l ys, k => (flP x = true ∧ ys.all flP = true) ∧ k (.p (.bl (if neg then !inP x ys else inP x ys)))
  | .p x, .p (.tup ys), k => (flP x = true ∧ ys.all flP = true) ∧ k (.p (.bl (if neg then !inP x ys else inP x ys)))
  | _, _, _ => False
theorem in_core {neg : Bool} {g : Value → Value → Sem Value} (h0 : OpR X g (rIn X.K neg)) : Op2 X g (inF neg) := by
  intro H x y v w B1 B2 k o1 o2 h
  unfold inF at h
  split at h
  · obtain ⟨_, r1⟩ := o1; obtain ⟨a, vs, rfl, rfl, h1, h2⟩ := o2
    obtain ⟨⟨f1, f2⟩, h⟩ := h
    obtain ⟨rfl, e1⟩ := r1.flat f1
    obtain ⟨rfl, e2⟩ := h2.flat f2
    exact ⟨_, h0, fun Q q => ⟨a, _, rfl, .inl (SqL.of h1), e1, e2, fin_p q h (by show _ = _; rw [inV_toV f1 f2])⟩⟩
  · obtain ⟨_, r1⟩ := o1; obtain ⟨_, a, vs, rfl, h1, h2⟩ := o2
    obtain ⟨⟨f1, f2⟩, h⟩ := h
    obtain ⟨rfl, e1⟩ := r1.flat f1
    obtain ⟨rfl, e2⟩ := h2.flat f2
    exact ⟨_, h0, fun Q q => ⟨a, _, rfl, .inr h1, e1, e2, fin_p q h (by show _ = _; rw [inV_toV f1 f2])⟩⟩
  · exact h.elim
theorem o_in : Op2 X (compareOp .In) (inF false) := in_core op_in_seq
theorem o_notin : Op2 X (compareOp .NotIn) (inF true) := in_core op_notIn_seq
end
end VL
/-! Eng4: tests, argument lists, displays, subscripts, built-in functions. -/
namespace VL
open PySem PySem.Spec PyProof.Rows L2
section
variable {X : Cx} {e a b c : Expr} {es rest : List Expr} {t : VT} {pos : Pos}
/-! ### chains -/
theorem EPo.chain {K : PySem.W.Frag} {H H1 H2 : Hp} {en en1 : En} {σ : L2.St} {F F1 : Ft} {Q : D → En → Prop} {v : V} {W' U' : Addr → Prop} (fr : Fr H (Wr en F) (Us en F) H1 W' U') (hw : ∀ a, Wr en1 F1 a → W' a) (hu : ∀ a, Us en1 F1 a → U' a)
    (kp : Kp en F en1 F1) (h : EPo K H1 en1 σ F1 Q v H2) : EPo K H en σ F Q v H2 := by
  obtain ⟨d, en2, F2, B, s2, o, off, fr2, kp2, q⟩ := h
  exact ⟨d, en2, F2, B, s2, o, off, fr.trans fr2 (fun _ => Wr.us) hw hu (fun _ h => .inl h) (fun _ h => .inl h), kp.trans kp2, q⟩
theorem TPo.chain {K : PySem.W.Frag} {H H1 H2 : Hp} {en en1 : En} {σ : L2.St} {F F1 : Ft} {Q : Bool → En → Prop} {v : Bool} {W' U' : Addr → Prop} (fr : Fr H (Wr en F) (Us en F) H1 W' U') (hw : ∀ a, Wr en1 F1 a → W' a) (hu : ∀ a, Us en1 F1 a → U' a)
    (kp : Kp en F en1 F1) (h : TPo K H1 en1 σ F1 Q v H2) : TPo K H en σ F Q v H2 := by
  obtain ⟨en2, F2, s2, fr2, kp2, q⟩ := h
  exact ⟨en2, F2, s2, fr.trans fr2 (fun _ => Wr.us) hw hu (fun _ h => .inl h) (fun _ h => .inl h), kp.trans kp2, q⟩
theorem RPo.chain {K : PySem.W.Frag} {H H1 H2 : Hp} {en en1 : En} {σ : L2.St} {F F1 : Ft} {Q : Rf → En → Prop} {v : V} {W' U' : Addr → Prop} (fr : Fr H (Wr en F) (Us en F) H1 W' U') (hw : ∀ a, Wr en1 F1 a → W' a) (hu : ∀ a, Us en1 F1 a → U' a)
    (kp : Kp en F en1 F1) (h : RPo K H1 en1 σ F1 Q v H2) : RPo K H en σ F Q v H2 := by
  obtain ⟨d, en2, F2, B, s2, o, off, fr2, kp2, q⟩ := h
  exact ⟨d, en2, F2, B, s2, o, off, fr.trans fr2 (fun _ => Wr.us) hw hu (fun _ h => .inl h) (fun _ h => .inl h), kp.trans kp2, q⟩

/-! ### tests -/
def tst (d : D) (k : Bool → Prop) : Prop := match d with
  | .p (.bl b) => k b
  | _ => False
def tTst (t : VT) : VTst := fun en Q => t en fun d en' => tst d fun b => Q b en'
theorem tst_of {K : PySem.W.Frag} {H : Hp} {d : D} {v : V} {B : List Addr} {k : Bool → Prop} (o : Own K H d v B) (h : tst d k) : ∃ b, v = .bl b ∧ k b := by
  unfold tst at h
  split at h
  · obtain ⟨_, rfl⟩ := o; exact ⟨_, rfl, h⟩
  · exact h.elim
theorem EPo.tst {K : PySem.W.Frag} {H H' : Hp} {en : En} {σ : L2.St} {F : Ft} {Q : Bool → En → Prop} {v : V} (h : EPo K H en σ F (fun d en' => VL.tst d fun b => Q b en') v H') : ∃ b, v = .bl b ∧ TPo K H en σ F Q b H' := by
  obtain ⟨d, en', F', B, s', o, off, fr, kp, q⟩ := h
  obtain ⟨b, rfl, q⟩ := tst_of o q
  exact ⟨b, rfl, en', F', s', fr.trans (Fr.refl (fun _ h => h) fun _ h => h) (fun _ => Wr.us) (fun _ h => h) (fun _ h => h) (fun _ h => .inl (.inl h)) (fun _ h => .inl (.inl h)), kp, q⟩
/-- an expression whose value is a truth value -/
theorem q_tval (h : QE X e t) (he : ∀ whole, isTrue e X.env whole = (do let v ← whole; standAt e.pos; holding [v] (truthy v)) := by intro _; rfl) : QT X e (tTst t) := by
  refine ⟨fun σ H en F Q s q => wpT.of (pt_val (pe_wp X e) he) ?_⟩
  exact (h.run σ H en F _ s q).mono fun v H' r => r.tst
theorem q_tcmp {op : CmpOp} {ta tb : VR} {f : F2} (ho : Op2 X (compareOp op) f) (ha : QR X a ta) (hb : QR X b tb) (hm : behindInMarks op b = false) : QT X (.Compare a [op] [b] pos) (tTst (tBin f ta tb)) := by
  refine ⟨fun σ H en F Q s q pins sh I => ?_⟩
  have q : tBin f ta tb en fun d en' => tst d fun b => Q b en' := q
  refine wpAny_isTrue_Compare1 (thn (bin_core ho ha hb s q pins sh I) fun v s1 ⟨x, H1, I1, r1, h1⟩ => thn (h1 pins s1 I1) fun u s2 ⟨y, H2, I2, r2, r, hr, h2⟩ => ?_) hm
  refine thn (hr pins s2 σ H2 x y v u _ I2 r1 r2 h2) fun c s3 ⟨z, H3, I3, r3, q3⟩ => ?_
  obtain ⟨d, rfl, q⟩ := q3.tst
  cases r3
  exact wpAny_truthy_bool ⟨H3, I3, q⟩
def tNot (t : VTst) : VTst := fun en Q => t en fun c en' => Q (!c) en'
theorem q_tnot {t : VTst} (ha : QT X a t) : QT X (.UnaryOp .Not a pos) (tNot t) := by
  refine ⟨fun σ H en F Q s q => wpT.of (pt_not (pt_wp X a)) ?_⟩
  exact (ha.run σ H en F _ s q).mono fun c H' ⟨en', F', r⟩ => ⟨en', F', r⟩
def andK (c : Bool) (u : VTst) (en : En) (Q : Bool → En → Prop) : Prop := match c with
  | true => u en Q
  | false => Q false en
def orK (c : Bool) (u : VTst) (en : En) (Q : Bool → En → Prop) : Prop := match c with
  | true => Q true en
  | false => u en Q
def tAnd (t u : VTst) : VTst := fun en Q => t en fun c en1 => andK c u en1 Q
def tOr (t u : VTst) : VTst := fun en Q => t en fun c en1 => orK c u en1 Q
theorem QW.qt {t : VTst} (h : QW X e t) : QT X e t := ⟨fun σ H en F Q s q => wpT.of (pw_wp X e).pt (h.run σ H en F Q s q)⟩
theorem q_and1 {t : VTst} (ha : QT X a t) : QW X (.BoolOp .And [a] pos) t := ⟨fun σ H en F Q s q => wpW.of (pw_and1 (pt_wp X a)) (ha.run σ H en F Q s q)⟩
theorem q_or1 {t : VTst} (ha : QT X a t) : QW X (.BoolOp .Or [a] pos) t := ⟨fun σ H en F Q s q => wpW.of (pw_or1 (pt_wp X a)) (ha.run σ H en F Q s q)⟩
theorem q_and {t u : VTst} (ha : QT X a t) (hb : QW X (.BoolOp .And (b :: rest) pos) u) : QW X (.BoolOp .And (a :: b :: rest) pos) (tAnd t u) := by
  refine ⟨fun σ H en F Q s q => wpW.of (pw_and (pt_wp X a) (pw_wp X _)) ?_⟩
  refine (ha.run σ H en F _ s q).mono fun c H1 ⟨en1, F1, s1, fr, kp, q⟩ => ?_
  cases c with
  | true => exact iteT fun wh pins sh I => thn (hb.run σ H1 en1 F1 Q s1 q wh pins sh I) fun b s2 ⟨H2, I2, q2⟩ => ⟨H2, I2, TPo.chain fr (fun _ h => h) (fun _ h => h) kp q2⟩
  | false => exact iteF ⟨en1, F1, s1, fr, kp, q⟩
theorem q_or {t u : VTst} (ha : QT X a t) (hb : QW X (.BoolOp .Or (b :: rest) pos) u) : QW X (.BoolOp .Or (a :: b :: rest) pos) (tOr t u) := by
  refine ⟨fun σ H en F Q s q => wpW.of (pw_or (pt_wp X a) (pw_wp X _)) ?_⟩
  refine (ha.run σ H en F _ s q).mono fun c H1 ⟨en1, F1, s1, fr, kp, q⟩ => ?_
  cases c with
  | false => exact iteF fun wh pins sh I => thn (hb.run σ H1 en1 F1 Q s1 q wh pins sh I) fun b s2 ⟨H2, I2, q2⟩ => ⟨H2, I2, TPo.chain fr (fun _ h => h) (fun _ h => h) kp q2⟩
  | true => exact iteT ⟨en1, F1, s1, fr, kp, q⟩
/-- .. as values -/
def andV (d : D) (u : VT) (en : En) (Q : D → En → Prop) : Prop := match d with
  | .p (.bl true) => u en Q
  | .p (.bl false) => Q (.p (.bl false)) en
  | _ => False
def orV (d : D) (u : VT) (en : En) (Q : D → En → Prop) : Prop := match d with
  | .p (.bl true) => Q (.p (.bl true)) en
  | .p (.bl false) => u en Q
  | _ => False
def tAndV (t u : VT) : VT := fun en Q => t en fun d en1 => andV d u en1 Q
def tOrV (t u : VT) : VT := fun en Q => t en fun d en1 => orV d u en1 Q
def notV (d : D) (k : D → Prop) : Prop := match d with
  | .p (.bl b) => k (.p (.bl (!b)))
  | _ => False
def tNotV (t : VT) : VT := fun en Q => t en fun d en1 => notV d fun z => Q z en1
theorem q_one {op} (h : QE X a t) : QE X (.BoolOp op [a] pos) t := ⟨fun σ H en F Q s q => wpE.of (pe_one (pe_wp X a)) (h.run σ H en F Q s q)⟩
theorem q_andV {t u : VT} (ha : QE X a t) (hb : QE X (.BoolOp .And (b :: rest) pos) u) : QE X (.BoolOp .And (a :: b :: rest) pos) (tAndV t u) := by
  refine ⟨fun σ H en F Q s q => wpE.of (pe_and (pe_wp X a) (pe_wp X _)) ?_⟩
  refine (ha.run σ H en F _ s q).mono fun v H1 ⟨d, en1, F1, B, s1, o, off, fr, kp, q⟩ => ?_
  have q : andV d u en1 Q := q
  unfold andV at q
  split at q
  · obtain ⟨_, rfl⟩ := o
    exact ⟨_, rfl, iteT ((hb.run σ H1 en1 F1 Q s1 q).mono fun v H2 h => EPo.chain fr (fun _ h => .inl h) (fun _ h => .inl h) kp h)⟩
  · obtain ⟨rfl, rfl⟩ := o
    exact ⟨_, rfl, iteF (EPo.chain fr (fun _ h => .inl h) (fun _ h => .inl h) kp (EPo.pure (x := .bl _) s1 (fun _ _ h => h) rfl q))⟩
  · exact q.elim
theorem q_orV {t u : VT} (ha : QE X a t) (hb : QE X (.BoolOp .Or (b :: rest) pos) u) : QE X (.BoolOp .Or (a :: b :: rest) pos) (tOrV t u) := by
  refine ⟨fun σ H en F Q s q => wpE.of (pe_or (pe_wp X a) (pe_wp X _)) ?_⟩
  refine (ha.run σ H en F _ s q).mono fun v H1 ⟨d, en1, F1, B, s1, o, off, fr, kp, q⟩ => ?_
  have q : orV d u en1 Q := q
  unfold orV at q
  split at q
  · obtain ⟨rfl, rfl⟩ := o
    exact ⟨_, rfl, iteT (EPo.chain fr (fun _ h => .inl h) (fun _ h => .inl h) kp (EPo.pure (x := .bl _) s1 (fun _ _ h => h) rfl q))⟩
  · obtain ⟨_, rfl⟩ := o
    exact ⟨_, rfl, iteF ((hb.run σ H1 en1 F1 Q s1 q).mono fun v H2 h => EPo.chain fr (fun _ h => .inl h) (fun _ h => .inl h) kp h)⟩
  · exact q.elim
theorem q_notV {t : VT} (ha : QE X a t) : QE X (.UnaryOp .Not a pos) (tNotV t) := by
  refine ⟨fun σ H en F Q s q => wpE.of (pe_not (pe_wp X a)) ?_⟩
  refine (ha.run σ H en F _ s q).mono fun v H1 ⟨d, en1, F1, B, s1, o, off, fr, kp, q⟩ => ?_
  have q : notV d (fun z => Q z en1) := q
  unfold notV at q
  split at q
  · obtain ⟨_, rfl⟩ := o
    exact ⟨_, rfl, EPo.chain fr (fun _ h => .inl h) (fun _ h => .inl h) kp (EPo.pure (x := .bl _) s1 (fun _ _ h => h) rfl q)⟩
  · exact q.elim
/-- a if t else b -/
def ifK (c : Bool) (t u : VT) (en : En) (Q : D → En → Prop) : Prop := match c with
  | true => t en Q
  | false => u en Q
def tIf (c : VTst) (t u : VT) : VT := fun en Q => c en fun b en1 => ifK b t u en1 Q
theorem q_if {tc : VTst} {t u : VT} (hc : QT X c tc) (ha : QE X a t) (hb : QE X b u) : QE X (.IfExp c a b pos) (tIf tc t u) := by
  refine ⟨fun σ H en F Q s q => wpE.of (pe_ifExp (pt_wp X c) (pe_wp X a) (pe_wp X b)) ?_⟩
  refine (hc.run σ H en F _ s q).mono fun c H1 ⟨en1, F1, s1, fr, kp, q⟩ => ?_
  cases c with
  | true => exact iteT ((ha.run σ H1 en1 F1 Q s1 q).mono fun v H2 h => EPo.chain fr (fun _ h => h) (fun _ h => h) kp h)
  | false => exact iteF ((hb.run σ H1 en1 F1 Q s1 q).mono fun v H2 h => EPo.chain fr (fun _ h => h) (fun _ h => h) kp h)

/-! ### argument lists -/
def tANil : VA := fun en Q => Q [] en
def tACons (t : VT) (u : VA) : VA := fun en Q => t en fun d en1 => u en1 fun ds en2 => Q (d :: ds) en2
theorem q_anil : QA X [] tANil := ⟨fun σ H en F Q s q => wpA.of pa_nil ⟨[], en, F, [], s, ⟨rfl, rfl⟩, by simp, Fr.same, Kp.refl en F, q⟩⟩
theorem q_acons {u : VA} (ha : QE X e t) (hr : QA X es u) (hs : starEach (e :: es) X.env = (false, eval e X.env) :: starEach es X.env := by rfl) : QA X (e :: es) (tACons t u) := by
  refine ⟨fun σ H en F Q s q => wpA.of (pa_cons (pe_wp X e) (pa_wp X es) hs) ?_⟩
  refine (ha.run σ H en F _ s q).mono fun v H1 ⟨d, en1, F1, B1, s1, o1, off1, fr1, kp1, q1⟩ => ?_
  intro pos pins sh I
  refine thn (hr.run σ H1 en1 F1 _ s1 q1 pos pins sh I) fun us s2 ⟨vs, H2, I2, r2, ds, en2, F2, B2, s2', o2, off2, fr2, kp2, q2⟩ => ⟨vs, H2, I2, r2, ?_⟩
  obtain ⟨o1', w1, u1⟩ := fr2.temp s1 o1 off1
  refine ⟨d :: ds, en2, F2, B1 ++ B2, s2', ⟨v, vs, B1, B2, rfl, rfl, fun a h z => u1 a h (.inr z), o1', o2⟩, fun a h z => ?_, fr1.trans fr2 (fun _ => Wr.us) (fun _ h => .inl h) (fun _ h => .inl h) (fun x h => ?_) (fun x h => ?_), kp1.trans kp2, q2⟩
  · rcases List.mem_append.mp h with h | h
    · exact u1 a h (.inl z)
    · exact off2 a h z
  · rcases h with h | h
    · exact .inl (.inl h)
    · rcases List.mem_append.mp h with h | h
      · exact .inr (.inr h)
      · exact .inl (.inr h)
  · rcases h with h | h
    · exact .inl (.inl h)
    · rcases List.mem_append.mp h with h | h
      · exact .inr (.inr h)
      · exact .inl (.inr h)

/-! ### displays -/
def consO (x : P) : Option (List P) → Option (List P)
  | some xs => some (x :: xs)
  | none => none
def allP : List D → Option (List P)
  | [] => some []
  | .p x :: ds => consO x (allP ds)
  | _ :: _ => none
theorem allP_eq : ∀ {ds : List D} {xs : List P}, allP ds = some xs → ds = xs.map D.p
  | [], xs, h => by cases h; rfl
  | d :: ds, xs, h => by
    cases d with
    | p x =>
      unfold allP at h
      cases q : allP ds with
      | none => rw [q] at h; cases h
      | some ys => rw [q] at h; cases h; rw [allP_eq q]; rfl
    | _ => cases h
def mkT (ds : List D) : D := match allP ds with
  | some xs => .p (.tup xs)
  | none => .t ds
def mkL (ds : List D) : D := match allP ds with
  | some xs => .l xs
  | none => .ll ds
theorem mkT_own {K : PySem.W.Frag} {H : Hp} {ds : List D} {vs : List V} {B : List Addr} {p : Addr} (o : Owns K H ds vs B) (h : H p = some (.tup vs)) : Own K H (mkT ds) (.ref p) B := by
  unfold mkT
  split
  · rename_i xs e
    rw [allP_eq e] at o
    obtain ⟨rfl, r⟩ := o.to_p
    exact ⟨rfl, p, vs, rfl, .inl (.inl h), r⟩
  · exact ⟨p, vs, rfl, .inl (.inl h), o⟩
theorem mkL_own {K : PySem.W.Frag} {H : Hp} {ds : List D} {vs : List V} {B : List Addr} {p : Addr} (o : Owns K H ds vs B) (h : H p = some (.lst vs)) (hp : p ∉ B) : Own K H (mkL ds) (.ref p) (p :: B) := by
  unfold mkL
  split
  · rename_i xs e
    rw [allP_eq e] at o
    obtain ⟨rfl, r⟩ := o.to_p
    exact ⟨p, vs, rfl, rfl, h, r⟩
  · exact ⟨p, vs, B, rfl, rfl, hp, h, o⟩
def tTup (ta : VA) : VT := fun en Q => ta en fun ds en' => ds.length ≤ sizeLine ∧ Q (mkT ds) en'
def tLst (ta : VA) : VT := fun en Q => ta en fun ds en' => ds.length ≤ sizeLine ∧ Q (mkL ds) en'
theorem q_tup {ta : VA} {x1} (h : QA X es ta) : QE X (.Tuple es x1 pos) (tTup ta) := by
  refine ⟨fun σ H en F Q s q => wpE.of (pe_tup (pa_wp X es)) ?_⟩
  intro pos pins sh I
  refine thn (h.run σ H en F _ s q pos pins sh I) fun us s2 ⟨vs, H2, I2, r2, ds, en2, F2, B2, s2', o2, off2, fr2, kp2, ql, q2⟩ => ⟨vs, H2, I2, r2, by rw [o2.length]; exact ql, fun p hp => ?_⟩
  have g : Grow H2 (upd H2 p (.tup vs)) := Grow.upd hp
  exact ⟨mkT ds, en2, F2, B2, s2'.grow g, mkT_own (o2.kept g.ext fun a _ ob z => g a ob z) upd_same, off2, fr2.trans (W1' := fun a => Wr en2 F2 a ∨ a ∈ B2) (U1' := fun a => Us en2 F2 a ∨ a ∈ B2) ⟨fun b ob h _ => g b ob h, fun b h => .inl h, fun b h => .inl h⟩ (fun _ => Wr.us) (fun _ h => h) (fun _ h => h) (fun _ h => .inl h) (fun _ h => .inl h), kp2, q2⟩
theorem q_lst {ta : VA} (h : QA X es ta) : QE X (.List es pos) (tLst ta) := by
  refine ⟨fun σ H en F Q s q => wpE.of (pe_lst (pa_wp X es)) ?_⟩
  intro pos pins sh I
  refine thn (h.run σ H en F _ s q pos pins sh I) fun us s2 ⟨vs, H2, I2, r2, ds, en2, F2, B2, s2', o2, off2, fr2, kp2, ql, q2⟩ => ⟨vs, H2, I2, r2, by rw [o2.length]; exact ql, fun p hp => ?_⟩
  have g : Grow H2 (upd H2 p (.lst vs)) := Grow.upd hp
  have hpB : p ∉ B2 := fun z => by obtain ⟨o, e, _⟩ := o2.at p z; rw [hp] at e; cases e
  have hpU : ¬ Us en2 F2 p := fun z => by obtain ⟨o, e, _⟩ := s2'.at z; rw [hp] at e; cases e
  refine ⟨mkL ds, en2, F2, p :: B2, s2'.grow g, mkL_own (o2.kept g.ext fun a _ ob z => g a ob z) upd_same hpB, fun a ha => ?_, fr2.trans (W1' := fun a => Wr en2 F2 a ∨ a ∈ B2) (U1' := fun a => Us en2 F2 a ∨ a ∈ B2) (W2 := fun a => Wr en2 F2 a ∨ a ∈ p :: B2) (U2 := fun a => Us en2 F2 a ∨ a ∈ p :: B2) ⟨fun b ob h _ => g b ob h, fun b h => ?_, fun b h => ?_⟩ (fun _ => Wr.us) (fun _ h => h) (fun _ h => h) (fun _ h => .inl h) (fun _ h => .inl h), kp2, q2⟩
  · rcases List.mem_cons.mp ha with rfl | ha
    · exact hpU
    · exact off2 a ha
  · rcases h with h | h
    · exact .inl (.inl h)
    · rcases List.mem_cons.mp h with rfl | h
      · exact .inr hp
      · exact .inl (.inr h)
  · rcases h with h | h
    · exact .inl (.inl h)
    · rcases List.mem_cons.mp h with rfl | h
      · exact .inr hp
      · exact .inl (.inr h)
end
end VL
/-! Eng5: subscripts, slices, built-in functions. -/
namespace VL
open PySem PySem.Spec PyProof.Rows L2
/-- the built-in names are the built-ins -/
structure Blt (mg : Str → Option Value) : Prop where
  len : mg "len" = none
  int : mg "int" = none
  str : mg "str" = none
  max : mg "max" = none
  min : mg "min" = none
  abs : mg "abs" = none
  sum : mg "sum" = none
  tuple : mg "tuple" = none
  list : mg "list" = none
  dict : mg "dict" = none
  set : mg "set" = none
  range : mg "range" = none
  sorted : mg "sorted" = none
  isinstance : mg "isinstance" = none
  enumerate : mg "enumerate" = none
  zip : mg "zip" = none
  bool : mg "bool" = none
section
variable {X : Cx} {e a b c : Expr} {es rest : List Expr} {t : VT} {pos p : Pos}
/-! ### subscripts -/
def getK (o : Option P) (k : D → Prop) : Prop := match o with
  | some x => k (.p x)
  | none => False
def getD (o : Option D) (k : D → Prop) : Prop := match o with
  | some (.p x) => k (.p x)
  | _ => False
def getC (o : Option Nat) (k : D → Prop) : Prop := match o with
  | some c => k (.p (.str ⟨#[c]⟩))
  | none => False
def ixF : F2
  | .l xs, .p (.int i), k => getK (atI xs i) k
  | .p (.tup xs), .p (.int i), k => getK (atI xs i) k
  | .ll xs, .p (.int i), k => getD (atI xs i) k
  | .p (.str z), .p (.int i), k => z.length ≤ sizeLine ∧ getC (atI z.cps.toList i) k
  | _, _, _ => False
theorem getK_of {o : Option P} {k : D → Prop} (h : getK o k) : ∃ x, o = some x ∧ k (.p x) := by
  cases o with
  | none => exact h.elim
  | some x => exact ⟨x, rfl, h⟩
theorem getD_of {o : Option D} {k : D → Prop} (h : getD o k) : ∃ x, o = some (.p x) ∧ k (.p x) := by
  unfold getD at h
  split at h
  · exact ⟨_, rfl, h⟩
  · exact h.elim
theorem getC_of {o : Option Nat} {k : D → Prop} (h : getC o k) : ∃ c, o = some c ∧ k (.p (.str ⟨#[c]⟩)) := by
  cases o with
  | none => exact h.elim
  | some x => exact ⟨x, rfl, h⟩
theorem atI_len {α β : Type} {xs : List α} {ys : List β} (hl : xs.length = ys.length) {i : Int} {x : α} (h : atI xs i = some x) : ∃ j : Nat, xs[j]? = some x ∧ ∀ y, ys[j]? = some y → atI ys i = some y := by
  unfold atI at h
  rw [hl] at h
  cases q : ixN ys.length i with
  | none => rw [q] at h; cases h
  | some j =>
    rw [q] at h
    exact ⟨j, h, fun y e => by unfold atI; rw [q]; exact e⟩
theorem RepPs.atI {K : PySem.W.Frag} {H : Hp} {xs : List P} {vs : List V} (r : RepPs K H xs vs) {i : Int} {x : P} (h : L2.atI xs i = some x) : ∃ v, L2.atI vs i = some v ∧ RepP K H x v := by
  obtain ⟨j, e, f⟩ := atI_len r.length.symm h
  obtain ⟨v, e2, rv⟩ := r.get e
  exact ⟨v, f v e2, rv⟩
theorem Owns.atI {K : PySem.W.Frag} {H : Hp} {xs : List D} {vs : List V} {B : List Addr} (r : Owns K H xs vs B) {i : Int} {x : D} (h : L2.atI xs i = some x) : ∃ v C, L2.atI vs i = some v ∧ Own K H x v C ∧ ∀ a ∈ C, a ∈ B := by
  obtain ⟨j, e, f⟩ := atI_len r.length.symm h
  obtain ⟨v, C, e2, rv, hc⟩ := r.get e
  exact ⟨v, C, f v e2, rv, hc⟩
theorem ix_core : ∀ (H : Hp) (x y : D) (v w : V) (B1 B2 : List Addr) (k : D → Prop), Own X.K H x v B1 → Own X.K H y w B2 → ixF x y k →
    ∃ r, IxR X r ∧ ∀ Q : VK, Fin X.K H k Q → r v w H Q := by
  intro H x y v w B1 B2 k o1 o2 h
  unfold ixF at h
  split at h
  · obtain ⟨a, vs, rfl, rfl, h1, h2⟩ := o1; obtain ⟨_, rfl⟩ := o2
    obtain ⟨z, e, h⟩ := getK_of h
    obtain ⟨u, e2, ru⟩ := h2.atI e
    exact ⟨_, ix_list, fun Q q => ⟨a, vs, _, u, rfl, rfl, SqL.of h1, e2, fin_p q h ru⟩⟩
  · obtain ⟨_, a, vs, rfl, h1, h2⟩ := o1; obtain ⟨_, rfl⟩ := o2
    obtain ⟨z, e, h⟩ := getK_of h
    obtain ⟨u, e2, ru⟩ := h2.atI e
    exact ⟨_, ix_tup, fun Q q => ⟨a, vs, _, u, rfl, rfl, h1, e2, fin_p q h ru⟩⟩
  · obtain ⟨a, vs, C, rfl, rfl, hn, h1, h2⟩ := o1; obtain ⟨_, rfl⟩ := o2
    obtain ⟨z, e, h⟩ := getD_of h
    obtain ⟨u, C', e2, ⟨_, ru⟩, _⟩ := h2.atI e
    exact ⟨_, ix_list, fun Q q => ⟨a, vs, _, u, rfl, rfl, SqL.of h1, e2, fin_p q h ru⟩⟩
  · obtain ⟨_, rfl⟩ := o1; obtain ⟨_, rfl⟩ := o2
    obtain ⟨c, e, h2⟩ := getC_of h.2
    exact ⟨_, ix_str, fun Q q => ⟨_, _, c, rfl, rfl, h.1, e, fin_p q h2 rfl⟩⟩
  · exact h.elim
theorem q_ix {ta tb : VR} (ha : QR X a ta) (hb : QR X b tb) (hs : PlainIx b := by intro _ _; rfl) : QE X (.Subscript a b pos) (tBin ixF ta tb) := by
  refine ⟨fun σ H en F Q s q pins sh I => ?_⟩
  refine Subscript_ ?_
  have core : wpE X a σ H fun v1 H1 => wpE X b σ H1 fun v2 H2 => ∃ r, IxR X r ∧ r v1 v2 H2 (EPo X.K H en σ F Q) := by
    refine (two ha hb s q).mono fun v1 H1 h => h.mono fun v2 H2 ⟨r1, r2, en2, F2, B1, B2, s2, o1, o2, off1, off2, dj, fr, kp, q⟩ => ?_
    obtain ⟨x, y, e1, e2, q⟩ := bin2_of q
    obtain ⟨C1, w1, _⟩ := o1.get s2 e1
    obtain ⟨C2, w2, _⟩ := o2.get s2 e2
    obtain ⟨r, hr, h⟩ := ix_core H2 x y v1 v2 C1 C2 _ w1 w2 q
    exact ⟨r, hr, h _ fun z u H' B g o new k => EPo.fin s2 fr (fun _ h => .inl h) (fun _ h => .inl h) kp g o new k⟩
  refine thn (core pins sh I) fun v s1 ⟨x, H1, I1, r1, h1⟩ => thn (h1 pins s1 I1) fun u s2 ⟨y, H2, I2, r2, r, hr, h2⟩ => ?_
  exact hr a b pins s2 σ H2 x y v u _ I2 r1 r2 h2 (hs _ _)

/-! ### slices -/
def cutL {α : Type} (xs : List α) (lo hi : Option Int) : List α := (xs.drop (HT.sIx xs.length 0 lo)).take (HT.sIx xs.length xs.length hi - HT.sIx xs.length 0 lo)
def slF (d : D) (lo hi : Option Int) (k : D → Prop) : Prop := match d with
  | .l xs => k (.l (cutL xs lo hi))
  | .p (.tup xs) => k (.p (.tup (cutL xs lo hi)))
  | .s xs => k (.l (cutL (xs.map P.int) lo hi))
  | _ => False
abbrev VO := En → (Option Int → En → Prop) → Prop
structure QO (X : Cx) (e : Option Expr) (t : VO) : Prop where
  run : ∀ σ H en F Q, S X.K H en σ F → t en Q → ∃ to : TO, PO X e to ∧ to σ H fun o H' => ∃ en' F', S X.K H' en' σ F' ∧ Fr H (Wr en F) (Us en F) H' (Wr en' F') (Us en' F') ∧ Kp en F en' F' ∧ Q o en'
def tO0 : VO := fun en Q => Q none en
def asI (d : D) (k : Int → Prop) : Prop := match d with
  | .p (.int i) => k i
  | _ => False
def tO1 (t : VT) : VO := fun en Q => t en fun d en' => asI d fun i => Q (some i) en'
theorem asI_of {K : PySem.W.Frag} {H : Hp} {d : D} {v : V} {B : List Addr} {k : Int → Prop} (o : Own K H d v B) (h : asI d k) : ∃ i, v = .int i ∧ k i := by
  unfold asI at h
  split at h
  · obtain ⟨_, rfl⟩ := o; exact ⟨_, rfl, h⟩
  · exact h.elim
theorem q_o0 : QO X none tO0 := ⟨fun σ H en F Q s q => ⟨_, po_none, en, F, s, Fr.refl (fun _ h => h) (fun _ h => h), Kp.refl en F, q⟩⟩
theorem q_o1 (h : QE X e t) : QO X (some e) (tO1 t) := by
  refine ⟨fun σ H en F Q s q => ⟨_, po_some (pe_wp X e), ?_⟩⟩
  refine (h.run σ H en F _ s q).mono fun v H' ⟨d, en', F', B, s', o, off, fr, kp, q⟩ => ?_
  obtain ⟨i, rfl, q⟩ := asI_of o q
  exact ⟨i, rfl, en', F', s', fr.trans (Fr.refl (fun _ h => h) fun _ h => h) (fun _ => Wr.us) (fun _ h => h) (fun _ h => h) (fun _ h => .inl (.inl h)) (fun _ h => .inl (.inl h)), kp, q⟩
def tSl (ta : VR) (tl th : VO) : VT := fun en Q => ta en fun r1 en1 => tl en1 fun lo en2 => th en2 fun hi en3 => un1 (fun d k => slF d lo hi k) (r1.get en3) fun z => Q z en3
theorem cut_rep {K : PySem.W.Frag} {H : Hp} {xs : List P} {vs : List V} (r : RepPs K H xs vs) (lo hi : Option Int) : RepPs K H (cutL xs lo hi) (cutV vs lo hi) := by
  unfold cutL cutV
  rw [r.length]
  exact (r.drop _).take _
theorem Fr.same' {H : Hp} {en : En} {F : Ft} : Fr H (Wr en F) (Us en F) H (Wr en F) (Us en F) := Fr.refl (fun _ h => h) (fun _ h => h)
theorem q_sl {lo hi : Option Expr} {p2 : Pos} {ta : VR} {tl th : VO} (ha : QR X a ta) (hl : QO X lo tl) (hh : QO X hi th) : QE X (.Subscript a (.Slice lo hi none p2) pos) (tSl ta tl th) := by
  refine ⟨fun σ H en F Q s q pins sh I => ?_⟩
  refine Subscript_ (thn (ha.run σ H en F _ s q pins sh I) fun v s1 ⟨x, H1, I1, rx, r1, en1, F1, B1, s1', o1, off1, fr1, kp1, q1⟩ => ?_)
  obtain ⟨to, hto, q1⟩ := hl.run σ H1 en1 F1 _ s1' q1
  refine wpAny_Slice (thn (hto.run pins s1 σ H1 _ I1 q1) fun vl s2 ⟨l, H2, I2, pl, en2, F2, s2', fr2, kp2, q2⟩ => ?_)
  obtain ⟨to2, hto2, q2⟩ := hh.run σ H2 en2 F2 _ s2' q2
  refine thn (hto2.run pins s2 σ H2 _ I2 q2) fun vu s3 ⟨u, H3, I3, pu, en3, F3, s3', fr3, kp3, q3⟩ => ?_
  rw [evalPart_none]
  refine wpAny_pure ?_
  have I4 : Inv X pins σ H3 { s3 with heap := s3.heap.push { cls := .type "slice", data := .fields #[vl, vu, .none] } } := I3.kept (t' := s3.toks) fun b ob q => Heap.get?_push_of_some _ q
  have fr23 : Fr H1 (Wr en1 F1) (Us en1 F1) H3 (Wr en3 F3) (Us en3 F3) := fr2.trans fr3 (fun _ => Wr.us) (fun _ h => h) (fun _ h => h) (fun _ h => .inl h) (fun _ h => .inl h)
  obtain ⟨o1', w1, u1⟩ := o1.kept s1' off1 fr23
  obtain ⟨d, e1, q3⟩ := un1_of q3
  obtain ⟨C1, w, _⟩ := o1'.get s3' e1
  have fr13 : Fr H (Wr en F) (Us en F) H3 (Wr en3 F3) (Us en3 F3) := fr1.trans fr23 (fun _ => Wr.us) (fun _ h => .inl h) (fun _ h => .inl h) (fun _ h => .inl h) (fun _ h => .inl h)
  have fin : Fin X.K H3 (fun z => Q z en3) (EPo X.K H en σ F Q) := fun z u H' B g o new k => EPo.fin s3' fr13 (fun _ h => h) (fun _ h => h) (kp1.trans (kp2.trans kp3)) g o new k
  obtain ⟨r, hr, hq⟩ : ∃ r, SlR X r ∧ r x l u H3 (EPo X.K H en σ F Q) := by
    unfold slF at q3
    dsimp only at q3
    split at q3
    · obtain ⟨a, vs, rfl, rfl, h1, h2⟩ := w
      exact ⟨_, sl_list, a, vs, rfl, SqL.of h1, fun p hp => fin_l fin q3 (cut_rep h2 l u) hp⟩
    · rename_i xs
      obtain ⟨_, a, vs, rfl, h1, h2⟩ := w
      refine ⟨_, sl_tupA, a, vs, rfl, h1, fun hw => ?_, fun _ p hp => fin_t fin q3 (cut_rep h2 l u) hp⟩
      have e : cutL xs l u = xs := by
        unfold cutL
        rw [h2.length] at hw
        rw [hw.1, hw.2]; simp
      rw [e] at q3
      exact fin_p fin q3 ⟨a, vs, rfl, h1, h2⟩
    · rename_i xs
      obtain ⟨a, rfl, ha⟩ := w
      refine ⟨_, sl_list, a, _, rfl, ?_, fun p hp => fin_l fin q3 (cut_rep (RepPs.of_ints xs) l u) hp⟩
      rcases ha with ⟨_, h | ⟨o, h⟩⟩ | ⟨_, h⟩
      · exact SqL.of h
      · exact .inl (.inr ⟨o, h⟩)
      · exact .inr h
    · exact q3.elim
  obtain ⟨T, id, hT, ht, hg⟩ := hr pins { s3 with heap := s3.heap.push { cls := .type "slice", data := .fields #[vl, vu, .none] } } σ H3 x v vl vu l u s3.heap.objs.size _ I4 rx (Heap.IsSliceOf.new ..) pl pu hq
  show wpAny (model X.prog X.w) X.A (subscriptTail a (.Slice lo hi none p2) v (.ref s3.heap.objs.size)) _ _ { s3 with heap := s3.heap.push { cls := .type "slice", data := .fields #[vl, vu, .none] } }
  exact tail_any (ops := [.ref s3.heap.objs.size, v]) ht hT hg (by with_unfolding_all rfl)

/-! ### calls of built-ins -/
def Cal1 (X : Cx) (fv : Value) (f : F1) : Prop := ∀ (H : Hp) (x : D) (v : V) (B : List Addr) (k : D → Prop), Own X.K H x v B → f x k → ∃ r, CallR X fv r ∧ ∀ Q : VK, Fin X.K H k Q → r [v] H Q
def Cal2 (X : Cx) (fv : Value) (f : F2) : Prop := ∀ (H : Hp) (x y : D) (v w : V) (B1 B2 : List Addr) (k : D → Prop), Own X.K H x v B1 → Own X.K H y w B2 → f x y k → ∃ r, CallR X fv r ∧ ∀ Q : VK, Fin X.K H k Q → r [v, w] H Q
def rcW (X : Cx) (fv : Value) : List V → Hp → VK → Prop := fun xs H Q => ∀ (pins : List (Addr × Obj)) (s : Shared) (σ : L2.St) (us : List Value), Inv X pins σ H s → Vals xs us → wpAny (model X.prog X.w) X.A (call fv us) (fun u s' => ∃ v H', Inv X pins σ H' s' ∧ RelV v u ∧ Q v H') X.xe s
theorem rcW_ok (fv : Value) : CallR X fv (rcW X fv) := fun pins s σ H xs us Q I r h => h pins s σ us I r
theorem rcW_of {fv : Value} {r : List V → Hp → VK → Prop} (h : CallR X fv r) {xs : List V} {H : Hp} {Q : VK} (q : r xs H Q) : rcW X fv xs H Q := fun pins s σ us I rv => h pins s σ H xs us Q I rv q
theorem call1_core {ta : VR} {fv : Value} {f : F1} (hc : Cal1 X fv f) (ha : QR X a ta) {σ : L2.St} {H : Hp} {en : En} {F : Ft} {Q : D → En → Prop} (s : S X.K H en σ F) (q : tUn f ta en Q) :
    tCB (rcW X fv) (tCons (wpE X a) tNil) σ H (EPo X.K H en σ F Q) := by
  refine (ha.run σ H en F _ s q).mono fun v H1 ⟨r1, en1, F1, B1, s1, o1, off1, fr1, kp1, q1⟩ => ?_
  obtain ⟨d, e1, q1⟩ := un1_of q1
  obtain ⟨C1, w, _⟩ := o1.get s1 e1
  obtain ⟨r, hr, h⟩ := hc H1 d v C1 _ w q1
  exact rcW_of hr (h _ fun z u H' B g o new k => EPo.fin s1 fr1 (fun _ h => .inl h) (fun _ h => .inl h) kp1 g o new k)
theorem call2_core {ta tb : VR} {fv : Value} {f : F2} (hc : Cal2 X fv f) (ha : QR X a ta) (hb : QR X b tb) {σ : L2.St} {H : Hp} {en : En} {F : Ft} {Q : D → En → Prop} (s : S X.K H en σ F) (q : tBin f ta tb en Q) :
    tCB (rcW X fv) (tCons (wpE X a) (tCons (wpE X b) tNil)) σ H (EPo X.K H en σ F Q) := by
  refine (two ha hb s q).mono fun v1 H1 h => h.mono fun v2 H2 ⟨r1, r2, en2, F2, B1, B2, s2, o1, o2, off1, off2, dj, fr, kp, q⟩ => ?_
  obtain ⟨x, y, e1, e2, q⟩ := bin2_of q
  obtain ⟨C1, w1, _⟩ := o1.get s2 e1
  obtain ⟨C2, w2, _⟩ := o2.get s2 e2
  obtain ⟨r, hr, h⟩ := hc H2 x y v1 v2 C1 C2 _ w1 w2 q
  exact rcW_of hr (h _ fun z u H' B g o new k => EPo.fin s2 fr (fun _ h => .inl h) (fun _ h => .inl h) kp g o new k)
theorem q_call1B {x : Str} {id : String} {ta : VR} {f : F1} (hc : Cal1 X (.builtin id) f) (hg : Gl X x) (hm : X.mg x = none) (hv : bootBuiltins x = some (.builtin id)) (ha : QR X a ta) (hn : x ≠ "__name__" := by decide) (hdb : (x == ("__debug__" : Str)) = false := by decide)
    (hs : starEach (a :: []) X.env = (false, eval a X.env) :: starEach [] X.env := by rfl) (hpl : (backTo pos (starEach [] X.env)).any (·.1) = false := by rfl) : QE X (.Call (.Name x p) [a] [] pos) (tUn f ta) :=
  ⟨fun σ H en F Q s q => wpE.of (pe_callB (rcW_ok _) hg hm hv (pa_cons (pe_wp X a) pa_nil hs) hn hdb hs hpl) (call1_core hc ha s q)⟩
theorem q_call1T {x : Str} {id : String} {ta : VR} {f : F1} (hc : Cal1 X (.type id) f) (hg : Gl X x) (hm : X.mg x = none) (hv : bootBuiltins x = some (.type id)) (ha : QR X a ta) (hn : x ≠ "__name__" := by decide) (hdb : (x == ("__debug__" : Str)) = false := by decide)
    (hs : starEach (a :: []) X.env = (false, eval a X.env) :: starEach [] X.env := by rfl) (hpl : (backTo pos (starEach [] X.env)).any (·.1) = false := by rfl) : QE X (.Call (.Name x p) [a] [] pos) (tUn f ta) :=
  ⟨fun σ H en F Q s q => wpE.of (pe_callTy (rcW_ok _) hg hm hv (pa_cons (pe_wp X a) pa_nil hs) hn hdb hs hpl) (call1_core hc ha s q)⟩
theorem q_call2B {x : Str} {id : String} {ta tb : VR} {f : F2} (hc : Cal2 X (.builtin id) f) (hg : Gl X x) (hm : X.mg x = none) (hv : bootBuiltins x = some (.builtin id)) (ha : QR X a ta) (hb : QR X b tb) (hn : x ≠ "__name__" := by decide) (hdb : (x == ("__debug__" : Str)) = false := by decide)
    (hs : starEach (a :: [b]) X.env = (false, eval a X.env) :: starEach [b] X.env := by rfl) (hs2 : starEach (b :: []) X.env = (false, eval b X.env) :: starEach [] X.env := by rfl) (hpl : (backTo pos (starEach [b] X.env)).any (·.1) = false := by rfl) : QE X (.Call (.Name x p) [a, b] [] pos) (tBin f ta tb) :=
  ⟨fun σ H en F Q s q => wpE.of (pe_callB (rcW_ok _) hg hm hv (pa_cons (pe_wp X a) (pa_cons (pe_wp X b) pa_nil hs2) hs) hn hdb hs hpl) (call2_core hc ha hb s q)⟩
end
end VL
/-! Eng6: the built-in functions one by one. -/
namespace VL
open PySem PySem.Spec PyProof.Rows L2
section
variable {X : Cx} {e a b c : Expr} {es rest : List Expr} {t : VT} {pos p : Pos}
def lenF : F1
  | .p (.tup xs), k => k (.p (.int xs.length))
  | .p (.str z), k => z.length ≤ sizeLine ∧ k (.p (.int z.length))
  | .l xs, k => k (.p (.int xs.length))
  | .ll xs, k => k (.p (.int xs.length))
  | .s xs, k => k (.p (.int xs.length))
  | .t xs, k => k (.p (.int xs.length))
  | _, _ => False
theorem sq_s {K : PySem.W.Frag} {H : Hp} {ns : List Int} {v : V} {B : List Addr} (o : Own K H (.s ns) v B) : ∃ a, v = .ref a ∧ SqL K H a (ns.map V.int) := by
  obtain ⟨a, rfl, ⟨_, h | ⟨o, h⟩⟩ | ⟨_, h⟩⟩ := o
  · exact ⟨a, rfl, SqL.of h⟩
  · exact ⟨a, rfl, .inl (.inr ⟨o, h⟩)⟩
  · exact ⟨a, rfl, .inr h⟩
theorem c_len : Cal1 X (.builtin "len") lenF := by
  intro H x v B k o h
  unfold lenF at h
  split at h
  · obtain ⟨_, a, vs, rfl, h1, h2⟩ := o
    exact ⟨_, call_len, fun Q q => ⟨_, _, rfl, .inr ⟨vs, h1, rfl⟩, fin_p q h (by show _ = _; rw [h2.length])⟩⟩
  · obtain ⟨_, rfl⟩ := o
    exact ⟨_, call_len, fun Q q => ⟨_, _, rfl, ⟨h.1, rfl⟩, fin_p q h.2 rfl⟩⟩
  · obtain ⟨a, vs, rfl, rfl, h1, h2⟩ := o
    exact ⟨_, call_len, fun Q q => ⟨_, _, rfl, .inl ⟨vs, SqL.of h1, rfl⟩, fin_p q h (by show _ = _; rw [h2.length])⟩⟩
  · obtain ⟨a, vs, C, rfl, rfl, _, h1, h2⟩ := o
    exact ⟨_, call_len, fun Q q => ⟨_, _, rfl, .inl ⟨vs, SqL.of h1, rfl⟩, fin_p q h (by show _ = _; rw [h2.length])⟩⟩
  · rename_i xs
    obtain ⟨a, rfl, h1⟩ := sq_s o
    exact ⟨_, call_len, fun Q q => ⟨_, _, rfl, .inl ⟨_, h1, rfl⟩, fin_p q h (by show _ = _; rw [List.length_map])⟩⟩
  · obtain ⟨a, vs, rfl, h1, h2⟩ := o
    exact ⟨_, call_len, fun Q q => ⟨_, _, rfl, .inr ⟨vs, h1, rfl⟩, fin_p q h (by show _ = _; rw [h2.length])⟩⟩
  · exact h.elim
def intF : F1
  | .p (.int i), k => k (.p (.int i))
  | .p (.bl b), k => k (.p (.int (if b then 1 else 0)))
  | _, _ => False
theorem c_int : Cal1 X (.type "int") intF := by
  intro H x v B k o h
  unfold intF at h
  split at h
  · obtain ⟨_, rfl⟩ := o
    exact ⟨_, call_int1, fun Q q => .inl ⟨_, rfl, fin_p q h rfl⟩⟩
  · obtain ⟨_, rfl⟩ := o
    exact ⟨_, call_int1, fun Q q => .inr ⟨_, rfl, fin_p q h rfl⟩⟩
  · exact h.elim
def strF : F1
  | .p (.int i), k => i.natAbs.log2 < 1920 ∧ k (.p (.str (toString i)))
  | _, _ => False
theorem c_str : Cal1 X (.type "str") strF := by
  intro H x v B k o h
  unfold strF at h
  split at h
  · obtain ⟨_, rfl⟩ := o
    exact ⟨_, call_str_int, fun Q q => ⟨_, rfl, h.1, fin_p q h.2 rfl⟩⟩
  · exact h.elim
def absF : F1
  | .p (.int i), k => k (.p (.int (if i < 0 then -i else i)))
  | _, _ => False
theorem c_abs : Cal1 X (.builtin "abs") absF := by
  intro H x v B k o h
  unfold absF at h
  split at h
  · obtain ⟨_, rfl⟩ := o
    exact ⟨_, call_abs, fun Q q => ⟨_, rfl, fin_p q h rfl⟩⟩
  · exact h.elim
def maxF : F2
  | .p (.int i), .p (.int j), k => k (.p (.int (max i j)))
  | _, _, _ => False
def minF : F2
  | .p (.int i), .p (.int j), k => k (.p (.int (min i j)))
  | _, _, _ => False
theorem c_max2 (hc : X.calm = true) : Cal2 X (.builtin "max") maxF := by
  intro H x y v w B1 B2 k o1 o2 h
  unfold maxF at h
  split at h
  · rename_i i j
    obtain ⟨_, rfl⟩ := o1; obtain ⟨_, rfl⟩ := o2
    exact ⟨_, call_max2 hc, fun Q q => ⟨_, _, rfl, fin_p q h (by show V.int _ = V.int _; congr 1; split <;> omega)⟩⟩
  · exact h.elim
theorem c_min2 (hc : X.calm = true) : Cal2 X (.builtin "min") minF := by
  intro H x y v w B1 B2 k o1 o2 h
  unfold minF at h
  split at h
  · rename_i i j
    obtain ⟨_, rfl⟩ := o1; obtain ⟨_, rfl⟩ := o2
    exact ⟨_, call_min2 hc, fun Q q => ⟨_, _, rfl, fin_p q h (by show V.int _ = V.int _; congr 1; split <;> omega)⟩⟩
  · exact h.elim
/-- of a list of ints -/
def sumF : F1
  | .l xs, k => ∃ ns : List Int, xs = ns.map P.int ∧ k (.p (.int ns.sum))
  | _, _ => False
def maxLF : F1
  | .l xs, k => ∃ ns : List Int, xs = ns.map P.int ∧ 0 < ns.length ∧ ∀ m, m ∈ ns → (∀ y, y ∈ ns → y ≤ m) → k (.p (.int m))
  | _, _ => False
def minLF : F1
  | .l xs, k => ∃ ns : List Int, xs = ns.map P.int ∧ 0 < ns.length ∧ ∀ m, m ∈ ns → (∀ y, y ∈ ns → m ≤ y) → k (.p (.int m))
  | _, _ => False
def sortF : F1
  | .l xs, k => ∃ ns : List Int, xs = ns.map P.int ∧ ∀ ns' : List Int, ns'.Perm ns → ns'.Pairwise (· ≤ ·) → k (.l (ns'.map P.int))
  | _, _ => False
theorem c_sum (hc : X.calm = true) : Cal1 X (.builtin "sum") sumF := by
  intro H x v B k o h
  unfold sumF at h
  split at h
  · obtain ⟨ns, rfl, h⟩ := h
    obtain ⟨a, vs, rfl, rfl, h1, h2⟩ := o
    rw [h2.ints] at h1
    exact ⟨_, cr_sum hc, fun Q q => ⟨a, ns, rfl, SqL.of h1, fin_p q h rfl⟩⟩
  · exact h.elim
theorem c_maxL (hc : X.calm = true) : Cal1 X (.builtin "max") maxLF := by
  intro H x v B k o h
  unfold maxLF at h
  split at h
  · obtain ⟨ns, rfl, hl, h⟩ := h
    obtain ⟨a, vs, rfl, rfl, h1, h2⟩ := o
    rw [h2.ints] at h1
    exact ⟨_, cr_max hc, fun Q q => ⟨a, ns, rfl, SqL.of h1, hl, fun m h3 h4 => fin_p q (h m h3 h4) rfl⟩⟩
  · exact h.elim
theorem c_minL (hc : X.calm = true) : Cal1 X (.builtin "min") minLF := by
  intro H x v B k o h
  unfold minLF at h
  split at h
  · obtain ⟨ns, rfl, hl, h⟩ := h
    obtain ⟨a, vs, rfl, rfl, h1, h2⟩ := o
    rw [h2.ints] at h1
    exact ⟨_, cr_min hc, fun Q q => ⟨a, ns, rfl, SqL.of h1, hl, fun m h3 h4 => fin_p q (h m h3 h4) rfl⟩⟩
  · exact h.elim
theorem c_sort : Cal1 X (.builtin "sorted") sortF := by
  intro H x v B k o h
  unfold sortF at h
  split at h
  · obtain ⟨ns, rfl, h⟩ := h
    obtain ⟨a, vs, rfl, rfl, h1, h2⟩ := o
    rw [h2.ints] at h1
    exact ⟨_, cr_sortedI, fun Q q => ⟨a, ns, rfl, SqL.of h1, fun ns' p h3 h4 hp => fin_l q (h ns' h3 h4) (RepPs.of_ints ns') hp⟩⟩
  · exact h.elim
/-- tuple(xs), list(xs) -/
def tupF : F1
  | .l xs, k => k (.p (.tup xs))
  | .p (.tup xs), k => k (.p (.tup xs))
  | _, _ => False
def lstF : F1
  | .l xs, k => k (.l xs)
  | .p (.tup xs), k => k (.l xs)
  | .s xs, k => k (.l (xs.map P.int))
  | _, _ => False
theorem c_tup : Cal1 X (.type "tuple") tupF := by
  intro H x v B k o h
  unfold tupF at h
  split at h
  · obtain ⟨a, vs, rfl, rfl, h1, h2⟩ := o
    exact ⟨_, call_tuple_of, fun Q q => ⟨a, vs, rfl, .inl ⟨SqL.of h1, fun l hl => fin_t q h h2 hl⟩⟩⟩
  · obtain ⟨_, a, vs, rfl, h1, h2⟩ := o
    exact ⟨_, call_tuple_of, fun Q q => ⟨a, vs, rfl, .inr ⟨h1, fin_p q h ⟨a, vs, rfl, h1, h2⟩⟩⟩⟩
  · exact h.elim
theorem c_lst : Cal1 X (.type "list") lstF := by
  intro H x v B k o h
  unfold lstF at h
  split at h
  · obtain ⟨a, vs, rfl, rfl, h1, h2⟩ := o
    exact ⟨_, call_list_of, fun Q q => ⟨a, vs, rfl, .inl (SqL.of h1), fun l hl => fin_l q h h2 hl⟩⟩
  · obtain ⟨_, a, vs, rfl, h1, h2⟩ := o
    exact ⟨_, call_list_of, fun Q q => ⟨a, vs, rfl, .inr h1, fun l hl => fin_l q h h2 hl⟩⟩
  · rename_i xs
    obtain ⟨a, rfl, h1⟩ := sq_s o
    exact ⟨_, call_list_of, fun Q q => ⟨a, _, rfl, .inl h1, fun l hl => fin_l q h (RepPs.of_ints xs) hl⟩⟩
  · exact h.elim
/-- isinstance with one built-in class -/
def tyN : D → String
  | .p .non => "NoneType"
  | .p (.bl _) => "bool"
  | .p (.int _) => "int"
  | .p (.str _) => "str"
  | .p (.tup _) => "tuple"
  | .l _ => "list"
  | .ll _ => "list"
  | .t _ => "tuple"
  | .d _ => "dict"
  | .dt _ => "dict"
  | .s _ => "list"
theorem own_ty {K : PySem.W.Frag} {H : Hp} {d : D} {v : V} {B : List Addr} (o : Own K H d v B) : TyX K H v (.type (tyN d)) := by
  have tp : ∀ {a : Addr} {vs : List V}, SqT K H a vs → TyX K H (.ref a) (.type "tuple") := fun {a vs} h => by
    rcases h with (h | ⟨o, h⟩) | ⟨o, its, n, h, c, _⟩
    · exact .base (.tup h)
    · exact .fTuple h
    · exact .kTuple h c
  cases d with
  | p x =>
    obtain ⟨_, r⟩ := o
    cases x with
    | non => cases r; exact .base .non
    | bl b => cases r; exact .base (.bl b)
    | int b => cases r; exact .base (.int b)
    | str b => cases r; exact .base (.str b)
    | tup b => obtain ⟨a, vs, rfl, h, _⟩ := r; exact tp h
  | l xs => obtain ⟨a, vs, rfl, _, h, _⟩ := o; exact .base (.lst h)
  | ll xs => obtain ⟨a, vs, C, rfl, _, _, h, _⟩ := o; exact .base (.lst h)
  | t xs => obtain ⟨a, vs, rfl, h, _⟩ := o; exact tp h
  | d xs => obtain ⟨a, vs, rfl, _, h, _⟩ := o; exact .base (.dK h)
  | dt xs => obtain ⟨a, vs, rfl, _, h, _⟩ := o; exact .base (.dT h)
  | s xs =>
    obtain ⟨a, rfl, ⟨_, h | ⟨o, h⟩⟩ | ⟨_, ⟨o, its, n, h, c, _⟩⟩⟩ := o
    · exact .base (.lst h)
    · exact .base (.frz h)
    · exact .kList h c
/-- the answers, for each class that may stand there -/
def isiB (T : String) (d : D) : Bool := tyN d == T || (tyN d == "bool" && T == "int")
def isiF (T : String) : F1 := fun d k => k (.p (.bl (isiB T d)))
theorem kit_all : ∀ T ∈ (["int", "bool", "str", "tuple", "list", "dict"] : List String), ∀ U ∈ (["NoneType", "bool", "int", "str", "tuple", "list", "dict"] : List String), kitB U T = some (U == T || (U == "bool" && T == "int")) := by decide +kernel
theorem tyN_mem (d : D) : tyN d ∈ (["NoneType", "bool", "int", "str", "tuple", "list", "dict"] : List String) := by
  cases d with
  | p x => cases x <;> simp [tyN]
  | _ => simp [tyN]
theorem q_isi {x y : Str} {Ty : String} {ta : VR} {p2 : Pos} (hT : Ty ∈ (["int", "bool", "str", "tuple", "list", "dict"] : List String)) (hg : Gl X x) (hm : X.mg x = none) (hv : bootBuiltins x = some (.builtin "isinstance")) (hg2 : Gl X y) (hm2 : X.mg y = none) (hv2 : bootBuiltins y = some (.type Ty))
    (ha : QR X a ta) (hn : x ≠ "__name__" := by decide) (hdb : (x == ("__debug__" : Str)) = false := by decide) (hn2 : y ≠ "__name__" := by decide) (hdb2 : (y == ("__debug__" : Str)) = false := by decide)
    (hs : starEach (a :: [.Name y p2]) X.env = (false, eval a X.env) :: starEach [.Name y p2] X.env := by rfl) (hs2 : starEach (.Name y p2 :: []) X.env = (false, eval (.Name y p2) X.env) :: starEach [] X.env := by rfl) (hpl : (backTo pos (starEach [.Name y p2] X.env)).any (·.1) = false := by rfl) :
    QE X (.Call (.Name x p) [a, .Name y p2] [] pos) (tUn (isiF Ty) ta) := by
  have pb : PE X (.Name y p2) (L2.tC (.ty Ty)) := pe_bltn (v := .ty Ty) hg2 hm2 hv2 rfl hn2 hdb2
  refine ⟨fun σ H en F Q s q => wpE.of (pe_callB (call_isi (X := X)) hg hm hv (pa_cons (pe_wp X a) (pa_cons pb pa_nil hs2) hs) hn hdb hs hpl) ?_⟩
  refine (ha.run σ H en F _ s q).mono fun v H1 ⟨r1, en1, F1, B1, s1, o1, off1, fr1, kp1, q1⟩ => ?_
  obtain ⟨d, e1, q1⟩ := un1_of q1
  obtain ⟨C1, w, _⟩ := o1.get s1 e1
  have kb := kit_all Ty hT (tyN d) (tyN_mem d)
  exact ⟨v, .ty Ty, .type (tyN d), .type Ty, _, rfl, .ty Ty, own_ty w, kit_ty kb, EPo.fin s1 fr1 (fun _ h => .inl h) (fun _ h => .inl h) kp1 (Grow.refl H1) (own_p (x := .bl _) rfl) (by simp) q1⟩
/-- list(range(a)), list(range(a, b)), tuple(range(..)) -/
def rgP (a b : Int) : List P := (List.range (b - a).toNat).map fun i => P.int (a + (i : Nat))
theorem rgP_eq (a b : Int) : rgP a b = ((List.range (b - a).toNat).map fun i => a + ((i : Nat) : Int)).map P.int := by
  unfold rgP
  rw [List.map_map]; rfl
theorem rgV_eq (a b : Int) : rgV a b = ((List.range (b - a).toNat).map fun i => a + ((i : Nat) : Int)).map V.int := by
  unfold rgV
  rw [List.map_map]; rfl
theorem rg_rep {K : PySem.W.Frag} {H : Hp} (a b : Int) : RepPs K H (rgP a b) (rgV a b) := by
  rw [rgP_eq, rgV_eq]
  exact RepPs.of_ints _
def rngK (lo hi : Int) (k : D → Prop) : Prop := RgOk lo hi ∧ k (.l (rgP lo hi))
def tLRg1 (t : VT) : VT := fun en Q => t en fun d en1 => asI d fun n => rngK 0 n fun z => Q z en1
theorem q_listRg1 {p1 p2 pos2 : Pos} (hc : X.calm = true) (hg : Gl X "list") (hm : X.mg "list" = none) (hg2 : Gl X "range") (hm2 : X.mg "range" = none) (ha : QE X a t)
    (na : starEach [a] X.env = (false, eval a X.env) :: starEach [] X.env := by rfl) (na2 : starEach [.Call (.Name "range" p2) [a] [] pos2] X.env = (false, eval (.Call (.Name "range" p2) [a] [] pos2) X.env) :: starEach [] X.env := by rfl) :
    QE X (.Call (.Name "list" p1) [.Call (.Name "range" p2) [a] [] pos2] [] pos) (tLRg1 t) := by
  refine ⟨fun σ H en F Q s q => wpE.of (pe_listRg hc hg hm (prg_1 hg2 hm2 (pe_wp X a) na) na2) ?_⟩
  refine (ha.run σ H en F _ s q).mono fun v H1 ⟨d, en1, F1, B1, s1, o1, off1, fr1, kp1, q1⟩ => ?_
  obtain ⟨n, rfl, q1⟩ := asI_of o1 q1
  refine ⟨n, rfl, q1.1, fun l hl => ?_⟩
  exact EPo.fin s1 fr1 (fun _ h => .inl h) (fun _ h => .inl h) kp1 (Grow.upd hl) (own_l upd_same (rg_rep 0 n)) (by simpa using hl) q1.2
def rg2K (d1 d2 : D) (k : D → Prop) : Prop := asI d1 fun lo => asI d2 fun hi => rngK lo hi k
end
end VL
/-! Eng7: statements, targets, what changes a list. -/
namespace VL
open PySem PySem.Spec PyProof.Rows L2

/-! ### slots written -/
section
variable {K : PySem.W.Frag} {H H' : Hp} {en : En} {σ : L2.St} {F : Ft}
def Sl.fx : Sl → Bool
  | .b _ => true
  | .k _ => true
  | _ => false
abbrev Ft.put (F : Ft) (i : Nat) (B : List Addr) : Ft := fun j => if j = i then B else F j
/-- slot i gets a value -/
theorem put_same {F : Ft} {i : Nat} {B : List Addr} : F.put i B i = B := if_pos rfl
theorem put_ne {F : Ft} {i j : Nat} {B : List Addr} (h : j ≠ i) : F.put i B j = F j := if_neg h
theorem S.put (s : S K H en σ F) {i : Nat} {sl sl' : Sl} (hi : en[i]? = some sl) (hk : sl.isk = false) {d : D} {v : V} {B : List Addr} (o : Own K H d v B) (hd : sl'.dat = some d)
    (own : sl'.ow = true → ∀ (j : Nat) s' d', en[j]? = some s' → s'.dat = some d' → j ≠ i → ∀ a ∈ B, a ∉ F j)
    (al : ∀ (j : Nat) s', en[j]? = some s' → s'.ow = true → j ≠ i → sl'.of j = false → ∀ a ∈ F j, a ∉ B) (tg : ∀ (j : Nat) s', en[j]? = some s' → sl'.of j = true → s'.isk = true) :
    S K H (en.set i sl') (σ.set i (some v)) (F.put i B) := by
  have hl : i < en.length := (List.getElem?_eq_some_iff.mp hi).1
  have hlσ : i < σ.length := by rw [← s.len]; exact hl
  have self : (en.set i sl')[i]? = some sl' := List.getElem?_set_self hl
  have other : ∀ j : Nat, j ≠ i → (en.set i sl')[j]? = en[j]? := fun j h => List.getElem?_set_ne h.symm
  refine ⟨by rw [List.length_set, List.length_set]; exact s.len, fun j s' d' h1 h2 => ?_, fun j k s' s'' d' h1 h2 h3 h4 h5 h6 a h7 => ?_, fun j k s' s'' h1 h2 h3 => ?_⟩
  · by_cases hj : j = i
    · subst hj
      rw [self] at h1; cases h1
      rw [hd] at h2; cases h2
      refine ⟨v, List.getElem?_set_self hlσ, ?_⟩
      show Own K H d v (if j = j then B else F j)
      rw [if_pos rfl]; exact o
    · rw [other j hj] at h1
      obtain ⟨u, e, o'⟩ := s.own j s' d' h1 h2
      refine ⟨u, by rw [List.getElem?_set_ne (Ne.symm hj)]; exact e, ?_⟩
      show Own K H d' u (if j = i then B else F j)
      rw [if_neg hj]; exact o'
  · by_cases hj : j = i
    · subst hj
      rw [self] at h1; cases h1
      have hkj : k ≠ j := fun z => h6 z.symm
      rw [other k hkj] at h2
      have h7 : a ∈ B := by simpa [Ft.put] using h7
      show a ∉ (if k = j then B else F k)
      rw [if_neg hkj]
      exact own h3 k s'' d' h2 h4 hkj a h7
    · rw [other j hj] at h1
      have h8 : a ∈ F j := by simpa [Ft.put, hj] using h7
      by_cases hki : k = i
      · subst hki
        rw [self] at h2; cases h2
        show a ∉ (if k = k then B else F k)
        rw [if_pos rfl]
        exact al j s' h1 h3 hj h5 a h8
      · rw [other k hki] at h2
        show a ∉ (if k = i then B else F k)
        rw [if_neg hki]
        exact s.dis j k s' s'' d' h1 h2 h3 h4 h5 h6 a h8
  · by_cases hki : k = i
    · subst hki
      rw [self] at h2; cases h2
      by_cases hj : j = k
      · subst hj
        rw [tg j sl hi h3] at hk; cases hk
      · rw [other j hj] at h1
        exact tg j s' h1 h3
    · rw [other k hki] at h2
      by_cases hj : j = i
      · subst hj
        rw [s.tag j k sl s'' hi h2 h3] at hk; cases hk
      · rw [other j hj] at h1
        exact s.tag j k s' s'' h1 h2 h3
theorem wr_put {i : Nat} {sl' : Sl} {B : List Addr} {a : Addr} (h : Wr (en.set i sl') (F.put i B) a) : (sl'.wr = true ∧ a ∈ B) ∨ Wr en F a := by
  obtain ⟨j, s, h1, h2, h3⟩ := h
  by_cases hj : j = i
  · subst hj
    have hl : j < en.length := by have := (List.getElem?_eq_some_iff.mp h1).1; rwa [List.length_set] at this
    rw [List.getElem?_set_self hl] at h1; cases h1
    exact .inl ⟨h2, by simpa [Ft.put] using h3⟩
  · rw [List.getElem?_set_ne (Ne.symm hj)] at h1
    exact .inr ⟨j, s, h1, h2, by simpa [Ft.put, hj] using h3⟩
theorem us_put {i : Nat} {sl' : Sl} {B : List Addr} {a : Addr} (h : Us (en.set i sl') (F.put i B) a) : a ∈ B ∨ Us en F a := by
  obtain ⟨j, s, d, h1, h2, h3⟩ := h
  by_cases hj : j = i
  · subst hj
    exact .inl (by simpa [Ft.put] using h3)
  · rw [List.getElem?_set_ne (Ne.symm hj)] at h1
    exact .inr ⟨j, s, d, h1, h2, by simpa [Ft.put, hj] using h3⟩
/-- what slot j holds is changed in place -/
theorem S.mut (s : S K H en σ F) {j : Nat} {sl sl' : Sl} (hj : en[j]? = some sl) (hw : sl.wr = true) (hw' : sl'.wr = true) {d' : D} (hd' : sl'.dat = some d') {v : V} {C B : List Addr} (hv : σ[j]? = some (some v))
    (keep : ∀ b o, H b = some o → b ∉ F j → H' b = some o) (own : Own K H' d' v C) (sub : ∀ a ∈ C, a ∈ F j ∨ a ∈ B ∨ H a = none) (offB : ∀ a ∈ B, ¬ Us en F a) :
    S K H' (en.set j sl') σ (F.put j C) ∧ Fr H (fun a => Wr en F a ∨ a ∈ B) (fun a => Us en F a ∨ a ∈ B) H' (Wr (en.set j sl') (F.put j C)) (Us (en.set j sl') (F.put j C)) := by
  have hl : j < en.length := (List.getElem?_eq_some_iff.mp hj).1
  obtain ⟨d, hd⟩ := sl.wr_dat hw
  have self : (en.set j sl')[j]? = some sl' := List.getElem?_set_self hl
  have other : ∀ i : Nat, i ≠ j → (en.set j sl')[i]? = en[i]? := fun i h => List.getElem?_set_ne h.symm
  obtain ⟨_, hv1, o1⟩ := s.own j sl d hj hd
  have ext : Ext H H' := fun b o e t => keep b o e fun z => by
    obtain ⟨o', e', n⟩ := o1.at b z
    rw [e] at e'; cases e'
    exact n t
  have offC : ∀ (i : Nat) s' dd, en[i]? = some s' → s'.dat = some dd → i ≠ j → ∀ a ∈ F i, a ∉ C := fun i s' dd h1 h2 hij a ha hc => by
    obtain ⟨_, _, oi⟩ := s.own i s' _ h1 h2
    rcases sub a hc with z | z | z
    · exact s.dis' hj h1 hw h2 (Ne.symm hij) a z ha
    · exact offB a z ⟨i, s', dd, h1, h2, ha⟩
    · obtain ⟨o', e', _⟩ := oi.at a ha
      rw [z] at e'; cases e'
  have notk : ∀ (k : Nat) s'', en[k]? = some s'' → s''.of j = false := fun k s'' h => by
    cases q : s''.of j with
    | false => rfl
    | true =>
      have := s.tag j k sl s'' hj h q
      cases sl <;> first | (cases hw; done) | (cases this; done)
  have sl'nk : sl'.isk = false := by cases sl' <;> first | rfl | (cases hw'; done)
  have sl'of : ∀ i, sl'.of i = false := fun i => by cases sl' <;> first | rfl | (cases hw'; done)
  refine ⟨⟨by rw [List.length_set]; exact s.len, fun i s' dd h1 h2 => ?_, fun i k s' s'' dd h1 h2 h3 h4 h5 h6 a h7 => ?_, fun i k s' s'' h1 h2 h3 => ?_⟩, fun b o e hw => keep b o e fun z => hw (.inl ⟨j, sl, hj, ‹sl.wr = true›, z⟩), fun b h => ?_, fun b h => ?_⟩
  · by_cases hi : i = j
    · subst hi
      rw [self] at h1; cases h1
      rw [hd'] at h2; cases h2
      refine ⟨v, hv, ?_⟩
      show Own K H' d' v (if i = i then C else F i)
      rw [if_pos rfl]; exact own
    · rw [other i hi] at h1
      obtain ⟨u, e, o'⟩ := s.own i s' dd h1 h2
      refine ⟨u, e, ?_⟩
      show Own K H' dd u (if i = j then C else F i)
      rw [if_neg hi]
      exact o'.kept ext fun a ha ob z => keep a ob z fun q => s.dis' hj h1 hw h2 (Ne.symm hi) a q ha
  · by_cases hi : i = j
    · subst hi
      have hk : k ≠ i := fun z => h6 z.symm
      rw [other k hk] at h2
      have h7 : a ∈ C := by simpa [Ft.put] using h7
      show a ∉ (if k = i then C else F k)
      rw [if_neg hk]
      exact fun z => offC k s'' dd h2 h4 hk a z h7
    · rw [other i hi] at h1
      have h8 : a ∈ F i := by simpa [Ft.put, hi] using h7
      by_cases hk : k = j
      · subst hk
        show a ∉ (if k = k then C else F k)
        rw [if_pos rfl]
        obtain ⟨di, hdi⟩ := s'.ow_dat h3
        exact offC i s' di h1 hdi hi a h8
      · rw [other k hk] at h2
        show a ∉ (if k = j then C else F k)
        rw [if_neg hk]
        exact s.dis i k s' s'' dd h1 h2 h3 h4 h5 h6 a h8
  · by_cases hk : k = j
    · subst hk
      rw [self] at h2; cases h2
      rw [sl'of i] at h3; cases h3
    · rw [other k hk] at h2
      by_cases hi : i = j
      · subst hi
        rw [notk k s'' h2] at h3; cases h3
      · rw [other i hi] at h1
        exact s.tag i k s' s'' h1 h2 h3
  · rcases wr_put h with ⟨_, z⟩ | z
    · rcases sub b z with q | q | q
      · exact .inl (.inl ⟨j, sl, hj, hw, q⟩)
      · exact .inl (.inr q)
      · exact .inr q
    · exact .inl (.inl z)
  · rcases us_put h with z | z
    · rcases sub b z with q | q | q
      · exact .inl (.inl ⟨j, sl, d, hj, hd, q⟩)
      · exact .inl (.inr q)
      · exact .inr q
    · exact .inl (.inl z)
end

/-! ### statements -/
structure VE where
  nx : En → Prop
  rt : D → En → Prop
  bk : En → Prop := fun _ => False
  ct : En → Prop := fun _ => False
abbrev VS := VE → En → Prop
structure Kq (en : En) (F : Ft) (σ : L2.St) (en' : En) (F' : Ft) (σ' : L2.St) : Prop where
  kp : Kp en F en' F'
  fix : ∀ (i : Nat) s, en[i]? = some s → s.fx = true → σ'[i]? = σ[i]?
theorem Kq.refl (en : En) (F : Ft) (σ : L2.St) : Kq en F σ en F σ := ⟨Kp.refl en F, fun _ _ _ _ => rfl⟩
theorem Kq.trans {en en1 en2 : En} {F F1 F2 : Ft} {σ σ1 σ2 : L2.St} (a : Kq en F σ en1 F1 σ1) (b : Kq en1 F1 σ1 en2 F2 σ2) : Kq en F σ en2 F2 σ2 := by
  refine ⟨a.kp.trans b.kp, fun i s h f => ?_⟩
  cases s with
  | b d =>
    obtain ⟨d', h'⟩ := a.kp.b i d h
    exact (b.fix i _ h' rfl).trans (a.fix i _ h f)
  | k d => exact (b.fix i _ (a.kp.k i d h).1 rfl).trans (a.fix i _ h f)
  | e => cases f
  | o d => cases f
  | r g d => cases f
theorem Kp.kq {en en' : En} {F F' : Ft} {σ : L2.St} (h : Kp en F en' F') : Kq en F σ en' F' σ := ⟨h, fun _ _ _ _ => rfl⟩
section
variable (K : PySem.W.Frag) (H : Hp) (en : En) (σ : L2.St) (F : Ft)
def NPo (Q : En → Prop) (σ' : L2.St) (H' : Hp) : Prop := ∃ en' F', S K H' en' σ' F' ∧ Fr H (Wr en F) (Us en F) H' (Wr en' F') (Us en' F') ∧ Kq en F σ en' F' σ' ∧ Q en'
def RtPo (Q : D → En → Prop) (v : V) (H' : Hp) : Prop := ∃ d en' F' B σ', S K H' en' σ' F' ∧ Own K H' d v B ∧ (∀ a ∈ B, ¬ Us en' F' a) ∧
  Fr H (Wr en F) (Us en F) H' (fun a => Wr en' F' a ∨ a ∈ B) (fun a => Us en' F' a ∨ a ∈ B) ∧ Kq en F σ en' F' σ' ∧ Q d en'
def endsOf (D : VE) : Ends := ⟨NPo K H en σ F D.nx, RtPo K H en σ F D.rt, NPo K H en σ F D.bk, NPo K H en σ F D.ct⟩
end
def wpS (X : Cx) (st : Stmt) : TS := fun D σ H => ∀ (pins : List (Addr × Obj)) (s : Shared), Inv X pins σ H s → wpAny (model X.prog X.w) X.A (exec st X.env) (SP X pins D) X.xe s
theorem ps_wp (X : Cx) (st : Stmt) : PS X st (wpS X st) := ⟨fun pins s _ _ _ I h => h pins s I⟩
theorem wpS.of {X : Cx} {st : Stmt} {t : TS} (h : PS X st t) {σ : L2.St} {H : Hp} {D : Ends} (q : t D σ H) : wpS X st D σ H := fun pins s I => h.run pins s σ H D I q
def wpSs (X : Cx) (st : List Stmt) : TS := fun D σ H => ∀ (pins : List (Addr × Obj)) (s : Shared), Inv X pins σ H s → wpAny (model X.prog X.w) X.A (execs st X.env) (SP X pins D) X.xe s
theorem pss_wp (X : Cx) (st : List Stmt) : PSs X st (wpSs X st) := ⟨fun pins s _ _ _ I h => h pins s I⟩
theorem wpSs.of {X : Cx} {st : List Stmt} {t : TS} (h : PSs X st t) {σ : L2.St} {H : Hp} {D : Ends} (q : t D σ H) : wpSs X st D σ H := fun pins s I => h.run pins s σ H D I q
structure QS (X : Cx) (st : Stmt) (t : VS) : Prop where
  run : ∀ σ H en F D, S X.K H en σ F → t D en → wpS X st (endsOf X.K H en σ F D) σ H
structure QSs (X : Cx) (st : List Stmt) (t : VS) : Prop where
  run : ∀ σ H en F D, S X.K H en σ F → t D en → wpSs X st (endsOf X.K H en σ F D) σ H
/-- a smaller wish -/
structure EndsLe (D D' : Ends) : Prop where
  nx : ∀ σ H, D.nx σ H → D'.nx σ H
  rt : ∀ v H, D.rt v H → D'.rt v H
  bk : ∀ σ H, D.bk σ H → D'.bk σ H
  ct : ∀ σ H, D.ct σ H → D'.ct σ H
theorem sp_mono {X : Cx} {pins : List (Addr × Obj)} {D D' : Ends} (h : EndsLe D D') {f : Flow} {s : Shared} (q : SP X pins D f s) : SP X pins D' f s := by
  cases f with
  | next => obtain ⟨σ, H, I, q⟩ := q; exact ⟨σ, H, I, h.nx _ _ q⟩
  | brk => obtain ⟨σ, H, I, q⟩ := q; exact ⟨σ, H, I, h.bk _ _ q⟩
  | cont => obtain ⟨σ, H, I, q⟩ := q; exact ⟨σ, H, I, h.ct _ _ q⟩
  | ret u => obtain ⟨v, σ, H, I, r, q⟩ := q; exact ⟨v, σ, H, I, r, h.rt _ _ q⟩
theorem wpS.mono {X : Cx} {st : Stmt} {D D' : Ends} {σ : L2.St} {H : Hp} (h : wpS X st D σ H) (k : EndsLe D D') : wpS X st D' σ H := fun pins s I => thn (h pins s I) fun _ _ q => sp_mono k q
theorem wpSs.mono {X : Cx} {st : List Stmt} {D D' : Ends} {σ : L2.St} {H : Hp} (h : wpSs X st D σ H) (k : EndsLe D D') : wpSs X st D' σ H := fun pins s I => thn (h pins s I) fun _ _ q => sp_mono k q
section
variable {K : PySem.W.Frag} {H H1 H2 : Hp} {en en1 : En} {σ σ1 : L2.St} {F F1 : Ft} {W' U' : Addr → Prop}
theorem NPo.chain {Q : En → Prop} {σ2 : L2.St} (fr : Fr H (Wr en F) (Us en F) H1 W' U') (hw : ∀ a, Wr en1 F1 a → W' a) (hu : ∀ a, Us en1 F1 a → U' a) (kq : Kq en F σ en1 F1 σ1) (h : NPo K H1 en1 σ1 F1 Q σ2 H2) : NPo K H en σ F Q σ2 H2 := by
  obtain ⟨en2, F2, s2, fr2, kq2, q⟩ := h
  exact ⟨en2, F2, s2, fr.trans fr2 (fun _ => Wr.us) hw hu (fun _ h => .inl h) (fun _ h => .inl h), kq.trans kq2, q⟩
theorem RtPo.chain {Q : D → En → Prop} {v : V} (fr : Fr H (Wr en F) (Us en F) H1 W' U') (hw : ∀ a, Wr en1 F1 a → W' a) (hu : ∀ a, Us en1 F1 a → U' a) (kq : Kq en F σ en1 F1 σ1) (h : RtPo K H1 en1 σ1 F1 Q v H2) : RtPo K H en σ F Q v H2 := by
  obtain ⟨d, en2, F2, B, σ2, s2, o, off, fr2, kq2, q⟩ := h
  exact ⟨d, en2, F2, B, σ2, s2, o, off, fr.trans fr2 (fun _ => Wr.us) hw hu (fun _ h => .inl h) (fun _ h => .inl h), kq.trans kq2, q⟩
theorem ends_chain {D : VE} (fr : Fr H (Wr en F) (Us en F) H1 W' U') (hw : ∀ a, Wr en1 F1 a → W' a) (hu : ∀ a, Us en1 F1 a → U' a) (kq : Kq en F σ en1 F1 σ1) : EndsLe (endsOf K H1 en1 σ1 F1 D) (endsOf K H en σ F D) :=
  ⟨fun _ _ h => NPo.chain fr hw hu kq h, fun _ _ h => RtPo.chain fr hw hu kq h, fun _ _ h => NPo.chain fr hw hu kq h, fun _ _ h => NPo.chain fr hw hu kq h⟩
/-- nothing has happened -/
theorem NPo.now {Q : En → Prop} (s : S K H en σ F) (q : Q en) : NPo K H en σ F Q σ H := ⟨en, F, s, Fr.same', Kq.refl en F σ, q⟩
end
section
variable {X : Cx} {e a b c : Expr} {es : List Expr} {st : Stmt} {rest : List Stmt} {t : VT} {u w : VS} {pos p : Pos}
def vNext : VS := fun D en => D.nx en
def vSeq (t u : VS) : VS := fun D en => t { D with nx := u D } en
def vBrk : VS := fun D en => D.bk en
def vCont : VS := fun D en => D.ct en
theorem s_nil : QSs X [] vNext := ⟨fun σ H en F D s q => wpSs.of pss_nil (NPo.now s q)⟩
theorem s_pass : QS X (.Pass pos) vNext := ⟨fun σ H en F D s q => wpS.of ps_pass (NPo.now s q)⟩
theorem s_brk : QS X (.Break pos) vBrk := ⟨fun σ H en F D s q => wpS.of ps_break (NPo.now s q)⟩
theorem s_cont : QS X (.Continue pos) vCont := ⟨fun σ H en F D s q => wpS.of ps_continue (NPo.now s q)⟩
theorem s_one (h : QS X st u) : QSs X [st] u := ⟨fun σ H en F D s q => wpSs.of (pss_one (ps_wp X st)) (h.run σ H en F D s q)⟩
theorem s_cons (h1 : QS X st u) (h2 : QSs X rest w) : QSs X (st :: rest) (vSeq u w) := by
  refine ⟨fun σ H en F D s q => wpSs.of (pss_cons (ps_wp X st) (pss_wp X rest)) ?_⟩
  refine (h1.run σ H en F _ s q).mono ⟨fun σ1 H1 ⟨en1, F1, s1, fr, kq, q1⟩ => ?_, fun _ _ h => h, fun _ _ h => h, fun _ _ h => h⟩
  exact (h2.run σ1 H1 en1 F1 D s1 q1).mono (ends_chain fr (fun _ h => h) (fun _ h => h) kq)
def vRet (t : VT) : VS := fun D en => t en fun d en1 => D.rt d en1
theorem s_ret (h : QE X e t) : QS X (.Return (some e) pos) (vRet t) := by
  refine ⟨fun σ H en F D s q => wpS.of (ps_ret (pe_wp X e)) ?_⟩
  exact (h.run σ H en F _ s q).mono fun v H' ⟨d, en', F', B, s', o, off, fr, kp, q⟩ => ⟨d, en', F', B, σ, s', o, off, fr, kp.kq, q⟩
def vRetN : VS := fun D en => D.rt (.p .non) en
theorem s_retN : QS X (.Return none pos) vRetN := ⟨fun σ H en F D s q => wpS.of ps_retN ⟨.p .non, en, F, [], σ, s, own_p rfl, by simp, Fr.same, Kq.refl en F σ, q⟩⟩
def vExpr (t : VT) : VS := fun D en => t en fun _ en1 => D.nx en1
theorem s_expr (h : QE X e t) (hs : swapsWith e none pos.line X.env = pure false := by rfl) : QS X (.Expr e pos) (vExpr t) := by
  refine ⟨fun σ H en F D s q => wpS.of (ps_expr (pe_wp X e) hs) ?_⟩
  exact (h.run σ H en F _ s q).mono fun v H' ⟨d, en', F', B, s', o, off, fr, kp, q⟩ => ⟨en', F', s', fr.trans (Fr.refl (fun _ h => h) fun _ h => h) (fun _ => Wr.us) (fun _ h => h) (fun _ h => h) (fun _ h => .inl (.inl h)) (fun _ h => .inl (.inl h)), kp.kq, q⟩
def ifS (c : Bool) (t u : VS) (D : VE) (en : En) : Prop := match c with
  | true => t D en
  | false => u D en
def vIf (c : VTst) (t u : VS) : VS := fun D en => c en fun b en1 => ifS b t u D en1
theorem s_if {a b : List Stmt} {tc : VTst} (hc : QT X c tc) (ha : QSs X a u) (hb : QSs X b w) : QS X (.If c a b pos) (vIf tc u w) := by
  refine ⟨fun σ H en F D s q => wpS.of (ps_if (pt_wp X c) (pss_wp X a) (pss_wp X b)) ?_⟩
  refine (hc.run σ H en F _ s q).mono fun k H1 ⟨en1, F1, s1, fr, kp, q⟩ => ?_
  cases k with
  | true => exact iteT ((ha.run σ H1 en1 F1 D s1 q).mono (ends_chain fr (fun _ h => h) (fun _ h => h) kp.kq))
  | false => exact iteF ((hb.run σ H1 en1 F1 D s1 q).mono (ends_chain fr (fun _ h => h) (fun _ h => h) kp.kq))

/-! ### targets -/
/-- how a value comes: with all that it holds (none), or as another name for what is within a slot -/
abbrev Md := Option Nat
def slOf (m : Md) (d : D) : Sl := match d, m with
  | .p x, _ => .o (.p x)
  | d, none => .o d
  | d, some g => .r g d
abbrev VG := Md → D → En → (En → Prop) → Prop
def MdOk (m : Md) (en : En) (F : Ft) (B : List Addr) : Prop := match m with
  | none => ∀ a ∈ B, ¬ Us en F a
  | some g => (∀ (j : Nat) s, en[j]? = some s → s.ow = true → (g == j + 1) = false → ∀ a ∈ F j, a ∉ B) ∧ ∀ (j : Nat) s, en[j]? = some s → (g == j + 1) = true → s.isk = true
def GPo (K : PySem.W.Frag) (H : Hp) (en : En) (σ : L2.St) (F : Ft) (m : Md) (B : List Addr) (ts : List Nat) (Q : En → Prop) (σ' : L2.St) (H' : Hp) : Prop := ∃ en' F', S K H' en' σ' F' ∧
  Fr H (fun a => Wr en F a ∨ (m = none ∧ a ∈ B)) (fun a => Us en F a ∨ a ∈ B) H' (Wr en' F') (Us en' F') ∧ Kq en F σ en' F' σ' ∧ (∀ j : Nat, j ∉ ts → σ'[j]? = σ[j]?) ∧ Q en'
def wpG (X : Cx) (tg : Expr) : TG := fun v σ H Q => ∀ (pins : List (Addr × Obj)) (s : Shared) (u : Value), Inv X pins σ H s → RelV v u → wpAny (model X.prog X.w) X.A (assign tg X.env u) (fun _ s' => ∃ σ' H', Inv X pins σ' H' s' ∧ Q σ' H') X.xe s
theorem pg_wp (X : Cx) (tg : Expr) : PG X tg (wpG X tg) := ⟨fun pins s _ _ _ u _ I r h => h pins s u I r⟩
theorem wpG.of {X : Cx} {e : Expr} {t : TG} (h : PG X e t) {v : V} {σ : L2.St} {H : Hp} {Q : L2.St → Hp → Prop} (q : t v σ H Q) : wpG X e v σ H Q := fun pins s u I r => h.run pins s σ H v u Q I r q
structure QG (X : Cx) (tg : Expr) (t : VG) (ts : List Nat) : Prop where
  run : ∀ σ H en F m d v B Q, S X.K H en σ F → Own X.K H d v B → MdOk m en F B → t m d en Q → wpG X tg v σ H (GPo X.K H en σ F m B ts Q)
def putK (s : Option Sl) (q : Prop) : Prop := match s with
  | some .e => q
  | some (.o _) => q
  | some (.r _ _) => q
  | _ => False
theorem putK_of {s : Option Sl} {q : Prop} (h : putK s q) : ∃ sl, s = some sl ∧ sl.fx = false ∧ sl.isk = false ∧ q := by
  unfold putK at h
  split at h
  · exact ⟨_, rfl, rfl, rfl, h⟩
  · exact ⟨_, rfl, rfl, rfl, h⟩
  · exact ⟨_, rfl, rfl, rfl, h⟩
  · exact h.elim
def gVar (i : Nat) : VG := fun m d en Q => putK en[i]? (Q (en.set i (slOf m d)))
theorem slOf_dat (m : Md) (d : D) : (slOf m d).dat = some d := by
  cases d <;> cases m <;> rfl
theorem kp_set {en : En} {F : Ft} {i : Nat} {sl sl' : Sl} {B : List Addr} (hi : en[i]? = some sl) (hf : sl.fx = false) (hf' : sl'.isk = false) : Kp en F (en.set i sl') (F.put i B) := by
  have hl : i < en.length := (List.getElem?_eq_some_iff.mp hi).1
  refine ⟨List.length_set, fun j d h => ?_, fun j d h => ?_, fun j d h => ?_⟩
  · have hj : i ≠ j := fun z => by subst z; rw [hi] at h; cases h; cases hf
    exact ⟨d, by rw [List.getElem?_set_ne hj]; exact h⟩
  · have hj : i ≠ j := fun z => by subst z; rw [hi] at h; cases h; cases hf
    exact ⟨by rw [List.getElem?_set_ne hj]; exact h, put_ne (Ne.symm hj)⟩
  · have hj : i ≠ j := fun z => by subst z; rw [List.getElem?_set_self hl] at h; cases h; cases hf'
    rw [List.getElem?_set_ne hj] at h; exact h
theorem kq_set {en : En} {F : Ft} {σ : L2.St} {i : Nat} {sl sl' : Sl} {v : Option V} {B : List Addr} (hi : en[i]? = some sl) (hf : sl.fx = false) (hf' : sl'.isk = false) : Kq en F σ (en.set i sl') (F.put i B) (σ.set i v) := by
  refine ⟨kp_set hi hf hf', fun j s h f => ?_⟩
  have hj : i ≠ j := fun z => by subst z; rw [hi] at h; cases h; rw [hf] at f; cases f
  rw [List.getElem?_set_ne hj]
theorem slOf_nk (m : Md) (d : D) : (slOf m d).isk = false := by cases d <;> cases m <;> rfl
/-- a value comes to slot i -/
theorem S.come {K : PySem.W.Frag} {H : Hp} {en : En} {σ : L2.St} {F : Ft} {Q : En → Prop} (s : S K H en σ F) {i : Nat} {sl : Sl} (hi : en[i]? = some sl) (hf : sl.fx = false) (hk : sl.isk = false) {m : Md} {d : D} {v : V} {B : List Addr} (o : Own K H d v B) (hm : MdOk m en F B)
    (q : Q (en.set i (slOf m d))) : GPo K H en σ F m B [i] Q (σ.set i (some v)) H := by
  have pure : ∀ x, d = .p x → B = [] := fun x e => by subst e; exact o.1
  refine ⟨_, F.put i B, s.put hi hk o (slOf_dat m d) (fun ho j s' d' h1 h2 h3 a ha => ?_) (fun j s' h1 h2 h3 h4 a ha hb => ?_) (fun j s' h1 h2 => ?_), Fr.refl (fun a ha => ?_) (fun a ha => ?_), kq_set hi hf (slOf_nk m d), fun j hj => List.getElem?_set_ne fun z => hj (by simp [z]), q⟩
  · cases m with
    | none => exact fun z => hm a ha ⟨j, s', d', h1, h2, z⟩
    | some g =>
      cases d with
      | p x => rw [pure x rfl] at ha; cases ha
      | _ => cases ho
  · cases m with
    | none => obtain ⟨d', hd'⟩ := s'.ow_dat h2; exact hm a hb ⟨j, s', d', h1, hd', ha⟩
    | some g =>
      cases d with
      | p x => rw [pure x rfl] at hb; cases hb
      | _ => exact hm.1 j s' h1 h2 h4 a ha hb
  · cases m with
    | none => cases d <;> cases h2
    | some g =>
      cases d with
      | p x => cases h2
      | _ => exact hm.2 j s' h1 h2
  · rcases wr_put ha with ⟨z1, z2⟩ | z
    · refine .inr ⟨?_, z2⟩
      cases m with
      | none => rfl
      | some g =>
        cases d with
        | p x => rw [pure x rfl] at z2; cases z2
        | _ => cases z1
    · exact .inl z
  · rcases us_put ha with z | z
    · exact .inr z
    · exact .inl z
theorem g_var {i : Nat} {x : Str} (hN : X.N.Nodup) (hi : X.N[i]? = some x) (hx : Loc X.env.scope x) (hf : X.fn x = true ∨ X.env.scope.names.lookup x = some .local := by first | exact .inl rfl | exact .inr rfl | assumption) : QG X (.Name x p) (gVar i) [i] := by
  refine ⟨fun σ H en F m d v B Q s o hm q => wpG.of (pg_name hN hi hx hf) ?_⟩
  obtain ⟨sl, h1, h2, h3, q⟩ := putK_of q
  exact s.come h1 h2 h3 o hm q
/-- name = value -/
def vSet (i : Nat) (t : VT) : VS := fun D en => t en fun d en1 => putK en1[i]? (D.nx (en1.set i (.o d)))
theorem s_set {i : Nat} {x : Str} {pos' : Pos} (hN : X.N.Nodup) (hi : X.N[i]? = some x) (hx : Loc X.env.scope x) (he : QE X e t) (hs : swapsWith e (some (.Name x pos')) pos.line X.env = pure false := by rfl) (hf : X.fn x = true ∨ X.env.scope.names.lookup x = some .local := by first | exact .inl rfl | exact .inr rfl | assumption) :
    QS X (.Assign [.Name x pos'] e pos) (vSet i t) := by
  refine ⟨fun σ H en F D s q => wpS.of (ps_set hN hi hx (pe_wp X e) hs hf) ?_⟩
  refine (he.run σ H en F _ s q).mono fun v H' ⟨d, en1, F1, B, s1, o, off, fr, kp, q⟩ => ?_
  obtain ⟨sl, h1, h2, h3, q⟩ := putK_of q
  have e0 : slOf none d = .o d := by cases d <;> rfl
  obtain ⟨en2, F2, s2, fr2, kq2, _, q2⟩ := s1.come (Q := D.nx) (m := none) h1 h2 h3 o off (by rw [e0]; exact q)
  exact ⟨en2, F2, s2, fr.trans fr2 (fun _ => Wr.us) (fun _ h => h.imp id (·.2)) (fun _ h => h) (fun _ h => .inl h) (fun _ h => .inl h), kp.kq.trans kq2, q2⟩
/-- a target of any form = value -/
def vAsg (t : VT) (g : VG) : VS := fun D en => t en fun d en1 => g none d en1 D.nx
theorem s_asg {tg : Expr} {g : VG} {ts : List Nat} (he : QE X e t) (hg : QG X tg g ts) (hs : swapsWithSole [tg] e pos.line X.env = pure false := by rfl) (hw : swappedStores [tg] e X.env = pure none := by rfl)
    (h1 : (assignEach [tg] X.env).map (·.2) = [assign tg X.env] := by rfl) : QS X (.Assign [tg] e pos) (vAsg t g) := by
  refine ⟨fun σ H en F D s q => wpS.of (ps_asg (pe_wp X e) (pg_wp X tg) hs hw h1) ?_⟩
  refine (he.run σ H en F _ s q).mono fun v H' ⟨d, en1, F1, B, s1, o, off, fr, kp, q⟩ => ?_
  have := hg.run σ H' en1 F1 none d v B _ s1 o off q
  intro pins sh u I r
  refine thn (this pins sh u I r) fun _ s' ⟨σ2, H2, I2, en2, F2, s2, fr2, kq2, _, q2⟩ => ⟨σ2, H2, I2, en2, F2, s2, ?_, kp.kq.trans kq2, q2⟩
  exact fr.trans fr2 (fun _ => Wr.us) (fun _ h => h.imp id (·.2)) (fun _ h => h) (fun _ h => .inl h) (fun _ h => .inl h)
/-! tuples of targets -/
abbrev VGs := Md → List D → En → (En → Prop) → Prop
def wpGs (X : Cx) (tg : List Expr) : TGs := fun vs σ H Q => ∀ (pins : List (Addr × Obj)) (s : Shared) (us : List Value), Inv X pins σ H s → Vals vs us → wpAny (model X.prog X.w) X.A (assignInOrder ((assignEach tg X.env).map (·.2)) us) (fun _ s' => ∃ σ' H', Inv X pins σ' H' s' ∧ Q σ' H') X.xe s
theorem pgs_wp (X : Cx) (tg : List Expr) : PGs X tg (wpGs X tg) := ⟨fun pins s _ _ _ us _ I r h => h pins s us I r⟩
theorem wpGs.of {X : Cx} {e : List Expr} {t : TGs} (h : PGs X e t) {v : List V} {σ : L2.St} {H : Hp} {Q : L2.St → Hp → Prop} (q : t v σ H Q) : wpGs X e v σ H Q := fun pins s u I r => h.run pins s σ H v u Q I r q
structure QGs (X : Cx) (tg : List Expr) (t : VGs) (ts : List Nat) : Prop where
  run : ∀ σ H en F m d v B Q, S X.K H en σ F → Owns X.K H d v B → MdOk m en F B → t m d en Q → wpGs X tg v σ H (GPo X.K H en σ F m B ts Q)
def gNilV : VGs := fun _ ds en Q => match ds with
  | [] => Q en
  | _ => False
def gConsV (g : VG) (u : VGs) : VGs := fun m ds en Q => match ds with
  | d :: r => g m d en fun en1 => u m r en1 Q
  | _ => False
theorem g_nil : QGs X [] gNilV [] := by
  refine ⟨fun σ H en F m d v B Q s o hm q => wpGs.of pgs_nil ?_⟩
  cases d with
  | nil =>
    obtain ⟨rfl, rfl⟩ := o
    exact ⟨rfl, en, F, s, Fr.refl (fun _ h => .inl h) (fun _ h => .inl h), Kq.refl en F σ, fun _ _ => rfl, q⟩
  | cons _ _ => exact q.elim
theorem g_cons {tg : Expr} {g : VG} {u : VGs} {ts1 ts2 : List Nat} (h1 : QG X tg g ts1) (h2 : QGs X es u ts2) (hs : (assignEach (tg :: es) X.env).map (·.2) = assign tg X.env :: (assignEach es X.env).map (·.2) := by rfl) : QGs X (tg :: es) (gConsV g u) (ts1 ++ ts2) := by
  refine ⟨fun σ H en F m d v B Q s o hm q => wpGs.of (pgs_cons (pg_wp X tg) (pgs_wp X es) hs) ?_⟩
  cases d with
  | nil => exact q.elim
  | cons d ds =>
    obtain ⟨v, vs, B1, B2, rfl, rfl, dj, o1, o2⟩ := o
    refine ⟨v, vs, rfl, ?_⟩
    have hm1 : MdOk m en F B1 := by
      cases m with
      | none => exact fun a ha => hm a (List.mem_append_left _ ha)
      | some g => exact ⟨fun j s h1 h2 h3 a ha hb => hm.1 j s h1 h2 h3 a ha (List.mem_append_left _ hb), hm.2⟩
    have := h1.run σ H en F m d v B1 _ s o1 hm1 q
    intro pins sh uu I r
    refine thn (this pins sh uu I r) fun _ s' ⟨σ1, H1, I1, en1, F1, s1, fr1, kq1, sg1, q1⟩ => ⟨σ1, H1, I1, ?_⟩
    -- the rest of the items stands as it was
    have off2 : ∀ a ∈ B2, ¬ (Wr en F a ∨ (m = none ∧ a ∈ B1)) := fun a ha z => by
      rcases z with z | ⟨_, z⟩
      · obtain ⟨j, sl, e1, e2, e3⟩ := z
        cases m with
        | none => obtain ⟨d', hd'⟩ := sl.wr_dat e2; exact hm a (List.mem_append_right _ ha) ⟨j, sl, d', e1, hd', e3⟩
        | some g =>
          cases q : (g == j + 1) with
          | false => exact hm.1 j sl e1 (sl.wr_ow e2) q a e3 (List.mem_append_right _ ha)
          | true =>
            have := hm.2 j sl e1 q
            cases sl <;> first | (cases e2; done) | (cases this; done)
      · exact dj a z ha
    have ext : Ext H H1 := fun b ob e t => fr1.keep b ob e fun z => by
      rcases z with z | ⟨_, z⟩
      · obtain ⟨o', e', n⟩ := s.at z.us
        rw [e] at e'; cases e'
        exact n t
      · obtain ⟨o', e', n⟩ := o1.at b z
        rw [e] at e'; cases e'
        exact n t
    have o2' : Owns X.K H1 ds vs B2 := o2.kept ext fun a ha ob e => fr1.keep a ob e (off2 a ha)
    have hm2 : MdOk m en1 F1 B2 := by
      cases m with
      | none =>
        intro a ha z
        obtain ⟨ob, e, _⟩ := o2.at a ha
        rcases fr1.us a z with (q | q) | q
        · exact hm a (List.mem_append_right _ ha) q
        · exact dj a q ha
        · rw [e] at q; cases q
      | some g =>
        refine ⟨fun j sl e1 e2 e3 a ha hb => ?_, fun j sl e1 e2 => ?_⟩
        · obtain ⟨ob, e, _⟩ := o2.at a hb
          cases qk : sl.isk with
          | true =>
            obtain ⟨dk, rfl⟩ : ∃ dk, sl = .k dk := by
              cases sl with
              | k dk => exact ⟨dk, rfl⟩
              | _ => cases qk
            have e0 := kq1.kp.kb j dk e1
            rw [(kq1.kp.k j dk e0).2] at ha
            exact hm.1 j _ e0 rfl e3 a ha (List.mem_append_right _ hb)
          | false =>
            have hw : sl.wr = true := by cases sl <;> first | rfl | (cases e2; done) | (cases qk; done)
            rcases fr1.wr a ⟨j, sl, e1, hw, ha⟩ with q | q
            · exact off2 a hb q
            · rw [e] at q; cases q
        · obtain ⟨sl0, e0⟩ : ∃ sl0, en[j]? = some sl0 := by
            have hl := (List.getElem?_eq_some_iff.mp e1).1
            rw [kq1.kp.len] at hl
            exact ⟨_, List.getElem?_eq_getElem hl⟩
          have := hm.2 j sl0 e0 e2
          cases sl0 with
          | k dk =>
            have := (kq1.kp.k j dk e0).1
            rw [this] at e1; cases e1; rfl
          | _ => cases this
    refine fun pins s u I r => thn (h2.run σ1 H1 en1 F1 m ds vs B2 Q s1 o2' hm2 q1 pins s u I r) fun _ s' ⟨σ2, H2, I2, en2, F2, s2, fr2, kq2, sg2, q2⟩ => ⟨σ2, H2, I2, en2, F2, s2, ?_, kq1.trans kq2, fun j hj => (sg2 j fun z => hj (List.mem_append_right _ z)).trans (sg1 j fun z => hj (List.mem_append_left _ z)), q2⟩
    have nn : ∀ x, H1 x = none → (Wr en F x ∨ (m = none ∧ x ∈ B1)) ∨ H x = none := fun x h => by
      cases q : H x with
      | none => exact .inr rfl
      | some o =>
        by_cases hw : Wr en F x ∨ (m = none ∧ x ∈ B1)
        · exact .inl hw
        · rw [fr1.keep x o q hw] at h; cases h
    have up : ∀ {x}, Wr en F x ∨ (m = none ∧ x ∈ B1) → Wr en F x ∨ (m = none ∧ x ∈ B1 ++ B2) := fun h => h.imp id fun h => ⟨h.1, List.mem_append_left _ h.2⟩
    have upu : ∀ {x}, Us en F x ∨ x ∈ B1 → Us en F x ∨ x ∈ B1 ++ B2 := fun h => h.imp id fun h => List.mem_append_left _ h
    refine ⟨fun x o h hn => fr2.keep x o (fr1.keep x o h fun z => hn (up z)) fun z => ?_, fun x h => ?_, fun x h => ?_⟩
    · rcases z with z | z
      · rcases fr1.wr x z with q | q
        · exact hn (up q)
        · rw [h] at q; cases q
      · exact hn (.inr ⟨z.1, List.mem_append_right _ z.2⟩)
    · rcases fr2.wr x h with (z | z) | z
      · exact (fr1.wr x z).imp up id
      · exact .inl (.inr ⟨z.1, List.mem_append_right _ z.2⟩)
      · exact (nn x z).imp up id
    · rcases fr2.us x h with (z | z) | z
      · exact (fr1.us x z).imp upu id
      · exact .inl (.inr (List.mem_append_right _ z))
      · exact (nn x z).imp (fun q => upu (q.imp Wr.us (·.2))) id
/-- (a, b, ..) = a tuple -/
def tupI (d : D) (q : List D → Prop) : Prop := match d with
  | .p (.tup xs) => q (xs.map D.p)
  | .t ds => q ds
  | _ => False
def gTupV (n : Nat) (g : VGs) : VG := fun m d en Q => tupI d fun ds => ds.length = n ∧ g m ds en Q
theorem g_tup {es : List Expr} {k : Nat} {g : VGs} {n : Nat} {ts : List Nat} (hc : X.calm = true) (h : QGs X es g ts) (hn : (assignEach es X.env).length = n := by rfl) (hst : (assignEach es X.env).findIdx? (·.1) = none := by rfl) : QG X (.Tuple es k pos) (gTupV n g) ts := by
  refine ⟨fun σ H en F m d v B Q s o hm q => wpG.of (pg_tup hc (pgs_wp X es) hn hst) ?_⟩
  have q : tupI d fun ds => ds.length = n ∧ g m ds en Q := q
  unfold tupI at q
  split at q
  · obtain ⟨rfl, a, vs, rfl, h1, h2⟩ := o
    exact ⟨a, vs, rfl, h1, by rw [h2.length]; simpa using q.1, h.run σ H en F m _ vs [] Q s (Owns.of_p h2) hm q.2⟩
  · obtain ⟨a, vs, rfl, h1, h2⟩ := o
    exact ⟨a, vs, rfl, h1, by rw [h2.length]; exact q.1, h.run σ H en F m _ vs B Q s h2 hm q.2⟩
  · exact q.elim
end
end VL
/-! Eng8: lists and dicts that are changed. -/
namespace VL
open PySem PySem.Spec PyProof.Rows L2
section
variable {X : Cx} {e e2 a b c : Expr} {es : List Expr} {st : Stmt} {t : VT} {pos p apos : Pos}
/-! ### a slot's list -/
/-- the list in a slot that may be changed; back: how it stands there -/
def lstS (s : Option Sl) (q : List P → (List P → Sl) → Prop) : Prop := match s with
  | some (.o (.l xs)) => q xs fun ys => .o (.l ys)
  | some (.b (.l xs)) => q xs fun ys => .b (.l ys)
  | _ => False
structure LAt (K : PySem.W.Frag) (H : Hp) (en : En) (σ : L2.St) (F : Ft) (j : Nat) (a : Addr) (vs : List V) (xs : List P) (mk : List P → Sl) : Prop where
  ref : σ[j]? = some (some (.ref a))
  obj : H a = some (.lst vs)
  rep : RepPs K H xs vs
  fj : F j = [a]
  at_ : ∃ sl, en[j]? = some sl ∧ sl.wr = true ∧ sl.dat = some (.l xs) ∧ ((∃ d, sl = .b d) → ∀ ys, ∃ d, mk ys = .b d) ∧ sl.isk = false
  wr : ∀ ys, (mk ys).wr = true
  dat : ∀ ys, (mk ys).dat = some (.l ys)
  self : mk xs = .o (.l xs) ∨ mk xs = .b (.l xs)
theorem lstS_of {K : PySem.W.Frag} {H : Hp} {en : En} {σ : L2.St} {F : Ft} {j : Nat} {q : List P → (List P → Sl) → Prop} (s : S K H en σ F) (h : lstS en[j]? q) : ∃ a vs xs mk, LAt K H en σ F j a vs xs mk ∧ q xs mk := by
  unfold lstS at h
  split at h
  · rename_i xs e
    obtain ⟨v, e1, a, vs, rfl, e2, e3, e4⟩ := s.own j _ (.l xs) e rfl
    exact ⟨a, vs, xs, _, ⟨e1, e3, e4, e2, ⟨_, e, rfl, rfl, fun ⟨_, z⟩ => (by cases z), rfl⟩, fun _ => rfl, fun _ => rfl, .inl rfl⟩, h⟩
  · rename_i xs e
    obtain ⟨v, e1, a, vs, rfl, e2, e3, e4⟩ := s.own j _ (.l xs) e rfl
    exact ⟨a, vs, xs, _, ⟨e1, e3, e4, e2, ⟨_, e, rfl, rfl, fun _ ys => ⟨_, rfl⟩, rfl⟩, fun _ => rfl, fun _ => rfl, .inr rfl⟩, h⟩
  · exact h.elim
theorem kp_mut {en : En} {F : Ft} {j : Nat} {sl sl' : Sl} {B : List Addr} (hj : en[j]? = some sl) (hk : sl.isk = false) (hk' : sl'.isk = false) (hb : (∃ d, sl = .b d) → ∃ d, sl' = .b d) : Kp en F (en.set j sl') (F.put j B) := by
  have hl : j < en.length := (List.getElem?_eq_some_iff.mp hj).1
  refine ⟨List.length_set, fun i d h => ?_, fun i d h => ?_, fun i d h => ?_⟩
  · by_cases hi : j = i
    · subst hi
      rw [hj] at h; cases h
      obtain ⟨d', e⟩ := hb ⟨d, rfl⟩
      exact ⟨d', by rw [List.getElem?_set_self hl, e]⟩
    · exact ⟨d, by rw [List.getElem?_set_ne hi]; exact h⟩
  · have hi : j ≠ i := fun z => by subst z; rw [hj] at h; cases h; cases hk
    exact ⟨by rw [List.getElem?_set_ne hi]; exact h, put_ne (Ne.symm hi)⟩
  · have hi : j ≠ i := fun z => by subst z; rw [List.getElem?_set_self hl] at h; cases h; cases hk'
    rw [List.getElem?_set_ne hi] at h; exact h
theorem Sl.wr_nk {s : Sl} (h : s.wr = true) : s.isk = false := by cases s <;> first | rfl | (cases h; done)
/-- the slot's list is another one -/
theorem LAt.write {K : PySem.W.Frag} {H : Hp} {en : En} {σ : L2.St} {F : Ft} {j : Nat} {a : Addr} {vs ws : List V} {xs ys : List P} {mk : List P → Sl} (l : LAt K H en σ F j a vs xs mk) (s : S K H en σ F) (r : RepPs K H ys ws) :
    S K (upd H a (.lst ws)) (en.set j (mk ys)) σ (F.put j [a]) ∧ Fr H (Wr en F) (Us en F) (upd H a (.lst ws)) (Wr (en.set j (mk ys)) (F.put j [a])) (Us (en.set j (mk ys)) (F.put j [a])) ∧ Kp en F (en.set j (mk ys)) (F.put j [a]) := by
  obtain ⟨sl, h1, h2, h3, h4, h5⟩ := l.at_
  have ext : Ext H (upd H a (.lst ws)) := fun b o e t => by
    have hb : b ≠ a := fun z => by subst z; rw [l.obj] at e; cases e; rcases t with ⟨_, z⟩ | ⟨_, _, z⟩ <;> cases z
    rw [upd_ne hb]; exact e
  have := s.mut (C := [a]) (B := []) h1 h2 (l.wr ys) (l.dat ys) l.ref (H' := upd H a (.lst ws)) (fun b o e hb => by
    rw [l.fj] at hb
    rw [upd_ne (by simpa using hb)]; exact e) (own_l upd_same (r.ext ext)) (fun b hb => .inl (by rw [l.fj]; exact hb)) (by simp)
  refine ⟨this.1, ⟨fun b o e hw => this.2.keep b o e fun z => hw (z.resolve_right (by simp)), fun b hb => (this.2.wr b hb).imp (fun z => z.resolve_right (by simp)) id, fun b hb => (this.2.us b hb).imp (fun z => z.resolve_right (by simp)) id⟩, kp_mut h1 h5 (Sl.wr_nk (l.wr ys)) fun z => h4 z ys⟩
/-- a method of the slot's list with one argument -/
def lst0 (s : Option Sl) (q : Prop) : Prop := match s with
  | some (.o (.l _)) => q
  | some (.b (.l _)) => q
  | some (.o (.ll _)) => q
  | some (.b (.ll _)) => q
  | _ => False
theorem lst0_of {K : PySem.W.Frag} {H : Hp} {en : En} {σ : L2.St} {F : Ft} {j : Nat} {q : Prop} (s : S K H en σ F) (h : lst0 en[j]? q) : ∃ a vs, σ[j]? = some (some (.ref a)) ∧ H a = some (.lst vs) ∧ q := by
  unfold lst0 at h
  split at h
  · rename_i xs e
    obtain ⟨v, e1, a, vs, rfl, e2, e3, e4⟩ := s.own j _ _ e rfl
    exact ⟨a, vs, e1, e3, h⟩
  · rename_i xs e
    obtain ⟨v, e1, a, vs, rfl, e2, e3, e4⟩ := s.own j _ _ e rfl
    exact ⟨a, vs, e1, e3, h⟩
  · rename_i xs e
    obtain ⟨v, e1, a, vs, C, rfl, _, e2, e3, e4⟩ := s.own j _ _ e rfl
    exact ⟨a, vs, e1, e3, h⟩
  · rename_i xs e
    obtain ⟨v, e1, a, vs, C, rfl, _, e2, e3, e4⟩ := s.own j _ _ e rfl
    exact ⟨a, vs, e1, e3, h⟩
  · exact h.elim
/-! append -/
def appK (s : Option Sl) (d : D) (q : Sl → Prop) : Prop := match s, d with
  | some (.o (.l xs)), .p y => xs.length < sizeLine ∧ q (.o (.l (xs ++ [y])))
  | some (.b (.l xs)), .p y => xs.length < sizeLine ∧ q (.b (.l (xs ++ [y])))
  | some (.o (.l xs)), d => xs.length < sizeLine ∧ q (.o (.ll (xs.map D.p ++ [d])))
  | some (.o (.ll ds)), d => ds.length < sizeLine ∧ q (.o (.ll (ds ++ [d])))
  | some (.b (.ll ds)), d => ds.length < sizeLine ∧ q (.b (.ll (ds ++ [d])))
  | _, _ => False
def tApp (j : Nat) (t : VT) : VT := fun en Q => lst0 en[j]? (t en fun d en1 => appK en1[j]? d fun sl => Q (.p .non) (en1.set j sl))
theorem Owns.snoc {K : PySem.W.Frag} {H : Hp} {d : D} {w : V} {C : List Addr} (o : Own K H d w C) : ∀ {ds : List D} {vs : List V} {B : List Addr}, Owns K H ds vs B → (∀ a ∈ B, a ∉ C) → Owns K H (ds ++ [d]) (vs ++ [w]) (B ++ C)
  | [], _, _, h, _ => by
    obtain ⟨rfl, rfl⟩ := h
    exact ⟨w, [], C, [], rfl, by simp, by simp, o, rfl, rfl⟩
  | x :: ds, _, _, h, g => by
    obtain ⟨v, vs, B1, B2, rfl, rfl, dj, o1, o2⟩ := h
    refine ⟨v, vs ++ [w], B1, B2 ++ C, rfl, by simp, fun a h1 h2 => ?_, o1, Owns.snoc o o2 fun a ha => g a (List.mem_append_right _ ha)⟩
    rcases List.mem_append.mp h2 with h2 | h2
    · exact dj a h1 h2
    · exact g a (List.mem_append_left _ h1) h2
def AppPo (K : PySem.W.Frag) (H : Hp) (en : En) (σ : L2.St) (F : Ft) (j : Nat) (a : Addr) (w : V) (B : List Addr) (q : Sl → Prop) : Prop :=
    ∃ vs sl' C, H a = some (.lst vs) ∧ vs.length < sizeLine ∧ S K (upd H a (.lst (vs ++ [w]))) (en.set j sl') σ (F.put j C) ∧
      Fr H (fun a => Wr en F a ∨ a ∈ B) (fun a => Us en F a ∨ a ∈ B) (upd H a (.lst (vs ++ [w]))) (Wr (en.set j sl') (F.put j C)) (Us (en.set j sl') (F.put j C)) ∧ Kp en F (en.set j sl') (F.put j C) ∧ q sl'
/-- one more item -/
theorem app_core {K : PySem.W.Frag} {H : Hp} {en : En} {σ : L2.St} {F : Ft} {j : Nat} {a : Addr} {d : D} {w : V} {B : List Addr} {q : Sl → Prop} (s : S K H en σ F) (ha : σ[j]? = some (some (.ref a))) (o : Own K H d w B) (off : ∀ x ∈ B, ¬ Us en F x) (h : appK en[j]? d q) : AppPo K H en σ F j a w B q := by
  have gen : ∀ (sl sl' : Sl) (ds : List D) (vs : List V) (C : List Addr), en[j]? = some sl → sl.wr = true → sl'.wr = true → ((∃ d, sl = .b d) → ∃ d, sl' = .b d) → F j = a :: C → a ∉ C → H a = some (.lst vs) → Owns K H ds vs C → ds.length < sizeLine →
      (∃ d', sl'.dat = some d' ∧ ∀ H', H' a = some (.lst (vs ++ [w])) → Owns K H' (ds ++ [d]) (vs ++ [w]) (C ++ B) → Own K H' d' (.ref a) (a :: (C ++ B))) → q sl' → AppPo K H en σ F j a w B q := fun sl sl' ds vs C h1 h2 h3 hb h4 h5 h6 h7 h8 h9 h10 => by
    obtain ⟨d', hd', hown⟩ := h9
    obtain ⟨dd, hdd⟩ := sl.wr_dat h2
    have aB : a ∉ B := fun z => off a z ⟨j, sl, dd, h1, hdd, by rw [h4]; exact List.mem_cons_self⟩
    have CB : ∀ x ∈ C, x ∉ B := fun x hx z => off x z ⟨j, sl, dd, h1, hdd, by rw [h4]; exact List.mem_cons_of_mem _ hx⟩
    have ext : Ext H (upd H a (.lst (vs ++ [w]))) := fun b ob e t => by
      have hb : b ≠ a := fun z => by subst z; rw [h6] at e; cases e; rcases t with ⟨_, z⟩ | ⟨_, _, z⟩ <;> cases z
      rw [upd_ne hb]; exact e
    have o7 := (Owns.snoc o h7 CB).kept ext (fun x hx ob e => by
      have hb : x ≠ a := fun z => by
        subst z
        rcases List.mem_append.mp hx with z | z
        · exact h5 z
        · exact aB z
      rw [upd_ne hb]; exact e)
    have m := s.mut (C := a :: (C ++ B)) (B := B) h1 h2 h3 hd' ha (H' := upd H a (.lst (vs ++ [w]))) (fun b ob e hb => by
      rw [h4] at hb
      rw [upd_ne fun z => hb (by rw [z]; exact List.mem_cons_self)]; exact e) (hown _ upd_same o7) (fun x hx => by
        rw [h4]
        rcases List.mem_cons.mp hx with rfl | hx
        · exact .inl List.mem_cons_self
        · rcases List.mem_append.mp hx with hx | hx
          · exact .inl (List.mem_cons_of_mem _ hx)
          · exact .inr (.inl hx)) off
    exact ⟨vs, sl', _, h6, by rw [h7.length]; exact h8, m.1, m.2, kp_mut h1 (Sl.wr_nk h2) (Sl.wr_nk h3) hb, h10⟩
  have pureL : ∀ (xs : List P) (y : P) (vs' : List V) (C' : List Addr) H', d = .p y → H' a = some (.lst vs') → Owns K H' (xs.map D.p ++ [d]) vs' C' → Own K H' (.l (xs ++ [y])) (.ref a) (a :: C') := fun xs y vs' C' H' e h1 h2 => by
    subst e
    rw [show xs.map D.p ++ [D.p y] = (xs ++ [y]).map D.p by simp] at h2
    obtain ⟨rfl, r⟩ := h2.to_p
    exact own_l h1 r
  have aC : ∀ {C' : List Addr} {sl : Sl}, a ∉ C' → a ∉ B → a ∉ C' ++ B := fun h1 h2 z => (List.mem_append.mp z).elim h1 h2
  have offa : ∀ sl dd, en[j]? = some sl → sl.dat = some dd → a ∈ F j → a ∉ B := fun sl dd h1 h2 h3 z => off a z ⟨j, sl, dd, h1, h2, h3⟩
  obtain ⟨d2, hd2⟩ : ∃ d2, d2 = d := ⟨d, rfl⟩
  rw [← hd2] at h
  unfold appK at h
  split at h
  · rename_i xs y e
    obtain ⟨v, e1, c, vs, rfl, e2, e3, e4⟩ := s.own j _ (.l xs) e rfl
    rw [ha] at e1; cases e1
    subst hd2
    exact gen _ _ (xs.map D.p) vs [] e rfl rfl (fun ⟨_, z⟩ => by cases z) e2 (by simp) e3 (Owns.of_p e4) (by simpa using h.1) ⟨_, rfl, fun H' h1 h2 => pureL xs y _ _ H' rfl h1 h2⟩ h.2
  · rename_i xs y e
    obtain ⟨v, e1, c, vs, rfl, e2, e3, e4⟩ := s.own j _ (.l xs) e rfl
    rw [ha] at e1; cases e1
    subst hd2
    exact gen _ _ (xs.map D.p) vs [] e rfl rfl (fun _ => ⟨_, rfl⟩) e2 (by simp) e3 (Owns.of_p e4) (by simpa using h.1) ⟨_, rfl, fun H' h1 h2 => pureL xs y _ _ H' rfl h1 h2⟩ h.2
  · rename_i xs e hne
    subst hd2
    obtain ⟨v, e1, c, vs, rfl, e2, e3, e4⟩ := s.own j _ (.l xs) e rfl
    rw [ha] at e1; cases e1
    have nB := offa _ _ e rfl (by rw [e2]; exact List.mem_cons_self)
    exact gen _ _ (xs.map D.p) vs [] e rfl rfl (fun ⟨_, z⟩ => by cases z) e2 (by simp) e3 (Owns.of_p e4) (by simpa using h.1) ⟨.ll (xs.map D.p ++ [_]), rfl, fun H' h1 h2 => (show Own K H' (.ll (xs.map D.p ++ [_])) (.ref a) _ from ⟨a, _, _, rfl, rfl, by simpa using nB, h1, h2⟩)⟩ h.2
  · rename_i ds e
    subst hd2
    obtain ⟨v, e1, c, vs, C, rfl, e2, e5, e3, e4⟩ := s.own j _ (.ll ds) e rfl
    rw [ha] at e1; cases e1
    have nB := offa _ _ e rfl (by rw [e2]; exact List.mem_cons_self)
    exact gen _ _ ds vs C e rfl rfl (fun ⟨_, z⟩ => by cases z) e2 e5 e3 e4 h.1 ⟨.ll (ds ++ [_]), rfl, fun H' h1 h2 => (show Own K H' (.ll (ds ++ [_])) (.ref a) _ from ⟨a, _, _, rfl, rfl, fun z => (List.mem_append.mp z).elim e5 nB, h1, h2⟩)⟩ h.2
  · rename_i ds e
    subst hd2
    obtain ⟨v, e1, c, vs, C, rfl, e2, e5, e3, e4⟩ := s.own j _ (.ll ds) e rfl
    rw [ha] at e1; cases e1
    have nB := offa _ _ e rfl (by rw [e2]; exact List.mem_cons_self)
    exact gen _ _ ds vs C e rfl rfl (fun _ => ⟨_, rfl⟩) e2 e5 e3 e4 h.1 ⟨.ll (ds ++ [_]), rfl, fun H' h1 h2 => (show Own K H' (.ll (ds ++ [_])) (.ref a) _ from ⟨a, _, _, rfl, rfl, fun z => (List.mem_append.mp z).elim e5 nB, h1, h2⟩)⟩ h.2
  · exact h.elim
theorem q_app {j : Nat} {po : Expr} (ho : PE X po (L2.tVar j)) (he : QE X e t) (hbase : attributeBase po "append" X.env (eval po X.env) = eval po X.env := by rfl)
    (hfew : ((backTo pos (starEach (e :: []) X.env)).all (fun x => !x.1) && (backToKw pos (keywordEach [] X.env)).all (fun x => x.1.isSome)
      && decide ((e :: []).length + ([] : List Keyword).length + (if ([] : List Keyword).isEmpty then 0 else 1) < 30)) = true := by rfl)
    (hline : (apos.endLine == pos.line) = true := by rfl) (hs : starEach (e :: []) X.env = (false, eval e X.env) :: starEach [] X.env := by rfl) (hplain : (backTo pos (starEach [] X.env)).any (·.1) = false := by rfl) :
    QE X (.Call (.Attribute po "append" apos) [e] [] pos) (tApp j t) := by
  refine ⟨fun σ H en F Q s q => wpE.of (pe_bm PySem.F.plainAttrs_list PySem.F.slot_list_append PySem.F.type_list_append mt_append ho (pa_cons (pe_wp X e) pa_nil hs) hbase hfew hline hs hplain) ?_⟩
  obtain ⟨a, vs0, h1, h2, q⟩ := lst0_of s q
  refine ⟨_, h1, .inl ⟨rfl, vs0, SqL.of h2⟩, ?_⟩
  refine (he.run σ H en F _ s q).mono fun w H1 ⟨d, en1, F1, B, s1, o, off, fr, kp, q⟩ => ?_
  obtain ⟨vs, sl', C, g1, g2, g3, g4, g5, g6⟩ := app_core s1 h1 o off q
  refine ⟨a, vs, w, rfl, rfl, g1, g2, ?_⟩
  exact ⟨.p .non, _, _, [], g3, own_p rfl, by simp, fr.trans g4 (fun _ => Wr.us) (fun _ h => h) (fun _ h => h) (fun _ h => .inl (h.resolve_right (by simp))) (fun _ h => .inl (h.resolve_right (by simp))), kp.trans g5, g6⟩
end
end VL
/-! Eng9: extend, pop, stores by place, augmented assignment, dicts. -/
namespace VL
open PySem PySem.Spec PyProof.Rows L2
section
variable {X : Cx} {e f a b c : Expr} {es : List Expr} {st : Stmt} {t : VT} {pos p apos : Pos}
theorem wrP {en : En} {F : Ft} {B : List Addr} {a : Addr} (h : Wr en F a ∨ a ∈ ([] : List Addr)) : Wr en F a := h.resolve_right (by simp)
/-- a list method's end: the list in slot j has changed, plain data is handed on -/
theorem LAt.fin {K : PySem.W.Frag} {H H1 : Hp} {en en1 : En} {σ : L2.St} {F F1 : Ft} {j : Nat} {a : Addr} {vs ws : List V} {xs ys : List P} {mk : List P → Sl} {Q : D → En → Prop} {W' U' : Addr → Prop} {x : P} {v : V} (l : LAt K H1 en1 σ F1 j a vs xs mk) (s : S K H1 en1 σ F1)
    (fr : Fr H (Wr en F) (Us en F) H1 W' U') (hw : ∀ a, Wr en1 F1 a → W' a) (hu : ∀ a, Us en1 F1 a → U' a) (kp : Kp en F en1 F1) (r : RepPs K H1 ys ws) (rv : RepP K (upd H1 a (.lst ws)) x v) (q : Q (.p x) (en1.set j (mk ys))) : EPo K H en σ F Q v (upd H1 a (.lst ws)) := by
  obtain ⟨s2, fr2, kp2⟩ := l.write s r
  exact ⟨.p x, _, _, [], s2, own_p rv, by simp, fr.trans fr2 (fun _ => Wr.us) hw hu (fun _ h => .inl (h.resolve_right (by simp))) (fun _ h => .inl (h.resolve_right (by simp))), kp.trans kp2, q⟩
theorem LAt.ext {K : PySem.W.Frag} {H : Hp} {en : En} {σ : L2.St} {F : Ft} {j : Nat} {a : Addr} {vs ws : List V} {xs : List P} {mk : List P → Sl} (l : LAt K H en σ F j a vs xs mk) : Ext H (upd H a (.lst ws)) := fun b o e t => by
  have hb : b ≠ a := fun z => by subst z; rw [l.obj] at e; cases e; rcases t with ⟨_, z⟩ | ⟨_, _, z⟩ <;> cases z
  rw [upd_ne hb]; exact e
/-! extend -/
def extK (s : Option Sl) (d : Option D) (q : Sl → Prop) : Prop := lstS s fun xs mk => match d with
  | some (.l ys) => xs.length + ys.length ≤ sizeLine ∧ q (mk (xs ++ ys))
  | _ => False
def tExt (j : Nat) (t : VR) : VT := fun en Q => lst0 en[j]? (t en fun r en1 => extK en1[j]? (r.get en1) fun sl => Q (.p .non) (en1.set j sl))
theorem q_ext {j : Nat} {po : Expr} {t : VR} (ho : PE X po (L2.tVar j)) (he : QR X e t) (hbase : attributeBase po "extend" X.env (eval po X.env) = eval po X.env := by rfl)
    (hfew : ((backTo pos (starEach (e :: []) X.env)).all (fun x => !x.1) && (backToKw pos (keywordEach [] X.env)).all (fun x => x.1.isSome)
      && decide ((e :: []).length + ([] : List Keyword).length + (if ([] : List Keyword).isEmpty then 0 else 1) < 30)) = true := by rfl)
    (hline : (apos.endLine == pos.line) = true := by rfl) (hs : starEach (e :: []) X.env = (false, eval e X.env) :: starEach [] X.env := by rfl) (hplain : (backTo pos (starEach [] X.env)).any (·.1) = false := by rfl) :
    QE X (.Call (.Attribute po "extend" apos) [e] [] pos) (tExt j t) := by
  refine ⟨fun σ H en F Q s q => wpE.of (pe_bm PySem.F.plainAttrs_list PySem.F.slot_list_extend PySem.F.type_list_extend mt_extend ho (pa_cons (pe_wp X e) pa_nil hs) hbase hfew hline hs hplain) ?_⟩
  obtain ⟨a, vs0, h1, h2, q⟩ := lst0_of s q
  refine ⟨_, h1, .inl ⟨rfl, vs0, SqL.of h2⟩, ?_⟩
  refine (he.run σ H en F _ s q).mono fun w H1 ⟨r, en1, F1, B, s1, o, off, fr, kp, q⟩ => ?_
  obtain ⟨a', vs, xs, mk, l, q⟩ := lstS_of s1 q
  have e1 := l.ref
  rw [h1] at e1; cases e1
  split at q
  · rename_i ys e2
    obtain ⟨C, o2, _⟩ := o.get s1 e2
    obtain ⟨b, zs, rfl, rfl, h3, h4⟩ := o2
    exact ⟨a, b, vs, zs, rfl, rfl, l.obj, h3, by rw [l.rep.length, h4.length]; exact q.1, l.fin s1 fr (fun _ h => .inl h) (fun _ h => .inl h) kp (l.rep.append h4) (x := .non) rfl q.2⟩
  · exact q.elim
/-! pop -/
def getQ (o : Option P) (q : P → Prop) : Prop := match o with
  | some x => q x
  | none => False
theorem getQ_of {o : Option P} {q : P → Prop} (h : getQ o q) : ∃ x, o = some x ∧ q x := by
  cases o with
  | none => exact h.elim
  | some x => exact ⟨x, rfl, h⟩
def ixQ (o : Option Nat) (q : Nat → Prop) : Prop := match o with
  | some x => q x
  | none => False
theorem ixQ_of {o : Option Nat} {q : Nat → Prop} (h : ixQ o q) : ∃ x, o = some x ∧ q x := by
  cases o with
  | none => exact h.elim
  | some x => exact ⟨x, rfl, h⟩
def tPop0 (j : Nat) : VT := fun en Q => lstS en[j]? fun xs mk => getQ xs[xs.length - 1]? fun y => Q (.p y) (en.set j (mk xs.dropLast))
theorem RepPs.dropLast {K : PySem.W.Frag} {H : Hp} {xs : List P} {vs : List V} (r : RepPs K H xs vs) : RepPs K H xs.dropLast vs.dropLast := by
  rw [List.dropLast_eq_take, List.dropLast_eq_take, r.length]
  exact r.take _
theorem q_pop0 {j : Nat} {po : Expr} (ho : PE X po (L2.tVar j)) (hbase : attributeBase po "pop" X.env (eval po X.env) = eval po X.env := by rfl) (hline : (apos.endLine == pos.line) = true := by rfl) :
    QE X (.Call (.Attribute po "pop" apos) [] [] pos) (tPop0 j) := by
  refine ⟨fun σ H en F Q s q => wpE.of (pe_bm0 PySem.F.plainAttrs_list PySem.F.slot_list_pop PySem.F.type_list_pop mt_pop ho hbase hline) ?_⟩
  obtain ⟨a, vs, xs, mk, l, q⟩ := lstS_of s q
  obtain ⟨y, e1, q⟩ := getQ_of q
  refine ⟨_, l.ref, .inl ⟨rfl, vs, SqL.of l.obj⟩, ?_⟩
  obtain ⟨v, e2, rv⟩ := l.rep.get e1
  exact ⟨a, vs, v, rfl, rfl, l.obj, by rw [l.rep.length]; exact e2, l.fin s Fr.same' (fun _ h => h) (fun _ h => h) (Kp.refl en F) l.rep.dropLast (rv.ext l.ext) q⟩
def tPop1 (j : Nat) (t : VT) : VT := fun en Q => lst0 en[j]? (t en fun d en1 => asI d fun i => lstS en1[j]? fun xs mk => ixQ (ixN xs.length i) fun k => getQ xs[k]? fun y => (xs.length ≤ 1000000) ∧ Q (.p y) (en1.set j (mk (xs.eraseIdx k))))
theorem q_pop1 {j : Nat} {po : Expr} (ho : PE X po (L2.tVar j)) (he : QE X e t) (hbase : attributeBase po "pop" X.env (eval po X.env) = eval po X.env := by rfl)
    (hfew : ((backTo pos (starEach (e :: []) X.env)).all (fun x => !x.1) && (backToKw pos (keywordEach [] X.env)).all (fun x => x.1.isSome)
      && decide ((e :: []).length + ([] : List Keyword).length + (if ([] : List Keyword).isEmpty then 0 else 1) < 30)) = true := by rfl)
    (hline : (apos.endLine == pos.line) = true := by rfl) (hs : starEach (e :: []) X.env = (false, eval e X.env) :: starEach [] X.env := by rfl) (hplain : (backTo pos (starEach [] X.env)).any (·.1) = false := by rfl) :
    QE X (.Call (.Attribute po "pop" apos) [e] [] pos) (tPop1 j t) := by
  refine ⟨fun σ H en F Q s q => wpE.of (pe_bm PySem.F.plainAttrs_list PySem.F.slot_list_pop PySem.F.type_list_pop mt_popAt ho (pa_cons (pe_wp X e) pa_nil hs) hbase hfew hline hs hplain) ?_⟩
  obtain ⟨a, vs0, h1, h2, q⟩ := lst0_of s q
  refine ⟨_, h1, .inl ⟨rfl, vs0, SqL.of h2⟩, ?_⟩
  refine (he.run σ H en F _ s q).mono fun w H1 ⟨d, en1, F1, B, s1, o, off, fr, kp, q⟩ => ?_
  obtain ⟨i, rfl, q⟩ := asI_of o q
  obtain ⟨a', vs, xs, mk, l, q⟩ := lstS_of s1 q
  have e1 := l.ref
  rw [h1] at e1; cases e1
  obtain ⟨k, ek, q⟩ := ixQ_of q
  obtain ⟨y, ey, hb, q⟩ := getQ_of q
  obtain ⟨g1, g2, g3, g4⟩ := ixN_seq ek
  obtain ⟨v, e2, rv⟩ := l.rep.get ey
  exact ⟨a, vs, i, k, v, rfl, rfl, l.obj, by omega, by omega, by rw [l.rep.length]; exact g1, e2, l.fin s1 fr (fun _ h => .inl h) (fun _ h => .inl h) kp (l.rep.eraseIdx k) (rv.ext l.ext) q⟩
/-! xs[i] = v -/
def pOf (d : D) (q : P → Prop) : Prop := match d with
  | .p x => q x
  | _ => False
theorem pOf_of {d : D} {q : P → Prop} (h : pOf d q) : ∃ x, d = .p x ∧ q x := by
  cases d with
  | p x => exact ⟨x, rfl, h⟩
  | _ => exact h.elim
def gSub (j : Nat) (ti : VT) : VG := fun _ d en Q => lst0 en[j]? (ti en fun di en1 => asI di fun i => lstS en1[j]? fun xs mk => ixQ (ixN xs.length i) fun k => pOf d fun x => Q (en1.set j (mk (xs.set k x))))
theorem g_sub {j : Nat} {po : Expr} {ti : VT} (ho : PE X po (L2.tVar j)) (hi : QE X e ti) (ha : ∀ v, assign (.Subscript po e pos) X.env v = (do
      let ov ← holding [v] (eval po X.env)
      let iv ← holding [v, ov] (eval e X.env)
      standAt pos
      holding [v, ov, iv] (setItem ov iv v)
      release [v, ov, iv] []) := by intro _; rfl) : QG X (.Subscript po e pos) (gSub j ti) [] := by
  refine ⟨fun σ H en F m d v B Q s o hm q => wpG.of (pg_sub ho (pe_wp X e) set_list ha) ?_⟩
  obtain ⟨a, vs0, h1, h2, q⟩ := lst0_of s q
  refine ⟨_, h1, ?_⟩
  refine (hi.run σ H en F _ s q).mono fun w H1 ⟨di, en1, F1, B1, s1, o1, off1, fr, kp, q⟩ => ?_
  obtain ⟨i, rfl, q⟩ := asI_of o1 q
  obtain ⟨a', vs, xs, mk, l, q⟩ := lstS_of s1 q
  have e1 := l.ref
  rw [h1] at e1; cases e1
  obtain ⟨k, ek, q⟩ := ixQ_of q
  obtain ⟨x, rfl, q⟩ := pOf_of q
  obtain ⟨rfl, rv⟩ := o
  obtain ⟨s2, fr2, kp2⟩ := l.write s1 (RepPs.set (rv.ext (fr.ext s)) k l.rep)
  refine ⟨a, vs, i, k, rfl, rfl, l.obj, by rw [l.rep.length]; exact ek, _, _, s2, ?_, (kp.trans kp2).kq, fun _ _ => rfl, q⟩
  have f3 := fr.trans (W3 := Wr (en1.set j (mk (xs.set k x))) (F1.put j [a])) (U3 := Us (en1.set j (mk (xs.set k x))) (F1.put j [a])) fr2 (fun _ => Wr.us) (fun _ h => .inl h) (fun _ h => .inl h) (fun _ h => .inl h) (fun _ h => .inl h)
  exact ⟨fun b o h hn => f3.keep b o h fun z => hn (.inl z), fun b h => (f3.wr b h).imp .inl id, fun b h => (f3.us b h).imp .inl id⟩
/-! name op= e -/
def rdP (s : Option Sl) (q : P → Prop) : Prop := match s with
  | some (.o (.p x)) => q x
  | some (.b (.p x)) => q x
  | _ => False
theorem rdP_of {s : Option Sl} {q : P → Prop} (h : rdP s q) : ∃ sl x, s = some sl ∧ sl.dat = some (.p x) ∧ q x := by
  unfold rdP at h
  split at h
  · exact ⟨_, _, rfl, rfl, h⟩
  · exact ⟨_, _, rfl, rfl, h⟩
  · exact h.elim
def vAug (i : Nat) (t : VT) (f : F2) : VS := fun D en => rdP en[i]? fun x => t en fun d en1 => f (.p x) d fun z => pOf z fun z => putK en1[i]? (D.nx (en1.set i (.o (.p z))))
def ipW (X : Cx) (op : Operator) : TIp := fun x y H Q => ∀ (pins : List (Addr × Obj)) (s : Shared) (σ : L2.St) (v u : Value), Inv X pins σ H s → RelV x v → RelV y u → wpAny (model X.prog X.w) X.A (inplaceOp op v u) (fun w s' => ∃ z H', Inv X pins σ H' s' ∧ RelV z w ∧ Q z H') X.xe s
theorem ipW_ok (op : Operator) : PIp X op (ipW X op) := fun pins s σ H x y v u Q I rx ry h => h pins s σ v u I rx ry
theorem ipW_of {op : Operator} {r : R2} (h : OpR X (inplaceOp op) r) {x y : V} {H : Hp} {Q : VK} (q : r x y H Q) : ipW X op x y H Q := fun pins s σ v u I rx ry => h pins s σ H x y v u Q I rx ry q
theorem s_aug {i : Nat} {x : Str} {op : Operator} {f : F2} {pos' : Pos} (hf2 : Op2 X (inplaceOp op) f) (hN : X.N.Nodup) (hi : X.N[i]? = some x) (hx : Loc X.env.scope x) (he : QE X e t) (hf : X.fn x = true ∨ X.env.scope.names.lookup x = some .local := by first | exact .inl rfl | exact .inr rfl | assumption) :
    QS X (.AugAssign (.Name x pos') op e pos) (vAug i t f) := by
  refine ⟨fun σ H en F D s q => wpS.of (ps_aug hN hi hx (pe_wp X e) (ipW_ok op) hf) ?_⟩
  obtain ⟨sl, x0, h1, h2, q⟩ := rdP_of q
  obtain ⟨v0, e0, o0⟩ := s.own i sl _ h1 h2
  refine ⟨v0, e0, ?_⟩
  refine (he.run σ H en F _ s q).mono fun v H' ⟨d, en1, F1, B, s1, o, off, fr, kp, q⟩ => ?_
  have o0' : Own X.K H' (.p x0) v0 [] := own_p (o0.2.ext (fr.ext s))
  obtain ⟨r, hr, hq⟩ := hf2 H' (.p x0) d v0 v [] B _ o0' o q
  refine ipW_of hr (hq _ fun z u H2 B2 g oz new q => ?_)
  obtain ⟨y, rfl, q⟩ := pOf_of q
  obtain ⟨sl1, g1, g2, g3, q⟩ := putK_of q
  obtain ⟨rfl, rz⟩ := oz
  have s2 := s1.grow g
  obtain ⟨en3, F3, s3, fr3, kq3, _, q3⟩ := s2.come (Q := D.nx) (m := none) g1 g2 g3 (own_p rz) (by intro a ha; cases ha) q
  refine ⟨en3, F3, s3, ?_, kp.kq.trans kq3, q3⟩
  have f2 : Fr H' (Wr en1 F1) (Us en1 F1) H2 (Wr en1 F1) (Us en1 F1) := ⟨fun b ob h _ => g b ob h, fun b h => .inl h, fun b h => .inl h⟩
  exact (fr.trans (W3 := Wr en1 F1) (U3 := Us en1 F1) f2 (fun _ => Wr.us) (fun _ h => .inl h) (fun _ h => .inl h) (fun _ h => .inl h) (fun _ h => .inl h)).trans fr3 (fun _ => Wr.us) (fun _ h => h.resolve_right (by simp)) (fun _ h => h.resolve_right (by simp)) (fun _ h => .inl h) (fun _ h => .inl h)
/-! xs[i] op= e -/
def vAugS (j : Nat) (ti t : VT) (f : F2) : VS := fun D en => lst0 en[j]? (ti en fun di en1 => asI di fun i => lstS en1[j]? fun xs _ => getQ (atI xs i) fun x => t en1 fun d en2 => f (.p x) d fun z => pOf z fun z => lstS en2[j]? fun ys mk => ixQ (ixN ys.length i) fun k => D.nx (en2.set j (mk (ys.set k z))))
theorem pg_list : PGet X (rIxL X.K) := by
  intro pins s σ H x y v u Q I rx ry h
  obtain ⟨p, xs, i, z, rfl, rfl, hq, he, q⟩ := h
  cases rx
  obtain ⟨t, rfl⟩ := ry
  obtain ⟨its, r, pl, hz⟩ := I.list hq
  obtain ⟨j, h1, h2, h3, h4, h5⟩ := atI_get he
  obtain ⟨w, ew, rw'⟩ := r.get h2
  have hl := r.length
  have hn := line63
  have fin : EP X pins σ Q w s := ⟨z, H, I, rw', q⟩
  by_cases h0 : 0 ≤ i
  · have hj : i.toNat = j := by
      rw [seqIndex_of h0 h5] at h1
      exact Option.some.inj h1
    exact wpAny_getItem_list pl.isList h0 (by omega) (by rw [hj]; simpa using ew) fin
  · have hj : (i + (its.toArray.size : Int)).toNat = j := by
      rw [seqIndex_neg (by omega) h4] at h1
      rw [List.size_toArray, ← hl]
      exact Option.some.inj h1
    exact wpAny_getItem_list_neg pl.isList (by omega) (by rw [List.size_toArray] <;> omega) (by omega) (by rw [hj]; simpa using ew) fin
theorem s_augS {j : Nat} {po : Expr} {ti : VT} {op : Operator} {fo : F2} {tpos : Pos} (hf2 : Op2 X (inplaceOp op) fo) (ho : PE X po (L2.tVar j)) (hi : QE X f ti) (he : QE X e t)
    (ha : ∀ ov iv new, augStore f ov iv new = (do holding [new, ov, iv] (setItem ov iv new); release [new, ov, iv] []; pure .next) := by intros; rfl) : QS X (.AugAssign (.Subscript po f tpos) op e pos) (vAugS j ti t fo) := by
  refine ⟨fun σ H en F D s q => wpS.of (ps_augS ho (pe_wp X f) pg_list (pe_wp X e) (ipW_ok op) set_list ha) ?_⟩
  obtain ⟨a, vs0, h1, h2, q⟩ := lst0_of s q
  refine ⟨_, h1, ?_⟩
  refine (hi.run σ H en F _ s q).mono fun w H1 ⟨di, en1, F1, B1, s1, o1, off1, fr1, kp1, q⟩ => ?_
  obtain ⟨i, rfl, q⟩ := asI_of o1 q
  obtain ⟨a', vs, xs, mk, l, q⟩ := lstS_of s1 q
  have e1 := l.ref
  rw [h1] at e1; cases e1
  obtain ⟨x, ex, q⟩ := getQ_of q
  obtain ⟨v, ev, rv⟩ := l.rep.atI ex
  refine ⟨a, vs, i, v, rfl, rfl, SqL.of l.obj, ev, ?_⟩
  refine (he.run σ H1 en1 F1 _ s1 q).mono fun w2 H2 ⟨d, en2, F2, B2, s2, o2, off2, fr2, kp2, q⟩ => ?_
  obtain ⟨r, hr, hq⟩ := hf2 H2 (.p x) d v w2 [] B2 _ (own_p (rv.ext (fr2.ext s1))) o2 q
  refine ipW_of hr (hq _ fun z u H3 B3 g oz new q => ?_)
  obtain ⟨y, rfl, q5⟩ := pOf_of q
  obtain ⟨rfl, rz⟩ := oz
  have s3 := s2.grow g
  obtain ⟨a', ws, ys, mk2, l2, q⟩ := lstS_of s3 q5
  have e2 := l2.ref
  rw [h1] at e2; cases e2
  obtain ⟨k, ek, q⟩ := ixQ_of q
  obtain ⟨s4, fr4, kp4⟩ := l2.write s3 (RepPs.set rz k l2.rep)
  refine ⟨a, ws, i, k, rfl, rfl, l2.obj, by rw [l2.rep.length]; exact ek, _, _, s4, ?_, (kp1.trans (kp2.trans kp4)).kq, q⟩
  have f3 : Fr H2 (Wr en2 F2) (Us en2 F2) H3 (Wr en2 F2) (Us en2 F2) := ⟨fun b ob h _ => g b ob h, fun b h => .inl h, fun b h => .inl h⟩
  have f12 := fr1.trans (W3 := Wr en2 F2) (U3 := Us en2 F2) fr2 (fun _ => Wr.us) (fun _ h => .inl h) (fun _ h => .inl h) (fun _ h => .inl (.inl h)) (fun _ h => .inl (.inl h))
  have f123 := f12.trans (W3 := Wr en2 F2) (U3 := Us en2 F2) f3 (fun _ => Wr.us) (fun _ h => h) (fun _ h => h) (fun _ h => .inl h) (fun _ h => .inl h)
  exact f123.trans fr4 (fun _ => Wr.us) (fun _ h => h) (fun _ h => h) (fun _ h => .inl h) (fun _ h => .inl h)
end
end VL
/-! Eng10: loops. -/
namespace VL
open PySem PySem.Spec PyProof.Rows L2
/-- what is walked: its items, the slot that is locked meanwhile (and what stood there), whose parts the items are -/
structure Sr where
  items : List D
  lk : Option (Nat × Sl)
  tg : Nat
def Sl.drp (j : Nat) (s : Sl) : Sl := if s.of j = true then .e else s
def Sl.lock : Sl → Sl
  | .o d => .k d
  | .b d => .k d
  | s => s
def lkE (lk : Option (Nat × Sl)) (en : En) : En := match lk with
  | none => en
  | some (j, s) => en.set j s.lock
def unE (lk : Option (Nat × Sl)) (en : En) : En := match lk with
  | none => en
  | some (j, s) => (en.map (Sl.drp j)).set j s
abbrev VI := En → (Sr → En → Prop) → Prop
section
variable {K : PySem.W.Frag} {H H' : Hp} {en e : En} {σ σ' : L2.St} {F F' : Ft}
theorem Sl.lock_of {s : Sl} (h : s.wr = true) : ∃ d, s.lock = .k d ∧ s.dat = some d := by
  cases s with
  | o d => exact ⟨d, rfl, rfl⟩
  | b d => exact ⟨d, rfl, rfl⟩
  | _ => cases h
theorem S.lock (s : S K H en σ F) {j : Nat} {sl : Sl} (hj : en[j]? = some sl) (hw : sl.wr = true) : S K H (en.set j sl.lock) σ F := by
  obtain ⟨d, e1, e2⟩ := sl.lock_of hw
  have hl : j < en.length := (List.getElem?_eq_some_iff.mp hj).1
  have get : ∀ (i : Nat) s', (en.set j sl.lock)[i]? = some s' → ∃ s0, en[i]? = some s0 ∧ s0.dat = s'.dat ∧ (s'.ow = s0.ow) ∧ (∀ i, s'.of i = s0.of i) ∧ (s0.isk = true → s'.isk = true) := fun i s' h => by
    by_cases hi : j = i
    · subst hi
      rw [List.getElem?_set_self hl] at h; cases h
      refine ⟨sl, hj, by rw [e1, e2]; rfl, ?_, fun i => ?_, fun z => by rw [e1]; rfl⟩
      · rw [e1, sl.wr_ow hw]; rfl
      · cases sl <;> first | rfl | (cases hw; done)
    · rw [List.getElem?_set_ne hi] at h
      exact ⟨s', h, rfl, rfl, fun _ => rfl, id⟩
  refine ⟨by rw [List.length_set]; exact s.len, fun i s' d' h1 h2 => ?_, fun i k s' s'' d' h1 h2 h3 h4 h5 h6 => ?_, fun i k s' s'' h1 h2 h3 => ?_⟩
  · obtain ⟨s0, g1, g2, _⟩ := get i s' h1
    exact s.own i s0 d' g1 (g2.trans h2)
  · obtain ⟨s0, g1, g2, g3, g4, _⟩ := get i s' h1
    obtain ⟨t0, f1, f2, f3, f4, _⟩ := get k s'' h2
    exact s.dis i k s0 t0 d' g1 f1 (g3.symm.trans h3) (f2.trans h4) ((f4 i).symm.trans h5) h6
  · obtain ⟨s0, g1, g2, g3, g4, g5⟩ := get i s' h1
    obtain ⟨t0, f1, f2, f3, f4, _⟩ := get k s'' h2
    exact g5 (s.tag i k s0 t0 g1 f1 ((f4 i).symm.trans h3))
theorem drp_get {j i : Nat} {s : Sl} (h : (e.map (Sl.drp j))[i]? = some s) : ∃ s0, e[i]? = some s0 ∧ ((s = .e ∧ s0.of j = true) ∨ (s = s0 ∧ s0.of j = false)) := by
  rw [List.getElem?_map] at h
  cases q : e[i]? with
  | none => rw [q] at h; cases h
  | some s0 =>
    rw [q] at h
    simp only [Option.map_some, Option.some.injEq] at h
    refine ⟨s0, rfl, ?_⟩
    unfold Sl.drp at h
    split at h
    · rename_i hn; exact .inl ⟨h.symm, hn⟩
    · rename_i hn
      exact .inr ⟨h.symm, by simpa using hn⟩
theorem S.unlock (s : S K H e σ F) {j : Nat} {sl : Sl} {d : D} (hj : e[j]? = some (.k d)) (hw : sl.wr = true) (hd : sl.dat = some d) : S K H ((e.map (Sl.drp j)).set j sl) σ F := by
  have hl : j < e.length := (List.getElem?_eq_some_iff.mp hj).1
  have hlm : j < (e.map (Sl.drp j)).length := by rw [List.length_map]; exact hl
  have get : ∀ (i : Nat) s', ((e.map (Sl.drp j)).set j sl)[i]? = some s' → (i = j ∧ s' = sl) ∨ (i ≠ j ∧ ∃ s0, e[i]? = some s0 ∧ ((s' = .e ∧ s0.of j = true) ∨ (s' = s0 ∧ s0.of j = false))) := fun i s' h => by
    by_cases hi : j = i
    · subst hi
      rw [List.getElem?_set_self hlm] at h; cases h
      exact .inl ⟨rfl, rfl⟩
    · rw [List.getElem?_set_ne hi] at h
      exact .inr ⟨fun z => hi z.symm, drp_get h⟩
  have slof : ∀ i, sl.of i = false := fun i => by cases sl <;> first | rfl | (cases hw; done)
  refine ⟨by rw [List.length_set, List.length_map]; exact s.len, fun i s' d' h1 h2 => ?_, fun i k s' s'' d' h1 h2 h3 h4 h5 h6 => ?_, fun i k s' s'' h1 h2 h3 => ?_⟩
  · rcases get i s' h1 with ⟨rfl, rfl⟩ | ⟨hi, s0, g1, ⟨rfl, hof⟩ | ⟨rfl, _⟩⟩
    · rw [hd] at h2; cases h2
      exact s.own i _ d hj rfl
    · cases h2
    · exact s.own i s' d' g1 h2
  · rcases get k s'' h2 with ⟨rfl, rfl⟩ | ⟨hk, t0, f1, ⟨rfl, _⟩ | ⟨rfl, f2⟩⟩
    · rw [hd] at h4; cases h4
      rcases get i s' h1 with ⟨rfl, rfl⟩ | ⟨hi, s0, g1, ⟨rfl, hof⟩ | ⟨rfl, _⟩⟩
      · exact absurd rfl h6
      · cases h3
      · exact s.dis i k s' _ d g1 hj h3 rfl rfl h6
    · cases h4
    · rcases get i s' h1 with ⟨rfl, rfl⟩ | ⟨hi, s0, g1, ⟨rfl, hof⟩ | ⟨rfl, _⟩⟩
      · exact s.dis i k _ s'' d' hj f1 rfl h4 f2 h6
      · cases h3
      · exact s.dis i k s' s'' d' g1 f1 h3 h4 h5 h6
  · rcases get k s'' h2 with ⟨rfl, rfl⟩ | ⟨hk, t0, f1, ⟨rfl, _⟩ | ⟨rfl, f2⟩⟩
    · rw [slof] at h3; cases h3
    · cases h3
    · rcases get i s' h1 with ⟨rfl, rfl⟩ | ⟨hi, s0, g1, ⟨rfl, hof⟩ | ⟨rfl, _⟩⟩
      · rw [f2] at h3; cases h3
      · have := s.tag i k s0 s'' g1 f1 h3
        cases s0 <;> first | (cases hof; done) | (cases this; done)
      · exact s.tag i k s' s'' g1 f1 h3

/-- the locked slots' end -/
structure Lkd (en : En) (lk : Option (Nat × Sl)) (F : Ft) (B : List Addr) (tg : Nat) : Prop where
  onS : ∀ j sl, lk = some (j, sl) → en[j]? = some sl ∧ sl.wr = true ∧ B = F j ∧ tg = j + 1
  onN : lk = none → (∀ a ∈ B, ¬ Wr en F a) ∧ MdOk (some tg) en F B
theorem lk_mem {en : En} {j i : Nat} {s : Sl} (h : ((en.map (Sl.drp j)))[i]? = some s) : i < en.length := by
  have := (List.getElem?_eq_some_iff.mp h).1
  rwa [List.length_map] at this
theorem unE_len {lk : Option (Nat × Sl)} {e : En} : (unE lk e).length = e.length := by
  unfold unE
  split
  · rfl
  · rw [List.length_set, List.length_map]
/-- what the loop starts with -/
theorem Lkd.start {lk : Option (Nat × Sl)} {B : List Addr} {tg : Nat} (l : Lkd en lk F B tg) (s : S K H en σ F) : S K H (lkE lk en) σ F ∧ (∀ a, Wr (lkE lk en) F a → Wr en F a) ∧ (∀ a, Us (lkE lk en) F a → Us en F a) ∧ (∀ a ∈ B, ¬ Wr (lkE lk en) F a) ∧ MdOk (some tg) (lkE lk en) F B := by
  cases hlk : lk with
  | none =>
    obtain ⟨h1, h2⟩ := l.onN hlk
    exact ⟨s, fun _ h => h, fun _ h => h, h1, h2⟩
  | some p =>
    obtain ⟨j, sl⟩ := p
    obtain ⟨h1, h2, h3, h4⟩ := l.onS j sl hlk
    obtain ⟨d, e1, e2⟩ := sl.lock_of h2
    have hl : j < en.length := (List.getElem?_eq_some_iff.mp h1).1
    have s' := s.lock h1 h2
    have self : (en.set j sl.lock)[j]? = some (.k d) := by rw [List.getElem?_set_self hl, e1]
    have oth : ∀ (i : Nat), i ≠ j → (en.set j sl.lock)[i]? = en[i]? := fun i h => List.getElem?_set_ne h.symm
    refine ⟨s', fun a ⟨i, t, g1, g2, g3⟩ => ?_, fun a ⟨i, t, dd, g1, g2, g3⟩ => ?_, fun a ha ⟨i, t, g1, g2, g3⟩ => ?_, fun i t g1 g2 g3 a ha hb => ?_, fun i t g1 g2 => ?_⟩
    · by_cases hi : i = j
      · subst hi
        exact ⟨i, sl, h1, h2, g3⟩
      · have g1 : (en.set j sl.lock)[i]? = some t := g1
        rw [oth i hi] at g1
        exact ⟨i, t, g1, g2, g3⟩
    · by_cases hi : i = j
      · subst hi
        exact ⟨i, sl, d, h1, e2, g3⟩
      · have g1 : (en.set j sl.lock)[i]? = some t := g1
        rw [oth i hi] at g1
        exact ⟨i, t, dd, g1, g2, g3⟩
    · have g1 : (en.set j sl.lock)[i]? = some t := g1
      by_cases hi : i = j
      · subst hi
        rw [self] at g1; cases g1; cases g2
      · rw [h3] at ha
        obtain ⟨dd, hdd⟩ := t.wr_dat g2
        rw [oth i hi] at g1
        exact s.dis' h1 g1 h2 hdd (Ne.symm hi) a ha g3
    · have g1 : (en.set j sl.lock)[i]? = some t := g1
      by_cases hi : i = j
      · subst hi
        rw [h4] at g3; simp at g3
      · rw [h3] at hb
        obtain ⟨dd, hdd⟩ := t.ow_dat g2
        rw [oth i hi] at g1
        exact s.dis' h1 g1 h2 hdd (Ne.symm hi) a hb ha
    · have g1 : (en.set j sl.lock)[i]? = some t := g1
      rw [h4] at g2
      have : i = j := by simp at g2; omega
      subst this
      rw [self] at g1; cases g1; rfl
/-- .. and ends with -/
theorem Lkd.stop {lk : Option (Nat × Sl)} {B : List Addr} {tg : Nat} {W' U' : Addr → Prop} (l : Lkd en lk F B tg) (s : S K H en σ F) (s' : S K H' e σ' F') (kq : Kq (lkE lk en) F σ e F' σ') (fr : Fr H (Wr (lkE lk en) F) (fun a => Us (lkE lk en) F a ∨ a ∈ B) H' W' U')
    (hw : ∀ a, Wr e F' a → W' a) (hu : ∀ a, Us e F' a → U' a) :
    S K H' (unE lk e) σ' F' ∧ Kq en F σ (unE lk e) F' σ' ∧ (∀ a, Wr (unE lk e) F' a → Wr e F' a ∨ Wr en F a) ∧ (∀ a, Us (unE lk e) F' a → Us e F' a) := by
  cases hlk : lk with
  | none =>
    subst hlk
    exact ⟨s', kq, fun _ h => .inl h, fun _ h => h⟩
  | some p =>
    obtain ⟨j, sl⟩ := p
    obtain ⟨h1, h2, h3, h4⟩ := l.onS j sl hlk
    subst hlk
    obtain ⟨d, e1, e2⟩ := sl.lock_of h2
    have hl : j < en.length := (List.getElem?_eq_some_iff.mp h1).1
    have self : (en.set j sl.lock)[j]? = some (.k d) := by rw [List.getElem?_set_self hl, e1]
    have oth : ∀ (i : Nat), i ≠ j → (en.set j sl.lock)[i]? = en[i]? := fun i h => List.getElem?_set_ne h.symm
    obtain ⟨k1, k2⟩ := kq.kp.k j d self
    have hle : j < e.length := (List.getElem?_eq_some_iff.mp k1).1
    have hlm : j < (e.map (Sl.drp j)).length := by rw [List.length_map]; exact hle
    have uself : ((e.map (Sl.drp j)).set j sl)[j]? = some sl := List.getElem?_set_self hlm
    have uoth : ∀ (i : Nat), i ≠ j → ((e.map (Sl.drp j)).set j sl)[i]? = (e.map (Sl.drp j))[i]? := fun i h => List.getElem?_set_ne h.symm
    have fwd : ∀ (i : Nat) t, i ≠ j → e[i]? = some t → t.of j = false → ((e.map (Sl.drp j)).set j sl)[i]? = some t := fun i t hi h ho => by
      rw [uoth i hi, List.getElem?_map, h]
      simp [Sl.drp, ho]
    refine ⟨s'.unlock k1 h2 e2, ⟨⟨?_, fun i db g => ?_, fun i dk g => ?_, fun i dk g => ?_⟩, fun i t g f => ?_⟩, fun a ⟨i, t, g1, g2, g3⟩ => ?_, fun a ⟨i, t, dd, g1, g2, g3⟩ => ?_⟩
    · show ((e.map (Sl.drp j)).set j sl).length = _
      rw [List.length_set, List.length_map, kq.kp.len]
      show (en.set j sl.lock).length = _
      rw [List.length_set]
    · by_cases hi : i = j
      · subst hi
        rw [h1] at g; cases g
        exact ⟨db, uself⟩
      · obtain ⟨d', g'⟩ := kq.kp.b i db (by show (en.set j sl.lock)[i]? = _; rw [oth i hi]; exact g)
        exact ⟨d', fwd i _ hi g' rfl⟩
    · have hi : i ≠ j := fun z => by subst z; rw [h1] at g; cases g; cases h2
      obtain ⟨g', gf⟩ := kq.kp.k i dk (by show (en.set j sl.lock)[i]? = _; rw [oth i hi]; exact g)
      exact ⟨fwd i _ hi g' rfl, gf⟩
    · have hi : i ≠ j := fun z => by
        subst z
        have g : ((e.map (Sl.drp i)).set i sl)[i]? = _ := g
        rw [uself] at g; cases g; cases h2
      have g : ((e.map (Sl.drp j)).set j sl)[i]? = _ := g
      rw [uoth i hi] at g
      obtain ⟨s0, q1, ⟨q2, _⟩ | ⟨q2, _⟩⟩ := drp_get g
      · cases q2
      · subst q2
        have := kq.kp.kb i dk q1
        have this : (en.set j sl.lock)[i]? = _ := this
        rw [oth i hi] at this; exact this
    · by_cases hi : i = j
      · subst hi
        exact kq.fix i _ self rfl
      · exact kq.fix i t (by show (en.set j sl.lock)[i]? = _; rw [oth i hi]; exact g) f
    · have g1 : ((e.map (Sl.drp j)).set j sl)[i]? = some t := g1
      by_cases hi : i = j
      · subst hi
        rw [k2] at g3
        exact .inr ⟨i, sl, h1, h2, g3⟩
      · rw [uoth i hi] at g1
        obtain ⟨s0, q1, ⟨q2, _⟩ | ⟨q2, _⟩⟩ := drp_get g1
        · subst q2; cases g2
        · subst q2; exact .inl ⟨i, t, q1, g2, g3⟩
    · have g1 : ((e.map (Sl.drp j)).set j sl)[i]? = some t := g1
      by_cases hi : i = j
      · subst hi
        exact ⟨i, _, d, k1, rfl, g3⟩
      · rw [uoth i hi] at g1
        obtain ⟨s0, q1, ⟨q2, _⟩ | ⟨q2, _⟩⟩ := drp_get g1
        · subst q2; cases g2
        · subst q2; exact ⟨i, t, dd, q1, g2, g3⟩
end
end VL
/-! Eng11: for, while. -/
namespace VL
open PySem PySem.Spec PyProof.Rows L2
def wpI (X : Cx) (tg iter : Expr) : TI := fun σ H R => ∀ (pins : List (Addr × Obj)) (s : Shared), Inv X pins σ H s → wpAny (model X.prog X.w) X.A (eval iter X.env) (fun v s1 => wpAny (model X.prog X.w) X.A (pyIter v) (PIE X pins σ tg R) X.xe s1) X.xe s
theorem pi_wp (X : Cx) (tg iter : Expr) : PI X tg iter (wpI X tg iter) := ⟨fun pins s _ _ _ I h => h pins s I⟩
theorem wpI.of {X : Cx} {tg e : Expr} {t : TI} (h : PI X tg e t) {σ : L2.St} {H : Hp} {R : It → Hp → Prop} (q : t σ H R) : wpI X tg e σ H R := fun pins s I => h.run pins s σ H R I q
theorem pie_mono {X : Cx} {pins : List (Addr × Obj)} {σ : L2.St} {tg : Expr} {R R' : It → Hp → Prop} {v : Value} {s : Shared} (h : PIE X pins σ tg R v s) (k : ∀ J H, R J H → R' J H) : PIE X pins σ tg R' v s := by
  obtain ⟨it, fp, tn, J, H', a, b, c, d, e, q⟩ := h
  exact ⟨it, fp, tn, J, H', a, b, c, d, e, k J H' q⟩
theorem wpI.mono {X : Cx} {tg e : Expr} {σ : L2.St} {H : Hp} {R R' : It → Hp → Prop} (h : wpI X tg e σ H R) (k : ∀ J H, R J H → R' J H) : wpI X tg e σ H R' := fun pins s I => thn (h pins s I) fun _ _ h1 => thn h1 fun _ _ q => pie_mono q k
/-- the iterator gives the items one by one, as long as what is walked stands -/
def Drives (K : PySem.W.Frag) (J : It) (items : List D) (B : List Addr) (H0 : Hp) : Prop := ∀ H2, Ext H0 H2 → Kept H0 H2 B →
  (∀ (k : Nat) d, items[k]? = some d → J.go k H2 ∧ ∀ x H3, J.yld k H2 x H3 → Grow H2 H3 ∧ ∃ C, Own K H3 d x C ∧ ∀ a ∈ C, a ∈ B) ∧ J.stop items.length H2
def IPo (K : PySem.W.Frag) (H : Hp) (en : En) (σ : L2.St) (F : Ft) (Q : Sr → En → Prop) : It → Hp → Prop := fun J H' => ∃ sr en1 F1 B, S K H' en1 σ F1 ∧ Lkd en1 sr.lk F1 B sr.tg ∧ (∀ a ∈ B, ∃ o, H' a = some o) ∧ Drives K J sr.items B H' ∧
  Fr H (Wr en F) (Us en F) H' (Wr en1 F1) (fun a => Us en1 F1 a ∨ a ∈ B) ∧ Kp en F en1 F1 ∧ Q sr en1
structure QI (X : Cx) (tg iter : Expr) (t : VI) : Prop where
  run : ∀ σ H en F Q, S X.K H en σ F → t en Q → wpI X tg iter σ H (IPo X.K H en σ F Q)
/-- the state in a loop over what is walked from en1 -/
structure Lp (K : PySem.W.Frag) (H1 : Hp) (en1 : En) (lk : Option (Nat × Sl)) (F1 : Ft) (σ : L2.St) (B : List Addr) (I : En → Prop) (e : En) (F' : Ft) (σ' : L2.St) (H' : Hp) : Prop where
  s : S K H' e σ' F'
  fr : Fr H1 (Wr (lkE lk en1) F1) (fun a => Us (lkE lk en1) F1 a ∨ a ∈ B) H' (Wr e F') (Us e F')
  kq : Kq (lkE lk en1) F1 σ e F' σ'
  i : I e
theorem mdok_step {H H' : Hp} {en e : En} {σ σ' : L2.St} {F F' : Ft} {g : Nat} {B : List Addr} {U U' : Addr → Prop} (hm : MdOk (some g) en F B) (nb : ∀ a ∈ B, ¬ Wr en F a) (at_ : ∀ a ∈ B, ∃ o, H a = some o) (fr : Fr H (Wr en F) U H' (Wr e F') U') (kq : Kq en F σ e F' σ') :
    MdOk (some g) e F' B := by
  refine ⟨fun j sl e1 e2 e3 a ha hb => ?_, fun j sl e1 e2 => ?_⟩
  · obtain ⟨ob, eo⟩ := at_ a hb
    cases qk : sl.isk with
    | true =>
      obtain ⟨dk, rfl⟩ : ∃ dk, sl = .k dk := by
        cases sl with
        | k dk => exact ⟨dk, rfl⟩
        | _ => cases qk
      have e0 := kq.kp.kb j dk e1
      rw [(kq.kp.k j dk e0).2] at ha
      exact hm.1 j _ e0 rfl e3 a ha hb
    | false =>
      have hw : sl.wr = true := by cases sl <;> first | rfl | (cases e2; done) | (cases qk; done)
      rcases fr.wr a ⟨j, sl, e1, hw, ha⟩ with q | q
      · exact nb a hb q
      · rw [eo] at q; cases q
  · obtain ⟨sl0, e0⟩ : ∃ sl0, en[j]? = some sl0 := by
      have hl := (List.getElem?_eq_some_iff.mp e1).1
      rw [kq.kp.len] at hl
      exact ⟨_, List.getElem?_eq_getElem hl⟩
    have := hm.2 j sl0 e0 e2
    cases sl0 with
    | k dk =>
      have := (kq.kp.k j dk e0).1
      rw [this] at e1; cases e1; rfl
    | _ => cases this
section
variable {X : Cx} {tg iter c : Expr} {body : List Stmt} {pos : Pos}
def vFor (ti : VI) (g : VG) (tb : VS) : VS := fun D en => ti en fun sr en1 => ∃ I : Nat → En → Prop, I 0 (lkE sr.lk en1) ∧
  (∀ (k : Nat) d e, sr.items[k]? = some d → I k e → g (some sr.tg) d e fun e3 => tb ⟨I (k + 1), fun d e => D.rt d (unE sr.lk e), fun e => D.nx (unE sr.lk e), I (k + 1)⟩ e3) ∧ ∀ e, I sr.items.length e → D.nx (unE sr.lk e)
theorem s_for {ti : VI} {g : VG} {tb : VS} {ts : List Nat} (hp : PassesOwn (model X.prog X.w) X.A X.env X.xe) (hc : X.calm = true) (hi : QI X tg iter ti) (hg : QG X tg g ts) (hb : QSs X body tb)
    (hs : ∀ x, foldedSetIterable iter X.env x = pure x := by intro _; rfl) : QS X (.For tg iter body [] pos) (vFor ti g tb) := by
  refine ⟨fun σ H en F D s q => wpS.of (ps_for hp hc (pi_wp X tg iter) (pg_wp X tg) (pss_wp X body) hs) ?_⟩
  refine (hi.run σ H en F _ s q).mono fun J H1 ⟨sr, en1, F1, B, s1, lkd, atB, dr, fr0, kp0, I, i0, step, fin⟩ => ?_
  obtain ⟨sK, wK, uK, nB, mB⟩ := lkd.start s1
  -- what stands in the loop
  have extB : ∀ {e F' σ' H'}, Lp X.K H1 en1 sr.lk F1 σ B (fun _ => True) e F' σ' H' → Ext H1 H' ∧ Kept H1 H' B := fun {e F' σ' H'} l => by
    refine ⟨fun b o h t => l.fr.keep b o h fun z => ?_, fun a ha o h => l.fr.keep a o h (nB a ha)⟩
    obtain ⟨o', e', n⟩ := sK.at z.us
    rw [h] at e'; cases e'
    exact n t
  have stop : ∀ {e F' σ' H'} {T : Addr → Prop}, S X.K H' e σ' F' → Fr H1 (Wr (lkE sr.lk en1) F1) (fun a => Us (lkE sr.lk en1) F1 a ∨ a ∈ B) H' (fun a => Wr e F' a ∨ T a) (fun a => Us e F' a ∨ T a) → Kq (lkE sr.lk en1) F1 σ e F' σ' →
      S X.K H' (unE sr.lk e) σ' F' ∧ Fr H (Wr en F) (Us en F) H' (fun a => Wr (unE sr.lk e) F' a ∨ T a) (fun a => Us (unE sr.lk e) F' a ∨ T a) ∧ Kq en F σ (unE sr.lk e) F' σ' ∧ ∀ a, Us (unE sr.lk e) F' a → Us e F' a := fun {e F' σ' H' T} s' fr kq => by
    obtain ⟨z1, z2, z3, z4⟩ := lkd.stop s1 s' kq fr (fun _ h => .inl h) (fun _ h => .inl h)
    refine ⟨z1, fr0.trans fr (fun _ => Wr.us) (fun a h => wK a h) (fun a h => h.imp (uK a) id) (fun a h => ?_) (fun a h => .inl (h.imp (z4 a) id)), kp0.kq.trans z2, z4⟩
    rcases h with h | h
    · exact (z3 a h).imp .inl id
    · exact .inl (.inr h)
  refine ⟨fun i m σ' H' => m = sr.items.length - i ∧ i ≤ sr.items.length ∧ ∃ e F', Lp X.K H1 en1 sr.lk F1 σ B (I i) e F' σ' H', ⟨sr.items.length, by simp, Nat.zero_le _, _, F1, sK, Fr.refl (fun _ h => h) (fun _ h => .inl h), Kq.refl _ F1 σ, i0⟩, ?_⟩
  rintro i m σ' H' ⟨rfl, hi', e, F', l⟩
  obtain ⟨ex, kB⟩ := extB ⟨l.s, l.fr, l.kq, trivial⟩
  obtain ⟨go, st⟩ := dr H' ex kB
  by_cases hlt : i < sr.items.length
  · have hd : sr.items[i]? = some sr.items[i] := List.getElem?_eq_getElem hlt
    obtain ⟨g1, g2⟩ := go i _ hd
    refine .inr ⟨g1, fun σ5 H5 => ∃ e5 F5, Lp X.K H1 en1 sr.lk F1 σ B (I (i + 1)) e5 F5 σ5 H5, fun σ5 H5 h5 => ⟨_, by omega, rfl, hlt, h5⟩, fun x H3 hy => ?_⟩
    obtain ⟨gr, C, oC, hC⟩ := g2 x H3 hy
    have mC : MdOk (some sr.tg) e F' C := by
      have := mdok_step mB nB atB l.fr l.kq
      exact ⟨fun j sl h1 h2 h3 a ha hb => this.1 j sl h1 h2 h3 a ha (hC a hb), this.2⟩
    have frG : Fr H' (Wr e F') (Us e F') H3 (Wr e F') (Us e F') := ⟨fun b o h _ => gr b o h, fun b h => .inl h, fun b h => .inl h⟩
    have tot3 := l.fr.trans (W3 := Wr e F') (U3 := Us e F') frG (fun _ h => .inl h.us) (fun _ h => h) (fun _ h => h) (fun _ h => .inl h) (fun _ h => .inl h)
    refine fun pins sh u Iv r => thn ((hg.run σ' H3 e F' (some sr.tg) _ x C _ (l.s.grow gr) oC mC (step i _ e hd l.i)) pins sh u Iv r) fun _ s4 ⟨σ4, H4, I4, en3, F3, s3, fr3, kq3, _, q3⟩ => ⟨σ4, H4, I4, ?_⟩
    -- from the loop's start to ahead of the body
    have tot4 : Fr H1 (Wr (lkE sr.lk en1) F1) (fun a => Us (lkE sr.lk en1) F1 a ∨ a ∈ B) H4 (Wr en3 F3) (Us en3 F3) := by
      have f3 : Fr H3 (Wr e F') (fun a => Us e F' a ∨ a ∈ C) H4 (Wr en3 F3) (Us en3 F3) := ⟨fun b o h hn => fr3.keep b o h fun z => z.elim hn fun z => (nomatch z.1), fun b h => (fr3.wr b h).imp (fun z => z.elim id fun z => (nomatch z.1)) id, fr3.us⟩
      have t3 : Fr H1 (Wr (lkE sr.lk en1) F1) (fun a => Us (lkE sr.lk en1) F1 a ∨ a ∈ B) H3 (Wr e F') (fun a => Us e F' a ∨ a ∈ C) := ⟨tot3.keep, tot3.wr, fun b h => h.elim (tot3.us b) fun z => .inl (.inr (hC b z))⟩
      exact t3.trans f3 (fun _ h => .inl h.us) (fun _ h => h) (fun _ h => h) (fun _ h => .inl h) (fun _ h => .inl h)
    have kq4 := l.kq.trans kq3
    refine (hb.run σ4 H4 en3 F3 _ s3 q3).mono ⟨fun σ5 H5 ⟨e5, F5, s5, fr5, kq5, q5⟩ => ⟨e5, F5, s5, tot4.trans fr5 (fun _ h => .inl h.us) (fun _ h => h) (fun _ h => h) (fun _ h => .inl h) (fun _ h => .inl h), kq4.trans kq5, q5⟩, fun v H5 ⟨d, e5, F5, B5, σ5, s5, o5, off5, fr5, kq5, q5⟩ => ?_, fun σ5 H5 ⟨e5, F5, s5, fr5, kq5, q5⟩ => ?_, fun σ5 H5 ⟨e5, F5, s5, fr5, kq5, q5⟩ => ⟨e5, F5, s5, tot4.trans fr5 (fun _ h => .inl h.us) (fun _ h => h) (fun _ h => h) (fun _ h => .inl h) (fun _ h => .inl h), kq4.trans kq5, q5⟩⟩
    · obtain ⟨z1, z2, z3, z4⟩ := stop (T := fun a => a ∈ B5) s5 (tot4.trans fr5 (fun _ h => .inl h.us) (fun _ h => h) (fun _ h => h) (fun _ h => .inl h) (fun _ h => .inl h)) (kq4.trans kq5)
      exact ⟨d, _, F5, B5, σ5, z1, o5, fun a ha z => off5 a ha (z4 a z), z2, z3, q5⟩
    · obtain ⟨z1, z2, z3, z4⟩ := stop (T := fun _ => False) s5 ((tot4.trans (W3 := fun a => Wr e5 F5 a ∨ False) (U3 := fun a => Us e5 F5 a ∨ False) fr5 (fun _ h => .inl h.us) (fun _ h => h) (fun _ h => h) (fun _ h => .inl (h.resolve_right id)) (fun _ h => .inl (h.resolve_right id)))) (kq4.trans kq5)
      exact ⟨_, F5, z1, ⟨z2.keep, fun b h => z2.wr b (.inl h), fun b h => z2.us b (.inl h)⟩, z3, q5⟩
  · have ei : i = sr.items.length := by omega
    subst ei
    obtain ⟨z1, z2, z3, z4⟩ := stop (T := fun _ => False) l.s ⟨l.fr.keep, fun b h => l.fr.wr b (h.resolve_right id), fun b h => l.fr.us b (h.resolve_right id)⟩ l.kq
    exact .inl ⟨st, _, F', z1, ⟨z2.keep, fun b h => z2.wr b (.inl h), fun b h => z2.us b (.inl h)⟩, z3, fin e l.i⟩
/-- while: a word and a measure -/
def vWhile (tc : VTst) (tb : VS) : VS := fun D en => ∃ (I : Nat → En → Prop) (m0 : Nat), I m0 en ∧ ∀ m e, I m e → tc e fun b e1 => match b with
  | true => tb ⟨fun e2 => ∃ m', m' < m ∧ I m' e2, D.rt, D.nx, fun e2 => ∃ m', m' < m ∧ I m' e2⟩ e1
  | false => D.nx e1
theorem s_while {tc : VTst} {tb : VS} (hp : PassesOwn (model X.prog X.w) X.A X.env X.xe) (hc : QT X c tc) (hb : QSs X body tb) : QS X (.While c body [] pos) (vWhile tc tb) := by
  refine ⟨fun σ H en F D s q => wpS.of (ps_while hp (pt_wp X c) (pss_wp X body)) ?_⟩
  obtain ⟨I, m0, i0, step⟩ := q
  refine ⟨fun m σ' H' => ∃ e F', S X.K H' e σ' F' ∧ Fr H (Wr en F) (Us en F) H' (Wr e F') (Us e F') ∧ Kq en F σ e F' σ' ∧ I m e, ⟨m0, en, F, s, Fr.same', Kq.refl en F σ, i0⟩, ?_⟩
  rintro m σ' H' ⟨e, F', s', fr, kq, im⟩
  refine (hc.run σ' H' e F' _ s' (step m e im)).mono fun b H1 ⟨e1, F1, s1, fr1, kp1, q1⟩ => ?_
  have fr01 := fr.trans (W3 := Wr e1 F1) (U3 := Us e1 F1) fr1 (fun _ => Wr.us) (fun _ h => h) (fun _ h => h) (fun _ h => .inl h) (fun _ h => .inl h)
  have kq01 := kq.trans kp1.kq
  cases b with
  | true =>
    refine iteT ⟨fun σ2 H2 => ∃ m', m' < m ∧ ∃ e F', S X.K H2 e σ2 F' ∧ Fr H (Wr en F) (Us en F) H2 (Wr e F') (Us e F') ∧ Kq en F σ e F' σ2 ∧ I m' e, fun σ2 H2 h => h, ?_⟩
    refine (hb.run σ' H1 e1 F1 _ s1 q1).mono ⟨fun σ2 H2 ⟨e2, F2, s2, fr2, kq2, m', hm, q2⟩ => ⟨m', hm, e2, F2, s2, fr01.trans fr2 (fun _ => Wr.us) (fun _ h => h) (fun _ h => h) (fun _ h => .inl h) (fun _ h => .inl h), kq01.trans kq2, q2⟩, fun v H2 h => RtPo.chain fr01 (fun _ h => h) (fun _ h => h) kq01 h, fun σ2 H2 h => NPo.chain fr01 (fun _ h => h) (fun _ h => h) kq01 h, fun σ2 H2 ⟨e2, F2, s2, fr2, kq2, m', hm, q2⟩ => ⟨m', hm, e2, F2, s2, fr01.trans fr2 (fun _ => Wr.us) (fun _ h => h) (fun _ h => h) (fun _ h => .inl h) (fun _ h => .inl h), kq01.trans kq2, q2⟩⟩
  | false => exact iteF ⟨e1, F1, s1, fr01, kq01, q1⟩
end
end VL
/-! Eng12: defs and their calls. -/
namespace VL
open PySem PySem.Spec PyProof.Rows L2
/-! ### references in a row -/
def RfOs (K : PySem.W.Frag) (H : Hp) (σ : L2.St) : List Rf → List V → List Addr → Prop
  | [], vs, B => vs = [] ∧ B = []
  | r :: rs, vs, B => ∃ v ws B1 B2, vs = v :: ws ∧ B = B1 ++ B2 ∧ RfO K H σ r v B1 ∧ RfOs K H σ rs ws B2
abbrev VRs := En → (List Rf → En → Prop) → Prop
def RsPo (K : PySem.W.Frag) (H : Hp) (en : En) (σ : L2.St) (F : Ft) (Q : List Rf → En → Prop) : List V → Hp → Prop := fun vs H' => ∃ rs en' F' B, S K H' en' σ F' ∧ RfOs K H' σ rs vs B ∧ (∀ a ∈ B, ¬ Us en' F' a) ∧
  Fr H (Wr en F) (Us en F) H' (fun a => Wr en' F' a ∨ a ∈ B) (fun a => Us en' F' a ∨ a ∈ B) ∧ Kp en F en' F' ∧ Q rs en'
structure QRs (X : Cx) (es : List Expr) (t : VRs) : Prop where
  run : ∀ σ H en F Q, S X.K H en σ F → t en Q → wpA X es σ H (RsPo X.K H en σ F fun rs e => rs.length = es.length ∧ Q rs e)
def tRsNil : VRs := fun en Q => Q [] en
def tRsCons (t : VR) (u : VRs) : VRs := fun en Q => t en fun r en1 => u en1 fun rs en2 => Q (r :: rs) en2
section
variable {X : Cx} {e : Expr} {es : List Expr} {pos p : Pos}
theorem q_rsnil : QRs X [] tRsNil := ⟨fun σ H en F Q s q => wpA.of pa_nil ⟨[], en, F, [], s, ⟨rfl, rfl⟩, by simp, Fr.same, Kp.refl en F, rfl, q⟩⟩
theorem q_rscons {t : VR} {u : VRs} (ha : QR X e t) (hr : QRs X es u) (hs : starEach (e :: es) X.env = (false, eval e X.env) :: starEach es X.env := by rfl) : QRs X (e :: es) (tRsCons t u) := by
  refine ⟨fun σ H en F Q s q => wpA.of (pa_cons (pe_wp X e) (pa_wp X es) hs) ?_⟩
  refine (ha.run σ H en F _ s q).mono fun v H1 ⟨d, en1, F1, B1, s1, o1, off1, fr1, kp1, q1⟩ => ?_
  intro pos pins sh I
  refine thn (hr.run σ H1 en1 F1 _ s1 q1 pos pins sh I) fun us s2 ⟨vs, H2, I2, r2, ds, en2, F2, B2, s2', o2, off2, fr2, kp2, ql, q2⟩ => ⟨vs, H2, I2, r2, ?_⟩
  obtain ⟨o1', w1, u1⟩ := o1.kept s1 off1 fr2
  refine ⟨d :: ds, en2, F2, B1 ++ B2, s2', ⟨v, vs, B1, B2, rfl, rfl, o1', o2⟩, fun a h z => ?_, fr1.trans fr2 (fun _ => Wr.us) (fun _ h => .inl h) (fun _ h => .inl h) (fun x h => ?_) (fun x h => ?_), kp1.trans kp2, by simp [ql], q2⟩
  · rcases List.mem_append.mp h with h | h
    · exact u1 a h (.inl z)
    · exact off2 a h z
  · rcases h with h | h
    · exact .inl (.inl h)
    · rcases List.mem_append.mp h with h | h
      · exact .inr (.inr h)
      · exact .inl (.inr h)
  · rcases h with h | h
    · exact .inl (.inl h)
    · rcases List.mem_append.mp h with h | h
      · exact .inr (.inr h)
      · exact .inl (.inr h)
end
def consD : Option D → Option (List D) → Option (List D)
  | some d, some ds => some (d :: ds)
  | _, _ => none
def getAll : List Rf → En → Option (List D)
  | [], _ => some []
  | r :: rs, en => consD (r.get en) (getAll rs en)
theorem consD_of {o : Option D} {os : Option (List D)} {ds : List D} (h : consD o os = some ds) : ∃ d r, ds = d :: r ∧ o = some d ∧ os = some r := by
  unfold consD at h
  split at h
  · cases h; exact ⟨_, _, rfl, rfl, rfl⟩
  · cases h
/-- the arguments' footprints -/
def fps (F : Ft) : List Rf → List (List Addr) → Nat → List Addr
  | .n j :: _, _, 0 => F j
  | .v _ :: _, B :: _, 0 => B
  | _ :: rs, _ :: Bs, i + 1 => fps F rs Bs i
  | _, _, _ => []
theorem getAll_at {K : PySem.W.Frag} {H : Hp} {en : En} {σ : L2.St} {F : Ft} (s : S K H en σ F) : ∀ {rs : List Rf} {vs : List V} {B : List Addr} {ds : List D}, RfOs K H σ rs vs B → getAll rs en = some ds →
    vs.length = rs.length ∧ ds.length = rs.length ∧ ∃ Bs : Nat → List Addr, (∀ (i : Nat) d v, ds[i]? = some d → vs[i]? = some v → Own K H d v (Bs i)) ∧ ∀ (i : Nat) r, rs[i]? = some r → match r with
      | .n j => Bs i = F j ∧ ∃ sl d, en[j]? = some sl ∧ sl.dat = some d ∧ ds[i]? = some d ∧ ∃ v, vs[i]? = some v ∧ σ[j]? = some (some v)
      | .v _ => ∀ a ∈ Bs i, a ∈ B
  | [], vs, B, ds, r, h => by
    obtain ⟨rfl, rfl⟩ := r
    cases h
    exact ⟨rfl, rfl, fun _ => [], fun i d v h => by simp at h, fun i r h => by simp at h⟩
  | r :: rs, vs, B, ds, o, h => by
    obtain ⟨v, ws, B1, B2, rfl, rfl, o1, o2⟩ := o
    obtain ⟨d, ds', rfl, h1, h2⟩ := consD_of h
    obtain ⟨e1, e2, Bs, b1, b2⟩ := getAll_at s o2 h2
    have head : ∃ C, Own K H d v C ∧ match r with
      | .n j => C = F j ∧ ∃ sl d', en[j]? = some sl ∧ sl.dat = some d' ∧ some d = some d' ∧ ∃ v', some v = some v' ∧ σ[j]? = some (some v')
      | .v _ => ∀ a ∈ C, a ∈ B1 := by
      cases r with
      | v d0 =>
        cases h1
        exact ⟨B1, o1, fun a ha => ha⟩
      | n j =>
        obtain ⟨rfl, e⟩ := o1
        have h1 : (en[j]?).bind Sl.dat = some d := h1
        cases q : en[j]? with
        | none => rw [q] at h1; cases h1
        | some sl =>
          rw [q] at h1
          obtain ⟨u, e', oo⟩ := s.own j sl d q h1
          rw [e] at e'; cases e'
          exact ⟨F j, oo, rfl, sl, d, q, h1, rfl, v, rfl, e⟩
    obtain ⟨C, c1, c2⟩ := head
    refine ⟨by simp [e1], by simp [e2], fun i => match i with | 0 => C | i + 1 => Bs i, fun i d' v' g1 g2 => ?_, fun i r' g => ?_⟩
    · cases i with
      | zero => simp at g1 g2; subst g1; subst g2; exact c1
      | succ i => exact b1 i d' v' (by simpa using g1) (by simpa using g2)
    · cases i with
      | zero =>
        simp at g; subst g
        cases r with
        | v d0 => exact fun a ha => List.mem_append_left _ (c2 a ha)
        | n j => simpa using c2
      | succ i =>
        have := b2 i r' (by simpa using g)
        cases r' with
        | v d0 => exact fun a ha => List.mem_append_right _ (this a ha)
        | n j => simpa using this
/-! ### promises -/
/-- what a def promises: of its arguments, of what is wanted of its value and of what then stands in the list that it may change -/
abbrev DS := List D → (D → D → Prop) → Prop
def spOf (K : PySem.W.Frag) (mp : Option Nat) (n : Nat) (ds : DS) : Sp := fun vs H Q _ => ∃ (as : List D) (Bs : Nat → List Addr), vs.length = n ∧ as.length = n ∧ (∀ (i : Nat) a v, as[i]? = some a → vs[i]? = some v → Own K H a v (Bs i)) ∧
  (∀ m, mp = some m → m < n ∧ ∀ (j : Nat), j < n → j ≠ m → ∀ x ∈ Bs m, x ∉ Bs j) ∧
  ds as fun d o => ∀ v H' B C, Own K H' d v B → (∀ m, mp = some m → ∃ w, vs[m]? = some w ∧ Own K H' o w C) → (∀ x ∈ B, x ∉ C) → (∀ b ob, H b = some ob → (∀ m, mp = some m → b ∉ Bs m) → H' b = some ob) →
    (∀ x, x ∈ B → (∃ m, mp = some m ∧ x ∈ Bs m) ∨ H x = none) → (∀ x, x ∈ C → (∃ m, mp = some m ∧ x ∈ Bs m) ∨ H x = none) → Q v H'
def slV : D → Sl
  | .p x => .o (.p x)
  | d => .r 0 d
/-- the slots at a def's entry -/
def argS : Option Nat → List D → En
  | _, [] => []
  | some 0, a :: r => .b a :: argS none r
  | some (m + 1), a :: r => slV a :: argS (some m) r
  | none, a :: r => slV a :: argS none r
def outM (mp : Option Nat) (e : En) : D := match mp with
  | none => .p .non
  | some m => match e[m]? with
    | some (.b d) => d
    | _ => .p .non
theorem argS_len : ∀ (mp : Option Nat) (as : List D), (argS mp as).length = as.length
  | none, [] => rfl
  | some _, [] => by unfold argS; rfl
  | some 0, a :: r => by unfold argS; simp [argS_len none r]
  | some (m + 1), a :: r => by unfold argS; simp [argS_len (some m) r]
  | none, a :: r => by unfold argS; simp [argS_len none r]
theorem argS_get : ∀ (mp : Option Nat) (as : List D) (i : Nat), (argS mp as)[i]? = (as[i]?).map fun a => if mp = some i then .b a else slV a
  | none, [], i => by simp [argS]
  | some _, [], i => by simp [argS]
  | some 0, a :: r, 0 => by simp [argS]
  | some 0, a :: r, i + 1 => by simp [argS, argS_get none r i]
  | some (m + 1), a :: r, 0 => by simp [argS]
  | some (m + 1), a :: r, i + 1 => by simp [argS, argS_get (some m) r i]
  | none, a :: r, 0 => by simp [argS]
  | none, a :: r, i + 1 => by simp [argS, argS_get none r i]
theorem slV_dat (a : D) : (slV a).dat = some a := by cases a <;> rfl
theorem slV_of (a : D) (i : Nat) : (slV a).of i = false := by cases a <;> simp [slV, Sl.of]
theorem slV_nb (a : D) (b : D) : slV a ≠ .b b := by cases a <;> (intro h; cases h)
/-- the slots at the entry stand for the arguments -/
theorem S.entry {K : PySem.W.Frag} {H : Hp} {N ps : List Str} {mp : Option Nat} {n : Nat} {vs : List V} {as : List D} {Bs : Ft} (hv : vs.length = n) (ha : as.length = n) (hn : n ≤ N.length) (own : ∀ (i : Nat) a v, as[i]? = some a → vs[i]? = some v → Own K H a v (Bs i))
    (dis : ∀ m, mp = some m → m < n ∧ ∀ (j : Nat), j < n → j ≠ m → ∀ x ∈ Bs m, x ∉ Bs j) : S K H (argS mp as ++ List.replicate (N.length - n) .e) (L2.start N vs) Bs := by
  have get : ∀ (i : Nat) s d, (argS mp as ++ List.replicate (N.length - n) Sl.e)[i]? = some s → s.dat = some d → i < n ∧ as[i]? = some d ∧ s = if mp = some i then .b d else slV d := fun i s d h1 h2 => by
    by_cases hi : i < n
    · rw [List.getElem?_append_left (by rw [argS_len, ha]; exact hi), argS_get] at h1
      cases q : as[i]? with
      | none => rw [q] at h1; cases h1
      | some a =>
        rw [q] at h1
        simp only [Option.map_some, Option.some.injEq] at h1
        subst h1
        have : a = d := by
          split at h2
          · exact Option.some.inj h2
          · rw [slV_dat] at h2; exact Option.some.inj h2
        subst this
        exact ⟨hi, rfl, rfl⟩
    · rw [List.getElem?_append_right (by rw [argS_len, ha]; omega), List.getElem?_replicate] at h1
      split at h1
      · cases h1; cases h2
      · cases h1
  refine ⟨?_, fun i s d h1 h2 => ?_, fun i j s s' d h1 h2 h3 h4 h5 h6 x hx => ?_, fun i j s s' h1 h2 h3 => ?_⟩
  · unfold L2.start
    rw [List.length_append, argS_len, List.length_replicate, List.length_append, List.length_map, List.length_replicate, ha, hv]
  · obtain ⟨g1, g2, g3⟩ := get i s d h1 h2
    have hiv : i < vs.length := by omega
    refine ⟨vs[i], ?_, own i d _ g2 (List.getElem?_eq_getElem hiv)⟩
    unfold L2.start
    rw [List.getElem?_append_left (by rw [List.length_map]; exact hiv), List.getElem?_map, List.getElem?_eq_getElem hiv]
    rfl
  · obtain ⟨d', hd'⟩ := s.ow_dat h3
    obtain ⟨g1, g2, g3⟩ := get i s d' h1 hd'
    obtain ⟨f1, f2, f3⟩ := get j s' d h2 h4
    by_cases hm : mp = some i
    · exact (dis i hm).2 j f1 (Ne.symm h6) x hx
    · rw [if_neg hm] at g3
      subst g3
      cases d' with
      | p z =>
        have := own i _ _ g2 (List.getElem?_eq_getElem (by omega : i < vs.length))
        rw [this.1] at hx; cases hx
      | _ => cases h3
  · have : ∃ d, s'.dat = some d := by
      cases s' with
      | r g d => exact ⟨d, rfl⟩
      | _ => cases h3
    obtain ⟨d, hd⟩ := this
    obtain ⟨f1, f2, f3⟩ := get j s' d h2 hd
    subst f3
    split at h3
    · cases h3
    · rw [slV_of] at h3; cases h3
/-- THE RULE of a def -/
theorem fn_ok {P : Program} {w : World} {K : PySem.W.Frag} {mg : Str → Option Value} {base : Heap} {x qual : Str} {st : Stmt} {f : Addr} {fd : FuncData} {N ps : List Str} {k n : Nat} {mp : Option Nat} {ds : DS} {tb : VS} (F : Fun K x qual st f fd) (Sc : FnScope N ps (defScope st)) (hn : ps.length = n)
    (hb : ∀ (cdv : Value) (A : Around) (outer : List Env) (s : Shared) (H : Hp) (E : XK), Room k (A.deeper (envOfC qual (defScope st) s.heap.objs.size f cdv)) → QSs (cxOf CX0 P w K mg base N qual (defScope st) f cdv A outer s H E).nox (defBody st) tb)
    (law : ∀ (as : List D) (Q : D → D → Prop), as.length = n → ds as Q → tb ⟨fun e => Q (.p .non) (outM mp e), fun d e => Q d (outM mp e), fun _ => False, fun _ => False⟩ (argS mp as ++ List.replicate (N.length - n) .e)) :
    FnOk P w K mg base CX0 (k + 1) f fd ps (spOf K mp n ds) := by
  refine F.ok Sc (fun vs H Q E h => ?_) (fun cdv A outer s H vs Q E hr h => ?_)
  · obtain ⟨as, Bs, h1, _⟩ := h
    rw [h1, hn]
  · obtain ⟨as, Bs, hv, ha, own, dis, hds⟩ := h
    have hpl : n ≤ N.length := by have := congrArg List.length Sc.pre; rw [List.length_take] at this; omega
    have s0 : S K H (argS mp as ++ List.replicate (N.length - n) .e) (L2.start N vs) Bs := S.entry (ps := ps) hv ha hpl own dis
    refine ⟨_, pss_wp _ (defBody st), ?_⟩
    have fin : ∀ {d : D} {e : En} {F' : Ft} {B : List Addr} {σ' : L2.St} {v : V} {H' : Hp}, S K H' e σ' F' → Own K H' d v B → (∀ a ∈ B, ¬ Us e F' a) → Fr H (Wr (argS mp as ++ List.replicate (N.length - n) .e) Bs) (Us (argS mp as ++ List.replicate (N.length - n) .e) Bs) H' (fun a => Wr e F' a ∨ a ∈ B) (fun a => Us e F' a ∨ a ∈ B) →
        Kq (argS mp as ++ List.replicate (N.length - n) .e) Bs (L2.start N vs) e F' σ' → (∀ v H' B C, Own K H' d v B → (∀ m, mp = some m → ∃ w, vs[m]? = some w ∧ Own K H' (outM mp e) w C) → (∀ x ∈ B, x ∉ C) → (∀ b ob, H b = some ob → (∀ m, mp = some m → b ∉ Bs m) → H' b = some ob) →
          (∀ x, x ∈ B → (∃ m, mp = some m ∧ x ∈ Bs m) ∨ H x = none) → (∀ x, x ∈ C → (∃ m, mp = some m ∧ x ∈ Bs m) ∨ H x = none) → Q v H') → Q v H' := fun {d e F' B σ' v H'} s' o off fr kq q => by
      have wr0 : ∀ a, Wr (argS mp as ++ List.replicate (N.length - n) Sl.e) Bs a → ∃ m, mp = some m ∧ a ∈ Bs m := fun a ⟨i, sl, g1, g2, g3⟩ => by
        by_cases hi : i < n
        · rw [List.getElem?_append_left (by rw [argS_len, ha]; exact hi), argS_get] at g1
          cases qa : as[i]? with
          | none => rw [qa] at g1; cases g1
          | some x =>
            rw [qa] at g1
            simp only [Option.map_some, Option.some.injEq] at g1
            by_cases hm : mp = some i
            · exact ⟨i, hm, g3⟩
            · rw [if_neg hm] at g1
              subst g1
              cases x with
              | p z =>
                have := own i _ _ qa (List.getElem?_eq_getElem (by omega : i < vs.length))
                rw [this.1] at g3; cases g3
              | _ => cases g2
        · rw [List.getElem?_append_right (by rw [argS_len, ha]; omega), List.getElem?_replicate] at g1
          split at g1
          · cases g1; cases g2
          · cases g1
      have keep : ∀ b ob, H b = some ob → (∀ m, mp = some m → b ∉ Bs m) → H' b = some ob := fun b ob h hm => fr.keep b ob h fun z => by
        obtain ⟨m, e1, e2⟩ := wr0 b z
        exact hm m e1 e2
      cases hmp : mp with
      | none =>
        subst hmp
        exact q v H' B [] o (fun m h => by cases h) (by simp) keep (fun x hx => (fr.wr x (.inr hx)).imp (wr0 x) id) (by simp)
      | some m =>
        subst hmp
        obtain ⟨hm1, hm2⟩ := dis m rfl
        have em : (argS (some m) as ++ List.replicate (N.length - n) Sl.e)[m]? = some (.b as[m]) := by
          rw [List.getElem?_append_left (by rw [argS_len, ha]; exact hm1), argS_get, List.getElem?_eq_getElem (by omega)]
          simp
        obtain ⟨d', hd'⟩ := kq.kp.b m _ em
        have eo : outM (some m) e = d' := by
          show (match e[m]? with | some (.b d) => d | _ => D.p .non) = d'
          rw [hd']
        obtain ⟨w, e1, e2⟩ := s'.own m _ d' hd' rfl
        have e3 := kq.fix m _ em rfl
        have hiv : m < vs.length := by omega
        have e4 : (L2.start N vs)[m]? = some (some vs[m]) := by
          unfold L2.start
          rw [List.getElem?_append_left (by rw [List.length_map]; exact hiv), List.getElem?_map, List.getElem?_eq_getElem hiv]
          rfl
        rw [e3, e4] at e1; cases e1
        refine q v H' B (F' m) o (fun m' h => by cases h; exact ⟨_, List.getElem?_eq_getElem hiv, by rw [eo]; exact e2⟩) (fun x hx z => off x hx ⟨m, _, d', hd', rfl, z⟩) keep (fun x hx => (fr.wr x (.inr hx)).imp (wr0 x) id) fun x hx => (fr.wr x (.inl ⟨m, _, hd', rfl, hx⟩)).imp (wr0 x) id
    refine ((hb cdv A outer s H E hr).run (L2.start N vs) H _ Bs _ s0 (law as _ ha hds)).mono ⟨fun σ' H' ⟨e, F', s', fr, kq, q⟩ => ?_, fun v H' ⟨d, e, F', B, σ', s', o, off, fr, kq, q⟩ => fin s' o off fr kq q, fun _ _ ⟨_, _, _, _, _, z⟩ => z, fun _ _ ⟨_, _, _, _, _, z⟩ => z⟩
    exact fin (B := []) (d := .p .non) (v := .non) s' (own_p rfl) (by simp) ⟨fr.keep, fun b h => fr.wr b (h.resolve_right (by simp)), fun b h => fr.us b (h.resolve_right (by simp))⟩ kq q

/-! ### calls -/
def Rf.isN (j : Nat) : Rf → Bool
  | .n i => i == j
  | _ => false
def noN (j : Nat) : List Rf → Bool
  | [] => true
  | r :: rs => !r.isN j && noN j rs
def onlyAt : List Rf → Nat → Nat → Bool
  | [], _, _ => true
  | _ :: rs, 0, j => noN j rs
  | r :: rs, m + 1, j => !r.isN j && onlyAt rs m j
theorem noN_of {j : Nat} : ∀ {rs : List Rf} {i : Nat}, noN j rs = true → rs[i]? ≠ some (.n j)
  | [], i, _ => by simp
  | r :: rs, 0, h => by
    intro z
    simp at z; subst z
    simp [noN, Rf.isN] at h
  | r :: rs, i + 1, h => by
    unfold noN at h
    rw [Bool.and_eq_true] at h
    simpa using noN_of (i := i) h.2
theorem onlyAt_of {j : Nat} : ∀ {rs : List Rf} {m i : Nat}, onlyAt rs m j = true → rs[i]? = some (.n j) → i = m
  | [], _, i, _, h => by simp at h
  | r :: rs, 0, 0, _, _ => rfl
  | r :: rs, 0, i + 1, h, z => absurd (by simpa using z) (noN_of (i := i) h)
  | r :: rs, m + 1, 0, h, z => by
    simp at z; subst z
    simp [onlyAt, Rf.isN] at h
  | r :: rs, m + 1, i + 1, h, z => by
    unfold onlyAt at h
    rw [Bool.and_eq_true] at h
    rw [onlyAt_of (i := i) h.2 (by simpa using z)]
def mslot (s : Option Sl) (k : (D → Sl) → Prop) : Prop := match s with
  | some (.o _) => k .o
  | some (.b _) => k .b
  | _ => False
def callM (ds : DS) (as : List D) (r : Option Rf) (m : Nat) (rs : List Rf) (en : En) (Q : D → En → Prop) : Prop := match r with
  | some (.n j) => onlyAt rs m j = true ∧ mslot en[j]? fun mk => ds as fun d o => Q d (en.set j (mk o))
  | _ => False
def callW (mp : Option Nat) (ds : DS) (rs : List Rf) (en : En) (Q : D → En → Prop) : Prop := match getAll rs en with
  | some as => match mp with
    | none => ds as fun d _ => Q d en
    | some m => callM ds as rs[m]? m rs en Q
  | none => False
def tCallV (mp : Option Nat) (ds : DS) (t : VRs) : VT := fun en Q => t en fun rs en1 => callW mp ds rs en1 Q
theorem mslot_of {K : PySem.W.Frag} {H : Hp} {en : En} {σ : L2.St} {F : Ft} {j : Nat} {q : (D → Sl) → Prop} (s : S K H en σ F) (h : mslot en[j]? q) : ∃ sl mk d v, en[j]? = some sl ∧ sl.wr = true ∧ sl.dat = some d ∧ σ[j]? = some (some v) ∧ Own K H d v (F j) ∧ (∀ o, (mk o).wr = true ∧ (mk o).dat = some o) ∧ ((∃ d, sl = .b d) → ∀ o, ∃ d, mk o = .b d) ∧ q mk := by
  unfold mslot at h
  split at h
  · rename_i d e
    obtain ⟨v, e1, o⟩ := s.own j _ d e rfl
    exact ⟨_, _, d, v, e, rfl, rfl, e1, o, fun _ => ⟨rfl, rfl⟩, fun ⟨_, z⟩ => (by cases z), h⟩
  · rename_i d e
    obtain ⟨v, e1, o⟩ := s.own j _ d e rfl
    exact ⟨_, _, d, v, e, rfl, rfl, e1, o, fun _ => ⟨rfl, rfl⟩, fun _ o => ⟨o, rfl⟩, h⟩
  · exact h.elim
section
variable {X : Cx} {e : Expr} {es : List Expr} {pos p : Pos} {k f n : Nat} {fd : FuncData} {ps : List Str} {mp : Option Nat} {ds : DS}
def DsMono (ds : DS) : Prop := ∀ as Q Q', (∀ d o, Q d o → Q' d o) → ds as Q → ds as Q'
theorem call_core (mono : DsMono ds) (hmn : ∀ m, mp = some m → m < n) {σ : L2.St} {H H1 : Hp} {en en1 : En} {F F1 : Ft} {Q : D → En → Prop} {rs : List Rf} {vs : List V} {B : List Addr}
    (hn : rs.length = n) (s1 : S X.K H1 en1 σ F1) (o : RfOs X.K H1 σ rs vs B) (off : ∀ a ∈ B, ¬ Us en1 F1 a) (fr : Fr H (Wr en F) (Us en F) H1 (fun a => Wr en1 F1 a ∨ a ∈ B) (fun a => Us en1 F1 a ∨ a ∈ B)) (kp : Kp en F en1 F1)
    (q : callW mp ds rs en1 Q) : spOf X.K mp n ds vs H1 (EPo X.K H en σ F Q) E0 := by
  unfold callW at q
  cases hg : getAll rs en1 with
  | none => rw [hg] at q; exact q.elim
  | some as =>
    rw [hg] at q
    obtain ⟨l1, l2, Bs, own, hrs⟩ := getAll_at s1 o hg
    cases hmp : mp with
    | none =>
      subst hmp
      refine ⟨as, Bs, l1.trans hn, l2.trans hn, own, fun m h => (by cases h), mono as _ _ (fun d _ q v H' C _ oC _ _ keep nB _ => ?_) q⟩
      have g : Grow H1 H' := fun b ob h => keep b ob h fun m h => (by cases h)
      exact EPo.fin s1 fr (fun _ h => .inl h) (fun _ h => .inl h) kp g oC (fun b hb => (nB b hb).resolve_left fun ⟨_, z, _⟩ => by cases z) q
    | some m =>
      subst hmp
      have q : callM ds as rs[m]? m rs en1 Q := q
      unfold callM at q
      split at q
      · rename_i j ej
        obtain ⟨q0, q⟩ := q
        obtain ⟨sl, mk, d, v, h1, h2, h3, h4, h5, h6, h7, q⟩ := mslot_of s1 q
        have hm := hrs m _ ej
        obtain ⟨hm1, slm, dm, hm2, hm3, hm4, vm, hm5, hm6⟩ := hm
        rw [h4] at hm6; cases hm6
        refine ⟨as, Bs, l1.trans hn, l2.trans hn, own, fun m' h => ?_, mono as _ _ (fun d' o' q v' H' C C' oC oM dj keep nB nC => ?_) q⟩
        · cases h
          refine ⟨hmn m rfl, fun i hi hne x hx => ?_⟩
          rw [hm1] at hx
          obtain ⟨ri, eri⟩ : ∃ ri, rs[i]? = some ri := ⟨_, List.getElem?_eq_getElem (by omega)⟩
          have hi2 := hrs i ri eri
          cases ri with
          | n j' =>
            have hjj : j' ≠ j := fun z => hne (by subst z; exact onlyAt_of q0 eri)
            obtain ⟨g1, sl', dd, g2, g3, _⟩ := hi2
            rw [g1]
            exact s1.dis' h1 g2 h2 g3 (Ne.symm hjj) x hx
          | v _ => exact fun z => off x (hi2 x z) ⟨j, sl, d, h1, h3, hx⟩
        · obtain ⟨w, e1, oM⟩ := oM m rfl
          rw [hm5] at e1; cases e1
          have m' := s1.mut (B := []) h1 h2 (h6 o').1 (h6 o').2 h4 (H' := H') (fun b ob h hb => keep b ob h fun m2 e2 => by cases e2; rw [hm1]; exact hb) oM (fun a ha => (nC a ha).elim (fun ⟨m2, e2, z⟩ => by cases e2; rw [hm1] at z; exact .inl z) fun z => .inr (.inr z)) (by simp)
          have isd : ∀ a, a ∈ C → a ∈ F1 j ∨ H1 a = none := fun a ha => (nB a ha).imp (fun ⟨m2, e2, z⟩ => by cases e2; rw [hm1] at z; exact z) id
          have fr2 : Fr H1 (Wr en1 F1) (Us en1 F1) H' (fun a => Wr (en1.set j (mk o')) (F1.put j C') a ∨ a ∈ C) (fun a => Us (en1.set j (mk o')) (F1.put j C') a ∨ a ∈ C) := by
            refine ⟨fun b ob h hw => m'.2.keep b ob h fun z => hw (z.resolve_right (by simp)), fun b h => ?_, fun b h => ?_⟩
            · rcases h with h | h
              · exact (m'.2.wr b h).imp (fun z => z.resolve_right (by simp)) id
              · exact (isd b h).imp (fun z => ⟨j, sl, h1, h2, z⟩) id
            · rcases h with h | h
              · exact (m'.2.us b h).imp (fun z => z.resolve_right (by simp)) id
              · exact (isd b h).imp (fun z => ⟨j, sl, d, h1, h3, z⟩) id
          refine ⟨d', _, _, C, m'.1, oC, fun a ha z => ?_, fr.trans fr2 (fun _ => Wr.us) (fun _ h => .inl h) (fun _ h => .inl h) (fun _ h => .inl h) (fun _ h => .inl h), kp.trans (kp_mut h1 (Sl.wr_nk h2) (Sl.wr_nk (h6 o').1) fun z => h7 z o'), q⟩
          obtain ⟨i, s', dd, g1, g2, g3⟩ := z
          by_cases hi : i = j
          · subst hi
            exact dj a ha (by simpa [Ft.put] using g3)
          · rw [List.getElem?_set_ne (Ne.symm hi)] at g1
            have g3 : a ∈ F1 i := by simpa [Ft.put, hi] using g3
            rcases isd a ha with z | z
            · exact s1.dis' h1 g1 h2 g2 (Ne.symm hi) a z g3
            · obtain ⟨ob, e, _⟩ := s1.at ⟨i, s', dd, g1, g2, g3⟩
              rw [z] at e; cases e
      · exact q.elim
/-- f(..) -/
theorem q_call {x : Str} {a : Expr} {t : VRs} (mono : DsMono ds) (G : FnOk X.prog X.w X.K X.mg X.base CX0 k f fd ps (spOf X.K mp n ds)) (hr : Room k X.A) (hmn : ∀ m, mp = some m → m < n) (hln : (a :: es).length = n) (hg : Gl X x) (hm : X.mg x = some (.ref f)) (hk : PySem.W.keepIn X.K (.ref f) = true) (hb : Binds X.K fd ps [])
    (ha : QRs X (a :: es) t) (hdb : (x == ("__debug__" : Str)) = false := by decide) (he : starEach (a :: es) X.env = (false, eval a X.env) :: starEach es X.env := by rfl) (hpl : (backTo pos (starEach es X.env)).any (·.1) = false := by rfl) :
    QE X (.Call (.Name x p) (a :: es) [] pos) (tCallV mp ds t) := by
  refine ⟨fun σ H en F Q s q pins sh I => ?_⟩
  refine wpAny_Call_Name_kw (ld_glob I hg hm ?_ hdb)
  refine PySem.W.callWith_K (h₀ := X.base) I.ok.mod.kin hk (thn (ha.run σ H en F _ s q pos pins sh I) fun us s1 ⟨vs, H1, I1, r, rs, en1, F1, B, s1', o, off, fr, kp, hl, q1⟩ => ⟨I1.kIn, ?_⟩) he hpl
  exact run_fn (E := E0) (dvs := []) (ds := []) G hr hb .nil pass0 I1 r (by rw [List.append_nil]; exact call_core mono hmn (hl.trans hln) s1' o off fr kp q1)
end
end VL
/-! EngE: enumerate of a tuple. -/
namespace PySem
open Sem (wp)
open AutoSeq1 (wpAny_loadPart')
set_option maxHeartbeats 1000000 in
theorem meets_enum_tup (l : Addr) (items : Array Value) (o : Obj) (ho2 : o.cls = .type "tuple") :
    Meets (Builtin.«enumerate.__new__» ⟨[.type "enumerate", .ref l], []⟩) (fun _ R s => s.heap.get? l = some o ∧ s.heap.IsTuple l items ∧
      R (.ok (.ret (.ref (s.heap.push { cls := .type "tuple_iterator", data := .fields #[.ref l, .int 0 0] }).objs.size)))
        { s with heap := (s.heap.push { cls := .type "tuple_iterator", data := .fields #[.ref l, .int 0 0] }).push { cls := .type "enumerate", data := .fields #[.none, .bool false, .ref s.heap.objs.size, rawInt 0, .none, .none] } }) :=
  .of_wp fun prog w A R s h => by
    obtain ⟨hp, g, d, tk, os⟩ := s; obtain ⟨ho, hL, h⟩ := h
    have hsub := sub_enumerate
    wp_walk
    refine wpAny_stack_any fun st => wpAny_pure ?_
    split
    · rename_i c _ _ _ _ _
      cases (c == Value.type "enumerate")
      · wp_walk using wpAny_pyIter_tuple hL
        exact ⟨_, rfl, h⟩
      · wp_walk using wpAny_pyIter_tuple hL
        exact ⟨_, rfl, h⟩
    · wp_walk using wpAny_pyIter_tuple hL
      exact ⟨_, rfl, h⟩
theorem call_enum_tup {prog : Program} {w : World} {A : Around} {E : Value → Shared → Prop} {s : Shared} {l : Addr} {items : Array Value} {Q : Value → Shared → Prop} (hL : s.heap.IsTuple l items)
    (h : ∀ h', IsEnum h' (s.heap.objs.size + 1) s.heap.objs.size 0 .none → h'.IsTupleIter s.heap.objs.size l 0 → h'.objs.size = s.heap.objs.size + 2 →
      (∀ b o, s.heap.get? b = some o → h'.get? b = some o) → Q (.ref (s.heap.objs.size + 1)) { s with heap := h' }) :
    wpAny (model prog w) A (call (.type "enumerate") [.ref l]) Q E s := by
  obtain ⟨o, ho, hc, n, hd⟩ := id hL
  refine callType_new F.called_enumerate (by decide) (F.typeCall_enumerate_1 _) (F.newCall_enumerate_1 _) (fun obj => F.args_object_init_2 obj _) F.entry_enumerate_new
    (meets_enum_tup l items o hc) ⟨ho, hL, ?_⟩
  have hz : (s.heap.push { cls := .type "tuple_iterator", data := .fields #[.ref l, .int 0 0] }).objs.size = s.heap.objs.size + 1 := Heap.size_push ..
  show _ ∧ _
  rw [hz]
  have he : IsEnum ((s.heap.push { cls := .type "tuple_iterator", data := .fields #[.ref l, .int 0 0] }).push
      { cls := .type "enumerate", data := .fields #[.none, .bool false, .ref s.heap.objs.size, rawInt 0, .none, .none] }) (s.heap.objs.size + 1) s.heap.objs.size 0 .none := by
    have := Heap.get?_push_size (s.heap.push { cls := .type "tuple_iterator", data := .fields #[.ref l, .int 0 0] })
      (o := { cls := .type "enumerate", data := .fields #[.none, .bool false, .ref s.heap.objs.size, rawInt 0, .none, .none] }) rfl
    rw [hz] at this; exact this
  refine ⟨⟨_, he, rfl⟩, h _ he ⟨_, Heap.get?_push_of_some _ (Heap.get?_push_size _ rfl), rfl, rfl⟩ (by rw [Heap.size_push, hz]) fun b o x => Heap.get?_push_of_some _ (Heap.get?_push_of_some _ x)⟩
end PySem
namespace VL
open PySem PySem.Spec PyProof.Rows L2
/-- the tuple at a, each item in a new pair -/
def IteT (K : PySem.W.Frag) (a : Addr) : It :=
  ⟨fun i H => ∃ (xs : List V) (x : V), SqT K H a xs ∧ xs[i]? = some x, fun i H v H' => ∃ T x, v = .ref T ∧ H T = none ∧ H' = upd H T (.tup [.int (i : Nat), x]) ∧ ∀ xs, SqT K H a xs → xs[i]? = some x, fun i H => ∃ xs : List V, SqT K H a xs ∧ xs.length = i⟩
theorem turn_enumT {P : Program} {w : World} {K : PySem.W.Frag} {elts : List Expr} {kk : Nat} {tpos : Pos} (a e it : Addr) (hai : a ≠ it) (hae : a ≠ e) :
    Turn P w K (.Tuple elts kk tpos) (IteT K a) [e, it] e (fun i h => (∃ old, IsEnum h e it ((i : Nat) : Int) old) ∧ h.IsTupleIter it a i ∧ e ≠ it) where
  mem := by simp
  obj := fun i h st b hb => by
    obtain ⟨⟨old, he⟩, ⟨o, ho, hc, hd⟩, _⟩ := st
    have e' : b = e ∨ b = it := by simpa using hb
    rcases e' with z | z
    · rw [z]; exact ⟨_, he, fun v q => nomatch q⟩
    · rw [z]; exact ⟨o, ho, fun v q => by rw [hd] at q; cases q⟩
  keep := fun i h h' st k => let ⟨⟨old, he⟩, hi, hne⟩ := st; ⟨⟨old, k e (by simp) _ he⟩, hi.at fun o q => k it (by simp) o q, hne⟩
  item := by
    intro X hP hw hK hc i pins s σ H E I hf st hg
    subst hP hw hK
    obtain ⟨⟨old, he⟩, hit, hne⟩ := st
    obtain ⟨xs, x, hq, hx⟩ := hg
    obtain ⟨its, rv, p, hz⟩ := I.tuple hq
    obtain ⟨u, hu, ru⟩ := rv.get hx
    have hel : e < s.heap.objs.size := Heap.lt_size he
    have hil : it < s.heap.objs.size := by obtain ⟨_, q, _⟩ := hit; exact Heap.lt_size q
    have hlt : i < its.toArray.size := by
      have := (List.getElem?_eq_some_iff.mp hu).1
      simpa using this
    refine wpAny_pyNext_enum_itemC (Draws.tuple (A := X.A.in1) (I.ok.hd hc) it a hai its.toArray) he ⟨hit, show s.heap.IsTuple a its.toArray from p⟩ hlt hne (by simp [hne, Ne.symm hae]) fun x' h' tk hP ho hst' hT hsz hk => ?_
    have ex : x' = u := by
      have hP' : its.toArray[i]? = some x' := hP
      simp at hP'
      rw [hu] at hP'; exact (Option.some.inj hP').symm
    subst ex
    refine ⟨_, rfl, wpAny_letOwnedTupleGo_enum (s := { s with heap := h', toks := tk + 1 }) ho fun h'' he' sb => ?_⟩
    have hT2 : h''.get? s.heap.objs.size = some { cls := .type "tuple", data := .seq #[.int i tk, x'] } := (sb.2 _ (Nat.ne_of_gt hel)).trans hT
    have new : ObjOk X.prog X.w (upd H s.heap.objs.size (.tup [.int (i : Nat), x])) h'' s.heap.objs.size (.tup [.int (i : Nat), x]) :=
      ⟨by show 2 ≤ sizeLine; decide, [.int i tk, x'], .cons ⟨_, rfl⟩ (.cons ru .nil), ⟨_, hT2, rfl, _, rfl⟩⟩
    have I1 : Inv X pins σ (upd H s.heap.objs.size (.tup [.int (i : Nat), x])) { s with heap := h'', toks := tk + 1 } :=
      I.turnedNew (ch := [e, it]) (fun b ob hb q => (sb.2 b (fun z => hb (by simp [z]))).trans (hk b ob (fun z => hb (by simp [z])) (fun z => hb (by simp [z])) q)) hf (Nat.le_refl _) new
    refine ⟨.ref s.heap.objs.size, _, I1, rfl, ⟨_, x, rfl, I.hok.fresh (Nat.le_refl _), rfl, fun ys hy => by rw [I.tuple_inj hy hq]; exact hx⟩, ⟨⟨x', ?_⟩, hst'.1.at fun o q => (sb.2 it (Ne.symm hne)).trans q, hne⟩, fun b hb => ?_⟩
    · have e1 : ((i + 1 : Nat) : Int) = (i : Int) + 1 := by omega
      rw [e1]; exact he'
    · have hb' : b < s.heap.objs.size := by
        have e' : b = e ∨ b = it := by simpa using hb
        rcases e' with z | z
        · rw [z]; exact hel
        · rw [z]; exact hil
      rw [upd_ne (Nat.ne_of_lt hb')]
      exact (hf b hb).1
  done := by
    intro X hP hw hK hc i pins s σ H E I hf st hg
    subst hP hw hK
    obtain ⟨⟨old, he⟩, hit, hne⟩ := st
    obtain ⟨xs, hq, hx⟩ := hg
    obtain ⟨its, rv, p, hz⟩ := I.tuple hq
    obtain ⟨f0, f1, f2, f3, f4, f5⟩ := hf it (by simp)
    have hl := rv.length
    have ei : its.toArray.size = i := by rw [List.size_toArray]; omega
    subst ei
    exact wpAny_pyNext_enum_endD (Draws.tuple (A := X.A.in1) (I.ok.hd hc) it a hai its.toArray) he ⟨hit, show s.heap.IsTuple a its.toArray from p⟩ fun h' eb => ⟨rfl, I.turned (t' := s.toks) (fun b o hb q => eb b o hb q) f0 f1 f3 f4 f5⟩
  self := fun A i s Q E st h => let ⟨⟨_, he⟩, _⟩ := st; wpAny_pyIter_enum he h

def iEnumT (K : PySem.W.Frag) (ta : TA) : TI := fun σ H R => ta σ H fun vs H1 => ∃ a xs, vs = [.ref a] ∧ ((SqL K H1 a xs ∧ R (Ite K a) H1) ∨ (SqT K H1 a xs ∧ R (IteT K a) H1))
theorem pi_enumA {X : Cx} {e : Expr} {ta : TA} {p pos tpos : Pos} {elts : List Expr} {kk : Nat} (hg : Gl X "enumerate") (hm : X.mg "enumerate" = none) (ha : PA X [e] ta) (hs : starEach [e] X.env = [(false, eval e X.env)] := by rfl) :
    PI X (.Tuple elts kk tpos) (.Call (.Name "enumerate" p) [e] [] pos) (iEnumT X.K ta) := by
  refine ⟨fun pins s σ H R I h => ?_⟩
  refine Call_ (ld_blt I hg hm boot_enumerate (PyProof.Rows.callWith_type1 (thn (ha.run pos pins s σ H _ I h) fun us s1 ⟨vs, H1, I1, r1, q1⟩ => ?_) hs rfl))
  obtain ⟨a, xs, ex, q⟩ := q1
  subst ex
  cases r1 with
  | cons r rr =>
    cases rr
    cases r
    have fp : ∀ b ∈ [s1.heap.objs.size + 1, s1.heap.objs.size], FpOk X pins H1 b := fun b hb => by
      have e' : b = s1.heap.objs.size + 1 ∨ b = s1.heap.objs.size := by simpa using hb
      have hle : s1.heap.objs.size ≤ b := by
        rcases e' with z | z
        · rw [z]; exact Nat.le_add_right _ _
        · rw [z]; exact Nat.le_refl _
      exact I1.fpOk hle (I1.hok.fresh hle)
    rcases q with ⟨hq, q⟩ | ⟨hq, q⟩
    · obtain ⟨its, rv, p', hz⟩ := I1.list hq
      refine call_enumerate_list p'.isList fun h' he hit hsz hk => wpAny_pyIter_enum he ?_
      exact ⟨s1.heap.objs.size + 1, [s1.heap.objs.size + 1, s1.heap.objs.size], _, _, H1, rfl, I1.kept (t' := s1.toks) hk, turn_enum a (s1.heap.objs.size + 1) s1.heap.objs.size, ⟨⟨.none, he⟩, hit, Nat.succ_ne_self _⟩, fp, q⟩
    · obtain ⟨its, rv, p', hz⟩ := I1.tuple hq
      have hlt := p'.lt
      refine call_enum_tup (show s1.heap.IsTuple a its.toArray from p') fun h' he hit hsz hk => wpAny_pyIter_enum he ?_
      exact ⟨s1.heap.objs.size + 1, [s1.heap.objs.size + 1, s1.heap.objs.size], _, _, H1, rfl, I1.kept (t' := s1.toks) hk, turn_enumT a (s1.heap.objs.size + 1) s1.heap.objs.size (Nat.ne_of_lt hlt) (Nat.ne_of_lt (Nat.lt_succ_of_lt hlt)), ⟨⟨.none, he⟩, hit, Nat.succ_ne_self _⟩, fp, q⟩
end VL
/-! Eng13: what is walked. -/
namespace VL
open PySem PySem.Spec PyProof.Rows L2
section
variable {X : Cx} {tg e e2 : Expr} {pos p tpos : Pos} {elts : List Expr} {kk : Nat}
theorem iter_list {pins : List (Addr × Obj)} {σ : L2.St} {H : Hp} {s : Shared} {a : Addr} {xs : List V} {R : It → Hp → Prop} (I : Inv X pins σ H s) (hq : SqL X.K H a xs) (q : R (Itl X.K a) H) : wpAny (model X.prog X.w) X.A (pyIter (.ref a)) (PIE X pins σ tg R) X.xe s := by
  obtain ⟨its, rv, p, hz⟩ := I.list hq
  refine wpAny_pyIter_list p.isList ?_
  refine ⟨s.heap.objs.size, [s.heap.objs.size], _, _, H, rfl, I.kept (t' := s.toks) fun b o e => Heap.get?_push_of_some _ e, turn_list a _, ⟨_, Heap.get?_push_size _ rfl, rfl, rfl⟩, fun b hb => ?_, q⟩
  have e : b = s.heap.objs.size := by simpa using hb
  subst e
  exact I.fpOk (Nat.le_refl _) (I.hok.fresh (Nat.le_refl _))
theorem iter_tup {pins : List (Addr × Obj)} {σ : L2.St} {H : Hp} {s : Shared} {a : Addr} {xs : List V} {R : It → Hp → Prop} (I : Inv X pins σ H s) (hq : SqT X.K H a xs) (q : R (Itt X.K a) H) : wpAny (model X.prog X.w) X.A (pyIter (.ref a)) (PIE X pins σ tg R) X.xe s := by
  obtain ⟨its, rv, p, hz⟩ := I.tuple hq
  refine wpAny_pyIter_tuple (show s.heap.IsTuple a its.toArray from p) ?_
  refine ⟨s.heap.objs.size, [s.heap.objs.size], _, _, H, rfl, I.kept (t' := s.toks) fun b o e => Heap.get?_push_of_some _ e, turn_tuple a _, ⟨_, Heap.get?_push_size _ rfl, rfl, rfl⟩, fun b hb => ?_, q⟩
  have e : b = s.heap.objs.size := by simpa using hb
  subst e
  exact I.fpOk (Nat.le_refl _) (I.hok.fresh (Nat.le_refl _))
/-- the items of what can be walked -/
def itD (d : D) : Option (List D) := match d with
  | .p (.tup xs) => some (xs.map D.p)
  | .l xs => some (xs.map D.p)
  | .ll ds => some ds
  | .t ds => some ds
  | .s ns => some (ns.map fun n => .p (.int n))
  | _ => none
theorem Owns.at' {K : PySem.W.Frag} {H : Hp} {ds : List D} {vs : List V} {B : List Addr} (o : Owns K H ds vs B) {k : Nat} {d : D} (h : ds[k]? = some d) : ∃ v C, vs[k]? = some v ∧ Own K H d v C ∧ ∀ a ∈ C, a ∈ B := by
  obtain ⟨v, C, h1, h2, h3⟩ := o.get h
  exact ⟨v, C, h1, h2, h3⟩
/-- a list or a tuple: it stands, and stands on -/
theorem itD_own {K : PySem.W.Frag} {H : Hp} {d : D} {v : V} {B : List Addr} {items : List D} (o : Own K H d v B) (h : itD d = some items) : ∃ a vs, v = .ref a ∧ ((∀ H', Ext H H' → Kept H H' B → SqL K H' a vs) ∨ SqT K H a vs) ∧ vs.length = items.length ∧
    ∀ H', Ext H H' → Kept H H' B → ∀ (k : Nat) d, items[k]? = some d → ∃ v C, vs[k]? = some v ∧ Own K H' d v C ∧ ∀ x ∈ C, x ∈ B := by
  have pure : ∀ {xs : List P} {vs : List V}, RepPs K H xs vs → ∀ H', Ext H H' → ∀ (k : Nat) d, (xs.map D.p)[k]? = some d → ∃ v C, vs[k]? = some v ∧ Own K H' d v C ∧ ∀ x ∈ C, x ∈ B := fun {xs vs} r H' e k d h => by
    rw [List.getElem?_map] at h
    cases q : xs[k]? with
    | none => rw [q] at h; cases h
    | some x =>
      rw [q] at h
      cases h
      obtain ⟨v, e1, r1⟩ := r.get q
      exact ⟨v, [], e1, own_p (r1.ext e), by simp⟩
  unfold itD at h
  split at h
  · cases h
    obtain ⟨rfl, a, vs, rfl, h1, h2⟩ := o
    exact ⟨a, vs, rfl, .inr h1, by rw [h2.length, List.length_map], fun H' e k => pure h2 H' e⟩
  · cases h
    obtain ⟨a, vs, rfl, rfl, h1, h2⟩ := o
    exact ⟨a, vs, rfl, .inl fun H' e k => SqL.of (k a (by simp) _ h1), by rw [h2.length, List.length_map], fun H' e k => pure h2 H' e⟩
  · cases h
    obtain ⟨a, vs, C, rfl, rfl, hn, h1, h2⟩ := o
    refine ⟨a, vs, rfl, .inl fun H' e k => SqL.of (k a (by simp) _ h1), h2.length, fun H' e k i d hd => ?_⟩
    obtain ⟨u, C', g1, g2, g3⟩ := (h2.kept e fun x hx => k x (List.mem_cons_of_mem _ hx)).get hd
    exact ⟨u, C', g1, g2, fun x hx => List.mem_cons_of_mem _ (g3 x hx)⟩
  · cases h
    obtain ⟨a, vs, rfl, h1, h2⟩ := o
    refine ⟨a, vs, rfl, .inr h1, h2.length, fun H' e k i d hd => ?_⟩
    exact (h2.kept e k).get hd
  · cases h
    rename_i ns
    obtain ⟨a, rfl, hs⟩ := o
    refine ⟨a, ns.map V.int, rfl, .inl fun H' e k => ?_, by rw [List.length_map, List.length_map], fun H' e k i d hd => ?_⟩
    · rcases hs with ⟨rfl, h | ⟨o, h⟩⟩ | ⟨rfl, h⟩
      · exact SqL.of (k a (by simp) _ h)
      · exact .inl (.inr ⟨o, k a (by simp) _ h⟩)
      · exact .inr h
    · rw [List.getElem?_map] at hd
      cases q : ns[i]? with
      | none => rw [q] at hd; cases hd
      | some x =>
        rw [q] at hd
        cases hd
        exact ⟨.int x, [], by rw [List.getElem?_map, q]; rfl, own_p rfl, by simp⟩
  · cases h
/-- a reference that is walked: its items, the slot that is locked, the tag -/
def itR (r : Rf) (en : En) (q : Sr → Prop) : Prop := match r with
  | .v d => match itD d with
    | some xs => q ⟨xs, none, 0⟩
    | none => False
  | .n j => match en[j]? with
    | some (.o d) => match itD d with
      | some xs => q ⟨xs, some (j, .o d), j + 1⟩
      | none => False
    | some (.b d) => match itD d with
      | some xs => q ⟨xs, some (j, .b d), j + 1⟩
      | none => False
    | some (.r g d) => match itD d with
      | some xs => q ⟨xs, none, g⟩
      | none => False
    | some (.k d) => match itD d with
      | some xs => q ⟨xs, none, j + 1⟩
      | none => False
    | _ => False
/-- where the items stand -/
structure ItA (K : PySem.W.Frag) (H : Hp) (en : En) (F : Ft) (sr : Sr) (v : V) (B : List Addr) : Prop where
  lkd : Lkd en sr.lk F B sr.tg
  at_ : ∀ a ∈ B, ∃ o, H a = some o
  inU : ∀ a ∈ B, True
  seq : ∃ a vs, v = .ref a ∧ ((∀ H', Ext H H' → Kept H H' B → SqL K H' a vs) ∨ SqT K H a vs) ∧ vs.length = sr.items.length ∧
    ∀ H', Ext H H' → Kept H H' B → ∀ (k : Nat) d, sr.items[k]? = some d → ∃ v C, vs[k]? = some v ∧ Own K H' d v C ∧ ∀ x ∈ C, x ∈ B
theorem itR_of {K : PySem.W.Frag} {H : Hp} {en : En} {σ : L2.St} {F : Ft} {r : Rf} {v : V} {B0 : List Addr} {q : Sr → Prop} (s : S K H en σ F) (o : RfO K H σ r v B0) (off : ∀ a ∈ B0, ¬ Us en F a) (h : itR r en q) :
    ∃ sr B, ItA K H en F sr v B ∧ (∀ a ∈ B, Us en F a ∨ a ∈ B0) ∧ q sr := by
  have at' : ∀ {d : D} {v : V} {B : List Addr}, Own K H d v B → ∀ a ∈ B, ∃ o, H a = some o := fun o a ha => let ⟨ob, e, _⟩ := o.at a ha; ⟨ob, e⟩
  cases r with
  | v d =>
    have h : (match itD d with | some xs => q ⟨xs, none, 0⟩ | none => False) := h
    split at h
    · rename_i xs e
      have o : Own K H d v B0 := o
      exact ⟨_, B0, ⟨⟨fun j sl z => (by cases z), fun _ => ⟨fun a ha z => off a ha z.us, fun j sl h1 h2 _ a ha hb => (by obtain ⟨dd, hd⟩ := sl.ow_dat h2; exact off a hb ⟨j, sl, dd, h1, hd, ha⟩), fun j sl _ z => by simp at z⟩⟩, at' o, fun _ _ => trivial, itD_own o e⟩, fun a ha => .inr ha, h⟩
    · exact h.elim
  | n j =>
    obtain ⟨rfl, ev⟩ := o
    have key : ∀ {sl : Sl} {d : D}, en[j]? = some sl → sl.dat = some d → Own K H d v (F j) := fun {sl d} h1 h2 => by
      obtain ⟨u, e1, o⟩ := s.own j sl d h1 h2
      rw [ev] at e1; cases e1; exact o
    unfold itR at h
    dsimp only at h
    split at h
    · rename_i d ej
      split at h
      · rename_i xs e
        have o := key ej rfl
        exact ⟨_, F j, ⟨⟨fun j' sl z => by cases z; exact ⟨ej, rfl, rfl, rfl⟩, fun z => by cases z⟩, at' o, fun _ _ => trivial, itD_own o e⟩, fun a ha => .inl ⟨j, _, d, ej, rfl, ha⟩, h⟩
      · exact h.elim
    · rename_i d ej
      split at h
      · rename_i xs e
        have o := key ej rfl
        exact ⟨_, F j, ⟨⟨fun j' sl z => by cases z; exact ⟨ej, rfl, rfl, rfl⟩, fun z => by cases z⟩, at' o, fun _ _ => trivial, itD_own o e⟩, fun a ha => .inl ⟨j, _, d, ej, rfl, ha⟩, h⟩
      · exact h.elim
    · rename_i g d ej
      split at h
      · rename_i xs e
        have o := key ej rfl
        refine ⟨_, F j, ⟨⟨fun j' sl z => (by cases z), fun _ => ⟨fun a ha ⟨i, sl, g1, g2, g3⟩ => ?_, fun i sl g1 g2 g3 a ha hb => ?_, fun i sl g1 g2 => ?_⟩⟩, at' o, fun _ _ => trivial, itD_own o e⟩, fun a ha => .inl ⟨j, _, d, ej, rfl, ha⟩, h⟩
        · have hij : i ≠ j := fun z => by subst z; rw [ej] at g1; cases g1; cases g2
          exact s.dis' g1 ej g2 rfl hij a g3 ha
        · have hij : i ≠ j := fun z => by subst z; rw [ej] at g1; cases g1; cases g2
          exact s.dis i j sl _ d g1 ej g2 rfl g3 hij a ha hb
        · exact s.tag i j sl _ g1 ej g2
      · exact h.elim
    · rename_i d ej
      split at h
      · rename_i xs e
        have o := key ej rfl
        refine ⟨_, F j, ⟨⟨fun j' sl z => (by cases z), fun _ => ⟨fun a ha ⟨i, sl, g1, g2, g3⟩ => ?_, fun i sl g1 g2 g3 a ha hb => ?_, fun i sl g1 g2 => ?_⟩⟩, at' o, fun _ _ => trivial, itD_own o e⟩, fun a ha => .inl ⟨j, _, d, ej, rfl, ha⟩, h⟩
        · have hij : i ≠ j := fun z => by subst z; rw [ej] at g1; cases g1; cases g2
          exact s.dis' g1 ej g2 rfl hij a g3 ha
        · have hij : i ≠ j := fun z => by subst z; simp at g3
          exact s.dis i j sl _ d g1 ej g2 rfl rfl hij a ha hb
        · have : i = j := by simp at g2; omega
          subst this
          rw [ej] at g1; cases g1; rfl
      · exact h.elim
    · exact h.elim
/-! a list, a tuple -/
def tIt (t : VR) : VI := fun en Q => t en fun r en1 => itR r en1 fun sr => Q sr en1
theorem drives_l {K : PySem.W.Frag} {H : Hp} {a : Addr} {vs : List V} {items : List D} {B : List Addr} (h : ∀ H', Ext H H' → Kept H H' B → SqL K H' a vs) (hl : vs.length = items.length) (hi : ∀ H', Ext H H' → Kept H H' B → ∀ (k : Nat) d, items[k]? = some d → ∃ v C, vs[k]? = some v ∧ Own K H' d v C ∧ ∀ x ∈ C, x ∈ B) : Drives K (Itl K a) items B H := by
  intro H2 e k
  refine ⟨fun i d hd => ?_, vs, h H2 e k, by omega⟩
  obtain ⟨v, C, g1, g2, g3⟩ := hi H2 e k i d hd
  refine ⟨⟨vs, v, h H2 e k, g1⟩, fun x H3 ⟨e3, y⟩ => ?_⟩
  subst e3
  have := y vs (h H3 e k)
  rw [g1] at this; cases this
  exact ⟨Grow.refl _, C, g2, g3⟩
theorem drives_t {K : PySem.W.Frag} {H : Hp} {a : Addr} {vs : List V} {items : List D} {B : List Addr} (h : SqT K H a vs) (hl : vs.length = items.length) (hi : ∀ H', Ext H H' → Kept H H' B → ∀ (k : Nat) d, items[k]? = some d → ∃ v C, vs[k]? = some v ∧ Own K H' d v C ∧ ∀ x ∈ C, x ∈ B) : Drives K (Itt K a) items B H := by
  intro H2 e k
  refine ⟨fun i d hd => ?_, vs, e.sqT h, by omega⟩
  obtain ⟨v, C, g1, g2, g3⟩ := hi H2 e k i d hd
  refine ⟨⟨vs, v, e.sqT h, g1⟩, fun x H3 ⟨e3, y⟩ => ?_⟩
  subst e3
  have := y vs (e.sqT h)
  rw [g1] at this; cases this
  exact ⟨Grow.refl _, C, g2, g3⟩
theorem frB {H H' : Hp} {en en1 : En} {F F1 : Ft} {B0 B : List Addr} (fr : Fr H (Wr en F) (Us en F) H' (fun a => Wr en1 F1 a ∨ a ∈ B0) (fun a => Us en1 F1 a ∨ a ∈ B0)) (hB : ∀ a ∈ B, Us en1 F1 a ∨ a ∈ B0) : Fr H (Wr en F) (Us en F) H' (Wr en1 F1) (fun a => Us en1 F1 a ∨ a ∈ B) :=
  ⟨fr.keep, fun b h => fr.wr b (.inl h), fun b h => h.elim (fun z => fr.us b (.inl z)) fun z => fr.us b (hB b z)⟩
theorem q_it {t : VR} (ha : QR X e t) : QI X tg e (tIt t) := by
  refine ⟨fun σ H en F Q s q pins sh I => ?_⟩
  refine thn (ha.run σ H en F _ s q pins sh I) fun u s1 ⟨v, H1, I1, rv, r, en1, F1, B0, s1', o, off, fr, kp, q⟩ => ?_
  obtain ⟨sr, B, ia, hB, q⟩ := itR_of s1' o off q
  obtain ⟨a, vs, rfl, hs, hl, hi⟩ := ia.seq
  obtain rfl : u = Value.ref a := rv
  rcases hs with hs | hs
  · exact iter_list I1 (hs H1 (Ext.refl _) fun _ _ _ h => h) ⟨sr, en1, F1, B, s1', ia.lkd, ia.at_, drives_l hs hl hi, frB fr hB, kp, q⟩
  · exact iter_tup I1 hs ⟨sr, en1, F1, B, s1', ia.lkd, ia.at_, drives_t hs hl hi, frB fr hB, kp, q⟩
/-! ranges -/
def rgD (lo hi : Int) : List D := (List.range (hi - lo).toNat).map fun i => .p (.int (lo + (i : Nat)))
def rgB (i : Int) : Prop := -(2 ^ 62) ≤ i ∧ i < 2 ^ 62
def tRg1 (t : VT) : VI := fun en Q => t en fun d en1 => asI d fun n => rgB n ∧ Q ⟨rgD 0 n, none, 0⟩ en1
theorem lkd0 {en : En} {F : Ft} : Lkd en none F [] 0 := ⟨fun j sl z => (by cases z), fun _ => ⟨by simp, fun _ _ _ _ _ _ _ hb => by simp at hb, fun j sl _ z => by simp at z⟩⟩
theorem drives_r {K : PySem.W.Frag} {H : Hp} {lo : Int} {n : Nat} : Drives K (Itr lo n) ((List.range n).map fun i => .p (.int (lo + (i : Nat)))) [] H := by
  intro H2 e k
  refine ⟨fun i d hd => ?_, by show n ≤ _; simp⟩
  rw [List.getElem?_map] at hd
  by_cases hi : i < n
  · rw [List.getElem?_range hi] at hd
    cases hd
    refine ⟨hi, fun x H3 ⟨e3, ex⟩ => ?_⟩
    subst e3 ex
    exact ⟨Grow.refl _, [], own_p rfl, by simp⟩
  · rw [List.getElem?_eq_none (by simpa using hi)] at hd; cases hd
theorem frN {H H' : Hp} {en en1 : En} {F F1 : Ft} {B0 : List Addr} (fr : Fr H (Wr en F) (Us en F) H' (fun a => Wr en1 F1 a ∨ a ∈ B0) (fun a => Us en1 F1 a ∨ a ∈ B0)) : Fr H (Wr en F) (Us en F) H' (Wr en1 F1) (fun a => Us en1 F1 a ∨ a ∈ ([] : List Addr)) := frB fr (by simp)
theorem q_rg1 {t : VT} (hg : Gl X "range") (hm : X.mg "range" = none) (ha : QE X e t) (hs : starEach [e] X.env = [(false, eval e X.env)] := by rfl) (hs2 : starEach (e :: []) X.env = (false, eval e X.env) :: starEach [] X.env := by rfl) : QI X tg (.Call (.Name "range" p) [e] [] pos) (tRg1 t) := by
  refine ⟨fun σ H en F Q s q => wpI.of (pi_range1 hg hm (pa_cons (pe_wp X e) pa_nil hs2) hs) ?_⟩
  refine (ha.run σ H en F _ s q).mono fun v H1 ⟨d, en1, F1, B, s1, o, off, fr, kp, q⟩ => ?_
  obtain ⟨n, rfl, hb, q⟩ := asI_of o q
  refine ⟨n, rfl, hb.1, hb.2, ⟨rgD 0 n, none, 0⟩, en1, F1, [], s1, lkd0, by simp, ?_, frN fr, kp, q⟩
  have := drives_r (K := X.K) (H := H1) (lo := 0) (n := n.toNat)
  unfold rgD
  rw [Int.sub_zero]
  exact this
def tRg2 (t u : VT) : VI := fun en Q => t en fun d1 en1 => u en1 fun d2 en2 => asI d1 fun lo => asI d2 fun hi => (rgB lo ∧ rgB hi) ∧ Q ⟨rgD lo hi, none, 0⟩ en2
theorem q_rg2 {t u : VT} (hg : Gl X "range") (hm : X.mg "range" = none) (ha : QE X e t) (hb : QE X e2 u) (hs : starEach [e, e2] X.env = [(false, eval e X.env), (false, eval e2 X.env)] := by rfl) (hs2 : starEach [e2] X.env = [(false, eval e2 X.env)] := by rfl)
    (hs3 : starEach (e :: [e2]) X.env = (false, eval e X.env) :: starEach [e2] X.env := by rfl) (hs4 : starEach (e2 :: []) X.env = (false, eval e2 X.env) :: starEach [] X.env := by rfl) : QI X tg (.Call (.Name "range" p) [e, e2] [] pos) (tRg2 t u) := by
  refine ⟨fun σ H en F Q s q => wpI.of (pi_range2 hg hm (pa_cons (pe_wp X e) (pa_cons (pe_wp X e2) pa_nil hs4) hs3) hs hs2) ?_⟩
  refine (ha.run σ H en F _ s q).mono fun v H1 ⟨d, en1, F1, B, s1, o, off, fr, kp, q⟩ => ?_
  refine (hb.run σ H1 en1 F1 _ s1 q).mono fun v2 H2 ⟨d2, en2, F2, B2, s2, o2, off2, fr2, kp2, q⟩ => ?_
  obtain ⟨o', _, _⟩ := fr2.temp s1 o off
  obtain ⟨lo, rfl, q⟩ := asI_of o' q
  obtain ⟨hi, rfl, hbd, q⟩ := asI_of o2 q
  refine ⟨lo, hi, rfl, ⟨hbd.1.1, hbd.1.2, hbd.2.1, hbd.2.2⟩, ⟨rgD lo hi, none, 0⟩, en2, F2, [], s2, lkd0, by simp, drives_r, ?_, kp.trans kp2, q⟩
  exact frN (B0 := B2) (fr.trans fr2 (fun _ => Wr.us) (fun _ h => .inl h) (fun _ h => .inl h) (fun _ h => .inl h) (fun _ h => .inl h))
/-- range(i, j, c) -/
def tRg3 (t u w : VT) : VI := fun en Q => t en fun d1 en1 => u en1 fun d2 en2 => w en2 fun d3 en3 => asI d1 fun i => asI d2 fun j => asI d3 fun c => ∃ n, RgC i j c n ∧ Q ⟨(List.range n).map fun k => .p (.int (i + (k : Nat) * c)), none, 0⟩ en3
theorem drives_c {K : PySem.W.Frag} {H : Hp} {lo c : Int} {n : Nat} : Drives K (Itc lo c n) ((List.range n).map fun i => .p (.int (lo + (i : Nat) * c))) [] H := by
  intro H2 e k
  refine ⟨fun i d hd => ?_, by show n ≤ _; simp⟩
  rw [List.getElem?_map] at hd
  by_cases hi : i < n
  · rw [List.getElem?_range hi] at hd
    cases hd
    refine ⟨hi, fun x H3 ⟨e3, ex⟩ => ?_⟩
    subst e3 ex
    exact ⟨Grow.refl _, [], own_p rfl, by simp⟩
  · rw [List.getElem?_eq_none (by simpa using hi)] at hd; cases hd
theorem q_rg3 {e3 : Expr} {t u w : VT} (hg : Gl X "range") (hm : X.mg "range" = none) (ha : QE X e t) (hb : QE X e2 u) (hc : QE X e3 w)
    (hs3 : starEach (e :: [e2, e3]) X.env = (false, eval e X.env) :: starEach [e2, e3] X.env := by rfl) (hs4 : starEach (e2 :: [e3]) X.env = (false, eval e2 X.env) :: starEach [e3] X.env := by rfl) (hs5 : starEach (e3 :: []) X.env = (false, eval e3 X.env) :: starEach [] X.env := by rfl)
    (hpi : PI X tg (.Call (.Name "range" p) [e, e2, e3] [] pos) (iRng3 (tCons (wpE X e) (tCons (wpE X e2) (tCons (wpE X e3) tNil))))) : QI X tg (.Call (.Name "range" p) [e, e2, e3] [] pos) (tRg3 t u w) := by
  refine ⟨fun σ H en F Q s q => wpI.of hpi ?_⟩
  refine (ha.run σ H en F _ s q).mono fun v H1 ⟨d, en1, F1, B, s1, o, off, fr, kp, q⟩ => ?_
  refine (hb.run σ H1 en1 F1 _ s1 q).mono fun v2 H2 ⟨d2, en2, F2, B2, s2, o2, off2, fr2, kp2, q⟩ => ?_
  refine (hc.run σ H2 en2 F2 _ s2 q).mono fun v3 H3 ⟨d3, en3, F3, B3, s3, o3, off3, fr3, kp3, q⟩ => ?_
  have f12 := fr.trans (W3 := Wr en2 F2) (U3 := Us en2 F2) fr2 (fun _ => Wr.us) (fun _ h => .inl h) (fun _ h => .inl h) (fun _ h => .inl (.inl h)) (fun _ h => .inl (.inl h))
  have f123 := f12.trans fr3 (W3 := fun a => Wr en3 F3 a ∨ a ∈ B3) (U3 := fun a => Us en3 F3 a ∨ a ∈ B3) (fun _ => Wr.us) (fun _ h => h) (fun _ h => h) (fun _ h => .inl h) (fun _ h => .inl h)
  have f23 := fr2.trans (W3 := fun a => Wr en3 F3 a ∨ a ∈ B3) (U3 := fun a => Us en3 F3 a ∨ a ∈ B3) fr3 (fun _ => Wr.us) (fun _ h => .inl h) (fun _ h => .inl h) (fun _ h => .inl h) (fun _ h => .inl h)
  obtain ⟨o', _, _⟩ := f23.temp s1 o off
  obtain ⟨o2', _, _⟩ := fr3.temp s2 o2 off2
  obtain ⟨i, rfl, q⟩ := asI_of o' q
  obtain ⟨j, rfl, q⟩ := asI_of o2' q
  obtain ⟨c, rfl, n, hbd, q⟩ := asI_of o3 q
  exact ⟨i, j, c, n, rfl, hbd, _, en3, F3, [], s3, lkd0, by simp, drives_c, frN f123, kp.trans (kp2.trans kp3), q⟩
/-! enumerate -/
def enD : Nat → List D → List D
  | _, [] => []
  | i, d :: ds => mkT [.p (.int i), d] :: enD (i + 1) ds
theorem enD_get : ∀ (ds : List D) (n i : Nat), (enD n ds)[i]? = (ds[i]?).map fun d => mkT [.p (.int (n + i : Nat)), d]
  | [], n, i => by simp [enD]
  | d :: ds, n, 0 => by simp [enD]
  | d :: ds, n, i + 1 => by
    have := enD_get ds (n + 1) i
    simp only [enD, List.getElem?_cons_succ, this]
    rw [show n + 1 + i = n + (i + 1) by omega]
theorem enD_len : ∀ (ds : List D) (n : Nat), (enD n ds).length = ds.length
  | [], _ => rfl
  | d :: ds, n => by simp [enD, enD_len ds]
def enSr (sr : Sr) : Sr := ⟨enD 0 sr.items, sr.lk, sr.tg⟩
def tEn (t : VR) : VI := fun en Q => t en fun r en1 => itR r en1 fun sr => Q (enSr sr) en1
theorem pair_own {K : PySem.W.Frag} {H2 : Hp} {T : Addr} {i : Nat} {v : V} {d : D} {C : List Addr} (hT : H2 T = none) (o : Own K H2 d v C) : Grow H2 (upd H2 T (.tup [.int (i : Nat), v])) ∧ Own K (upd H2 T (.tup [.int (i : Nat), v])) (mkT [.p (.int (i : Nat)), d]) (.ref T) C := by
  have g : Grow H2 (upd H2 T (.tup [.int (i : Nat), v])) := Grow.upd hT
  refine ⟨g, mkT_own ?_ upd_same⟩
  exact ⟨_, _, [], C, rfl, rfl, by simp, own_p rfl, _, [], C, [], rfl, by simp, by simp, o.kept g.ext fun a _ ob z => g a ob z, rfl, rfl⟩
theorem q_en {t : VR} (hg : Gl X "enumerate") (hm : X.mg "enumerate" = none) (ha : QR X e t) (hs : starEach [e] X.env = [(false, eval e X.env)] := by rfl) (hs2 : starEach (e :: []) X.env = (false, eval e X.env) :: starEach [] X.env := by rfl) :
    QI X (.Tuple elts kk tpos) (.Call (.Name "enumerate" p) [e] [] pos) (tEn t) := by
  refine ⟨fun σ H en F Q s q => wpI.of (pi_enumA hg hm (pa_cons (pe_wp X e) pa_nil hs2) hs) ?_⟩
  refine (ha.run σ H en F _ s q).mono fun v H1 ⟨r, en1, F1, B0, s1, o, off, fr, kp, q⟩ => ?_
  obtain ⟨sr, B, ia, hB, q⟩ := itR_of s1 o off q
  obtain ⟨a, vs, rfl, hs, hl, hi⟩ := ia.seq
  refine ⟨a, vs, rfl, ?_⟩
  rcases hs with hs | hs
  · refine .inl ⟨hs H1 (Ext.refl _) fun _ _ _ h => h, enSr sr, en1, F1, B, s1, ia.lkd, ia.at_, fun H2 e2 k2 => ⟨fun i d hd => ?_, ?_⟩, frB fr hB, kp, q⟩
    · show _ ∧ _
      have hd : (enD 0 sr.items)[i]? = some d := hd
      rw [enD_get] at hd
      cases q : sr.items[i]? with
      | none => rw [q] at hd; cases hd
      | some d0 =>
        rw [q] at hd
        simp only [Option.map_some, Option.some.injEq, Nat.zero_add] at hd
        obtain ⟨u, C, g1, g2, g3⟩ := hi H2 e2 k2 i d0 q
        refine ⟨⟨vs, u, hs H2 e2 k2, g1⟩, fun x H3 ⟨T, y, e4, hT, e5, f⟩ => ?_⟩
        have := f vs (hs H2 e2 k2)
        rw [g1] at this; cases this
        subst e4 e5 hd
        obtain ⟨gr, ow⟩ := pair_own (i := i) hT g2
        exact ⟨gr, C, ow, g3⟩
    · refine ⟨vs, hs H2 e2 k2, ?_⟩
      show vs.length ≤ (enD 0 sr.items).length
      rw [enD_len, hl]; exact Nat.le_refl _
  · refine .inr ⟨hs, enSr sr, en1, F1, B, s1, ia.lkd, ia.at_, fun H2 e2 k2 => ⟨fun i d hd => ?_, ?_⟩, frB fr hB, kp, q⟩
    · show _ ∧ _
      have hd : (enD 0 sr.items)[i]? = some d := hd
      rw [enD_get] at hd
      cases q : sr.items[i]? with
      | none => rw [q] at hd; cases hd
      | some d0 =>
        rw [q] at hd
        simp only [Option.map_some, Option.some.injEq, Nat.zero_add] at hd
        obtain ⟨u, C, g1, g2, g3⟩ := hi H2 e2 k2 i d0 q
        refine ⟨⟨vs, u, e2.sqT hs, g1⟩, fun x H3 ⟨T, y, e4, hT, e5, f⟩ => ?_⟩
        have := f vs (e2.sqT hs)
        rw [g1] at this; cases this
        subst e4 e5 hd
        obtain ⟨gr, ow⟩ := pair_own (i := i) hT g2
        exact ⟨gr, C, ow, g3⟩
    · refine ⟨vs, e2.sqT hs, ?_⟩
      show vs.length = (enD 0 sr.items).length
      rw [enD_len, hl]
end
end VL
/-! Eng14: list comprehensions. -/
namespace VL
open PySem PySem.Spec PyProof.Rows L2
/-- the slots of a comprehension's own names emptied, and given back -/
def wipeE (own : List Nat) (e : En) : En := match own with
  | [] => e
  | i :: r => (wipeE r e).set i .e
def rstE (own : List Nat) (e0 e : En) : En := match own with
  | [] => e
  | i :: r => (rstE r e0 e).set i (e0[i]?.getD .e)
def stOk (own : List Nat) (e : En) : Prop := match own with
  | [] => True
  | i :: r => (match e[i]? with
    | some .e => True
    | some (.o (.p _)) => True
    | _ => False) ∧ stOk r e
theorem stOk_of {e : En} : ∀ {own : List Nat}, stOk own e → ∀ i ∈ own, ∃ sl, e[i]? = some sl ∧ (sl = .e ∨ ∃ x, sl = .o (.p x))
  | j :: r, h, i, hi => by
    unfold stOk at h
    rcases List.mem_cons.mp hi with rfl | hi
    · have h := h.1
      split at h
      · rename_i q; exact ⟨_, q, .inl rfl⟩
      · rename_i x q; exact ⟨_, q, .inr ⟨x, rfl⟩⟩
      · exact h.elim
    · exact stOk_of h.2 i hi
theorem wipeE_len (e : En) : ∀ own : List Nat, (wipeE own e).length = e.length
  | [] => rfl
  | i :: r => by unfold wipeE; rw [List.length_set, wipeE_len e r]
theorem rstE_len (e0 e : En) : ∀ own : List Nat, (rstE own e0 e).length = e.length
  | [] => rfl
  | i :: r => by unfold rstE; rw [List.length_set, rstE_len e0 e r]
theorem wipeE_get {e : En} {j : Nat} {s : Sl} : ∀ {own : List Nat}, (wipeE own e)[j]? = some s → (j ∈ own ∧ s = .e) ∨ (j ∉ own ∧ e[j]? = some s)
  | [], h => .inr ⟨by simp, h⟩
  | i :: r, h => by
    unfold wipeE at h
    by_cases hj : i = j
    · subst hj
      have hl := (List.getElem?_eq_some_iff.mp h).1
      rw [List.length_set] at hl
      rw [List.getElem?_set_self hl] at h; cases h
      exact .inl ⟨by simp, rfl⟩
    · rw [List.getElem?_set_ne hj] at h
      rcases wipeE_get h with ⟨a, b⟩ | ⟨a, b⟩
      · exact .inl ⟨List.mem_cons_of_mem _ a, b⟩
      · exact .inr ⟨fun z => (List.mem_cons.mp z).elim (fun q => hj q.symm) a, b⟩
theorem wipeE_put {e : En} {j : Nat} {s : Sl} {own : List Nat} (hj : j ∉ own) (h : e[j]? = some s) : (wipeE own e)[j]? = some s := by
  induction own with
  | nil => exact h
  | cons i r ih =>
    unfold wipeE
    rw [List.getElem?_set_ne fun z => hj (by rw [z]; simp)]
    exact ih fun z => hj (List.mem_cons_of_mem _ z)
theorem rstE_get {e0 e : En} {j : Nat} {s : Sl} : ∀ {own : List Nat}, (rstE own e0 e)[j]? = some s → (j ∈ own ∧ s = e0[j]?.getD .e) ∨ (j ∉ own ∧ e[j]? = some s)
  | [], h => .inr ⟨by simp, h⟩
  | i :: r, h => by
    unfold rstE at h
    by_cases hj : i = j
    · subst hj
      have hl := (List.getElem?_eq_some_iff.mp h).1
      rw [List.length_set] at hl
      rw [List.getElem?_set_self hl] at h; cases h
      exact .inl ⟨by simp, rfl⟩
    · rw [List.getElem?_set_ne hj] at h
      rcases rstE_get h with ⟨a, b⟩ | ⟨a, b⟩
      · exact .inl ⟨List.mem_cons_of_mem _ a, b⟩
      · exact .inr ⟨fun z => (List.mem_cons.mp z).elim (fun q => hj q.symm) a, b⟩
theorem rstE_put {e0 e : En} {j : Nat} {s : Sl} {own : List Nat} (hj : j ∉ own) (h : e[j]? = some s) : (rstE own e0 e)[j]? = some s := by
  induction own with
  | nil => exact h
  | cons i r ih =>
    unfold rstE
    rw [List.getElem?_set_ne fun z => hj (by rw [z]; simp)]
    exact ih fun z => hj (List.mem_cons_of_mem _ z)
theorem wipe_out' {σ : L2.St} {j : Nat} : ∀ {own : List Nat}, j ∉ own → (wipe σ own)[j]? = σ[j]?
  | [], _ => rfl
  | i :: r, h => by
    unfold wipe
    rw [List.getElem?_set_ne fun z => h (by rw [z]; simp)]
    exact wipe_out' fun z => h (List.mem_cons_of_mem _ z)
theorem wipe_in {σ : L2.St} {j : Nat} (hl : j < σ.length) : ∀ {own : List Nat}, j ∈ own → (wipe σ own)[j]? = some none
  | i :: r, h => by
    unfold wipe
    by_cases hj : i = j
    · subst hj
      rw [List.getElem?_set_self (by rw [wipe_length]; exact hl)]
    · rw [List.getElem?_set_ne hj]
      exact wipe_in hl ((List.mem_cons.mp h).resolve_left fun z => hj z.symm)
theorem wipe_eq {σ σ' : L2.St} {own : List Nat} (hl : σ'.length = σ.length) (h : ∀ j : Nat, j ∉ own → σ'[j]? = σ[j]?) : wipe σ' own = wipe σ own := by
  apply List.ext_getElem?
  intro j
  by_cases hj : j ∈ own
  · by_cases hlt : j < σ.length
    · rw [wipe_in hlt hj, wipe_in (by rw [hl]; exact hlt) hj]
    · rw [List.getElem?_eq_none (by rw [wipe_length]; omega), List.getElem?_eq_none (by rw [wipe_length]; omega)]
  · rw [wipe_out' hj, wipe_out' hj, h j hj]
section
variable {K : PySem.W.Frag} {H H' : Hp} {e e0 : En} {σ : L2.St} {F F' : Ft} {own : List Nat}
theorem wr_wipe {a : Addr} (h : Wr (wipeE own e) F a) : Wr e F a := by
  obtain ⟨i, s, h1, h2, h3⟩ := h
  rcases wipeE_get h1 with ⟨_, rfl⟩ | ⟨_, h1⟩
  · cases h2
  · exact ⟨i, s, h1, h2, h3⟩
theorem us_wipe {a : Addr} (h : Us (wipeE own e) F a) : Us e F a := by
  obtain ⟨i, s, d, h1, h2, h3⟩ := h
  rcases wipeE_get h1 with ⟨_, rfl⟩ | ⟨_, h1⟩
  · cases h2
  · exact ⟨i, s, d, h1, h2, h3⟩
theorem S.wipe (s : S K H e σ F) (hk : ∀ i ∈ own, ∀ d, e[i]? ≠ some (.k d)) : S K H (wipeE own e) (L2.wipe σ own) F := by
  refine ⟨by rw [wipeE_len, wipe_length]; exact s.len, fun i sl d h1 h2 => ?_, fun i j sl sl' d h1 h2 h3 h4 h5 h6 => ?_, fun i j sl sl' h1 h2 h3 => ?_⟩
  · rcases wipeE_get h1 with ⟨_, rfl⟩ | ⟨hi, h1⟩
    · cases h2
    · rw [wipe_out' hi]; exact s.own i sl d h1 h2
  · rcases wipeE_get h1 with ⟨_, rfl⟩ | ⟨hi, h1⟩
    · cases h3
    · rcases wipeE_get h2 with ⟨_, rfl⟩ | ⟨hj, h2⟩
      · cases h4
      · exact s.dis i j sl sl' d h1 h2 h3 h4 h5 h6
  · rcases wipeE_get h2 with ⟨_, rfl⟩ | ⟨hj, h2⟩
    · cases h3
    · rcases wipeE_get h1 with ⟨hi, rfl⟩ | ⟨hi, h1⟩
      · obtain ⟨s0, e1⟩ : ∃ s0, e[i]? = some s0 := by
          have hl := (List.getElem?_eq_some_iff.mp h1).1
          rw [wipeE_len] at hl
          exact ⟨_, List.getElem?_eq_getElem hl⟩
        have := s.tag i j s0 sl' e1 h2 h3
        cases s0 with
        | k d => exact absurd e1 (hk i hi d)
        | _ => cases this
      · exact s.tag i j sl sl' h1 h2 h3
abbrev clr (own : List Nat) (F : Ft) : Ft := fun i => if i ∈ own then [] else F i
theorem rst_cases (st : stOk own e0) {i : Nat} {sl : Sl} (h : (rstE own e0 e)[i]? = some sl) : (i ∈ own ∧ ((sl = .e) ∨ ∃ x, sl = .o (.p x) ∧ e0[i]? = some (.o (.p x)))) ∨ (i ∉ own ∧ e[i]? = some sl) := by
  rcases rstE_get h with ⟨a, b⟩ | h
  · obtain ⟨s0, e1, e2⟩ := stOk_of st i a
    rw [e1] at b
    have b : sl = s0 := b
    rcases e2 with rfl | ⟨x, rfl⟩
    · exact .inl ⟨a, .inl b⟩
    · exact .inl ⟨a, .inr ⟨x, b, e1⟩⟩
  · exact .inr h
theorem wr_rst (st : stOk own e0) {a : Addr} (h : Wr (rstE own e0 e) (clr own F) a) : Wr e F a := by
  obtain ⟨i, s, h1, h2, h3⟩ := h
  rcases rst_cases st h1 with ⟨hi, _⟩ | ⟨hi, h1⟩
  · simp [clr, hi] at h3
  · exact ⟨i, s, h1, h2, by simpa [clr, hi] using h3⟩
theorem us_rst (st : stOk own e0) {a : Addr} (h : Us (rstE own e0 e) (clr own F) a) : Us e F a := by
  obtain ⟨i, s, d, h1, h2, h3⟩ := h
  rcases rst_cases st h1 with ⟨hi, _⟩ | ⟨hi, h1⟩
  · simp [clr, hi] at h3
  · exact ⟨i, s, d, h1, h2, by simpa [clr, hi] using h3⟩
/-- the slots given back -/
theorem S.rst (s0 : S K H e0 σ F) (x : Ext H H') (st : stOk own e0) (s : S K H' e (L2.wipe σ own) F') : S K H' (rstE own e0 e) σ (clr own F') := by
  refine ⟨by rw [rstE_len, s.len, wipe_length], fun i sl d h1 h2 => ?_, fun i j sl sl' d h1 h2 h3 h4 h5 h6 a ha => ?_, fun i j sl sl' h1 h2 h3 => ?_⟩
  · rcases rst_cases st h1 with ⟨hi, rfl | ⟨y, rfl, e1⟩⟩ | ⟨hi, h1⟩
    · cases h2
    · cases h2
      obtain ⟨v, e2, o⟩ := s0.own i _ _ e1 rfl
      exact ⟨v, e2, by simpa [clr, hi] using own_p (o.2.ext x)⟩
    · obtain ⟨v, e2, o⟩ := s.own i sl d h1 h2
      exact ⟨v, by rw [wipe_out' hi] at e2; exact e2, by simpa [clr, hi] using o⟩
  · rcases rst_cases st h1 with ⟨hi, _⟩ | ⟨hi, h1⟩
    · simp [clr, hi] at ha
    · rcases rst_cases st h2 with ⟨hj, _⟩ | ⟨hj, h2⟩
      · simp [clr, hj]
      · have := s.dis i j sl sl' d h1 h2 h3 h4 h5 h6 a (by simpa [clr, hi] using ha)
        simpa [clr, hj] using this
  · rcases rst_cases st h2 with ⟨hj, rfl | ⟨y, rfl, e1⟩⟩ | ⟨hj, h2⟩
    · cases h3
    · cases h3
    · rcases rst_cases st h1 with ⟨hi, hs⟩ | ⟨hi, h1⟩
      · -- slot i stood locked in e, so it is no own slot
        obtain ⟨t0, e1⟩ : ∃ t0, e[i]? = some t0 := by
          have hl := (List.getElem?_eq_some_iff.mp h1).1
          rw [rstE_len] at hl
          exact ⟨_, List.getElem?_eq_getElem hl⟩
        have := s.tag i j t0 sl' e1 h2 h3
        obtain ⟨d, rfl⟩ : ∃ d, t0 = .k d := by
          cases t0 with
          | k d => exact ⟨d, rfl⟩
          | _ => cases this
        obtain ⟨v, e2, _⟩ := s.own i _ d e1 rfl
        have hl : i < σ.length := by
          have := (List.getElem?_eq_some_iff.mp e2).1
          rwa [wipe_length] at this
        rw [wipe_in hl hi] at e2; cases e2
      · exact s.tag i j sl sl' h1 h2 h3
end
section
variable {K : PySem.W.Frag} {H H' : Hp} {e e0 : En} {σ : L2.St} {F F' : Ft} {own : List Nat}
theorem S.updOff (s : S K H e σ F) {D : Addr} {vs ws : List V} (h : H D = some (.lst vs)) (off : ¬ Us e F D) : S K (upd H D (.lst ws)) e σ F ∧ Ext H (upd H D (.lst ws)) := by
  have ext : Ext H (upd H D (.lst ws)) := fun b o e t => by
    have hb : b ≠ D := fun z => by subst z; rw [h] at e; cases e; rcases t with ⟨_, z⟩ | ⟨_, _, z⟩ <;> cases z
    rw [upd_ne hb]; exact e
  refine ⟨⟨s.len, fun i sl d h1 h2 => ?_, s.dis, s.tag⟩, ext⟩
  obtain ⟨u, e1, o⟩ := s.own i sl d h1 h2
  refine ⟨u, e1, o.kept ext fun a ha ob z => ?_⟩
  rw [upd_ne fun q => off (by subst q; exact ⟨i, sl, d, h1, h2, ha⟩)]; exact z
theorem MdOk.wipe {g : Nat} {B : List Addr} (hm : MdOk (some g) e F B) (nok : ∀ i ∈ own, ∀ d, e[i]? ≠ some (.k d)) : MdOk (some g) (wipeE own e) F B := by
  refine ⟨fun j sl h1 h2 h3 a ha hb => ?_, fun j sl h1 h2 => ?_⟩
  · rcases wipeE_get h1 with ⟨_, rfl⟩ | ⟨_, h1⟩
    · cases h2
    · exact hm.1 j sl h1 h2 h3 a ha hb
  · rcases wipeE_get h1 with ⟨hj, rfl⟩ | ⟨_, h1⟩
    · obtain ⟨s0, e1⟩ : ∃ s0, e[j]? = some s0 := by
        have hl := (List.getElem?_eq_some_iff.mp h1).1
        rw [wipeE_len] at hl
        exact ⟨_, List.getElem?_eq_getElem hl⟩
      have := hm.2 j s0 e1 h2
      cases s0 with
      | k d => exact absurd e1 (nok j hj d)
      | _ => cases this
    · exact hm.2 j sl h1 h2
theorem Kp.wipe {e1 : En} {F1 : Ft} (kp : Kp (wipeE own e0) F e1 F1) : Kp (wipeE own e0) F (wipeE own e1) F1 := by
  refine ⟨by rw [wipeE_len]; exact kp.len, fun i d h => ?_, fun i d h => ?_, fun i d h => ?_⟩
  · obtain ⟨d', h'⟩ := kp.b i d h
    rcases wipeE_get h with ⟨_, z⟩ | ⟨hi, _⟩
    · cases z
    · exact ⟨d', wipeE_put hi h'⟩
  · obtain ⟨h', f⟩ := kp.k i d h
    rcases wipeE_get h with ⟨_, z⟩ | ⟨hi, _⟩
    · cases z
    · exact ⟨wipeE_put hi h', f⟩
  · rcases wipeE_get h with ⟨_, z⟩ | ⟨hi, h⟩
    · cases z
    · exact kp.kb i d h
theorem Kp.rst {e1 : En} {F1 : Ft} (st : stOk own e0) (kp : Kp (wipeE own e0) F e1 F1) : Kp e0 F (rstE own e0 e1) (clr own F1) := by
  have no : ∀ i ∈ own, ∀ sl, e0[i]? = some sl → sl.fx = false := fun i hi sl h => by
    obtain ⟨s, e1, e2⟩ := stOk_of st i hi
    rw [h] at e1; cases e1
    rcases e2 with rfl | ⟨_, rfl⟩ <;> rfl
  refine ⟨by rw [rstE_len, kp.len, wipeE_len], fun i d h => ?_, fun i d h => ?_, fun i d h => ?_⟩
  · have hi : i ∉ own := fun z => by have := no i z _ h; cases this
    obtain ⟨d', h'⟩ := kp.b i d (wipeE_put hi h)
    exact ⟨d', rstE_put hi h'⟩
  · have hi : i ∉ own := fun z => by have := no i z _ h; cases this
    obtain ⟨h', f⟩ := kp.k i d (wipeE_put hi h)
    exact ⟨rstE_put hi h', by simpa [clr, hi] using f⟩
  · rcases rst_cases st h with ⟨hi, z | ⟨_, z, _⟩⟩ | ⟨hi, h⟩
    · cases z
    · cases z
    · rcases wipeE_get (kp.kb i d h) with ⟨_, z⟩ | ⟨_, h⟩
      · cases z
      · exact h
end
/-! ### the comprehension -/
def condK (b : Bool) (p q : Prop) : Prop := match b with
  | true => p
  | false => q
structure QTs (X : Cx) (ifs : List Expr) (t : VTst) : Prop where
  run : ∀ σ H en F Q, S X.K H en σ F → t en Q → ∃ tt : TT, PTs X ifs tt ∧ tt σ H (TPo X.K H en σ F Q)
def tY : VTst := fun en Q => Q true en
section
variable {X : Cx} {elt tg iter c : Expr} {ifs : List Expr} {scope : Scope} {pos : Pos}
theorem q_ts0 : QTs X [] tY := ⟨fun σ H en F Q s q => ⟨tYes, pts_nil, en, F, s, Fr.same', Kp.refl en F, q⟩⟩
theorem q_ts1 {t : VTst} (h : QT X c t) : QTs X [c] t := ⟨fun σ H en F Q s q => ⟨wpT X c, pts_one (pt_wp X c), h.run σ H en F Q s q⟩⟩
def wpTs (X : Cx) (ifs : List Expr) : TT := fun σ H Q => ∀ (pins : List (Addr × Obj)) (s : Shared), Inv X pins σ H s →
    wpAny (model X.prog X.w) X.A (forIn ifs true fun c r => if r = true then do let ok ← isTrue c X.env (eval c X.env); pure (ForInStep.yield ok) else pure (ForInStep.yield r)) (TP X pins σ Q) X.xe s
theorem pts_wp (X : Cx) (ifs : List Expr) : PTs X ifs (wpTs X ifs) := ⟨fun pins s _ _ _ I h => h pins s I⟩
abbrev Blk (X : Cx) (scope : Scope) (Z : Cx) : Prop := ∃ (s : Shared) (H : Hp) (C : Addr) (cl : List (Str × Addr)) (fp : List Addr), Z = X.blk s H scope (compEnvC scope cl C X.env) fp
def tComp (own : List Nat) (ti : VI) (g : VG) (tt : VTst) (te : VT) : VT := fun en Q => ti en fun sr en1 => stOk own (lkE sr.lk en1) ∧ ∃ I : Nat → List D → En → Prop, I 0 [] (wipeE own (lkE sr.lk en1)) ∧
  (∀ (k : Nat) d acc e, sr.items[k]? = some d → I k acc e → g (some sr.tg) d e fun e2 => tt e2 fun b e3 => condK b (te e3 fun d' e4 => acc.length < sizeLine ∧ I (k + 1) (acc ++ [d']) (wipeE own e4)) (I (k + 1) acc (wipeE own e3))) ∧
  ∀ acc e, I sr.items.length acc e → Q (mkL acc) (unE sr.lk (rstE own (lkE sr.lk en1) e))
/-- the state between two turns; D: the new list -/
structure Lc (K : PySem.W.Frag) (H1 : Hp) (e0 : En) (F1 : Ft) (σ0 : L2.St) (B : List Addr) (D : Addr) (I : List VL.D → En → Prop) (acc : List VL.D) (vs : List V) (BB : List Addr) (e : En) (F' : Ft) (H' : Hp) : Prop where
  s : S K H' e σ0 F'
  lst : H' D = some (.lst vs)
  own : Owns K H' acc vs BB
  nD : D ∉ BB
  off : ∀ a ∈ D :: BB, ¬ Us e F' a
  fr : Fr H1 (Wr e0 F1) (fun a => Us e0 F1 a ∨ a ∈ B) H' (fun a => Wr e F' a ∨ a ∈ D :: BB) (fun a => Us e F' a ∨ a ∈ D :: BB)
  kp : Kp e0 F1 e F'
  i : I acc e
theorem lc_read {own : List (Str × Nat)} {ti : VI} {g : VG} {tt : VTst} {te : VT} {ts : List Nat} (hc : X.calm = true) (hN : X.N.Nodup) (hi : QI X tg iter ti) (ok : BlkOk X.N X.env.scope scope own) (hts : ∀ j ∈ ts, j ∈ own.map (·.2))
    (hg : ∀ Z, Blk X scope Z → QG Z tg g ts) (ht : ∀ Z, Blk X scope Z → QTs Z ifs tt) (he : ∀ Z, Blk X scope Z → QE Z elt te) {σ : L2.St} {H : Hp} {en : En} {F : Ft} {Q : VL.D → En → Prop} {Qv : VK} (hQ : ∀ v H', EPo X.K H en σ F Q v H' → Qv v H') (s : S X.K H en σ F) (q : tComp (own.map (·.2)) ti g tt te en Q) :
    tLc (wpI X tg iter) (fun v σ H Q => ∀ Z, Blk X scope Z → wpG Z tg v σ H Q) (fun σ H Q => ∀ Z, Blk X scope Z → wpTs Z ifs σ H Q) (fun σ H Q => ∀ Z, Blk X scope Z → wpE Z elt σ H Q) (own.map (·.2)) σ H Qv := by
  have kB : ∀ Z, Blk X scope Z → Z.K = X.K := fun Z ⟨_, _, _, _, _, e⟩ => by subst e; rfl
  generalize hown : own.map (·.2) = ow at *
  refine (hi.run σ H en F _ s q).mono fun J H1 ⟨sr, en1, F1, B, s1, lkd, atB, dr, fr0, kp0, st, I, i0, step, fin⟩ D hD => ?_
  obtain ⟨sK, wK, uK, nB, mB⟩ := lkd.start s1
  generalize hK : lkE sr.lk en1 = eK at *
  have nok : ∀ i ∈ ow, ∀ d, eK[i]? ≠ some (.k d) := fun i hi d z => by
    obtain ⟨sl, e1, e2⟩ := stOk_of st i hi
    rw [z] at e1; cases e1
    rcases e2 with e2 | ⟨_, e2⟩ <;> cases e2
  have sW := sK.wipe nok
  have nB0 : ∀ a ∈ B, ¬ Wr (wipeE ow eK) F1 a := fun a ha z => nB a ha (wr_wipe z)
  have mB0 : MdOk (some sr.tg) (wipeE ow eK) F1 B := mB.wipe nok
  have hDU : ¬ Us (wipeE ow eK) F1 D := fun z => by obtain ⟨o, e, _⟩ := sW.at z; rw [hD] at e; cases e
  have hDB : D ∉ B := fun z => by obtain ⟨o, e⟩ := atB D z; rw [hD] at e; cases e
  have nn : ∀ {H' : Hp} {W' U' : Addr → Prop}, Fr H1 (Wr (wipeE ow eK) F1) (fun a => Us (wipeE ow eK) F1 a ∨ a ∈ B) H' W' U' → ∀ x, H' x = none → Wr (wipeE ow eK) F1 x ∨ H1 x = none := fun fr x h => by
    cases q : H1 x with
    | none => exact .inr rfl
    | some o =>
      by_cases hw : Wr (wipeE ow eK) F1 x
      · exact .inl hw
      · rw [fr.keep x o q hw] at h; cases h
  refine ⟨fun i m H' => m = sr.items.length - i ∧ i ≤ sr.items.length ∧ ∃ acc vs BB e F', Lc X.K H1 (wipeE ow eK) F1 (wipe σ ow) B D (I i) acc vs BB e F' H', ⟨sr.items.length, by simp, Nat.zero_le _, [], [], [], _, F1, sW.grow (Grow.upd hD), upd_same, ⟨rfl, rfl⟩, by simp, fun a ha => ?_, ⟨fun b o h _ => Grow.upd hD b o h, fun b h => ?_, fun b h => ?_⟩, Kp.refl _ _, i0⟩, ?_⟩
  · have : a = D := by simpa using ha
    subst this; exact hDU
  · rcases h with h | h
    · exact .inl h
    · have : b = D := by simpa using h
      subst this; exact .inr hD
  · rcases h with h | h
    · exact .inl (.inl h)
    · have : b = D := by simpa using h
      subst this; exact .inr hD
  rintro i m H' ⟨rfl, hi', acc, vs, BB, e, F', l⟩
  have exA : Ext H1 H' := fun b o h t => l.fr.keep b o h fun z => by
    obtain ⟨o', e', n⟩ := sW.at z.us
    rw [h] at e'; cases e'
    exact n t
  have kA : Kept H1 H' B := fun a ha o h => l.fr.keep a o h (nB0 a ha)
  obtain ⟨go, stp⟩ := dr H' exA kA
  by_cases hlt : i < sr.items.length
  · have hd : sr.items[i]? = some sr.items[i] := List.getElem?_eq_getElem hlt
    obtain ⟨g1, g2⟩ := go i _ hd
    refine .inr ⟨g1, fun H5 => ∃ acc vs BB e F', Lc X.K H1 (wipeE ow eK) F1 (wipe σ ow) B D (I (i + 1)) acc vs BB e F' H5, fun H5 h5 => ⟨_, by omega, rfl, hlt, h5⟩, fun x H3 hy => ?_⟩
    obtain ⟨gr, C, oC, hC⟩ := g2 x H3 hy
    have frL : Fr H1 (Wr (wipeE ow eK) F1) (fun a => Us (wipeE ow eK) F1 a ∨ a ∈ B) H' (Wr e F') (Us e F') := ⟨l.fr.keep, fun b h => l.fr.wr b (.inl h), fun b h => l.fr.us b (.inl h)⟩
    have mC : MdOk (some sr.tg) e F' C := by
      have := mdok_step mB0 nB0 atB frL (l.kp.kq (σ := wipe σ ow))
      exact ⟨fun j sl h1 h2 h3 a ha hb => this.1 j sl h1 h2 h3 a ha (hC a hb), this.2⟩
    intro Z hZ pins sh u Iv r
    have hZK := kB Z hZ
    have run := (hg Z hZ).run (wipe σ ow) H3 e F' (some sr.tg) _ x C _ (by rw [hZK]; exact l.s.grow gr) (by rw [hZK]; exact oC) mC (step i _ acc e hd l.i)
    refine thn (run pins sh u Iv r) fun _ s4 ⟨σ2, H4, I4, en2, F2, s2, fr2, kq2, sg2, q2⟩ => ⟨σ2, H4, I4, ?_⟩
    rw [hZK] at s2
    have hw2 : wipe σ2 ow = wipe σ ow := by
      refine wipe_eq ?_ fun j hj => ?_
      · rw [← s2.len, kq2.kp.len, l.s.len, wipe_length]
      · rw [sg2 j fun z => hj (hts j z), wipe_out' hj]
    refine ⟨hw2, fun Z2 hZ2 => ?_⟩
    have hZ2K := kB Z2 hZ2
    obtain ⟨tt', ptt, htt⟩ := (ht Z2 hZ2).run σ2 H4 en2 F2 _ (by rw [hZ2K]; exact s2) q2
    intro pins2 sh2 Iv2
    refine thn (ptt.run pins2 sh2 σ2 H4 _ Iv2 htt) fun b s5 ⟨H5, I5, en3, F3, s3, fr3, kp3, q3⟩ => ⟨H5, I5, ?_⟩
    rw [hZ2K] at s3
    -- from between two turns to behind the test
    have f2 : Fr H3 (Wr e F') (fun a => Us e F' a ∨ a ∈ B) H4 (Wr en2 F2) (Us en2 F2) := ⟨fun b o h hn => fr2.keep b o h fun z => z.elim hn fun z => (nomatch z.1), fun b h => (fr2.wr b h).imp (fun z => z.elim id fun z => (nomatch z.1)) id, fun b h => (fr2.us b h).imp (fun z => z.imp id (hC b)) id⟩
    have frG : Fr H' (Wr e F') (fun a => Us e F' a ∨ a ∈ B) H3 (Wr e F') (fun a => Us e F' a ∨ a ∈ B) := ⟨fun b o h _ => gr b o h, fun b h => .inl h, fun b h => .inl h⟩
    have f3 : Fr H' (Wr e F') (fun a => Us e F' a ∨ a ∈ B) H4 (Wr en2 F2) (Us en2 F2) := frG.trans f2 (fun _ h => .inl h.us) (fun _ h => h) (fun _ h => h) (fun _ h => .inl h) (fun _ h => .inl h)
    have f5 : Fr H' (Wr e F') (fun a => Us e F' a ∨ a ∈ B) H5 (Wr en3 F3) (Us en3 F3) := f3.trans fr3 (fun _ h => .inl h.us) (fun _ h => h) (fun _ h => h) (fun _ h => .inl h) (fun _ h => .inl h)
    have kp5 : Kp (wipeE ow eK) F1 en3 F3 := l.kp.trans (kq2.kp.trans kp3)
    -- what stands beside
    have side : ∀ a ∈ D :: BB, (∃ o, H' a = some o ∧ ¬ TupO o) ∧ a ∉ B := fun a ha => by
      refine ⟨?_, fun z => ?_⟩
      · rcases List.mem_cons.mp ha with rfl | ha
        · exact ⟨_, l.lst, by rintro (⟨_, z⟩ | ⟨_, _, z⟩) <;> cases z⟩
        · exact l.own.at a ha
      · rcases l.fr.wr a (.inr ha) with q | q
        · exact nB0 a z q
        · obtain ⟨o, eo⟩ := atB a z; rw [q] at eo; cases eo
    have extL : ∀ {H6 : Hp} {W' U' : Addr → Prop}, Fr H' (Wr e F') (fun a => Us e F' a ∨ a ∈ B) H6 W' U' → Ext H' H6 := fun fr b o h t => fr.keep b o h fun z => by
      obtain ⟨o', e', n⟩ := l.s.at z.us
      rw [h] at e'; cases e'
      exact n t
    have sideK : ∀ {H6 : Hp} {W' U' : Addr → Prop}, Fr H' (Wr e F') (fun a => Us e F' a ∨ a ∈ B) H6 W' U' → H6 D = some (.lst vs) ∧ Owns X.K H6 acc vs BB ∧ (∀ a ∈ D :: BB, ¬ U' a) := fun {H6 W' U'} fr => by
      have kp : ∀ a ∈ D :: BB, ∀ o, H' a = some o → H6 a = some o := fun a ha o h => fr.keep a o h fun z => l.off a ha z.us
      refine ⟨kp D (by simp) _ l.lst, l.own.kept (extL fr) fun a ha o h => kp a (List.mem_cons_of_mem _ ha) o h, fun a ha z => ?_⟩
      obtain ⟨⟨o, eo, _⟩, nb⟩ := side a ha
      rcases fr.us a z with (q | q) | q
      · exact l.off a ha q
      · exact nb q
      · rw [eo] at q; cases q
    -- the frame of a whole turn
    have whole : ∀ {H6 H7 : Hp} {W' U' : Addr → Prop} {e7 : En} {F7 : Ft} {B7 : List Addr}, Fr H' (Wr e F') (fun a => Us e F' a ∨ a ∈ B) H6 W' U' → (∀ b o, b ≠ D → H6 b = some o → H7 b = some o) → (∀ a, Wr e7 F7 a ∨ a ∈ B7 → W' a) → (∀ a, Us e7 F7 a ∨ a ∈ B7 → U' a) →
        Fr H1 (Wr (wipeE ow eK) F1) (fun a => Us (wipeE ow eK) F1 a ∨ a ∈ B) H7 (fun a => Wr e7 F7 a ∨ a ∈ D :: (BB ++ B7)) (fun a => Us e7 F7 a ∨ a ∈ D :: (BB ++ B7)) := fun {H6 H7 W' U' e7 F7 B7} fr k hw hu => by
      have wrc : ∀ a, W' a → Wr (wipeE ow eK) F1 a ∨ H1 a = none := fun a h => by
        rcases fr.wr a h with q | q
        · exact l.fr.wr a (.inl q)
        · exact nn l.fr a q
      have usc : ∀ a, U' a → (Us (wipeE ow eK) F1 a ∨ a ∈ B) ∨ H1 a = none := fun a h => by
        rcases fr.us a h with (q | q) | q
        · exact l.fr.us a (.inl q)
        · exact .inl (.inr q)
        · exact (nn l.fr a q).imp (fun z => .inl z.us) id
      refine ⟨fun b o h hn => k b o (fun z => by subst z; rw [hD] at h; cases h) (fr.keep b o (l.fr.keep b o h hn) fun z => ?_), fun a h => ?_, fun a h => ?_⟩
      · rcases l.fr.wr b (.inl z) with q | q
        · exact hn q
        · rw [h] at q; cases q
      · rcases h with h | h
        · exact wrc a (hw a (.inl h))
        · rcases List.mem_cons.mp h with h | h
          · exact l.fr.wr a (.inr (by rw [h]; simp))
          · rcases List.mem_append.mp h with h | h
            · exact l.fr.wr a (.inr (List.mem_cons_of_mem _ h))
            · exact wrc a (hw a (.inr h))
      · rcases h with h | h
        · exact usc a (hu a (.inl h))
        · rcases List.mem_cons.mp h with h | h
          · exact l.fr.us a (.inr (by rw [h]; simp))
          · rcases List.mem_append.mp h with h | h
            · exact l.fr.us a (.inr (List.mem_cons_of_mem _ h))
            · exact usc a (hu a (.inr h))
    have nokE : ∀ {e7 : En} {F7 : Ft}, Kp (wipeE ow eK) F1 e7 F7 → ∀ i ∈ ow, ∀ d, e7[i]? ≠ some (.k d) := fun kp i hi d z => by
      rcases wipeE_get (kp.kb i d z) with ⟨_, q⟩ | ⟨q, _⟩
      · cases q
      · exact q hi
    cases b with
    | true =>
      refine iteT fun Z3 hZ3 => ?_
      have hZ3K := kB Z3 hZ3
      have q3 : te en3 fun d' e4 => acc.length < sizeLine ∧ I (i + 1) (acc ++ [d']) (wipeE ow e4) := q3
      refine ((he Z3 hZ3).run σ2 H5 en3 F3 _ (by rw [hZ3K]; exact s3) q3).mono fun v H6 ⟨d', en4, F4, B4, s4, o4, off4, fr4, kp4, hlen, i4⟩ => ?_
      rw [hZ3K] at s4 o4
      have f6 : Fr H' (Wr e F') (fun a => Us e F' a ∨ a ∈ B) H6 (fun a => Wr en4 F4 a ∨ a ∈ B4) (fun a => Us en4 F4 a ∨ a ∈ B4) := f5.trans fr4 (fun _ h => .inl h.us) (fun _ h => h) (fun _ h => h) (fun _ h => .inl h) (fun _ h => .inl h)
      obtain ⟨x1, x2, x3⟩ := sideK f6
      have kp6 := kp5.trans kp4
      have sw := s4.wipe (nokE kp6)
      rw [hw2] at sw
      have nDU : ¬ Us (wipeE ow en4) F4 D := fun z => x3 D (by simp) (.inl (us_wipe z))
      obtain ⟨s7, ex7⟩ := sw.updOff (ws := vs ++ [v]) x1 nDU
      have bb : ∀ a ∈ BB, a ∉ B4 := fun a ha z => x3 a (List.mem_cons_of_mem _ ha) (.inr z)
      have nD' : D ∉ BB ++ B4 := fun z => (List.mem_append.mp z).elim l.nD fun z => x3 D (by simp) (.inr z)
      refine ⟨vs, x1, by rw [x2.length]; exact hlen, acc ++ [d'], vs ++ [v], BB ++ B4, wipeE ow en4, F4, s7, upd_same, (Owns.snoc o4 x2 bb).kept ex7 fun a ha ob z => ?_, nD', fun a ha z => ?_, ?_, kp6.wipe, i4⟩
      · rw [upd_ne fun q => nD' (by rw [← q]; exact ha)]; exact z
      · have z := us_wipe z
        rcases List.mem_cons.mp ha with h | h
        · exact x3 a (by rw [h]; simp) (.inl z)
        · rcases List.mem_append.mp h with h | h
          · exact x3 a (List.mem_cons_of_mem _ h) (.inl z)
          · exact off4 a h z
      · exact whole f6 (fun b o hb h => by rw [upd_ne hb]; exact h) (fun a h => h.imp wr_wipe id) (fun a h => h.imp us_wipe id)
    | false =>
      have q3 : I (i + 1) acc (wipeE ow en3) := q3
      refine iteF ?_
      obtain ⟨x1, x2, x3⟩ := sideK f5
      have sw := s3.wipe (nokE kp5)
      rw [hw2] at sw
      refine ⟨acc, vs, BB, wipeE ow en3, F3, sw, x1, x2, l.nD, fun a ha z => x3 a ha (us_wipe z), ?_, kp5.wipe, q3⟩
      have := whole (H7 := H5) (e7 := wipeE ow en3) (F7 := F3) (B7 := []) f5 (fun b o _ h => h) (fun a h => wr_wipe (h.resolve_right (by simp))) (fun a h => us_wipe (h.resolve_right (by simp)))
      rw [List.append_nil] at this
      exact this
  · have ei : i = sr.items.length := by omega
    subst ei
    refine .inl ⟨stp, ?_⟩
    have sR := sK.rst exA st l.s
    have kR := l.kp.rst st
    subst hK
    have hfr : Fr H1 (Wr (lkE sr.lk en1) F1) (fun a => Us (lkE sr.lk en1) F1 a ∨ a ∈ B) H' (fun a => Wr e F' a ∨ a ∈ D :: BB) (fun a => Us e F' a ∨ a ∈ D :: BB) :=
      ⟨fun b o h hn => l.fr.keep b o h fun z => hn (wr_wipe z), fun b h => (l.fr.wr b h).imp wr_wipe id, fun b h => (l.fr.us b h).imp (fun z => z.imp us_wipe id) id⟩
    obtain ⟨z1, z2, z3, z4⟩ := lkd.stop (W' := fun a => Wr e F' a ∨ a ∈ D :: BB) (U' := fun a => Us e F' a ∨ a ∈ D :: BB) s1 sR (kR.kq (σ := σ)) hfr (fun a h => .inl (wr_rst st h)) (fun a h => .inl (us_rst st h))
    · refine hQ _ _ ⟨mkL acc, _, _, D :: BB, z1, mkL_own l.own l.lst l.nD, fun a ha z => l.off a ha (us_rst st (z4 a z)), ?_, kp0.trans z2.kp, fin acc e l.i⟩
      refine fr0.trans l.fr (fun _ => Wr.us) (fun a h => wK a (wr_wipe h)) (fun a h => h.imp (fun z => uK a (us_wipe z)) id) (fun a h => ?_) (fun a h => ?_)
      · rcases h with h | h
        · exact (z3 a h).imp (fun z => .inl (wr_rst st z)) id
        · exact .inl (.inr h)
      · rcases h with h | h
        · exact .inl (.inl (us_rst st (z4 a h)))
        · exact .inl (.inr h)
theorem q_comp {own : List (Str × Nat)} {ti : VI} {g : VG} {tt : VTst} {te : VT} {ts : List Nat} (hc : X.calm = true) (hN : X.N.Nodup) (hi : QI X tg iter ti) (ok : BlkOk X.N X.env.scope scope own) (hts : ∀ j ∈ ts, j ∈ own.map (·.2))
    (hg : ∀ Z, Blk X scope Z → QG Z tg g ts) (ht : ∀ Z, Blk X scope Z → QTs Z ifs tt) (he : ∀ Z, Blk X scope Z → QE Z elt te) (hs : ∀ x, foldedSetIterable iter X.env x = pure x := by intro _; rfl) :
    QE X (.ListComp elt [⟨tg, iter, ifs, 0⟩] scope pos) (tComp (own.map (·.2)) ti g tt te) := by
  have gB : ∀ Z, Blk X scope Z → PG Z tg (fun v σ H Q => ∀ Z, Blk X scope Z → wpG Z tg v σ H Q) := fun Z hZ => ⟨fun pins s σ H v u Q I r h => h Z hZ pins s u I r⟩
  have tB : ∀ Z, Blk X scope Z → PTs Z ifs (fun σ H Q => ∀ Z, Blk X scope Z → wpTs Z ifs σ H Q) := fun Z hZ => ⟨fun pins s σ H Q I h => h Z hZ pins s I⟩
  have eB : ∀ Z, Blk X scope Z → PE Z elt (fun σ H Q => ∀ Z, Blk X scope Z → wpE Z elt σ H Q) := fun Z hZ => ⟨fun pins s σ H Q I h => h Z hZ pins s I⟩
  exact ⟨fun σ H en F Q s q => wpE.of (pe_lc hc hN (pi_wp X tg iter) ok (fun s H C cl fp => gB _ ⟨s, H, C, cl, fp, rfl⟩) (fun s H C cl fp => tB _ ⟨s, H, C, cl, fp, rfl⟩) (fun s H C cl fp => eB _ ⟨s, H, C, cl, fp, rfl⟩) hs) (lc_read hc hN hi ok hts hg ht he (fun _ _ h => h) s q)⟩
/-- name = [..] on one line -/
theorem s_setLc {i : Nat} {y : Str} {py spos : Pos} {own : List (Str × Nat)} {ti : VI} {g : VG} {tt : VTst} {te : VT} {ts : List Nat} (hc : X.calm = true) (hN : X.N.Nodup) (hy : X.N[i]? = some y) (hyl : X.env.scope.names.lookup y = some .local)
    (hsw : swapsWith (.ListComp elt [⟨tg, iter, ifs, 0⟩] scope pos) (some (.Name y py)) spos.line X.env = pure true) (hi : QI X tg iter ti) (ok : BlkOk X.N X.env.scope scope own) (hts : ∀ j ∈ ts, j ∈ own.map (·.2))
    (hg : ∀ Z, Blk X scope Z → QG Z tg g ts) (ht : ∀ Z, Blk X scope Z → QTs Z ifs tt) (he : ∀ Z, Blk X scope Z → QE Z elt te) (hs : ∀ x, foldedSetIterable iter X.env x = pure x := by intro _; rfl) :
    QS X (.Assign [.Name y py] (.ListComp elt [⟨tg, iter, ifs, 0⟩] scope pos) spos) (vSet i (tComp (own.map (·.2)) ti g tt te)) := by
  have gB : ∀ Z, Blk X scope Z → PG Z tg (fun v σ H Q => ∀ Z, Blk X scope Z → wpG Z tg v σ H Q) := fun Z hZ => ⟨fun pins s σ H v u Q I r h => h Z hZ pins s u I r⟩
  have tB : ∀ Z, Blk X scope Z → PTs Z ifs (fun σ H Q => ∀ Z, Blk X scope Z → wpTs Z ifs σ H Q) := fun Z hZ => ⟨fun pins s σ H Q I h => h Z hZ pins s I⟩
  have eB : ∀ Z, Blk X scope Z → PE Z elt (fun σ H Q => ∀ Z, Blk X scope Z → wpE Z elt σ H Q) := fun Z hZ => ⟨fun pins s σ H Q I h => h Z hZ pins s I⟩
  refine ⟨fun σ H en F D s q => wpS.of (ps_setLc hc hN hy hyl hsw (pi_wp X tg iter) ok (fun s H C cl fp => gB _ ⟨s, H, C, cl, fp, rfl⟩) (fun s H C cl fp => tB _ ⟨s, H, C, cl, fp, rfl⟩) (fun s H C cl fp => eB _ ⟨s, H, C, cl, fp, rfl⟩) hs) ?_⟩
  refine lc_read hc hN hi ok hts hg ht he (fun v H' h => ?_) s q
  obtain ⟨d, en1, F1, B, s1, o, off, fr, kp, q⟩ := h
  obtain ⟨sl, h1, h2, h3, q⟩ := putK_of q
  have e0 : slOf none d = .o d := by cases d <;> rfl
  obtain ⟨en2, F2, s2, fr2, kq2, _, q2⟩ := s1.come (Q := D.nx) (m := none) h1 h2 h3 o off (by rw [e0]; exact q)
  exact ⟨en2, F2, s2, fr.trans fr2 (fun _ => Wr.us) (fun _ h => h.imp id (·.2)) (fun _ h => h) (fun _ h => .inl h) (fun _ h => .inl h), kp.kq.trans kq2, q2⟩
end
end VL
/-! Eng15: dicts with ints or texts as keys; a list unpacked. -/
namespace VL
open PySem PySem.Spec PyProof.Rows L2
section
variable {X : Cx} {e e2 a b c : Expr} {es : List Expr} {t : VT} {pos p apos tpos : Pos}
def keyQ (x : P) (q : Key → Prop) : Prop := match x with
  | .int i => q (.inl i)
  | .str z => q (.inr z)
  | _ => False
theorem keyQ_of {K : PySem.W.Frag} {H : Hp} {x : P} {v : V} {q : Key → Prop} (r : RepP K H x v) (h : keyQ x q) : ∃ k, v = kV k ∧ q k := by
  unfold keyQ at h
  split at h
  · cases r; exact ⟨_, rfl, h⟩
  · cases r; exact ⟨_, rfl, h⟩
  · exact h.elim
def dgF : F2
  | .d kvs, .p x, k => keyQ x fun key => getK (lookP kvs key) k
  | _, _, _ => False
theorem dg_of {K : PySem.W.Frag} {H : Hp} {x y : D} {v w : V} {B1 B2 : List Addr} {k : D → Prop} (o1 : Own K H x v B1) (o2 : Own K H y w B2) (h : dgF x y k) : ∃ a z u, v = .ref a ∧ DGet H a w (some u) ∧ RepP K H z u ∧ k (.p z) := by
  unfold dgF at h
  split at h
  · obtain ⟨a, vs, rfl, rfl, h1, h2⟩ := o1
    obtain ⟨key, rfl, h⟩ := keyQ_of o2.2 h
    obtain ⟨z, e, h⟩ := getK_of h
    rcases h2.look key with ⟨q, _⟩ | ⟨z', u, e1, e2, r⟩
    · rw [e] at q; cases q
    · rw [e] at e1; cases e1
      exact ⟨a, z, u, rfl, by rw [← e2]; exact DGet.k h1, r, h⟩
  · exact h.elim
/-- d[k] -/
theorem q_dget {ta tb : VR} (hu : X.A.units + 64 < cLine) (ha : QR X a ta) (hb : QR X b tb) (hs : NoSl b := by intro _ _; rfl) : QE X (.Subscript a b pos) (tBin dgF ta tb) := by
  refine ⟨fun σ H en F Q s q => wpE.of (pe_dget (by omega) (pe_wp X a) (pe_wp X b) hs) ?_⟩
  refine (two ha hb s q).mono fun v1 H1 h => h.mono fun v2 H2 ⟨r1, r2, en2, F2, B1, B2, s2, o1, o2, off1, off2, dj, fr, kp, q⟩ => ?_
  obtain ⟨x, y, e1, e2, q⟩ := bin2_of q
  obtain ⟨C1, w1, _⟩ := o1.get s2 e1
  obtain ⟨C2, w2, _⟩ := o2.get s2 e2
  obtain ⟨a', z, u, rfl, g, r, q⟩ := dg_of w1 w2 q
  exact ⟨a', u, rfl, g, EPo.fin s2 fr (fun _ h => .inl h) (fun _ h => .inl h) kp (Grow.refl _) (own_p r) (by simp) q⟩
/-- k in d -/
def dinF (neg : Bool) : F2
  | .p x, .d kvs, k => keyQ x fun key => k (.p (.bl (if neg then !(lookP kvs key).isSome else (lookP kvs key).isSome)))
  | _, _, _ => False
theorem din_of {K : PySem.W.Frag} {H : Hp} {x y : D} {v w : V} {B1 B2 : List Addr} {k : D → Prop} {neg : Bool} (o1 : Own K H x v B1) (o2 : Own K H y w B2) (h : dinF neg x y k) : ∃ a u, w = .ref a ∧ DGet H a v u ∧ k (.p (.bl (if neg then !u.isSome else u.isSome))) := by
  unfold dinF at h
  split at h
  · obtain ⟨a, vs, rfl, rfl, h1, h2⟩ := o2
    obtain ⟨key, rfl, h⟩ := keyQ_of o1.2 h
    refine ⟨a, _, rfl, DGet.k h1, ?_⟩
    rcases h2.look key with ⟨q1, q2⟩ | ⟨z', u, e1, e2, r⟩
    · rw [q1] at h; rw [q2]; exact h
    · rw [e1] at h; rw [e2]; exact h
  · exact h.elim
theorem o_din (hu : X.A.units + 64 < cLine) : Op2 X (compareOp .In) (dinF false) := by
  intro H x y v w B1 B2 k o1 o2 h
  obtain ⟨a, u, rfl, g, q⟩ := din_of o1 o2 h
  refine ⟨fun x y H Q => ∃ a u, y = .ref a ∧ DGet H a x u ∧ Q (.bl u.isSome) H, ?_, fun Q f => ⟨a, u, rfl, g, f (.p (.bl _)) _ _ [] (Grow.refl _) (own_p rfl) (by simp) q⟩⟩
  intro pins s σ H x y v u Q I rx ry h
  obtain ⟨a, o, rfl, g, q⟩ := h
  obtain rfl : u = Value.ref a := ry
  exact d_in (by omega) I g rx fun s3 I3 => ⟨.bl o.isSome, H, I3, rfl, q⟩
theorem o_dnotin (hu : X.A.units + 64 < cLine) : Op2 X (compareOp .NotIn) (dinF true) := by
  intro H x y v w B1 B2 k o1 o2 h
  obtain ⟨a, u, rfl, g, q⟩ := din_of o1 o2 h
  refine ⟨fun x y H Q => ∃ a u, y = .ref a ∧ DGet H a x u ∧ Q (.bl (!u.isSome)) H, ?_, fun Q f => ⟨a, u, rfl, g, f (.p (.bl _)) _ _ [] (Grow.refl _) (own_p rfl) (by simp) q⟩⟩
  intro pins s σ H x y v u Q I rx ry h
  obtain ⟨a, o, rfl, g, q⟩ := h
  obtain rfl : u = Value.ref a := ry
  exact d_notIn (by omega) I g rx fun s3 I3 => ⟨.bl (!o.isSome), H, I3, rfl, q⟩
/-- {} -/
def tDnew : VT := fun en Q => Q (.d []) en
theorem q_dnew : QE X (.Dict [] [] pos) tDnew := by
  refine ⟨fun σ H en F Q s q => wpE.of pe_dnewK fun p hp => ?_⟩
  exact EPo.fin s Fr.same' (fun _ h => h) (fun _ h => h) (Kp.refl en F) (Grow.upd hp) (d := .d []) (B := [p]) ⟨p, [], rfl, rfl, upd_same, rfl⟩ (by simpa using hp) q
/-- len(d) -/
def dlenF : F1
  | .d kvs, k => k (.p (.int (kvs.length : Nat)))
  | _, _ => False
theorem c_dlen : Cal1 X (.builtin "len") dlenF := by
  intro H x v B k o h
  unfold dlenF at h
  split at h
  · obtain ⟨a, vs, rfl, rfl, h1, h2⟩ := o
    refine ⟨fun xs H Q => ∃ (a : Addr) (kvs : List (Key × V)), xs = [.ref a] ∧ H a = some (.dK kvs) ∧ Q (.int (kvs.length : Nat)) H, ?_, fun Q q => ⟨a, vs, rfl, h1, fin_p q h (by show V.int _ = V.int _; rw [h2.length])⟩⟩
    intro pins s σ H xs us Q I r h
    obtain ⟨a, kvs, rfl, h1, q⟩ := h
    obtain rfl := Vals.ref1 r
    exact d_len I (.inl h1) fun t s' I' => ⟨.int (kvs.length : Nat), H, I', ⟨t, rfl⟩, q⟩
  · exact h.elim
/-! a slot's dict is changed -/
def dctS (s : Option Sl) (q : List (Key × P) → (List (Key × P) → Sl) → Prop) : Prop := match s with
  | some (.o (.d xs)) => q xs fun ys => .o (.d ys)
  | some (.b (.d xs)) => q xs fun ys => .b (.d ys)
  | _ => False
structure DAt (K : PySem.W.Frag) (H : Hp) (en : En) (σ : L2.St) (F : Ft) (j : Nat) (a : Addr) (vs : List (Key × V)) (xs : List (Key × P)) (mk : List (Key × P) → Sl) : Prop where
  ref : σ[j]? = some (some (.ref a))
  obj : H a = some (.dK vs)
  rep : RepK K H xs vs
  fj : F j = [a]
  at_ : ∃ sl, en[j]? = some sl ∧ sl.wr = true ∧ sl.dat = some (.d xs) ∧ ((∃ d, sl = .b d) → ∀ ys, ∃ d, mk ys = .b d) ∧ sl.isk = false
  wr : ∀ ys, (mk ys).wr = true
  dat : ∀ ys, (mk ys).dat = some (.d ys)
theorem dctS_of {K : PySem.W.Frag} {H : Hp} {en : En} {σ : L2.St} {F : Ft} {j : Nat} {q : List (Key × P) → (List (Key × P) → Sl) → Prop} (s : S K H en σ F) (h : dctS en[j]? q) : ∃ a vs xs mk, DAt K H en σ F j a vs xs mk ∧ q xs mk := by
  unfold dctS at h
  split at h
  · rename_i xs e
    obtain ⟨v, e1, a, vs, rfl, e2, e3, e4⟩ := s.own j _ (.d xs) e rfl
    exact ⟨a, vs, xs, _, ⟨e1, e3, e4, e2, ⟨_, e, rfl, rfl, fun ⟨_, z⟩ => (by cases z), rfl⟩, fun _ => rfl, fun _ => rfl⟩, h⟩
  · rename_i xs e
    obtain ⟨v, e1, a, vs, rfl, e2, e3, e4⟩ := s.own j _ (.d xs) e rfl
    exact ⟨a, vs, xs, _, ⟨e1, e3, e4, e2, ⟨_, e, rfl, rfl, fun _ ys => ⟨_, rfl⟩, rfl⟩, fun _ => rfl, fun _ => rfl⟩, h⟩
  · exact h.elim
theorem DAt.write {K : PySem.W.Frag} {H : Hp} {en : En} {σ : L2.St} {F : Ft} {j : Nat} {a : Addr} {vs ws : List (Key × V)} {xs ys : List (Key × P)} {mk : List (Key × P) → Sl} (l : DAt K H en σ F j a vs xs mk) (s : S K H en σ F) (r : RepK K H ys ws) :
    S K (upd H a (.dK ws)) (en.set j (mk ys)) σ (F.put j [a]) ∧ Fr H (Wr en F) (Us en F) (upd H a (.dK ws)) (Wr (en.set j (mk ys)) (F.put j [a])) (Us (en.set j (mk ys)) (F.put j [a])) ∧ Kp en F (en.set j (mk ys)) (F.put j [a]) := by
  obtain ⟨sl, h1, h2, h3, h4, h5⟩ := l.at_
  have ext : Ext H (upd H a (.dK ws)) := fun b o e t => by
    have hb : b ≠ a := fun z => by subst z; rw [l.obj] at e; cases e; rcases t with ⟨_, z⟩ | ⟨_, _, z⟩ <;> cases z
    rw [upd_ne hb]; exact e
  have := s.mut (C := [a]) (B := []) h1 h2 (l.wr ys) (l.dat ys) l.ref (H' := upd H a (.dK ws)) (fun b o e hb => by
    rw [l.fj] at hb
    rw [upd_ne (by simpa using hb)]; exact e) ⟨a, ws, rfl, rfl, upd_same, r.ext ext⟩ (fun b hb => .inl (by rw [l.fj]; exact hb)) (by simp)
  refine ⟨this.1, ⟨fun b o e hw => this.2.keep b o e fun z => hw (z.resolve_right (by simp)), fun b hb => (this.2.wr b hb).imp (fun z => z.resolve_right (by simp)) id, fun b hb => (this.2.us b hb).imp (fun z => z.resolve_right (by simp)) id⟩, kp_mut h1 h5 (Sl.wr_nk (l.wr ys)) fun z => h4 z ys⟩
/-- d[k] = x -/
def gDct (j : Nat) (ti : VT) : VG := fun _ d en Q => dctS en[j]? fun _ _ => ti en fun di en1 => pOf di fun i => keyQ i fun key => dctS en1[j]? fun xs mk => pOf d fun x => xs.length < sizeLine ∧ Q (en1.set j (mk (putP xs key x)))
theorem g_dct {j : Nat} {po : Expr} {ti : VT} (hu : X.A.units + 64 < cLine) (ho : PE X po (L2.tVar j)) (hi : QE X e ti) (ha : ∀ v, assign (.Subscript po e pos) X.env v = (do
      let ov ← holding [v] (eval po X.env)
      let iv ← holding [v, ov] (eval e X.env)
      standAt pos
      holding [v, ov, iv] (setItem ov iv v)
      release [v, ov, iv] []) := by intro _; rfl) : QG X (.Subscript po e pos) (gDct j ti) [] := by
  refine ⟨fun σ H en F m d v B Q s o hm q => wpG.of (pg_sub ho (pe_wp X e) (set_dict (by omega)) ha) ?_⟩
  obtain ⟨a, _, _, _, l0, q⟩ := dctS_of s q
  refine ⟨_, l0.ref, ?_⟩
  refine (hi.run σ H en F _ s q).mono fun w H1 ⟨di, en1, F1, B1, s1, o1, off1, fr, kp, q⟩ => ?_
  obtain ⟨i, rfl, q2⟩ := pOf_of q
  obtain ⟨key, rfl, q3⟩ := keyQ_of o1.2 q2
  obtain ⟨a', vs, xs, mk, l, q⟩ := dctS_of s1 q3
  have e1 := l.ref
  rw [l0.ref] at e1; cases e1
  obtain ⟨x, rfl, hlt, q⟩ := pOf_of q
  obtain ⟨rfl, rv⟩ := o
  obtain ⟨s2, fr2, kp2⟩ := l.write s1 (l.rep.put key (rv.ext (fr.ext s)))
  refine ⟨a, _, rfl, DPut.k l.obj (by rw [l.rep.length]; exact hlt), _, _, s2, ?_, (kp.trans kp2).kq, fun _ _ => rfl, q⟩
  have f3 := fr.trans (W3 := Wr (en1.set j (mk (putP xs key x))) (F1.put j [a])) (U3 := Us (en1.set j (mk (putP xs key x))) (F1.put j [a])) fr2 (fun _ => Wr.us) (fun _ h => .inl h) (fun _ h => .inl h) (fun _ h => .inl h) (fun _ h => .inl h)
  exact ⟨fun b o h hn => f3.keep b o h fun z => hn (.inl z), fun b h => (f3.wr b h).imp .inl id, fun b h => (f3.us b h).imp .inl id⟩
/-! (a, b, ..) = a list of plain data -/
def lstI (d : D) (q : List D → Prop) : Prop := match d with
  | .l xs => q (xs.map D.p)
  | _ => False
def gUnlV (n : Nat) (g : VGs) : VG := fun m d en Q => lstI d fun ds => ds.length = n ∧ g m ds en Q
theorem g_unl {es : List Expr} {k : Nat} {g : VGs} {n : Nat} {ts : List Nat} (hc : X.calm = true) (h : QGs X es g ts) (hn : (assignEach es X.env).length = n := by rfl) (hst : (assignEach es X.env).findIdx? (·.1) = none := by rfl) : QG X (.Tuple es k pos) (gUnlV n g) ts := by
  refine ⟨fun σ H en F m d v B Q s o hm q => wpG.of (pg_unl hc (pgs_wp X es) hn hst) ?_⟩
  have q : lstI d fun ds => ds.length = n ∧ g m ds en Q := q
  unfold lstI at q
  split at q
  · obtain ⟨a, vs, rfl, rfl, h1, h2⟩ := o
    have hm0 : MdOk m en F [] := by
      cases m with
      | none => intro a ha; simp at ha
      | some g => exact ⟨fun j s h1 h2 h3 a ha hb => (by simp at hb), hm.2⟩
    refine ⟨a, vs, rfl, SqL.of h1, by rw [h2.length]; simpa using q.1, fun pins sh us I r => ?_⟩
    refine thn (h.run σ H en F m _ vs [] Q s (Owns.of_p h2) hm0 q.2 pins sh us I r) fun _ s' ⟨σ2, H2, I2, en2, F2, s2, fr2, kq2, sg2, q2⟩ => ⟨σ2, H2, I2, en2, F2, s2, ?_, kq2, sg2, q2⟩
    exact ⟨fun b o h hn => fr2.keep b o h fun z => hn (z.imp id fun z => (by simp at z)), fun b h => (fr2.wr b h).imp (fun z => z.imp id fun z => (by simp at z)) id, fun b h => (fr2.us b h).imp (fun z => z.imp id fun z => (by simp at z)) id⟩
  · exact q.elim
end
end VL
/-! Eng16: the sorted list of a set comprehension of small ints. -/
namespace VL
open PySem PySem.Spec PyProof.Rows L2
/-- how many of 0 .. 62 are in a list -/
def cntI (acc : List Int) : Nat := ((List.range 63).filter fun j : Nat => decide ((j : Int) ∈ acc)).length
theorem cntI_le (acc : List Int) : cntI acc ≤ 63 := by
  have := List.length_filter_le (fun j : Nat => decide ((j : Int) ∈ acc)) (List.range 63)
  rw [List.length_range] at this
  exact this
theorem filt_or {α : Type} [DecidableEq α] (f : α → Bool) (x : α) (hf : f x = false) : ∀ l : List α, l.Nodup → x ∈ l → (l.filter fun y => f y || decide (y = x)).length = (l.filter f).length + 1
  | [], _, h => by cases h
  | y :: l, nd, h => by
    have nd' := List.nodup_cons.mp nd
    by_cases e : y = x
    · subst e
      have : (l.filter fun z => f z || decide (z = y)) = l.filter f := by
        apply List.filter_congr
        intro z hz
        have : z ≠ y := fun q => nd'.1 (q ▸ hz)
        simp [this]
      rw [List.filter_cons, List.filter_cons, this]
      simp [hf]
    · have ih := filt_or f x hf l nd'.2 ((List.mem_cons.mp h).resolve_left fun q => e q.symm)
      rw [List.filter_cons, List.filter_cons]
      simp only [e, decide_false, Bool.or_false]
      cases f y <;> simp [ih]
theorem cntI_snoc (acc : List Int) (i : Int) (h0 : 0 ≤ i) (h1 : i < 63) : cntI (acc ++ [i]) = if decide (i ∈ acc) = true then cntI acc else cntI acc + 1 := by
  obtain ⟨n, rfl⟩ := Int.eq_ofNat_of_zero_le h0
  have hn : n < 63 := by omega
  by_cases h : (n : Int) ∈ acc
  · rw [if_pos (by simpa using h)]
    unfold cntI
    congr 1
    apply List.filter_congr
    intro j _
    by_cases e : (j : Int) = n
    · simp [e, h]
    · simp [e]
  · rw [if_neg (by simpa using h)]
    unfold cntI
    rw [← filt_or (fun j : Nat => decide ((j : Int) ∈ acc)) n (by simpa using h) _ List.nodup_range (List.mem_range.mpr hn)]
    congr 1
    apply List.filter_congr
    intro j _
    by_cases e : j = n
    · simp [e]
    · have : (j : Int) ≠ n := by omega
      simp [e, this]
/-- the set of the ints of acc -/
def SetA (w : World) (a : Addr) (acc : List Int) : HO := SetO w a (fun j => decide (j ∈ acc)) (cntI acc)
section
variable {X : Cx}
theorem addI_ok {pins : List (Addr × Obj)} {σ : L2.St} {H : Hp} {s : Shared} {E : Value → Shared → Prop} {D : Addr} {acc : List Int} {i : Int} {u : Value} {Q : Value → Shared → Prop} (I : Inv X pins σ H s) (hD : H D = some (SetA X.w D acc)) (r : RelV (.int i) u) (h0 : 0 ≤ i) (h1 : i < 63)
    (h : ∀ s', Inv X pins σ (upd H D (SetA X.w D (acc ++ [i]))) s' → Q .none s') : wpAny (model X.prog X.w) X.A (call (.builtin "set.add") [.ref D, u]) Q E s := by
  obtain ⟨tk, rfl⟩ := r
  have hb : cntI acc + 1 < scanBound := by
    have := cntI_le acc
    have : (70 : Nat) < scanBound := by decide
    omega
  refine setR_add (setO_get I hD) hb fun h' sb new => ?_
  have he : ∃ u, h'.get? D = some u := by
    have ⟨o, _, _, _, ho, _⟩ := new
    exact ⟨o, ho⟩
  have new' : SetR X.w h' D (fun j => decide (j ∈ acc ++ [i])) (cntI (acc ++ [i])) := by
    rw [cntI_snoc acc i h0 h1]
    exact new.congr fun k => by simp
  exact h _ (I.write (e := D) (t' := s.toks + 1) (by rw [hD]; trivial) (.inl rfl) (fun b u hb hu => (sb.2 b hb).trans hu) he (setO_new new'))
/-- {elt for target in iter if ..}, the members small ints: D the new set -/
def tSi (w : World) (wi : TI) (g : TG) (tt : TT) (te : TE) (vs : List Nat) : TE := fun σ H Q => wi σ H fun J H1 => ∀ D, H1 D = none → ∃ W : Nat → Nat → Hp → Prop, (∃ m, W 0 m (upd H1 D (SetA w D []))) ∧ ∀ i m H, W i m H →
  (J.stop i H ∧ Q (.ref D) H) ∨ (J.go i H ∧ ∃ Nx : Hp → Prop, (∀ H', Nx H' → ∃ m', m' < m ∧ W (i + 1) m' H') ∧ ∀ x H', J.yld i H x H' → g x (wipe σ vs) H' fun σ2 H2 => wipe σ2 vs = wipe σ vs ∧ tt σ2 H2 fun b H3 =>
    if b = true then te σ2 H3 fun y H4 => ∃ (c : Int) (acc : List Int), y = .int c ∧ (0 ≤ c ∧ c < 63) ∧ H4 D = some (SetA w D acc) ∧ Nx (upd H4 D (SetA w D (acc ++ [c]))) else Nx H3)
theorem set_core {pins : List (Addr × Obj)} {s : Shared} {σ : L2.St} {H : Hp} {Q : VK} {elt tg iter : Expr} {ifs : List Expr} {scope : Scope} {own : List (Str × Nat)} {pos : Pos} {wi : TI} {g : TG} {tt : TT} {te : TE}
    (hc : X.calm = true) (hN : X.N.Nodup) (I : Inv X pins σ H s) (hi : PI X tg iter wi) (ok : BlkOk X.N X.env.scope scope own)
    (hg : ∀ (s : Shared) (H : Hp) (C : Addr) (cl : List (Str × Addr)) (fp : List Addr), PG (X.blk s H scope (compEnvC scope cl C X.env) fp) tg g) (ht : ∀ (s : Shared) (H : Hp) (C : Addr) (cl : List (Str × Addr)) (fp : List Addr), PTs (X.blk s H scope (compEnvC scope cl C X.env) fp) ifs tt)
    (he : ∀ (s : Shared) (H : Hp) (C : Addr) (cl : List (Str × Addr)) (fp : List Addr), PE (X.blk s H scope (compEnvC scope cl C X.env) fp) elt te) (hs : ∀ x, foldedSetIterable iter X.env x = pure x)
    (h : tSi X.w wi g tt te (own.map (·.2)) σ H Q) : wpAny (model X.prog X.w) X.A (eval (.SetComp elt [⟨tg, iter, ifs, 0⟩] scope pos) X.env) (EP X pins σ Q) X.xe s := by
  have hfree : ∀ y ∈ scope.names, y.2 = .free → ∃ c, X.env.cells.lookup y.1 = some c := fun y hy e => I.ok.has _ ((ok.free y hy e).imp id id)
  rw [PpSet.eval_SetComp]
  refine wpAny_comprehension_free (use := none) rfl hs (closure_ok hfree) ok.kind (fun y hy e => by rw [ok.uniq y hy, e]) (thn (hi.run pins s σ H _ I h) fun xv s1 hx => thn hx fun itv s2 ⟨it, fp, tn, J, H2, e, I2, T, st2, f2, q⟩ => ?_)
  subst e
  refine PpSet.newSet_ok (newEnv_comp ?_)
  obtain ⟨D, hD⟩ : ∃ D, D = s2.heap.objs.size := ⟨_, rfl⟩
  rw [← hD]
  have hDn : H2 D = none := I2.hok.fresh (Nat.le_of_eq hD.symm)
  obtain ⟨W, ⟨m0, w0⟩, turn⟩ := q D hDn
  obtain ⟨s3, hs3⟩ : ∃ s3 : Shared, s3 = { s2 with heap := s2.heap.push { cls := .type "set", dict := none, data := .set #[] 0 (.fresh 0 0 (!X.w.params.followText "set-order")) } } := ⟨_, rfl⟩
  obtain ⟨H3, hH3⟩ : ∃ H3, H3 = upd H2 D (SetA X.w D []) := ⟨_, rfl⟩
  rw [← hH3] at w0
  have h3 : s3.heap = s2.heap.push { cls := .type "set", dict := none, data := .set #[] 0 (.fresh 0 0 (!X.w.params.followText "set-order")) } := by rw [hs3]
  have I3 : Inv X pins σ H3 s3 := by
    rw [hH3, hs3]
    refine I2.laid (t' := s2.toks) (fun b o e => Heap.get?_push_of_some _ e) (Nat.le_of_eq hD.symm) ?_
    rw [hD]
    exact setO_new ((setR_fresh X.w).congr fun k => by simp)
  have sz : ∀ b ∈ fp, b < D := fun b hb => by
    obtain ⟨o, e, _⟩ := T.obj _ _ st2 b hb
    rw [hD]; exact Heap.lt_size e
  have f3 : ∀ b ∈ fp, FpOk X pins H3 b ∧ b < s3.heap.objs.size := fun b hb => by
    have hlt := sz b hb
    refine ⟨⟨?_, (f2 b hb).2⟩, by rw [h3, Heap.size_push, ← hD]; exact Nat.lt_succ_of_lt hlt⟩
    rw [hH3, upd_ne (Nat.ne_of_lt hlt)]
    exact (f2 b hb).1
  have nfp : ∀ b ∈ fp, H3 b = none := fun b hb => (f3 b hb).1.1
  have st3 : tn 0 s3.heap := T.keep _ _ _ st2 fun b _ o e => by rw [h3]; exact Heap.get?_push_of_some _ e
  have I4 := block_start I3 ok hN f3
  rw [← hs3]
  obtain ⟨ce, hce⟩ : ∃ ce, ce = compEnvC scope (cellsFrom (s3.heap.objs.size + 1) scope.names (cloFrom X.env.cells scope.names [])) s3.heap.objs.size X.env := ⟨_, rfl⟩
  have pg := hg s3 H3 s3.heap.objs.size (cellsFrom (s3.heap.objs.size + 1) scope.names (cloFrom X.env.cells scope.names [])) fp
  have pt := ht s3 H3 s3.heap.objs.size (cellsFrom (s3.heap.objs.size + 1) scope.names (cloFrom X.env.cells scope.names [])) fp
  have pe := he s3 H3 s3.heap.objs.size (cellsFrom (s3.heap.objs.size + 1) scope.names (cloFrom X.env.cells scope.names [])) fp
  rw [← hce] at I4 pg pt pe
  have cL : ce.locals = s3.heap.objs.size := by rw [hce]; rfl
  have goal : codeAny (model X.prog X.w) X.A (.compStart (.SetComp elt [⟨tg, iter, ifs, 0⟩] scope pos) 0 (.ref it) (.ref D) ce) (compPost (model X.prog X.w) X.A X.xe none (EP X pins σ Q) (.ref D) s3.heap.objs.size) { s3 with heap := pushCells (s3.heap.push { cls := .type "dict", data := .dict #[] }) scope.names } := by
    obtain ⟨s4, hs4⟩ : ∃ s4 : Shared, s4 = { s3 with heap := pushCells (s3.heap.push { cls := .type "dict", data := .dict #[] }) scope.names } := ⟨_, rfl⟩
    have st4 : tn 0 s4.heap := T.keep _ _ _ st3 fun b _ o e => by rw [hs4]; exact pushCells_keeps _ _ _ _ (Heap.get?_push_of_some _ e)
    rw [← hs4] at I4 ⊢
    have stat : ∀ {σ' : L2.St} {H' : Hp} {s' : Shared}, Inv (X.blk s3 H3 scope ce fp) [] σ' H' s' → (∀ b ∈ fp, H' b = none) → ∀ b ∈ fp, FpOk (X.blk s3 H3 scope ce fp) [] H' b := fun {σ' H' s'} I' hn b hb =>
      ⟨hn b hb, (I'.ok.exf b hb).1, I'.ok.exfs b hb, .inl hb, fun x c e => (I'.ok.exf b hb).2 x c e, fun p hp => absurd (show p ∈ ([] : List (Addr × Obj)) ++ [] from hp) (by simp)⟩
    have loop : codeAny (model X.prog X.w) X.A (.compLoop (.SetComp elt [⟨tg, iter, ifs, 0⟩] scope pos) 0 (.ref it) (.ref D) ce) (compPost (model X.prog X.w) X.A X.xe none (EP X pins σ Q) (.ref D) s3.heap.objs.size) s4 := by
      refine PpSet.compLoopS_any (fun n s' => ∃ i H', Inv (X.blk s3 H3 scope ce fp) [] (wipe σ (own.map (·.2))) H' s' ∧ tn i s'.heap ∧ (∀ b ∈ fp, H' b = none) ∧ W i n H') ?_ m0 ⟨0, H3, I4, st4, nfp, w0⟩
      rintro n s5 ⟨i, H5, I5, st5, n5, w5⟩
      rcases turn i n H5 w5 with ⟨stop, qq⟩ | ⟨go, Nx, hNx, step⟩
      · refine thnF (T.done (X.blk s3 H3 scope ce fp) rfl rfl rfl hc i [] s5 _ H5 (fun _ _ => False) I5 (stat I5 n5) st5 stop) fun r s6 ⟨hr, I6⟩ => ?_
        subst hr
        have I7 : Inv X pins σ H5 s6 := I3.call' (ch := fp) I6.os I6.base I6.hok I6.bare fun b hb => ⟨(f3 b hb).1.2.2.2.1, (f3 b hb).1.2.1, (f3 b hb).1.2.2.2.2.1, (f3 b hb).1.2.2.2.2.2⟩
        have nC : H5 s3.heap.objs.size = none := by rw [← cL]; exact I6.free
        obtain ⟨m, hn, _⟩ := I6.loc
        have hn : s6.heap.Ns s3.heap.objs.size m := by rw [← cL]; exact hn
        obtain ⟨f0, f1, f2, f3, f4, f5⟩ := I3.fpOk (Nat.le_refl _) nC
        exact ⟨m, hn, fun h'' sb => ⟨.ref D, H5, I7.turned (t' := s6.toks) (fun b o hb e => (sb.2 b hb).trans e) f0 f1 f3 f4 f5, rfl, qq⟩⟩
      · refine thnF (T.item (X.blk s3 H3 scope ce fp) rfl rfl rfl hc i [] s5 _ H5 (fun _ _ => False) I5 (stat I5 n5) st5 go) fun r s6 ⟨u, hr, h6⟩ => ?_
        subst hr
        refine thnF h6 fun _ s7 ⟨x, H7, I7, r7, y7, st7, n7⟩ => ?_
        refine thnF (pg.run _ s7 _ H7 x u _ (I7.pinned (stat I7 n7) (T.obj _ _ st7)) r7 (step x H7 y7)) fun _ s8 ⟨σ8, H8, I8, hw8, q8⟩ => ?_
        refine thnF (pt.run _ s8 σ8 H8 _ I8 q8) fun b s9 ⟨H9, I9, q9⟩ => ?_
        have fin : ∀ {s' : Shared} {H' : Hp}, Inv (X.blk s3 H3 scope ce fp) ([] ++ pinsAt fp s7.heap) σ8 H' s' → Nx H' → ∃ m, m < n ∧ ∃ i H', Inv (X.blk s3 H3 scope ce fp) [] (wipe σ (own.map (·.2))) H' s' ∧ tn i s'.heap ∧ (∀ b ∈ fp, H' b = none) ∧ W i m H' := fun {s' H'} I' nx => by
          obtain ⟨m', hm, w'⟩ := hNx H' nx
          have pin' : ∀ b ∈ fp, ∀ o, s7.heap.get? b = some o → s'.heap.get? b = some o ∧ H' b = none := fun b hb o e =>
            let z := I'.pin (b, o) (List.mem_append_right _ (List.mem_append_right _ (mem_pinsAt hb e)))
            ⟨z.1, z.2.1⟩
          have hl : (wipe σ (own.map (·.2))).length = σ8.length := by rw [← hw8, wipe_length]
          refine ⟨m', hm, i + 1, H', (I'.unpinned (pins := [])).weak hl (fun j v e => ?_), T.keep _ _ _ st7 fun b hb o e => (pin' b hb o e).1, fun b hb => ?_, w'⟩
          · rw [← hw8] at e
            exact (wipe_some e).1
          · obtain ⟨o, e, _⟩ := T.obj _ _ st7 b hb
            exact (pin' b hb o e).2
        cases b with
        | false => exact fin I9 (by simpa using q9)
        | true =>
          simp only [if_true] at q9
          refine thnF (pe.run _ s9 σ8 H9 _ I9 q9) fun z s10 ⟨yv, H10, I10, r10, c, acc, ey, hc0, hD10, nx⟩ => ?_
          subst ey
          exact addI_ok (X := X.blk s3 H3 scope ce fp) I10 hD10 r10 hc0.1 hc0.2 fun s11 I11 => fin I11 nx
    exact PpSet.codeAny_compStart_set loop (T.self X.A 0 _ _ _ st4 loop)
  rw [hce] at goal
  exact goal
theorem pe_si {elt tg iter : Expr} {ifs : List Expr} {scope : Scope} {own : List (Str × Nat)} {pos : Pos} {wi : TI} {g : TG} {tt : TT} {te : TE} (hc : X.calm = true) (hN : X.N.Nodup) (hi : PI X tg iter wi) (ok : BlkOk X.N X.env.scope scope own)
    (hg : ∀ (s : Shared) (H : Hp) (C : Addr) (cl : List (Str × Addr)) (fp : List Addr), PG (X.blk s H scope (compEnvC scope cl C X.env) fp) tg g) (ht : ∀ (s : Shared) (H : Hp) (C : Addr) (cl : List (Str × Addr)) (fp : List Addr), PTs (X.blk s H scope (compEnvC scope cl C X.env) fp) ifs tt)
    (he : ∀ (s : Shared) (H : Hp) (C : Addr) (cl : List (Str × Addr)) (fp : List Addr), PE (X.blk s H scope (compEnvC scope cl C X.env) fp) elt te) (hs : ∀ x, foldedSetIterable iter X.env x = pure x := by intro _; rfl) :
    PE X (.SetComp elt [⟨tg, iter, ifs, 0⟩] scope pos) (tSi X.w wi g tt te (own.map (·.2))) := ⟨fun pins s σ H Q I h => set_core hc hN I hi ok hg ht he hs h⟩
/-! ### the rule -/
def tSset (own : List Nat) (ti : VI) (g : VG) (te : VT) : VT := fun en Q => ti en fun sr en1 => stOk own (lkE sr.lk en1) ∧ ∃ I : Nat → List Int → En → Prop, I 0 [] (wipeE own (lkE sr.lk en1)) ∧
  (∀ (k : Nat) d acc e, sr.items[k]? = some d → I k acc e → g (some sr.tg) d e fun e2 => te e2 fun d' e4 => asI d' fun i => (0 ≤ i ∧ i < 63) ∧ I (k + 1) (acc ++ [i]) (wipeE own e4)) ∧
  ∀ acc e, I sr.items.length acc e → ∀ ns : List Int, ns.Pairwise (· < ·) → (∀ k, k ∈ ns ↔ k ∈ acc) → Q (.l (ns.map P.int)) (unE sr.lk (rstE own (lkE sr.lk en1) e))
structure Ls (K : PySem.W.Frag) (w : World) (H1 : Hp) (e0 : En) (F1 : Ft) (σ0 : L2.St) (B : List Addr) (D : Addr) (I : List Int → En → Prop) (acc : List Int) (e : En) (F' : Ft) (H' : Hp) : Prop where
  s : S K H' e σ0 F'
  lst : H' D = some (SetA w D acc)
  off : ¬ Us e F' D
  fr : Fr H1 (Wr e0 F1) (fun a => Us e0 F1 a ∨ a ∈ B) H' (fun a => Wr e F' a ∨ a = D) (fun a => Us e F' a ∨ a = D)
  kp : Kp e0 F1 e F'
  i : I acc e
theorem not_tup {w : World} {D : Addr} {acc : List Int} : ¬ TupO (SetA w D acc) := by rintro (⟨_, z⟩ | ⟨_, _, z⟩) <;> cases z
theorem S.updOff' {K : PySem.W.Frag} {H : Hp} {e : En} {σ : L2.St} {F : Ft} (s : S K H e σ F) {D : Addr} {o o' : HO} (h : H D = some o) (nt : ¬ TupO o) (off : ¬ Us e F D) : S K (upd H D o') e σ F := by
  have ext : Ext H (upd H D o') := fun b ob e t => by
    have hb : b ≠ D := fun z => by subst z; rw [h] at e; cases e; exact nt t
    rw [upd_ne hb]; exact e
  refine ⟨s.len, fun i sl d h1 h2 => ?_, s.dis, s.tag⟩
  obtain ⟨u, e1, o⟩ := s.own i sl d h1 h2
  refine ⟨u, e1, o.kept ext fun a ha ob z => ?_⟩
  rw [upd_ne fun q => off (by subst q; exact ⟨i, sl, d, h1, h2, ha⟩)]; exact z
theorem q_sset {own : List (Str × Nat)} {ti : VI} {g : VG} {te : VT} {ts : List Nat} {elt tg iter : Expr} {scope : Scope} {pos cpos p : Pos} (hc : X.calm = true) (hg' : Gl X "sorted") (hm : X.mg "sorted" = none) (hN : X.N.Nodup) (hi : QI X tg iter ti) (ok : BlkOk X.N X.env.scope scope own) (hts : ∀ j ∈ ts, j ∈ own.map (·.2))
    (hg : ∀ Z, Blk X scope Z → QG Z tg g ts) (he : ∀ Z, Blk X scope Z → QE Z elt te) (hs : ∀ x, foldedSetIterable iter X.env x = pure x := by intro _; rfl)
    (hn : ("sorted" : Str) ≠ "__name__" := by decide) (hdb : (("sorted" : Str) == ("__debug__" : Str)) = false := by decide) (hv : bootBuiltins "sorted" = some (.builtin "sorted") := by rfl)
    (hs1 : starEach (Expr.SetComp elt [⟨tg, iter, [], 0⟩] scope pos :: []) X.env = (false, eval (.SetComp elt [⟨tg, iter, [], 0⟩] scope pos) X.env) :: starEach [] X.env := by rfl) (hpl : (backTo cpos (starEach [] X.env)).any (·.1) = false := by rfl) :
    QE X (.Call (.Name "sorted" p) [.SetComp elt [⟨tg, iter, [], 0⟩] scope pos] [] cpos) (tSset (own.map (·.2)) ti g te) := by
  have gB : ∀ Z, Blk X scope Z → PG Z tg (fun v σ H Q => ∀ Z, Blk X scope Z → wpG Z tg v σ H Q) := fun Z hZ => ⟨fun pins s σ H v u Q I r h => h Z hZ pins s u I r⟩
  have eB : ∀ Z, Blk X scope Z → PE Z elt (fun σ H Q => ∀ Z, Blk X scope Z → wpE Z elt σ H Q) := fun Z hZ => ⟨fun pins s σ H Q I h => h Z hZ pins s I⟩
  have kB : ∀ Z, Blk X scope Z → Z.K = X.K := fun Z ⟨_, _, _, _, _, e⟩ => by subst e; rfl
  have sc := pe_si (pos := pos) hc hN (pi_wp X tg iter) ok (fun s H C cl fp => gB _ ⟨s, H, C, cl, fp, rfl⟩) (fun s H C cl fp => pts_nil) (fun s H C cl fp => eB _ ⟨s, H, C, cl, fp, rfl⟩) hs
  refine ⟨fun σ H en F Q s q => wpE.of (pe_callB (cr_sortedSet hc) hg' hm hv (pa_cons sc pa_nil hs1) hn hdb hs1 hpl) ?_⟩
  generalize hown : own.map (·.2) = ow at *
  refine (hi.run σ H en F _ s q).mono fun J H1 ⟨sr, en1, F1, B, s1, lkd, atB, dr, fr0, kp0, st, I, i0, step, fin⟩ D hD => ?_
  obtain ⟨sK, wK, uK, nB, mB⟩ := lkd.start s1
  generalize hK : lkE sr.lk en1 = eK at *
  have nok : ∀ i ∈ ow, ∀ d, eK[i]? ≠ some (.k d) := fun i hi d z => by
    obtain ⟨sl, e1, e2⟩ := stOk_of st i hi
    rw [z] at e1; cases e1
    rcases e2 with e2 | ⟨_, e2⟩ <;> cases e2
  have sW := sK.wipe nok
  have nB0 : ∀ a ∈ B, ¬ Wr (wipeE ow eK) F1 a := fun a ha z => nB a ha (wr_wipe z)
  have mB0 : MdOk (some sr.tg) (wipeE ow eK) F1 B := mB.wipe nok
  have hDU : ¬ Us (wipeE ow eK) F1 D := fun z => by obtain ⟨o, e, _⟩ := sW.at z; rw [hD] at e; cases e
  have hDB : D ∉ B := fun z => by obtain ⟨o, e⟩ := atB D z; rw [hD] at e; cases e
  have nn : ∀ {H' : Hp} {W' U' : Addr → Prop}, Fr H1 (Wr (wipeE ow eK) F1) (fun a => Us (wipeE ow eK) F1 a ∨ a ∈ B) H' W' U' → ∀ x, H' x = none → Wr (wipeE ow eK) F1 x ∨ H1 x = none := fun fr x h => by
    cases q : H1 x with
    | none => exact .inr rfl
    | some o =>
      by_cases hw : Wr (wipeE ow eK) F1 x
      · exact .inl hw
      · rw [fr.keep x o q hw] at h; cases h
  refine ⟨fun i m H' => m = sr.items.length - i ∧ i ≤ sr.items.length ∧ ∃ acc e F', Ls X.K X.w H1 (wipeE ow eK) F1 (wipe σ ow) B D (I i) acc e F' H', ⟨sr.items.length, by simp, Nat.zero_le _, [], _, F1, sW.grow (Grow.upd hD), upd_same, hDU, ⟨fun b o h _ => Grow.upd hD b o h, fun b h => ?_, fun b h => ?_⟩, Kp.refl _ _, i0⟩, ?_⟩
  · rcases h with h | rfl
    · exact .inl h
    · exact .inr hD
  · rcases h with h | rfl
    · exact .inl (.inl h)
    · exact .inr hD
  rintro i m H' ⟨rfl, hi', acc, e, F', l⟩
  have exA : Ext H1 H' := fun b o h t => l.fr.keep b o h fun z => by
    obtain ⟨o', e', n⟩ := sW.at z.us
    rw [h] at e'; cases e'
    exact n t
  have kA : Kept H1 H' B := fun a ha o h => l.fr.keep a o h (nB0 a ha)
  obtain ⟨go, stp⟩ := dr H' exA kA
  by_cases hlt : i < sr.items.length
  · have hd : sr.items[i]? = some sr.items[i] := List.getElem?_eq_getElem hlt
    obtain ⟨g1, g2⟩ := go i _ hd
    refine .inr ⟨g1, fun H5 => ∃ acc e F', Ls X.K X.w H1 (wipeE ow eK) F1 (wipe σ ow) B D (I (i + 1)) acc e F' H5, fun H5 h5 => ⟨_, by omega, rfl, hlt, h5⟩, fun x H3 hy => ?_⟩
    obtain ⟨gr, C, oC, hC⟩ := g2 x H3 hy
    have frL : Fr H1 (Wr (wipeE ow eK) F1) (fun a => Us (wipeE ow eK) F1 a ∨ a ∈ B) H' (Wr e F') (Us e F') := ⟨l.fr.keep, fun b h => l.fr.wr b (.inl h), fun b h => l.fr.us b (.inl h)⟩
    have mC : MdOk (some sr.tg) e F' C := by
      have := mdok_step mB0 nB0 atB frL (l.kp.kq (σ := wipe σ ow))
      exact ⟨fun j sl h1 h2 h3 a ha hb => this.1 j sl h1 h2 h3 a ha (hC a hb), this.2⟩
    intro Z hZ pins sh u Iv r
    have hZK := kB Z hZ
    have run := (hg Z hZ).run (wipe σ ow) H3 e F' (some sr.tg) _ x C _ (by rw [hZK]; exact l.s.grow gr) (by rw [hZK]; exact oC) mC (step i _ acc e hd l.i)
    refine thn (run pins sh u Iv r) fun _ s4 ⟨σ2, H4, I4, en2, F2, s2, fr2, kq2, sg2, q2⟩ => ⟨σ2, H4, I4, ?_⟩
    rw [hZK] at s2
    have hw2 : wipe σ2 ow = wipe σ ow := by
      refine wipe_eq ?_ fun j hj => ?_
      · rw [← s2.len, kq2.kp.len, l.s.len, wipe_length]
      · rw [sg2 j fun z => hj (hts j z), wipe_out' hj]
    refine ⟨hw2, ?_⟩
    unfold tYes
    refine iteT fun Z3 hZ3 => ?_
    have hZ3K := kB Z3 hZ3
    refine ((he Z3 hZ3).run σ2 H4 en2 F2 _ (by rw [hZ3K]; exact s2) q2).mono fun v H6 ⟨d', en4, F4, B4, s4, o4, off4, fr4, kp4, i4⟩ => ?_
    rw [hZ3K] at s4 o4
    obtain ⟨c, rfl, hc0, i5⟩ := asI_of o4 i4
    have f2 : Fr H3 (Wr e F') (fun a => Us e F' a ∨ a ∈ B) H4 (Wr en2 F2) (Us en2 F2) := ⟨fun b o h hn => fr2.keep b o h fun z => z.elim hn fun z => (nomatch z.1), fun b h => (fr2.wr b h).imp (fun z => z.elim id fun z => (nomatch z.1)) id, fun b h => (fr2.us b h).imp (fun z => z.imp id (hC b)) id⟩
    have frG : Fr H' (Wr e F') (fun a => Us e F' a ∨ a ∈ B) H3 (Wr e F') (fun a => Us e F' a ∨ a ∈ B) := ⟨fun b o h _ => gr b o h, fun b h => .inl h, fun b h => .inl h⟩
    have f3 : Fr H' (Wr e F') (fun a => Us e F' a ∨ a ∈ B) H4 (Wr en2 F2) (Us en2 F2) := frG.trans f2 (fun _ h => .inl h.us) (fun _ h => h) (fun _ h => h) (fun _ h => .inl h) (fun _ h => .inl h)
    have f6 : Fr H' (Wr e F') (fun a => Us e F' a ∨ a ∈ B) H6 (Wr en4 F4) (Us en4 F4) := f3.trans fr4 (fun _ h => .inl h.us) (fun _ h => h) (fun _ h => h) (fun _ h => .inl (.inl h)) (fun _ h => .inl (.inl h))
    have kp6 : Kp (wipeE ow eK) F1 en4 F4 := l.kp.trans (kq2.kp.trans kp4)
    have nokE : ∀ i ∈ ow, ∀ d, en4[i]? ≠ some (.k d) := fun i hi d z => by
      rcases wipeE_get (kp6.kb i d z) with ⟨_, q⟩ | ⟨q, _⟩
      · cases q
      · exact q hi
    have hDB' : D ∉ B := hDB
    have x1 : H6 D = some (SetA X.w D acc) := f6.keep D _ l.lst fun z => l.off z.us
    have x3 : ¬ Us en4 F4 D := fun z => by
      rcases f6.us D z with (q | q) | q
      · exact l.off q
      · exact hDB q
      · rw [l.lst] at q; cases q
    refine ⟨c, acc, rfl, hc0, x1, acc ++ [c], wipeE ow en4, F4, ?_, upd_same, fun z => x3 (us_wipe z), ?_, kp6.wipe, i5⟩
    · have sw := s4.wipe nokE
      rw [hw2] at sw
      exact sw.updOff' x1 not_tup fun z => x3 (us_wipe z)
    · refine ⟨fun b o h hn => ?_, fun a h => ?_, fun a h => ?_⟩
      · have hb : b ≠ D := fun z => by subst z; rw [hD] at h; cases h
        rw [upd_ne hb]
        refine f6.keep b o (l.fr.keep b o h hn) fun z => ?_
        rcases l.fr.wr b (.inl z) with q | q
        · exact hn q
        · rw [h] at q; cases q
      · rcases h with h | rfl
        · rcases f6.wr a (wr_wipe h) with q | q
          · exact l.fr.wr a (.inl q)
          · exact nn l.fr a q
        · exact .inr hD
      · rcases h with h | rfl
        · rcases f6.us a (us_wipe h) with (q | q) | q
          · exact l.fr.us a (.inl q)
          · exact .inl (.inr q)
          · exact (nn l.fr a q).imp (fun z => .inl z.us) id
        · exact .inr hD
  · have ei : i = sr.items.length := by omega
    subst ei
    refine .inl ⟨stp, ?_⟩
    have sR := sK.rst exA st l.s
    have kR := l.kp.rst st
    subst hK
    refine ⟨D, _, cntI acc, rfl, l.lst, Nat.lt_succ_of_le (cntI_le acc), fun ns p hp hmem hl hpn => ?_⟩
    have hq := fin acc e l.i ns hp fun k => by rw [hmem]; simp
    have gp : Grow H' (upd H' p (.lst (ns.map V.int))) := Grow.upd hpn
    have hfr : Fr H1 (Wr (lkE sr.lk en1) F1) (fun a => Us (lkE sr.lk en1) F1 a ∨ a ∈ B) H' (fun a => Wr e F' a ∨ a = D) (fun a => Us e F' a ∨ a = D) :=
      ⟨fun b o h hn => l.fr.keep b o h fun z => hn (wr_wipe z), fun b h => (l.fr.wr b h).imp wr_wipe id, fun b h => (l.fr.us b h).imp (fun z => z.imp us_wipe id) id⟩
    obtain ⟨z1, z2, z3, z4⟩ := lkd.stop (W' := fun a => Wr e F' a ∨ a = D) (U' := fun a => Us e F' a ∨ a = D) s1 sR (kR.kq (σ := σ)) hfr (fun a h => .inl (wr_rst st h)) (fun a h => .inl (us_rst st h))
    have fr1 : Fr H (Wr en F) (Us en F) H' (fun a => Wr (unE sr.lk (rstE ow (lkE sr.lk en1) e)) (clr ow F') a ∨ a = D) (fun a => Us (unE sr.lk (rstE ow (lkE sr.lk en1) e)) (clr ow F') a ∨ a = D) := by
      refine fr0.trans l.fr (fun _ => Wr.us) (fun a h => wK a (wr_wipe h)) (fun a h => h.imp (fun z => uK a (us_wipe z)) id) (fun a h => ?_) (fun a h => ?_)
      · rcases h with h | h
        · exact (z3 a h).imp (fun z => .inl (wr_rst st z)) id
        · exact .inl (.inr h)
      · rcases h with h | h
        · exact .inl (.inl (us_rst st (z4 a h)))
        · exact .inl (.inr h)
    refine EPo.fin z1 fr1 (fun _ h => .inl h) (fun _ h => .inl h) (kp0.trans z2.kp) gp (d := .l (ns.map P.int)) (B := [p]) (own_l upd_same (RepPs.of_ints ns)) (by simpa using hpn) hq
end
end VL
/-! Eng17: promises in a plain form, calls by a callee's card, the words for stepping through a reading. -/
namespace VL
open PySem PySem.Spec PyProof.Rows L2
/-- a promise by ghosts: arguments, what is asked of them, what then holds of the value and of the changed list -/
def DsOf {G : Type} (args : G → List D) (pre : G → Prop) (post : G → D → D → Prop) : DS := fun as Q => ∃ g, as = args g ∧ pre g ∧ ∀ d o, post g d o → Q d o
theorem DsOf.mono {G : Type} {args : G → List D} {pre : G → Prop} {post : G → D → D → Prop} : DsMono (DsOf args pre post) := fun _ _ _ k ⟨g, h1, h2, h3⟩ => ⟨g, h1, h2, fun d o h => k d o (h3 d o h)⟩
/-- what a caller knows of a def -/
structure Cd (P : Program) (w : World) (K : PySem.W.Frag) (mg : Str → Option Value) (base : Heap) (x : Str) (k : Nat) (ps : List Str) (mp : Option Nat) (n : Nat) (ds : DS) : Prop where
  ok : ∃ f fd, FnOk P w K mg base CX0 k f fd ps (spOf K mp n ds) ∧ mg x = some (.ref f) ∧ PySem.W.keepIn K (.ref f) = true ∧ Binds K fd ps []
section
variable {X : Cx} {e : Expr} {es : List Expr} {pos p : Pos} {t : VT} {scope : Scope} {ts : List Nat} {g : VG} {tt : VTst}
theorem q_own {x : Str} {a : Expr} {k n : Nat} {ps : List Str} {mp : Option Nat} {ds : DS} {t : VRs} (mono : DsMono ds) (C : Cd X.prog X.w X.K X.mg X.base x k ps mp n ds) (hr : Room k X.A) (hg : Gl X x) (ha : QRs X (a :: es) t)
    (hmn : ∀ m, mp = some m → m < n) (hln : (a :: es).length = n := by rfl) (hdb : (x == ("__debug__" : Str)) = false := by decide) (he : starEach (a :: es) X.env = (false, eval a X.env) :: starEach es X.env := by rfl) (hpl : (backTo pos (starEach es X.env)).any (·.1) = false := by rfl) :
    QE X (.Call (.Name x p) (a :: es) [] pos) (tCallV mp ds t) := by
  obtain ⟨f, fd, G, hm, hk, hb⟩ := C.ok
  exact q_call mono G hr hmn hln hg hm hk hb ha hdb he hpl
theorem mp0 {n : Nat} : ∀ m, (none : Option Nat) = some m → m < n := fun m h => by cases h
theorem mpS {i n : Nat} (h : i < n) : ∀ m, (some i : Option Nat) = some m → m < n := fun m e => by cases e; exact h
theorem blkE (h : ∀ (s : Shared) (H : Hp) (C : Addr) (cl : List (Str × Addr)) (fp : List Addr), QE (X.blk s H scope (compEnvC scope cl C X.env) fp) e t) : ∀ Z, Blk X scope Z → QE Z e t := fun Z ⟨s, H, C, cl, fp, q⟩ => by rw [q]; exact h s H C cl fp
theorem blkG (h : ∀ (s : Shared) (H : Hp) (C : Addr) (cl : List (Str × Addr)) (fp : List Addr), QG (X.blk s H scope (compEnvC scope cl C X.env) fp) e g ts) : ∀ Z, Blk X scope Z → QG Z e g ts := fun Z ⟨s, H, C, cl, fp, q⟩ => by rw [q]; exact h s H C cl fp
theorem blkT {ifs : List Expr} (h : ∀ (s : Shared) (H : Hp) (C : Addr) (cl : List (Str × Addr)) (fp : List Addr), QTs (X.blk s H scope (compEnvC scope cl C X.env) fp) ifs tt) : ∀ Z, Blk X scope Z → QTs Z ifs tt := fun Z ⟨s, H, C, cl, fp, q⟩ => by rw [q]; exact h s H C cl fp
end
theorem hu64 {A : Around} {k : Nat} (hr : Room k A) : A.units + 64 < cLine := hr.units
/-! the law's own card -/
def dsLaw : DS := DsOf (G := List Int) (fun ns => [.s ns]) (fun ns => ns.length ≤ 63) fun _ d _ => d = .p (.bl true)
theorem law_start {K : PySem.W.Frag} {H : Hp} {a : Addr} {ns : List Int} (hl : ns.length ≤ 63) (hS : SqL K H a (ns.map V.int)) : spOf K none 1 dsLaw [.ref a] H (fun v _ => v = .bl true) fun _ _ _ => False := by
  have fin : ∀ B : List Addr, Own K H (.s ns) (.ref a) B → spOf K none 1 dsLaw [.ref a] H (fun v _ => v = .bl true) fun _ _ _ => False := fun B o => by
    refine ⟨[.s ns], fun _ => B, rfl, rfl, fun i a' v h1 h2 => ?_, fun m h => (by cases h), ns, rfl, hl, fun d o h v H' B C oB _ _ _ _ _ => ?_⟩
    · cases i with
      | zero => cases h1; cases h2; exact o
      | succ i => simp at h1
    · subst h
      exact oB.2
  rcases hS with (h | ⟨o, h⟩) | h
  · exact fin [a] ⟨a, rfl, .inl ⟨rfl, .inl h⟩⟩
  · exact fin [a] ⟨a, rfl, .inl ⟨rfl, .inr ⟨o, h⟩⟩⟩
  · exact fin [] ⟨a, rfl, .inr ⟨rfl, h⟩⟩
end VL
/-! Eng18: the readings, step by step. Printed by genw.py. -/
namespace VL
open PySem PySem.Spec PyProof.Rows L2
def callK (mp : Option Nat) (ds : DS) (o : Option (List D)) (rs : List Rf) (en : En) (Q : D → En → Prop) : Prop := match o with
  | some as => match mp with
    | none => ds as fun d _ => Q d en
    | some m => callM ds as rs[m]? m rs en Q
  | none => False
def itV (d : D) (q : Sr → Prop) : Prop := match itD d with
  | some xs => q ⟨xs, none, 0⟩
  | none => False
def itN (j : Nat) (o : Option Sl) (q : Sr → Prop) : Prop := match o with
  | some (.o d) => match itD d with
    | some xs => q ⟨xs, some (j, .o d), j + 1⟩
    | none => False
  | some (.b d) => match itD d with
    | some xs => q ⟨xs, some (j, .b d), j + 1⟩
    | none => False
  | some (.r g d) => match itD d with
    | some xs => q ⟨xs, none, g⟩
    | none => False
  | some (.k d) => match itD d with
    | some xs => q ⟨xs, none, j + 1⟩
    | none => False
  | _ => False
def stS (o : Option Sl) : Prop := match o with
  | some .e => True
  | some (.o (.p _)) => True
  | _ => False
def outS (o : Option Sl) : D := match o with
  | some (.b d) => d
  | _ => .p .non
theorem W0 {t u : VS} {D0 : VE} {en : En} : vSeq t u D0 en = t { D0 with nx := u D0 } en := rfl
theorem W1 {D0 : VE} {en : En} : vNext D0 en = D0.nx en := rfl
theorem W2 {D0 : VE} {en : En} : vBrk D0 en = D0.bk en := rfl
theorem W3 {D0 : VE} {en : En} : vCont D0 en = D0.ct en := rfl
theorem W4 {t : VT} {D0 : VE} {en : En} : vRet t D0 en = t en fun d en1 => D0.rt d en1 := rfl
theorem W5 {D0 : VE} {en : En} : vRetN D0 en = D0.rt (.p .non) en := rfl
theorem W6 {t : VT} {D0 : VE} {en : En} : vExpr t D0 en = t en fun _ en1 => D0.nx en1 := rfl
theorem W7 {t u : VS} {D0 : VE} {en : En} : ifS true t u D0 en = t D0 en := rfl
theorem W8 {t u : VS} {D0 : VE} {en : En} : ifS false t u D0 en = u D0 en := rfl
theorem W9 {c : VTst} {t u : VS} {D0 : VE} {en : En} : vIf c t u D0 en = c en fun b en1 => ifS b t u D0 en1 := rfl
theorem W10 {i : Nat} {t : VT} {D0 : VE} {en : En} : vSet i t D0 en = t en fun d en1 => putK en1[i]? (D0.nx (en1.set i (.o d))) := rfl
theorem W11 {g : VG} {t : VT} {D0 : VE} {en : En} : vAsg t g D0 en = t en fun d en1 => g none d en1 D0.nx := rfl
theorem W12 {i : Nat} {t : VT} {f : F2} {D0 : VE} {en : En} : vAug i t f D0 en = rdP en[i]? fun x => t en fun d en1 => f (.p x) d fun z => pOf z fun z => putK en1[i]? (D0.nx (en1.set i (.o (.p z)))) := rfl
theorem W13 {j : Nat} {ti t : VT} {f : F2} {D0 : VE} {en : En} : vAugS j ti t f D0 en = lst0 en[j]? (ti en fun di en1 => asI di fun i => lstS en1[j]? fun xs _ => getQ (atI xs i) fun x => t en1 fun d en2 => f (.p x) d fun z => pOf z fun z => lstS en2[j]? fun ys mk => ixQ (ixN ys.length i) fun k => D0.nx (en2.set j (mk (ys.set k z)))) := rfl
theorem W14 {q : Prop} : putK (some .e) q = q := rfl
theorem W15 {d : D} {q : Prop} : putK (some (.o d)) q = q := rfl
theorem W16 {d : D} {g : Nat} {q : Prop} : putK (some (.r g d)) q = q := rfl
theorem W17 {x : P} {en : En} {Q : D → En → Prop} : tC x en Q = Q (.p x) en := rfl
theorem W18 {i : Nat} {en : En} {Q : D → En → Prop} : tVar i en Q = rdS en[i]? en i Q := rfl
theorem W19 {x : P} {en : En} {i : Nat} {Q : D → En → Prop} : rdS (some (.o (.p x))) en i Q = Q (.p x) en := rfl
theorem W20 {x : P} {en : En} {i : Nat} {Q : D → En → Prop} : rdS (some (.b (.p x))) en i Q = Q (.p x) en := rfl
theorem W21 {x : P} {en : En} {i : Nat} {Q : D → En → Prop} : rdS (some (.k (.p x))) en i Q = Q (.p x) en := rfl
theorem W22 {x : P} {g : Nat} {en : En} {i : Nat} {Q : D → En → Prop} : rdS (some (.r g (.p x))) en i Q = Q (.p x) en := rfl
theorem W23 {x : List P} {en : En} {i : Nat} {Q : D → En → Prop} : rdS (some (.o (.l x))) en i Q = Q (.l x) (en.set i .e) := rfl
theorem W24 {x : List D} {en : En} {i : Nat} {Q : D → En → Prop} : rdS (some (.o (.ll x))) en i Q = Q (.ll x) (en.set i .e) := rfl
theorem W25 {x : List D} {en : En} {i : Nat} {Q : D → En → Prop} : rdS (some (.o (.t x))) en i Q = Q (.t x) (en.set i .e) := rfl
theorem W26 {x : List (Key × P)} {en : En} {i : Nat} {Q : D → En → Prop} : rdS (some (.o (.d x))) en i Q = Q (.d x) (en.set i .e) := rfl
theorem W27 {x : List (List Key × P)} {en : En} {i : Nat} {Q : D → En → Prop} : rdS (some (.o (.dt x))) en i Q = Q (.dt x) (en.set i .e) := rfl
theorem W28 {x : List Int} {en : En} {i : Nat} {Q : D → En → Prop} : rdS (some (.o (.s x))) en i Q = Q (.s x) (en.set i .e) := rfl
theorem W29 {t : VT} {en : En} {Q : Rf → En → Prop} : tRv t en Q = t en fun d en1 => Q (.v d) en1 := rfl
theorem W30 {j : Nat} {en : En} {Q : Rf → En → Prop} : tRn j en Q = isD en[j]? (Q (.n j) en) := rfl
theorem W31 {d : D} {q : Prop} : isD (some (.o d)) q = q := rfl
theorem W32 {d : D} {q : Prop} : isD (some (.b d)) q = q := rfl
theorem W33 {d : D} {q : Prop} : isD (some (.k d)) q = q := rfl
theorem W34 {d : D} {g : Nat} {q : Prop} : isD (some (.r g d)) q = q := rfl
theorem W35 {d : D} {en : En} : Rf.get (.v d) en = some d := rfl
theorem W36 {j : Nat} {en : En} : Rf.get (.n j) en = (en[j]?).bind Sl.dat := rfl
theorem W37 {d : D} : Sl.dat (.o d) = some d := rfl
theorem W38 {d : D} : Sl.dat (.b d) = some d := rfl
theorem W39 {d : D} : Sl.dat (.k d) = some d := rfl
theorem W40 {d : D} {g : Nat} : Sl.dat (.r g d) = some d := rfl
theorem W41 {f : F2} {ta tb : VR} {en : En} {Q : D → En → Prop} : tBin f ta tb en Q = ta en fun r1 en1 => tb en1 fun r2 en2 => bin2 f (r1.get en2) (r2.get en2) fun z => Q z en2 := rfl
theorem W42 {f : F2} {x y : D} {k : D → Prop} : bin2 f (some x) (some y) k = f x y k := rfl
theorem W43 {f : F1} {ta : VR} {en : En} {Q : D → En → Prop} : tUn f ta en Q = ta en fun r1 en1 => un1 f (r1.get en1) fun z => Q z en1 := rfl
theorem W44 {f : F1} {x : D} {k : D → Prop} : un1 f (some x) k = f x k := rfl
theorem W45 {i j : Int} {k : D → Prop} : addF (.p (.int i)) (.p (.int j)) k = k (.p (.int (i + j))) := rfl
theorem W46 {i j : Str} {k : D → Prop} : addF (.p (.str i)) (.p (.str j)) k = (i.length + j.length ≤ sizeLine ∧ k (.p (.str (i ++ j)))) := rfl
theorem W47 {i j : List P} {k : D → Prop} : addF (.p (.tup i)) (.p (.tup j)) k = (i.length + j.length ≤ sizeLine ∧ k (.p (.tup (i ++ j)))) := rfl
theorem W48 {i j : List P} {k : D → Prop} : addF (.l i) (.l j) k = (i.length + j.length ≤ sizeLine ∧ k (.l (i ++ j))) := rfl
theorem W49 {i j : Int} {k : D → Prop} : iaddF (.p (.int i)) (.p (.int j)) k = k (.p (.int (i + j))) := rfl
theorem W50 {i j : Str} {k : D → Prop} : iaddF (.p (.str i)) (.p (.str j)) k = (i.length + j.length ≤ sizeLine ∧ k (.p (.str (i ++ j)))) := rfl
theorem W51 {i j : Int} {k : D → Prop} : subF (.p (.int i)) (.p (.int j)) k = k (.p (.int (i - j))) := rfl
theorem W52 {i j : Int} {k : D → Prop} : mulF (.p (.int i)) (.p (.int j)) k = (MulOk i j ∧ k (.p (.int (i * j)))) := rfl
theorem W53 {i : List P} {j : Int} {k : D → Prop} : mulF (.l i) (.p (.int j)) k = (-(2 ^ 63) ≤ j ∧ j < 2 ^ 63 ∧ i.length * j.toNat ≤ sizeLine ∧ k (.l (List.replicate j.toNat i).flatten)) := rfl
theorem W54 {i j : Int} {k : D → Prop} : fdivF (.p (.int i)) (.p (.int j)) k = ((0 < j ∧ j.natAbs.log2 < 9000) ∧ k (.p (.int (i / j)))) := rfl
theorem W55 {i j : Int} {k : D → Prop} : modF (.p (.int i)) (.p (.int j)) k = (0 < j ∧ k (.p (.int (i % j)))) := rfl
theorem W56 {i : Int} {k : D → Prop} : negF (.p (.int i)) k = k (.p (.int (-i))) := rfl
theorem W57 {i j : Int} {k : D → Prop} : ltF (.p (.int i)) (.p (.int j)) k = k (.p (.bl (decide (i < j)))) := rfl
theorem W58 {i j : Int} {k : D → Prop} : leF (.p (.int i)) (.p (.int j)) k = k (.p (.bl (decide (i ≤ j)))) := rfl
theorem W59 {i j : Int} {k : D → Prop} : gtF (.p (.int i)) (.p (.int j)) k = k (.p (.bl (decide (j < i)))) := rfl
theorem W60 {i j : Int} {k : D → Prop} : geF (.p (.int i)) (.p (.int j)) k = k (.p (.bl (decide (j ≤ i)))) := rfl
theorem W61 {x y : P} {k : D → Prop} : eqF (.p x) (.p y) k = eqK x y fun b => k (.p (.bl b)) := rfl
theorem W62 {x y : List P} {k : D → Prop} : eqF (.l x) (.l y) k = ((shL x = true ∧ shL y = true) ∧ k (.p (.bl (eqPs x y)))) := rfl
theorem W63 {x y : P} {k : D → Prop} : neF (.p x) (.p y) k = eqK x y fun b => k (.p (.bl (!b))) := rfl
theorem W64 {x y : List P} {k : D → Prop} : neF (.l x) (.l y) k = ((shL x = true ∧ shL y = true) ∧ k (.p (.bl (!eqPs x y)))) := rfl
theorem W65 {i j : Int} {q : Bool → Prop} : eqK (.int i) (.int j) q = q (decide (i = j)) := rfl
theorem W66 {i j : Str} {q : Bool → Prop} : eqK (.str i) (.str j) q = q (decide (i = j)) := rfl
theorem W67 {i j : List P} {q : Bool → Prop} : eqK (.tup i) (.tup j) q = ((shP (.tup i) = true ∧ shP (.tup j) = true) ∧ q (eqP (.tup i) (.tup j))) := rfl
theorem W68 {i : List P} {j : Int} {q : Bool → Prop} : eqK (.tup i) (.int j) q = ((shP (.tup i) = true ∧ shP (.int j) = true) ∧ q (eqP (.tup i) (.int j))) := rfl
theorem W69 {x : P} {k : D → Prop} : isNF (.p x) (.p .non) k = k (.p (.bl (isN x))) := rfl
theorem W70 {x : P} {k : D → Prop} : notNF (.p x) (.p .non) k = k (.p (.bl (!isN x))) := rfl
theorem W71 {b : Bool} {x : P} {ys : List P} {k : D → Prop} : inF b (.p x) (.l ys) k = ((flP x = true ∧ ys.all flP = true) ∧ k (.p (.bl (if b then !inP x ys else inP x ys)))) := rfl
theorem W72 {b : Bool} {x : P} {ys : List P} {k : D → Prop} : inF b (.p x) (.p (.tup ys)) k = ((flP x = true ∧ ys.all flP = true) ∧ k (.p (.bl (if b then !inP x ys else inP x ys)))) := rfl
theorem W73 {b : Bool} {i : Int} {kvs : List (Key × P)} {k : D → Prop} : dinF b (.p (.int i)) (.d kvs) k = k (.p (.bl (if b then !(lookP kvs (.inl i)).isSome else (lookP kvs (.inl i)).isSome))) := rfl
theorem W74 {i : Int} {kvs : List (Key × P)} {k : D → Prop} : dgF (.d kvs) (.p (.int i)) k = getK (lookP kvs (.inl i)) k := rfl
theorem W75 {en : En} {Q : D → En → Prop} : tDnew en Q = Q (.d []) en := rfl
theorem W76 {kvs : List (Key × P)} {k : D → Prop} : dlenF (.d kvs) k = k (.p (.int (kvs.length : Nat))) := rfl
theorem W77 {b : Bool} {q : Bool → Prop} : tst (.p (.bl b)) q = q b := rfl
theorem W78 {t : VT} {en : En} {Q : Bool → En → Prop} : tTst t en Q = t en fun d en1 => tst d fun b => Q b en1 := rfl
theorem W79 {t : VTst} {en : En} {Q : Bool → En → Prop} : tNot t en Q = t en fun c en1 => Q (!c) en1 := rfl
theorem W80 {t u : VTst} {en : En} {Q : Bool → En → Prop} : tAnd t u en Q = t en fun c en1 => andK c u en1 Q := rfl
theorem W81 {t u : VTst} {en : En} {Q : Bool → En → Prop} : tOr t u en Q = t en fun c en1 => orK c u en1 Q := rfl
theorem W82 {u : VTst} {en : En} {Q : Bool → En → Prop} : andK true u en Q = u en Q := rfl
theorem W83 {u : VTst} {en : En} {Q : Bool → En → Prop} : andK false u en Q = Q false en := rfl
theorem W84 {u : VTst} {en : En} {Q : Bool → En → Prop} : orK true u en Q = Q true en := rfl
theorem W85 {u : VTst} {en : En} {Q : Bool → En → Prop} : orK false u en Q = u en Q := rfl
theorem W86 {t u : VT} {en : En} {Q : D → En → Prop} : tAndV t u en Q = t en fun d en1 => andV d u en1 Q := rfl
theorem W87 {t u : VT} {en : En} {Q : D → En → Prop} : tOrV t u en Q = t en fun d en1 => orV d u en1 Q := rfl
theorem W88 {u : VT} {en : En} {Q : D → En → Prop} : andV (.p (.bl true)) u en Q = u en Q := rfl
theorem W89 {u : VT} {en : En} {Q : D → En → Prop} : andV (.p (.bl false)) u en Q = Q (.p (.bl false)) en := rfl
theorem W90 {u : VT} {en : En} {Q : D → En → Prop} : orV (.p (.bl true)) u en Q = Q (.p (.bl true)) en := rfl
theorem W91 {u : VT} {en : En} {Q : D → En → Prop} : orV (.p (.bl false)) u en Q = u en Q := rfl
theorem W92 {t : VT} {en : En} {Q : D → En → Prop} : tNotV t en Q = t en fun d en1 => notV d fun z => Q z en1 := rfl
theorem W93 {b : Bool} {k : D → Prop} : notV (.p (.bl b)) k = k (.p (.bl (!b))) := rfl
theorem W94 {c : VTst} {t u : VT} {en : En} {Q : D → En → Prop} : tIf c t u en Q = c en fun b en1 => ifK b t u en1 Q := rfl
theorem W95 {t u : VT} {en : En} {Q : D → En → Prop} : ifK true t u en Q = t en Q := rfl
theorem W96 {t u : VT} {en : En} {Q : D → En → Prop} : ifK false t u en Q = u en Q := rfl
theorem W97 {en : En} {Q : List D → En → Prop} : tANil en Q = Q [] en := rfl
theorem W98 {t : VT} {u : VA} {en : En} {Q : List D → En → Prop} : tACons t u en Q = t en fun d en1 => u en1 fun ds en2 => Q (d :: ds) en2 := rfl
theorem W99 {u : VA} {en : En} {Q : D → En → Prop} : tTup u en Q = u en fun ds en1 => ds.length ≤ sizeLine ∧ Q (mkT ds) en1 := rfl
theorem W100 {u : VA} {en : En} {Q : D → En → Prop} : tLst u en Q = u en fun ds en1 => ds.length ≤ sizeLine ∧ Q (mkL ds) en1 := rfl
theorem W101  : mkT [] = .p (.tup []) := rfl
theorem W102  : mkL [] = .l [] := rfl
theorem W103 {a : P} : mkT [.p a] = .p (.tup [a]) := rfl
theorem W104 {a : P} : mkL [.p a] = .l [a] := rfl
theorem W105 {a b : P} : mkT [.p a, .p b] = .p (.tup [a, b]) := rfl
theorem W106 {a b : P} : mkL [.p a, .p b] = .l [a, b] := rfl
theorem W107 {a b c : P} : mkT [.p a, .p b, .p c] = .p (.tup [a, b, c]) := rfl
theorem W108 {a b c : P} : mkL [.p a, .p b, .p c] = .l [a, b, c] := rfl
theorem W109 {a b c e : P} : mkT [.p a, .p b, .p c, .p e] = .p (.tup [a, b, c, e]) := rfl
theorem W110 {a b c e : P} : mkL [.p a, .p b, .p c, .p e] = .l [a, b, c, e] := rfl
theorem W111 {a b c e f : P} : mkT [.p a, .p b, .p c, .p e, .p f] = .p (.tup [a, b, c, e, f]) := rfl
theorem W112 {a b c e f : P} : mkL [.p a, .p b, .p c, .p e, .p f] = .l [a, b, c, e, f] := rfl
theorem W113 {a b c e f g : P} : mkT [.p a, .p b, .p c, .p e, .p f, .p g] = .p (.tup [a, b, c, e, f, g]) := rfl
theorem W114 {a b c e f g : P} : mkL [.p a, .p b, .p c, .p e, .p f, .p g] = .l [a, b, c, e, f, g] := rfl
theorem W115 {a b c e f g h : P} : mkT [.p a, .p b, .p c, .p e, .p f, .p g, .p h] = .p (.tup [a, b, c, e, f, g, h]) := rfl
theorem W116 {a b c e f g h : P} : mkL [.p a, .p b, .p c, .p e, .p f, .p g, .p h] = .l [a, b, c, e, f, g, h] := rfl
theorem W117 {a b c e f g h i : P} : mkT [.p a, .p b, .p c, .p e, .p f, .p g, .p h, .p i] = .p (.tup [a, b, c, e, f, g, h, i]) := rfl
theorem W118 {a b c e f g h i : P} : mkL [.p a, .p b, .p c, .p e, .p f, .p g, .p h, .p i] = .l [a, b, c, e, f, g, h, i] := rfl
theorem W119 {a b c e f g h i j : P} : mkT [.p a, .p b, .p c, .p e, .p f, .p g, .p h, .p i, .p j] = .p (.tup [a, b, c, e, f, g, h, i, j]) := rfl
theorem W120 {a b c e f g h i j : P} : mkL [.p a, .p b, .p c, .p e, .p f, .p g, .p h, .p i, .p j] = .l [a, b, c, e, f, g, h, i, j] := rfl
theorem W121 {a b c e f g h i j k : P} : mkT [.p a, .p b, .p c, .p e, .p f, .p g, .p h, .p i, .p j, .p k] = .p (.tup [a, b, c, e, f, g, h, i, j, k]) := rfl
theorem W122 {a b c e f g h i j k : P} : mkL [.p a, .p b, .p c, .p e, .p f, .p g, .p h, .p i, .p j, .p k] = .l [a, b, c, e, f, g, h, i, j, k] := rfl
theorem W123 {x : List P} {y : List P} : mkT [.l x, .l y] = .t [.l x, .l y] := rfl
theorem W124 {x : List P} {y : List D} : mkT [.l x, .ll y] = .t [.l x, .ll y] := rfl
theorem W125 {x : List P} {y : List (Key × P)} : mkT [.l x, .d y] = .t [.l x, .d y] := rfl
theorem W126 {x : List P} {y : P} : mkT [.l x, .p y] = .t [.l x, .p y] := rfl
theorem W127 {x : List P} {y : P} : mkT [.p y, .l x] = .t [.p y, .l x] := rfl
theorem W128 {x : List D} {y : List P} : mkT [.ll x, .l y] = .t [.ll x, .l y] := rfl
theorem W129 {x : List D} {y : List D} : mkT [.ll x, .ll y] = .t [.ll x, .ll y] := rfl
theorem W130 {x : List D} {y : List (Key × P)} : mkT [.ll x, .d y] = .t [.ll x, .d y] := rfl
theorem W131 {x : List D} {y : P} : mkT [.ll x, .p y] = .t [.ll x, .p y] := rfl
theorem W132 {x : List D} {y : P} : mkT [.p y, .ll x] = .t [.p y, .ll x] := rfl
theorem W133 {x : List (Key × P)} {y : List P} : mkT [.d x, .l y] = .t [.d x, .l y] := rfl
theorem W134 {x : List (Key × P)} {y : List D} : mkT [.d x, .ll y] = .t [.d x, .ll y] := rfl
theorem W135 {x : List (Key × P)} {y : List (Key × P)} : mkT [.d x, .d y] = .t [.d x, .d y] := rfl
theorem W136 {x : List (Key × P)} {y : P} : mkT [.d x, .p y] = .t [.d x, .p y] := rfl
theorem W137 {x : List (Key × P)} {y : P} : mkT [.p y, .d x] = .t [.p y, .d x] := rfl
theorem W138 {x : P} {k : D → Prop} : getK (some x) k = k (.p x) := rfl
theorem W139 {x : P} {k : D → Prop} : getD (some (.p x)) k = k (.p x) := rfl
theorem W140 {x : Nat} {k : D → Prop} : getC (some x) k = k (.p (.str ⟨#[x]⟩)) := rfl
theorem W141 {x : P} {q : P → Prop} : getQ (some x) q = q x := rfl
theorem W142 {x : Nat} {q : Nat → Prop} : ixQ (some x) q = q x := rfl
theorem W143 {x : P} {q : P → Prop} : pOf (.p x) q = q x := rfl
theorem W144 {xs : List P} {i : Int} {k : D → Prop} : ixF (.l xs) (.p (.int i)) k = getK (atI xs i) k := rfl
theorem W145 {xs : List P} {i : Int} {k : D → Prop} : ixF (.p (.tup xs)) (.p (.int i)) k = getK (atI xs i) k := rfl
theorem W146 {xs : List D} {i : Int} {k : D → Prop} : ixF (.ll xs) (.p (.int i)) k = getD (atI xs i) k := rfl
theorem W147 {z : Str} {i : Int} {k : D → Prop} : ixF (.p (.str z)) (.p (.int i)) k = (z.length ≤ sizeLine ∧ getC (atI z.cps.toList i) k) := rfl
theorem W148 {i : Int} {q : Int → Prop} : asI (.p (.int i)) q = q i := rfl
theorem W149 {en : En} {Q : Option Int → En → Prop} : tO0 en Q = Q none en := rfl
theorem W150 {t : VT} {en : En} {Q : Option Int → En → Prop} : tO1 t en Q = t en fun d en1 => asI d fun i => Q (some i) en1 := rfl
theorem W151 {ta : VR} {tl th : VO} {en : En} {Q : D → En → Prop} : tSl ta tl th en Q = ta en fun r1 en1 => tl en1 fun lo en2 => th en2 fun hi en3 => un1 (fun d k => slF d lo hi k) (r1.get en3) fun z => Q z en3 := rfl
theorem W152 {xs : List P} {lo hi : Option Int} {k : D → Prop} : slF (.l xs) lo hi k = k (.l (cutL xs lo hi)) := rfl
theorem W153 {xs : List P} {lo hi : Option Int} {k : D → Prop} : slF (.p (.tup xs)) lo hi k = k (.p (.tup (cutL xs lo hi))) := rfl
theorem W154 {xs : List Int} {lo hi : Option Int} {k : D → Prop} : slF (.s xs) lo hi k = k (.l (cutL (xs.map P.int) lo hi)) := rfl
theorem W155 {xs : List P} {k : D → Prop} : lenF (.p (.tup xs)) k = k (.p (.int xs.length)) := rfl
theorem W156 {xs : List P} {k : D → Prop} : lenF (.l xs) k = k (.p (.int xs.length)) := rfl
theorem W157 {xs : List D} {k : D → Prop} : lenF (.ll xs) k = k (.p (.int xs.length)) := rfl
theorem W158 {xs : List Int} {k : D → Prop} : lenF (.s xs) k = k (.p (.int xs.length)) := rfl
theorem W159 {xs : List D} {k : D → Prop} : lenF (.t xs) k = k (.p (.int xs.length)) := rfl
theorem W160 {i : Int} {k : D → Prop} : intF (.p (.int i)) k = k (.p (.int i)) := rfl
theorem W161 {b : Bool} {k : D → Prop} : intF (.p (.bl b)) k = k (.p (.int (if b then 1 else 0))) := rfl
theorem W162 {i : Int} {k : D → Prop} : strF (.p (.int i)) k = (i.natAbs.log2 < 1920 ∧ k (.p (.str (toString i)))) := rfl
theorem W163 {i j : Int} {k : D → Prop} : maxF (.p (.int i)) (.p (.int j)) k = k (.p (.int (max i j))) := rfl
theorem W164 {i j : Int} {k : D → Prop} : minF (.p (.int i)) (.p (.int j)) k = k (.p (.int (min i j))) := rfl
theorem W165 {i : Int} {k : D → Prop} : absF (.p (.int i)) k = k (.p (.int (if i < 0 then -i else i))) := rfl
theorem W166 {xs : List P} {k : D → Prop} : sumF (.l xs) k = (∃ ns : List Int, xs = ns.map P.int ∧ k (.p (.int ns.sum))) := rfl
theorem W167 {xs : List P} {k : D → Prop} : sortF (.l xs) k = (∃ ns : List Int, xs = ns.map P.int ∧ ∀ ns2 : List Int, ns2.Perm ns → ns2.Pairwise (· ≤ ·) → k (.l (ns2.map P.int))) := rfl
theorem W168 {xs : List P} {k : D → Prop} : maxLF (.l xs) k = (∃ ns : List Int, xs = ns.map P.int ∧ 0 < ns.length ∧ ∀ m, m ∈ ns → (∀ y, y ∈ ns → y ≤ m) → k (.p (.int m))) := rfl
theorem W169 {xs : List P} {k : D → Prop} : minLF (.l xs) k = (∃ ns : List Int, xs = ns.map P.int ∧ 0 < ns.length ∧ ∀ m, m ∈ ns → (∀ y, y ∈ ns → m ≤ y) → k (.p (.int m))) := rfl
theorem W170 {xs : List P} {k : D → Prop} : tupF (.l xs) k = k (.p (.tup xs)) := rfl
theorem W171 {xs : List P} {k : D → Prop} : tupF (.p (.tup xs)) k = k (.p (.tup xs)) := rfl
theorem W172 {xs : List P} {k : D → Prop} : lstF (.l xs) k = k (.l xs) := rfl
theorem W173 {xs : List P} {k : D → Prop} : lstF (.p (.tup xs)) k = k (.l xs) := rfl
theorem W174 {T : String} {d : D} {k : D → Prop} : isiF T d k = k (.p (.bl (isiB T d))) := rfl
theorem W175 {t : VT} {en : En} {Q : D → En → Prop} : tLRg1 t en Q = t en fun d en1 => asI d fun n => rngK 0 n fun z => Q z en1 := rfl
theorem W176 {lo hi : Int} {k : D → Prop} : rngK lo hi k = (RgOk lo hi ∧ k (.l (rgP lo hi))) := rfl
theorem W177 {i : Nat} {m : Md} {d : D} {en : En} {q : En → Prop} : gVar i m d en q = putK en[i]? (q (en.set i (slOf m d))) := rfl
theorem W178 {m : Md} {x : P} : slOf m (.p x) = .o (.p x) := rfl
theorem W179 {x : List P} : slOf none (.l x) = .o (.l x) := rfl
theorem W180 {g : Nat} {x : List P} : slOf (some g) (.l x) = .r g (.l x) := rfl
theorem W181 {x : List D} : slOf none (.ll x) = .o (.ll x) := rfl
theorem W182 {g : Nat} {x : List D} : slOf (some g) (.ll x) = .r g (.ll x) := rfl
theorem W183 {x : List D} : slOf none (.t x) = .o (.t x) := rfl
theorem W184 {g : Nat} {x : List D} : slOf (some g) (.t x) = .r g (.t x) := rfl
theorem W185 {x : List (Key × P)} : slOf none (.d x) = .o (.d x) := rfl
theorem W186 {g : Nat} {x : List (Key × P)} : slOf (some g) (.d x) = .r g (.d x) := rfl
theorem W187 {x : List Int} : slOf none (.s x) = .o (.s x) := rfl
theorem W188 {g : Nat} {x : List Int} : slOf (some g) (.s x) = .r g (.s x) := rfl
theorem W189 {m : Md} {en : En} {q : En → Prop} : gNilV m [] en q = q en := rfl
theorem W190 {g : VG} {u : VGs} {m : Md} {d : D} {ds : List D} {en : En} {q : En → Prop} : gConsV g u m (d :: ds) en q = g m d en fun en1 => u m ds en1 q := rfl
theorem W191 {n : Nat} {g : VGs} {m : Md} {xs : List P} {en : En} {q : En → Prop} : gTupV n g m (.p (.tup xs)) en q = ((xs.map D.p).length = n ∧ g m (xs.map D.p) en q) := rfl
theorem W192 {n : Nat} {g : VGs} {m : Md} {ds : List D} {en : En} {q : En → Prop} : gTupV n g m (.t ds) en q = (ds.length = n ∧ g m ds en q) := rfl
theorem W193 {n : Nat} {g : VGs} {m : Md} {xs : List P} {en : En} {q : En → Prop} : gUnlV n g m (.l xs) en q = ((xs.map D.p).length = n ∧ g m (xs.map D.p) en q) := rfl
theorem W194 {xs : List P} {q : List P → (List P → Sl) → Prop} : lstS (some (.o (.l xs))) q = q xs fun ys => .o (.l ys) := rfl
theorem W195 {xs : List (Key × P)} {q : List (Key × P) → (List (Key × P) → Sl) → Prop} : dctS (some (.o (.d xs))) q = q xs fun ys => .o (.d ys) := rfl
theorem W196 {xs : List P} {q : Prop} : lst0 (some (.o (.l xs))) q = q := rfl
theorem W197 {xs : List D} {q : Prop} : lst0 (some (.o (.ll xs))) q = q := rfl
theorem W198 {xs : List P} {y : P} {q : Sl → Prop} : appK (some (.o (.l xs))) (.p y) q = (xs.length < sizeLine ∧ q (.o (.l (xs ++ [y])))) := rfl
theorem W199 {xs : List D} {d : D} {q : Sl → Prop} : appK (some (.o (.ll xs))) d q = (xs.length < sizeLine ∧ q (.o (.ll (xs ++ [d])))) := rfl
theorem W200 {x : P} {q : P → Prop} : rdP (some (.o (.p x))) q = q x := rfl
theorem W201 {xs : List P} {q : List P → (List P → Sl) → Prop} : lstS (some (.b (.l xs))) q = q xs fun ys => .b (.l ys) := rfl
theorem W202 {xs : List (Key × P)} {q : List (Key × P) → (List (Key × P) → Sl) → Prop} : dctS (some (.b (.d xs))) q = q xs fun ys => .b (.d ys) := rfl
theorem W203 {xs : List P} {q : Prop} : lst0 (some (.b (.l xs))) q = q := rfl
theorem W204 {xs : List D} {q : Prop} : lst0 (some (.b (.ll xs))) q = q := rfl
theorem W205 {xs : List P} {y : P} {q : Sl → Prop} : appK (some (.b (.l xs))) (.p y) q = (xs.length < sizeLine ∧ q (.b (.l (xs ++ [y])))) := rfl
theorem W206 {xs : List D} {d : D} {q : Sl → Prop} : appK (some (.b (.ll xs))) d q = (xs.length < sizeLine ∧ q (.b (.ll (xs ++ [d])))) := rfl
theorem W207 {x : P} {q : P → Prop} : rdP (some (.b (.p x))) q = q x := rfl
theorem W208 {xs ys : List P} {q : Sl → Prop} : appK (some (.o (.l xs))) (.l ys) q = (xs.length < sizeLine ∧ q (.o (.ll (xs.map D.p ++ [.l ys])))) := rfl
theorem W209 {j : Nat} {t : VT} {en : En} {Q : D → En → Prop} : tApp j t en Q = lst0 en[j]? (t en fun d en1 => appK en1[j]? d fun sl => Q (.p .non) (en1.set j sl)) := rfl
theorem W210 {j : Nat} {t : VR} {en : En} {Q : D → En → Prop} : tExt j t en Q = lst0 en[j]? (t en fun r en1 => extK en1[j]? (r.get en1) fun sl => Q (.p .non) (en1.set j sl)) := rfl
theorem W211 {j : Nat} {en : En} {Q : D → En → Prop} : tPop0 j en Q = lstS en[j]? fun xs mk => getQ xs[xs.length - 1]? fun y => Q (.p y) (en.set j (mk xs.dropLast)) := rfl
theorem W212 {j : Nat} {t : VT} {en : En} {Q : D → En → Prop} : tPop1 j t en Q = lst0 en[j]? (t en fun d en1 => asI d fun i => lstS en1[j]? fun xs mk => ixQ (ixN xs.length i) fun k => getQ xs[k]? fun y => (xs.length ≤ 1000000) ∧ Q (.p y) (en1.set j (mk (xs.eraseIdx k)))) := rfl
theorem W213 {j : Nat} {ti : VT} {m : Md} {d : D} {en : En} {q : En → Prop} : gSub j ti m d en q = lst0 en[j]? (ti en fun di en1 => asI di fun i => lstS en1[j]? fun xs mk => ixQ (ixN xs.length i) fun k => pOf d fun x => q (en1.set j (mk (xs.set k x)))) := rfl
theorem W214 {j : Nat} {ti : VT} {m : Md} {d : D} {en : En} {q : En → Prop} : gDct j ti m d en q = dctS en[j]? fun _ _ => ti en fun di en1 => pOf di fun i => keyQ i fun key => dctS en1[j]? fun xs mk => pOf d fun x => xs.length < sizeLine ∧ q (en1.set j (mk (putP xs key x))) := rfl
theorem W215 {i : Int} {q : Key → Prop} : keyQ (.int i) q = q (.inl i) := rfl
theorem W216 {en : En} {Q : List Rf → En → Prop} : tRsNil en Q = Q [] en := rfl
theorem W217 {t : VR} {u : VRs} {en : En} {Q : List Rf → En → Prop} : tRsCons t u en Q = t en fun r en1 => u en1 fun rs en2 => Q (r :: rs) en2 := rfl
theorem W218 {en : En} : getAll [] en = some [] := rfl
theorem W219 {r : Rf} {rs : List Rf} {en : En} : getAll (r :: rs) en = consD (r.get en) (getAll rs en) := rfl
theorem W220 {d : D} {ds : List D} : consD (some d) (some ds) = some (d :: ds) := rfl
theorem W221 {mp : Option Nat} {ds : DS} {t : VRs} {en : En} {Q : D → En → Prop} : tCallV mp ds t en Q = t en fun rs en1 => callK mp ds (getAll rs en1) rs en1 Q := rfl
theorem W222 {ds : DS} {as : List D} {rs : List Rf} {en : En} {Q : D → En → Prop} : callK none ds (some as) rs en Q = ds as fun d _ => Q d en := rfl
theorem W223 {m : Nat} {ds : DS} {as : List D} {rs : List Rf} {en : En} {Q : D → En → Prop} : callK (some m) ds (some as) rs en Q = callM ds as rs[m]? m rs en Q := rfl
theorem W224 {ds : DS} {as : List D} {j m : Nat} {rs : List Rf} {en : En} {Q : D → En → Prop} : callM ds as (some (.n j)) m rs en Q = (onlyAt rs m j = true ∧ mslot en[j]? fun mk => ds as fun d o => Q d (en.set j (mk o))) := rfl
theorem W225 {d : D} {q : (D → Sl) → Prop} : mslot (some (.o d)) q = q .o := rfl
theorem W226 {d : D} {q : (D → Sl) → Prop} : mslot (some (.b d)) q = q .b := rfl
theorem W227 {m j : Nat} : onlyAt [] m j = true := rfl
theorem W228 {r : Rf} {rs : List Rf} {j : Nat} : onlyAt (r :: rs) 0 j = noN j rs := rfl
theorem W229 {r : Rf} {rs : List Rf} {m j : Nat} : onlyAt (r :: rs) (m + 1) j = (!r.isN j && onlyAt rs m j) := rfl
theorem W230 {j : Nat} : noN j [] = true := rfl
theorem W231 {r : Rf} {rs : List Rf} {j : Nat} : noN j (r :: rs) = (!r.isN j && noN j rs) := rfl
theorem W232 {i j : Nat} : Rf.isN j (.n i) = (i == j) := rfl
theorem W233 {j : Nat} {d : D} : Rf.isN j (.v d) = false := rfl
theorem W234 {t : VR} {en : En} {q : Sr → En → Prop} : tIt t en q = t en fun r en1 => itR r en1 fun sr => q sr en1 := rfl
theorem W235 {t : VR} {en : En} {q : Sr → En → Prop} : tEn t en q = t en fun r en1 => itR r en1 fun sr => q (enSr sr) en1 := rfl
theorem W236 {xs : List D} {lk : Option (Nat × Sl)} {g : Nat} : enSr ⟨xs, lk, g⟩ = ⟨enD 0 xs, lk, g⟩ := rfl
theorem W237 {d : D} {en : En} {q : Sr → Prop} : itR (.v d) en q = itV d q := rfl
theorem W238 {j : Nat} {en : En} {q : Sr → Prop} : itR (.n j) en q = itN j en[j]? q := rfl
theorem W239 {xs : List P} {q : Sr → Prop} : itV (.p (.tup xs)) q = q ⟨xs.map D.p, none, 0⟩ := rfl
theorem W240 {j : Nat} {xs : List P} {q : Sr → Prop} : itN j (some (.o (.p (.tup xs)))) q = q ⟨xs.map D.p, some (j, .o (.p (.tup xs))), j + 1⟩ := rfl
theorem W241 {j : Nat} {xs : List P} {q : Sr → Prop} : itN j (some (.b (.p (.tup xs)))) q = q ⟨xs.map D.p, some (j, .b (.p (.tup xs))), j + 1⟩ := rfl
theorem W242 {j : Nat} {xs : List P} {q : Sr → Prop} : itN j (some (.k (.p (.tup xs)))) q = q ⟨xs.map D.p, none, j + 1⟩ := rfl
theorem W243 {j g : Nat} {xs : List P} {q : Sr → Prop} : itN j (some (.r g (.p (.tup xs)))) q = q ⟨xs.map D.p, none, g⟩ := rfl
theorem W244 {xs : List P} {q : Sr → Prop} : itV (.l xs) q = q ⟨xs.map D.p, none, 0⟩ := rfl
theorem W245 {j : Nat} {xs : List P} {q : Sr → Prop} : itN j (some (.o (.l xs))) q = q ⟨xs.map D.p, some (j, .o (.l xs)), j + 1⟩ := rfl
theorem W246 {j : Nat} {xs : List P} {q : Sr → Prop} : itN j (some (.b (.l xs))) q = q ⟨xs.map D.p, some (j, .b (.l xs)), j + 1⟩ := rfl
theorem W247 {j : Nat} {xs : List P} {q : Sr → Prop} : itN j (some (.k (.l xs))) q = q ⟨xs.map D.p, none, j + 1⟩ := rfl
theorem W248 {j g : Nat} {xs : List P} {q : Sr → Prop} : itN j (some (.r g (.l xs))) q = q ⟨xs.map D.p, none, g⟩ := rfl
theorem W249 {xs : List D} {q : Sr → Prop} : itV (.ll xs) q = q ⟨xs, none, 0⟩ := rfl
theorem W250 {j : Nat} {xs : List D} {q : Sr → Prop} : itN j (some (.o (.ll xs))) q = q ⟨xs, some (j, .o (.ll xs)), j + 1⟩ := rfl
theorem W251 {j : Nat} {xs : List D} {q : Sr → Prop} : itN j (some (.b (.ll xs))) q = q ⟨xs, some (j, .b (.ll xs)), j + 1⟩ := rfl
theorem W252 {j : Nat} {xs : List D} {q : Sr → Prop} : itN j (some (.k (.ll xs))) q = q ⟨xs, none, j + 1⟩ := rfl
theorem W253 {j g : Nat} {xs : List D} {q : Sr → Prop} : itN j (some (.r g (.ll xs))) q = q ⟨xs, none, g⟩ := rfl
theorem W254 {xs : List D} {q : Sr → Prop} : itV (.t xs) q = q ⟨xs, none, 0⟩ := rfl
theorem W255 {j : Nat} {xs : List D} {q : Sr → Prop} : itN j (some (.o (.t xs))) q = q ⟨xs, some (j, .o (.t xs)), j + 1⟩ := rfl
theorem W256 {j : Nat} {xs : List D} {q : Sr → Prop} : itN j (some (.b (.t xs))) q = q ⟨xs, some (j, .b (.t xs)), j + 1⟩ := rfl
theorem W257 {j : Nat} {xs : List D} {q : Sr → Prop} : itN j (some (.k (.t xs))) q = q ⟨xs, none, j + 1⟩ := rfl
theorem W258 {j g : Nat} {xs : List D} {q : Sr → Prop} : itN j (some (.r g (.t xs))) q = q ⟨xs, none, g⟩ := rfl
theorem W259 {xs : List Int} {q : Sr → Prop} : itV (.s xs) q = q ⟨xs.map fun n => .p (.int n), none, 0⟩ := rfl
theorem W260 {j : Nat} {xs : List Int} {q : Sr → Prop} : itN j (some (.o (.s xs))) q = q ⟨xs.map fun n => .p (.int n), some (j, .o (.s xs)), j + 1⟩ := rfl
theorem W261 {j : Nat} {xs : List Int} {q : Sr → Prop} : itN j (some (.b (.s xs))) q = q ⟨xs.map fun n => .p (.int n), some (j, .b (.s xs)), j + 1⟩ := rfl
theorem W262 {j : Nat} {xs : List Int} {q : Sr → Prop} : itN j (some (.k (.s xs))) q = q ⟨xs.map fun n => .p (.int n), none, j + 1⟩ := rfl
theorem W263 {j g : Nat} {xs : List Int} {q : Sr → Prop} : itN j (some (.r g (.s xs))) q = q ⟨xs.map fun n => .p (.int n), none, g⟩ := rfl
theorem W264 {t : VT} {en : En} {q : Sr → En → Prop} : tRg1 t en q = t en fun d en1 => asI d fun n => rgB n ∧ q ⟨rgD 0 n, none, 0⟩ en1 := rfl
theorem W265 {t u : VT} {en : En} {q : Sr → En → Prop} : tRg2 t u en q = t en fun d1 en1 => u en1 fun d2 en2 => asI d1 fun lo => asI d2 fun hi => (rgB lo ∧ rgB hi) ∧ q ⟨rgD lo hi, none, 0⟩ en2 := rfl
theorem W266 {en : En} {Q : Bool → En → Prop} : tY en Q = Q true en := rfl
theorem W267 {p q : Prop} : condK true p q = p := rfl
theorem W268 {p q : Prop} : condK false p q = q := rfl
theorem W269 {en : En} : lkE none en = en := rfl
theorem W270 {j : Nat} {s : Sl} {en : En} : lkE (some (j, s)) en = en.set j s.lock := rfl
theorem W271 {d : D} : Sl.lock (.o d) = .k d := rfl
theorem W272 {d : D} : Sl.lock (.b d) = .k d := rfl
theorem W273 {en : En} : unE none en = en := rfl
theorem W274 {j : Nat} {s : Sl} {en : En} : unE (some (j, s)) en = (en.map (Sl.drp j)).set j s := rfl
theorem W275 {j : Nat} : Sl.drp j .e = .e := rfl
theorem W276 {j : Nat} {d : D} : Sl.drp j (.o d) = .o d := rfl
theorem W277 {j : Nat} {d : D} : Sl.drp j (.b d) = .b d := rfl
theorem W278 {j : Nat} {d : D} : Sl.drp j (.k d) = .k d := rfl
theorem W279 {j g : Nat} {d : D} : Sl.drp j (.r g d) = (if (g == j + 1) = true then .e else .r g d) := rfl
theorem W280 {en : En} : wipeE [] en = en := rfl
theorem W281 {i : Nat} {r : List Nat} {en : En} : wipeE (i :: r) en = (wipeE r en).set i .e := rfl
theorem W282 {e0 en : En} : rstE [] e0 en = en := rfl
theorem W283 {i : Nat} {r : List Nat} {e0 en : En} : rstE (i :: r) e0 en = (rstE r e0 en).set i (e0[i]?.getD .e) := rfl
theorem W284 {en : En} : stOk [] en = True := rfl
theorem W285 {i : Nat} {r : List Nat} {en : En} : stOk (i :: r) en = (stS en[i]? ∧ stOk r en) := rfl
theorem W286  : stS (some .e) = True := rfl
theorem W287 {x : P} : stS (some (.o (.p x))) = True := rfl
theorem W288 {en : En} : outM none en = .p .non := rfl
theorem W289 {m : Nat} {en : En} : outM (some m) en = outS en[m]? := rfl
theorem W290 {d : D} : outS (some (.b d)) = d := rfl
theorem W291  : argS none [] = [] := rfl
theorem W292 {a : D} {r : List D} : argS none (a :: r) = slV a :: argS none r := rfl
theorem W293 {a : D} {r : List D} : argS (some 0) (a :: r) = .b a :: argS none r := rfl
theorem W294 {m : Nat} {a : D} {r : List D} : argS (some (m + 1)) (a :: r) = slV a :: argS (some m) r := rfl
theorem W295 {x : P} : slV (.p x) = .o (.p x) := rfl
theorem W296 {x : List P} : slV (.l x) = .r 0 (.l x) := rfl
theorem W297 {x : List D} : slV (.ll x) = .r 0 (.ll x) := rfl
theorem W298 {x : List D} : slV (.t x) = .r 0 (.t x) := rfl
theorem W299 {x : List (Key × P)} : slV (.d x) = .r 0 (.d x) := rfl
theorem W300 {x : List Int} : slV (.s x) = .r 0 (.s x) := rfl
theorem A0 {α : Type} {a : α} {r : List α} : atI (a :: r) 0 = some a := atI_nat (j := 0) rfl
theorem A1 {α : Type} {a b : α} {r : List α} : atI (a :: b :: r) 1 = some b := atI_nat (j := 1) rfl
theorem A2 {α : Type} {a b c : α} {r : List α} : atI (a :: b :: c :: r) 2 = some c := atI_nat (j := 2) rfl
theorem A3 {α : Type} {a b c d : α} {r : List α} : atI (a :: b :: c :: d :: r) 3 = some d := atI_nat (j := 3) rfl
theorem A4 {α : Type} {a b c d e : α} {r : List α} : atI (a :: b :: c :: d :: e :: r) 4 = some e := atI_nat (j := 4) rfl
theorem ixN_at {n j : Nat} (hj : j < n) : ixN n (j : Int) = some j := by
  unfold ixN
  rw [if_pos (by omega), if_pos (by omega)]
  simp
theorem I0 {n : Nat} : ixN (n + 1) 0 = some 0 := ixN_at (j := 0) (by omega)
theorem I1 {n : Nat} : ixN (n + 1 + 1) 1 = some 1 := ixN_at (j := 1) (by omega)
theorem I2 {n : Nat} : ixN (n + 1 + 1 + 1) 2 = some 2 := ixN_at (j := 2) (by omega)
theorem I3 {n : Nat} : ixN (n + 1 + 1 + 1 + 1) 3 = some 3 := ixN_at (j := 3) (by omega)
end VL
/-! Eng19: loops and comprehensions at a reading. -/
namespace VL
open PySem PySem.Spec PyProof.Rows L2
def forK (g : VG) (tb : VS) (D0 : VE) (sr : Sr) (en1 : En) : Prop := ∃ I : Nat → En → Prop, I 0 (lkE sr.lk en1) ∧
  (∀ (k : Nat) d e, sr.items[k]? = some d → I k e → g (some sr.tg) d e fun e3 => tb ⟨I (k + 1), fun d e => D0.rt d (unE sr.lk e), fun e => D0.nx (unE sr.lk e), I (k + 1)⟩ e3) ∧ ∀ e, I sr.items.length e → D0.nx (unE sr.lk e)
theorem WF1 {ti : VI} {g : VG} {tb : VS} {D0 : VE} {en : En} : vFor ti g tb D0 en = ti en fun sr en1 => forK g tb D0 sr en1 := rfl
theorem for_i {g : VG} {tb : VS} {D0 : VE} {items : List D} {lk : Option (Nat × Sl)} {tg : Nat} {en : En} (I : Nat → En → Prop) (h0 : I 0 (lkE lk en))
    (hs : ∀ (k : Nat) d e, items[k]? = some d → I k e → g (some tg) d e fun e3 => tb ⟨I (k + 1), fun d e => D0.rt d (unE lk e), fun e => D0.nx (unE lk e), I (k + 1)⟩ e3) (he : ∀ e, I items.length e → D0.nx (unE lk e)) : forK g tb D0 ⟨items, lk, tg⟩ en := ⟨I, h0, hs, he⟩
def whileK (tc : VTst) (tb : VS) (D0 : VE) (en : En) : Prop := ∃ (I : Nat → En → Prop) (m0 : Nat), I m0 en ∧ ∀ m e, I m e → tc e fun b e1 => match b with
  | true => tb ⟨fun e2 => ∃ m', m' < m ∧ I m' e2, D0.rt, D0.nx, fun e2 => ∃ m', m' < m ∧ I m' e2⟩ e1
  | false => D0.nx e1
theorem WF2 {tc : VTst} {tb : VS} {D0 : VE} {en : En} : vWhile tc tb D0 en = whileK tc tb D0 en := rfl
def compK (own : List Nat) (g : VG) (tt : VTst) (te : VT) (Q : D → En → Prop) (sr : Sr) (en1 : En) : Prop := stOk own (lkE sr.lk en1) ∧ ∃ I : Nat → List D → En → Prop, I 0 [] (wipeE own (lkE sr.lk en1)) ∧
  (∀ (k : Nat) d acc e, sr.items[k]? = some d → I k acc e → g (some sr.tg) d e fun e2 => tt e2 fun b e3 => condK b (te e3 fun d' e4 => acc.length < sizeLine ∧ I (k + 1) (acc ++ [d']) (wipeE own e4)) (I (k + 1) acc (wipeE own e3))) ∧
  ∀ acc e, I sr.items.length acc e → Q (mkL acc) (unE sr.lk (rstE own (lkE sr.lk en1) e))
theorem WF3 {own : List Nat} {ti : VI} {g : VG} {tt : VTst} {te : VT} {en : En} {Q : D → En → Prop} : tComp own ti g tt te en Q = ti en fun sr en1 => compK own g tt te Q sr en1 := rfl
theorem comp_i {own : List Nat} {g : VG} {tt : VTst} {te : VT} {Q : D → En → Prop} {items : List D} {lk : Option (Nat × Sl)} {tg : Nat} {en : En} (hst : stOk own (lkE lk en)) (I : Nat → List D → En → Prop) (h0 : I 0 [] (wipeE own (lkE lk en)))
    (hs : ∀ (k : Nat) d acc e, items[k]? = some d → I k acc e → g (some tg) d e fun e2 => tt e2 fun b e3 => condK b (te e3 fun d' e4 => acc.length < sizeLine ∧ I (k + 1) (acc ++ [d']) (wipeE own e4)) (I (k + 1) acc (wipeE own e3)))
    (he : ∀ acc e, I items.length acc e → Q (mkL acc) (unE lk (rstE own (lkE lk en) e))) : compK own g tt te Q ⟨items, lk, tg⟩ en := ⟨hst, I, h0, hs, he⟩
/-- a block that leaves all as it is: what it keeps of each item is f of the item -/
theorem comp_fm {own : List Nat} {g : VG} {tt : VTst} {te : VT} {Q : D → En → Prop} {items : List D} {lk : Option (Nat × Sl)} {tg : Nat} {en : En} (f : D → Option D) (hst : stOk own (lkE lk en)) (hl : items.length ≤ sizeLine)
    (hs : ∀ (k : Nat) d, items[k]? = some d → ∀ q : Option D → Prop, q (f d) → g (some tg) d (wipeE own (lkE lk en)) fun e2 => tt e2 fun b e3 => condK b (te e3 fun d' e4 => wipeE own e4 = wipeE own (lkE lk en) ∧ q (some d')) (wipeE own e3 = wipeE own (lkE lk en) ∧ q none))
    (he : Q (mkL (items.filterMap f)) (unE lk (rstE own (lkE lk en) (wipeE own (lkE lk en))))) : compK own g tt te Q ⟨items, lk, tg⟩ en := by
  refine comp_i hst (fun k acc e => e = wipeE own (lkE lk en) ∧ acc = (items.take k).filterMap f ∧ acc.length ≤ k) ⟨rfl, by simp, Nat.le_refl _⟩ ?_ ?_
  · rintro k d acc e hk ⟨rfl, rfl, hlen⟩
    have hklt : k < items.length := (List.getElem?_eq_some_iff.mp hk).1
    have tk : (items.take (k + 1)).filterMap f = (items.take k).filterMap f ++ (match f d with | some y => [y] | none => []) := by
      rw [List.take_succ, hk, List.filterMap_append]
      cases h : f d <;> simp [h]
    have := hs k d hk (fun o => match o with
      | some d' => (items.take k).filterMap f ++ [d'] = (items.take (k + 1)).filterMap f
      | none => (items.take k).filterMap f = (items.take (k + 1)).filterMap f) (by rw [tk]; cases f d <;> simp)
    have e1 : (fun (d' : D) (e4 : En) => ((items.take k).filterMap f).length < sizeLine ∧ (wipeE own e4 = wipeE own (lkE lk en) ∧ (items.take k).filterMap f ++ [d'] = (items.take (k + 1)).filterMap f ∧ ((items.take k).filterMap f ++ [d']).length ≤ k + 1)) =
        fun (d' : D) (e4 : En) => wipeE own e4 = wipeE own (lkE lk en) ∧ (items.take k).filterMap f ++ [d'] = (items.take (k + 1)).filterMap f := by
      funext d' e4
      refine propext ⟨fun h => ⟨h.2.1, h.2.2.1⟩, fun h => ⟨by omega, h.1, h.2, by simp; exact hlen⟩⟩
    have e2 : ∀ e3 : En, (wipeE own e3 = wipeE own (lkE lk en) ∧ (items.take k).filterMap f = (items.take (k + 1)).filterMap f ∧ ((items.take k).filterMap f).length ≤ k + 1) = (wipeE own e3 = wipeE own (lkE lk en) ∧ (items.take k).filterMap f = (items.take (k + 1)).filterMap f) := fun e3 =>
      propext ⟨fun h => ⟨h.1, h.2.1⟩, fun h => ⟨h.1, h.2, by omega⟩⟩
    simp only [e1, e2]
    exact this
  · rintro acc e ⟨rfl, rfl, _⟩
    rw [List.take_length]
    exact he
def ssetK (own : List Nat) (g : VG) (te : VT) (Q : D → En → Prop) (sr : Sr) (en1 : En) : Prop := stOk own (lkE sr.lk en1) ∧ ∃ I : Nat → List Int → En → Prop, I 0 [] (wipeE own (lkE sr.lk en1)) ∧
  (∀ (k : Nat) d acc e, sr.items[k]? = some d → I k acc e → g (some sr.tg) d e fun e2 => te e2 fun d' e4 => asI d' fun i => (0 ≤ i ∧ i < 63) ∧ I (k + 1) (acc ++ [i]) (wipeE own e4)) ∧
  ∀ acc e, I sr.items.length acc e → ∀ ns : List Int, ns.Pairwise (· < ·) → (∀ k, k ∈ ns ↔ k ∈ acc) → Q (.l (ns.map P.int)) (unE sr.lk (rstE own (lkE sr.lk en1) e))
theorem WF4 {own : List Nat} {ti : VI} {g : VG} {te : VT} {en : En} {Q : D → En → Prop} : tSset own ti g te en Q = ti en fun sr en1 => ssetK own g te Q sr en1 := rfl
theorem sset_i {own : List Nat} {g : VG} {te : VT} {Q : D → En → Prop} {items : List D} {lk : Option (Nat × Sl)} {tg : Nat} {en : En} (hst : stOk own (lkE lk en)) (I : Nat → List Int → En → Prop) (h0 : I 0 [] (wipeE own (lkE lk en)))
    (hs : ∀ (k : Nat) d acc e, items[k]? = some d → I k acc e → g (some tg) d e fun e2 => te e2 fun d' e4 => asI d' fun i => (0 ≤ i ∧ i < 63) ∧ I (k + 1) (acc ++ [i]) (wipeE own e4))
    (he : ∀ acc e, I items.length acc e → ∀ ns : List Int, ns.Pairwise (· < ·) → (∀ k, k ∈ ns ↔ k ∈ acc) → Q (.l (ns.map P.int)) (unE lk (rstE own (lkE lk en) e))) : ssetK own g te Q ⟨items, lk, tg⟩ en := ⟨hst, I, h0, hs, he⟩
/-! a slot of which one knows only that it may be written -/
inductive FS : Sl → Prop
  | e : FS .e
  | p (x : P) : FS (.o (.p x))
inductive FL : Sl → Prop
  | e : FL .e
  | o (d : D) : FL (.o d)
  | r (g : Nat) (d : D) : FL (.r g d)
theorem FS.fl {x : Sl} (h : FS x) : FL x := by cases h <;> constructor
theorem putK_fs {x : Sl} {q : Prop} (h : FS x) : putK (some x) q = q := by cases h <;> rfl
theorem putK_fl {x : Sl} {q : Prop} (h : FL x) : putK (some x) q = q := by cases h <;> rfl
theorem stS_fs {x : Sl} (h : FS x) : stS (some x) = True := by cases h <;> rfl
theorem drp_fs {j : Nat} {x : Sl} (h : FS x) : Sl.drp j x = x := by cases h <;> rfl
/-! items -/
theorem rgD_get {lo hi : Int} {k : Nat} {d : D} (h : (rgD lo hi)[k]? = some d) : d = .p (.int (lo + (k : Nat))) ∧ lo + (k : Nat) < hi ∧ k < (hi - lo).toNat := by
  unfold rgD at h
  rw [List.getElem?_map] at h
  by_cases hk : k < (hi - lo).toNat
  · rw [List.getElem?_range hk] at h
    cases h
    exact ⟨rfl, by omega, hk⟩
  · rw [List.getElem?_eq_none (by simpa using hk)] at h; cases h
theorem rgD_len {lo hi : Int} : (rgD lo hi).length = (hi - lo).toNat := by simp [rgD]
theorem mapD_get {xs : List P} {k : Nat} {d : D} (h : (xs.map D.p)[k]? = some d) : ∃ x, xs[k]? = some x ∧ d = .p x := by
  rw [List.getElem?_map] at h
  cases q : xs[k]? with
  | none => rw [q] at h; cases h
  | some x => rw [q] at h; cases h; exact ⟨x, rfl, rfl⟩
theorem mapI_get {xs : List Int} {k : Nat} {d : D} (h : (xs.map fun n => D.p (.int n))[k]? = some d) : ∃ x, xs[k]? = some x ∧ d = .p (.int x) := by
  rw [List.getElem?_map] at h
  cases q : xs[k]? with
  | none => rw [q] at h; cases h
  | some x => rw [q] at h; cases h; exact ⟨x, rfl, rfl⟩
theorem enD_at {ds : List D} {k : Nat} {d : D} (h : (enD 0 ds)[k]? = some d) : ∃ x, ds[k]? = some x ∧ d = mkT [.p (.int (k : Nat)), x] := by
  rw [enD_get] at h
  cases q : ds[k]? with
  | none => rw [q] at h; cases h
  | some x => rw [q] at h; simp at h; exact ⟨x, rfl, h.symm⟩
theorem mkL_p (xs : List P) : mkL (xs.map D.p) = .l xs := by
  have : allP (xs.map D.p) = some xs := by
    induction xs with
    | nil => rfl
    | cons x r ih => simp [allP, ih, consO]
  simp [mkL, this]
theorem mkL_ll {ds : List D} (h : allP ds = none) : mkL ds = .ll ds := by simp [mkL, h]
end VL

/-! # the claim -/
namespace VL
open PySem PySem.Spec PyProof.Rows L2
def topS (i : Nat) : Stmt := PySem.Challenge.pw_whateverdrops_k72_whole_spread_code.main.body.getD i (.Pass ⟨0, 0, 0, 0⟩)
local macro_rules | `(tactic| walk_at "w") => `(tactic| simp (maxSteps := 10000000) (discharger := assumption) only [WF1, WF2, WF3, WF4, putK_fs, putK_fl, stS_fs, drp_fs, decide_true, decide_false, W0, W1, W2, W3, W4, W5, W6, W7, W8, W9, W10, W11, W12, W13, W14, W15, W16, W17, W18, W19, W20, W21, W22, W23, W24, W25, W26, W27, W28, W29, W30, W31, W32, W33, W34, W35, W36, W37, W38, W39, W40, W41, W42, W43, W44, W45, W46, W47, W48, W49, W50, W51, W52, W53, W54, W55, W56, W57, W58, W59, W60, W61, W62, W63, W64, W65, W66, W67, W68, W69, W70, W71, W72, W73, W74, W75, W76, W77, W78, W79, W80, W81, W82, W83, W84, W85, W86, W87, W88, W89, W90, W91, W92, W93, W94, W95, W96, W97, W98, W99, W100, W101, W102, W103, W104, W105, W106, W107, W108, W109, W110, W111, W112, W113, W114, W115, W116, W117, W118, W119, W120, W121, W122, W123, W124, W125, W126, W127, W128, W129, W130, W131, W132, W133, W134, W135, W136, W137, W138, W139, W140, W141, W142, W143, W144, W145, W146, W147, W148, W149, W150, W151, W152, W153, W154, W155, W156, W157, W158, W159, W160, W161, W162, W163, W164, W165, W166, W167, W168, W169, W170, W171, W172, W173, W174, W175, W176, W177, W178, W179, W180, W181, W182, W183, W184, W185, W186, W187, W188, W189, W190, W191, W192, W193, W194, W195, W196, W197, W198, W199, W200, W201, W202, W203, W204, W205, W206, W207, W208, W209, W210, W211, W212, W213, W214, W215, W216, W217, W218, W219, W220, W221, W222, W223, W224, W225, W226, W227, W228, W229, W230, W231, W232, W233, W234, W235, W236, W237, W238, W239, W240, W241, W242, W243, W244, W245, W246, W247, W248, W249, W250, W251, W252, W253, W254, W255, W256, W257, W258, W259, W260, W261, W262, W263, W264, W265, W266, W267, W268, W269, W270, W271, W272, W273, W274, W275, W276, W277, W278, W279, W280, W281, W282, W283, W284, W285, W286, W287, W288, W289, W290, W291, W292, W293, W294, W295, W296, W297, W298, W299, W300, A0, A1, A2, A3, A4, I0, I1, I2, I3, List.length_set, List.getElem?_cons_succ, List.getElem?_cons_zero, List.getElem?_nil, List.set_cons_succ, List.set_cons_zero, Option.bind_some, List.map_cons, List.map_nil, List.cons_append, List.nil_append, List.replicate_succ, List.replicate_zero, List.length_cons, List.length_nil, Bool.not_true, Bool.not_false, Bool.true_and, Bool.and_true, true_and, and_true, Bool.false_eq_true, if_true, if_false, Option.getD_some])
def FOk (a : Int) : Prop := 0 ≤ a ∧ a < 1152921504606846619
theorem fok_mod (x : Int) : FOk (x % 1152921504606846619) := ⟨Int.emod_nonneg _ (by decide), Int.emod_lt_of_pos _ (by decide)⟩
theorem mulok_l {i j : Int} (h : -(2 ^ 64) < i ∧ i < 2 ^ 64) : MulOk i j := .inl (.inl h)
theorem mulok_r {i j : Int} (h : -(2 ^ 64) < j ∧ j < 2 ^ 64) : MulOk i j := .inl (.inr h)
theorem FOk.mul {a j : Int} (h : FOk a) : MulOk a j := mulok_l ⟨by have := h.1; omega, by have := h.2; omega⟩
theorem FOk.at (k : Int) (h0 : 0 ≤ k) (h1 : k < 1000) : FOk k := ⟨h0, by omega⟩
theorem sl2 {n : Nat} (h : n ≤ 100000) : n ≤ sizeLine := by rw [sizeLine_eq]; omega
theorem sl1 {n : Nat} (h : n ≤ 100000) : n < sizeLine := by rw [sizeLine_eq]; omega
abbrev s__law_font : Stmt := topS 5
theorem sc__law_font : FnScope ["script", "ink", "k", "cell"] ["script"] (defScope s__law_font) := ⟨rfl, rfl, rfl, by decide +kernel, rfl, by decide +kernel, by decide +kernel⟩
/-- slots: script=0 ink=1 k=2 cell=3 -/
def w__law_font : VS := (vSeq (vSet 1 (tC (.int 27011)))
    (vSeq (vFor (tEn (tRn 0)) (gTupV 2 (gConsV (gVar 2) (gConsV (gVar 3) gNilV))) (vSet 1 (tBin modF (tRv (tBin addF (tRv (tBin addF (tRv (tBin addF (tRv (tBin mulF (tRn 1) (tRv (tC (.int 8121121112111211))))) (tRv (tBin modF (tRv (tUn intF (tRn 3))) (tRv (tC (.int 1152921504606846619))))))) (tRv (tBin mulF (tRv (tC (.int 23))) (tRn 2))))) (tRv (tC (.int 8))))) (tRv (tC (.int 1152921504606846619))))))
    (vRet (tLst (tACons (tVar 1) (tACons (tC (.int 0)) tANil))))))

def ds__law_font : DS := DsOf (G := List Int) (fun g => [.s g]) (fun g => g.length ≤ 63) fun g d o => ∃ a b, d = .l [.int a, .int b] ∧ FOk a
theorem law__law_font (as : List D) (Q : D → D → Prop) (h : ds__law_font as Q) : w__law_font ⟨fun e => Q (.p .non) (outM none e), fun d e => Q d (outM none e), fun _ => False, fun _ => False⟩ (argS none as ++ List.replicate 3 .e) := by
  obtain ⟨ns, rfl, hl, hQ⟩ := h
  unfold w__law_font
  walk_at "w"
  refine for_i (fun k e => ∃ ink x y, e = [Sl.r 0 (D.s ns), Sl.o (D.p (P.int ink)), x, y] ∧ FOk ink ∧ FS x ∧ FS y) ⟨_, _, _, rfl, ⟨by decide, by decide⟩, .e, .e⟩ ?_ ?_
  · rintro k d e hk ⟨ink, x, y, rfl, hi, hx, hy⟩
    obtain ⟨d, hd, rfl⟩ := enD_at hk
    obtain ⟨n, hn, rfl⟩ := mapI_get hd
    walk_at "w"
    exact ⟨hi.mul, by decide, mulok_l (by decide), by decide, _, _, _, rfl, fok_mod _, .p _, .p _⟩
  · rintro e ⟨ink, x, y, rfl, hi, hx, hy⟩
    walk_at "w"
    exact ⟨sl2 (by decide), hQ _ _ ⟨_, _, rfl, hi⟩⟩
theorem ok__law_font {P : Program} {w : World} {K : PySem.W.Frag} {mg : Str → Option Value} {base : Heap} {f : Addr} {fd : FuncData} (F : Fun K "_law_font" "_law_font" s__law_font f fd) (B : Blt mg) : FnOk P w K mg base CX0 1 f fd ["script"] (spOf K none 1 ds__law_font) :=
  fn_ok (tb := w__law_font) F sc__law_font rfl (fun cdv A outer s H E hr => (s_cons (s_set (i := 1) sc__law_font.nd rfl (.inl rfl) q_int)
    (s_cons (s_for PassesOwn.never rfl (q_en (by rfl) B.enumerate (q_rn 0 (pv 0))) (g_tup rfl (g_cons (g_var (i := 2) sc__law_font.nd rfl (.inl rfl)) (g_cons (g_var (i := 3) sc__law_font.nd rfl (.inl rfl)) g_nil))) (s_one (s_set (i := 1) sc__law_font.nd rfl (.inl rfl) (q_bin o_mod (q_rv (q_bin o_add (q_rv (q_bin o_add (q_rv (q_bin o_add (q_rv (q_bin o_mul (q_rn 1 (pv 1)) (q_rv q_int))) (q_rv (q_bin o_mod (q_rv (q_call1T c_int (by rfl) B.int rfl (q_rn 3 (pv 3)))) (q_rv q_int))))) (q_rv (q_bin o_mul (q_rv q_int) (q_rn 2 (pv 2)))))) (q_rv q_int))) (q_rv q_int)))))
    (s_one (s_ret (q_lst (q_acons (q_var 1 (pv 1)) (q_acons q_int q_anil)))))))) fun as Q hl h => law__law_font as Q h

abbrev s__law_set : Stmt := topS 6
theorem sc__law_set : FnScope ["font", "many"] ["font", "many"] (defScope s__law_set) := ⟨rfl, rfl, rfl, by decide +kernel, rfl, by decide +kernel, by decide +kernel⟩
/-- slots: font=0 many=1 -/
def w__law_set : VS := (vSeq (vAugS 0 (tC (.int 1)) (tC (.int 1)) iaddF)
    (vSeq (vAsg (tBin modF (tRv (tBin addF (tRv (tBin addF (tRv (tBin mulF (tRv (tUn intF (tRv (tBin ixF (tRn 0) (tRv (tC (.int 0))))))) (tRv (tC (.int 1664525000000013904223))))) (tRv (tBin mulF (tRv (tBin ixF (tRn 0) (tRv (tC (.int 1))))) (tRv (tC (.int 22695477))))))) (tRv (tC (.int 1013904223))))) (tRv (tC (.int 1152921504606846619)))) (gSub 0 (tC (.int 0))))
    (vRet (tBin modF (tRv (tBin fdivF (tRv (tUn intF (tRv (tBin ixF (tRn 0) (tRv (tC (.int 0))))))) (tRv (tC (.int 196613))))) (tRn 1)))))

def ds__law_set : DS := DsOf (G := Int × Int × Int) (fun g => [.l [.int g.1, .int g.2.1], .p (.int g.2.2)]) (fun g => FOk g.1 ∧ 0 < g.2.2) fun g d o => ∃ v a b, d = .p (.int v) ∧ o = .l [.int a, .int b] ∧ (0 ≤ v ∧ v < g.2.2) ∧ FOk a
theorem law__law_set (as : List D) (Q : D → D → Prop) (h : ds__law_set as Q) : w__law_set ⟨fun e => Q (.p .non) (outM (some 0) e), fun d e => Q d (outM (some 0) e), fun _ => False, fun _ => False⟩ (argS (some 0) as ++ List.replicate 0 .e) := by
  obtain ⟨⟨a, b, m⟩, rfl, ⟨h1, h2⟩, hQ⟩ := h
  have h2 : 0 < m := h2
  unfold w__law_set
  walk_at "w"
  refine ⟨h1.mul, mulok_r (by omega), by omega, ⟨by omega, by decide⟩, h2, ?_⟩
  exact hQ _ _ ⟨_, _, _, rfl, rfl, ⟨Int.emod_nonneg _ (by omega), Int.emod_lt_of_pos _ h2⟩, fok_mod _⟩
theorem ok__law_set {P : Program} {w : World} {K : PySem.W.Frag} {mg : Str → Option Value} {base : Heap} {f : Addr} {fd : FuncData} (F : Fun K "_law_set" "_law_set" s__law_set f fd) (B : Blt mg) : FnOk P w K mg base CX0 1 f fd ["font", "many"] (spOf K (some 0) 2 ds__law_set) :=
  fn_ok (tb := w__law_set) F sc__law_set rfl (fun cdv A outer s H E hr => (s_cons (s_augS o_iadd (pv 0) q_int q_int)
    (s_cons (s_asg (q_bin o_mod (q_rv (q_bin o_add (q_rv (q_bin o_add (q_rv (q_bin o_mul (q_rv (q_call1T c_int (by rfl) B.int rfl (q_rv (q_ix (q_rn 0 (pv 0)) (q_rv q_int))))) (q_rv q_int))) (q_rv (q_bin o_mul (q_rv (q_ix (q_rn 0 (pv 0)) (q_rv q_int))) (q_rv q_int))))) (q_rv q_int))) (q_rv q_int)) (g_sub (pv 0) q_int))
    (s_one (s_ret (q_bin o_mod (q_rv (q_bin o_fdiv (q_rv (q_call1T c_int (by rfl) B.int rfl (q_rv (q_ix (q_rn 0 (pv 0)) (q_rv q_int))))) (q_rv q_int))) (q_rn 1 (pv 1)))))))) fun as Q hl h => law__law_set as Q h

theorem set_call {a b m : Int} {Q : D → D → Prop} (h1 : FOk a) (h2 : 0 < m) (h : ∀ (v : Nat) a' b', (v : Int) < m → FOk a' → Q (.p (.int (v : Int))) (.l [.int a', .int b'])) : ds__law_set [.l [.int a, .int b], .p (.int m)] Q :=
  ⟨(a, b, m), rfl, ⟨h1, h2⟩, fun d o ⟨v, a', b', e1, e2, hv, ha⟩ => by
    obtain ⟨n, rfl⟩ := Int.eq_ofNat_of_zero_le hv.1
    subst e1 e2
    exact h n a' b' hv.2 ha⟩
theorem map_erase {α β : Type} (f : α → β) (xs : List α) (j : Nat) : (xs.map f).eraseIdx j = (xs.eraseIdx j).map f := by
  rw [List.eraseIdx_eq_take_drop_succ, List.eraseIdx_eq_take_drop_succ, List.map_append, List.map_take, List.map_drop]
theorem map_set {α β : Type} (f : α → β) (xs : List α) (j : Nat) (x : α) : (xs.map f).set j (f x) = (xs.set j x).map f := by
  rw [List.map_set]
theorem mapI_at {xs : List Int} {j : Nat} (h : j < xs.length) : (xs.map P.int)[j]? = some (.int xs[j]) := by
  rw [List.getElem?_map, List.getElem?_eq_getElem h]; rfl
theorem cons_erase_perm {α : Type} : ∀ (l : List α) (i : Nat) (h : i < l.length), (l[i] :: l.eraseIdx i).Perm l
  | x :: l, 0, _ => .refl _
  | x :: l, i + 1, h => (List.Perm.swap _ _ _).trans ((cons_erase_perm l i (by simpa using h)).cons x)
theorem pull_perm (rows : List Int) {rest : List Int} {v : Nat} (h : v < rest.length) : ((rows ++ [rest[v]]) ++ rest.eraseIdx v).Perm (rows ++ rest) := by
  rw [List.append_assoc]
  exact (cons_erase_perm rest v h).append_left rows
abbrev s__law_pool : Stmt := topS 9
theorem sc__law_pool : FnScope ["font", "many", "rest", "rows", "k"] ["font", "many"] (defScope s__law_pool) := ⟨rfl, rfl, rfl, by decide +kernel, rfl, by decide +kernel, by decide +kernel⟩
/-- slots: font=0 many=1 rest=2 rows=3 k=4 -/
def w__law_pool : VS := (vSeq (vSet 2 (tLRg1 (tC (.int 60))))
    (vSeq (vSet 3 (tLst (tACons (tC (.int 59)) tANil)))
    (vSeq (vExpr (tPop0 2))
    (vSeq (vFor (tRg1 (tBin subF (tRn 1) (tRv (tC (.int 1))))) (gVar 4) (vExpr (tApp 3 (tPop1 2 (tCallV (some 0) ds__law_set (tRsCons (tRn 0) (tRsCons (tRv (tUn lenF (tRn 2))) tRsNil)))))))
    (vSeq (vIf (tTst (tBin eqF (tRv (tCallV (some 0) ds__law_set (tRsCons (tRn 0) (tRsCons (tRv (tC (.int 2))) tRsNil)))) (tRv (tC (.int 0))))) (vAsg (tBin ixF (tRn 2) (tRv (tCallV (some 0) ds__law_set (tRsCons (tRn 0) (tRsCons (tRv (tUn lenF (tRn 2))) tRsNil))))) (gSub 3 (tC (.int 0)))) vNext)
    (vRet (tVar 3)))))))

def ds__law_pool : DS := DsOf (G := Int × Int × Nat) (fun g => [.l [.int g.1, .int g.2.1], .p (.int (g.2.2 : Nat))]) (fun g => FOk g.1 ∧ 1 ≤ g.2.2 ∧ g.2.2 ≤ 59) fun g d o => ∃ (ns : List Int) (a b : Int), d = .l (ns.map P.int) ∧ o = .l [.int a, .int b] ∧ FOk a ∧ ns.length = g.2.2 ∧ ns.Nodup ∧ ∀ n ∈ ns, 0 ≤ n ∧ n < 60
theorem law__law_pool (as : List D) (Q : D → D → Prop) (h : ds__law_pool as Q) : w__law_pool ⟨fun e => Q (.p .non) (outM (some 0) e), fun d e => Q d (outM (some 0) e), fun _ => False, fun _ => False⟩ (argS (some 0) as ++ List.replicate 3 .e) := by
  obtain ⟨⟨a, b, m⟩, rfl, ⟨h1, h2, h3⟩, hQ⟩ := h
  have h1 : FOk a := h1
  have h2 : 1 ≤ m := h2
  have h3 : m ≤ 59 := h3
  have e1 : (rgP 0 60)[(rgP 0 60).length - 1]? = some (.int 59) := by rfl
  have e2 : (rgP 0 60).dropLast = ((List.range 59).map Int.ofNat).map P.int := by rfl
  unfold w__law_pool
  walk_at "w"
  rw [e1, e2]
  walk_at "w"
  refine ⟨.of_le (by omega) (by omega) (by omega) (by omega), sl2 (by decide), ⟨by omega, by omega⟩, ?_⟩
  refine for_i (fun k e => ∃ (a b : Int) (rest rows : List Int) (x : Sl), e = [Sl.b (D.l [P.int a, P.int b]), Sl.o (D.p (P.int m)), Sl.o (D.l (rest.map P.int)), Sl.o (D.l (rows.map P.int)), x] ∧ FOk a ∧ FS x ∧ rows.length = k + 1 ∧ rest.length + k = 59 ∧ (rows ++ rest).Nodup ∧ ∀ n ∈ rows ++ rest, 0 ≤ n ∧ n < 60)
    ⟨a, b, _, [59], _, rfl, h1, .e, rfl, by decide, by decide, by decide⟩ ?_ ?_
  · rintro k d e hk ⟨a, b, rest, rows, x, rfl, ha, hx, l1, l2, nd, rg⟩
    obtain ⟨rfl, hk1, hk2⟩ := rgD_get hk
    walk_at "w"
    simp only [List.length_map]
    refine set_call ha (by omega) fun v a' b' hv ha' => ?_
    have hv' : v < rest.length := by omega
    walk_at "w"
    rw [ixN_at hv']
    walk_at "w"
    rw [mapI_at hv']
    walk_at "w"
    have pm := pull_perm rows hv'
    exact ⟨by omega, sl1 (by omega), a', b', rest.eraseIdx v, rows ++ [rest[v]], _, by rw [map_erase, List.map_append]; rfl, ha', .p _, by rw [List.length_append, l1]; rfl, by rw [List.length_eraseIdx_of_lt hv']; omega, pm.nodup_iff.mpr nd, fun n hn => rg n (pm.mem_iff.mp hn)⟩
  · rintro e ⟨a, b, rest, rows, x, rfl, ha, hx, l1, l2, nd, rg⟩
    rw [rgD_len] at l1 l2
    have fin : ∀ (ns : List Int) a b, FOk a → ns.length = m → ns.Nodup → (∀ n ∈ ns, 0 ≤ n ∧ n < 60) → Q (.l (ns.map P.int)) (.l [.int a, .int b]) := fun ns a b g1 g2 g3 g4 => hQ _ _ ⟨ns, a, b, rfl, rfl, g1, g2, g3, g4⟩
    have hm : rows.length = m := by omega
    walk_at "w"
    refine set_call ha (by omega) fun v a' b' hv ha' => ?_
    walk_at "w"
    by_cases hv0 : (v : Int) = 0
    · rw [decide_eq_true hv0]
      walk_at "w"
      simp only [List.length_map]
      refine set_call ha' (by omega) fun u a2 b2 hu ha2 => ?_
      have hu' : u < rest.length := by omega
      walk_at "w"
      rw [atI_nat (mapI_at hu')]
      walk_at "w"
      rw [show ixN rows.length 0 = some 0 from ixN_at (j := 0) (by omega)]
      walk_at "w"
      rw [map_set]
      refine fin _ _ _ ha2 (by rw [List.length_set, hm]) ?_ ?_
      · cases rows with
        | nil => simp at hm; omega
        | cons r0 rows =>
          rw [List.set_cons_zero]
          rw [List.nodup_append] at nd
          obtain ⟨n1, n2, n3⟩ := nd
          rw [List.nodup_cons] at n1 ⊢
          exact ⟨fun z => n3 _ (List.mem_cons_of_mem _ z) _ (List.getElem_mem hu') rfl, n1.2⟩
      · intro n hn
        rcases List.mem_or_eq_of_mem_set hn with h | h
        · exact rg n (List.mem_append_left _ h)
        · subst h; exact rg _ (List.mem_append_right _ (List.getElem_mem hu'))
    · rw [decide_eq_false hv0]
      walk_at "w"
      exact fin _ _ _ ha' hm (List.nodup_append.mp nd).1 fun n hn => rg n (List.mem_append_left _ hn)
theorem ok__law_pool {P : Program} {w : World} {K : PySem.W.Frag} {mg : Str → Option Value} {base : Heap} {f : Addr} {fd : FuncData} (F : Fun K "_law_pool" "_law_pool" s__law_pool f fd) (B : Blt mg) (C__law_set : Cd P w K mg base "_law_set" 1 ["font", "many"] (some 0) 2 ds__law_set) : FnOk P w K mg base CX0 2 f fd ["font", "many"] (spOf K (some 0) 2 ds__law_pool) :=
  fn_ok (tb := w__law_pool) F sc__law_pool rfl (fun cdv A outer s H E hr => (s_cons (s_set (i := 2) sc__law_pool.nd rfl (.inl rfl) (q_listRg1 rfl (by rfl) B.list (by rfl) B.range q_int))
    (s_cons (s_set (i := 3) sc__law_pool.nd rfl (.inl rfl) (q_lst (q_acons q_int q_anil)))
    (s_cons (s_expr (q_pop0 (pv 2)))
    (s_cons (s_for PassesOwn.never rfl (q_rg1 (by rfl) B.range (q_bin o_sub (q_rn 1 (pv 1)) (q_rv q_int))) (g_var (i := 4) sc__law_pool.nd rfl (.inl rfl)) (s_one (s_expr (q_app (pv 3) (q_pop1 (pv 2) (q_own DsOf.mono C__law_set (hr.mono (by decide)) (by rfl) (q_rscons (q_rn 0 (pv 0)) (q_rscons (q_rv (q_call1B c_len (by rfl) B.len rfl (q_rn 2 (pv 2)))) q_rsnil)) (mpS (by decide))))))))
    (s_cons (s_if (q_tcmp (o_eq (hu64 hr)) (q_rv (q_own DsOf.mono C__law_set (hr.mono (by decide)) (by rfl) (q_rscons (q_rn 0 (pv 0)) (q_rscons (q_rv q_int) q_rsnil)) (mpS (by decide)))) (q_rv q_int) (by rfl)) (s_one (s_asg (q_ix (q_rn 2 (pv 2)) (q_rv (q_own DsOf.mono C__law_set (hr.mono (by decide)) (by rfl) (q_rscons (q_rn 0 (pv 0)) (q_rscons (q_rv (q_call1B c_len (by rfl) B.len rfl (q_rn 2 (pv 2)))) q_rsnil)) (mpS (by decide))))) (g_sub (pv 3) q_int))) s_nil)
    (s_one (s_ret (q_var 3 (pv 3)))))))))) fun as Q hl h => law__law_pool as Q h

/-- a value: an input, or a work of some operands -/
def Val (x : P) (need : List Int) (k : Nat) : Prop := ((∃ s : Str, PyData.strOk s = true ∧ x = .tup [.str "in", .str s]) ∧ need = []) ∨ ((∃ c : Str, (c ≠ "in" ∧ PyData.strOk c = true) ∧ x = .tup [.str c, .tup (need.map P.int)]) ∧ need.length ≤ 3 ∧ ∀ j ∈ need, 0 ≤ j ∧ j < k)
theorem pys_ints : ∀ ns : List Int, P.pys (ns.map P.int) = ns.map PyData.int
  | [] => rfl
  | n :: ns => by simp [P.pys, P.py, pys_ints ns]
theorem lay_ints : ∀ ns : List Int, PyData.canLayAll0 (ns.map PyData.int) = true
  | [] => rfl
  | n :: ns => by simp [PyData.canLayAll0, PyData.canLay0, lay_ints ns]
theorem dep_ints : ∀ ns : List Int, PyData.depthAll (ns.map PyData.int) = 0
  | [] => rfl
  | n :: ns => by simp [PyData.depthAll, PyData.depth, dep_ints ns]
theorem sh_work {c : Str} (h : PyData.strOk c = true) (ns : List Int) : shP (.tup [.str c, .tup (ns.map P.int)]) = true := by
  simp [shP, SeqAt.shaped, P.py, P.pys, pys_ints, PyData.canLay0, PyData.canLayAll0, PyData.depth, PyData.depthAll, lay_ints, dep_ints, h]
theorem Val.sh {x : P} {n : List Int} {k : Nat} (h : Val x n k) : shP x = true := by
  rcases h with ⟨⟨s, h1, rfl⟩, _⟩ | ⟨⟨c, h1, rfl⟩, _⟩
  · have : PyData.strOk "in" = true := by decide +kernel
    simp [shP, SeqAt.shaped, P.py, P.pys, PyData.canLay0, PyData.canLayAll0, PyData.depth, PyData.depthAll, h1, this]
  · exact sh_work h1.2 n
theorem Val.is {x : P} {n : List Int} {k : Nat} (h : Val x n k) : ∃ xs, x = .tup xs := by
  rcases h with ⟨⟨s, h1, rfl⟩, _⟩ | ⟨⟨c, h1, rfl⟩, _⟩ <;> exact ⟨_, rfl⟩
structure Vals_ (xs : List P) (nd : List (List Int)) : Prop where
  len : xs.length = nd.length
  at_ : ∀ (k : Nat) x n, xs[k]? = some x → nd[k]? = some n → Val x n k
abbrev s__law_need : Stmt := topS 8
theorem sc__law_need : FnScope ["values", "k"] ["values", "k"] (defScope s__law_need) := ⟨rfl, rfl, rfl, by decide +kernel, rfl, by decide +kernel, by decide +kernel⟩
/-- slots: values=0 k=1 -/
def w__law_need : VS := (vSeq (vIf (tTst (tBin eqF (tRv (tBin ixF (tRv (tBin ixF (tRn 0) (tRn 1))) (tRv (tC (.int 0))))) (tRv (tC (.str "in"))))) (vRet (tTup tANil)) vNext)
    (vRet (tBin ixF (tRv (tBin ixF (tRn 0) (tRn 1))) (tRv (tC (.int 1))))))

def ds__law_need : DS := DsOf (G := List P × List (List Int) × Nat × List Int × Bool) (fun g => [if g.2.2.2.2 then .l g.1 else .p (.tup g.1), .p (.int (g.2.2.1 : Nat))]) (fun g => Vals_ g.1 g.2.1 ∧ g.2.1[g.2.2.1]? = some g.2.2.2.1) fun g d o => d = .p (.tup (g.2.2.2.1.map P.int))
theorem law__law_need (as : List D) (Q : D → D → Prop) (h : ds__law_need as Q) : w__law_need ⟨fun e => Q (.p .non) (outM none e), fun d e => Q d (outM none e), fun _ => False, fun _ => False⟩ (argS none as ++ List.replicate 0 .e) := by
  obtain ⟨⟨vs, nd, k, n, b⟩, rfl, ⟨hv, hk⟩, hQ⟩ := h
  have hk : nd[k]? = some n := hk
  have hv : Vals_ vs nd := hv
  obtain ⟨x, hx⟩ : ∃ x, vs[k]? = some x := by
    have := (List.getElem?_eq_some_iff.mp hk).1
    exact ⟨_, List.getElem?_eq_getElem (by rw [hv.len]; exact this)⟩
  have ha : atI vs (k : Int) = some x := atI_nat hx
  unfold w__law_need
  have fin : ∀ b : Bool, (fun g d (o : D) => d = D.p (.tup (g.2.2.2.1.map P.int))) (vs, nd, k, n, b) (.p (.tup (n.map P.int))) (.p .non) := fun _ => rfl
  rcases hv.at_ k x n hx hk with ⟨⟨s, _, rfl⟩, rfl⟩ | ⟨⟨c, ⟨hc, _⟩, rfl⟩, h3, h4⟩
  · cases b <;> walk_at "w" <;> rw [ha] <;> walk_at "w" <;> exact ⟨sl2 (by decide), hQ _ _ rfl⟩
  · cases b <;> walk_at "w" <;> rw [ha] <;> walk_at "w" <;> rw [decide_eq_false hc] <;> walk_at "w" <;> rw [ha] <;> walk_at "w" <;> exact hQ _ _ rfl
theorem log_small (k : Nat) (h : k ≤ 1000) : (0 + (k : Int)).natAbs.log2 < 1920 := by
  have : (0 + (k : Int)).natAbs = k := by omega
  rw [this]
  exact Nat.lt_of_le_of_lt (Nat.log2_le_self k) (by omega)
theorem Vals_.snoc {vs : List P} {nd : List (List Int)} {x : P} {n : List Int} (h : Vals_ vs nd) (hx : Val x n nd.length) : Vals_ (vs ++ [x]) (nd ++ [n]) := by
  refine ⟨by simp [h.len], fun k y m h1 h2 => ?_⟩
  by_cases hk : k < vs.length
  · rw [List.getElem?_append_left hk] at h1
    rw [List.getElem?_append_left (by rw [← h.len]; exact hk)] at h2
    exact h.at_ k y m h1 h2
  · rw [List.getElem?_append_right (by omega)] at h1
    rw [List.getElem?_append_right (by rw [← h.len]; omega)] at h2
    rw [← h.len] at h2
    cases q : k - vs.length with
    | zero =>
      rw [q] at h1 h2
      cases h1; cases h2
      have : k = nd.length := by rw [← h.len]; omega
      rw [this]; exact hx
    | succ j => rw [q] at h1; simp at h1
def nmB (z : Str) (k : Nat) : Bool := decide (z.length + (Str.ofString (toString (k : Int))).length ≤ 1000) && PyData.strOk (z ++ Str.ofString (toString (k : Int)))
theorem nm_all : ∀ k, k < 1001 → (nmB "in" k && nmB "w" k && nmB "outer" k) = true := by decide +kernel
theorem nm_at (k : Nat) (hk : k < 1001) : ∃ z : Str, atI [P.str (Str.ofString "in"), P.str (Str.ofString "w"), P.str (Str.ofString "outer")] ((0 + (k : Int)) % 3) = some (.str z) ∧ z.length + (Str.ofString (toString (0 + (k : Int)))).length ≤ sizeLine ∧ PyData.strOk (z ++ Str.ofString (toString (0 + (k : Int)))) = true := by
  have h := nm_all k hk
  rw [Bool.and_eq_true, Bool.and_eq_true] at h
  obtain ⟨⟨h1, h2⟩, h3⟩ := h
  rw [Int.zero_add]
  have key : ∀ z : Str, nmB z k = true → z.length + (Str.ofString (toString (k : Int))).length ≤ sizeLine ∧ PyData.strOk (z ++ Str.ofString (toString (k : Int))) = true := fun z h => by
    unfold nmB at h
    rw [Bool.and_eq_true, decide_eq_true_eq] at h
    exact ⟨sl2 (by omega), h.2⟩
  have hm : (k : Int) % 3 = 0 ∨ (k : Int) % 3 = 1 ∨ (k : Int) % 3 = 2 := by omega
  rcases hm with e | e | e <;> rw [e]
  · exact ⟨_, A0, key _ h1⟩
  · exact ⟨_, A1, key _ h2⟩
  · exact ⟨_, A2, key _ h3⟩
theorem abc_at (ar : Nat) (h0 : 1 ≤ ar) (h3 : ar ≤ 3) : ∃ ch, atI (Str.ofString "abc").cps.toList ((ar : Int) - 1) = some ch ∧ (⟨#[ch]⟩ : Str) ≠ "in" ∧ PyData.strOk ⟨#[ch]⟩ = true := by
  have : ar = 1 ∨ ar = 2 ∨ ar = 3 := by omega
  rcases this with rfl | rfl | rfl
  · exact ⟨97, by decide +kernel, by decide +kernel, by decide +kernel⟩
  · exact ⟨98, by decide +kernel, by decide +kernel, by decide +kernel⟩
  · exact ⟨99, by decide +kernel, by decide +kernel, by decide +kernel⟩
theorem ok__law_need {P : Program} {w : World} {K : PySem.W.Frag} {mg : Str → Option Value} {base : Heap} {f : Addr} {fd : FuncData} (F : Fun K "_law_need" "_law_need" s__law_need f fd) (B : Blt mg) : FnOk P w K mg base CX0 1 f fd ["values", "k"] (spOf K none 2 ds__law_need) :=
  fn_ok (tb := w__law_need) F sc__law_need rfl (fun cdv A outer s H E hr => (s_cons (s_if (q_tcmp (o_eq (hu64 hr)) (q_rv (q_ix (q_rv (q_ix (q_rn 0 (pv 0)) (q_rn 1 (pv 1)))) (q_rv q_int))) (q_rv q_str) (by rfl)) (s_one (s_ret (q_tup q_anil))) s_nil)
    (s_one (s_ret (q_ix (q_rv (q_ix (q_rn 0 (pv 0)) (q_rn 1 (pv 1)))) (q_rv q_int)))))) fun as Q hl h => law__law_need as Q h

theorem filt_p {f : D → Option D} (hf : ∀ d y, f d = some y → ∃ p, y = .p p) : ∀ {l : List D}, ∃ ys : List P, l.filterMap f = ys.map D.p
  | [] => ⟨[], rfl⟩
  | d :: l => by
    obtain ⟨ys, h⟩ := filt_p hf (l := l)
    cases q : f d with
    | none => exact ⟨ys, by rw [List.filterMap_cons, q]; exact h⟩
    | some y =>
      obtain ⟨p, rfl⟩ := hf d y q
      exact ⟨p :: ys, by rw [List.filterMap_cons, q, h]; rfl⟩
abbrev s__law_values : Stmt := topS 7
theorem sc__law_values : FnScope ["font", "many", "inputs", "values", "k", "value", "arity", "low", "operands", "known", "slot", "one"] ["font", "many", "inputs"] (defScope s__law_values) := ⟨rfl, rfl, rfl, by decide +kernel, rfl, by decide +kernel, by decide +kernel⟩
/-- slots: font=0 many=1 inputs=2 values=3 k=4 value=5 arity=6 low=7 operands=8 known=9 slot=10 one=11 -/
def w__law_values : VS := (vSeq (vSet 3 (tLst tANil))
    (vSeq (vFor (tRg1 (tVar 1)) (gVar 4) (vSeq (vSet 5 (tTup (tACons (tC (.str "in")) (tACons (tBin addF (tRv (tBin ixF (tRv (tTup (tACons (tC (.str "in")) (tACons (tC (.str "w")) (tACons (tC (.str "outer")) tANil))))) (tRv (tBin modF (tRn 4) (tRv (tC (.int 3))))))) (tRv (tUn strF (tRn 4)))) tANil))))
    (vSeq (vIf (tAnd (tTst (tBin gtF (tRn 4) (tRv (tC (.int 0))))) (tTst (tBin geF (tRv (tCallV (some 0) ds__law_set (tRsCons (tRn 0) (tRsCons (tRv (tC (.int 10))) tRsNil)))) (tRn 2)))) (vSeq (vSet 6 (tBin addF (tRv (tBin addF (tRv (tC (.int 1))) (tRv (tUn intF (tRv (tBin eqF (tRv (tCallV (some 0) ds__law_set (tRsCons (tRn 0) (tRsCons (tRv (tC (.int 2))) tRsNil)))) (tRv (tC (.int 0))))))))) (tRv (tUn intF (tRv (tBin eqF (tRv (tCallV (some 0) ds__law_set (tRsCons (tRn 0) (tRsCons (tRv (tC (.int 6))) tRsNil)))) (tRv (tC (.int 0)))))))))
    (vSeq (vSet 7 (tBin maxF (tRv (tC (.int 0))) (tRv (tBin subF (tRn 4) (tRv (tC (.int 6)))))))
    (vSeq (vSet 8 (tUn tupF (tRv (tComp [10] (tRg1 (tVar 6)) (gVar 10) tY (tBin addF (tRn 7) (tRv (tCallV (some 0) ds__law_set (tRsCons (tRn 0) (tRsCons (tRv (tBin subF (tRn 4) (tRn 7))) tRsNil)))))))))
    (vSeq (vSet 9 (tBin gtF (tRv (tUn lenF (tRv (tComp [11] (tIt (tRn 3)) (gVar 11) (tTst (tBin eqF (tRn 11) (tRv (tTup (tACons (tBin ixF (tRv (tC (.str "abc"))) (tRv (tBin subF (tRn 6) (tRv (tC (.int 1)))))) (tACons (tVar 8) tANil)))))) (tC (.int 1)))))) (tRv (tC (.int 0)))))
    (vIf (tNot (tTst (tVar 9))) (vSet 5 (tTup (tACons (tBin ixF (tRv (tC (.str "abc"))) (tRv (tBin subF (tRn 6) (tRv (tC (.int 1)))))) (tACons (tVar 8) tANil)))) vNext))))) vNext)
    (vExpr (tApp 3 (tVar 5))))))
    (vRet (tVar 3))))

def ds__law_values : DS := DsOf (G := Int × Int × Nat × Int) (fun g => [.l [.int g.1, .int g.2.1], .p (.int (g.2.2.1 : Nat)), .p (.int g.2.2.2)]) (fun g => FOk g.1 ∧ g.2.2.1 ≤ 1000) fun g d o => ∃ (vs : List P) (nd : List (List Int)) (a b : Int), d = .l vs ∧ o = .l [.int a, .int b] ∧ FOk a ∧ Vals_ vs nd ∧ nd.length = g.2.2.1
theorem law__law_values (as : List D) (Q : D → D → Prop) (h : ds__law_values as Q) : w__law_values ⟨fun e => Q (.p .non) (outM (some 0) e), fun d e => Q d (outM (some 0) e), fun _ => False, fun _ => False⟩ (argS (some 0) as ++ List.replicate 9 .e) := by
  obtain ⟨⟨a, b, m, inp⟩, rfl, ⟨h1, h2⟩, hQ⟩ := h
  have h1 : FOk a := h1
  have h2 : m ≤ 1000 := h2
  unfold w__law_values
  walk_at "w"
  refine ⟨sl2 (by decide), ⟨by omega, by omega⟩, ?_⟩
  refine for_i (fun k e => ∃ (a b : Int) (vs : List P) (nd : List (List Int)) (x4 x5 x6 x7 x8 x9 x10 x11 : Sl), e = [Sl.b (D.l [P.int a, P.int b]), Sl.o (D.p (P.int m)), Sl.o (D.p (P.int inp)), Sl.o (D.l vs), x4, x5, x6, x7, x8, x9, x10, x11] ∧ FOk a ∧ Vals_ vs nd ∧ nd.length = k ∧ FS x4 ∧ FS x5 ∧ FS x6 ∧ FS x7 ∧ FS x8 ∧ FS x9 ∧ FS x10 ∧ FS x11)
    ⟨a, b, [], [], _, _, _, _, _, _, _, _, rfl, h1, ⟨rfl, fun k x n h => by simp at h⟩, rfl, .e, .e, .e, .e, .e, .e, .e, .e⟩ ?_ ?_
  · rintro k d e hk ⟨a, b, vs, nd, x4, x5, x6, x7, x8, x9, x10, x11, rfl, ha, hv, hl, f4, f5, f6, f7, f8, f9, f10, f11⟩
    obtain ⟨rfl, hk1, hk2⟩ := rgD_get hk
    walk_at "w"
    obtain ⟨z, z1, z2, z3⟩ := nm_at k (by omega)
    rw [z1]
    walk_at "w"
    refine ⟨sl2 (by decide), by decide, log_small k (by omega), z2, sl2 (by decide), ?_⟩
    have hv0 : Val (.tup [.str "in", .str (z ++ Str.ofString (toString (0 + (k : Int))))]) [] nd.length := .inl ⟨⟨_, z3, rfl⟩, rfl⟩
    have hlen : vs.length < sizeLine := by rw [hv.len]; exact sl1 (by omega)
    by_cases hk0 : (0 : Int) < 0 + (k : Int)
    · rw [decide_eq_true hk0]
      walk_at "w"
      refine set_call ha (by omega) fun v a b hvv ha => ?_
      walk_at "w"
      by_cases hin : inp ≤ (v : Int)
      · rw [decide_eq_true hin]
        walk_at "w"
        refine set_call ha (by omega) fun v1 a b hv1 ha => ?_
        walk_at "w"
        refine set_call ha (by omega) fun v2 a b hv2 ha => ?_
        walk_at "w"
        obtain ⟨ar, har, ar1, ar3⟩ : ∃ ar : Nat, ((1 + if decide ((v1 : Int) = 0) = true then 1 else 0) + if decide ((v2 : Int) = 0) = true then (1 : Int) else 0) = (ar : Int) ∧ 1 ≤ ar ∧ ar ≤ 3 := by
          by_cases c1 : (v1 : Int) = 0 <;> by_cases c2 : (v2 : Int) = 0 <;> simp only [c1, c2, decide_true, decide_false, if_true, Bool.false_eq_true, if_false]
          · exact ⟨3, rfl, by omega, by omega⟩
          · exact ⟨2, rfl, by omega, by omega⟩
          · exact ⟨2, rfl, by omega, by omega⟩
          · exact ⟨1, rfl, by omega, by omega⟩
        rw [har]
        obtain ⟨lo, hlo, hlo0, hlo1⟩ : ∃ lo : Int, max 0 (0 + (k : Int) - 6) = lo ∧ 0 ≤ lo ∧ lo < k := ⟨_, rfl, by omega, by omega⟩
        rw [hlo]
        obtain ⟨ch, hch, hc1, hc2⟩ := abc_at ar ar1 ar3
        refine ⟨⟨by omega, by omega⟩, ?_⟩
        refine comp_i (by walk_at "w") (fun j acc e => ∃ (a b : Int) (ops : List Int), acc = (ops.map P.int).map D.p ∧ ops.length = j ∧ (∀ o ∈ ops, 0 ≤ o ∧ o < k) ∧ FOk a ∧ e = [Sl.b (D.l [P.int a, P.int b]), Sl.o (D.p (P.int m)), Sl.o (D.p (P.int inp)), Sl.o (D.l vs), Sl.o (D.p (P.int (0 + (k : Int)))), Sl.o (D.p (P.tup [P.str (Str.ofString "in"), P.str (z ++ Str.ofString (toString (0 + (k : Int))))])), Sl.o (D.p (P.int ar)), Sl.o (D.p (P.int lo)), x8, x9, Sl.e, x11])
          ⟨a, b, [], rfl, rfl, by simp, ha, by walk_at "w"⟩ ?_ ?_
        · rintro j d acc e hj ⟨a, b, ops, rfl, hol, hops, ha, rfl⟩
          obtain ⟨rfl, hj1, hj2⟩ := rgD_get hj
          walk_at "w"
          refine set_call ha (by omega) fun u a b hu ha => ?_
          walk_at "w"
          refine ⟨by rw [List.length_map, List.length_map]; exact sl1 (by omega), a, b, ops ++ [lo + u], by simp, by simp [hol], fun o ho => ?_, ha, rfl⟩
          rcases List.mem_append.mp ho with h | h
          · exact hops o h
          · simp at h; subst h; omega
        · rintro acc e ⟨a, b, ops, rfl, hol, hops, ha, rfl⟩
          rw [rgD_len] at hol
          rw [mkL_p]
          walk_at "w"
          refine comp_fm (fun d => match d with
            | .p x => if eqP x (.tup [.str ⟨#[ch]⟩, .tup (ops.map P.int)]) = true then some (.p (.int 1)) else none
            | _ => none) (by walk_at "w") (by rw [List.length_map, hv.len]; exact sl2 (by omega)) (fun j d hj q hq => ?_) ?_
          · obtain ⟨x, hx, rfl⟩ := mapD_get hj
            obtain ⟨n, hn⟩ : ∃ n, nd[j]? = some n := ⟨_, List.getElem?_eq_getElem (by rw [← hv.len]; exact (List.getElem?_eq_some_iff.mp hx).1)⟩
            have hvx := hv.at_ j x n hx hn
            obtain ⟨xs, rfl⟩ := hvx.is
            walk_at "w"
            rw [hch]
            walk_at "w"
            refine ⟨sl2 (by decide), sl2 (by decide), ⟨hvx.sh, sh_work hc2 ops⟩, ?_⟩
            have hq : q (if eqP (.tup xs) (.tup [.str ⟨#[ch]⟩, .tup (ops.map P.int)]) = true then some (.p (.int 1)) else none) := hq
            cases he : eqP (.tup xs) (.tup [.str ⟨#[ch]⟩, .tup (ops.map P.int)]) with
            | true =>
              rw [he] at hq
              walk_at "w"
              exact hq
            | false =>
              rw [he] at hq
              walk_at "w"
              exact hq
          · obtain ⟨ys, hys⟩ := filt_p (l := vs.map D.p) (f := fun d => match d with
              | .p x => if eqP x (.tup [.str ⟨#[ch]⟩, .tup (ops.map P.int)]) = true then some (.p (.int 1)) else none
              | _ => none) (fun d y h => by
                split at h
                · split at h
                  · cases h; exact ⟨_, rfl⟩
                  · cases h
                · cases h)
            rw [hys, mkL_p]
            walk_at "w"
            by_cases hy : (0 : Int) < ys.length
            · rw [decide_eq_true hy]
              walk_at "w"
              exact ⟨hlen, _, _, _, _, _, _, _, _, _, _, _, _, rfl, ha, hv.snoc hv0, by rw [List.length_append, hl]; rfl, .p _, .p _, .p _, .p _, .p _, .p _, f10, f11⟩
            · rw [decide_eq_false hy]
              walk_at "w"
              rw [hch]
              walk_at "w"
              exact ⟨sl2 (by decide), sl2 (by decide), hlen, _, _, _, _, _, _, _, _, _, _, _, _, rfl, ha, hv.snoc (.inr ⟨⟨_, ⟨hc1, hc2⟩, rfl⟩, by omega, fun o ho => by rw [hl]; exact hops o ho⟩), by rw [List.length_append, hl]; rfl, .p _, .p _, .p _, .p _, .p _, .p _, f10, f11⟩
      · rw [decide_eq_false hin]
        walk_at "w"
        exact ⟨hlen, _, _, _, _, _, _, _, _, _, _, _, _, rfl, ha, hv.snoc hv0, by rw [List.length_append, hl]; rfl, .p _, .p _, f6, f7, f8, f9, f10, f11⟩
    · rw [decide_eq_false hk0]
      walk_at "w"
      exact ⟨hlen, _, _, _, _, _, _, _, _, _, _, _, _, rfl, ha, hv.snoc hv0, by rw [List.length_append, hl]; rfl, .p _, .p _, f6, f7, f8, f9, f10, f11⟩
  · rintro e ⟨a, b, vs, nd, x4, x5, x6, x7, x8, x9, x10, x11, rfl, ha, hv, hl, f4, f5, f6, f7, f8, f9, f10, f11⟩
    rw [rgD_len] at hl
    walk_at "w"
    exact hQ _ _ ⟨vs, nd, a, b, rfl, rfl, ha, hv, by show nd.length = m; omega⟩
theorem ok__law_values {P : Program} {w : World} {K : PySem.W.Frag} {mg : Str → Option Value} {base : Heap} {f : Addr} {fd : FuncData} (F : Fun K "_law_values" "_law_values" s__law_values f fd) (B : Blt mg) (C__law_set : Cd P w K mg base "_law_set" 1 ["font", "many"] (some 0) 2 ds__law_set) : FnOk P w K mg base CX0 2 f fd ["font", "many", "inputs"] (spOf K (some 0) 3 ds__law_values) :=
  fn_ok (tb := w__law_values) F sc__law_values rfl (fun cdv A outer s H E hr => (s_cons (s_set (i := 3) sc__law_values.nd rfl (.inl rfl) (q_lst q_anil))
    (s_cons (s_for PassesOwn.never rfl (q_rg1 (by rfl) B.range (q_var 1 (pv 1))) (g_var (i := 4) sc__law_values.nd rfl (.inr rfl)) (s_cons (s_set (i := 5) sc__law_values.nd rfl (.inl rfl) (q_tup (q_acons q_str (q_acons (q_bin o_add (q_rv (q_ix (q_rv (q_tup (q_acons q_str (q_acons q_str (q_acons q_str q_anil))))) (q_rv (q_bin o_mod (q_rn 4 (pv 4)) (q_rv q_int))))) (q_rv (q_call1T c_str (by rfl) B.str rfl (q_rn 4 (pv 4))))) q_anil))))
    (s_cons (s_if (QW.qt (q_and (q_tcmp o_gt (q_rn 4 (pv 4)) (q_rv q_int) (by rfl)) (q_and1 (q_tcmp o_ge (q_rv (q_own DsOf.mono C__law_set (hr.mono (by decide)) (by rfl) (q_rscons (q_rn 0 (pv 0)) (q_rscons (q_rv q_int) q_rsnil)) (mpS (by decide)))) (q_rn 2 (pv 2)) (by rfl))))) (s_cons (s_set (i := 6) sc__law_values.nd rfl (.inr rfl) (q_bin o_add (q_rv (q_bin o_add (q_rv q_int) (q_rv (q_call1T c_int (by rfl) B.int rfl (q_rv (q_cmp (o_eq (hu64 hr)) (q_rv (q_own DsOf.mono C__law_set (hr.mono (by decide)) (by rfl) (q_rscons (q_rn 0 (pv 0)) (q_rscons (q_rv q_int) q_rsnil)) (mpS (by decide)))) (q_rv q_int) (by rfl))))))) (q_rv (q_call1T c_int (by rfl) B.int rfl (q_rv (q_cmp (o_eq (hu64 hr)) (q_rv (q_own DsOf.mono C__law_set (hr.mono (by decide)) (by rfl) (q_rscons (q_rn 0 (pv 0)) (q_rscons (q_rv q_int) q_rsnil)) (mpS (by decide)))) (q_rv q_int) (by rfl)))))))
    (s_cons (s_set (i := 7) sc__law_values.nd rfl (.inr rfl) (q_call2B (c_max2 rfl) (by rfl) B.max rfl (q_rv q_int) (q_rv (q_bin o_sub (q_rn 4 (pv 4)) (q_rv q_int)))))
    (s_cons (s_set (i := 8) sc__law_values.nd rfl (.inr rfl) (q_call1T c_tup (by rfl) B.tuple rfl (q_rv (q_comp (own := [("slot", 10)]) rfl sc__law_values.nd (q_rg1 (by rfl) B.range (q_var 6 (pv 6))) (blkOk_by (by rfl)) (by decide) (blkG fun _ _ _ _ _ => (g_var (i := 10) sc__law_values.nd rfl (.inl rfl))) (blkT fun _ _ _ _ _ => q_ts0) (blkE fun _ _ _ _ _ => (q_bin o_add (q_rn 7 (pv 7)) (q_rv (q_own DsOf.mono C__law_set (hr.mono (by decide)) (by rfl) (q_rscons (q_rn 0 (pv 0)) (q_rscons (q_rv (q_bin o_sub (q_rn 4 (pv 4)) (q_rn 7 (pv 7)))) q_rsnil)) (mpS (by decide))))))))))
    (s_cons (s_set (i := 9) sc__law_values.nd rfl (.inl rfl) (q_cmp o_gt (q_rv (q_call1B c_len (by rfl) B.len rfl (q_rv (q_comp (own := [("one", 11)]) rfl sc__law_values.nd (q_it (q_rn 3 (pv 3))) (blkOk_by (by rfl)) (by decide) (blkG fun _ _ _ _ _ => (g_var (i := 11) sc__law_values.nd rfl (.inl rfl))) (blkT fun _ _ _ _ _ => (q_ts1 (q_tcmp (o_eq (hu64 hr)) (q_rn 11 (pv 11)) (q_rv (q_tup (q_acons (q_ix (q_rv q_str) (q_rv (q_bin o_sub (q_rn 6 (pv 6)) (q_rv q_int)))) (q_acons (q_var 8 (pv 8)) q_anil)))) (by rfl)))) (blkE fun _ _ _ _ _ => q_int))))) (q_rv q_int) (by rfl)))
    (s_one (s_if (q_tnot (q_tval (q_var 9 (pv 9)))) (s_one (s_set (i := 5) sc__law_values.nd rfl (.inl rfl) (q_tup (q_acons (q_ix (q_rv q_str) (q_rv (q_bin o_sub (q_rn 6 (pv 6)) (q_rv q_int)))) (q_acons (q_var 8 (pv 8)) q_anil))))) s_nil)))))) s_nil)
    (s_one (s_expr (q_app (pv 3) (q_var 5 (pv 5))))))))
    (s_one (s_ret (q_var 3 (pv 3))))))) fun as Q hl h => law__law_values as Q h

theorem in_ints (a : Int) : ∀ xs : List Int, inP (.int a) (xs.map P.int) = decide (a ∈ xs)
  | [] => by simp [inP]
  | x :: xs => by
    have ih := in_ints a xs
    unfold inP at ih ⊢
    rw [List.map_cons, List.any_cons, ih]
    simp only [eqP, List.mem_cons]
    by_cases h : x = a
    · simp [h]
    · simp [h, Ne.symm h]
theorem flat_ints : ∀ xs : List Int, (xs.map P.int).all flP = true
  | [] => rfl
  | x :: xs => by simp [flP]
/-- a value that may be made from what the registers hold -/
theorem need_call {vs : List P} {nd : List (List Int)} {k : Nat} {n : List Int} {Q : D → D → Prop} (hv : Vals_ vs nd) (hk : nd[k]? = some n) (b : Bool) (h : ∀ o, Q (.p (.tup (n.map P.int))) o) : ds__law_need [if b then .l vs else .p (.tup vs), .p (.int (k : Int))] Q :=
  ⟨(vs, nd, k, n, b), rfl, ⟨hv, hk⟩, fun d o e => by
    have e : d = .p (.tup (n.map P.int)) := e
    subst e
    exact h o⟩
def fI (g : Int → Option Int) : D → Option D
  | .p (.int i) => (g i).map fun y => .p (.int y)
  | _ => none
theorem filt_int (g : Int → Option Int) : ∀ xs : List Int, ((xs.map P.int).map D.p).filterMap (fI g) = ((xs.filterMap g).map P.int).map D.p
  | [] => rfl
  | x :: xs => by
    have ih := filt_int g xs
    rw [List.map_cons, List.map_cons, List.filterMap_cons, List.filterMap_cons]
    cases q : g x with
    | none => simp only [fI, q, Option.map_none]; exact ih
    | some y => simp only [fI, q, Option.map_some, List.map_cons]; rw [ih]
theorem need0 {vs : List P} {nd : List (List Int)} {n : List Int} (h : Vals_ vs nd) (hn : nd[0]? = some n) : n = [] := by
  have hl := (List.getElem?_eq_some_iff.mp hn).1
  have hl2 : 0 < vs.length := by rw [h.len]; exact hl
  have hx : vs[0]? = some vs[0] := List.getElem?_eq_getElem hl2
  rcases h.at_ 0 _ _ hx hn with ⟨_, h⟩ | ⟨_, _, h⟩
  · exact h
  · cases n with
    | nil => rfl
    | cons a n => have := h a (by simp); omega
abbrev s__law_next : Stmt := topS 10
theorem sc__law_next : FnScope ["font", "values", "held", "low", "ready", "k", "late", "at"] ["font", "values", "held", "low"] (defScope s__law_next) := ⟨rfl, rfl, rfl, by decide +kernel, rfl, by decide +kernel, by decide +kernel⟩
/-- slots: font=0 values=1 held=2 low=3 ready=4 k=5 late=6 at=7 -/
def w__law_next : VS := (vSeq (vSet 4 (tLst tANil))
    (vSeq (vFor (tRg1 (tUn lenF (tRn 1))) (gVar 5) (vIf (tTst (tBin eqF (tRv (tUn lenF (tRv (tComp [7] (tIt (tRv (tCallV none ds__law_need (tRsCons (tRn 1) (tRsCons (tRn 5) tRsNil))))) (gVar 7) (tTst (tBin (inF true) (tRn 7) (tRn 2))) (tC (.int 1)))))) (tRv (tC (.int 0))))) (vExpr (tApp 4 (tVar 5))) vNext))
    (vSeq (vSet 6 (tComp [5] (tIt (tRn 4)) (gVar 5) (tTst (tBin geF (tRn 5) (tRn 3))) (tVar 5)))
    (vSeq (vIf (tAnd (tTst (tBin gtF (tRv (tUn lenF (tRn 6))) (tRv (tC (.int 0))))) (tTst (tBin gtF (tRv (tCallV (some 0) ds__law_set (tRsCons (tRn 0) (tRsCons (tRv (tC (.int 3))) tRsNil)))) (tRv (tC (.int 0)))))) (vRet (tBin ixF (tRn 6) (tRv (tCallV (some 0) ds__law_set (tRsCons (tRn 0) (tRsCons (tRv (tUn lenF (tRn 6))) tRsNil)))))) vNext)
    (vRet (tBin ixF (tRn 4) (tRv (tCallV (some 0) ds__law_set (tRsCons (tRn 0) (tRsCons (tRv (tUn lenF (tRn 4))) tRsNil))))))))))

def ds__law_next : DS := DsOf (G := Int × Int × List P × List (List Int) × List Int × Int) (fun g => [.l [.int g.1, .int g.2.1], .l g.2.2.1, .l (g.2.2.2.2.1.map P.int), .p (.int g.2.2.2.2.2)]) (fun g => FOk g.1 ∧ Vals_ g.2.2.1 g.2.2.2.1 ∧ 1 ≤ g.2.2.2.1.length ∧ g.2.2.2.1.length ≤ 1000) fun g d o => ∃ (k : Nat) (n : List Int) (a b : Int), d = .p (.int (k : Int)) ∧ o = .l [.int a, .int b] ∧ FOk a ∧ g.2.2.2.1[k]? = some n ∧ ∀ j ∈ n, j ∈ g.2.2.2.2.1
theorem law__law_next (as : List D) (Q : D → D → Prop) (h : ds__law_next as Q) : w__law_next ⟨fun e => Q (.p .non) (outM (some 0) e), fun d e => Q d (outM (some 0) e), fun _ => False, fun _ => False⟩ (argS (some 0) as ++ List.replicate 4 .e) := by
  obtain ⟨⟨a, b, vs, nd, held, low⟩, rfl, ⟨h1, h2, h3, h4⟩, hQ⟩ := h
  have h1 : FOk a := h1
  have h2 : Vals_ vs nd := h2
  have h3 : 1 ≤ nd.length := h3
  have h4 : nd.length ≤ 1000 := h4
  unfold w__law_next
  walk_at "w"
  have h5 : vs.length = nd.length := h2.len
  refine ⟨sl2 (by decide), ⟨by omega, by omega⟩, ?_⟩
  refine for_i (fun k e => ∃ (rd : List Nat) (x5 x6 x7 : Sl), e = [Sl.b (D.l [P.int a, P.int b]), Sl.r 0 (D.l vs), Sl.r 0 (D.l (held.map P.int)), Sl.o (D.p (P.int low)), Sl.o (D.l ((rd.map Int.ofNat).map P.int)), x5, x6, x7] ∧ FS x5 ∧ FS x6 ∧ FS x7 ∧ rd.length ≤ k ∧ (1 ≤ k → 1 ≤ rd.length) ∧ ∀ i ∈ rd, ∃ n, nd[i]? = some n ∧ ∀ j ∈ n, j ∈ held) ⟨[], _, _, _, rfl, .e, .e, .e, by decide, by omega, by simp⟩ ?_ ?_
  · rintro k d e hk ⟨rd, x5, x6, x7, rfl, f5, f6, f7, l1, l2, hr⟩
    obtain ⟨rfl, hk1, hk2⟩ := rgD_get hk
    obtain ⟨n, hn⟩ : ∃ n, nd[k]? = some n := ⟨_, List.getElem?_eq_getElem (by omega)⟩
    walk_at "w"
    simp only [Int.zero_add]
    refine need_call h2 hn true fun o => ?_
    walk_at "w"
    have hn3 : n.length ≤ 3 := by
      rcases h2.at_ k _ n (List.getElem?_eq_getElem (by omega)) hn with ⟨_, rfl⟩ | ⟨_, h, _⟩
      · simp
      · exact h
    refine comp_fm (fI fun j => if j ∈ held then none else some 1) (by walk_at "w") (by rw [List.length_map, List.length_map]; exact sl2 (by omega)) (fun j d hj q hq => ?_) ?_
    · obtain ⟨x, hx, rfl⟩ := mapD_get hj
      rw [List.getElem?_map] at hx
      cases hy : n[j]? with
      | none => rw [hy] at hx; cases hx
      | some y =>
        rw [hy] at hx
        cases hx
        have hq : q ((if y ∈ held then none else some (1 : Int)).map fun y => .p (.int y)) := hq
        walk_at "w"
        refine ⟨⟨rfl, flat_ints held⟩, ?_⟩
        rw [in_ints]
        by_cases hm : y ∈ held
        · rw [if_pos hm] at hq
          rw [decide_eq_true hm]
          walk_at "w"
          exact hq
        · rw [if_neg hm] at hq
          rw [decide_eq_false hm]
          walk_at "w"
          exact hq
    · rw [filt_int, mkL_p]
      walk_at "w"
      simp only [List.length_map]
      have hz : (n.filterMap fun j => if j ∈ held then none else some (1 : Int)) = [] ↔ ∀ j ∈ n, j ∈ held := by
        rw [List.filterMap_eq_nil_iff]
        refine forall_congr' fun j => forall_congr' fun _ => ?_
        by_cases hm : j ∈ held <;> simp [hm]
      by_cases h0 : (n.filterMap fun j => if j ∈ held then none else some (1 : Int)) = []
      · have ha := hz.mp h0
        rw [h0]
        rw [decide_eq_true (show ((List.length ([] : List Int) : Nat) : Int) = 0 from rfl)]
        walk_at "w"
        refine ⟨by simp only [List.length_map]; exact sl1 (by omega), rd ++ [k], _, _, _, by rw [List.map_append, List.map_append]; rfl, .p _, f6, f7, by simp; omega, by simp, fun i hi => ?_⟩
        rcases List.mem_append.mp hi with h | h
        · exact hr i h
        · simp at h; subst h; exact ⟨n, hn, ha⟩
      · have hne : ¬ (((n.filterMap fun j => if j ∈ held then none else some (1 : Int)).length : Nat) : Int) = 0 := fun z => h0 (List.length_eq_zero_iff.mp (by omega))
        rw [decide_eq_false hne]
        walk_at "w"
        refine ⟨rd, _, _, _, rfl, .p _, f6, f7, by omega, fun _ => ?_, hr⟩
        by_cases hk0 : k = 0
        · subst hk0
          exact absurd (by rw [need0 h2 hn]; rfl) h0
        · exact l2 (by omega)
  · rintro e ⟨rd, x5, x6, x7, rfl, f5, f6, f7, l1, l2, hr⟩
    rw [rgD_len] at l1 l2
    have fin : ∀ (i : Nat) a b, i ∈ rd → FOk a → Q (.p (.int (i : Int))) (.l [.int a, .int b]) := fun i a b hi ha => by
      obtain ⟨n, g1, g2⟩ := hr i hi
      exact hQ _ _ ⟨i, n, a, b, rfl, rfl, ha, g1, g2⟩
    have l3 : 1 ≤ rd.length := l2 (by omega)
    walk_at "w"
    refine comp_fm (fI fun j => if low ≤ j then some j else none) (by walk_at "w") (by simp only [List.length_map]; exact sl2 (by omega)) (fun j d hj q hq => ?_) ?_
    · obtain ⟨x, hx, rfl⟩ := mapD_get hj
      rw [List.getElem?_map] at hx
      cases hy : (rd.map Int.ofNat)[j]? with
      | none => rw [hy] at hx; cases hx
      | some y =>
        rw [hy] at hx
        cases hx
        have hq : q ((if low ≤ y then some y else none).map fun y => .p (.int y)) := hq
        walk_at "w"
        by_cases hm : low ≤ y
        · rw [if_pos hm] at hq
          rw [decide_eq_true hm]
          walk_at "w"
          exact hq
        · rw [if_neg hm] at hq
          rw [decide_eq_false hm]
          walk_at "w"
          exact hq
    · rw [filt_int, mkL_p]
      have hlt : ∀ i ∈ (rd.map Int.ofNat).filterMap (fun j => if low ≤ j then some j else none), ∃ m ∈ rd, i = (m : Int) := fun i hi => by
        rw [List.mem_filterMap] at hi
        obtain ⟨j, h1, h2⟩ := hi
        obtain ⟨m, h3, h4⟩ := List.mem_map.mp h1
        split at h2
        · cases h2; exact ⟨m, h3, h4.symm⟩
        · cases h2
      generalize hL : (rd.map Int.ofNat).filterMap (fun j => if low ≤ j then some j else none) = L at hlt
      walk_at "w"
      simp only [List.length_map]
      have last : ∀ {a b : Int}, FOk a → ds__law_set [D.l [P.int a, P.int b], D.p (P.int (rd.length : Nat))] fun d o => ixF (D.l ((rd.map Int.ofNat).map P.int)) d fun z => Q z o := fun {a b} ha => by
        refine set_call ha (by omega) fun u a2 b2 hu ha2 => ?_
        have hu' : u < (rd.map Int.ofNat).length := by rw [List.length_map]; omega
        walk_at "w"
        rw [atI_nat (mapI_at hu')]
        walk_at "w"
        rw [List.getElem_map]
        exact fin _ _ _ (List.getElem_mem _) ha2
      by_cases hp : (0 : Int) < (L.length : Nat)
      · rw [decide_eq_true hp]
        walk_at "w"
        refine set_call h1 (by omega) fun v a b hv ha => ?_
        walk_at "w"
        by_cases hv0 : (0 : Int) < (v : Int)
        · rw [decide_eq_true hv0]
          walk_at "w"
          simp only [List.length_map]
          refine set_call ha (by omega) fun u a2 b2 hu ha2 => ?_
          have hu' : u < L.length := by omega
          walk_at "w"
          rw [atI_nat (mapI_at hu')]
          walk_at "w"
          obtain ⟨i, hi, e⟩ := hlt _ (List.getElem_mem hu')
          rw [e]
          exact fin _ _ _ hi ha2
        · rw [decide_eq_false hv0]
          walk_at "w"
          simp only [List.length_map]
          exact last ha
      · rw [decide_eq_false hp]
        walk_at "w"
        simp only [List.length_map]
        exact last h1
theorem ok__law_next {P : Program} {w : World} {K : PySem.W.Frag} {mg : Str → Option Value} {base : Heap} {f : Addr} {fd : FuncData} (F : Fun K "_law_next" "_law_next" s__law_next f fd) (B : Blt mg) (C__law_need : Cd P w K mg base "_law_need" 1 ["values", "k"] none 2 ds__law_need) (C__law_set : Cd P w K mg base "_law_set" 1 ["font", "many"] (some 0) 2 ds__law_set) : FnOk P w K mg base CX0 2 f fd ["font", "values", "held", "low"] (spOf K (some 0) 4 ds__law_next) :=
  fn_ok (tb := w__law_next) F sc__law_next rfl (fun cdv A outer s H E hr => (s_cons (s_set (i := 4) sc__law_next.nd rfl (.inl rfl) (q_lst q_anil))
    (s_cons (s_for PassesOwn.never rfl (q_rg1 (by rfl) B.range (q_call1B c_len (by rfl) B.len rfl (q_rn 1 (pv 1)))) (g_var (i := 5) sc__law_next.nd rfl (.inl rfl)) (s_one (s_if (q_tcmp (o_eq (hu64 hr)) (q_rv (q_call1B c_len (by rfl) B.len rfl (q_rv (q_comp (own := [("at", 7)]) rfl sc__law_next.nd (q_it (q_rv (q_own DsOf.mono C__law_need (hr.mono (by decide)) (by rfl) (q_rscons (q_rn 1 (pv 1)) (q_rscons (q_rn 5 (pv 5)) q_rsnil)) mp0))) (blkOk_by (by rfl)) (by decide) (blkG fun _ _ _ _ _ => (g_var (i := 7) sc__law_next.nd rfl (.inl rfl))) (blkT fun _ _ _ _ _ => (q_ts1 (q_tcmp o_notin (q_rn 7 (pv 7)) (q_rn 2 (pv 2)) (by rfl)))) (blkE fun _ _ _ _ _ => q_int))))) (q_rv q_int) (by rfl)) (s_one (s_expr (q_app (pv 4) (q_var 5 (pv 5))))) s_nil)))
    (s_cons (s_setLc (i := 6) (own := [("k", 5)]) rfl sc__law_next.nd rfl rfl (sw_true rfl rfl rfl rfl) (q_it (q_rn 4 (pv 4))) (blkOk_by (by rfl)) (by decide) (blkG fun _ _ _ _ _ => (g_var (i := 5) sc__law_next.nd rfl (.inl rfl))) (blkT fun _ _ _ _ _ => (q_ts1 (q_tcmp o_ge (q_rn 5 (pv 5)) (q_rn 3 (pv 3)) (by rfl)))) (blkE fun _ _ _ _ _ => (q_var 5 (pv 5))))
    (s_cons (s_if (QW.qt (q_and (q_tcmp o_gt (q_rv (q_call1B c_len (by rfl) B.len rfl (q_rn 6 (pv 6)))) (q_rv q_int) (by rfl)) (q_and1 (q_tcmp o_gt (q_rv (q_own DsOf.mono C__law_set (hr.mono (by decide)) (by rfl) (q_rscons (q_rn 0 (pv 0)) (q_rscons (q_rv q_int) q_rsnil)) (mpS (by decide)))) (q_rv q_int) (by rfl))))) (s_one (s_ret (q_ix (q_rn 6 (pv 6)) (q_rv (q_own DsOf.mono C__law_set (hr.mono (by decide)) (by rfl) (q_rscons (q_rn 0 (pv 0)) (q_rscons (q_rv (q_call1B c_len (by rfl) B.len rfl (q_rn 6 (pv 6)))) q_rsnil)) (mpS (by decide))))))) s_nil)
    (s_one (s_ret (q_ix (q_rn 4 (pv 4)) (q_rv (q_own DsOf.mono C__law_set (hr.mono (by decide)) (by rfl) (q_rscons (q_rn 0 (pv 0)) (q_rscons (q_rv (q_call1B c_len (by rfl) B.len rfl (q_rn 4 (pv 4)))) q_rsnil)) (mpS (by decide)))))))))))) fun as Q hl h => law__law_next as Q h

/-- a line of code -/
structure Line where
  k : Nat
  r : Nat
  s : List Nat
abbrev pN (xs : List Nat) : List P := (xs.map Int.ofNat).map P.int
def pL (l : Line) : P := .tup [.int l.k, .int l.r, .tup (pN l.s)]
def hat (h : List Int) (x : Nat) : Int := h.getD x (-1)
structure LineOk (nd : List (List Int)) (h : List Int) (l : Line) : Prop where
  need : nd[l.k]? = some (l.s.map (hat h))
  r : l.r < 60
  s : ∀ x ∈ l.s, x < 60
def Run (nd : List (List Int)) : List Int → List Line → List Int → Prop
  | h, [], h' => h' = h
  | h, l :: ls, h' => LineOk nd h l ∧ Run nd (h.set l.r l.k) ls h'
theorem Run.snoc {nd : List (List Int)} {l : Line} : ∀ {h h' : List Int} {ls : List Line}, Run nd h ls h' → LineOk nd h' l → Run nd h (ls ++ [l]) (h'.set l.r l.k)
  | h, h', [], r, o => by cases r; exact ⟨o, rfl⟩
  | h, h', l0 :: ls, r, o => ⟨r.1, Run.snoc r.2 o⟩
theorem Run.len {nd : List (List Int)} : ∀ {h h' : List Int} {ls : List Line}, Run nd h ls h' → h'.length = h.length
  | h, h', [], r => by cases r; rfl
  | h, h', l0 :: ls, r => by rw [Run.len r.2, List.length_set]
theorem hat_set {h : List Int} {r : Nat} {v : Int} {x : Nat} (hr : r < h.length) : hat (h.set r v) x = if r = x then v else hat h x := by
  unfold hat
  rw [List.getD_eq_getElem?_getD, List.getD_eq_getElem?_getD]
  by_cases e : r = x
  · subst e; rw [List.getElem?_set_self hr]; simp
  · rw [List.getElem?_set_ne e]; simp [e]
theorem hat_at {h : List Int} {x : Nat} (hx : x < h.length) : (h.map P.int)[x]? = some (.int (hat h x)) := by
  rw [mapI_at hx]
  unfold hat
  rw [List.getD_eq_getElem?_getD, List.getElem?_eq_getElem hx]; rfl
def h0 : List Int := List.replicate 60 (-1)
theorem hat_h0 (x : Nat) : hat h0 x = -1 := by
  unfold hat h0
  rw [List.getD_eq_getElem?_getD, List.getElem?_replicate]
  split <;> rfl
theorem Run.written {nd : List (List Int)} {x : Nat} : ∀ {h h' : List Int} {ls : List Line}, Run nd h ls h' → h.length = 60 → hat h' x ≠ hat h x → ∃ l ∈ ls, l.r = x
  | h, h', [], r, _, e => by cases r; exact absurd rfl e
  | h, h', l :: ls, r, hl, e => by
    by_cases hx : l.r = x
    · exact ⟨l, by simp, hx⟩
    · obtain ⟨m, h1, h2⟩ := Run.written (x := x) r.2 (by rw [List.length_set]; exact hl) (by
        rw [hat_set (by rw [hl]; exact r.1.r), if_neg hx]; exact e)
      exact ⟨m, List.mem_cons_of_mem _ h1, h2⟩
theorem next_call {vs : List P} {nd : List (List Int)} {held : List Int} {a b low : Int} {Q : D → D → Prop} (ha : FOk a) (hv : Vals_ vs nd) (h1 : 1 ≤ nd.length) (h2 : nd.length ≤ 1000)
    (h : ∀ (k : Nat) (n : List Int) a b, FOk a → nd[k]? = some n → (∀ j ∈ n, j ∈ held) → Q (.p (.int (k : Int))) (.l [.int a, .int b])) : ds__law_next [.l [.int a, .int b], .l vs, .l (held.map P.int), .p (.int low)] Q :=
  ⟨(a, b, vs, nd, held, low), rfl, ⟨ha, hv, h1, h2⟩, fun d o ⟨k, n, a, b, e1, e2, g1, g2, g3⟩ => by subst e1 e2; exact h k n a b g1 g2 g3⟩
theorem need_len {vs : List P} {nd : List (List Int)} {k : Nat} {n : List Int} (h2 : Vals_ vs nd) (hn : nd[k]? = some n) : n.length ≤ 3 ∧ ∀ j ∈ n, 0 ≤ j := by
  have hl := (List.getElem?_eq_some_iff.mp hn).1
  have hl2 : k < vs.length := by rw [h2.len]; exact hl
  rcases h2.at_ k _ n (List.getElem?_eq_getElem hl2) hn with ⟨_, rfl⟩ | ⟨_, h, h'⟩
  · simp
  · exact ⟨h, fun j hj => (h' j hj).1⟩
def zl (r : Nat) : Line := ⟨0, r, []⟩
abbrev s__law_drawn : Stmt := topS 11
theorem sc__law_drawn : FnScope ["font", "values", "pool", "many", "first", "own", "held", "lines", "line", "newest", "turn", "k", "sources", "at", "places", "register"] ["font", "values", "pool", "many", "first", "own"] (defScope s__law_drawn) := ⟨rfl, rfl, rfl, by decide +kernel, rfl, by decide +kernel, by decide +kernel⟩
/-- slots: font=0 values=1 pool=2 many=3 first=4 own=5 held=6 lines=7 line=8 newest=9 turn=10 k=11 sources=12 at=13 places=14 register=15 -/
def w__law_drawn : VS := (vSeq (vSet 6 (tComp [11] (tRg1 (tC (.int 60))) (gVar 11) tY (tUn negF (tRv (tC (.int 1))))))
    (vSeq (vSet 7 (tComp [8] (tIt (tRn 4)) (gVar 8) tY (tVar 8)))
    (vSeq (vFor (tIt (tRn 4)) (gVar 8) (vAsg (tBin ixF (tRn 8) (tRv (tC (.int 0)))) (gSub 6 (tBin ixF (tRn 8) (tRv (tC (.int 1)))))))
    (vSeq (vSet 9 (tC (.int 0)))
    (vSeq (vFor (tRg1 (tVar 3)) (gVar 10) (vSeq (vSet 11 (tCallV (some 0) ds__law_next (tRsCons (tRn 0) (tRsCons (tRn 1) (tRsCons (tRn 6) (tRsCons (tRn 9) tRsNil))))))
    (vSeq (vSet 12 (tLst tANil))
    (vSeq (vFor (tIt (tRv (tCallV none ds__law_need (tRsCons (tRn 1) (tRsCons (tRn 11) tRsNil))))) (gVar 13) (vSeq (vSet 14 (tComp [15] (tIt (tRn 2)) (gVar 15) (tTst (tBin eqF (tRv (tBin ixF (tRn 6) (tRn 15))) (tRn 13))) (tVar 15)))
    (vExpr (tApp 12 (tBin ixF (tRn 14) (tRv (tCallV (some 0) ds__law_set (tRsCons (tRn 0) (tRsCons (tRv (tUn lenF (tRn 14))) tRsNil)))))))))
    (vSeq (vSet 15 (tBin ixF (tRn 2) (tRv (tCallV (some 0) ds__law_set (tRsCons (tRn 0) (tRsCons (tRv (tUn lenF (tRn 2))) tRsNil))))))
    (vSeq (vIf (tAnd (tTst (tBin gtF (tRv (tUn lenF (tRn 12))) (tRv (tC (.int 0))))) (tTst (tBin ltF (tRv (tCallV (some 0) ds__law_set (tRsCons (tRn 0) (tRsCons (tRv (tC (.int 8))) tRsNil)))) (tRn 5)))) (vSet 15 (tBin ixF (tRn 12) (tRv (tCallV (some 0) ds__law_set (tRsCons (tRn 0) (tRsCons (tRv (tUn lenF (tRn 12))) tRsNil)))))) vNext)
    (vSeq (vAsg (tVar 11) (gSub 6 (tVar 15)))
    (vSeq (vSet 9 (tVar 11))
    (vExpr (tApp 7 (tTup (tACons (tVar 11) (tACons (tVar 15) (tACons (tUn tupF (tRn 12)) tANil))))))))))))))
    (vRet (tTup (tACons (tVar 7) (tACons (tVar 6) tANil)))))))))

def ds__law_drawn : DS := DsOf (G := Int × Int × List P × List (List Int) × List Nat × Nat × List Nat × Int) (fun g => [.l [.int g.1, .int g.2.1], .l g.2.2.1, .l (pN g.2.2.2.2.1), .p (.int (g.2.2.2.2.2.1 : Nat)), .l ((g.2.2.2.2.2.2.1.map zl).map pL), .p (.int g.2.2.2.2.2.2.2)])
  (fun g => FOk g.1 ∧ Vals_ g.2.2.1 g.2.2.2.1 ∧ (1 ≤ g.2.2.2.1.length ∧ g.2.2.2.1.length ≤ 1000) ∧ (1 ≤ g.2.2.2.2.1.length ∧ g.2.2.2.2.1.length ≤ 60 ∧ ∀ x ∈ g.2.2.2.2.1, x < 60) ∧ g.2.2.2.2.2.1 ≤ 1000 ∧ g.2.2.2.2.2.2.1.length ≤ 60 ∧ ∀ x ∈ g.2.2.2.2.2.2.1, x ∈ g.2.2.2.2.1)
  fun g d o => ∃ (ls : List Line) (h : List Int) (a b : Int), d = .t [.l (ls.map pL), .l (h.map P.int)] ∧ o = .l [.int a, .int b] ∧ FOk a ∧ Run g.2.2.2.1 h0 ls h ∧ (∀ l ∈ ls, l.r ∈ g.2.2.2.2.1) ∧ ls.length = g.2.2.2.2.2.1 + g.2.2.2.2.2.2.1.length
theorem law__law_drawn (as : List D) (Q : D → D → Prop) (h : ds__law_drawn as Q) : w__law_drawn ⟨fun e => Q (.p .non) (outM (some 0) e), fun d e => Q d (outM (some 0) e), fun _ => False, fun _ => False⟩ (argS (some 0) as ++ List.replicate 10 .e) := by
  obtain ⟨⟨a, b, vs, nd, pool, many, first, own⟩, rfl, ⟨ha, hv, ⟨n1, n2⟩, ⟨p1, p2, p3⟩, m1, f1, f2⟩, hQ⟩ := h
  have ha : FOk a := ha
  have hv : Vals_ vs nd := hv
  have n1 : 1 ≤ nd.length := n1
  have n2 : nd.length ≤ 1000 := n2
  have p1 : 1 ≤ pool.length := p1
  have p2 : pool.length ≤ 60 := p2
  have p3 : ∀ x ∈ pool, x < 60 := p3
  have m1 : many ≤ 1000 := m1
  have f1 : first.length ≤ 60 := f1
  have f2 : ∀ x ∈ first, x ∈ pool := f2
  have z0 : nd[0]? = some [] := by
    have h := List.getElem?_eq_getElem (l := nd) (i := 0) (by omega)
    rw [h, need0 hv h]
  unfold w__law_drawn
  walk_at "w"
  refine ⟨⟨by omega, by omega⟩, ?_⟩
  refine comp_fm (fun _ => some (.p (.int (-1)))) (by walk_at "w") (by rw [rgD_len]; exact sl2 (by decide)) (fun j d hj q hq => ?_) ?_
  · obtain ⟨rfl, _, _⟩ := rgD_get hj
    walk_at "w"
    exact hq
  have e0 : (rgD 0 60).filterMap (fun _ => some (D.p (.int (-1)))) = (h0.map P.int).map D.p := by rfl
  rw [e0, mkL_p]
  walk_at "w"
  refine comp_fm (fun d => some d) (by walk_at "w") (by simp only [List.length_map]; exact sl2 (by omega)) (fun j d hj q hq => ?_) ?_
  · obtain ⟨x, hx, rfl⟩ := mapD_get hj
    walk_at "w"
    exact hq
  rw [show (fun d : D => some d) = some from rfl, List.filterMap_some, mkL_p]
  walk_at "w"
  refine for_i (fun k e => ∃ (h : List Int) (x8 : Sl), e = [Sl.b (D.l [P.int a, P.int b]), Sl.r 0 (D.l vs), Sl.r 0 (D.l (pN pool)), Sl.o (D.p (P.int many)), Sl.r 0 (D.l ((first.map zl).map pL)), Sl.o (D.p (P.int own)), Sl.o (D.l (h.map P.int)), Sl.o (D.l ((first.map zl).map pL)), x8, Sl.e, Sl.e, Sl.e, Sl.e, Sl.e, Sl.e, Sl.e] ∧ FS x8 ∧ Run nd h0 ((first.map zl).take k) h) ⟨h0, _, by walk_at "w", .e, rfl⟩ ?_ ?_
  · rintro k d e hk ⟨h, x8, rfl, f8, hr⟩
    obtain ⟨x, hx, rfl⟩ := mapD_get hk
    rw [List.getElem?_map] at hx
    cases hy : (first.map zl)[k]? with
    | none => rw [hy] at hx; cases hx
    | some y =>
      rw [hy] at hx
      cases hx
      have hl : h.length = 60 := hr.len
      rw [List.getElem?_map] at hy
      cases hz : first[k]? with
      | none => rw [hz] at hy; cases hy
      | some r =>
        rw [hz] at hy
        cases hy
        have hr60 : r < 60 := p3 _ (f2 _ (List.mem_of_getElem? hz))
        have hpl : pL (zl r) = .tup [.int ((0 : Nat) : Int), .int r, .tup []] := rfl
        rw [hpl]
        walk_at "w"
        simp only [List.length_map]
        rw [ixN_at (by omega : r < h.length)]
        walk_at "w"
        rw [map_set]
        refine ⟨_, _, rfl, .p _, ?_⟩
        rw [List.take_succ, List.getElem?_map, hz]
        exact hr.snoc ⟨by rw [show (zl r).k = 0 from rfl, z0]; rfl, hr60, by intro x hx; cases hx⟩
  · rintro e ⟨h, x8, rfl, f8, hr⟩
    rw [show ((first.map zl).map pL |>.map D.p).length = (first.map zl).length by simp only [List.length_map], List.take_length] at hr
    walk_at "w"
    refine ⟨⟨by omega, by omega⟩, ?_⟩
    refine for_i (fun j e => ∃ (a b : Int) (h : List Int) (ls : List Line) (nw : Int) (x10 x11 x12 x13 x14 x15 : Sl), e = [Sl.b (D.l [P.int a, P.int b]), Sl.r 0 (D.l vs), Sl.r 0 (D.l (pN pool)), Sl.o (D.p (P.int many)), Sl.r 0 (D.l ((first.map zl).map pL)), Sl.o (D.p (P.int own)), Sl.o (D.l (h.map P.int)), Sl.o (D.l (ls.map pL)), x8, Sl.o (D.p (P.int nw)), x10, x11, x12, x13, x14, x15] ∧
        FOk a ∧ Run nd h0 ls h ∧ (∀ l ∈ ls, l.r ∈ pool) ∧ ls.length = j + first.length ∧ FS x10 ∧ FS x11 ∧ FL x12 ∧ FS x13 ∧ FL x14 ∧ FS x15)
      ⟨a, b, h, first.map zl, _, _, _, _, _, _, _, rfl, ha, hr, fun l hl => ?_, by rw [List.length_map]; omega, .e, .e, .e, .e, .e, .e⟩ ?_ ?_
    · obtain ⟨r, h1, rfl⟩ := List.mem_map.mp hl
      exact f2 r h1
    · rintro j d e hj ⟨a, b, h, ls, nw, x10, x11, x12, x13, x14, x15, rfl, ha, hr, hreg, hlen, g10, g11, g12, g13, g14, g15⟩
      obtain ⟨rfl, hj1, hj2⟩ := rgD_get hj
      have hl : h.length = 60 := hr.len
      walk_at "w"
      refine ⟨rfl, next_call ha hv n1 n2 fun k n a b ha hn hin => ?_⟩
      obtain ⟨nl, nn⟩ := need_len hv hn
      refine ⟨sl2 (by decide), ?_⟩
      refine need_call hv hn true fun o => ?_
      walk_at "w"
      refine for_i (fun i e => ∃ (a b : Int) (src : List Nat) (x13 x14 x15 : Sl), e = [Sl.b (D.l [P.int a, P.int b]), Sl.r 0 (D.l vs), Sl.r 0 (D.l (pN pool)), Sl.o (D.p (P.int many)), Sl.r 0 (D.l ((first.map zl).map pL)), Sl.o (D.p (P.int own)), Sl.o (D.l (h.map P.int)), Sl.o (D.l (ls.map pL)), x8, Sl.o (D.p (P.int nw)), Sl.o (D.p (P.int (0 + (j : Int)))), Sl.o (D.p (P.int k)), Sl.o (D.l (pN src)), x13, x14, x15] ∧
          FOk a ∧ src.map (hat h) = n.take i ∧ (∀ s ∈ src, s ∈ pool) ∧ FS x13 ∧ FL x14 ∧ FS x15)
        ⟨a, b, [], _, _, _, rfl, ha, rfl, by simp, g13, g14, g15⟩ ?_ ?_
      · rintro i d e hi ⟨a, b, src, x13, x14, x15, rfl, ha, hsrc, hsp, g13, g14, g15⟩
        obtain ⟨x, hx, rfl⟩ := mapD_get hi
        rw [List.getElem?_map] at hx
        cases hy : n[i]? with
        | none => rw [hy] at hx; cases hx
        | some y =>
          rw [hy] at hx
          cases hx
          walk_at "w"
          refine comp_fm (fI fun r => if hat h r.toNat = y then some r else none) (by walk_at "w") (by simp only [List.length_map]; exact sl2 (by omega)) (fun c d hc q hq => ?_) ?_
          · obtain ⟨z, hz, rfl⟩ := mapD_get hc
            rw [List.getElem?_map, List.getElem?_map] at hz
            cases hw : pool[c]? with
            | none => rw [hw] at hz; cases hz
            | some r =>
              rw [hw] at hz
              cases hz
              have hr60 : r < h.length := by rw [hl]; exact p3 r (List.mem_of_getElem? hw)
              have hq : q ((if hat h r = y then some (Int.ofNat r) else none).map fun y => .p (.int y)) := hq
              walk_at "w"
              rw [show atI (h.map P.int) (Int.ofNat r) = some (.int (hat h r)) from atI_nat (hat_at hr60)]
              walk_at "w"
              by_cases he : hat h r = y
              · rw [if_pos he] at hq
                rw [decide_eq_true he]
                walk_at "w"
                exact hq
              · rw [if_neg he] at hq
                rw [decide_eq_false he]
                walk_at "w"
                exact hq
          · rw [filt_int, mkL_p]
            have hL : ∀ c ∈ (pool.map Int.ofNat).filterMap (fun r => if hat h r.toNat = y then some r else none), ∃ r ∈ pool, c = Int.ofNat r ∧ hat h r = y := fun c hc => by
              rw [List.mem_filterMap] at hc
              obtain ⟨w, w1, w2⟩ := hc
              obtain ⟨r, w3, rfl⟩ := List.mem_map.mp w1
              split at w2
              · rename_i e
                cases w2
                exact ⟨r, w3, rfl, e⟩
              · cases w2
            have hne : (pool.map Int.ofNat).filterMap (fun r => if hat h r.toNat = y then some r else none) ≠ [] := fun z => by
              rw [List.filterMap_eq_nil_iff] at z
              have hyn : y ∈ n := List.mem_of_getElem? hy
              obtain ⟨r, hr1, hr2⟩ := List.getElem_of_mem (hin y hyn)
              have e1 : hat h r = y := by
                unfold hat
                rw [List.getD_eq_getElem?_getD, List.getElem?_eq_getElem hr1, ← hr2]; rfl
              obtain ⟨l, l1, l2⟩ := Run.written (x := r) hr rfl (by rw [hat_h0, e1]; have := nn y hyn; omega)
              have hrp : r ∈ pool := by rw [← l2]; exact hreg l l1
              have := z (Int.ofNat r) (List.mem_map.mpr ⟨r, hrp, rfl⟩)
              rw [show (Int.ofNat r).toNat = r from rfl, if_pos e1] at this
              cases this
            generalize hLg : (pool.map Int.ofNat).filterMap (fun r => if hat h r.toNat = y then some r else none) = L at hL hne
            have hLp : 0 < L.length := List.length_pos_iff.mpr hne
            walk_at "w"
            simp only [List.length_map]
            refine set_call ha (by omega) fun v a b hvv ha => ?_
            have hv' : v < L.length := by omega
            walk_at "w"
            rw [atI_nat (mapI_at hv')]
            obtain ⟨r, hr1, hr2, hr3⟩ := hL _ (List.getElem_mem hv')
            rw [hr2]
            walk_at "w"
            have hsl : src.length ≤ 3 := by
              have := congrArg List.length hsrc
              rw [List.length_map, List.length_take] at this
              omega
            refine ⟨by simp only [List.length_map]; exact sl1 (by omega), a, b, src ++ [r], _, _, _, by simp only [pN, List.map_append]; rfl, ha, ?_, fun s hs => ?_, .p _, .o _, g15⟩
            · rw [List.map_append, hsrc, List.take_succ, hy]
              simp [hr3]
            · rcases List.mem_append.mp hs with z | z
              · exact hsp s z
              · simp at z; subst z; exact hr1
      · rintro e ⟨a, b, src, x13, x14, x15, rfl, ha, hsrc, hsp, g13, g14, g15⟩
        rw [show ((n.map P.int).map D.p).length = n.length by simp only [List.length_map], List.take_length] at hsrc
        have hsl : src.length ≤ 3 := by
          have := congrArg List.length hsrc
          rw [List.length_map] at this
          omega
        have fin : ∀ (r : Nat) (a b : Int) (x15 : Sl), FOk a → r ∈ pool → FS x15 → ∃ (a2 b2 : Int) (h2 : List Int) (ls2 : List Line) (nw2 : Int) (y10 y11 y12 y13 y14 y15 : Sl), [Sl.b (D.l [P.int a, P.int b]), Sl.r 0 (D.l vs), Sl.r 0 (D.l (pN pool)), Sl.o (D.p (P.int many)), Sl.r 0 (D.l ((first.map zl).map pL)), Sl.o (D.p (P.int own)), Sl.o (D.l ((h.map P.int).set r (P.int k))), Sl.o (D.l (ls.map pL ++ [P.tup [P.int k, P.int r, P.tup (pN src)]])), x8, Sl.o (D.p (P.int k)), Sl.o (D.p (P.int (0 + (j : Int)))), Sl.o (D.p (P.int k)), Sl.o (D.l (pN src)), x13, x14, x15] =
            [Sl.b (D.l [P.int a2, P.int b2]), Sl.r 0 (D.l vs), Sl.r 0 (D.l (pN pool)), Sl.o (D.p (P.int many)), Sl.r 0 (D.l ((first.map zl).map pL)), Sl.o (D.p (P.int own)), Sl.o (D.l (h2.map P.int)), Sl.o (D.l (ls2.map pL)), x8, Sl.o (D.p (P.int nw2)), y10, y11, y12, y13, y14, y15] ∧
              FOk a2 ∧ Run nd h0 ls2 h2 ∧ (∀ l ∈ ls2, l.r ∈ pool) ∧ ls2.length = j + 1 + first.length ∧ FS y10 ∧ FS y11 ∧ FL y12 ∧ FS y13 ∧ FL y14 ∧ FS y15 := fun r a b x15 ha hrp g15 => by
          refine ⟨a, b, h.set r k, ls ++ [⟨k, r, src⟩], _, _, _, _, _, _, _, by rw [map_set, List.map_append]; rfl, ha, hr.snoc ⟨by rw [hsrc]; exact hn, p3 r hrp, fun s hs => p3 s (hsp s hs)⟩, fun l hl => ?_, by rw [List.length_append]; simp; omega, .p _, .p _, .o _, g13, g14, g15⟩
          rcases List.mem_append.mp hl with z | z
          · exact hreg l z
          · simp at z; subst z; exact hrp
        walk_at "w"
        simp only [List.length_map]
        refine set_call ha (by omega) fun v a b hvv ha => ?_
        have hvp : v < pool.length := by omega
        walk_at "w"
        rw [show atI (pN pool) (v : Int) = some (.int (Int.ofNat pool[v])) from atI_nat (by rw [List.getElem?_map, List.getElem?_map, List.getElem?_eq_getElem hvp]; rfl)]
        walk_at "w"
        have hpm : pool[v] ∈ pool := List.getElem_mem hvp
        have h60 : pool[v] < h.length := by rw [hl]; exact p3 _ hpm
        have hls : ls.length < sizeLine := sl1 (by omega)
        by_cases hs0 : (0 : Int) < (src.length : Nat)
        · rw [decide_eq_true hs0]
          walk_at "w"
          refine set_call ha (by omega) fun u a b hu ha => ?_
          walk_at "w"
          by_cases ho : (u : Int) < own
          · rw [decide_eq_true ho]
            walk_at "w"
            simp only [List.length_map]
            refine set_call ha (by omega) fun t a b ht ha => ?_
            have htp : t < src.length := by omega
            walk_at "w"
            rw [show atI (pN src) (t : Int) = some (.int (Int.ofNat src[t])) from atI_nat (by rw [List.getElem?_map, List.getElem?_map, List.getElem?_eq_getElem htp]; rfl)]
            walk_at "w"
            have hsm : src[t] ∈ pool := hsp _ (List.getElem_mem htp)
            have h61 : src[t] < h.length := by rw [hl]; exact p3 _ hsm
            simp only [List.length_map]
            rw [show ixN h.length (Int.ofNat src[t]) = some src[t] from ixN_at h61]
            walk_at "w"
            exact ⟨sl2 (by decide), hls, fin _ _ _ _ ha hsm (.p _)⟩
          · rw [decide_eq_false ho]
            walk_at "w"
            simp only [List.length_map]
            rw [show ixN h.length (Int.ofNat pool[v]) = some pool[v] from ixN_at h60]
            walk_at "w"
            exact ⟨sl2 (by decide), hls, fin _ _ _ _ ha hpm (.p _)⟩
        · rw [decide_eq_false hs0]
          walk_at "w"
          simp only [List.length_map]
          rw [show ixN h.length (Int.ofNat pool[v]) = some pool[v] from ixN_at h60]
          walk_at "w"
          exact ⟨sl2 (by decide), hls, fin _ _ _ _ ha hpm (.p _)⟩
    · rintro e ⟨a, b, h, ls, nw, x10, x11, x12, x13, x14, x15, rfl, ha, hr, hreg, hlen, g10, g11, g12, g13, g14, g15⟩
      rw [rgD_len] at hlen
      walk_at "w"
      exact ⟨sl2 (by decide), hQ _ _ ⟨ls, h, a, b, rfl, rfl, ha, hr, hreg, by show ls.length = many + first.length; omega⟩⟩
theorem ok__law_drawn {P : Program} {w : World} {K : PySem.W.Frag} {mg : Str → Option Value} {base : Heap} {f : Addr} {fd : FuncData} (F : Fun K "_law_drawn" "_law_drawn" s__law_drawn f fd) (B : Blt mg) (C__law_need : Cd P w K mg base "_law_need" 1 ["values", "k"] none 2 ds__law_need) (C__law_next : Cd P w K mg base "_law_next" 2 ["font", "values", "held", "low"] (some 0) 4 ds__law_next) (C__law_set : Cd P w K mg base "_law_set" 1 ["font", "many"] (some 0) 2 ds__law_set) : FnOk P w K mg base CX0 3 f fd ["font", "values", "pool", "many", "first", "own"] (spOf K (some 0) 6 ds__law_drawn) :=
  fn_ok (tb := w__law_drawn) F sc__law_drawn rfl (fun cdv A outer s H E hr => (s_cons (s_set (i := 6) sc__law_drawn.nd rfl (.inr rfl) (q_comp (own := [("k", 11)]) rfl sc__law_drawn.nd (q_rg1 (by rfl) B.range q_int) (blkOk_by (by rfl)) (by decide) (blkG fun _ _ _ _ _ => (g_var (i := 11) sc__law_drawn.nd rfl (.inl rfl))) (blkT fun _ _ _ _ _ => q_ts0) (blkE fun _ _ _ _ _ => (q_un o_neg (q_rv q_int)))))
    (s_cons (s_setLc (i := 7) (own := [("line", 8)]) rfl sc__law_drawn.nd rfl rfl (sw_true rfl rfl rfl rfl) (q_it (q_rn 4 (pv 4))) (blkOk_by (by rfl)) (by decide) (blkG fun _ _ _ _ _ => (g_var (i := 8) sc__law_drawn.nd rfl (.inl rfl))) (blkT fun _ _ _ _ _ => q_ts0) (blkE fun _ _ _ _ _ => (q_var 8 (pv 8))))
    (s_cons (s_for PassesOwn.never rfl (q_it (q_rn 4 (pv 4))) (g_var (i := 8) sc__law_drawn.nd rfl (.inl rfl)) (s_one (s_asg (q_ix (q_rn 8 (pv 8)) (q_rv q_int)) (g_sub (pv 6) (q_ix (q_rn 8 (pv 8)) (q_rv q_int))))))
    (s_cons (s_set (i := 9) sc__law_drawn.nd rfl (.inl rfl) q_int)
    (s_cons (s_for PassesOwn.never rfl (q_rg1 (by rfl) B.range (q_var 3 (pv 3))) (g_var (i := 10) sc__law_drawn.nd rfl (.inl rfl)) (s_cons (s_set (i := 11) sc__law_drawn.nd rfl (.inl rfl) (q_own DsOf.mono C__law_next (hr.mono (by decide)) (by rfl) (q_rscons (q_rn 0 (pv 0)) (q_rscons (q_rn 1 (pv 1)) (q_rscons (q_rn 6 (pv 6)) (q_rscons (q_rn 9 (pv 9)) q_rsnil)))) (mpS (by decide))))
    (s_cons (s_set (i := 12) sc__law_drawn.nd rfl (.inl rfl) (q_lst q_anil))
    (s_cons (s_for PassesOwn.never rfl (q_it (q_rv (q_own DsOf.mono C__law_need (hr.mono (by decide)) (by rfl) (q_rscons (q_rn 1 (pv 1)) (q_rscons (q_rn 11 (pv 11)) q_rsnil)) mp0))) (g_var (i := 13) sc__law_drawn.nd rfl (.inr rfl)) (s_cons (s_setLc (i := 14) (own := [("register", 15)]) rfl sc__law_drawn.nd rfl rfl (sw_true rfl rfl rfl rfl) (q_it (q_rn 2 (pv 2))) (blkOk_by (by rfl)) (by decide) (blkG fun _ _ _ _ _ => (g_var (i := 15) sc__law_drawn.nd rfl (.inl rfl))) (blkT fun _ _ _ _ _ => (q_ts1 (q_tcmp (o_eq (hu64 hr)) (q_rv (q_ix (q_rn 6 (pv 6)) (q_rn 15 (pv 15)))) (q_rn 13 (pv 13)) (by rfl)))) (blkE fun _ _ _ _ _ => (q_var 15 (pv 15))))
    (s_one (s_expr (q_app (pv 12) (q_ix (q_rn 14 (pv 14)) (q_rv (q_own DsOf.mono C__law_set (hr.mono (by decide)) (by rfl) (q_rscons (q_rn 0 (pv 0)) (q_rscons (q_rv (q_call1B c_len (by rfl) B.len rfl (q_rn 14 (pv 14)))) q_rsnil)) (mpS (by decide))))))))))
    (s_cons (s_set (i := 15) sc__law_drawn.nd rfl (.inl rfl) (q_ix (q_rn 2 (pv 2)) (q_rv (q_own DsOf.mono C__law_set (hr.mono (by decide)) (by rfl) (q_rscons (q_rn 0 (pv 0)) (q_rscons (q_rv (q_call1B c_len (by rfl) B.len rfl (q_rn 2 (pv 2)))) q_rsnil)) (mpS (by decide))))))
    (s_cons (s_if (QW.qt (q_and (q_tcmp o_gt (q_rv (q_call1B c_len (by rfl) B.len rfl (q_rn 12 (pv 12)))) (q_rv q_int) (by rfl)) (q_and1 (q_tcmp o_lt (q_rv (q_own DsOf.mono C__law_set (hr.mono (by decide)) (by rfl) (q_rscons (q_rn 0 (pv 0)) (q_rscons (q_rv q_int) q_rsnil)) (mpS (by decide)))) (q_rn 5 (pv 5)) (by rfl))))) (s_one (s_set (i := 15) sc__law_drawn.nd rfl (.inl rfl) (q_ix (q_rn 12 (pv 12)) (q_rv (q_own DsOf.mono C__law_set (hr.mono (by decide)) (by rfl) (q_rscons (q_rn 0 (pv 0)) (q_rscons (q_rv (q_call1B c_len (by rfl) B.len rfl (q_rn 12 (pv 12)))) q_rsnil)) (mpS (by decide))))))) s_nil)
    (s_cons (s_asg (q_var 11 (pv 11)) (g_sub (pv 6) (q_var 15 (pv 15))))
    (s_cons (s_set (i := 9) sc__law_drawn.nd rfl (.inl rfl) (q_var 11 (pv 11)))
    (s_one (s_expr (q_app (pv 7) (q_tup (q_acons (q_var 11 (pv 11)) (q_acons (q_var 15 (pv 15)) (q_acons (q_call1T c_tup (by rfl) B.tuple rfl (q_rn 12 (pv 12))) q_anil)))))))))))))))
    (s_one (s_ret (q_tup (q_acons (q_var 7 (pv 7)) (q_acons (q_var 6 (pv 6)) q_anil))))))))))) fun as Q hl h => law__law_drawn as Q h

theorem nodup_le {α : Type} [DecidableEq α] : ∀ (l m : List α), l.Nodup → (∀ x ∈ l, x ∈ m) → l.length ≤ m.length
  | [], m, _, _ => Nat.zero_le _
  | x :: l, m, nd, h => by
    have nd := List.nodup_cons.mp nd
    have hx := h x (by simp)
    have := nodup_le l (m.erase x) nd.2 fun y hy => (List.mem_erase_of_ne (fun e => nd.1 (by rw [← e]; exact hy))).mpr (h y (List.mem_cons_of_mem _ hy))
    rw [List.length_erase_of_mem hx] at this
    have : 0 < m.length := List.length_pos_of_mem hx
    rw [List.length_cons]; omega
theorem toN {ns : List Int} (h : ∀ n ∈ ns, 0 ≤ n) : ns = (ns.map Int.toNat).map Int.ofNat := by
  rw [List.map_map]
  conv => lhs; rw [← List.map_id ns]
  apply List.map_congr_left
  intro n hn
  have := h n hn
  simp; omega
theorem pw_nodup {ns : List Int} (h : ns.Pairwise (· < ·)) : ns.Nodup := h.imp fun h e => by omega
abbrev s_registers_of : Stmt := topS 1
theorem sc_registers_of : FnScope ["code", "line"] ["code"] (defScope s_registers_of) := ⟨rfl, rfl, rfl, by decide +kernel, rfl, by decide +kernel, by decide +kernel⟩
/-- slots: code=0 line=1 -/
def w_registers_of : VS := (vRet (tUn tupF (tRv (tSset [1] (tIt (tRv (tBin ixF (tRn 0) (tRv (tC (.int 0)))))) (gVar 1) (tBin ixF (tRn 1) (tRv (tC (.int 1))))))))

def ds_registers_of : DS := DsOf (G := List Line × List Nat) (fun g => [.p (.tup [.tup (g.1.map pL), .tup (pN g.2)])]) (fun g => ∀ l ∈ g.1, l.r < 60) fun g d o => ∃ rs : List Nat, d = .p (.tup (pN rs)) ∧ rs.Nodup ∧ ∀ x, x ∈ rs ↔ ∃ l ∈ g.1, l.r = x
theorem law_registers_of (as : List D) (Q : D → D → Prop) (h : ds_registers_of as Q) : w_registers_of ⟨fun e => Q (.p .non) (outM none e), fun d e => Q d (outM none e), fun _ => False, fun _ => False⟩ (argS none as ++ List.replicate 1 .e) := by
  obtain ⟨⟨ls, pl⟩, rfl, hp, hQ⟩ := h
  have hp : ∀ l ∈ ls, l.r < 60 := hp
  unfold w_registers_of
  walk_at "w"
  refine sset_i (by walk_at "w") (fun k acc e => e = [Sl.o (D.p (P.tup [P.tup (ls.map pL), P.tup (pN pl)])), Sl.e] ∧ acc = (ls.take k).map fun l => (l.r : Int)) ⟨by walk_at "w", rfl⟩ ?_ ?_
  · rintro k d acc e hk ⟨rfl, rfl⟩
    obtain ⟨x, hx, rfl⟩ := mapD_get hk
    rw [List.getElem?_map] at hx
    cases hy : ls[k]? with
    | none => rw [hy] at hx; cases hx
    | some l =>
      rw [hy] at hx
      cases hx
      have := hp l (List.mem_of_getElem? hy)
      have e : pL l = .tup [.int l.k, .int l.r, .tup (pN l.s)] := rfl
      rw [e]
      walk_at "w"
      exact ⟨⟨by omega, by omega⟩, by rw [List.take_succ, hy]; simp⟩
  · rintro acc e ⟨rfl, rfl⟩ ns hpw hmem
    rw [show ((ls.map pL).map D.p).length = ls.length by simp only [List.length_map], List.take_length] at hmem
    have h0 : ∀ n ∈ ns, 0 ≤ n := fun n hn => by
      obtain ⟨l, _, rfl⟩ := List.mem_map.mp ((hmem n).mp hn)
      omega
    have e := toN h0
    walk_at "w"
    refine hQ _ _ ⟨ns.map Int.toNat, by rw [pN, ← e], ?_, fun x => ?_⟩
    · have := pw_nodup hpw
      rw [e] at this
      exact this.of_map Int.ofNat fun a b h e => h (by rw [e])
    · rw [List.mem_map]
      constructor
      · rintro ⟨n, hn, rfl⟩
        obtain ⟨l, hl, rfl⟩ := List.mem_map.mp ((hmem n).mp hn)
        exact ⟨l, hl, by simp⟩
      · rintro ⟨l, hl, rfl⟩
        exact ⟨l.r, (hmem _).mpr (List.mem_map.mpr ⟨l, hl, rfl⟩), by simp⟩
theorem ok_registers_of {P : Program} {w : World} {K : PySem.W.Frag} {mg : Str → Option Value} {base : Heap} {f : Addr} {fd : FuncData} (F : Fun K "registers_of" "registers_of" s_registers_of f fd) (B : Blt mg) : FnOk P w K mg base CX0 1 f fd ["code"] (spOf K none 1 ds_registers_of) :=
  fn_ok (tb := w_registers_of) F sc_registers_of rfl (fun cdv A outer s H E hr => (s_one (s_ret (q_call1T c_tup (by rfl) B.tuple rfl (q_rv (q_sset (own := [("line", 1)]) rfl (by rfl) B.sorted sc_registers_of.nd (q_it (q_rv (q_ix (q_rn 0 (pv 0)) (q_rv q_int)))) (blkOk_by (by rfl)) (by decide) (blkG fun _ _ _ _ _ => (g_var (i := 1) sc_registers_of.nd rfl (.inl rfl))) (blkE fun _ _ _ _ _ => (q_ix (q_rn 1 (pv 1)) (q_rv q_int))))))))) fun as Q hl h => law_registers_of as Q h

/-- the state of spreading: f places registers, sp is spare; hk, h2 what the registers and the places hold -/
structure Sp_ (nd : List (List Int)) (rs : List Nat) (m : Nat) (f : Nat → Nat) (sp : Nat) (hk h2 : List Int) (os : List Line) : Prop where
  run : Run nd h0 os h2
  le : ∀ r ∈ rs, f r ≤ m ∧ f r ≠ sp
  sple : sp ≤ m
  inj : ∀ r ∈ rs, ∀ r' ∈ rs, f r = f r' → r = r'
  sim : ∀ r ∈ rs, hat hk r ≠ -1 → hat h2 (f r) = hat hk r
  out : ∀ o ∈ os, o.r ∉ o.s ∧ o.r ≤ m
def swF (f : Nat → Nat) (sp : Nat) (l : Line) : Nat → Nat := if l.r ∈ l.s then fun x => if x = l.r then sp else f x else f
def swS (f : Nat → Nat) (sp : Nat) (l : Line) : Nat := if l.r ∈ l.s then f l.r else sp
def swL (f : Nat → Nat) (sp : Nat) (l : Line) : Line := ⟨l.k, swF f sp l l.r, l.s.map f⟩
theorem Sp_.step {nd : List (List Int)} {rs : List Nat} {m : Nat} {f : Nat → Nat} {sp : Nat} {hk h2 : List Int} {os : List Line} {l : Line} (z : Sp_ nd rs m f sp hk h2 os) (lo : LineOk nd hk l) (hk60 : hk.length = 60) (hm : m ≤ 59) (hr : l.r ∈ rs) (hs : ∀ s ∈ l.s, s ∈ rs ∧ hat hk s ≠ -1) :
    Sp_ nd rs m (swF f sp l) (swS f sp l) (hk.set l.r l.k) (h2.set (swF f sp l l.r) l.k) (os ++ [swL f sp l]) := by
  have h60 : h2.length = 60 := z.run.len
  have le' : ∀ r ∈ rs, swF f sp l r ≤ m ∧ swF f sp l r ≠ swS f sp l := fun r h => by
    unfold swF swS
    by_cases c : l.r ∈ l.s
    · rw [if_pos c, if_pos c]
      by_cases e : r = l.r
      · simp only [e, if_true]; exact ⟨z.sple, fun q => (z.le _ hr).2 q.symm⟩
      · simp only [e, if_false]; exact ⟨(z.le r h).1, fun q => e (z.inj r h _ hr q)⟩
    · rw [if_neg c, if_neg c]; exact z.le r h
  have hne : ∀ r ∈ rs, r ≠ l.r → swF f sp l r = f r ∧ f r ≠ swF f sp l l.r := fun r h e => by
    unfold swF
    by_cases c : l.r ∈ l.s
    · rw [if_pos c]
      simp only [e, if_false, if_true]
      exact ⟨trivial, (z.le r h).2⟩
    · rw [if_neg c]
      exact ⟨rfl, fun q => e (z.inj r h _ hr q)⟩
  have hns : swF f sp l l.r ∉ l.s.map f := fun q => by
    obtain ⟨s, h1, h2⟩ := List.mem_map.mp q
    by_cases e : s = l.r
    · subst e
      unfold swF at h2
      rw [if_pos h1] at h2
      simp only [if_true] at h2
      exact (z.le _ hr).2 h2
    · exact (hne s (hs s h1).1 e).2 h2
  refine ⟨z.run.snoc ⟨?_, ?_, fun x hx => ?_⟩, le', ?_, fun r h r' h' e => ?_, fun r h q => ?_, fun o ho => ?_⟩
  · rw [show (swL f sp l).s = l.s.map f from rfl, List.map_map, show (swL f sp l).k = l.k from rfl, lo.need]
    congr 1
    apply List.map_congr_left
    intro s h
    exact (z.sim s (hs s h).1 (hs s h).2).symm
  · have := (le' _ hr).1
    show swF f sp l l.r < 60
    omega
  · obtain ⟨s, h1, rfl⟩ := List.mem_map.mp (show x ∈ l.s.map f from hx)
    have := (z.le s (hs s h1).1).1
    omega
  · unfold swS
    split
    · exact (z.le _ hr).1
    · exact z.sple
  · by_cases e1 : r = l.r <;> by_cases e2 : r' = l.r
    · rw [e1, e2]
    · obtain ⟨g1, g2⟩ := hne r' h' e2
      rw [e1, g1] at e
      exact absurd e.symm g2
    · obtain ⟨g1, g2⟩ := hne r h e1
      rw [e2, g1] at e
      exact absurd e g2
    · rw [(hne r h e1).1, (hne r' h' e2).1] at e
      exact z.inj r h r' h' e
  · have hl60 : l.r < hk.length := by rw [hk60]; exact lo.r
    have hp60 : swF f sp l l.r < h2.length := by have := (le' _ hr).1; omega
    by_cases e : r = l.r
    · subst e
      rw [hat_set hp60, hat_set hl60, if_pos rfl, if_pos rfl]
    · obtain ⟨g1, g2⟩ := hne r h e
      rw [hat_set hl60, if_neg (Ne.symm e)] at q ⊢
      rw [g1, hat_set hp60, if_neg (Ne.symm g2)]
      exact z.sim r h q
  · rcases List.mem_append.mp ho with h | h
    · exact z.out o h
    · simp at h; subst h
      exact ⟨hns, (le' _ hr).1⟩
def DictIs (kvs : List (Key × P)) (f : Nat → Nat) (rs : List Nat) : Prop := ∀ r ∈ rs, lookP kvs (.inl (r : Int)) = some (.int (f r))
theorem inl_ne {a b : Nat} (h : a ≠ b) : ¬ (Sum.inl (a : Int) : Key) = .inl (b : Int) := fun e => h (by have := Sum.inl.inj e; omega)
theorem put_new {kvs : List (Key × P)} {k : Key} {x : P} (h : lookP kvs k = none) : (putP kvs k x).length = kvs.length + 1 := by
  unfold putP
  rw [lookP_any, h]
  simp
theorem put_old {kvs : List (Key × P)} {k : Key} {x y : P} (h : lookP kvs k = some y) : (putP kvs k x).length = kvs.length := by
  unfold putP
  rw [lookP_any, h]
  simp
theorem regs_call {ls : List Line} {pl : List Nat} {Q : D → D → Prop} (hp : ∀ l ∈ ls, l.r < 60) (h : ∀ (rs : List Nat) o, rs.Nodup → (∀ x, x ∈ rs ↔ ∃ l ∈ ls, l.r = x) → Q (.p (.tup (pN rs))) o) : ds_registers_of [.p (.tup [.tup (ls.map pL), .tup (pN pl)])] Q :=
  ⟨(ls, pl), rfl, hp, fun d o ⟨rs, e, h1, h2⟩ => by subst e; exact h rs o h1 h2⟩
theorem filt_nat (f : Nat → Nat) (xs : List Nat) : (xs.map Int.ofNat).filterMap (fun i => some (Int.ofNat (f i.toNat))) = (xs.map f).map Int.ofNat := by
  induction xs with
  | nil => rfl
  | cons x xs ih => simp only [List.map_cons, List.filterMap_cons]; rw [ih]; rfl
/-- what a code is asked to be -/
structure CodeOk (nd : List (List Int)) (ls : List Line) (pl : List Nat) (h : List Int) (pool : List Nat) : Prop where
  run : Run nd h0 ls h
  nn : ∀ n ∈ nd, n.length ≤ 3 ∧ ∀ j ∈ n, 0 ≤ j
  reg : ∀ l ∈ ls, l.r ∈ pool
  few : pool.length ≤ 59
  plc : ∀ p ∈ pl, hat h p ≠ -1 ∧ p < 60
  ll : ls.length ≤ 2000
  lp : pl.length ≤ 2000
theorem Run.r60 {nd : List (List Int)} : ∀ {h h' : List Int} {ls : List Line}, Run nd h ls h' → ∀ l ∈ ls, l.r < 60
  | h, h', [], _, l, hl => by cases hl
  | h, h', l0 :: ls, r, l, hl => by
    rcases List.mem_cons.mp hl with e | e
    · rw [e]; exact r.1.r
    · exact Run.r60 r.2 l e
theorem Run.cut {nd : List (List Int)} : ∀ {h h' : List Int} {a b : List Line}, Run nd h (a ++ b) h' → ∃ g, Run nd h a g ∧ Run nd g b h'
  | h, h', [], b, r => ⟨h, rfl, r⟩
  | h, h', l :: a, b, r => by
    obtain ⟨g, g1, g2⟩ := Run.cut r.2
    exact ⟨g, ⟨r.1, g1⟩, g2⟩
theorem Run.fun {nd : List (List Int)} : ∀ {h g g' : List Int} {a : List Line}, Run nd h a g → Run nd h a g' → g = g'
  | h, g, g', [], r, s => by cases r; cases s; rfl
  | h, g, g', l :: a, r, s => Run.fun r.2 s.2
/-- the next line -/
theorem CodeOk.next {nd : List (List Int)} {ls : List Line} {pl : List Nat} {h hk : List Int} {pool : List Nat} (c : CodeOk nd ls pl h pool) {k : Nat} {l : Line} (hl : ls[k]? = some l) (hr : Run nd h0 (ls.take k) hk) : LineOk nd hk l ∧ l.s.length ≤ 3 ∧ (∀ s ∈ l.s, hat hk s ≠ -1 ∧ ∃ l ∈ ls, l.r = s) := by
  have e : ls = ls.take k ++ l :: ls.drop (k + 1) := by
    have hlt := (List.getElem?_eq_some_iff.mp hl).1
    have h2 := (List.getElem?_eq_some_iff.mp hl).2
    rw [← h2, List.getElem_cons_drop, List.take_append_drop]
  have hrun := c.run
  rw [e] at hrun
  obtain ⟨g, g1, g2⟩ := hrun.cut
  have := Run.fun g1 hr
  subst this
  have lo := g2.1
  have hn := c.nn _ (List.mem_of_getElem? lo.need)
  refine ⟨lo, by have := hn.1; rw [List.length_map] at this; exact this, fun s hs => ?_⟩
  have h1 : hat g s ≠ -1 := by
    have := hn.2 _ (List.mem_map.mpr ⟨s, hs, rfl⟩)
    omega
  obtain ⟨l2, m1, m2⟩ := Run.written (x := s) g1 rfl (by rw [hat_h0]; exact h1)
  exact ⟨h1, l2, List.mem_of_mem_take m1, m2⟩
abbrev s_spread_code : Stmt := topS 3
theorem sc_spread_code : FnScope ["script", "code", "places", "at", "register", "spare", "lines", "value", "sources", "fresh", "source", "place"] ["script", "code"] (defScope s_spread_code) := ⟨rfl, rfl, rfl, by decide +kernel, rfl, by decide +kernel, by decide +kernel⟩
/-- slots: script=0 code=1 places=2 at=3 register=4 spare=5 lines=6 value=7 sources=8 fresh=9 source=10 place=11 -/
def w_spread_code : VS := (vSeq (vSet 2 tDnew)
    (vSeq (vFor (tEn (tRv (tCallV none ds_registers_of (tRsCons (tRn 1) tRsNil)))) (gTupV 2 (gConsV (gVar 3) (gConsV (gVar 4) gNilV))) (vAsg (tVar 3) (gDct 2 (tVar 4))))
    (vSeq (vSet 5 (tUn dlenF (tRn 2)))
    (vSeq (vSet 6 (tLst tANil))
    (vSeq (vFor (tIt (tRv (tBin ixF (tRn 1) (tRv (tC (.int 0)))))) (gTupV 3 (gConsV (gVar 7) (gConsV (gVar 4) (gConsV (gVar 8) gNilV)))) (vSeq (vSet 9 (tUn tupF (tRv (tComp [10] (tIt (tRn 8)) (gVar 10) tY (tBin dgF (tRn 2) (tRn 10))))))
    (vSeq (vIf (tTst (tBin (inF false) (tRn 4) (tRn 8))) (vAsg (tTup (tACons (tBin dgF (tRn 2) (tRn 4)) (tACons (tVar 5) tANil))) (gTupV 2 (gConsV (gVar 5) (gConsV (gDct 2 (tVar 4)) gNilV)))) vNext)
    (vExpr (tApp 6 (tTup (tACons (tVar 7) (tACons (tBin dgF (tRn 2) (tRn 4)) (tACons (tVar 9) tANil)))))))))
    (vRet (tTup (tACons (tUn tupF (tRn 6)) (tACons (tUn tupF (tRv (tComp [11] (tIt (tRv (tBin ixF (tRn 1) (tRv (tC (.int 1)))))) (gVar 11) tY (tBin dgF (tRn 2) (tRn 11))))) tANil)))))))))

def ds_spread_code : DS := DsOf (G := P × List Line × List Nat × List (List Int) × List Int × List Nat) (fun g => [.p g.1, .p (.tup [.tup (g.2.1.map pL), .tup (pN g.2.2.1)])]) (fun g => CodeOk g.2.2.2.1 g.2.1 g.2.2.1 g.2.2.2.2.1 g.2.2.2.2.2)
  fun g d o => ∃ (os : List Line) (pl2 : List Nat) (h2 : List Int) (rs : List Nat), d = .p (.tup [.tup (os.map pL), .tup (pN pl2)]) ∧ os.map Line.k = g.2.1.map Line.k ∧ Run g.2.2.2.1 h0 os h2 ∧ (∀ o ∈ os, o.r ∉ o.s ∧ o.r ≤ rs.length) ∧ pl2.map (hat h2) = g.2.2.1.map (hat g.2.2.2.2.1) ∧ (∀ p ∈ pl2, p < 60) ∧ rs.Nodup ∧ rs.length ≤ 59 ∧ ∀ r ∈ rs, ∃ l ∈ g.2.1, l.r = r
theorem law_spread_code (as : List D) (Q : D → D → Prop) (h : ds_spread_code as Q) : w_spread_code ⟨fun e => Q (.p .non) (outM none e), fun d e => Q d (outM none e), fun _ => False, fun _ => False⟩ (argS none as ++ List.replicate 10 .e) := by
  obtain ⟨⟨sc, ls, pl, nd, h, pool⟩, rfl, hc, hQ⟩ := h
  have hc : CodeOk nd ls pl h pool := hc
  have hl0 := hc.ll
  have hl1 := hc.lp
  unfold w_spread_code
  walk_at "w"
  refine regs_call hc.run.r60 fun rs o hnd hmem => ?_
  have hfew : rs.length ≤ 59 := Nat.le_trans (nodup_le rs pool hnd fun x hx => by obtain ⟨l, h1, rfl⟩ := (hmem x).mp hx; exact hc.reg l h1) hc.few
  walk_at "w"
  refine for_i (fun k e => ∃ (kvs : List (Key × P)) (x3 x4 : Sl), e = [Sl.o (D.p sc), Sl.o (D.p (P.tup [P.tup (ls.map pL), P.tup (pN pl)])), Sl.o (D.d kvs), x3, x4, Sl.e, Sl.e, Sl.e, Sl.e, Sl.e, Sl.e, Sl.e] ∧ FS x3 ∧ FS x4 ∧ kvs.length = k ∧ (∀ (i : Nat) r, i < k → rs[i]? = some r → lookP kvs (.inl (r : Int)) = some (.int i)) ∧ ∀ r : Nat, lookP kvs (.inl (r : Int)) ≠ none → r ∈ rs.take k) ⟨[], _, _, rfl, .e, .e, rfl, by intro i r h; omega, by intro r h; exact absurd rfl h⟩ ?_ ?_
  · rintro k d e hk ⟨kvs, x3, x4, rfl, f3, f4, hkl, hks, hkn⟩
    obtain ⟨d, hd, rfl⟩ := enD_at hk
    obtain ⟨x, hx, rfl⟩ := mapD_get hd
    rw [List.getElem?_map, List.getElem?_map] at hx
    cases hy : rs[k]? with
    | none => rw [hy] at hx; cases hx
    | some r =>
      rw [hy] at hx
      cases hx
      have hklt := (List.getElem?_eq_some_iff.mp hy).1
      have hnew : lookP kvs (.inl (r : Int)) = none := by
        cases q : lookP kvs (.inl (r : Int)) with
        | none => rfl
        | some y =>
          have := hkn r (by rw [q]; simp)
          rw [List.mem_take_iff_getElem] at this
          obtain ⟨i, hi, e⟩ := this
          have hi2 : i < rs.length := by omega
          have : i = k := (List.getElem?_inj hi2 hnd).mp (by rw [hy, List.getElem?_eq_getElem hi2, e])
          omega
      walk_at "w"
      refine ⟨sl1 (by omega), putP kvs (.inl (r : Int)) (.int k), _, _, rfl, .p _, .p _, by rw [put_new hnew, hkl], fun i s hi hs => ?_, fun s hs => ?_⟩
      · rw [lookP_put]
        by_cases e : s = r
        · subst e
          rw [if_pos rfl]
          have : i = k := (List.getElem?_inj (List.getElem?_eq_some_iff.mp hs).1 hnd).mp (by rw [hs, hy])
          rw [this]
        · rw [if_neg (inl_ne e)]
          refine hks i s ?_ hs
          have : i ≠ k := fun z => e (by rw [z, hy] at hs; cases hs; rfl)
          omega
      · rw [lookP_put] at hs
        rw [List.take_succ, hy]
        by_cases e : s = r
        · rw [e]; simp
        · rw [if_neg (inl_ne e)] at hs
          exact List.mem_append_left _ (hkn s hs)
  · rintro e ⟨kvs, x3, x4, rfl, f3, f4, hkl, hks, hkn⟩
    have hln : (enD 0 (List.map D.p (pN rs))).length = rs.length := by rw [enD_len]; simp only [List.length_map]
    rw [hln] at hkl hks
    clear hkn hln
    walk_at "w"
    refine ⟨sl2 (by decide), ?_⟩
    rw [hkl]
    have hD0 : ∃ f, DictIs kvs f rs ∧ (∀ r ∈ rs, f r < rs.length) ∧ ∀ r ∈ rs, ∀ r' ∈ rs, f r = f r' → r = r' := by
      refine ⟨fun r => rs.idxOf r, fun r hr => ?_, fun r hr => List.idxOf_lt_length_iff.mpr hr, fun r hr r' hr' e => ?_⟩
      · have h1 := List.idxOf_lt_length_iff.mpr hr
        exact hks _ r h1 (by rw [List.getElem?_eq_getElem h1, List.getElem_idxOf h1])
      · have h1 := List.idxOf_lt_length_iff.mpr hr
        have h2 := List.idxOf_lt_length_iff.mpr hr'
        have e1 := List.getElem_idxOf h1
        have e2 := List.getElem_idxOf h2
        have e : rs.idxOf r = rs.idxOf r' := e
        rw [← e1, ← e2]
        congr 1
    obtain ⟨f0, hd0, hf1, hf2⟩ := hD0
    clear hks
    refine for_i (fun k e => ∃ (kvs : List (Key × P)) (f : Nat → Nat) (sp : Nat) (hk h2 : List Int) (os : List Line) (x4 x7 x8 x9 : Sl), e = [Sl.o (D.p sc), Sl.o (D.p (P.tup [P.tup (ls.map pL), P.tup (pN pl)])), Sl.o (D.d kvs), x3, x4, Sl.o (D.p (P.int sp)), Sl.o (D.l (os.map pL)), x7, x8, x9, Sl.e, Sl.e] ∧ FS x4 ∧ FS x7 ∧ FS x8 ∧ FS x9 ∧ kvs.length = rs.length ∧ DictIs kvs f rs ∧ Run nd h0 (ls.take k) hk ∧ Sp_ nd rs rs.length f sp hk h2 os ∧ os.map Line.k = (ls.take k).map Line.k)
      ⟨kvs, f0, rs.length, h0, h0, [], _, _, _, _, rfl, f4, .e, .e, .e, hkl, hd0, rfl, ⟨rfl, fun r hr => ⟨Nat.le_of_lt (hf1 r hr), Nat.ne_of_lt (hf1 r hr)⟩, Nat.le_refl _, hf2, fun r hr q => absurd (hat_h0 r) q, by intro o ho; cases ho⟩, rfl⟩ ?_ ?_
    · rintro k d e hk ⟨kvs, f, sp, hk', h2, os, x4, x7, x8, x9, rfl, g4, g7, g8, g9, hkl, hd, hrun, hsp, hos⟩
      obtain ⟨x, hx, rfl⟩ := mapD_get hk
      rw [List.getElem?_map] at hx
      cases hy : ls[k]? with
      | none => rw [hy] at hx; cases hx
      | some l =>
        rw [hy] at hx
        cases hx
        obtain ⟨lo, hl3, hsrc⟩ := hc.next hy hrun
        have hlr : l.r ∈ rs := (hmem _).mpr ⟨l, List.mem_of_getElem? hy, rfl⟩
        have hss : ∀ s ∈ l.s, s ∈ rs ∧ hat hk' s ≠ -1 := fun s hs => ⟨(hmem _).mpr (hsrc s hs).2, (hsrc s hs).1⟩
        have hstep := hsp.step lo hrun.len hfew hlr hss
        have eL : pL l = .tup [.int l.k, .int l.r, .tup (pN l.s)] := rfl
        rw [eL]
        walk_at "w"
        refine comp_fm (fI fun i => some (Int.ofNat (f i.toNat))) (by walk_at "w") (by simp only [List.length_map]; exact sl2 (by omega)) (fun c d hcd q hq => ?_) ?_
        · obtain ⟨z, hz, rfl⟩ := mapD_get hcd
          rw [List.getElem?_map, List.getElem?_map] at hz
          cases hw : l.s[c]? with
          | none => rw [hw] at hz; cases hz
          | some s =>
            rw [hw] at hz
            cases hz
            walk_at "w"
            rw [show lookP kvs (.inl (Int.ofNat s)) = some (.int (f s)) from hd s (hss s (List.mem_of_getElem? hw)).1]
            walk_at "w"
            exact hq
        rw [filt_int, mkL_p, filt_nat]
        walk_at "w"
        refine ⟨⟨rfl, flat_ints _⟩, ?_⟩
        rw [in_ints]
        have hmm : ((l.r : Int) ∈ l.s.map Int.ofNat) ↔ l.r ∈ l.s := by
          rw [List.mem_map]
          exact ⟨fun ⟨a, h1, h2⟩ => by have : a = l.r := by have h2 : (a : Int) = l.r := h2; omega
                                       rw [← this]; exact h1, fun h => ⟨_, h, rfl⟩⟩
        have hlen : os.length < sizeLine := by
          have := congrArg List.length hos
          rw [List.length_map, List.length_map, List.length_take] at this
          exact sl1 (by omega)
        have fin : ∀ (kvs' : List (Key × P)), kvs'.length = rs.length → DictIs kvs' (swF f sp l) rs → ∃ (kvs2 : List (Key × P)) (f2 : Nat → Nat) (sp2 : Nat) (hk2 h3 : List Int) (os2 : List Line) (y4 y7 y8 y9 : Sl),
            [Sl.o (D.p sc), Sl.o (D.p (P.tup [P.tup (ls.map pL), P.tup (pN pl)])), Sl.o (D.d kvs'), x3, Sl.o (D.p (P.int l.r)), Sl.o (D.p (P.int (swS f sp l))), Sl.o (D.l (os.map pL ++ [P.tup [P.int l.k, P.int (swF f sp l l.r), P.tup (pN (l.s.map f))]])), Sl.o (D.p (P.int l.k)), Sl.o (D.p (P.tup (pN l.s))), Sl.o (D.p (P.tup (pN (l.s.map f)))), Sl.e, Sl.e] =
            [Sl.o (D.p sc), Sl.o (D.p (P.tup [P.tup (ls.map pL), P.tup (pN pl)])), Sl.o (D.d kvs2), x3, y4, Sl.o (D.p (P.int sp2)), Sl.o (D.l (os2.map pL)), y7, y8, y9, Sl.e, Sl.e] ∧ FS y4 ∧ FS y7 ∧ FS y8 ∧ FS y9 ∧ kvs2.length = rs.length ∧ DictIs kvs2 f2 rs ∧ Run nd h0 (ls.take (k + 1)) hk2 ∧ Sp_ nd rs rs.length f2 sp2 hk2 h3 os2 ∧ os2.map Line.k = (ls.take (k + 1)).map Line.k := fun kvs' h1 h2' => by
          refine ⟨kvs', _, _, _, _, os ++ [swL f sp l], _, _, _, _, by rw [List.map_append]; rfl, .p _, .p _, .p _, .p _, h1, h2', ?_, hstep, ?_⟩
          · rw [List.take_succ, hy]; exact hrun.snoc lo
          · rw [List.take_succ, hy, List.map_append, List.map_append, hos]; rfl
        by_cases hin : l.r ∈ l.s
        · rw [decide_eq_true (hmm.mpr hin)]
          have eS : swS f sp l = f l.r := by unfold swS; rw [if_pos hin]
          have eF : swF f sp l l.r = sp := by unfold swF; rw [if_pos hin]; simp
          walk_at "w"
          rw [hd _ hlr]
          walk_at "w"
          rw [lookP_put, if_pos rfl]
          walk_at "w"
          have := fin (putP kvs (.inl (l.r : Int)) (.int sp)) (by rw [put_old (hd _ hlr), hkl]) (fun r hr => by
            rw [lookP_put]
            by_cases e : r = l.r
            · subst e; rw [if_pos rfl, eF]
            · rw [if_neg (inl_ne e), hd r hr]
              unfold swF
              rw [if_pos hin]
              simp [e])
          rw [eS, eF] at this
          exact ⟨sl2 (by decide), sl1 (by omega), sl2 (by decide), by rw [List.length_map]; exact hlen, this⟩
        · rw [decide_eq_false fun z => hin (hmm.mp z)]
          have eS : swS f sp l = sp := by unfold swS; rw [if_neg hin]
          have eF : swF f sp l = f := by unfold swF; rw [if_neg hin]
          walk_at "w"
          rw [hd _ hlr]
          walk_at "w"
          have := fin kvs hkl (by rw [eF]; exact hd)
          rw [eS, eF] at this
          exact ⟨sl2 (by decide), by rw [List.length_map]; exact hlen, this⟩
    · rintro e ⟨kvs, f, sp, hk', h2, os, x4, x7, x8, x9, rfl, g4, g7, g8, g9, hkl, hd, hrun, hsp, hos⟩
      rw [show ((ls.map pL).map D.p).length = ls.length by simp only [List.length_map], List.take_length] at hrun hos
      have := Run.fun hrun hc.run
      subst this
      have hpr : ∀ p ∈ pl, p ∈ rs := fun p hp => by
        obtain ⟨l, l1, l2⟩ := Run.written (x := p) hrun rfl (by rw [hat_h0]; exact (hc.plc p hp).1)
        exact (hmem p).mpr ⟨l, l1, l2⟩
      walk_at "w"
      refine comp_fm (fI fun i => some (Int.ofNat (f i.toNat))) (by walk_at "w") (by simp only [List.length_map]; exact sl2 (by omega)) (fun c d hcd q hq => ?_) ?_
      · obtain ⟨z, hz, rfl⟩ := mapD_get hcd
        rw [List.getElem?_map, List.getElem?_map] at hz
        cases hw : pl[c]? with
        | none => rw [hw] at hz; cases hz
        | some s =>
          rw [hw] at hz
          cases hz
          walk_at "w"
          rw [show lookP kvs (.inl (Int.ofNat s)) = some (.int (f s)) from hd s (hpr s (List.mem_of_getElem? hw))]
          walk_at "w"
          exact hq
      rw [filt_int, mkL_p, filt_nat]
      walk_at "w"
      refine ⟨sl2 (by decide), hQ _ _ ⟨os, pl.map f, h2, rs, rfl, hos, hsp.run, hsp.out, ?_, fun p hp => ?_, hnd, hfew, fun r hr => (hmem r).mp hr⟩⟩
      · rw [List.map_map]
        apply List.map_congr_left
        intro p hp
        exact hsp.sim p (hpr p hp) (hc.plc p hp).1
      · obtain ⟨r, h1, rfl⟩ := List.mem_map.mp hp
        have := (hsp.le r (hpr r h1)).1
        omega
theorem ok_spread_code {P : Program} {w : World} {K : PySem.W.Frag} {mg : Str → Option Value} {base : Heap} {f : Addr} {fd : FuncData} (F : Fun K "spread_code" "spread_code" s_spread_code f fd) (B : Blt mg) (C_registers_of : Cd P w K mg base "registers_of" 1 ["code"] none 1 ds_registers_of) : FnOk P w K mg base CX0 2 f fd ["script", "code"] (spOf K none 2 ds_spread_code) :=
  fn_ok (tb := w_spread_code) F sc_spread_code rfl (fun cdv A outer s H E hr => (s_cons (s_set (i := 2) sc_spread_code.nd rfl (.inr rfl) q_dnew)
    (s_cons (s_for PassesOwn.never rfl (q_en (by rfl) B.enumerate (q_rv (q_own DsOf.mono C_registers_of (hr.mono (by decide)) (by rfl) (q_rscons (q_rn 1 (pv 1)) q_rsnil) mp0))) (g_tup rfl (g_cons (g_var (i := 3) sc_spread_code.nd rfl (.inl rfl)) (g_cons (g_var (i := 4) sc_spread_code.nd rfl (.inl rfl)) g_nil))) (s_one (s_asg (q_var 3 (pv 3)) (g_dct (hu64 hr) (pv 2) (q_var 4 (pv 4))))))
    (s_cons (s_set (i := 5) sc_spread_code.nd rfl (.inl rfl) (q_call1B c_dlen (by rfl) B.len rfl (q_rn 2 (pv 2))))
    (s_cons (s_set (i := 6) sc_spread_code.nd rfl (.inl rfl) (q_lst q_anil))
    (s_cons (s_for PassesOwn.never rfl (q_it (q_rv (q_ix (q_rn 1 (pv 1)) (q_rv q_int)))) (g_tup rfl (g_cons (g_var (i := 7) sc_spread_code.nd rfl (.inl rfl)) (g_cons (g_var (i := 4) sc_spread_code.nd rfl (.inl rfl)) (g_cons (g_var (i := 8) sc_spread_code.nd rfl (.inl rfl)) g_nil)))) (s_cons (s_set (i := 9) sc_spread_code.nd rfl (.inl rfl) (q_call1T c_tup (by rfl) B.tuple rfl (q_rv (q_comp (own := [("source", 10)]) rfl sc_spread_code.nd (q_it (q_rn 8 (pv 8))) (blkOk_by (by rfl)) (by decide) (blkG fun _ _ _ _ _ => (g_var (i := 10) sc_spread_code.nd rfl (.inl rfl))) (blkT fun _ _ _ _ _ => q_ts0) (blkE fun _ _ _ _ _ => (q_dget (hu64 hr) (q_rn 2 (pv 2)) (q_rn 10 (pv 10))))))))
    (s_cons (s_if (q_tcmp o_in (q_rn 4 (pv 4)) (q_rn 8 (pv 8)) (by rfl)) (s_one (s_asg (q_tup (q_acons (q_dget (hu64 hr) (q_rn 2 (pv 2)) (q_rn 4 (pv 4))) (q_acons (q_var 5 (pv 5)) q_anil))) (g_tup rfl (g_cons (g_var (i := 5) sc_spread_code.nd rfl (.inl rfl)) (g_cons (g_dct (hu64 hr) (pv 2) (q_var 4 (pv 4))) g_nil))))) s_nil)
    (s_one (s_expr (q_app (pv 6) (q_tup (q_acons (q_var 7 (pv 7)) (q_acons (q_dget (hu64 hr) (q_rn 2 (pv 2)) (q_rn 4 (pv 4))) (q_acons (q_var 9 (pv 9)) q_anil))))))))))
    (s_one (s_ret (q_tup (q_acons (q_call1T c_tup (by rfl) B.tuple rfl (q_rn 6 (pv 6))) (q_acons (q_call1T c_tup (by rfl) B.tuple rfl (q_rv (q_comp (own := [("place", 11)]) rfl sc_spread_code.nd (q_it (q_rv (q_ix (q_rn 1 (pv 1)) (q_rv q_int)))) (blkOk_by (by rfl)) (by decide) (blkG fun _ _ _ _ _ => (g_var (i := 11) sc_spread_code.nd rfl (.inl rfl))) (blkT fun _ _ _ _ _ => q_ts0) (blkE fun _ _ _ _ _ => (q_dget (hu64 hr) (q_rn 2 (pv 2)) (q_rn 11 (pv 11))))))) q_anil))))))))))) fun as Q hl h => law_spread_code as Q h

theorem isi_ii {i : Int} : isiB "int" (.p (.int i)) = true := by simp [isiB, tyN]
theorem isi_ib {i : Int} : isiB "bool" (.p (.int i)) = false := by simp [isiB, tyN]
theorem isi_tt {xs : List P} : isiB "tuple" (.p (.tup xs)) = true := by simp [isiB, tyN]
theorem d33 : decide (((0 + 1 + 1 + 1 : Nat) : Int) = 3) = true := rfl
theorem d22 : decide (((0 + 1 + 1 : Nat) : Int) = 2) = true := rfl
theorem dd {a : Int} : decide (a = a) = true := decide_eq_true rfl
abbrev s__law_index : Stmt := topS 14
theorem sc__law_index : FnScope ["told", "below"] ["told", "below"] (defScope s__law_index) := ⟨rfl, rfl, rfl, by decide +kernel, rfl, by decide +kernel, by decide +kernel⟩
/-- slots: told=0 below=1 -/
def w__law_index : VS := (vRet (tAndV (tUn (isiF "int") (tRn 0)) (tAndV (tNotV (tUn (isiF "bool") (tRn 0))) (tAndV (tBin leF (tRv (tC (.int 0))) (tRn 0)) (tBin ltF (tRn 0) (tRn 1))))))

def ds__law_index : DS := DsOf (G := Int × Int) (fun g => [.p (.int g.1), .p (.int g.2)]) (fun g => 0 ≤ g.1 ∧ g.1 < g.2) fun g d o => d = .p (.bl true)
theorem law__law_index (as : List D) (Q : D → D → Prop) (h : ds__law_index as Q) : w__law_index ⟨fun e => Q (.p .non) (outM none e), fun d e => Q d (outM none e), fun _ => False, fun _ => False⟩ (argS none as ++ List.replicate 0 .e) := by
  obtain ⟨⟨x, b⟩, rfl, ⟨h1, h2⟩, hQ⟩ := h
  have h1 : 0 ≤ x := h1
  have h2 : x < b := h2
  unfold w__law_index
  walk_at "w"
  simp only [isi_ii]
  walk_at "w"
  simp only [isi_ib]
  walk_at "w"
  rw [decide_eq_true h1]
  walk_at "w"
  rw [decide_eq_true h2]
  exact hQ _ _ rfl
theorem ok__law_index {P : Program} {w : World} {K : PySem.W.Frag} {mg : Str → Option Value} {base : Heap} {f : Addr} {fd : FuncData} (F : Fun K "_law_index" "_law_index" s__law_index f fd) (B : Blt mg) : FnOk P w K mg base CX0 1 f fd ["told", "below"] (spOf K none 2 ds__law_index) :=
  fn_ok (tb := w__law_index) F sc__law_index rfl (fun cdv A outer s H E hr => (s_one (s_ret (q_andV (q_isi (Ty := "int") (by decide) (by rfl) B.isinstance rfl (by rfl) B.int rfl (q_rn 0 (pv 0))) (q_andV (q_notV (q_isi (Ty := "bool") (by decide) (by rfl) B.isinstance rfl (by rfl) B.bool rfl (q_rn 0 (pv 0)))) (q_andV (q_cmp o_le (q_rv q_int) (q_rn 0 (pv 0)) (by rfl)) (q_one (q_cmp o_lt (q_rn 0 (pv 0)) (q_rn 1 (pv 1)) (by rfl))))))))) fun as Q hl h => law__law_index as Q h

theorem ix_call {x b : Int} {Q : D → D → Prop} (h1 : 0 ≤ x) (h2 : x < b) (h : ∀ o, Q (.p (.bl true)) o) : ds__law_index [.p (.int x), .p (.int b)] Q := ⟨(x, b), rfl, ⟨h1, h2⟩, fun d o e => by
  have e : d = .p (.bl true) := e
  subst e; exact h o⟩
abbrev s__law_line : Stmt := topS 15
theorem sc__law_line : FnScope ["values", "held", "line", "value", "need", "k"] ["values", "held", "line", "value"] (defScope s__law_line) := ⟨rfl, rfl, rfl, by decide +kernel, rfl, by decide +kernel, by decide +kernel⟩
/-- slots: values=0 held=1 line=2 value=3 need=4 k=5 -/
def w__law_line : VS := (vSeq (vIf (tOr (tNot (tTst (tUn (isiF "tuple") (tRn 2)))) (tOr (tTst (tBin neF (tRv (tUn lenF (tRn 2))) (tRv (tC (.int 3))))) (tNot (tTst (tCallV none ds__law_index (tRsCons (tRv (tBin ixF (tRn 2) (tRv (tC (.int 0))))) (tRsCons (tRv (tUn lenF (tRn 0))) tRsNil))))))) (vRet (tC (.bl false))) vNext)
    (vSeq (vIf (tOr (tTst (tBin neF (tRv (tBin ixF (tRn 2) (tRv (tC (.int 0))))) (tRn 3))) (tOr (tNot (tTst (tCallV none ds__law_index (tRsCons (tRv (tBin ixF (tRn 2) (tRv (tC (.int 1))))) (tRsCons (tRv (tC (.int 60))) tRsNil))))) (tNot (tTst (tUn (isiF "tuple") (tRv (tBin ixF (tRn 2) (tRv (tC (.int 2)))))))))) (vRet (tC (.bl false))) vNext)
    (vSeq (vSet 4 (tCallV none ds__law_need (tRsCons (tRn 0) (tRsCons (tRn 3) tRsNil))))
    (vSeq (vIf (tTst (tBin neF (tRv (tUn lenF (tRv (tBin ixF (tRn 2) (tRv (tC (.int 2))))))) (tRv (tUn lenF (tRn 4))))) (vRet (tC (.bl false))) vNext)
    (vSeq (vFor (tRg1 (tUn lenF (tRn 4))) (gVar 5) (vIf (tOr (tNot (tTst (tCallV none ds__law_index (tRsCons (tRv (tBin ixF (tRv (tBin ixF (tRn 2) (tRv (tC (.int 2))))) (tRn 5))) (tRsCons (tRv (tC (.int 60))) tRsNil))))) (tOr (tTst (tBin neF (tRv (tBin ixF (tRn 1) (tRv (tBin ixF (tRv (tBin ixF (tRn 2) (tRv (tC (.int 2))))) (tRn 5))))) (tRv (tBin ixF (tRn 4) (tRn 5))))) (tTst (tBin eqF (tRv (tBin ixF (tRv (tBin ixF (tRn 2) (tRv (tC (.int 2))))) (tRn 5))) (tRv (tBin ixF (tRn 2) (tRv (tC (.int 1))))))))) (vRet (tC (.bl false))) vNext))
    (vRet (tC (.bl true))))))))

def ds__law_line : DS := DsOf (G := List P × List (List Int) × List Int × Line) (fun g => [.p (.tup g.1), .l (g.2.2.1.map P.int), .p (pL g.2.2.2), .p (.int (g.2.2.2.k : Nat))]) (fun g => Vals_ g.1 g.2.1 ∧ LineOk g.2.1 g.2.2.1 g.2.2.2 ∧ g.2.2.1.length = 60 ∧ g.2.2.2.r ∉ g.2.2.2.s) fun g d o => d = .p (.bl true)
theorem law__law_line (as : List D) (Q : D → D → Prop) (h : ds__law_line as Q) : w__law_line ⟨fun e => Q (.p .non) (outM none e), fun d e => Q d (outM none e), fun _ => False, fun _ => False⟩ (argS none as ++ List.replicate 2 .e) := by
  obtain ⟨⟨vs, nd, held, l⟩, rfl, ⟨hv, lo, hl, hns⟩, hQ⟩ := h
  have hv : Vals_ vs nd := hv
  have lo : LineOk nd held l := lo
  have hl : held.length = 60 := hl
  have hns : l.r ∉ l.s := hns
  have hk : l.k < vs.length := by rw [hv.len]; exact (List.getElem?_eq_some_iff.mp lo.need).1
  have hn3 : l.s.length ≤ 3 := by have := (need_len hv lo.need).1; rw [List.length_map] at this; exact this
  have eL : pL l = .tup [.int l.k, .int l.r, .tup (pN l.s)] := rfl
  have hr := lo.r
  unfold w__law_line
  walk_at "w"
  rw [eL]
  simp only [isi_tt]
  walk_at "w"
  simp only [d33]
  walk_at "w"
  refine ix_call (by omega) (by omega) fun o => ?_
  walk_at "w"
  refine ix_call (by omega) (by omega) fun o => ?_
  walk_at "w"
  simp only [isi_tt]
  walk_at "w"
  refine need_call hv lo.need false fun o => ?_
  walk_at "w"
  simp only [List.length_map, dd]
  walk_at "w"
  refine ⟨by simp only [List.length_map]; exact ⟨by omega, by omega⟩, ?_⟩
  refine for_i (fun i e => ∃ x5 : Sl, e = [Sl.o (D.p (P.tup vs)), Sl.r 0 (D.l (List.map P.int held)), Sl.o (D.p (P.tup [P.int l.k, P.int l.r, P.tup (pN l.s)])), Sl.o (D.p (P.int l.k)), Sl.o (D.p (P.tup ((l.s.map (hat held)).map P.int))), x5] ∧ FS x5) ⟨_, rfl, .e⟩ ?_ ?_
  · rintro i d e hi ⟨x5, rfl, f5⟩
    obtain ⟨rfl, hi1, hi2⟩ := rgD_get hi
    simp only [List.length_map] at hi2
    have his : i < l.s.length := by omega
    have hs60 : l.s[i] < held.length := by rw [hl]; exact lo.s _ (List.getElem_mem his)
    have e1 : atI (pN l.s) (0 + (i : Int)) = some (.int (Int.ofNat l.s[i])) := by
      rw [Int.zero_add]
      exact atI_nat (by rw [List.getElem?_map, List.getElem?_map, List.getElem?_eq_getElem his]; rfl)
    have e2 : atI ((l.s.map (hat held)).map P.int) (0 + (i : Int)) = some (.int (hat held l.s[i])) := by
      rw [Int.zero_add]
      exact atI_nat (by rw [List.getElem?_map, List.getElem?_map, List.getElem?_eq_getElem his]; rfl)
    have e3 : atI (held.map P.int) (Int.ofNat l.s[i]) = some (.int (hat held l.s[i])) := atI_nat (hat_at hs60)
    have e4 : decide (Int.ofNat l.s[i] = (l.r : Int)) = false := decide_eq_false fun z => hns (by
      have : l.s[i] = l.r := by have z : ((l.s[i] : Nat) : Int) = l.r := z; omega
      rw [← this]; exact List.getElem_mem his)
    walk_at "w"
    rw [e1]
    walk_at "w"
    refine ix_call (by show (0 : Int) ≤ (l.s[i] : Nat); omega) (by show ((l.s[i] : Nat) : Int) < 60; omega) fun o => ?_
    walk_at "w"
    rw [e1]
    walk_at "w"
    rw [e3]
    walk_at "w"
    rw [e2]
    walk_at "w"
    rw [e1]
    walk_at "w"
    rw [e4]
    walk_at "w"
    exact ⟨_, rfl, .p _⟩
  · rintro e ⟨x5, rfl, f5⟩
    walk_at "w"
    exact hQ _ _ rfl
theorem ok__law_line {P : Program} {w : World} {K : PySem.W.Frag} {mg : Str → Option Value} {base : Heap} {f : Addr} {fd : FuncData} (F : Fun K "_law_line" "_law_line" s__law_line f fd) (B : Blt mg) (C__law_index : Cd P w K mg base "_law_index" 1 ["told", "below"] none 2 ds__law_index) (C__law_need : Cd P w K mg base "_law_need" 1 ["values", "k"] none 2 ds__law_need) : FnOk P w K mg base CX0 2 f fd ["values", "held", "line", "value"] (spOf K none 4 ds__law_line) :=
  fn_ok (tb := w__law_line) F sc__law_line rfl (fun cdv A outer s H E hr => (s_cons (s_if (QW.qt (q_or (q_tnot (q_tval (q_isi (Ty := "tuple") (by decide) (by rfl) B.isinstance rfl (by rfl) B.tuple rfl (q_rn 2 (pv 2))))) (q_or (q_tcmp (o_ne (hu64 hr)) (q_rv (q_call1B c_len (by rfl) B.len rfl (q_rn 2 (pv 2)))) (q_rv q_int) (by rfl)) (q_or1 (q_tnot (q_tval (q_own DsOf.mono C__law_index (hr.mono (by decide)) (by rfl) (q_rscons (q_rv (q_ix (q_rn 2 (pv 2)) (q_rv q_int))) (q_rscons (q_rv (q_call1B c_len (by rfl) B.len rfl (q_rn 0 (pv 0)))) q_rsnil)) mp0))))))) (s_one (s_ret q_bl)) s_nil)
    (s_cons (s_if (QW.qt (q_or (q_tcmp (o_ne (hu64 hr)) (q_rv (q_ix (q_rn 2 (pv 2)) (q_rv q_int))) (q_rn 3 (pv 3)) (by rfl)) (q_or (q_tnot (q_tval (q_own DsOf.mono C__law_index (hr.mono (by decide)) (by rfl) (q_rscons (q_rv (q_ix (q_rn 2 (pv 2)) (q_rv q_int))) (q_rscons (q_rv q_int) q_rsnil)) mp0))) (q_or1 (q_tnot (q_tval (q_isi (Ty := "tuple") (by decide) (by rfl) B.isinstance rfl (by rfl) B.tuple rfl (q_rv (q_ix (q_rn 2 (pv 2)) (q_rv q_int)))))))))) (s_one (s_ret q_bl)) s_nil)
    (s_cons (s_set (i := 4) sc__law_line.nd rfl (.inl rfl) (q_own DsOf.mono C__law_need (hr.mono (by decide)) (by rfl) (q_rscons (q_rn 0 (pv 0)) (q_rscons (q_rn 3 (pv 3)) q_rsnil)) mp0))
    (s_cons (s_if (q_tcmp (o_ne (hu64 hr)) (q_rv (q_call1B c_len (by rfl) B.len rfl (q_rv (q_ix (q_rn 2 (pv 2)) (q_rv q_int))))) (q_rv (q_call1B c_len (by rfl) B.len rfl (q_rn 4 (pv 4)))) (by rfl)) (s_one (s_ret q_bl)) s_nil)
    (s_cons (s_for PassesOwn.never rfl (q_rg1 (by rfl) B.range (q_call1B c_len (by rfl) B.len rfl (q_rn 4 (pv 4)))) (g_var (i := 5) sc__law_line.nd rfl (.inl rfl)) (s_one (s_if (QW.qt (q_or (q_tnot (q_tval (q_own DsOf.mono C__law_index (hr.mono (by decide)) (by rfl) (q_rscons (q_rv (q_ix (q_rv (q_ix (q_rn 2 (pv 2)) (q_rv q_int))) (q_rn 5 (pv 5)))) (q_rscons (q_rv q_int) q_rsnil)) mp0))) (q_or (q_tcmp (o_ne (hu64 hr)) (q_rv (q_ix (q_rn 1 (pv 1)) (q_rv (q_ix (q_rv (q_ix (q_rn 2 (pv 2)) (q_rv q_int))) (q_rn 5 (pv 5)))))) (q_rv (q_ix (q_rn 4 (pv 4)) (q_rn 5 (pv 5)))) (by rfl)) (q_or1 (q_tcmp (o_eq (hu64 hr)) (q_rv (q_ix (q_rv (q_ix (q_rn 2 (pv 2)) (q_rv q_int))) (q_rn 5 (pv 5)))) (q_rv (q_ix (q_rn 2 (pv 2)) (q_rv q_int))) (by rfl)))))) (s_one (s_ret q_bl)) s_nil)))
    (s_one (s_ret q_bl)))))))) fun as Q hl h => law__law_line as Q h

theorem line_call {vs : List P} {nd : List (List Int)} {held : List Int} {l : Line} {Q : D → D → Prop} (hv : Vals_ vs nd) (lo : LineOk nd held l) (hl : held.length = 60) (hns : l.r ∉ l.s) (h : ∀ o, Q (.p (.bl true)) o) : ds__law_line [.p (.tup vs), .l (held.map P.int), .p (pL l), .p (.int (l.k : Nat))] Q :=
  ⟨(vs, nd, held, l), rfl, ⟨hv, lo, hl, hns⟩, fun d o e => by
    have e : d = .p (.bl true) := e
    subst e; exact h o⟩
theorem rg_set {α : Type} (g : Nat → α) (i : Nat) (v : α) (n : Nat) : ((List.range n).map g).set i v = (List.range n).map fun r => if r = i then v else g r := by
  apply List.ext_getElem?
  intro j
  rw [List.getElem?_set, List.getElem?_map, List.getElem?_map, List.length_map, List.length_range]
  by_cases hj : j < n
  · rw [List.getElem?_range hj]
    by_cases e : i = j
    · subst e; simp [hj]
    · simp [e, Ne.symm e]
  · rw [List.getElem?_eq_none (by simpa using hj)]
    by_cases e : i = j
    · subst e; simp [hj]
    · simp [e]
theorem sum01 (b : Nat → Bool) : ∀ l : List Nat, (l.map fun r => if b r = true then (1 : Int) else 0).sum = ((l.filter b).length : Nat)
  | [] => rfl
  | x :: l => by
    rw [List.map_cons, List.sum_cons, sum01 b l, List.filter_cons]
    cases b x <;> simp
    omega
/-- how many registers lines write -/
def cntR (ls : List Line) : Nat := ((List.range 60).filter fun r => ls.any fun l => l.r == r).length
abbrev s__law_many : Stmt := topS 16
theorem sc__law_many : FnScope ["lines", "seen", "line", "k"] ["lines"] (defScope s__law_many) := ⟨rfl, rfl, rfl, by decide +kernel, rfl, by decide +kernel, by decide +kernel⟩
/-- slots: lines=0 seen=1 line=2 k=3 -/
def w__law_many : VS := (vSeq (vSet 1 (tComp [3] (tRg1 (tC (.int 60))) (gVar 3) tY (tC (.int 0))))
    (vSeq (vFor (tIt (tRn 0)) (gVar 2) (vAsg (tC (.int 1)) (gSub 1 (tBin ixF (tRn 2) (tRv (tC (.int 1)))))))
    (vRet (tUn sumF (tRn 1)))))

def ds__law_many : DS := DsOf (G := List Line) (fun g => [.p (.tup (g.map pL))]) (fun g => ∀ l ∈ g, l.r < 60) fun g d o => d = .p (.int (cntR g : Nat))
theorem law__law_many (as : List D) (Q : D → D → Prop) (h : ds__law_many as Q) : w__law_many ⟨fun e => Q (.p .non) (outM none e), fun d e => Q d (outM none e), fun _ => False, fun _ => False⟩ (argS none as ++ List.replicate 3 .e) := by
  obtain ⟨ls, rfl, hp, hQ⟩ := h
  unfold w__law_many
  walk_at "w"
  refine ⟨⟨by omega, by omega⟩, ?_⟩
  refine comp_fm (fun _ => some (.p (.int 0))) (by walk_at "w") (by rw [rgD_len]; exact sl2 (by decide)) (fun j d hj q hq => ?_) ?_
  · obtain ⟨rfl, _, _⟩ := rgD_get hj
    walk_at "w"
    exact hq
  have e0 : (rgD 0 60).filterMap (fun _ => some (D.p (.int 0))) = ((((List.range 60).map fun _ => (0 : Int))).map P.int).map D.p := by rfl
  rw [e0, mkL_p]
  walk_at "w"
  refine for_i (fun k e => ∃ x2 : Sl, e = [Sl.k (D.p (P.tup (ls.map pL))), Sl.o (D.l (((List.range 60).map fun r => if ((ls.take k).any fun l => l.r == r) = true then (1 : Int) else 0).map P.int)), x2, Sl.e] ∧ FS x2) ⟨_, by walk_at "w"; rfl, .e⟩ ?_ ?_
  · rintro k d e hk ⟨x2, rfl, f2⟩
    obtain ⟨x, hx, rfl⟩ := mapD_get hk
    rw [List.getElem?_map] at hx
    cases hy : ls[k]? with
    | none => rw [hy] at hx; cases hx
    | some l =>
      rw [hy] at hx
      cases hx
      have hr := hp l (List.mem_of_getElem? hy)
      have eL : pL l = .tup [.int l.k, .int l.r, .tup (pN l.s)] := rfl
      rw [eL]
      walk_at "w"
      simp only [List.length_map, List.length_range]
      rw [ixN_at hr]
      walk_at "w"
      have hfun : (fun r => if r = l.r then (1 : Int) else if ((ls.take k).any fun l => l.r == r) = true then (1 : Int) else 0) = fun r => if ((ls.take (k + 1)).any fun l => l.r == r) = true then (1 : Int) else 0 := by
        funext r
        rw [List.take_succ, hy]
        by_cases e : r = l.r
        · subst e; simp
        · have : (l.r == r) = false := by simpa using fun z => e z.symm
          simp [e, this]
      refine ⟨Sl.o (D.p (P.tup [P.int l.k, P.int l.r, P.tup (pN l.s)])), ?_, .p _⟩
      rw [map_set, rg_set, hfun]
  · rintro e ⟨x2, rfl, f2⟩
    rw [show ((ls.map pL).map D.p).length = ls.length by simp only [List.length_map], List.take_length]
    walk_at "w"
    refine ⟨_, rfl, ?_⟩
    rw [sum01]
    exact hQ _ _ rfl
theorem ok__law_many {P : Program} {w : World} {K : PySem.W.Frag} {mg : Str → Option Value} {base : Heap} {f : Addr} {fd : FuncData} (F : Fun K "_law_many" "_law_many" s__law_many f fd) (B : Blt mg) : FnOk P w K mg base CX0 1 f fd ["lines"] (spOf K none 1 ds__law_many) :=
  fn_ok (tb := w__law_many) F sc__law_many rfl (fun cdv A outer s H E hr => (s_cons (s_setLc (i := 1) (own := [("k", 3)]) rfl sc__law_many.nd rfl rfl (sw_true rfl rfl rfl rfl) (q_rg1 (by rfl) B.range q_int) (blkOk_by (by rfl)) (by decide) (blkG fun _ _ _ _ _ => (g_var (i := 3) sc__law_many.nd rfl (.inl rfl))) (blkT fun _ _ _ _ _ => q_ts0) (blkE fun _ _ _ _ _ => q_int))
    (s_cons (s_for PassesOwn.never rfl (q_it (q_rn 0 (pv 0))) (g_var (i := 2) sc__law_many.nd rfl (.inl rfl)) (s_one (s_asg q_int (g_sub (pv 1) (q_ix (q_rn 2 (pv 2)) (q_rv q_int))))))
    (s_one (s_ret (q_call1B (c_sum rfl) (by rfl) B.sum rfl (q_rn 1 (pv 1)))))))) fun as Q hl h => law__law_many as Q h

theorem many_call {ls : List Line} {Q : D → D → Prop} (hp : ∀ l ∈ ls, l.r < 60) (h : ∀ o, Q (.p (.int (cntR ls : Nat))) o) : ds__law_many [.p (.tup (ls.map pL))] Q :=
  ⟨ls, rfl, hp, fun d o e => by
    have e : d = .p (.int (cntR ls : Nat)) := e
    subst e; exact h o⟩
theorem cnt_le {os ls : List Line} {rs : List Nat} (h1 : ∀ o ∈ os, o.r ≤ rs.length) (h2 : rs.Nodup) (h3 : ∀ r ∈ rs, ∃ l ∈ ls, l.r = r) (h4 : ∀ l ∈ ls, l.r < 60) : cntR os ≤ cntR ls + 1 := by
  have a : cntR os ≤ rs.length + 1 := by
    have := nodup_le ((List.range 60).filter fun r => os.any fun l => l.r == r) (List.range (rs.length + 1)) (List.nodup_range.filter _) fun x hx => by
      obtain ⟨_, h⟩ := List.mem_filter.mp hx
      obtain ⟨o, ho, e⟩ := List.any_eq_true.mp h
      have e : o.r = x := by simpa using e
      have := h1 o ho
      exact List.mem_range.mpr (by omega)
    rw [List.length_range] at this
    exact this
  have b : rs.length ≤ cntR ls := nodup_le rs _ h2 fun x hx => by
    obtain ⟨l, hl, e⟩ := h3 x hx
    refine List.mem_filter.mpr ⟨List.mem_range.mpr (by rw [← e]; exact h4 l hl), List.any_eq_true.mpr ⟨l, hl, by simpa using e⟩⟩
  omega
abbrev s__law_spread : Stmt := topS 17
theorem sc__law_spread : FnScope ["script", "code", "told", "held", "k", "line"] ["script", "code"] (defScope s__law_spread) := ⟨rfl, rfl, rfl, by decide +kernel, rfl, by decide +kernel, by decide +kernel⟩
/-- slots: script=0 code=1 told=2 held=3 k=4 line=5 -/
def w__law_spread : VS := (vSeq (vSet 2 (tCallV none ds_spread_code (tRsCons (tRn 0) (tRsCons (tRn 1) tRsNil))))
    (vSeq (vIf (tOr (tNot (tTst (tUn (isiF "tuple") (tRn 2)))) (tTst (tBin neF (tRv (tUn lenF (tRn 2))) (tRv (tC (.int 2)))))) (vRet (tC (.bl false))) vNext)
    (vSeq (vIf (tOr (tNot (tTst (tUn (isiF "tuple") (tRv (tBin ixF (tRn 2) (tRv (tC (.int 0)))))))) (tNot (tTst (tUn (isiF "tuple") (tRv (tBin ixF (tRn 2) (tRv (tC (.int 1))))))))) (vRet (tC (.bl false))) vNext)
    (vSeq (vIf (tOr (tTst (tBin neF (tRv (tUn lenF (tRv (tBin ixF (tRn 2) (tRv (tC (.int 0))))))) (tRv (tUn lenF (tRv (tBin ixF (tRn 1) (tRv (tC (.int 0))))))))) (tTst (tBin neF (tRv (tUn lenF (tRv (tBin ixF (tRn 2) (tRv (tC (.int 1))))))) (tRv (tUn lenF (tRv (tBin ixF (tRn 0) (tRv (tC (.int 2)))))))))) (vRet (tC (.bl false))) vNext)
    (vSeq (vSet 3 (tComp [4] (tRg1 (tC (.int 60))) (gVar 4) tY (tUn negF (tRv (tC (.int 1))))))
    (vSeq (vFor (tRg1 (tUn lenF (tRv (tBin ixF (tRn 1) (tRv (tC (.int 0))))))) (gVar 4) (vSeq (vSet 5 (tBin ixF (tRv (tBin ixF (tRn 2) (tRv (tC (.int 0))))) (tRn 4)))
    (vSeq (vIf (tNot (tTst (tCallV none ds__law_line (tRsCons (tRv (tBin ixF (tRn 0) (tRv (tC (.int 0))))) (tRsCons (tRn 3) (tRsCons (tRn 5) (tRsCons (tRv (tBin ixF (tRv (tBin ixF (tRv (tBin ixF (tRn 1) (tRv (tC (.int 0))))) (tRn 4))) (tRv (tC (.int 0))))) tRsNil))))))) (vRet (tC (.bl false))) vNext)
    (vAsg (tBin ixF (tRn 5) (tRv (tC (.int 0)))) (gSub 3 (tBin ixF (tRn 5) (tRv (tC (.int 1)))))))))
    (vSeq (vFor (tRg1 (tUn lenF (tRv (tBin ixF (tRn 0) (tRv (tC (.int 2))))))) (gVar 4) (vIf (tOr (tNot (tTst (tCallV none ds__law_index (tRsCons (tRv (tBin ixF (tRv (tBin ixF (tRn 2) (tRv (tC (.int 1))))) (tRn 4))) (tRsCons (tRv (tC (.int 60))) tRsNil))))) (tTst (tBin neF (tRv (tBin ixF (tRn 3) (tRv (tBin ixF (tRv (tBin ixF (tRn 2) (tRv (tC (.int 1))))) (tRn 4))))) (tRv (tBin ixF (tRv (tBin ixF (tRn 0) (tRv (tC (.int 2))))) (tRn 4)))))) (vRet (tC (.bl false))) vNext))
    (vRet (tBin leF (tRv (tCallV none ds__law_many (tRsCons (tRv (tBin ixF (tRn 2) (tRv (tC (.int 0))))) tRsNil))) (tRv (tBin addF (tRv (tCallV none ds__law_many (tRsCons (tRv (tBin ixF (tRn 1) (tRv (tC (.int 0))))) tRsNil))) (tRv (tC (.int 1))))))))))))))

def ds__law_spread : DS := DsOf (G := List P × List (List Int) × P × List Int × List Line × List Nat × List Int × List Nat) (fun g => [.p (.tup [.tup g.1, g.2.2.1, .tup (g.2.2.2.1.map P.int)]), .p (.tup [.tup (g.2.2.2.2.1.map pL), .tup (pN g.2.2.2.2.2.1)])])
  (fun g => Vals_ g.1 g.2.1 ∧ CodeOk g.2.1 g.2.2.2.2.1 g.2.2.2.2.2.1 g.2.2.2.2.2.2.1 g.2.2.2.2.2.2.2 ∧ g.2.2.2.1 = g.2.2.2.2.2.1.map (hat g.2.2.2.2.2.2.1)) fun g d o => d = .p (.bl true)
theorem law__law_spread (as : List D) (Q : D → D → Prop) (h : ds__law_spread as Q) : w__law_spread ⟨fun e => Q (.p .non) (outM none e), fun d e => Q d (outM none e), fun _ => False, fun _ => False⟩ (argS none as ++ List.replicate 4 .e) := by
  obtain ⟨⟨vs, nd, wt, outs, ls, pl, h, pool⟩, rfl, ⟨hv, hc, ho⟩, hQ⟩ := h
  have hv : Vals_ vs nd := hv
  have hc : CodeOk nd ls pl h pool := hc
  have ho : outs = pl.map (hat h) := ho
  subst ho
  have hl0 : ls.length ≤ 2000 := hc.ll
  have hl1 : pl.length ≤ 2000 := hc.lp
  unfold w__law_spread
  walk_at "w"
  refine ⟨(.tup [.tup vs, wt, .tup ((pl.map (hat h)).map P.int)], ls, pl, nd, h, pool), rfl, hc, fun d o ⟨os, pl2, h2, rs, e, hos, hrun, hout, hpl, hp60, hnd, hfew, hrs⟩ => ?_⟩
  subst e
  have hos : os.map Line.k = ls.map Line.k := hos
  have hrs : ∀ r ∈ rs, ∃ l ∈ ls, l.r = r := hrs
  have hpl : pl2.map (hat h2) = pl.map (hat h) := hpl
  have hlo : os.length = ls.length := by have := congrArg List.length hos; rwa [List.length_map, List.length_map] at this
  have hlp : pl2.length = pl.length := by have := congrArg List.length hpl; rwa [List.length_map, List.length_map] at this
  have h260 : h2.length = 60 := hrun.len
  have c1 : decide ((((os.map pL).length : Nat) : Int) = ((ls.map pL).length : Nat)) = true := decide_eq_true (by rw [List.length_map, List.length_map, hlo])
  have c2 : decide ((((pN pl2).length : Nat) : Int) = (((pl.map (hat h)).map P.int).length : Nat)) = true := decide_eq_true (by simp only [List.length_map]; rw [hlp])
  simp only [isi_tt]
  walk_at "w"
  simp only [d22]
  walk_at "w"
  simp only [isi_tt]
  walk_at "w"
  simp only [isi_tt]
  walk_at "w"
  rw [c1]
  walk_at "w"
  rw [c2]
  walk_at "w"
  refine ⟨⟨by omega, by omega⟩, ?_⟩
  refine comp_fm (fun _ => some (.p (.int (-1)))) (by walk_at "w") (by rw [rgD_len]; exact sl2 (by decide)) (fun j d hj q hq => ?_) ?_
  · obtain ⟨rfl, _, _⟩ := rgD_get hj
    walk_at "w"
    exact hq
  have e0 : (rgD 0 60).filterMap (fun _ => some (D.p (.int (-1)))) = (h0.map P.int).map D.p := by rfl
  rw [e0, mkL_p]
  walk_at "w"
  refine ⟨by simp only [List.length_map]; exact ⟨by omega, by omega⟩, ?_⟩
  refine for_i (fun k e => ∃ (g : List Int) (x4 x5 : Sl), e = [Sl.o (D.p (P.tup [P.tup vs, wt, P.tup ((pl.map (hat h)).map P.int)])), Sl.o (D.p (P.tup [P.tup (ls.map pL), P.tup (pN pl)])), Sl.o (D.p (P.tup [P.tup (os.map pL), P.tup (pN pl2)])), Sl.o (D.l (g.map P.int)), x4, x5] ∧ FS x4 ∧ FS x5 ∧ Run nd h0 (os.take k) g) ⟨h0, _, _, rfl, .e, .e, rfl⟩ ?_ ?_
  · rintro k d e hk ⟨g, x4, x5, rfl, f4, f5, hg⟩
    obtain ⟨rfl, hk1, hk2⟩ := rgD_get hk
    simp only [List.length_map] at hk2
    have hko : k < os.length := by omega
    have hkl : k < ls.length := by omega
    have eos : os = os.take k ++ os[k] :: os.drop (k + 1) := by rw [List.getElem_cons_drop, List.take_append_drop]
    have hr2 := hrun
    rw [eos] at hr2
    obtain ⟨g', g1, g2⟩ := hr2.cut
    have := Run.fun g1 hg
    subst this
    have lo := g2.1
    have hg60 : g'.length = 60 := hg.len
    have hko2 : (os[k]).k = (ls[k]).k := by
      have := congrArg (fun l => l[k]?) hos
      simp only [List.getElem?_map, List.getElem?_eq_getElem hko, List.getElem?_eq_getElem hkl, Option.map_some, Option.some.injEq] at this
      exact this
    have e1 : atI (os.map pL) (0 + (k : Int)) = some (pL os[k]) := by
      rw [Int.zero_add]
      exact atI_nat (by rw [List.getElem?_map, List.getElem?_eq_getElem hko]; rfl)
    have e2 : atI (ls.map pL) (0 + (k : Int)) = some (.tup [.int ls[k].k, .int ls[k].r, .tup (pN ls[k].s)]) := by
      rw [Int.zero_add]
      exact atI_nat (by rw [List.getElem?_map, List.getElem?_eq_getElem hkl]; rfl)
    walk_at "w"
    rw [e1]
    walk_at "w"
    rw [e2]
    walk_at "w"
    rw [← hko2]
    refine line_call hv lo hg60 (hout _ (List.getElem_mem hko)).1 fun o => ?_
    have eL : pL os[k] = .tup [.int (os[k]).k, .int (os[k]).r, .tup (pN (os[k]).s)] := rfl
    rw [eL]
    walk_at "w"
    simp only [List.length_map]
    rw [ixN_at (by rw [hg60]; exact lo.r)]
    walk_at "w"
    rw [map_set]
    refine ⟨_, _, _, rfl, .p _, .p _, ?_⟩
    rw [List.take_succ, List.getElem?_eq_getElem hko]
    exact hg.snoc lo
  · rintro e ⟨g, x4, x5, rfl, f4, f5, hg⟩
    rw [rgD_len] at hg
    simp only [List.length_map] at hg
    rw [List.take_of_length_le (by omega)] at hg
    have := Run.fun hg hrun
    subst this
    walk_at "w"
    refine ⟨by simp only [List.length_map]; exact ⟨by omega, by omega⟩, ?_⟩
    refine for_i (fun k e => ∃ (x4 : Sl), e = [Sl.o (D.p (P.tup [P.tup vs, wt, P.tup ((pl.map (hat h)).map P.int)])), Sl.o (D.p (P.tup [P.tup (ls.map pL), P.tup (pN pl)])), Sl.o (D.p (P.tup [P.tup (os.map pL), P.tup (pN pl2)])), Sl.o (D.l (g.map P.int)), x4, x5] ∧ FS x4) ⟨_, rfl, f4⟩ ?_ ?_
    · rintro k d e hk ⟨x4, rfl, f4⟩
      obtain ⟨rfl, hk1, hk2⟩ := rgD_get hk
      simp only [List.length_map] at hk2
      have hkp : k < pl.length := by omega
      have hkp2 : k < pl2.length := by omega
      have h60 := hp60 _ (List.getElem_mem hkp2)
      have e1 : atI (pN pl2) (0 + (k : Int)) = some (.int (Int.ofNat pl2[k])) := by
        rw [Int.zero_add]
        exact atI_nat (by rw [List.getElem?_map, List.getElem?_map, List.getElem?_eq_getElem hkp2]; rfl)
      have e2 : atI ((pl.map (hat h)).map P.int) (0 + (k : Int)) = some (.int (hat h pl[k])) := by
        rw [Int.zero_add]
        exact atI_nat (by rw [List.getElem?_map, List.getElem?_map, List.getElem?_eq_getElem hkp]; rfl)
      have e3 : atI (g.map P.int) (Int.ofNat pl2[k]) = some (.int (hat g pl2[k])) := atI_nat (hat_at (by rw [h260]; exact h60))
      have e4 : hat g pl2[k] = hat h pl[k] := by
        have := congrArg (fun l => l[k]?) hpl
        simp only [List.getElem?_map, List.getElem?_eq_getElem hkp, List.getElem?_eq_getElem hkp2, Option.map_some, Option.some.injEq] at this
        exact this
      walk_at "w"
      rw [e1]
      walk_at "w"
      refine ix_call (by show (0 : Int) ≤ (pl2[k] : Nat); omega) (by show ((pl2[k] : Nat) : Int) < 60; omega) fun o => ?_
      walk_at "w"
      rw [e1]
      walk_at "w"
      rw [e3]
      walk_at "w"
      rw [e2]
      walk_at "w"
      rw [e4, dd]
      walk_at "w"
      exact ⟨_, rfl, .p _⟩
    · rintro e ⟨x4, rfl, f4⟩
      walk_at "w"
      refine many_call hrun.r60 fun o => ?_
      try walk_at "w"
      refine many_call hc.run.r60 fun o => ?_
      try walk_at "w"
      have := cnt_le (fun o ho => (hout o ho).2) hnd hrs hc.run.r60
      rw [decide_eq_true (by omega)]
      exact hQ _ _ rfl
theorem ok__law_spread {P : Program} {w : World} {K : PySem.W.Frag} {mg : Str → Option Value} {base : Heap} {f : Addr} {fd : FuncData} (F : Fun K "_law_spread" "_law_spread" s__law_spread f fd) (B : Blt mg) (C__law_index : Cd P w K mg base "_law_index" 1 ["told", "below"] none 2 ds__law_index) (C__law_line : Cd P w K mg base "_law_line" 2 ["values", "held", "line", "value"] none 4 ds__law_line) (C__law_many : Cd P w K mg base "_law_many" 1 ["lines"] none 1 ds__law_many) (C_spread_code : Cd P w K mg base "spread_code" 2 ["script", "code"] none 2 ds_spread_code) : FnOk P w K mg base CX0 3 f fd ["script", "code"] (spOf K none 2 ds__law_spread) :=
  fn_ok (tb := w__law_spread) F sc__law_spread rfl (fun cdv A outer s H E hr => (s_cons (s_set (i := 2) sc__law_spread.nd rfl (.inl rfl) (q_own DsOf.mono C_spread_code (hr.mono (by decide)) (by rfl) (q_rscons (q_rn 0 (pv 0)) (q_rscons (q_rn 1 (pv 1)) q_rsnil)) mp0))
    (s_cons (s_if (QW.qt (q_or (q_tnot (q_tval (q_isi (Ty := "tuple") (by decide) (by rfl) B.isinstance rfl (by rfl) B.tuple rfl (q_rn 2 (pv 2))))) (q_or1 (q_tcmp (o_ne (hu64 hr)) (q_rv (q_call1B c_len (by rfl) B.len rfl (q_rn 2 (pv 2)))) (q_rv q_int) (by rfl))))) (s_one (s_ret q_bl)) s_nil)
    (s_cons (s_if (QW.qt (q_or (q_tnot (q_tval (q_isi (Ty := "tuple") (by decide) (by rfl) B.isinstance rfl (by rfl) B.tuple rfl (q_rv (q_ix (q_rn 2 (pv 2)) (q_rv q_int)))))) (q_or1 (q_tnot (q_tval (q_isi (Ty := "tuple") (by decide) (by rfl) B.isinstance rfl (by rfl) B.tuple rfl (q_rv (q_ix (q_rn 2 (pv 2)) (q_rv q_int))))))))) (s_one (s_ret q_bl)) s_nil)
    (s_cons (s_if (QW.qt (q_or (q_tcmp (o_ne (hu64 hr)) (q_rv (q_call1B c_len (by rfl) B.len rfl (q_rv (q_ix (q_rn 2 (pv 2)) (q_rv q_int))))) (q_rv (q_call1B c_len (by rfl) B.len rfl (q_rv (q_ix (q_rn 1 (pv 1)) (q_rv q_int))))) (by rfl)) (q_or1 (q_tcmp (o_ne (hu64 hr)) (q_rv (q_call1B c_len (by rfl) B.len rfl (q_rv (q_ix (q_rn 2 (pv 2)) (q_rv q_int))))) (q_rv (q_call1B c_len (by rfl) B.len rfl (q_rv (q_ix (q_rn 0 (pv 0)) (q_rv q_int))))) (by rfl))))) (s_one (s_ret q_bl)) s_nil)
    (s_cons (s_setLc (i := 3) (own := [("k", 4)]) rfl sc__law_spread.nd rfl rfl (sw_true rfl rfl rfl rfl) (q_rg1 (by rfl) B.range q_int) (blkOk_by (by rfl)) (by decide) (blkG fun _ _ _ _ _ => (g_var (i := 4) sc__law_spread.nd rfl (.inl rfl))) (blkT fun _ _ _ _ _ => q_ts0) (blkE fun _ _ _ _ _ => (q_un o_neg (q_rv q_int))))
    (s_cons (s_for PassesOwn.never rfl (q_rg1 (by rfl) B.range (q_call1B c_len (by rfl) B.len rfl (q_rv (q_ix (q_rn 1 (pv 1)) (q_rv q_int))))) (g_var (i := 4) sc__law_spread.nd rfl (.inl rfl)) (s_cons (s_set (i := 5) sc__law_spread.nd rfl (.inl rfl) (q_ix (q_rv (q_ix (q_rn 2 (pv 2)) (q_rv q_int))) (q_rn 4 (pv 4))))
    (s_cons (s_if (q_tnot (q_tval (q_own DsOf.mono C__law_line (hr.mono (by decide)) (by rfl) (q_rscons (q_rv (q_ix (q_rn 0 (pv 0)) (q_rv q_int))) (q_rscons (q_rn 3 (pv 3)) (q_rscons (q_rn 5 (pv 5)) (q_rscons (q_rv (q_ix (q_rv (q_ix (q_rv (q_ix (q_rn 1 (pv 1)) (q_rv q_int))) (q_rn 4 (pv 4)))) (q_rv q_int))) q_rsnil)))) mp0))) (s_one (s_ret q_bl)) s_nil)
    (s_one (s_asg (q_ix (q_rn 5 (pv 5)) (q_rv q_int)) (g_sub (pv 3) (q_ix (q_rn 5 (pv 5)) (q_rv q_int))))))))
    (s_cons (s_for PassesOwn.never rfl (q_rg1 (by rfl) B.range (q_call1B c_len (by rfl) B.len rfl (q_rv (q_ix (q_rn 0 (pv 0)) (q_rv q_int))))) (g_var (i := 4) sc__law_spread.nd rfl (.inl rfl)) (s_one (s_if (QW.qt (q_or (q_tnot (q_tval (q_own DsOf.mono C__law_index (hr.mono (by decide)) (by rfl) (q_rscons (q_rv (q_ix (q_rv (q_ix (q_rn 2 (pv 2)) (q_rv q_int))) (q_rn 4 (pv 4)))) (q_rscons (q_rv q_int) q_rsnil)) mp0))) (q_or1 (q_tcmp (o_ne (hu64 hr)) (q_rv (q_ix (q_rn 3 (pv 3)) (q_rv (q_ix (q_rv (q_ix (q_rn 2 (pv 2)) (q_rv q_int))) (q_rn 4 (pv 4)))))) (q_rv (q_ix (q_rv (q_ix (q_rn 0 (pv 0)) (q_rv q_int))) (q_rn 4 (pv 4)))) (by rfl))))) (s_one (s_ret q_bl)) s_nil)))
    (s_one (s_ret (q_cmp o_le (q_rv (q_own DsOf.mono C__law_many (hr.mono (by decide)) (by rfl) (q_rscons (q_rv (q_ix (q_rn 2 (pv 2)) (q_rv q_int))) q_rsnil) mp0)) (q_rv (q_bin o_add (q_rv (q_own DsOf.mono C__law_many (hr.mono (by decide)) (by rfl) (q_rscons (q_rv (q_ix (q_rn 1 (pv 1)) (q_rv q_int))) q_rsnil) mp0)) (q_rv q_int))) (by rfl)))))))))))) fun as Q hl h => law__law_spread as Q h

theorem vals_call {a b inp : Int} {m : Nat} {Q : D → D → Prop} (ha : FOk a) (hm : m ≤ 1000) (h : ∀ (vs : List P) (nd : List (List Int)) a b, FOk a → Vals_ vs nd → nd.length = m → Q (.l vs) (.l [.int a, .int b])) : ds__law_values [.l [.int a, .int b], .p (.int (m : Nat)), .p (.int inp)] Q :=
  ⟨(a, b, m, inp), rfl, ⟨ha, hm⟩, fun d o ⟨vs, nd, a, b, e1, e2, g1, g2, g3⟩ => by subst e1 e2; exact h vs nd a b g1 g2 g3⟩
theorem drawn_call {a b own : Int} {vs : List P} {nd : List (List Int)} {pool first : List Nat} {many : Nat} {Q : D → D → Prop} (ha : FOk a) (hv : Vals_ vs nd) (n1 : 1 ≤ nd.length ∧ nd.length ≤ 1000) (hp : 1 ≤ pool.length ∧ pool.length ≤ 60 ∧ ∀ x ∈ pool, x < 60) (hm : many ≤ 1000) (hf : first.length ≤ 60) (hf2 : ∀ x ∈ first, x ∈ pool)
    (h : ∀ (ls : List Line) (g : List Int) a b, FOk a → Run nd h0 ls g → (∀ l ∈ ls, l.r ∈ pool) → ls.length = many + first.length → Q (.t [.l (ls.map pL), .l (g.map P.int)]) (.l [.int a, .int b])) : ds__law_drawn [.l [.int a, .int b], .l vs, .l (pN pool), .p (.int (many : Nat)), .l ((first.map zl).map pL), .p (.int own)] Q :=
  ⟨(a, b, vs, nd, pool, many, first, own), rfl, ⟨ha, hv, n1, hp, hm, hf, hf2⟩, fun d o ⟨ls, g, a, b, e1, e2, g1, g2, g3, g4⟩ => by subst e1 e2; exact h ls g a b g1 g2 g3 g4⟩
theorem filt_hat (f : Nat → Int) (xs : List Nat) : (xs.map Int.ofNat).filterMap (fun i => some (f i.toNat)) = xs.map f := by
  induction xs with
  | nil => rfl
  | cons x xs ih => simp only [List.map_cons, List.filterMap_cons]; rw [ih]; rfl
abbrev s__law_code : Stmt := topS 12
theorem sc__law_code : FnScope ["font", "many", "size", "first", "pool", "own", "values", "lines", "held", "full", "places", "outs", "script", "register", "k", "place", "value"] ["font", "many", "size", "first", "pool", "own"] (defScope s__law_code) := ⟨rfl, rfl, rfl, by decide +kernel, rfl, by decide +kernel, by decide +kernel⟩
/-- slots: font=0 many=1 size=2 first=3 pool=4 own=5 values=6 lines=7 held=8 full=9 places=10 outs=11 script=12 register=13 k=14 place=15 value=16 -/
def w__law_code : VS := (vSeq (vSet 6 (tCallV (some 0) ds__law_values (tRsCons (tRn 0) (tRsCons (tRn 1) (tRsCons (tRv (tBin addF (tRv (tC (.int 2))) (tRv (tCallV (some 0) ds__law_set (tRsCons (tRn 0) (tRsCons (tRv (tC (.int 3))) tRsNil)))))) tRsNil)))))
    (vSeq (vAsg (tCallV (some 0) ds__law_drawn (tRsCons (tRn 0) (tRsCons (tRn 6) (tRsCons (tRn 4) (tRsCons (tRn 2) (tRsCons (tRn 3) (tRsCons (tRn 5) tRsNil))))))) (gTupV 2 (gConsV (gVar 7) (gConsV (gVar 8) gNilV))))
    (vSeq (vSet 9 (tComp [13] (tIt (tRn 4)) (gVar 13) (tTst (tBin geF (tRv (tBin ixF (tRn 8) (tRn 13))) (tRv (tC (.int 0))))) (tVar 13)))
    (vSeq (vSet 10 (tLst tANil))
    (vSeq (vIf (tTst (tBin gtF (tRv (tUn lenF (tRn 9))) (tRv (tC (.int 0))))) (vSet 10 (tComp [14] (tRg1 (tCallV (some 0) ds__law_set (tRsCons (tRn 0) (tRsCons (tRv (tBin addF (tRv (tC (.int 1))) (tRv (tBin minF (tRv (tC (.int 12))) (tRv (tBin mulF (tRv (tC (.int 3))) (tRv (tUn lenF (tRn 9))))))))) tRsNil)))) (gVar 14) tY (tBin ixF (tRn 9) (tRv (tCallV (some 0) ds__law_set (tRsCons (tRn 0) (tRsCons (tRv (tUn lenF (tRn 9))) tRsNil))))))) vNext)
    (vSeq (vSet 11 (tUn tupF (tRv (tComp [15] (tIt (tRn 10)) (gVar 15) tY (tBin ixF (tRn 8) (tRn 15))))))
    (vSeq (vSet 12 (tTup (tACons (tUn tupF (tRn 6)) (tACons (tUn tupF (tRv (tComp [16] (tIt (tRn 6)) (gVar 16) tY (tBin addF (tRv (tC (.int 1))) (tRv (tCallV (some 0) ds__law_set (tRsCons (tRn 0) (tRsCons (tRv (tC (.int 99))) tRsNil)))))))) (tACons (tVar 11) tANil)))))
    (vRet (tTup (tACons (tVar 12) (tACons (tTup (tACons (tUn tupF (tRn 7)) (tACons (tUn tupF (tRn 10)) tANil))) tANil)))))))))))

def ds__law_code : DS := DsOf (G := Int × Int × Nat × Nat × List Nat × List Nat × Int) (fun g => [.l [.int g.1, .int g.2.1], .p (.int (g.2.2.1 : Nat)), .p (.int (g.2.2.2.1 : Nat)), .l ((g.2.2.2.2.1.map zl).map pL), .l (pN g.2.2.2.2.2.1), .p (.int g.2.2.2.2.2.2)])
  (fun g => FOk g.1 ∧ (1 ≤ g.2.2.1 ∧ g.2.2.1 ≤ 1000) ∧ g.2.2.2.1 ≤ 1000 ∧ (g.2.2.2.2.1.length ≤ 60 ∧ ∀ x ∈ g.2.2.2.2.1, x ∈ g.2.2.2.2.2.1) ∧ 1 ≤ g.2.2.2.2.2.1.length ∧ g.2.2.2.2.2.1.length ≤ 59 ∧ ∀ x ∈ g.2.2.2.2.2.1, x < 60)
  fun g d o => ∃ (vs : List P) (nd : List (List Int)) (wt : P) (ls : List Line) (ps : List Nat) (h : List Int) (a b : Int), d = .p (.tup [.tup [.tup vs, wt, .tup ((ps.map (hat h)).map P.int)], .tup [.tup (ls.map pL), .tup (pN ps)]]) ∧ o = .l [.int a, .int b] ∧ FOk a ∧ Vals_ vs nd ∧ CodeOk nd ls ps h g.2.2.2.2.2.1
theorem law__law_code (as : List D) (Q : D → D → Prop) (h : ds__law_code as Q) : w__law_code ⟨fun e => Q (.p .non) (outM (some 0) e), fun d e => Q d (outM (some 0) e), fun _ => False, fun _ => False⟩ (argS (some 0) as ++ List.replicate 11 .e) := by
  obtain ⟨⟨a, b, many, size, first, pool, own⟩, rfl, ⟨ha, ⟨m1, m2⟩, hs, ⟨f1, f2⟩, p1, p2, p3⟩, hQ⟩ := h
  have ha : FOk a := ha
  have m1 : 1 ≤ many := m1
  have m2 : many ≤ 1000 := m2
  have hs : size ≤ 1000 := hs
  have f1 : first.length ≤ 60 := f1
  have f2 : ∀ x ∈ first, x ∈ pool := f2
  have p1 : 1 ≤ pool.length := p1
  have p2 : pool.length ≤ 59 := p2
  have p3 : ∀ x ∈ pool, x < 60 := p3
  unfold w__law_code
  try walk_at "w"
  refine set_call ha (by omega) fun v a b hvv ha => ?_
  try walk_at "w"
  refine ⟨rfl, vals_call ha m2 fun vs nd a b ha hv hnl => ?_⟩
  try walk_at "w"
  refine ⟨rfl, drawn_call ha hv ⟨by omega, by omega⟩ ⟨p1, by omega, p3⟩ hs f1 f2 fun ls h a b ha hrun hreg hlen => ?_⟩
  have hl60 : h.length = 60 := hrun.len
  try walk_at "w"
  refine comp_fm (fI fun r => if 0 ≤ hat h r.toNat then some r else none) (by walk_at "w" <;> rfl) (by simp only [List.length_map]; exact sl2 (by omega)) (fun c d hc q hq => ?_) ?_
  · obtain ⟨z, hz, rfl⟩ := mapD_get hc
    rw [List.getElem?_map, List.getElem?_map] at hz
    cases hw : pool[c]? with
    | none => rw [hw] at hz; cases hz
    | some r =>
      rw [hw] at hz
      cases hz
      have hr60 : r < h.length := by rw [hl60]; exact p3 r (List.mem_of_getElem? hw)
      have hq : q ((if 0 ≤ hat h r then some (Int.ofNat r) else none).map fun y => .p (.int y)) := hq
      try walk_at "w"
      rw [show atI (h.map P.int) (Int.ofNat r) = some (.int (hat h r)) from atI_nat (hat_at hr60)]
      try walk_at "w"
      by_cases he : 0 ≤ hat h r
      · rw [if_pos he] at hq
        rw [decide_eq_true he]
        try walk_at "w"
        exact hq
      · rw [if_neg he] at hq
        rw [decide_eq_false he]
        try walk_at "w"
        exact hq
  rw [filt_int, mkL_p]
  have hL : ∀ c ∈ (pool.map Int.ofNat).filterMap (fun r => if 0 ≤ hat h r.toNat then some r else none), ∃ r ∈ pool, c = Int.ofNat r ∧ 0 ≤ hat h r := fun c hc => by
    rw [List.mem_filterMap] at hc
    obtain ⟨w, w1, w2⟩ := hc
    obtain ⟨r, w3, rfl⟩ := List.mem_map.mp w1
    split at w2
    · rename_i e
      cases w2
      exact ⟨r, w3, rfl, e⟩
    · cases w2
  have hLl : ((pool.map Int.ofNat).filterMap (fun r => if 0 ≤ hat h r.toNat then some r else none)).length ≤ 59 := by
    have := List.length_filterMap_le (fun r : Int => if 0 ≤ hat h r.toNat then some r else none) (pool.map Int.ofNat)
    rw [List.length_map] at this
    omega
  generalize (pool.map Int.ofNat).filterMap (fun r => if 0 ≤ hat h r.toNat then some r else none) = L at hL hLl
  try walk_at "w"
  simp only [List.length_map]
  refine ⟨sl2 (by decide), ?_⟩
  by_cases hpos : (0 : Int) < (L.length : Nat)
  · rw [decide_eq_true hpos]
    try walk_at "w"
    refine ⟨mulok_l (by decide), ?_⟩
    simp only [List.length_map]
    refine set_call ha (by omega) fun v a b hv1 ha => ?_
    try walk_at "w"
    refine ⟨⟨by omega, by omega⟩, ?_⟩
    refine comp_i (by walk_at "w" <;> rfl) (fun j acc e => ∃ (ps : List Nat) (a b : Int), acc = (pN ps).map D.p ∧ ps.length = j ∧ (∀ p ∈ ps, 0 ≤ hat h p ∧ p < 60) ∧ FOk a ∧ e = [Sl.b (D.l [P.int a, P.int b]), Sl.o (D.p (P.int many)), Sl.o (D.p (P.int size)), Sl.r 0 (D.l ((first.map zl).map pL)), Sl.r 0 (D.l (pN pool)), Sl.o (D.p (P.int own)), Sl.o (D.l vs), Sl.o (D.l (ls.map pL)), Sl.o (D.l (h.map P.int)), Sl.o (D.l (L.map P.int)), Sl.o (D.l []), Sl.e, Sl.e, Sl.e, Sl.e, Sl.e, Sl.e])
      ⟨[], a, b, rfl, rfl, by simp, ha, by walk_at "w" <;> rfl⟩ ?_ ?_
    · rintro j d acc e hj ⟨ps, a, b, rfl, hpl, hps, ha, rfl⟩
      obtain ⟨rfl, hj1, hj2⟩ := rgD_get hj
      try walk_at "w"
      simp only [List.length_map]
      refine set_call ha (by omega) fun u a b hu ha => ?_
      have hu' : u < L.length := by omega
      try walk_at "w"
      rw [atI_nat (mapI_at hu')]
      obtain ⟨r, r1, r2, r3⟩ := hL _ (List.getElem_mem hu')
      rw [r2]
      try walk_at "w"
      refine ⟨sl1 (by omega), ps ++ [r], a, b, by simp only [pN, List.map_append]; rfl, by simp [hpl], fun p hp => ?_, ha, rfl⟩
      rcases List.mem_append.mp hp with z | z
      · exact hps p z
      · simp at z; subst z; exact ⟨r3, p3 _ r1⟩
    · rintro acc e ⟨ps, a, b, rfl, hpl, hps, ha, rfl⟩
      rw [rgD_len] at hpl
      have hpl : ps.length ≤ 2000 := by omega
      rw [mkL_p]
      try walk_at "w"
      refine comp_fm (fI fun i => some (hat h i.toNat)) (by walk_at "w" <;> rfl) (by simp only [List.length_map]; exact sl2 (by omega)) (fun c d hcd q hq => ?_) ?_
      · obtain ⟨z, hz, rfl⟩ := mapD_get hcd
        rw [List.getElem?_map, List.getElem?_map] at hz
        cases hw : ps[c]? with
        | none => rw [hw] at hz; cases hz
        | some s =>
          rw [hw] at hz
          cases hz
          have h60 := (hps s (List.mem_of_getElem? hw)).2
          try walk_at "w"
          rw [show atI (h.map P.int) (Int.ofNat s) = some (.int (hat h s)) from atI_nat (hat_at (by rw [hl60]; exact h60))]
          try walk_at "w"
          exact hq
      rw [filt_int, mkL_p, filt_hat]
      try walk_at "w"
      refine comp_i (by walk_at "w" <;> rfl) (fun j acc e => ∃ (ws : List P) (a b : Int), acc = ws.map D.p ∧ ws.length = j ∧ FOk a ∧ e = [Sl.b (D.l [P.int a, P.int b]), Sl.o (D.p (P.int many)), Sl.o (D.p (P.int size)), Sl.r 0 (D.l ((first.map zl).map pL)), Sl.r 0 (D.l (pN pool)), Sl.o (D.p (P.int own)), Sl.k (D.l vs), Sl.o (D.l (ls.map pL)), Sl.o (D.l (h.map P.int)), Sl.o (D.l (L.map P.int)), Sl.o (D.l (pN ps)), Sl.o (D.p (P.tup ((ps.map (hat h)).map P.int))), Sl.e, Sl.e, Sl.e, Sl.e, Sl.e])
        ⟨[], a, b, rfl, rfl, ha, by walk_at "w" <;> rfl⟩ ?_ ?_
      · rintro j d acc e hj ⟨ws, a, b, rfl, hwl, ha, rfl⟩
        obtain ⟨x, hx, rfl⟩ := mapD_get hj
        have hjl := (List.getElem?_eq_some_iff.mp hx).1
        have hvl := hv.len
        try walk_at "w"
        refine set_call ha (by omega) fun u a b hu ha => ?_
        try walk_at "w"
        exact ⟨by rw [List.length_map]; exact sl1 (by omega), ws ++ [.int (1 + u)], a, b, by rw [List.map_append]; rfl, by simp [hwl], ha, rfl⟩
      · rintro acc e ⟨ws, a, b, rfl, hwl, ha, rfl⟩
        rw [mkL_p]
        try walk_at "w"
        refine ⟨sl2 (by decide), sl2 (by decide), sl2 (by decide), hQ _ _ ⟨vs, nd, .tup ws, ls, ps, h, a, b, rfl, rfl, ha, hv, ⟨hrun, fun n hn => ?_, hreg, p2, fun p hp => ⟨by have := (hps p hp).1; omega, (hps p hp).2⟩, by omega, hpl⟩⟩⟩
        obtain ⟨k, hk⟩ := List.getElem?_of_mem hn
        exact need_len hv hk
  · rw [decide_eq_false hpos]
    obtain ⟨ps, hpse, hpl, hps⟩ : ∃ ps : List Nat, D.l ([] : List P) = D.l (pN ps) ∧ ps.length ≤ 2000 ∧ ∀ p ∈ ps, 0 ≤ hat h p ∧ p < 60 := ⟨[], rfl, by decide, by simp⟩
    rw [hpse]
    try walk_at "w"
    refine comp_fm (fI fun i => some (hat h i.toNat)) (by walk_at "w" <;> rfl) (by simp only [List.length_map]; exact sl2 (by omega)) (fun c d hcd q hq => ?_) ?_
    · obtain ⟨z, hz, rfl⟩ := mapD_get hcd
      rw [List.getElem?_map, List.getElem?_map] at hz
      cases hw : ps[c]? with
      | none => rw [hw] at hz; cases hz
      | some s =>
        rw [hw] at hz
        cases hz
        have h60 := (hps s (List.mem_of_getElem? hw)).2
        try walk_at "w"
        rw [show atI (h.map P.int) (Int.ofNat s) = some (.int (hat h s)) from atI_nat (hat_at (by rw [hl60]; exact h60))]
        try walk_at "w"
        exact hq
    rw [filt_int, mkL_p, filt_hat]
    try walk_at "w"
    refine comp_i (by walk_at "w" <;> rfl) (fun j acc e => ∃ (ws : List P) (a b : Int), acc = ws.map D.p ∧ ws.length = j ∧ FOk a ∧ e = [Sl.b (D.l [P.int a, P.int b]), Sl.o (D.p (P.int many)), Sl.o (D.p (P.int size)), Sl.r 0 (D.l ((first.map zl).map pL)), Sl.r 0 (D.l (pN pool)), Sl.o (D.p (P.int own)), Sl.k (D.l vs), Sl.o (D.l (ls.map pL)), Sl.o (D.l (h.map P.int)), Sl.o (D.l (L.map P.int)), Sl.o (D.l (pN ps)), Sl.o (D.p (P.tup ((ps.map (hat h)).map P.int))), Sl.e, Sl.e, Sl.e, Sl.e, Sl.e])
      ⟨[], a, b, rfl, rfl, ha, by walk_at "w" <;> rfl⟩ ?_ ?_
    · rintro j d acc e hj ⟨ws, a, b, rfl, hwl, ha, rfl⟩
      obtain ⟨x, hx, rfl⟩ := mapD_get hj
      have hjl := (List.getElem?_eq_some_iff.mp hx).1
      have hvl := hv.len
      try walk_at "w"
      refine set_call ha (by omega) fun u a b hu ha => ?_
      try walk_at "w"
      exact ⟨by rw [List.length_map]; exact sl1 (by omega), ws ++ [.int (1 + u)], a, b, by rw [List.map_append]; rfl, by simp [hwl], ha, rfl⟩
    · rintro acc e ⟨ws, a, b, rfl, hwl, ha, rfl⟩
      rw [mkL_p]
      try walk_at "w"
      refine ⟨sl2 (by decide), sl2 (by decide), sl2 (by decide), hQ _ _ ⟨vs, nd, .tup ws, ls, ps, h, a, b, rfl, rfl, ha, hv, ⟨hrun, fun n hn => ?_, hreg, p2, fun p hp => ⟨by have := (hps p hp).1; omega, (hps p hp).2⟩, by omega, hpl⟩⟩⟩
      obtain ⟨k, hk⟩ := List.getElem?_of_mem hn
      exact need_len hv hk
theorem ok__law_code {P : Program} {w : World} {K : PySem.W.Frag} {mg : Str → Option Value} {base : Heap} {f : Addr} {fd : FuncData} (F : Fun K "_law_code" "_law_code" s__law_code f fd) (B : Blt mg) (C__law_drawn : Cd P w K mg base "_law_drawn" 3 ["font", "values", "pool", "many", "first", "own"] (some 0) 6 ds__law_drawn) (C__law_set : Cd P w K mg base "_law_set" 1 ["font", "many"] (some 0) 2 ds__law_set) (C__law_values : Cd P w K mg base "_law_values" 2 ["font", "many", "inputs"] (some 0) 3 ds__law_values) : FnOk P w K mg base CX0 4 f fd ["font", "many", "size", "first", "pool", "own"] (spOf K (some 0) 6 ds__law_code) :=
  fn_ok (tb := w__law_code) F sc__law_code rfl (fun cdv A outer s H E hr => (s_cons (s_set (i := 6) sc__law_code.nd rfl (.inl rfl) (q_own DsOf.mono C__law_values (hr.mono (by decide)) (by rfl) (q_rscons (q_rn 0 (pv 0)) (q_rscons (q_rn 1 (pv 1)) (q_rscons (q_rv (q_bin o_add (q_rv q_int) (q_rv (q_own DsOf.mono C__law_set (hr.mono (by decide)) (by rfl) (q_rscons (q_rn 0 (pv 0)) (q_rscons (q_rv q_int) q_rsnil)) (mpS (by decide)))))) q_rsnil))) (mpS (by decide))))
    (s_cons (s_asg (q_own DsOf.mono C__law_drawn (hr.mono (by decide)) (by rfl) (q_rscons (q_rn 0 (pv 0)) (q_rscons (q_rn 6 (pv 6)) (q_rscons (q_rn 4 (pv 4)) (q_rscons (q_rn 2 (pv 2)) (q_rscons (q_rn 3 (pv 3)) (q_rscons (q_rn 5 (pv 5)) q_rsnil)))))) (mpS (by decide))) (g_tup rfl (g_cons (g_var (i := 7) sc__law_code.nd rfl (.inl rfl)) (g_cons (g_var (i := 8) sc__law_code.nd rfl (.inr rfl)) g_nil))))
    (s_cons (s_set (i := 9) sc__law_code.nd rfl (.inr rfl) (q_comp (own := [("register", 13)]) rfl sc__law_code.nd (q_it (q_rn 4 (pv 4))) (blkOk_by (by rfl)) (by decide) (blkG fun _ _ _ _ _ => (g_var (i := 13) sc__law_code.nd rfl (.inl rfl))) (blkT fun _ _ _ _ _ => (q_ts1 (q_tcmp o_ge (q_rv (q_ix (q_rn 8 (pv 8)) (q_rn 13 (pv 13)))) (q_rv q_int) (by rfl)))) (blkE fun _ _ _ _ _ => (q_var 13 (pv 13)))))
    (s_cons (s_set (i := 10) sc__law_code.nd rfl (.inl rfl) (q_lst q_anil))
    (s_cons (s_if (q_tcmp o_gt (q_rv (q_call1B c_len (by rfl) B.len rfl (q_rn 9 (pv 9)))) (q_rv q_int) (by rfl)) (s_one (s_setLc (i := 10) (own := [("k", 14)]) rfl sc__law_code.nd rfl rfl (sw_true rfl rfl rfl rfl) (q_rg1 (by rfl) B.range (q_own DsOf.mono C__law_set (hr.mono (by decide)) (by rfl) (q_rscons (q_rn 0 (pv 0)) (q_rscons (q_rv (q_bin o_add (q_rv q_int) (q_rv (q_call2B (c_min2 rfl) (by rfl) B.min rfl (q_rv q_int) (q_rv (q_bin o_mul (q_rv q_int) (q_rv (q_call1B c_len (by rfl) B.len rfl (q_rn 9 (pv 9)))))))))) q_rsnil)) (mpS (by decide)))) (blkOk_by (by rfl)) (by decide) (blkG fun _ _ _ _ _ => (g_var (i := 14) sc__law_code.nd rfl (.inl rfl))) (blkT fun _ _ _ _ _ => q_ts0) (blkE fun _ _ _ _ _ => (q_ix (q_rn 9 (pv 9)) (q_rv (q_own DsOf.mono C__law_set (hr.mono (by decide)) (by rfl) (q_rscons (q_rn 0 (pv 0)) (q_rscons (q_rv (q_call1B c_len (by rfl) B.len rfl (q_rn 9 (pv 9)))) q_rsnil)) (mpS (by decide)))))))) s_nil)
    (s_cons (s_set (i := 11) sc__law_code.nd rfl (.inl rfl) (q_call1T c_tup (by rfl) B.tuple rfl (q_rv (q_comp (own := [("place", 15)]) rfl sc__law_code.nd (q_it (q_rn 10 (pv 10))) (blkOk_by (by rfl)) (by decide) (blkG fun _ _ _ _ _ => (g_var (i := 15) sc__law_code.nd rfl (.inl rfl))) (blkT fun _ _ _ _ _ => q_ts0) (blkE fun _ _ _ _ _ => (q_ix (q_rn 8 (pv 8)) (q_rn 15 (pv 15))))))))
    (s_cons (s_set (i := 12) sc__law_code.nd rfl (.inl rfl) (q_tup (q_acons (q_call1T c_tup (by rfl) B.tuple rfl (q_rn 6 (pv 6))) (q_acons (q_call1T c_tup (by rfl) B.tuple rfl (q_rv (q_comp (own := [("value", 16)]) rfl sc__law_code.nd (q_it (q_rn 6 (pv 6))) (blkOk_by (by rfl)) (by decide) (blkG fun _ _ _ _ _ => (g_var (i := 16) sc__law_code.nd rfl (.inl rfl))) (blkT fun _ _ _ _ _ => q_ts0) (blkE fun _ _ _ _ _ => (q_bin o_add (q_rv q_int) (q_rv (q_own DsOf.mono C__law_set (hr.mono (by decide)) (by rfl) (q_rscons (q_rn 0 (pv 0)) (q_rscons (q_rv q_int) q_rsnil)) (mpS (by decide))))))))) (q_acons (q_var 11 (pv 11)) q_anil)))))
    (s_one (s_ret (q_tup (q_acons (q_var 12 (pv 12)) (q_acons (q_tup (q_acons (q_call1T c_tup (by rfl) B.tuple rfl (q_rn 7 (pv 7))) (q_acons (q_call1T c_tup (by rfl) B.tuple rfl (q_rn 10 (pv 10))) q_anil))) q_anil))))))))))))) fun as Q hl h => law__law_code as Q h

theorem pool_call {a b : Int} {m : Nat} {Q : D → D → Prop} (ha : FOk a) (h1 : 1 ≤ m) (h2 : m ≤ 59) (h : ∀ (ns : List Nat) a b, FOk a → ns.length = m → ns.Nodup → (∀ n ∈ ns, n < 60) → Q (.l (pN ns)) (.l [.int a, .int b])) : ds__law_pool [.l [.int a, .int b], .p (.int (m : Nat))] Q :=
  ⟨(a, b, m), rfl, ⟨ha, h1, h2⟩, fun d o ⟨ns, a, b, e1, e2, g1, g2, g3, g4⟩ => by
    subst e1 e2
    have e := toN fun n hn => (g4 n hn).1
    rw [e]
    refine h (ns.map Int.toNat) a b g1 (by rw [List.length_map]; exact g2) ?_ fun n hn => ?_
    · rw [e] at g3
      exact g3.of_map Int.ofNat fun a b h e => h (by rw [e])
    · obtain ⟨i, hi, rfl⟩ := List.mem_map.mp hn
      have := g4 i hi
      omega⟩
def vs6 : List P := [.tup [.str "in", .str "x"], .tup [.str "a", .tup [.int 0]], .tup [.str "a", .tup [.int 1]], .tup [.str "b", .tup [.int 2, .int 1]], .tup [.str "b", .tup [.int 3, .int 3]], .tup [.str "a", .tup [.int 4]]]
def nd6 : List (List Int) := [[], [0], [1], [2, 1], [3, 3], [4]]
theorem S0 : (0 ≤ sizeLine) = True := eq_true (sl2 (by decide))
theorem S1 : (0 + 1 ≤ sizeLine) = True := eq_true (sl2 (by decide))
theorem S2 : (0 + 1 + 1 ≤ sizeLine) = True := eq_true (sl2 (by decide))
theorem S3 : (0 + 1 + 1 + 1 ≤ sizeLine) = True := eq_true (sl2 (by decide))
theorem S4 : (0 + 1 + 1 + 1 + 1 ≤ sizeLine) = True := eq_true (sl2 (by decide))
theorem S5 : (0 + 1 + 1 + 1 + 1 + 1 ≤ sizeLine) = True := eq_true (sl2 (by decide))
theorem S6 : (0 + 1 + 1 + 1 + 1 + 1 + 1 ≤ sizeLine) = True := eq_true (sl2 (by decide))
theorem ext_oo {xs ys : List P} {q : Sl → Prop} : extK (some (.o (.l xs))) (some (.l ys)) q = (xs.length + ys.length ≤ sizeLine ∧ q (.o (.l (xs ++ ys)))) := rfl
theorem outs_at (v : Nat) (h : v < 4) : ∃ os : List Int, atI [P.tup [.int 5, .int 2, .int 2], P.tup [.int 2, .int 5], P.tup [.int 5], P.tup [.int 2, .int 2, .int 5, .int 5]] (v : Int) = some (.tup (os.map P.int)) ∧ os.length ≤ 4 ∧ ∀ o ∈ os, o = 5 ∨ o = 2 := by
  have : v = 0 ∨ v = 1 ∨ v = 2 ∨ v = 3 := by omega
  rcases this with rfl | rfl | rfl | rfl
  · exact ⟨[5, 2, 2], rfl, by decide, by decide⟩
  · exact ⟨[2, 5], rfl, by decide, by decide⟩
  · exact ⟨[5], rfl, by decide, by decide⟩
  · exact ⟨[2, 2, 5, 5], rfl, by decide, by decide⟩
theorem vals6 : Vals_ vs6 nd6 := by
  have sa : PyData.strOk "a" = true := by decide +kernel
  have sb : PyData.strOk "b" = true := by decide +kernel
  have sx : PyData.strOk "x" = true := by decide +kernel
  have na : ("a" : Str) ≠ "in" := by decide +kernel
  have nb : ("b" : Str) ≠ "in" := by decide +kernel
  refine ⟨rfl, fun k x n h1 h2 => ?_⟩
  match k, h1, h2 with
  | 0, h1, h2 => cases h1; cases h2; exact .inl ⟨⟨_, sx, rfl⟩, rfl⟩
  | 1, h1, h2 => cases h1; cases h2; exact .inr ⟨⟨_, ⟨na, sa⟩, rfl⟩, by decide, by decide⟩
  | 2, h1, h2 => cases h1; cases h2; exact .inr ⟨⟨_, ⟨na, sa⟩, rfl⟩, by decide, by decide⟩
  | 3, h1, h2 => cases h1; cases h2; exact .inr ⟨⟨_, ⟨nb, sb⟩, rfl⟩, by decide, by decide⟩
  | 4, h1, h2 => cases h1; cases h2; exact .inr ⟨⟨_, ⟨nb, sb⟩, rfl⟩, by decide, by decide⟩
  | 5, h1, h2 => cases h1; cases h2; exact .inr ⟨⟨_, ⟨na, sa⟩, rfl⟩, by decide, by decide⟩
  | k + 6, h1, h2 => simp [vs6] at h1
def ls6 (p q r : Nat) : List Line := [⟨0, r, []⟩, ⟨0, p, []⟩, ⟨1, r, [r]⟩, ⟨2, p, [r]⟩, ⟨3, r, [p, r]⟩, ⟨4, r, [r, r]⟩, ⟨0, q, []⟩, ⟨1, q, [q]⟩, ⟨5, r, [r]⟩, ⟨2, q, [q]⟩]
theorem run6 {p q r : Nat} (hp : p < 60) (hq : q < 60) (hr : r < 60) (pq : p ≠ q) (pr : p ≠ r) (qr : q ≠ r) : ∃ h, Run nd6 h0 (ls6 p q r) h ∧ hat h r = 5 ∧ hat h p = 2 ∧ hat h q = 2 := by
  have l0 : h0.length = 60 := rfl
  have step : ∀ {g : List Int} {l : Line} {ls : List Line} {h' : List Int}, g.length = 60 → LineOk nd6 g l → Run nd6 (g.set l.r l.k) ls h' → Run nd6 g (l :: ls) h' := fun _ a b => ⟨a, b⟩
  let g1 := h0.set r ((0 : Nat) : Int)
  let g2 := g1.set p ((0 : Nat) : Int)
  let g3 := g2.set r ((1 : Nat) : Int)
  let g4 := g3.set p ((2 : Nat) : Int)
  let g5 := g4.set r ((3 : Nat) : Int)
  let g6 := g5.set r ((4 : Nat) : Int)
  let g7 := g6.set q ((0 : Nat) : Int)
  let g8 := g7.set q ((1 : Nat) : Int)
  let g9 := g8.set r ((5 : Nat) : Int)
  let g10 := g9.set q ((2 : Nat) : Int)
  have e1 : ∀ x, hat g1 x = if r = x then 0 else hat h0 x := fun x => hat_set (by rw [l0]; exact hr)
  have e2 : ∀ x, hat g2 x = if p = x then 0 else hat g1 x := fun x => hat_set (by simp [g1, l0]; exact hp)
  have e3 : ∀ x, hat g3 x = if r = x then 1 else hat g2 x := fun x => hat_set (by simp [g1, g2, l0]; exact hr)
  have e4 : ∀ x, hat g4 x = if p = x then 2 else hat g3 x := fun x => hat_set (by simp [g1, g2, g3, l0]; exact hp)
  have e5 : ∀ x, hat g5 x = if r = x then 3 else hat g4 x := fun x => hat_set (by simp [g1, g2, g3, g4, l0]; exact hr)
  have e6 : ∀ x, hat g6 x = if r = x then 4 else hat g5 x := fun x => hat_set (by simp [g1, g2, g3, g4, g5, l0]; exact hr)
  have e7 : ∀ x, hat g7 x = if q = x then 0 else hat g6 x := fun x => hat_set (by simp [g1, g2, g3, g4, g5, g6, l0]; exact hq)
  have e8 : ∀ x, hat g8 x = if q = x then 1 else hat g7 x := fun x => hat_set (by simp [g1, g2, g3, g4, g5, g6, g7, l0]; exact hq)
  have e9 : ∀ x, hat g9 x = if r = x then 5 else hat g8 x := fun x => hat_set (by simp [g1, g2, g3, g4, g5, g6, g7, g8, l0]; exact hr)
  have e10 : ∀ x, hat g10 x = if q = x then 2 else hat g9 x := fun x => hat_set (by simp [g1, g2, g3, g4, g5, g6, g7, g8, g9, l0]; exact hq)
  have rp := pr.symm
  have rq := qr.symm
  have qp := pq.symm
  have o1 : LineOk nd6 h0 ⟨0, r, []⟩ := ⟨rfl, hr, by simp⟩
  have o2 : LineOk nd6 g1 ⟨0, p, []⟩ := ⟨rfl, hp, by simp⟩
  have o3 : LineOk nd6 g2 ⟨1, r, [r]⟩ := ⟨by simp [nd6, e2, e1, pr], hr, by simpa using hr⟩
  have o4 : LineOk nd6 g3 ⟨2, p, [r]⟩ := ⟨by simp [nd6, e3], hp, by simpa using hr⟩
  have o5 : LineOk nd6 g4 ⟨3, r, [p, r]⟩ := ⟨by simp [nd6, e4, e3, pr], hr, by simpa using ⟨hp, hr⟩⟩
  have o6 : LineOk nd6 g5 ⟨4, r, [r, r]⟩ := ⟨by simp [nd6, e5], hr, by simpa using hr⟩
  have o7 : LineOk nd6 g6 ⟨0, q, []⟩ := ⟨rfl, hq, by simp⟩
  have o8 : LineOk nd6 g7 ⟨1, q, [q]⟩ := ⟨by simp [nd6, e7], hq, by simpa using hq⟩
  have o9 : LineOk nd6 g8 ⟨5, r, [r]⟩ := ⟨by simp [nd6, e8, e7, e6, qr], hr, by simpa using hr⟩
  have o10 : LineOk nd6 g9 ⟨2, q, [q]⟩ := ⟨by simp [nd6, e9, e8, rq], hq, by simpa using hq⟩
  exact ⟨g10, ⟨o1, o2, o3, o4, o5, o6, o7, o8, o9, o10, rfl⟩, by rw [e10, e9, if_neg qr, if_pos rfl], by rw [e10, e9, e8, e7, e6, e5, e4, if_neg qp, if_neg rp, if_neg qp, if_neg qp, if_neg rp, if_neg rp, if_pos rfl], by rw [e10, if_pos rfl]⟩
abbrev s__law_hand : Stmt := topS 13
theorem sc__law_hand : FnScope ["font", "values", "one", "two", "three", "lines", "outs", "places", "out"] ["font"] (defScope s__law_hand) := ⟨rfl, rfl, rfl, by decide +kernel, rfl, by decide +kernel, by decide +kernel⟩
/-- slots: font=0 values=1 one=2 two=3 three=4 lines=5 outs=6 places=7 out=8 -/
def w__law_hand : VS := (vSeq (vSet 1 (tTup (tACons (tTup (tACons (tC (.str "in")) (tACons (tC (.str "x")) tANil))) (tACons (tTup (tACons (tC (.str "a")) (tACons (tTup (tACons (tC (.int 0)) tANil)) tANil))) (tACons (tTup (tACons (tC (.str "a")) (tACons (tTup (tACons (tC (.int 1)) tANil)) tANil))) (tACons (tTup (tACons (tC (.str "b")) (tACons (tTup (tACons (tC (.int 2)) (tACons (tC (.int 1)) tANil))) tANil))) (tACons (tTup (tACons (tC (.str "b")) (tACons (tTup (tACons (tC (.int 3)) (tACons (tC (.int 3)) tANil))) tANil))) (tACons (tTup (tACons (tC (.str "a")) (tACons (tTup (tACons (tC (.int 4)) tANil)) tANil))) tANil))))))))
    (vSeq (vAsg (tCallV (some 0) ds__law_pool (tRsCons (tRn 0) (tRsCons (tRv (tC (.int 3))) tRsNil))) (gUnlV 3 (gConsV (gVar 2) (gConsV (gVar 3) (gConsV (gVar 4) gNilV)))))
    (vSeq (vSet 5 (tLst (tACons (tTup (tACons (tC (.int 0)) (tACons (tVar 4) (tACons (tTup tANil) tANil)))) (tACons (tTup (tACons (tC (.int 0)) (tACons (tVar 2) (tACons (tTup tANil) tANil)))) (tACons (tTup (tACons (tC (.int 1)) (tACons (tVar 4) (tACons (tTup (tACons (tVar 4) tANil)) tANil)))) (tACons (tTup (tACons (tC (.int 2)) (tACons (tVar 2) (tACons (tTup (tACons (tVar 4) tANil)) tANil)))) (tACons (tTup (tACons (tC (.int 3)) (tACons (tVar 4) (tACons (tTup (tACons (tVar 2) (tACons (tVar 4) tANil))) tANil)))) tANil)))))))
    (vSeq (vExpr (tExt 5 (tRv (tLst (tACons (tTup (tACons (tC (.int 4)) (tACons (tVar 4) (tACons (tTup (tACons (tVar 4) (tACons (tVar 4) tANil))) tANil)))) (tACons (tTup (tACons (tC (.int 0)) (tACons (tVar 3) (tACons (tTup tANil) tANil)))) (tACons (tTup (tACons (tC (.int 1)) (tACons (tVar 3) (tACons (tTup (tACons (tVar 3) tANil)) tANil)))) (tACons (tTup (tACons (tC (.int 5)) (tACons (tVar 4) (tACons (tTup (tACons (tVar 4) tANil)) tANil)))) (tACons (tTup (tACons (tC (.int 2)) (tACons (tVar 3) (tACons (tTup (tACons (tVar 3) tANil)) tANil)))) tANil)))))))))
    (vSeq (vSet 6 (tBin ixF (tRv (tTup (tACons (tTup (tACons (tC (.int 5)) (tACons (tC (.int 2)) (tACons (tC (.int 2)) tANil)))) (tACons (tTup (tACons (tC (.int 2)) (tACons (tC (.int 5)) tANil))) (tACons (tTup (tACons (tC (.int 5)) tANil)) (tACons (tTup (tACons (tC (.int 2)) (tACons (tC (.int 2)) (tACons (tC (.int 5)) (tACons (tC (.int 5)) tANil))))) tANil)))))) (tRv (tCallV (some 0) ds__law_set (tRsCons (tRn 0) (tRsCons (tRv (tC (.int 4))) tRsNil))))))
    (vSeq (vSet 7 (tLst tANil))
    (vSeq (vFor (tIt (tRn 6)) (gVar 8) (vExpr (tApp 7 (tBin ixF (tRv (tTup (tACons (tVar 4) (tACons (tBin ixF (tRv (tTup (tACons (tVar 2) (tACons (tVar 3) tANil)))) (tRv (tCallV (some 0) ds__law_set (tRsCons (tRn 0) (tRsCons (tRv (tC (.int 2))) tRsNil))))) tANil)))) (tRv (tUn intF (tRv (tBin eqF (tRn 8) (tRv (tC (.int 2)))))))))))
    (vRet (tTup (tACons (tTup (tACons (tVar 1) (tACons (tTup (tACons (tC (.int 1)) (tACons (tC (.int 2)) (tACons (tC (.int 3)) (tACons (tC (.int 4)) (tACons (tC (.int 5)) (tACons (tC (.int 6)) tANil))))))) (tACons (tVar 6) tANil)))) (tACons (tTup (tACons (tUn tupF (tRn 5)) (tACons (tUn tupF (tRn 7)) tANil))) tANil)))))))))))

def ds__law_hand : DS := DsOf (G := Int × Int) (fun g => [.l [.int g.1, .int g.2]]) (fun g => FOk g.1)
  fun g d o => ∃ (vs : List P) (nd : List (List Int)) (wt : P) (ls : List Line) (ps : List Nat) (h : List Int) (pool : List Nat) (a b : Int), d = .p (.tup [.tup [.tup vs, wt, .tup ((ps.map (hat h)).map P.int)], .tup [.tup (ls.map pL), .tup (pN ps)]]) ∧ o = .l [.int a, .int b] ∧ FOk a ∧ Vals_ vs nd ∧ CodeOk nd ls ps h pool
theorem law__law_hand (as : List D) (Q : D → D → Prop) (h : ds__law_hand as Q) : w__law_hand ⟨fun e => Q (.p .non) (outM (some 0) e), fun d e => Q d (outM (some 0) e), fun _ => False, fun _ => False⟩ (argS (some 0) as ++ List.replicate 8 .e) := by
  obtain ⟨⟨a, b⟩, rfl, ha, hQ⟩ := h
  have ha : FOk a := ha
  unfold w__law_hand
  try walk_at "w"
  repeat (refine ⟨sl2 (by decide), ?_⟩)
  refine pool_call (m := 3) ha (by decide) (by decide) fun ns a b ha hnl hnd hn60 => ?_
  obtain ⟨p, q, r, rfl⟩ : ∃ p q r, ns = [p, q, r] := by
    match ns, hnl with
    | [p, q, r], _ => exact ⟨p, q, r, rfl⟩
  have hp := hn60 p (by simp)
  have hq := hn60 q (by simp)
  have hr := hn60 r (by simp)
  have pq : p ≠ q := fun e => by subst e; simp at hnd
  have pr : p ≠ r := fun e => by subst e; simp at hnd
  have qr : q ≠ r := fun e => by subst e; simp at hnd
  obtain ⟨h, hrun, hr5, hp2, hq2⟩ := run6 hp hq hr pq pr qr
  rw [show pN [p, q, r] = [.int (p : Int), .int (q : Int), .int (r : Int)] from rfl]
  walk_at "w"
  simp only [S0, S1, S2, S3, S4, S5, S6, true_and, ext_oo]
  walk_at "w"
  refine ⟨sl2 (by decide), ?_⟩
  try simp only [S0, S1, S2, S3, S4, S5, S6, true_and]
  refine set_call ha (by omega) fun v a b hv ha => ?_
  obtain ⟨os, o1, o2, o3⟩ := outs_at v (by omega)
  walk_at "w"
  rw [o1]
  walk_at "w"
  try simp only [S0, S1, S2, S3, S4, S5, S6, true_and]
  refine for_i (fun k e => ∃ (a b : Int) (ps : List Nat) (x8 : Sl), e = [Sl.b (D.l [P.int a, P.int b]), Sl.o (D.p (P.tup vs6)), Sl.o (D.p (P.int p)), Sl.o (D.p (P.int q)), Sl.o (D.p (P.int r)), Sl.o (D.l ((ls6 p q r).map pL)), Sl.k (D.p (P.tup (os.map P.int))), Sl.o (D.l (pN ps)), x8] ∧ FS x8 ∧ FOk a ∧ ps.map (hat h) = os.take k ∧ ∀ x ∈ ps, hat h x ≠ -1 ∧ x < 60)
    ⟨a, b, [], _, rfl, .e, ha, rfl, by simp⟩ ?_ ?_
  · rintro k d e hk ⟨a, b, ps, x8, rfl, f8, ha, hps, hpx⟩
    obtain ⟨x, hx, rfl⟩ := mapD_get hk
    rw [List.getElem?_map] at hx
    cases hy : os[k]? with
    | none => rw [hy] at hx; cases hx
    | some o =>
      rw [hy] at hx
      cases hx
      have hpl : ps.length ≤ 4 := by
        have := congrArg List.length hps
        rw [List.length_map, List.length_take] at this
        omega
      have fin : ∀ (x : Nat) (a b : Int), FOk a → hat h x = o → x < 60 → (pN ps).length < sizeLine ∧ ∃ (a2 b2 : Int) (ps2 : List Nat) (y8 : Sl), [Sl.b (D.l [P.int a, P.int b]), Sl.o (D.p (P.tup vs6)), Sl.o (D.p (P.int p)), Sl.o (D.p (P.int q)), Sl.o (D.p (P.int r)), Sl.o (D.l ((ls6 p q r).map pL)), Sl.k (D.p (P.tup (os.map P.int))), Sl.o (D.l (pN ps ++ [P.int x])), Sl.o (D.p (P.int o))] =
          [Sl.b (D.l [P.int a2, P.int b2]), Sl.o (D.p (P.tup vs6)), Sl.o (D.p (P.int p)), Sl.o (D.p (P.int q)), Sl.o (D.p (P.int r)), Sl.o (D.l ((ls6 p q r).map pL)), Sl.k (D.p (P.tup (os.map P.int))), Sl.o (D.l (pN ps2)), y8] ∧ FS y8 ∧ FOk a2 ∧ ps2.map (hat h) = os.take (k + 1) ∧ ∀ x ∈ ps2, hat h x ≠ -1 ∧ x < 60 := fun x a b ha hx h60 => by
        refine ⟨by simp only [List.length_map]; exact sl1 (by omega), a, b, ps ++ [x], _, by simp only [pN, List.map_append]; rfl, .p _, ha, ?_, fun y hy' => ?_⟩
        · rw [List.map_append, hps, List.take_succ, hy, ← hx]; rfl
        · rcases List.mem_append.mp hy' with z | z
          · exact hpx y z
          · simp at z; subst z
            refine ⟨?_, h60⟩
            rw [hx]
            rcases o3 o (List.mem_of_getElem? hy) with e | e <;> rw [e] <;> decide
      walk_at "w"
      try simp only [S0, S1, S2, S3, S4, S5, S6, true_and]
      refine set_call ha (by omega) fun v a b hv ha => ?_
      obtain ⟨x, x1, x2, x3⟩ : ∃ x : Nat, atI [P.int p, P.int q] (v : Int) = some (.int x) ∧ hat h x = 2 ∧ x < 60 := by
        have : v = 0 ∨ v = 1 := by omega
        rcases this with rfl | rfl
        · exact ⟨p, A0, hp2, hp⟩
        · exact ⟨q, A1, hq2, hq⟩
      walk_at "w"
      rw [x1]
      walk_at "w"
      try simp only [S0, S1, S2, S3, S4, S5, S6, true_and]
      rcases o3 o (List.mem_of_getElem? hy) with e | e
      · subst e
        rw [show (if decide ((5 : Int) = 2) = true then (1 : Int) else 0) = 0 from rfl]
        walk_at "w"
        exact fin r a b ha hr5 hr
      · subst e
        rw [show (if decide ((2 : Int) = 2) = true then (1 : Int) else 0) = 1 from rfl]
        walk_at "w"
        exact fin x a b ha x2 x3
  · rintro e ⟨a, b, ps, x8, rfl, f8, ha, hps, hpx⟩
    rw [show ((os.map P.int).map D.p).length = os.length by simp only [List.length_map], List.take_length] at hps
    walk_at "w"
    try simp only [S0, S1, S2, S3, S4, S5, S6, true_and]
    have hpl : ps.length ≤ 4 := by
      have := congrArg List.length hps
      rw [List.length_map] at this
      omega
    rw [← hps]
    refine hQ _ _ ⟨vs6, nd6, _, ls6 p q r, ps, h, [p, q, r], a, b, rfl, rfl, ha, vals6, ⟨hrun, by decide, ?_, by show 3 ≤ 59; decide, hpx, by show 10 ≤ 2000; decide, by omega⟩⟩
    intro l hl
    simp only [ls6, List.mem_cons, List.not_mem_nil, or_false] at hl
    rcases hl with rfl | rfl | rfl | rfl | rfl | rfl | rfl | rfl | rfl | rfl <;> simp
theorem ok__law_hand {P : Program} {w : World} {K : PySem.W.Frag} {mg : Str → Option Value} {base : Heap} {f : Addr} {fd : FuncData} (F : Fun K "_law_hand" "_law_hand" s__law_hand f fd) (B : Blt mg) (C__law_pool : Cd P w K mg base "_law_pool" 2 ["font", "many"] (some 0) 2 ds__law_pool) (C__law_set : Cd P w K mg base "_law_set" 1 ["font", "many"] (some 0) 2 ds__law_set) : FnOk P w K mg base CX0 3 f fd ["font"] (spOf K (some 0) 1 ds__law_hand) :=
  fn_ok (tb := w__law_hand) F sc__law_hand rfl (fun cdv A outer s H E hr => (s_cons (s_set (i := 1) sc__law_hand.nd rfl (.inl rfl) (q_tup (q_acons (q_tup (q_acons q_str (q_acons q_str q_anil))) (q_acons (q_tup (q_acons q_str (q_acons (q_tup (q_acons q_int q_anil)) q_anil))) (q_acons (q_tup (q_acons q_str (q_acons (q_tup (q_acons q_int q_anil)) q_anil))) (q_acons (q_tup (q_acons q_str (q_acons (q_tup (q_acons q_int (q_acons q_int q_anil))) q_anil))) (q_acons (q_tup (q_acons q_str (q_acons (q_tup (q_acons q_int (q_acons q_int q_anil))) q_anil))) (q_acons (q_tup (q_acons q_str (q_acons (q_tup (q_acons q_int q_anil)) q_anil))) q_anil))))))))
    (s_cons (s_asg (q_own DsOf.mono C__law_pool (hr.mono (by decide)) (by rfl) (q_rscons (q_rn 0 (pv 0)) (q_rscons (q_rv q_int) q_rsnil)) (mpS (by decide))) (g_unl rfl (g_cons (g_var (i := 2) sc__law_hand.nd rfl (.inl rfl)) (g_cons (g_var (i := 3) sc__law_hand.nd rfl (.inl rfl)) (g_cons (g_var (i := 4) sc__law_hand.nd rfl (.inl rfl)) g_nil)))))
    (s_cons (s_set (i := 5) sc__law_hand.nd rfl (.inl rfl) (q_lst (q_acons (q_tup (q_acons q_int (q_acons (q_var 4 (pv 4)) (q_acons (q_tup q_anil) q_anil)))) (q_acons (q_tup (q_acons q_int (q_acons (q_var 2 (pv 2)) (q_acons (q_tup q_anil) q_anil)))) (q_acons (q_tup (q_acons q_int (q_acons (q_var 4 (pv 4)) (q_acons (q_tup (q_acons (q_var 4 (pv 4)) q_anil)) q_anil)))) (q_acons (q_tup (q_acons q_int (q_acons (q_var 2 (pv 2)) (q_acons (q_tup (q_acons (q_var 4 (pv 4)) q_anil)) q_anil)))) (q_acons (q_tup (q_acons q_int (q_acons (q_var 4 (pv 4)) (q_acons (q_tup (q_acons (q_var 2 (pv 2)) (q_acons (q_var 4 (pv 4)) q_anil))) q_anil)))) q_anil)))))))
    (s_cons (s_expr (q_ext (pv 5) (q_rv (q_lst (q_acons (q_tup (q_acons q_int (q_acons (q_var 4 (pv 4)) (q_acons (q_tup (q_acons (q_var 4 (pv 4)) (q_acons (q_var 4 (pv 4)) q_anil))) q_anil)))) (q_acons (q_tup (q_acons q_int (q_acons (q_var 3 (pv 3)) (q_acons (q_tup q_anil) q_anil)))) (q_acons (q_tup (q_acons q_int (q_acons (q_var 3 (pv 3)) (q_acons (q_tup (q_acons (q_var 3 (pv 3)) q_anil)) q_anil)))) (q_acons (q_tup (q_acons q_int (q_acons (q_var 4 (pv 4)) (q_acons (q_tup (q_acons (q_var 4 (pv 4)) q_anil)) q_anil)))) (q_acons (q_tup (q_acons q_int (q_acons (q_var 3 (pv 3)) (q_acons (q_tup (q_acons (q_var 3 (pv 3)) q_anil)) q_anil)))) q_anil)))))))))
    (s_cons (s_set (i := 6) sc__law_hand.nd rfl (.inl rfl) (q_ix (q_rv (q_tup (q_acons (q_tup (q_acons q_int (q_acons q_int (q_acons q_int q_anil)))) (q_acons (q_tup (q_acons q_int (q_acons q_int q_anil))) (q_acons (q_tup (q_acons q_int q_anil)) (q_acons (q_tup (q_acons q_int (q_acons q_int (q_acons q_int (q_acons q_int q_anil))))) q_anil)))))) (q_rv (q_own DsOf.mono C__law_set (hr.mono (by decide)) (by rfl) (q_rscons (q_rn 0 (pv 0)) (q_rscons (q_rv q_int) q_rsnil)) (mpS (by decide))))))
    (s_cons (s_set (i := 7) sc__law_hand.nd rfl (.inl rfl) (q_lst q_anil))
    (s_cons (s_for PassesOwn.never rfl (q_it (q_rn 6 (pv 6))) (g_var (i := 8) sc__law_hand.nd rfl (.inl rfl)) (s_one (s_expr (q_app (pv 7) (q_ix (q_rv (q_tup (q_acons (q_var 4 (pv 4)) (q_acons (q_ix (q_rv (q_tup (q_acons (q_var 2 (pv 2)) (q_acons (q_var 3 (pv 3)) q_anil)))) (q_rv (q_own DsOf.mono C__law_set (hr.mono (by decide)) (by rfl) (q_rscons (q_rn 0 (pv 0)) (q_rscons (q_rv q_int) q_rsnil)) (mpS (by decide))))) q_anil)))) (q_rv (q_call1T c_int (by rfl) B.int rfl (q_rv (q_cmp (o_eq (hu64 hr)) (q_rn 8 (pv 8)) (q_rv q_int) (by rfl))))))))))
    (s_one (s_ret (q_tup (q_acons (q_tup (q_acons (q_var 1 (pv 1)) (q_acons (q_tup (q_acons q_int (q_acons q_int (q_acons q_int (q_acons q_int (q_acons q_int (q_acons q_int q_anil))))))) (q_acons (q_var 6 (pv 6)) q_anil)))) (q_acons (q_tup (q_acons (q_call1T c_tup (by rfl) B.tuple rfl (q_rn 5 (pv 5))) (q_acons (q_call1T c_tup (by rfl) B.tuple rfl (q_rn 7 (pv 7))) q_anil))) q_anil))))))))))))) fun as Q hl h => law__law_hand as Q h

theorem font_call {ns : List Int} {Q : D → D → Prop} (hl : ns.length ≤ 63) (h : ∀ a b o, FOk a → Q (.l [.int a, .int b]) o) : ds__law_font [.s ns] Q := ⟨ns, rfl, hl, fun d o ⟨a, b, e, ha⟩ => by subst e; exact h a b o ha⟩
theorem hand_call {a b : Int} {Q : D → D → Prop} (ha : FOk a) (h : ∀ (vs : List P) (nd : List (List Int)) (wt : P) (ls : List Line) (ps : List Nat) (g : List Int) (pool : List Nat) a b, FOk a → Vals_ vs nd → CodeOk nd ls ps g pool → Q (.p (.tup [.tup [.tup vs, wt, .tup ((ps.map (hat g)).map P.int)], .tup [.tup (ls.map pL), .tup (pN ps)]])) (.l [.int a, .int b])) : ds__law_hand [.l [.int a, .int b]] Q :=
  ⟨(a, b), rfl, ha, fun d o ⟨vs, nd, wt, ls, ps, g, pool, a, b, e1, e2, g1, g2, g3⟩ => by subst e1 e2; exact h vs nd wt ls ps g pool a b g1 g2 g3⟩
theorem code_call {a b own : Int} {many size : Nat} {first pool : List Nat} {Q : D → D → Prop} (ha : FOk a) (hm : 1 ≤ many ∧ many ≤ 1000) (hs : size ≤ 1000) (hf : first.length ≤ 60 ∧ ∀ x ∈ first, x ∈ pool) (hp : 1 ≤ pool.length ∧ pool.length ≤ 59 ∧ ∀ x ∈ pool, x < 60)
    (h : ∀ (vs : List P) (nd : List (List Int)) (wt : P) (ls : List Line) (ps : List Nat) (g : List Int) a b, FOk a → Vals_ vs nd → CodeOk nd ls ps g pool → Q (.p (.tup [.tup [.tup vs, wt, .tup ((ps.map (hat g)).map P.int)], .tup [.tup (ls.map pL), .tup (pN ps)]])) (.l [.int a, .int b])) :
    ds__law_code [.l [.int a, .int b], .p (.int (many : Nat)), .p (.int (size : Nat)), .l ((first.map zl).map pL), .l (pN pool), .p (.int own)] Q :=
  ⟨(a, b, many, size, first, pool, own), rfl, ⟨ha, hm, hs, hf, hp⟩, fun d o ⟨vs, nd, wt, ls, ps, g, a, b, e1, e2, g1, g2, g3⟩ => by subst e1 e2; exact h vs nd wt ls ps g a b g1 g2 g3⟩
theorem spread_call {vs : List P} {nd : List (List Int)} {wt : P} {ls : List Line} {ps : List Nat} {g : List Int} {pool : List Nat} {Q : D → D → Prop} (hv : Vals_ vs nd) (hc : CodeOk nd ls ps g pool) (h : ∀ o, Q (.p (.bl true)) o) : ds__law_spread [.p (.tup [.tup vs, wt, .tup ((ps.map (hat g)).map P.int)]), .p (.tup [.tup (ls.map pL), .tup (pN ps)])] Q :=
  ⟨(vs, nd, wt, ps.map (hat g), ls, ps, g, pool), rfl, ⟨hv, hc, rfl⟩, fun d o e => by
    have e : d = .p (.bl true) := e
    subst e; exact h o⟩
theorem none_ok (nd : List (List Int)) (h : ∀ n ∈ nd, n.length ≤ 3 ∧ ∀ j ∈ n, 0 ≤ j) : CodeOk nd [] [] h0 [] := ⟨rfl, h, by simp, by simp, by simp, by simp, by simp⟩
abbrev s_law : Stmt := topS 18
theorem sc_law : FnScope ["script", "font", "hand", "code", "k", "pool", "one", "first", "register"] ["script"] (defScope s_law) := ⟨rfl, rfl, rfl, by decide +kernel, rfl, by decide +kernel, by decide +kernel⟩
/-- slots: script=0 font=1 hand=2 code=3 k=4 pool=5 one=6 first=7 register=8 -/
def w_law : VS := (vSeq (vSet 1 (tCallV none ds__law_font (tRsCons (tRn 0) tRsNil)))
    (vSeq (vAsg (tCallV (some 0) ds__law_hand (tRsCons (tRn 1) tRsNil)) (gTupV 2 (gConsV (gVar 2) (gConsV (gVar 3) gNilV))))
    (vSeq (vIf (tNot (tTst (tCallV none ds__law_spread (tRsCons (tRn 2) (tRsCons (tRn 3) tRsNil))))) (vRet (tC (.bl false))) vNext)
    (vSeq (vIf (tNot (tTst (tCallV none ds__law_spread (tRsCons (tRv (tTup (tACons (tBin ixF (tRn 2) (tRv (tC (.int 0)))) (tACons (tBin ixF (tRn 2) (tRv (tC (.int 1)))) (tACons (tTup tANil) tANil))))) (tRsCons (tRv (tTup (tACons (tTup tANil) (tACons (tTup tANil) tANil)))) tRsNil))))) (vRet (tC (.bl false))) vNext)
    (vSeq (vFor (tRg1 (tC (.int 5))) (gVar 4) (vSeq (vSet 5 (tCallV (some 0) ds__law_pool (tRsCons (tRn 1) (tRsCons (tRv (tBin addF (tRv (tC (.int 1))) (tRv (tCallV (some 0) ds__law_set (tRsCons (tRn 1) (tRsCons (tRv (tC (.int 6))) tRsNil)))))) tRsNil))))
    (vSeq (vAsg (tCallV (some 0) ds__law_code (tRsCons (tRn 1) (tRsCons (tRv (tBin addF (tRv (tC (.int 1))) (tRv (tCallV (some 0) ds__law_set (tRsCons (tRn 1) (tRsCons (tRv (tC (.int 9))) tRsNil)))))) (tRsCons (tRv (tBin addF (tRv (tC (.int 1))) (tRv (tCallV (some 0) ds__law_set (tRsCons (tRn 1) (tRsCons (tRv (tC (.int 16))) tRsNil)))))) (tRsCons (tRv (tLst tANil)) (tRsCons (tRn 5) (tRsCons (tRv (tBin mulF (tRv (tC (.int 2))) (tRn 4))) tRsNil))))))) (gTupV 2 (gConsV (gVar 6) (gConsV (gVar 3) gNilV))))
    (vIf (tNot (tTst (tCallV none ds__law_spread (tRsCons (tRn 6) (tRsCons (tRn 3) tRsNil))))) (vRet (tC (.bl false))) vNext))))
    (vSeq (vIf (tTst (tBin eqF (tRv (tCallV (some 0) ds__law_set (tRsCons (tRn 1) (tRsCons (tRv (tC (.int 7))) tRsNil)))) (tRv (tC (.int 4))))) (vSeq (vSet 5 (tCallV (some 0) ds__law_pool (tRsCons (tRn 1) (tRsCons (tRv (tC (.int 59))) tRsNil))))
    (vSeq (vSet 7 (tComp [8] (tIt (tRn 5)) (gVar 8) tY (tTup (tACons (tC (.int 0)) (tACons (tVar 8) (tACons (tTup tANil) tANil))))))
    (vSeq (vAsg (tCallV (some 0) ds__law_code (tRsCons (tRn 1) (tRsCons (tRv (tBin addF (tRv (tC (.int 20))) (tRv (tCallV (some 0) ds__law_set (tRsCons (tRn 1) (tRsCons (tRv (tC (.int 21))) tRsNil)))))) (tRsCons (tRv (tC (.int 60))) (tRsCons (tRn 7) (tRsCons (tRn 5) (tRsCons (tRv (tC (.int 4))) tRsNil))))))) (gTupV 2 (gConsV (gVar 6) (gConsV (gVar 3) gNilV))))
    (vIf (tNot (tTst (tCallV none ds__law_spread (tRsCons (tRn 6) (tRsCons (tRn 3) tRsNil))))) (vRet (tC (.bl false))) vNext)))) vNext)
    (vSeq (vIf (tTst (tBin eqF (tRv (tCallV (some 0) ds__law_set (tRsCons (tRn 1) (tRsCons (tRv (tC (.int 13))) tRsNil)))) (tRv (tC (.int 7))))) (vSeq (vSet 5 (tCallV (some 0) ds__law_pool (tRsCons (tRn 1) (tRsCons (tRv (tBin addF (tRv (tC (.int 2))) (tRv (tCallV (some 0) ds__law_set (tRsCons (tRn 1) (tRsCons (tRv (tC (.int 9))) tRsNil)))))) tRsNil))))
    (vSeq (vAsg (tCallV (some 0) ds__law_code (tRsCons (tRn 1) (tRsCons (tRv (tC (.int 12))) (tRsCons (tRv (tBin addF (tRv (tC (.int 200))) (tRv (tBin mulF (tRv (tC (.int 400))) (tRv (tCallV (some 0) ds__law_set (tRsCons (tRn 1) (tRsCons (tRv (tC (.int 3))) tRsNil)))))))) (tRsCons (tRv (tLst tANil)) (tRsCons (tRn 5) (tRsCons (tRv (tC (.int 5))) tRsNil))))))) (gTupV 2 (gConsV (gVar 6) (gConsV (gVar 3) gNilV))))
    (vIf (tNot (tTst (tCallV none ds__law_spread (tRsCons (tRn 6) (tRsCons (tRn 3) tRsNil))))) (vRet (tC (.bl false))) vNext))) vNext)
    (vRet (tC (.bl true))))))))))

def ds_law : DS := dsLaw
theorem law_law (as : List D) (Q : D → D → Prop) (h : ds_law as Q) : w_law ⟨fun e => Q (.p .non) (outM none e), fun d e => Q d (outM none e), fun _ => False, fun _ => False⟩ (argS none as ++ List.replicate 8 .e) := by
  obtain ⟨ns, rfl, hl, hQ⟩ := h
  unfold w_law
  walk_at "w"
  refine font_call hl fun a b o ha => ?_
  try walk_at "w"
  refine hand_call ha fun vs nd wt ls ps g pool a b ha hv hc => ?_
  try walk_at "w"
  refine spread_call hv hc fun o => ?_
  try walk_at "w"
  try simp only [S0, S1, S2, S3, S4, S5, S6, true_and]
  have hnn := hc.nn
  refine spread_call (ps := []) (ls := []) (g := h0) (pool := []) hv (none_ok nd hnn) fun o => ?_
  try walk_at "w"
  refine ⟨⟨by omega, by omega⟩, ?_⟩
  refine for_i (fun k e => ∃ (a b : Int) (x2 x3 x4 x5 x6 : Sl), e = [Sl.r 0 (D.s ns), Sl.o (D.l [P.int a, P.int b]), x2, x3, x4, x5, x6, Sl.e, Sl.e] ∧ FOk a ∧ FS x2 ∧ FS x3 ∧ FS x4 ∧ FL x5 ∧ FS x6) ⟨a, b, _, _, _, _, _, rfl, ha, .p _, .p _, .e, .e, .e⟩ ?_ ?_
  · rintro k d e hk ⟨a, b, x2, x3, x4, x5, x6, rfl, ha, f2, f3, f4, f5, f6⟩
    obtain ⟨rfl, hk1, hk2⟩ := rgD_get hk
    try walk_at "w"
    refine set_call ha (by omega) fun v1 a b h1 ha => ?_
    try walk_at "w"
    rw [show (1 + (v1 : Int)) = ((1 + v1 : Nat) : Int) by omega]
    refine pool_call ha (by omega) (by omega) fun ms a b ha hml hnd h60 => ?_
    try walk_at "w"
    refine set_call ha (by omega) fun v2 a b h2 ha => ?_
    try walk_at "w"
    refine set_call ha (by omega) fun v3 a b h3 ha => ?_
    try walk_at "w"
    try simp only [S0, S1, S2, S3, S4, S5, S6, true_and]
    refine ⟨mulok_l (by decide), rfl, ?_⟩
    rw [show (1 + (v2 : Int)) = ((1 + v2 : Nat) : Int) by omega, show (1 + (v3 : Int)) = ((1 + v3 : Nat) : Int) by omega]
    refine code_call (first := []) ha ⟨by omega, by omega⟩ (by omega) ⟨by decide, by simp⟩ ⟨by omega, by omega, h60⟩ fun vs nd wt ls ps g a b ha hv hc => ?_
    try walk_at "w"
    refine spread_call hv hc fun o => ?_
    try walk_at "w"
    exact ⟨a, b, _, _, _, _, _, rfl, ha, f2, .p _, .p _, .o _, .p _⟩
  · rintro e ⟨a, b, x2, x3, x4, x5, x6, rfl, ha, f2, f3, f4, f5, f6⟩
    try walk_at "w"
    refine set_call ha (by omega) fun v1 a b h1 ha => ?_
    have last : ∀ (a b : Int) (x2 x3 x4 x5 x6 x7 : Sl), FOk a → FS x3 → FL x5 → FS x6 → vSeq (vIf (tTst (tBin eqF (tRv (tCallV (some 0) ds__law_set (tRsCons (tRn 1) (tRsCons (tRv (tC (.int 13))) tRsNil)))) (tRv (tC (.int 7))))) (vSeq (vSet 5 (tCallV (some 0) ds__law_pool (tRsCons (tRn 1) (tRsCons (tRv (tBin addF (tRv (tC (.int 2))) (tRv (tCallV (some 0) ds__law_set (tRsCons (tRn 1) (tRsCons (tRv (tC (.int 9))) tRsNil)))))) tRsNil)))) (vSeq (vAsg (tCallV (some 0) ds__law_code (tRsCons (tRn 1) (tRsCons (tRv (tC (.int 12))) (tRsCons (tRv (tBin addF (tRv (tC (.int 200))) (tRv (tBin mulF (tRv (tC (.int 400))) (tRv (tCallV (some 0) ds__law_set (tRsCons (tRn 1) (tRsCons (tRv (tC (.int 3))) tRsNil)))))))) (tRsCons (tRv (tLst tANil)) (tRsCons (tRn 5) (tRsCons (tRv (tC (.int 5))) tRsNil))))))) (gTupV 2 (gConsV (gVar 6) (gConsV (gVar 3) gNilV)))) (vIf (tNot (tTst (tCallV none ds__law_spread (tRsCons (tRn 6) (tRsCons (tRn 3) tRsNil))))) (vRet (tC (.bl false))) vNext))) vNext) (vRet (tC (.bl true))) ⟨fun e => Q (.p .non) (.p .non), fun d e => Q d (.p .non), fun _ => False, fun _ => False⟩ [Sl.r 0 (D.s ns), Sl.o (D.l [P.int a, P.int b]), x2, x3, x4, x5, x6, x7, Sl.e] := fun a b x2 x3 x4 x5 x6 x7 ha f3 f5 f6 => by
      walk_at "w"
      refine set_call ha (by omega) fun v1 a b h1 ha => ?_
      try walk_at "w"
      by_cases e : (v1 : Int) = 7
      · rw [decide_eq_true e]
        try walk_at "w"
        refine set_call ha (by omega) fun v1 a b h1 ha => ?_
        try walk_at "w"
        rw [show (2 + (v1 : Int)) = ((2 + v1 : Nat) : Int) by omega]
        refine pool_call ha (by omega) (by omega) fun ms a b ha hml hnd h60 => ?_
        try walk_at "w"
        refine set_call ha (by omega) fun v2 a b h2 ha => ?_
        try walk_at "w"
        refine ⟨mulok_l (by decide), ?_⟩
        try simp only [S0, S1, S2, S3, S4, S5, S6, true_and]
        refine ⟨rfl, ?_⟩
        rw [show (200 + 400 * (v2 : Int)) = ((200 + 400 * v2 : Nat) : Int) by omega]
        refine code_call (first := []) (many := 12) ha ⟨by omega, by omega⟩ (by omega) ⟨by decide, by simp⟩ ⟨by omega, by omega, h60⟩ fun vs nd wt ls ps g a b ha hv hc => ?_
        try walk_at "w"
        refine spread_call hv hc fun o => ?_
        try walk_at "w"
        exact hQ _ _ rfl
      · rw [decide_eq_false e]
        try walk_at "w"
        exact hQ _ _ rfl
    try walk_at "w"
    by_cases e : (v1 : Int) = 4
    · rw [decide_eq_true e]
      try walk_at "w"
      refine pool_call (m := 59) ha (by omega) (by omega) fun ms a b ha hml hnd h60 => ?_
      try walk_at "w"
      refine comp_fm (fun d => match d with | .p x => some (.p (.tup [.int 0, x, .tup []])) | _ => none) (by walk_at "w" <;> rfl) (by simp only [List.length_map]; exact sl2 (by omega)) (fun c d hcd q hq => ?_) ?_
      · obtain ⟨z, hz, rfl⟩ := mapD_get hcd
        walk_at "w"
        try simp only [S0, S1, S2, S3, S4, S5, S6, true_and]
        exact hq
      have ef : ((pN ms).map D.p).filterMap (fun d => match d with | .p x => some (D.p (.tup [.int 0, x, .tup []])) | _ => none) = ((ms.map zl).map pL).map D.p := by
        clear hml hnd h60
        induction ms with
        | nil => rfl
        | cons m ms ih => simp only [pN, List.map_cons, List.filterMap_cons] at ih ⊢; rw [ih]; rfl
      rw [ef, mkL_p]
      try walk_at "w"
      refine set_call ha (by omega) fun v2 a b h2 ha => ?_
      try walk_at "w"
      refine ⟨rfl, ?_⟩
      rw [show (20 + (v2 : Int)) = ((20 + v2 : Nat) : Int) by omega]
      refine code_call (first := ms) (size := 60) ha ⟨by omega, by omega⟩ (by omega) ⟨by omega, fun _ h => h⟩ ⟨by omega, by omega, h60⟩ fun vs nd wt ls ps g a b ha hv hc => ?_
      try walk_at "w"
      refine spread_call hv hc fun o => ?_
      have := last a b x2 (.o (.p (.tup [.tup (ls.map pL), .tup (pN ps)]))) x4 (.o (.l (pN ms))) (.o (.p (.tup [.tup vs, wt, .tup ((ps.map (hat g)).map P.int)]))) (.o (.l ((ms.map zl).map pL))) ha (.p _) (.o _) (.p _)
      exact this
    · rw [decide_eq_false e]
      exact last _ _ _ _ _ _ _ _ ha f3 f5 f6
theorem ok_law {P : Program} {w : World} {K : PySem.W.Frag} {mg : Str → Option Value} {base : Heap} {f : Addr} {fd : FuncData} (F : Fun K "law" "law" s_law f fd) (B : Blt mg) (C__law_code : Cd P w K mg base "_law_code" 4 ["font", "many", "size", "first", "pool", "own"] (some 0) 6 ds__law_code) (C__law_font : Cd P w K mg base "_law_font" 1 ["script"] none 1 ds__law_font) (C__law_hand : Cd P w K mg base "_law_hand" 3 ["font"] (some 0) 1 ds__law_hand) (C__law_pool : Cd P w K mg base "_law_pool" 2 ["font", "many"] (some 0) 2 ds__law_pool) (C__law_set : Cd P w K mg base "_law_set" 1 ["font", "many"] (some 0) 2 ds__law_set) (C__law_spread : Cd P w K mg base "_law_spread" 3 ["script", "code"] none 2 ds__law_spread) : FnOk P w K mg base CX0 5 f fd ["script"] (spOf K none 1 ds_law) :=
  fn_ok (tb := w_law) F sc_law rfl (fun cdv A outer s H E hr => (s_cons (s_set (i := 1) sc_law.nd rfl (.inl rfl) (q_own DsOf.mono C__law_font (hr.mono (by decide)) (by rfl) (q_rscons (q_rn 0 (pv 0)) q_rsnil) mp0))
    (s_cons (s_asg (q_own DsOf.mono C__law_hand (hr.mono (by decide)) (by rfl) (q_rscons (q_rn 1 (pv 1)) q_rsnil) (mpS (by decide))) (g_tup rfl (g_cons (g_var (i := 2) sc_law.nd rfl (.inl rfl)) (g_cons (g_var (i := 3) sc_law.nd rfl (.inl rfl)) g_nil))))
    (s_cons (s_if (q_tnot (q_tval (q_own DsOf.mono C__law_spread (hr.mono (by decide)) (by rfl) (q_rscons (q_rn 2 (pv 2)) (q_rscons (q_rn 3 (pv 3)) q_rsnil)) mp0))) (s_one (s_ret q_bl)) s_nil)
    (s_cons (s_if (q_tnot (q_tval (q_own DsOf.mono C__law_spread (hr.mono (by decide)) (by rfl) (q_rscons (q_rv (q_tup (q_acons (q_ix (q_rn 2 (pv 2)) (q_rv q_int)) (q_acons (q_ix (q_rn 2 (pv 2)) (q_rv q_int)) (q_acons (q_tup q_anil) q_anil))))) (q_rscons (q_rv (q_tup (q_acons (q_tup q_anil) (q_acons (q_tup q_anil) q_anil)))) q_rsnil)) mp0))) (s_one (s_ret q_bl)) s_nil)
    (s_cons (s_for PassesOwn.never rfl (q_rg1 (by rfl) B.range q_int) (g_var (i := 4) sc_law.nd rfl (.inl rfl)) (s_cons (s_set (i := 5) sc_law.nd rfl (.inl rfl) (q_own DsOf.mono C__law_pool (hr.mono (by decide)) (by rfl) (q_rscons (q_rn 1 (pv 1)) (q_rscons (q_rv (q_bin o_add (q_rv q_int) (q_rv (q_own DsOf.mono C__law_set (hr.mono (by decide)) (by rfl) (q_rscons (q_rn 1 (pv 1)) (q_rscons (q_rv q_int) q_rsnil)) (mpS (by decide)))))) q_rsnil)) (mpS (by decide))))
    (s_cons (s_asg (q_own DsOf.mono C__law_code (hr.mono (by decide)) (by rfl) (q_rscons (q_rn 1 (pv 1)) (q_rscons (q_rv (q_bin o_add (q_rv q_int) (q_rv (q_own DsOf.mono C__law_set (hr.mono (by decide)) (by rfl) (q_rscons (q_rn 1 (pv 1)) (q_rscons (q_rv q_int) q_rsnil)) (mpS (by decide)))))) (q_rscons (q_rv (q_bin o_add (q_rv q_int) (q_rv (q_own DsOf.mono C__law_set (hr.mono (by decide)) (by rfl) (q_rscons (q_rn 1 (pv 1)) (q_rscons (q_rv q_int) q_rsnil)) (mpS (by decide)))))) (q_rscons (q_rv (q_lst q_anil)) (q_rscons (q_rn 5 (pv 5)) (q_rscons (q_rv (q_bin o_mul (q_rv q_int) (q_rn 4 (pv 4)))) q_rsnil)))))) (mpS (by decide))) (g_tup rfl (g_cons (g_var (i := 6) sc_law.nd rfl (.inl rfl)) (g_cons (g_var (i := 3) sc_law.nd rfl (.inl rfl)) g_nil))))
    (s_one (s_if (q_tnot (q_tval (q_own DsOf.mono C__law_spread (hr.mono (by decide)) (by rfl) (q_rscons (q_rn 6 (pv 6)) (q_rscons (q_rn 3 (pv 3)) q_rsnil)) mp0))) (s_one (s_ret q_bl)) s_nil)))))
    (s_cons (s_if (q_tcmp (o_eq (hu64 hr)) (q_rv (q_own DsOf.mono C__law_set (hr.mono (by decide)) (by rfl) (q_rscons (q_rn 1 (pv 1)) (q_rscons (q_rv q_int) q_rsnil)) (mpS (by decide)))) (q_rv q_int) (by rfl)) (s_cons (s_set (i := 5) sc_law.nd rfl (.inl rfl) (q_own DsOf.mono C__law_pool (hr.mono (by decide)) (by rfl) (q_rscons (q_rn 1 (pv 1)) (q_rscons (q_rv q_int) q_rsnil)) (mpS (by decide))))
    (s_cons (s_setLc (i := 7) (own := [("register", 8)]) rfl sc_law.nd rfl rfl (sw_true rfl rfl rfl rfl) (q_it (q_rn 5 (pv 5))) (blkOk_by (by rfl)) (by decide) (blkG fun _ _ _ _ _ => (g_var (i := 8) sc_law.nd rfl (.inl rfl))) (blkT fun _ _ _ _ _ => q_ts0) (blkE fun _ _ _ _ _ => (q_tup (q_acons q_int (q_acons (q_var 8 (pv 8)) (q_acons (q_tup q_anil) q_anil))))))
    (s_cons (s_asg (q_own DsOf.mono C__law_code (hr.mono (by decide)) (by rfl) (q_rscons (q_rn 1 (pv 1)) (q_rscons (q_rv (q_bin o_add (q_rv q_int) (q_rv (q_own DsOf.mono C__law_set (hr.mono (by decide)) (by rfl) (q_rscons (q_rn 1 (pv 1)) (q_rscons (q_rv q_int) q_rsnil)) (mpS (by decide)))))) (q_rscons (q_rv q_int) (q_rscons (q_rn 7 (pv 7)) (q_rscons (q_rn 5 (pv 5)) (q_rscons (q_rv q_int) q_rsnil)))))) (mpS (by decide))) (g_tup rfl (g_cons (g_var (i := 6) sc_law.nd rfl (.inl rfl)) (g_cons (g_var (i := 3) sc_law.nd rfl (.inl rfl)) g_nil))))
    (s_one (s_if (q_tnot (q_tval (q_own DsOf.mono C__law_spread (hr.mono (by decide)) (by rfl) (q_rscons (q_rn 6 (pv 6)) (q_rscons (q_rn 3 (pv 3)) q_rsnil)) mp0))) (s_one (s_ret q_bl)) s_nil))))) s_nil)
    (s_cons (s_if (q_tcmp (o_eq (hu64 hr)) (q_rv (q_own DsOf.mono C__law_set (hr.mono (by decide)) (by rfl) (q_rscons (q_rn 1 (pv 1)) (q_rscons (q_rv q_int) q_rsnil)) (mpS (by decide)))) (q_rv q_int) (by rfl)) (s_cons (s_set (i := 5) sc_law.nd rfl (.inl rfl) (q_own DsOf.mono C__law_pool (hr.mono (by decide)) (by rfl) (q_rscons (q_rn 1 (pv 1)) (q_rscons (q_rv (q_bin o_add (q_rv q_int) (q_rv (q_own DsOf.mono C__law_set (hr.mono (by decide)) (by rfl) (q_rscons (q_rn 1 (pv 1)) (q_rscons (q_rv q_int) q_rsnil)) (mpS (by decide)))))) q_rsnil)) (mpS (by decide))))
    (s_cons (s_asg (q_own DsOf.mono C__law_code (hr.mono (by decide)) (by rfl) (q_rscons (q_rn 1 (pv 1)) (q_rscons (q_rv q_int) (q_rscons (q_rv (q_bin o_add (q_rv q_int) (q_rv (q_bin o_mul (q_rv q_int) (q_rv (q_own DsOf.mono C__law_set (hr.mono (by decide)) (by rfl) (q_rscons (q_rn 1 (pv 1)) (q_rscons (q_rv q_int) q_rsnil)) (mpS (by decide)))))))) (q_rscons (q_rv (q_lst q_anil)) (q_rscons (q_rn 5 (pv 5)) (q_rscons (q_rv q_int) q_rsnil)))))) (mpS (by decide))) (g_tup rfl (g_cons (g_var (i := 6) sc_law.nd rfl (.inl rfl)) (g_cons (g_var (i := 3) sc_law.nd rfl (.inl rfl)) g_nil))))
    (s_one (s_if (q_tnot (q_tval (q_own DsOf.mono C__law_spread (hr.mono (by decide)) (by rfl) (q_rscons (q_rn 6 (pv 6)) (q_rscons (q_rn 3 (pv 3)) q_rsnil)) mp0))) (s_one (s_ret q_bl)) s_nil)))) s_nil)
    (s_one (s_ret q_bl)))))))))) fun as Q hl h => law_law as Q h

/-! ### what the top has written; the end -/
theorem all_mk {l : PySem.W.OpenLaw} {w : World} {K : PySem.W.Frag} {h : Heap} {mg : Str → Option Value} {fa f1 f2 f3 f4 f5 f6 f7 f8 f9 f10 f11 f12 f13 f14 f15 f16 : Addr} (X : K.In h) (G : h.Ns mainGlobals mg) (hfa : mg "law" = some (.ref fa))
    {od1 an1 od2 an2 od3 an3 od4 an4 od5 an5 od6 an6 od7 an7 od8 an8 od9 an9 od10 an10 od11 an11 od12 an12 od13 an13 od14 an14 od15 an15 od16 an16 : Option Addr} {sl1 sl2 sl3 sl4 sl5 sl6 sl7 sl8 sl9 sl10 sl11 sl12 sl13 sl14 sl15 sl16 : Array (Option Value)} {oc1 kV1 dc1 pm1 cd1 ct1 oc2 kV2 dc2 pm2 cd2 ct2 oc3 kV3 dc3 pm3 cd3 ct3 oc4 kV4 dc4 pm4 cd4 ct4 oc5 kV5 dc5 pm5 cd5 ct5 oc6 kV6 dc6 pm6 cd6 ct6 oc7 kV7 dc7 pm7 cd7 ct7 oc8 kV8 dc8 pm8 cd8 ct8 oc9 kV9 dc9 pm9 cd9 ct9 oc10 kV10 dc10 pm10 cd10 ct10 oc11 kV11 dc11 pm11 cd11 ct11 oc12 kV12 dc12 pm12 cd12 ct12 oc13 kV13 dc13 pm13 cd13 ct13 oc14 kV14 dc14 pm14 cd14 ct14 oc15 kV15 dc15 pm15 cd15 ct15 oc16 kV16 dc16 pm16 cd16 ct16 : Value}
    (a1 : PySem.W.nsIn K mainGlobals "_law_font" = some (some (.ref f1))) (l1 : K.lookup f1 = some ⟨oc1, od1, .func (PySem.W.fnOf "_law_font" "_law_font" (defArgs s__law_font) (defBody s__law_font) (defScope s__law_font) .none kV1 dc1 pm1 an1 cd1 ct1), sl1⟩) (c1 : PySem.W.codeIn K cd1 "_law_font" = true) (k1 : PySem.W.keepIn K (.ref f1) = true)
    (a2 : PySem.W.nsIn K mainGlobals "_law_set" = some (some (.ref f2))) (l2 : K.lookup f2 = some ⟨oc2, od2, .func (PySem.W.fnOf "_law_set" "_law_set" (defArgs s__law_set) (defBody s__law_set) (defScope s__law_set) .none kV2 dc2 pm2 an2 cd2 ct2), sl2⟩) (c2 : PySem.W.codeIn K cd2 "_law_set" = true) (k2 : PySem.W.keepIn K (.ref f2) = true)
    (a3 : PySem.W.nsIn K mainGlobals "_law_pool" = some (some (.ref f3))) (l3 : K.lookup f3 = some ⟨oc3, od3, .func (PySem.W.fnOf "_law_pool" "_law_pool" (defArgs s__law_pool) (defBody s__law_pool) (defScope s__law_pool) .none kV3 dc3 pm3 an3 cd3 ct3), sl3⟩) (c3 : PySem.W.codeIn K cd3 "_law_pool" = true) (k3 : PySem.W.keepIn K (.ref f3) = true)
    (a4 : PySem.W.nsIn K mainGlobals "_law_need" = some (some (.ref f4))) (l4 : K.lookup f4 = some ⟨oc4, od4, .func (PySem.W.fnOf "_law_need" "_law_need" (defArgs s__law_need) (defBody s__law_need) (defScope s__law_need) .none kV4 dc4 pm4 an4 cd4 ct4), sl4⟩) (c4 : PySem.W.codeIn K cd4 "_law_need" = true) (k4 : PySem.W.keepIn K (.ref f4) = true)
    (a5 : PySem.W.nsIn K mainGlobals "_law_values" = some (some (.ref f5))) (l5 : K.lookup f5 = some ⟨oc5, od5, .func (PySem.W.fnOf "_law_values" "_law_values" (defArgs s__law_values) (defBody s__law_values) (defScope s__law_values) .none kV5 dc5 pm5 an5 cd5 ct5), sl5⟩) (c5 : PySem.W.codeIn K cd5 "_law_values" = true) (k5 : PySem.W.keepIn K (.ref f5) = true)
    (a6 : PySem.W.nsIn K mainGlobals "_law_next" = some (some (.ref f6))) (l6 : K.lookup f6 = some ⟨oc6, od6, .func (PySem.W.fnOf "_law_next" "_law_next" (defArgs s__law_next) (defBody s__law_next) (defScope s__law_next) .none kV6 dc6 pm6 an6 cd6 ct6), sl6⟩) (c6 : PySem.W.codeIn K cd6 "_law_next" = true) (k6 : PySem.W.keepIn K (.ref f6) = true)
    (a7 : PySem.W.nsIn K mainGlobals "_law_drawn" = some (some (.ref f7))) (l7 : K.lookup f7 = some ⟨oc7, od7, .func (PySem.W.fnOf "_law_drawn" "_law_drawn" (defArgs s__law_drawn) (defBody s__law_drawn) (defScope s__law_drawn) .none kV7 dc7 pm7 an7 cd7 ct7), sl7⟩) (c7 : PySem.W.codeIn K cd7 "_law_drawn" = true) (k7 : PySem.W.keepIn K (.ref f7) = true)
    (a8 : PySem.W.nsIn K mainGlobals "registers_of" = some (some (.ref f8))) (l8 : K.lookup f8 = some ⟨oc8, od8, .func (PySem.W.fnOf "registers_of" "registers_of" (defArgs s_registers_of) (defBody s_registers_of) (defScope s_registers_of) .none kV8 dc8 pm8 an8 cd8 ct8), sl8⟩) (c8 : PySem.W.codeIn K cd8 "registers_of" = true) (k8 : PySem.W.keepIn K (.ref f8) = true)
    (a9 : PySem.W.nsIn K mainGlobals "spread_code" = some (some (.ref f9))) (l9 : K.lookup f9 = some ⟨oc9, od9, .func (PySem.W.fnOf "spread_code" "spread_code" (defArgs s_spread_code) (defBody s_spread_code) (defScope s_spread_code) .none kV9 dc9 pm9 an9 cd9 ct9), sl9⟩) (c9 : PySem.W.codeIn K cd9 "spread_code" = true) (k9 : PySem.W.keepIn K (.ref f9) = true)
    (a10 : PySem.W.nsIn K mainGlobals "_law_index" = some (some (.ref f10))) (l10 : K.lookup f10 = some ⟨oc10, od10, .func (PySem.W.fnOf "_law_index" "_law_index" (defArgs s__law_index) (defBody s__law_index) (defScope s__law_index) .none kV10 dc10 pm10 an10 cd10 ct10), sl10⟩) (c10 : PySem.W.codeIn K cd10 "_law_index" = true) (k10 : PySem.W.keepIn K (.ref f10) = true)
    (a11 : PySem.W.nsIn K mainGlobals "_law_line" = some (some (.ref f11))) (l11 : K.lookup f11 = some ⟨oc11, od11, .func (PySem.W.fnOf "_law_line" "_law_line" (defArgs s__law_line) (defBody s__law_line) (defScope s__law_line) .none kV11 dc11 pm11 an11 cd11 ct11), sl11⟩) (c11 : PySem.W.codeIn K cd11 "_law_line" = true) (k11 : PySem.W.keepIn K (.ref f11) = true)
    (a12 : PySem.W.nsIn K mainGlobals "_law_many" = some (some (.ref f12))) (l12 : K.lookup f12 = some ⟨oc12, od12, .func (PySem.W.fnOf "_law_many" "_law_many" (defArgs s__law_many) (defBody s__law_many) (defScope s__law_many) .none kV12 dc12 pm12 an12 cd12 ct12), sl12⟩) (c12 : PySem.W.codeIn K cd12 "_law_many" = true) (k12 : PySem.W.keepIn K (.ref f12) = true)
    (a13 : PySem.W.nsIn K mainGlobals "_law_spread" = some (some (.ref f13))) (l13 : K.lookup f13 = some ⟨oc13, od13, .func (PySem.W.fnOf "_law_spread" "_law_spread" (defArgs s__law_spread) (defBody s__law_spread) (defScope s__law_spread) .none kV13 dc13 pm13 an13 cd13 ct13), sl13⟩) (c13 : PySem.W.codeIn K cd13 "_law_spread" = true) (k13 : PySem.W.keepIn K (.ref f13) = true)
    (a14 : PySem.W.nsIn K mainGlobals "_law_code" = some (some (.ref f14))) (l14 : K.lookup f14 = some ⟨oc14, od14, .func (PySem.W.fnOf "_law_code" "_law_code" (defArgs s__law_code) (defBody s__law_code) (defScope s__law_code) .none kV14 dc14 pm14 an14 cd14 ct14), sl14⟩) (c14 : PySem.W.codeIn K cd14 "_law_code" = true) (k14 : PySem.W.keepIn K (.ref f14) = true)
    (a15 : PySem.W.nsIn K mainGlobals "_law_hand" = some (some (.ref f15))) (l15 : K.lookup f15 = some ⟨oc15, od15, .func (PySem.W.fnOf "_law_hand" "_law_hand" (defArgs s__law_hand) (defBody s__law_hand) (defScope s__law_hand) .none kV15 dc15 pm15 an15 cd15 ct15), sl15⟩) (c15 : PySem.W.codeIn K cd15 "_law_hand" = true) (k15 : PySem.W.keepIn K (.ref f15) = true)
    (a16 : PySem.W.nsIn K mainGlobals "law" = some (some (.ref f16))) (l16 : K.lookup f16 = some ⟨oc16, od16, .func (PySem.W.fnOf "law" "law" (defArgs s_law) (defBody s_law) (defScope s_law) .none kV16 dc16 pm16 an16 cd16 ct16), sl16⟩) (c16 : PySem.W.codeIn K cd16 "law" = true) (k16 : PySem.W.keepIn K (.ref f16) = true)
    (z_len : PySem.W.nsIn K mainGlobals "len" = some none) (z_int : PySem.W.nsIn K mainGlobals "int" = some none) (z_str : PySem.W.nsIn K mainGlobals "str" = some none) (z_max : PySem.W.nsIn K mainGlobals "max" = some none) (z_min : PySem.W.nsIn K mainGlobals "min" = some none) (z_abs : PySem.W.nsIn K mainGlobals "abs" = some none) (z_sum : PySem.W.nsIn K mainGlobals "sum" = some none) (z_tuple : PySem.W.nsIn K mainGlobals "tuple" = some none) (z_list : PySem.W.nsIn K mainGlobals "list" = some none) (z_dict : PySem.W.nsIn K mainGlobals "dict" = some none) (z_set : PySem.W.nsIn K mainGlobals "set" = some none) (z_range : PySem.W.nsIn K mainGlobals "range" = some none) (z_sorted : PySem.W.nsIn K mainGlobals "sorted" = some none) (z_isinstance : PySem.W.nsIn K mainGlobals "isinstance" = some none) (z_enumerate : PySem.W.nsIn K mainGlobals "enumerate" = some none) (z_zip : PySem.W.nsIn K mainGlobals "zip" = some none) (z_bool : PySem.W.nsIn K mainGlobals "bool" = some none) :
    ∃ fd : FuncData, (∀ (s : Shared) (v : Value), BindsTo s fd ⟨[v], []⟩ [("script", v)]) ∧ ∀ base : Heap, K.In base → base.Ns mainGlobals mg → FnOk l.prog w K mg base CX0 5 fa fd ["script"] (spOf K none 1 dsLaw) := by
  have e := hfa.symm.trans (PySem.W.mg_of X G a16)
  cases e
  have B : Blt mg := ⟨PySem.W.mg_none_of X G z_len, PySem.W.mg_none_of X G z_int, PySem.W.mg_none_of X G z_str, PySem.W.mg_none_of X G z_max, PySem.W.mg_none_of X G z_min, PySem.W.mg_none_of X G z_abs, PySem.W.mg_none_of X G z_sum, PySem.W.mg_none_of X G z_tuple, PySem.W.mg_none_of X G z_list, PySem.W.mg_none_of X G z_dict, PySem.W.mg_none_of X G z_set, PySem.W.mg_none_of X G z_range, PySem.W.mg_none_of X G z_sorted, PySem.W.mg_none_of X G z_isinstance, PySem.W.mg_none_of X G z_enumerate, PySem.W.mg_none_of X G z_zip, PySem.W.mg_none_of X G z_bool⟩
  refine ⟨PySem.W.fnOf "law" "law" (defArgs s_law) (defBody s_law) (defScope s_law) .none kV16 dc16 pm16 an16 cd16 ct16, fun s v => .of_eq rfl, fun base _ _ => ?_⟩
  have F1 := fun_mk (st := s__law_font) l1 c1 k1
  have C__law_font : Cd l.prog w K mg base "_law_font" 1 ["script"] none 1 ds__law_font := ⟨f1, _, ok__law_font F1 B, PySem.W.mg_of X G a1, k1, F1.binds (ps := ["script"]) fun _ _ _ _ _ _ us hl => match us, hl with | [_], _ => rfl⟩
  have F2 := fun_mk (st := s__law_set) l2 c2 k2
  have C__law_set : Cd l.prog w K mg base "_law_set" 1 ["font", "many"] (some 0) 2 ds__law_set := ⟨f2, _, ok__law_set F2 B, PySem.W.mg_of X G a2, k2, F2.binds (ps := ["font", "many"]) fun _ _ _ _ _ _ us hl => match us, hl with | [_, _], _ => rfl⟩
  have F3 := fun_mk (st := s__law_pool) l3 c3 k3
  have C__law_pool : Cd l.prog w K mg base "_law_pool" 2 ["font", "many"] (some 0) 2 ds__law_pool := ⟨f3, _, ok__law_pool F3 B C__law_set, PySem.W.mg_of X G a3, k3, F3.binds (ps := ["font", "many"]) fun _ _ _ _ _ _ us hl => match us, hl with | [_, _], _ => rfl⟩
  have F4 := fun_mk (st := s__law_need) l4 c4 k4
  have C__law_need : Cd l.prog w K mg base "_law_need" 1 ["values", "k"] none 2 ds__law_need := ⟨f4, _, ok__law_need F4 B, PySem.W.mg_of X G a4, k4, F4.binds (ps := ["values", "k"]) fun _ _ _ _ _ _ us hl => match us, hl with | [_, _], _ => rfl⟩
  have F5 := fun_mk (st := s__law_values) l5 c5 k5
  have C__law_values : Cd l.prog w K mg base "_law_values" 2 ["font", "many", "inputs"] (some 0) 3 ds__law_values := ⟨f5, _, ok__law_values F5 B C__law_set, PySem.W.mg_of X G a5, k5, F5.binds (ps := ["font", "many", "inputs"]) fun _ _ _ _ _ _ us hl => match us, hl with | [_, _, _], _ => rfl⟩
  have F6 := fun_mk (st := s__law_next) l6 c6 k6
  have C__law_next : Cd l.prog w K mg base "_law_next" 2 ["font", "values", "held", "low"] (some 0) 4 ds__law_next := ⟨f6, _, ok__law_next F6 B C__law_need C__law_set, PySem.W.mg_of X G a6, k6, F6.binds (ps := ["font", "values", "held", "low"]) fun _ _ _ _ _ _ us hl => match us, hl with | [_, _, _, _], _ => rfl⟩
  have F7 := fun_mk (st := s__law_drawn) l7 c7 k7
  have C__law_drawn : Cd l.prog w K mg base "_law_drawn" 3 ["font", "values", "pool", "many", "first", "own"] (some 0) 6 ds__law_drawn := ⟨f7, _, ok__law_drawn F7 B C__law_need C__law_next C__law_set, PySem.W.mg_of X G a7, k7, F7.binds (ps := ["font", "values", "pool", "many", "first", "own"]) fun _ _ _ _ _ _ us hl => match us, hl with | [_, _, _, _, _, _], _ => rfl⟩
  have F8 := fun_mk (st := s_registers_of) l8 c8 k8
  have C_registers_of : Cd l.prog w K mg base "registers_of" 1 ["code"] none 1 ds_registers_of := ⟨f8, _, ok_registers_of F8 B, PySem.W.mg_of X G a8, k8, F8.binds (ps := ["code"]) fun _ _ _ _ _ _ us hl => match us, hl with | [_], _ => rfl⟩
  have F9 := fun_mk (st := s_spread_code) l9 c9 k9
  have C_spread_code : Cd l.prog w K mg base "spread_code" 2 ["script", "code"] none 2 ds_spread_code := ⟨f9, _, ok_spread_code F9 B C_registers_of, PySem.W.mg_of X G a9, k9, F9.binds (ps := ["script", "code"]) fun _ _ _ _ _ _ us hl => match us, hl with | [_, _], _ => rfl⟩
  have F10 := fun_mk (st := s__law_index) l10 c10 k10
  have C__law_index : Cd l.prog w K mg base "_law_index" 1 ["told", "below"] none 2 ds__law_index := ⟨f10, _, ok__law_index F10 B, PySem.W.mg_of X G a10, k10, F10.binds (ps := ["told", "below"]) fun _ _ _ _ _ _ us hl => match us, hl with | [_, _], _ => rfl⟩
  have F11 := fun_mk (st := s__law_line) l11 c11 k11
  have C__law_line : Cd l.prog w K mg base "_law_line" 2 ["values", "held", "line", "value"] none 4 ds__law_line := ⟨f11, _, ok__law_line F11 B C__law_index C__law_need, PySem.W.mg_of X G a11, k11, F11.binds (ps := ["values", "held", "line", "value"]) fun _ _ _ _ _ _ us hl => match us, hl with | [_, _, _, _], _ => rfl⟩
  have F12 := fun_mk (st := s__law_many) l12 c12 k12
  have C__law_many : Cd l.prog w K mg base "_law_many" 1 ["lines"] none 1 ds__law_many := ⟨f12, _, ok__law_many F12 B, PySem.W.mg_of X G a12, k12, F12.binds (ps := ["lines"]) fun _ _ _ _ _ _ us hl => match us, hl with | [_], _ => rfl⟩
  have F13 := fun_mk (st := s__law_spread) l13 c13 k13
  have C__law_spread : Cd l.prog w K mg base "_law_spread" 3 ["script", "code"] none 2 ds__law_spread := ⟨f13, _, ok__law_spread F13 B C__law_index C__law_line C__law_many C_spread_code, PySem.W.mg_of X G a13, k13, F13.binds (ps := ["script", "code"]) fun _ _ _ _ _ _ us hl => match us, hl with | [_, _], _ => rfl⟩
  have F14 := fun_mk (st := s__law_code) l14 c14 k14
  have C__law_code : Cd l.prog w K mg base "_law_code" 4 ["font", "many", "size", "first", "pool", "own"] (some 0) 6 ds__law_code := ⟨f14, _, ok__law_code F14 B C__law_drawn C__law_set C__law_values, PySem.W.mg_of X G a14, k14, F14.binds (ps := ["font", "many", "size", "first", "pool", "own"]) fun _ _ _ _ _ _ us hl => match us, hl with | [_, _, _, _, _, _], _ => rfl⟩
  have F15 := fun_mk (st := s__law_hand) l15 c15 k15
  have C__law_hand : Cd l.prog w K mg base "_law_hand" 3 ["font"] (some 0) 1 ds__law_hand := ⟨f15, _, ok__law_hand F15 B C__law_pool C__law_set, PySem.W.mg_of X G a15, k15, F15.binds (ps := ["font"]) fun _ _ _ _ _ _ us hl => match us, hl with | [_], _ => rfl⟩
  have F16 := fun_mk (st := s_law) l16 c16 k16
  exact ok_law F16 B C__law_code C__law_font C__law_hand C__law_pool C__law_set C__law_spread
end VL
open PySem PySem.W PyProof.Rows
set_option maxHeartbeats 0 in
theorem PySem.Challenge.cw_whateverdrops_k72_whole_spread_code_holds : PySem.Challenge.rw_whateverdrops_k72_whole_spread_code.Holds := by
  w_on; o_law; k_head; (case hw => w_witness2)
  k_fill
  refine L2.walk_of (l := PySem.Challenge.rw_whateverdrops_k72_whole_spread_code) (n := 63) (k := 5) (x := "script") (CX := fun _ => L2.CX0) (sp := fun w => VL.spOf _ none 1 VL.dsLaw) rfl (by decide) rfl ⟨rfl, by decide, by decide⟩ (fun w h Y => PySem.W.kIn_of Y) ?F (fun _ _ a ns hl _ hS => VL.law_start hl hS) (fun _ _ _ _ _ h => h)
  case F =>
    intro w mg fa h KX G hmg
    refine' VL.all_mk KX G hmg ?a1 ?l1 ?c1 ?k1 ?a2 ?l2 ?c2 ?k2 ?a3 ?l3 ?c3 ?k3 ?a4 ?l4 ?c4 ?k4 ?a5 ?l5 ?c5 ?k5 ?a6 ?l6 ?c6 ?k6 ?a7 ?l7 ?c7 ?k7 ?a8 ?l8 ?c8 ?k8 ?a9 ?l9 ?c9 ?k9 ?a10 ?l10 ?c10 ?k10 ?a11 ?l11 ?c11 ?k11 ?a12 ?l12 ?c12 ?k12 ?a13 ?l13 ?c13 ?k13 ?a14 ?l14 ?c14 ?k14 ?a15 ?l15 ?c15 ?k15 ?a16 ?l16 ?c16 ?k16 ?z_len ?z_int ?z_str ?z_max ?z_min ?z_abs ?z_sum ?z_tuple ?z_list ?z_dict ?z_set ?z_range ?z_sorted ?z_isinstance ?z_enumerate ?z_zip ?z_bool
    (case a1 => k_is)
    (case l1 => k_is)
    (case c1 => k_is)
    (case k1 => k_is)
    (case a2 => k_is)
    (case l2 => k_is)
    (case c2 => k_is)
    (case k2 => k_is)
    (case a3 => k_is)
    (case l3 => k_is)
    (case c3 => k_is)
    (case k3 => k_is)
    (case a4 => k_is)
    (case l4 => k_is)
    (case c4 => k_is)
    (case k4 => k_is)
    (case a5 => k_is)
    (case l5 => k_is)
    (case c5 => k_is)
    (case k5 => k_is)
    (case a6 => k_is)
    (case l6 => k_is)
    (case c6 => k_is)
    (case k6 => k_is)
    (case a7 => k_is)
    (case l7 => k_is)
    (case c7 => k_is)
    (case k7 => k_is)
    (case a8 => k_is)
    (case l8 => k_is)
    (case c8 => k_is)
    (case k8 => k_is)
    (case a9 => k_is)
    (case l9 => k_is)
    (case c9 => k_is)
    (case k9 => k_is)
    (case a10 => k_is)
    (case l10 => k_is)
    (case c10 => k_is)
    (case k10 => k_is)
    (case a11 => k_is)
    (case l11 => k_is)
    (case c11 => k_is)
    (case k11 => k_is)
    (case a12 => k_is)
    (case l12 => k_is)
    (case c12 => k_is)
    (case k12 => k_is)
    (case a13 => k_is)
    (case l13 => k_is)
    (case c13 => k_is)
    (case k13 => k_is)
    (case a14 => k_is)
    (case l14 => k_is)
    (case c14 => k_is)
    (case k14 => k_is)
    (case a15 => k_is)
    (case l15 => k_is)
    (case c15 => k_is)
    (case k15 => k_is)
    (case a16 => k_is)
    (case l16 => k_is)
    (case c16 => k_is)
    (case k16 => k_is)
    (case z_len => k_is)
    (case z_int => k_is)
    (case z_str => k_is)
    (case z_max => k_is)
    (case z_min => k_is)
    (case z_abs => k_is)
    (case z_sum => k_is)
    (case z_tuple => k_is)
    (case z_list => k_is)
    (case z_dict => k_is)
    (case z_set => k_is)
    (case z_range => k_is)
    (case z_sorted => k_is)
    (case z_isinstance => k_is)
    (case z_enumerate => k_is)
    (case z_zip => k_is)
    (case z_bool => k_is)
