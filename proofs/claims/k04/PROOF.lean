import PyProof.Rows.All
import HandS.ForMost
import HandS.Wide
import HandS.WideMore
import HandS.WideBits
import HandS.IsInst
import HandS.Style
import HandS.Zip
import HandS.TupAny
import HandS.Defaults
import HandS.MakeKw
import HandS.OwnEq
import HandS.DeepEq
import HandS.Star
import PyProof.WalkInts
import PyProof.WalksMore
import PyProof.MinMaxWalk
import HandS.List
import HandS.Deep
import PyProof.FactsLen
import KE.KDictZip
import HandS.HeadEnd
import PySem.Challenge.RW_carryways_k04_whole_houses_made_of_house
section
set_option Elab.async false
set_option linter.all false
set_option maxRecDepth 100000
set_option maxHeartbeats 1000000
/-! Sx.A: data as trees with numbers (ids), what stands for them in an abstract heap, stores as substitutions. -/
namespace Sx
open PySem PySem.Spec PyProof.Rows L2

/-- data: lists, instances and dicts bear an id -/
inductive D where
  | non | bl (b : Bool) | int (i : Int) | str (x : Str)
  | lst (i : Nat) (ds : List D)
  | tup (ds : List D)
  | ins (i : Nat) (c : Nat) (ds : List D)
  | dic (i : Nat) (ks : List Key) (ds : List D)
  | scr (ns : List Int)

abbrev Wr := List (Nat × D)
def Wr.get : Wr → Nat → Option D
  | [], _ => none
  | (j, x) :: r, i => if i = j then some x else Wr.get r i

mutual
def puts (w : Wr) : D → D
  | .non => .non
  | .bl b => .bl b
  | .int i => .int i
  | .str x => .str x
  | .scr ns => .scr ns
  | .lst i ds => match Wr.get w i with
    | some x => x
    | none => .lst i (putsL w ds)
  | .tup ds => .tup (putsL w ds)
  | .ins i c ds => match Wr.get w i with
    | some x => x
    | none => .ins i c (putsL w ds)
  | .dic i ks ds => match Wr.get w i with
    | some x => x
    | none => .dic i ks (putsL w ds)
def putsL (w : Wr) : List D → List D
  | [] => []
  | d :: r => puts w d :: putsL w r
end
mutual
def D.has (j : Nat) : D → Bool
  | .non => false
  | .bl _ => false
  | .int _ => false
  | .str _ => false
  | .scr _ => false
  | .lst i ds => i == j || hasL j ds
  | .tup ds => hasL j ds
  | .ins i _ ds => i == j || hasL j ds
  | .dic i _ ds => i == j || hasL j ds
def hasL (j : Nat) : List D → Bool
  | [] => false
  | d :: r => D.has j d || hasL j r
end
mutual
def D.sz : D → Nat
  | .non => 1
  | .bl _ => 1
  | .int _ => 1
  | .str _ => 1
  | .scr _ => 1
  | .lst _ ds => 1 + szL ds
  | .tup ds => 1 + szL ds
  | .ins _ _ ds => 1 + szL ds
  | .dic _ _ ds => 1 + szL ds
def szL : List D → Nat
  | [] => 0
  | d :: r => D.sz d + szL r
end

theorem putsL_map (w : Wr) : ∀ ds : List D, putsL w ds = ds.map (puts w)
  | [] => rfl
  | d :: r => by rw [putsL, List.map_cons, putsL_map w r]
mutual
theorem puts_nil : ∀ d : D, puts [] d = d
  | .non => rfl
  | .bl _ => rfl
  | .int _ => rfl
  | .str _ => rfl
  | .scr _ => rfl
  | .lst i ds => by rw [puts]; show D.lst i (putsL [] ds) = _; rw [putsL_nil ds]
  | .tup ds => by rw [puts, putsL_nil ds]
  | .ins i c ds => by rw [puts]; show D.ins i c (putsL [] ds) = _; rw [putsL_nil ds]
  | .dic i ks ds => by rw [puts]; show D.dic i ks (putsL [] ds) = _; rw [putsL_nil ds]
theorem putsL_nil : ∀ ds : List D, putsL [] ds = ds
  | [] => rfl
  | d :: r => by rw [putsL, puts_nil d, putsL_nil r]
end

/-- one list of stores behind another -/
def comp (w1 w2 : Wr) : Wr := match w2 with
  | [] => w1
  | _ :: _ => w1.map (fun p => (p.1, puts w2 p.2)) ++ w2.filter fun p => (Wr.get w1 p.1).isNone
theorem get_append : ∀ (a b : Wr) (i : Nat), Wr.get (a ++ b) i = match Wr.get a i with
    | some x => some x
    | none => Wr.get b i
  | [], _, _ => rfl
  | (j, x) :: r, b, i => by
    show (if i = j then some x else Wr.get (r ++ b) i) = _
    rw [Wr.get]
    by_cases h : i = j
    · rw [if_pos h, if_pos h]
    · rw [if_neg h, if_neg h]; exact get_append r b i
theorem get_map (f : D → D) : ∀ (a : Wr) (i : Nat), Wr.get (a.map fun p => (p.1, f p.2)) i = (Wr.get a i).map f
  | [], _ => rfl
  | (j, x) :: r, i => by
    show (if i = j then some (f x) else Wr.get (r.map _) i) = _
    rw [Wr.get]
    by_cases h : i = j
    · rw [if_pos h, if_pos h]; rfl
    · rw [if_neg h, if_neg h]; exact get_map f r i
theorem get_filter (P : Nat → Bool) : ∀ (a : Wr) (i : Nat), Wr.get (a.filter fun p => P p.1) i = if P i = true then Wr.get a i else none
  | [], i => by simp [Wr.get]
  | (j, x) :: r, i => by
    rw [List.filter_cons]
    have ih := get_filter P r i
    by_cases hj : P j = true
    · rw [if_pos hj, Wr.get, Wr.get, ih]
      by_cases h : i = j
      · subst h; rw [if_pos rfl, if_pos rfl, if_pos hj]
      · rw [if_neg h, if_neg h]
    · rw [if_neg hj, ih, Wr.get]
      by_cases h : i = j
      · subst h; rw [if_neg hj, if_neg hj]
      · rw [if_neg h]
theorem comp_nil (w : Wr) : comp w [] = w := rfl
theorem nil_comp (w : Wr) : comp [] w = w := by
  cases w with
  | nil => rfl
  | cons p r =>
    show [] ++ (p :: r).filter (fun q => (Wr.get [] q.1).isNone) = _
    rw [List.nil_append, List.filter_eq_self.mpr]
    intro a _; rfl
theorem get_comp (w1 w2 : Wr) (i : Nat) : Wr.get (comp w1 w2) i = match Wr.get w1 i with
    | some x => some (puts w2 x)
    | none => Wr.get w2 i := by
  cases w2 with
  | nil =>
    rw [comp_nil]
    cases h : Wr.get w1 i with
    | none => rfl
    | some x => simp [puts_nil]
  | cons p r =>
    show Wr.get (w1.map (fun q => (q.1, puts (p :: r) q.2)) ++ (p :: r).filter fun q => (Wr.get w1 q.1).isNone) i = _
    rw [get_append, get_map, get_filter (fun j => (Wr.get w1 j).isNone)]
    cases h : Wr.get w1 i with
    | none => simp
    | some x => rfl
mutual
theorem puts_comp (w1 w2 : Wr) : ∀ d : D, puts (comp w1 w2) d = puts w2 (puts w1 d)
  | .non => rfl
  | .bl _ => rfl
  | .int _ => rfl
  | .str _ => rfl
  | .scr _ => rfl
  | .lst i ds => by
    rw [puts, puts, get_comp]
    cases h : Wr.get w1 i with
    | none => simp only []; rw [puts, putsL_comp w1 w2 ds]
    | some x => rfl
  | .tup ds => by rw [puts, puts, puts, putsL_comp w1 w2 ds]
  | .ins i c ds => by
    rw [puts, puts, get_comp]
    cases h : Wr.get w1 i with
    | none => simp only []; rw [puts, putsL_comp w1 w2 ds]
    | some x => rfl
  | .dic i ks ds => by
    rw [puts, puts, get_comp]
    cases h : Wr.get w1 i with
    | none => simp only []; rw [puts, putsL_comp w1 w2 ds]
    | some x => rfl
theorem putsL_comp (w1 w2 : Wr) : ∀ ds : List D, putsL (comp w1 w2) ds = putsL w2 (putsL w1 ds)
  | [] => rfl
  | d :: r => by rw [putsL, putsL, putsL, puts_comp w1 w2 d, putsL_comp w1 w2 r]
end
mutual
theorem puts_congr (w w' : Wr) : ∀ d : D, (∀ i, D.has i d = true → Wr.get w i = Wr.get w' i) → puts w d = puts w' d
  | .non, _ => rfl
  | .bl _, _ => rfl
  | .int _, _ => rfl
  | .str _, _ => rfl
  | .scr _, _ => rfl
  | .lst i ds, h => by
    rw [puts, puts, h i (by simp [D.has]), putsL_congr w w' ds fun j hj => h j (by simp [D.has, hj])]
  | .tup ds, h => by rw [puts, puts, putsL_congr w w' ds fun j hj => h j (by simp [D.has, hj])]
  | .ins i c ds, h => by
    rw [puts, puts, h i (by simp [D.has]), putsL_congr w w' ds fun j hj => h j (by simp [D.has, hj])]
  | .dic i ks ds, h => by
    rw [puts, puts, h i (by simp [D.has]), putsL_congr w w' ds fun j hj => h j (by simp [D.has, hj])]
theorem putsL_congr (w w' : Wr) : ∀ ds : List D, (∀ i, hasL i ds = true → Wr.get w i = Wr.get w' i) → putsL w ds = putsL w' ds
  | [], _ => rfl
  | d :: r, h => by
    rw [putsL, putsL, puts_congr w w' d fun j hj => h j (by simp [hasL, hj]), putsL_congr w w' r fun j hj => h j (by simp [hasL, hj])]
end

theorem comp_eq (w1 w2 : Wr) : comp w1 w2 = w1.map (fun p => (p.1, puts w2 p.2)) ++ w2.filter fun p => (Wr.get w1 p.1).isNone := by
  cases w2 with
  | nil =>
    rw [comp_nil, List.filter_nil, List.append_nil]
    induction w1 with
    | nil => rfl
    | cons p r ih => rw [List.map_cons, ← ih, puts_nil]
  | cons p r => rfl
theorem comp_assoc (w1 w2 w3 : Wr) : comp w1 (comp w2 w3) = comp (comp w1 w2) w3 := by
  have e1 : ∀ (p : Nat × D), (p.1, puts (comp w2 w3) p.2) = (p.1, puts w3 (puts w2 p.2)) := fun p => by rw [puts_comp]
  have e2 : ∀ k, (Wr.get (comp w1 w2) k).isNone = ((Wr.get w1 k).isNone && (Wr.get w2 k).isNone) := fun k => by
    rw [get_comp]
    cases Wr.get w1 k <;> simp
  rw [comp_eq w1 (comp w2 w3), comp_eq (comp w1 w2) w3, comp_eq w1 w2, comp_eq w2 w3, List.map_append, List.filter_append, List.map_map, List.filter_map, List.filter_filter, List.append_assoc]
  congr 1
  · refine List.map_congr_left fun p _ => ?_
    rw [← comp_eq w2 w3]
    exact e1 p
  · congr 1
    refine List.filter_congr fun p _ => ?_
    rw [← comp_eq w1 w2, e2]

/-! ### what stands for data -/
/-- the classes of the text, by number -/
structure Tab where
  cls : Nat → Option Addr
  flds : Nat → List Str
  inj : ∀ i j C, cls i = some C → cls j = some C → i = j
abbrev Phi := Nat → Option Addr
mutual
def Rep (T : Tab) (φ : Phi) (H : Hp) : D → V → Prop
  | .non, v => v = .non
  | .bl b, v => v = .bl b
  | .int i, v => v = .int i
  | .str x, v => v = .str x
  | .scr ns, v => ∃ a o, v = .ref a ∧ H a = some (.frz o (.lst (ns.map V.int)))
  | .lst i ds, v => ∃ a vs, v = .ref a ∧ φ i = some a ∧ H a = some (.lst vs) ∧ Reps T φ H ds vs
  | .tup ds, v => ∃ a vs, v = .ref a ∧ H a = some (.tup vs) ∧ Reps T φ H ds vs
  | .ins i c ds, v => ∃ a C dx vs, v = .ref a ∧ φ i = some a ∧ T.cls c = some C ∧ H a = some (.ins C dx ((T.flds c).zip vs)) ∧ vs.length ≤ (T.flds c).length ∧ Reps T φ H ds vs
  | .dic i ks ds, v => ∃ a vs, v = .ref a ∧ φ i = some a ∧ H a = some (.dK (ks.zip vs)) ∧ ks.length = vs.length ∧ Reps T φ H ds vs
def Reps (T : Tab) (φ : Phi) (H : Hp) : List D → List V → Prop
  | [], vs => vs = []
  | d :: ds, vs => ∃ v r, vs = v :: r ∧ Rep T φ H d v ∧ Reps T φ H ds r
end
section
variable {T : Tab} {φ φ' : Phi} {H H' : Hp}
theorem Reps.length : ∀ {ds : List D} {vs : List V}, Reps T φ H ds vs → vs.length = ds.length
  | [], _, h => by rw [Reps] at h; subst h; rfl
  | d :: ds, _, h => by
    rw [Reps] at h
    obtain ⟨v, r, rfl, _, h⟩ := h
    rw [List.length_cons, List.length_cons, Reps.length h]
theorem Reps.nil : Reps T φ H [] [] := by rw [Reps]
theorem Reps.cons {d : D} {ds : List D} {v : V} {vs : List V} (h : Rep T φ H d v) (hs : Reps T φ H ds vs) : Reps T φ H (d :: ds) (v :: vs) := by
  rw [Reps]; exact ⟨v, vs, rfl, h, hs⟩
theorem Reps.get : ∀ {ds : List D} {vs : List V} {i : Nat} {d : D}, Reps T φ H ds vs → ds[i]? = some d → ∃ v, vs[i]? = some v ∧ Rep T φ H d v
  | [], _, _, _, _, e => by simp at e
  | x :: ds, _, 0, d, h, e => by
    rw [Reps] at h
    obtain ⟨v, r, rfl, h1, _⟩ := h
    simp at e; subst e; exact ⟨v, rfl, h1⟩
  | x :: ds, _, i + 1, d, h, e => by
    rw [Reps] at h
    obtain ⟨v, r, rfl, _, h2⟩ := h
    obtain ⟨u, e1, e2⟩ := Reps.get (i := i) (d := d) h2 (by simpa using e)
    exact ⟨u, by simpa using e1, e2⟩
theorem Reps.get' {ds : List D} {vs : List V} {i : Nat} {v : V} (h : Reps T φ H ds vs) (e : vs[i]? = some v) : ∃ d, ds[i]? = some d ∧ Rep T φ H d v := by
  have hi : i < vs.length := (List.getElem?_eq_some_iff.mp e).1
  rw [h.length] at hi
  obtain ⟨u, e1, e2⟩ := h.get (List.getElem?_eq_getElem hi)
  rw [e] at e1; cases e1
  exact ⟨_, List.getElem?_eq_getElem hi, e2⟩
theorem Reps.append : ∀ {ds es : List D} {vs us : List V}, Reps T φ H ds vs → Reps T φ H es us → Reps T φ H (ds ++ es) (vs ++ us)
  | [], _, _, _, h, k => by rw [Reps] at h; subst h; exact k
  | d :: ds, _, _, _, h, k => by
    rw [Reps] at h
    obtain ⟨v, r, rfl, h1, h2⟩ := h
    exact Reps.cons h1 (Reps.append h2 k)
theorem Reps.take : ∀ {ds : List D} {vs : List V} (n : Nat), Reps T φ H ds vs → Reps T φ H (ds.take n) (vs.take n)
  | [], _, n, h => by rw [Reps] at h; subst h; simp [Reps.nil]
  | d :: ds, _, 0, h => by simp [Reps.nil]
  | d :: ds, _, n + 1, h => by
    rw [Reps] at h
    obtain ⟨v, r, rfl, h1, h2⟩ := h
    exact Reps.cons h1 (Reps.take n h2)
theorem Reps.drop : ∀ {ds : List D} {vs : List V} (n : Nat), Reps T φ H ds vs → Reps T φ H (ds.drop n) (vs.drop n)
  | [], _, n, h => by rw [Reps] at h; subst h; simp [Reps.nil]
  | d :: ds, _, 0, h => h
  | d :: ds, _, n + 1, h => by
    rw [Reps] at h
    obtain ⟨v, r, rfl, h1, h2⟩ := h
    exact Reps.drop n h2
theorem Reps.set : ∀ {ds : List D} {vs : List V} (n : Nat) {d : D} {v : V}, Reps T φ H ds vs → Rep T φ H d v → Reps T φ H (ds.set n d) (vs.set n v)
  | [], _, n, d, v, h, k => by rw [Reps] at h; subst h; simp [Reps.nil]
  | x :: ds, _, 0, d, v, h, k => by
    rw [Reps] at h
    obtain ⟨u, r, rfl, h1, h2⟩ := h
    exact Reps.cons k h2
  | x :: ds, _, n + 1, d, v, h, k => by
    rw [Reps] at h
    obtain ⟨u, r, rfl, h1, h2⟩ := h
    exact Reps.cons h1 (Reps.set n h2 k)
theorem Reps.reverse : ∀ {ds : List D} {vs : List V}, Reps T φ H ds vs → Reps T φ H ds.reverse vs.reverse
  | [], _, h => by rw [Reps] at h; subst h; simp [Reps.nil]
  | d :: ds, _, h => by
    rw [Reps] at h
    obtain ⟨v, r, rfl, h1, h2⟩ := h
    rw [List.reverse_cons, List.reverse_cons]
    exact (Reps.reverse h2).append (Reps.cons h1 Reps.nil)
theorem Reps.flat (F : D → V) (hF : ∀ d v, Rep T φ H d v → (∃ u, d = u ∧ v = F d)) : ∀ {ds : List D} {vs : List V}, Reps T φ H ds vs → vs = ds.map F
  | [], _, h => by rw [Reps] at h; subst h; rfl
  | d :: ds, _, h => by
    rw [Reps] at h
    obtain ⟨v, r, rfl, h1, h2⟩ := h
    obtain ⟨_, _, e⟩ := hF d v h1
    rw [List.map_cons, Reps.flat F hF h2, e]
theorem Reps.ints : ∀ {ns : List Int} {vs : List V}, Reps T φ H (ns.map D.int) vs → vs = ns.map V.int
  | [], _, h => by rw [List.map_nil, Reps] at h; subst h; rfl
  | d :: ds, _, h => by
    rw [List.map_cons, Reps] at h
    obtain ⟨v, r, rfl, h1, h2⟩ := h
    rw [Rep] at h1
    rw [List.map_cons, Reps.ints h2, h1]
theorem Reps.of_ints : ∀ {ns : List Int}, Reps T φ H (ns.map D.int) (ns.map V.int)
  | [] => by simp [Reps.nil]
  | n :: ns => Reps.cons (by rw [Rep]) Reps.of_ints
/-- more objects, no stores -/
def Grow (φ φ' : Phi) (H H' : Hp) : Prop := (∀ i a, φ i = some a → φ' i = some a) ∧ ∀ a o, H a = some o → H' a = some o
mutual
theorem Rep.grow (g : Grow φ φ' H H') : ∀ (d : D) (v : V), Rep T φ H d v → Rep T φ' H' d v
  | .non, _, h => h
  | .bl _, _, h => h
  | .int _, _, h => h
  | .str _, _, h => h
  | .scr ns, v, h => by
    rw [Rep] at h ⊢
    obtain ⟨a, o, e, q⟩ := h
    exact ⟨a, o, e, g.2 _ _ q⟩
  | .lst i ds, v, h => by
    rw [Rep] at h ⊢
    obtain ⟨a, vs, e, p, q, r⟩ := h
    exact ⟨a, vs, e, g.1 _ _ p, g.2 _ _ q, Reps.grow g ds vs r⟩
  | .tup ds, v, h => by
    rw [Rep] at h ⊢
    obtain ⟨a, vs, e, q, r⟩ := h
    exact ⟨a, vs, e, g.2 _ _ q, Reps.grow g ds vs r⟩
  | .ins i c ds, v, h => by
    rw [Rep] at h ⊢
    obtain ⟨a, C, dx, vs, e, p, hc, q, l, r⟩ := h
    exact ⟨a, C, dx, vs, e, g.1 _ _ p, hc, g.2 _ _ q, l, Reps.grow g ds vs r⟩
  | .dic i ks ds, v, h => by
    rw [Rep] at h ⊢
    obtain ⟨a, vs, e, p, q, l, r⟩ := h
    exact ⟨a, vs, e, g.1 _ _ p, g.2 _ _ q, l, Reps.grow g ds vs r⟩
theorem Reps.grow (g : Grow φ φ' H H') : ∀ (ds : List D) (vs : List V), Reps T φ H ds vs → Reps T φ' H' ds vs
  | [], _, h => by rw [Reps] at h ⊢; exact h
  | d :: ds, _, h => by
    rw [Reps] at h ⊢
    obtain ⟨v, r, e, h1, h2⟩ := h
    exact ⟨v, r, e, Rep.grow g d v h1, Reps.grow g ds r h2⟩
end
/-! an object at a is changed: data that does not bear its id -/
mutual
theorem Rep.keep {j : Nat} {a : Addr} (g : ∀ i a, φ i = some a → φ' i = some a) (hi : ∀ i b, φ i = some b → i ≠ j → b ≠ a) (ht : ∀ b xs, H b = some (.tup xs) → b ≠ a) (hz : ∀ b o u, H b = some (.frz o u) → b ≠ a) (hh : ∀ b o, b ≠ a → H b = some o → H' b = some o) :
    ∀ (d : D) (v : V), D.has j d = false → Rep T φ H d v → Rep T φ' H' d v
  | .non, _, _, h => h
  | .bl _, _, _, h => h
  | .int _, _, _, h => h
  | .str _, _, _, h => h
  | .scr ns, v, n, h => by
    rw [Rep] at h ⊢
    obtain ⟨b, o, e, q⟩ := h
    exact ⟨b, o, e, hh _ _ (hz b _ _ q) q⟩
  | .lst i ds, v, n, h => by
    rw [Rep] at h ⊢
    obtain ⟨b, vs, e, p, q, r⟩ := h
    simp only [D.has, Bool.or_eq_false_iff] at n
    exact ⟨b, vs, e, g _ _ p, hh _ _ (hi i b p (by simpa using n.1)) q, Reps.keep g hi ht hz hh ds vs n.2 r⟩
  | .tup ds, v, n, h => by
    rw [Rep] at h ⊢
    obtain ⟨b, vs, e, q, r⟩ := h
    simp only [D.has] at n
    exact ⟨b, vs, e, hh _ _ (ht b vs q) q, Reps.keep g hi ht hz hh ds vs n r⟩
  | .ins i c ds, v, n, h => by
    rw [Rep] at h ⊢
    obtain ⟨b, C, dx, vs, e, p, hc, q, l, r⟩ := h
    simp only [D.has, Bool.or_eq_false_iff] at n
    exact ⟨b, C, dx, vs, e, g _ _ p, hc, hh _ _ (hi i b p (by simpa using n.1)) q, l, Reps.keep g hi ht hz hh ds vs n.2 r⟩
  | .dic i ks ds, v, n, h => by
    rw [Rep] at h ⊢
    obtain ⟨b, vs, e, p, q, l, r⟩ := h
    simp only [D.has, Bool.or_eq_false_iff] at n
    exact ⟨b, vs, e, g _ _ p, hh _ _ (hi i b p (by simpa using n.1)) q, l, Reps.keep g hi ht hz hh ds vs n.2 r⟩
theorem Reps.keep {j : Nat} {a : Addr} (g : ∀ i a, φ i = some a → φ' i = some a) (hi : ∀ i b, φ i = some b → i ≠ j → b ≠ a) (ht : ∀ b xs, H b = some (.tup xs) → b ≠ a) (hz : ∀ b o u, H b = some (.frz o u) → b ≠ a) (hh : ∀ b o, b ≠ a → H b = some o → H' b = some o) :
    ∀ (ds : List D) (vs : List V), hasL j ds = false → Reps T φ H ds vs → Reps T φ' H' ds vs
  | [], _, _, h => by rw [Reps] at h ⊢; exact h
  | d :: ds, _, n, h => by
    rw [Reps] at h ⊢
    obtain ⟨v, r, e, h1, h2⟩ := h
    simp only [hasL, Bool.or_eq_false_iff] at n
    exact ⟨v, r, e, Rep.keep g hi ht hz hh d v n.1 h1, Reps.keep g hi ht hz hh ds r n.2 h2⟩
end
/-! .. data with the new content put in -/
mutual
theorem Rep.put {j : Nat} {a : Addr} {nw : D} (hj : φ j = some a) (g : ∀ i a, φ i = some a → φ' i = some a) (hi : ∀ i b, φ i = some b → i ≠ j → b ≠ a) (ht : ∀ b xs, H b = some (.tup xs) → b ≠ a) (hz : ∀ b o u, H b = some (.frz o u) → b ≠ a) (hh : ∀ b o, b ≠ a → H b = some o → H' b = some o) (hn : Rep T φ' H' nw (.ref a)) :
    ∀ (d : D) (v : V), Rep T φ H d v → Rep T φ' H' (puts [(j, nw)] d) v
  | .non, _, h => h
  | .bl _, _, h => h
  | .int _, _, h => h
  | .str _, _, h => h
  | .scr ns, v, h => by
    rw [Rep] at h
    obtain ⟨b, o, e, q⟩ := h
    show Rep T φ' H' (.scr ns) v
    rw [Rep]
    exact ⟨b, o, e, hh _ _ (hz b _ _ q) q⟩
  | .lst i ds, v, h => by
    rw [Rep] at h
    obtain ⟨b, vs, e, p, q, r⟩ := h
    rw [puts, Wr.get]
    by_cases hij : i = j
    · subst hij
      rw [hj] at p; cases p
      rw [if_pos rfl, e]; exact hn
    · rw [if_neg hij]
      show Rep T φ' H' (.lst i (putsL [(j, nw)] ds)) v
      rw [Rep]
      exact ⟨b, vs, e, g _ _ p, hh _ _ (hi i b p hij) q, Reps.put hj g hi ht hz hh hn ds vs r⟩
  | .tup ds, v, h => by
    rw [Rep] at h
    obtain ⟨b, vs, e, q, r⟩ := h
    rw [puts, Rep]
    exact ⟨b, vs, e, hh _ _ (ht b vs q) q, Reps.put hj g hi ht hz hh hn ds vs r⟩
  | .ins i c ds, v, h => by
    rw [Rep] at h
    obtain ⟨b, C, dx, vs, e, p, hc, q, l, r⟩ := h
    rw [puts, Wr.get]
    by_cases hij : i = j
    · subst hij
      rw [hj] at p; cases p
      rw [if_pos rfl, e]; exact hn
    · rw [if_neg hij]
      show Rep T φ' H' (.ins i c (putsL [(j, nw)] ds)) v
      rw [Rep]
      exact ⟨b, C, dx, vs, e, g _ _ p, hc, hh _ _ (hi i b p hij) q, l, Reps.put hj g hi ht hz hh hn ds vs r⟩
  | .dic i ks ds, v, h => by
    rw [Rep] at h
    obtain ⟨b, vs, e, p, q, l, r⟩ := h
    rw [puts, Wr.get]
    by_cases hij : i = j
    · subst hij
      rw [hj] at p; cases p
      rw [if_pos rfl, e]; exact hn
    · rw [if_neg hij]
      show Rep T φ' H' (.dic i ks (putsL [(j, nw)] ds)) v
      rw [Rep]
      exact ⟨b, vs, e, g _ _ p, hh _ _ (hi i b p hij) q, l, Reps.put hj g hi ht hz hh hn ds vs r⟩
theorem Reps.put {j : Nat} {a : Addr} {nw : D} (hj : φ j = some a) (g : ∀ i a, φ i = some a → φ' i = some a) (hi : ∀ i b, φ i = some b → i ≠ j → b ≠ a) (ht : ∀ b xs, H b = some (.tup xs) → b ≠ a) (hz : ∀ b o u, H b = some (.frz o u) → b ≠ a) (hh : ∀ b o, b ≠ a → H b = some o → H' b = some o) (hn : Rep T φ' H' nw (.ref a)) :
    ∀ (ds : List D) (vs : List V), Reps T φ H ds vs → Reps T φ' H' (putsL [(j, nw)] ds) vs
  | [], _, h => by rw [Reps] at h; rw [putsL, Reps]; exact h
  | d :: ds, _, h => by
    rw [Reps] at h
    obtain ⟨v, r, e, h1, h2⟩ := h
    rw [putsL, Reps]
    exact ⟨v, r, e, Rep.put hj g hi ht hz hh hn d v h1, Reps.put hj g hi ht hz hh hn ds r h2⟩
end
/-! the ids of data are placed -/
mutual
theorem Rep.ids : ∀ (d : D) (v : V), Rep T φ H d v → ∀ i, D.has i d = true → ∃ a, φ i = some a
  | .non, _, _, _, n => by simp [D.has] at n
  | .bl _, _, _, _, n => by simp [D.has] at n
  | .int _, _, _, _, n => by simp [D.has] at n
  | .str _, _, _, _, n => by simp [D.has] at n
  | .scr _, _, _, _, n => by simp [D.has] at n
  | .lst j ds, v, h, i, n => by
    rw [Rep] at h
    obtain ⟨b, vs, e, p, q, r⟩ := h
    simp only [D.has, Bool.or_eq_true, beq_iff_eq] at n
    rcases n with rfl | n
    · exact ⟨b, p⟩
    · exact Reps.ids ds vs r i n
  | .tup ds, v, h, i, n => by
    rw [Rep] at h
    obtain ⟨b, vs, e, q, r⟩ := h
    exact Reps.ids ds vs r i (by simpa [D.has] using n)
  | .ins j c ds, v, h, i, n => by
    rw [Rep] at h
    obtain ⟨b, C, dx, vs, e, p, hc, q, l, r⟩ := h
    simp only [D.has, Bool.or_eq_true, beq_iff_eq] at n
    rcases n with rfl | n
    · exact ⟨b, p⟩
    · exact Reps.ids ds vs r i n
  | .dic j ks ds, v, h, i, n => by
    rw [Rep] at h
    obtain ⟨b, vs, e, p, q, l, r⟩ := h
    simp only [D.has, Bool.or_eq_true, beq_iff_eq] at n
    rcases n with rfl | n
    · exact ⟨b, p⟩
    · exact Reps.ids ds vs r i n
theorem Reps.ids : ∀ (ds : List D) (vs : List V), Reps T φ H ds vs → ∀ i, hasL i ds = true → ∃ a, φ i = some a
  | [], _, _, _, n => by simp [hasL] at n
  | d :: ds, _, h, i, n => by
    rw [Reps] at h
    obtain ⟨v, r, e, h1, h2⟩ := h
    simp only [hasL, Bool.or_eq_true] at n
    rcases n with n | n
    · exact Rep.ids d v h1 i n
    · exact Reps.ids ds r h2 i n
end
theorem zip_inj {α β : Type} : ∀ {ks ks' : List α} {vs vs' : List β}, ks.length = vs.length → ks'.length = vs'.length → ks.zip vs = ks'.zip vs' → ks = ks' ∧ vs = vs'
  | [], [], [], [], _, _, _ => ⟨rfl, rfl⟩
  | [], _ :: _, [], [], _, h, _ => by simp at h
  | [], _ :: _, [], _ :: _, _, _, h => by simp at h
  | _ :: _, [], _ :: _, [], _, _, h => by simp at h
  | k :: ks, k' :: ks', v :: vs, v' :: vs', h1, h2, h => by
    rw [List.zip_cons_cons, List.zip_cons_cons] at h
    injection h with h3 h4
    injection h3 with h5 h6
    obtain ⟨e1, e2⟩ := zip_inj (by simpa using h1) (by simpa using h2) h4
    exact ⟨by rw [h5, e1], by rw [h6, e2]⟩
theorem zip_inj2 {α β : Type} : ∀ {ks : List α} {vs vs' : List β}, vs.length ≤ ks.length → vs'.length ≤ ks.length → ks.zip vs = ks.zip vs' → vs = vs'
  | [], [], [], _, _, _ => rfl
  | [], _ :: _, _, h, _, _ => by simp at h
  | [], _, _ :: _, _, h, _ => by simp at h
  | k :: ks, [], [], _, _, _ => rfl
  | k :: ks, [], _ :: _, _, _, h => by simp at h
  | k :: ks, _ :: _, [], _, _, h => by simp at h
  | k :: ks, v :: vs, v' :: vs', h1, h2, h => by
    rw [List.zip_cons_cons, List.zip_cons_cons] at h
    injection h with h3 h4
    injection h3 with h5 h6
    rw [h6, zip_inj2 (by simpa using h1) (by simpa using h2) h4]
/-! one value stands for one datum -/
mutual
theorem Rep.fn (hj : ∀ i j a, φ i = some a → φ j = some a → i = j) : ∀ (d d' : D) (v : V), Rep T φ H d v → Rep T φ H d' v → d = d'
  | .non, d', v, h, h' => by
    rw [Rep] at h; subst h
    cases d' <;> rw [Rep] at h' <;> first | rfl | (obtain ⟨_, _, _, _, e, _⟩ := h'; cases e) | (obtain ⟨_, _, e, _⟩ := h'; cases e) | cases h'
  | .bl b, d', v, h, h' => by
    rw [Rep] at h; subst h
    cases d' <;> rw [Rep] at h' <;> first | (obtain ⟨_, _, _, _, e, _⟩ := h'; cases e; done) | (obtain ⟨_, _, e, _⟩ := h'; cases e; done) | (cases h'; first | rfl | done)
  | .int b, d', v, h, h' => by
    rw [Rep] at h; subst h
    cases d' <;> rw [Rep] at h' <;> first | (obtain ⟨_, _, _, _, e, _⟩ := h'; cases e; done) | (obtain ⟨_, _, e, _⟩ := h'; cases e; done) | (cases h'; first | rfl | done)
  | .str b, d', v, h, h' => by
    rw [Rep] at h; subst h
    cases d' <;> rw [Rep] at h' <;> first | (obtain ⟨_, _, _, _, e, _⟩ := h'; cases e; done) | (obtain ⟨_, _, e, _⟩ := h'; cases e; done) | (cases h'; first | rfl | done)
  | .lst i ds, d', v, h, h' => by
    rw [Rep] at h
    obtain ⟨a, vs, rfl, p, q, r⟩ := h
    cases d' with
    | lst i' ds' =>
      rw [Rep] at h'
      obtain ⟨a', vs', e', p', q', r'⟩ := h'
      cases e'
      rw [q] at q'; cases q'
      rw [hj i i' a p p', Reps.fn hj ds ds' vs r r']
    | tup ds' => rw [Rep] at h'; obtain ⟨a', vs', e', q', _⟩ := h'; cases e'; rw [q] at q'; cases q'
    | ins i' c ds' => rw [Rep] at h'; obtain ⟨a', C, dx, vs', e', p', hc, q', _⟩ := h'; cases e'; rw [q] at q'; cases q'
    | dic i' ks ds' => rw [Rep] at h'; obtain ⟨a', vs', e', p', q', _⟩ := h'; cases e'; rw [q] at q'; cases q'
    | scr ns => rw [Rep] at h'; obtain ⟨a', o, e', q'⟩ := h'; cases e'; rw [q] at q'; cases q'
    | _ => rw [Rep] at h'; cases h'
  | .tup ds, d', v, h, h' => by
    rw [Rep] at h
    obtain ⟨a, vs, rfl, q, r⟩ := h
    cases d' with
    | tup ds' =>
      rw [Rep] at h'
      obtain ⟨a', vs', e', q', r'⟩ := h'
      cases e'
      rw [q] at q'; cases q'
      rw [Reps.fn hj ds ds' vs r r']
    | lst i' ds' => rw [Rep] at h'; obtain ⟨a', vs', e', p', q', _⟩ := h'; cases e'; rw [q] at q'; cases q'
    | ins i' c ds' => rw [Rep] at h'; obtain ⟨a', C, dx, vs', e', p', hc, q', _⟩ := h'; cases e'; rw [q] at q'; cases q'
    | dic i' ks ds' => rw [Rep] at h'; obtain ⟨a', vs', e', p', q', _⟩ := h'; cases e'; rw [q] at q'; cases q'
    | scr ns => rw [Rep] at h'; obtain ⟨a', o, e', q'⟩ := h'; cases e'; rw [q] at q'; cases q'
    | _ => rw [Rep] at h'; cases h'
  | .ins i c ds, d', v, h, h' => by
    rw [Rep] at h
    obtain ⟨a, C, dx, vs, rfl, p, hc, q, l, r⟩ := h
    cases d' with
    | ins i' c' ds' =>
      rw [Rep] at h'
      obtain ⟨a', C', dx', vs', e', p', hc', q', l', r'⟩ := h'
      cases e'
      rw [q] at q'
      injection q' with q'
      injection q' with q1 q2 q3
      subst q1
      have ec := T.inj c c' C hc hc'
      subst ec
      have e2 := zip_inj2 l l' q3
      subst e2
      rw [hj i i' a p p', Reps.fn hj ds ds' vs r r']
    | lst i' ds' => rw [Rep] at h'; obtain ⟨a', vs', e', p', q', _⟩ := h'; cases e'; rw [q] at q'; cases q'
    | tup ds' => rw [Rep] at h'; obtain ⟨a', vs', e', q', _⟩ := h'; cases e'; rw [q] at q'; cases q'
    | dic i' ks ds' => rw [Rep] at h'; obtain ⟨a', vs', e', p', q', _⟩ := h'; cases e'; rw [q] at q'; cases q'
    | scr ns => rw [Rep] at h'; obtain ⟨a', o, e', q'⟩ := h'; cases e'; rw [q] at q'; cases q'
    | _ => rw [Rep] at h'; cases h'
  | .dic i ks ds, d', v, h, h' => by
    rw [Rep] at h
    obtain ⟨a, vs, rfl, p, q, l, r⟩ := h
    cases d' with
    | dic i' ks' ds' =>
      rw [Rep] at h'
      obtain ⟨a', vs', e', p', q', l', r'⟩ := h'
      cases e'
      rw [q] at q'
      injection q' with q'
      injection q' with q3
      obtain ⟨e1, e2⟩ := zip_inj l l' q3
      subst e1; subst e2
      rw [hj i i' a p p', Reps.fn hj ds ds' vs r r']
    | lst i' ds' => rw [Rep] at h'; obtain ⟨a', vs', e', p', q', _⟩ := h'; cases e'; rw [q] at q'; cases q'
    | tup ds' => rw [Rep] at h'; obtain ⟨a', vs', e', q', _⟩ := h'; cases e'; rw [q] at q'; cases q'
    | ins i' c ds' => rw [Rep] at h'; obtain ⟨a', C, dx, vs', e', p', hc, q', _⟩ := h'; cases e'; rw [q] at q'; cases q'
    | scr ns => rw [Rep] at h'; obtain ⟨a', o, e', q'⟩ := h'; cases e'; rw [q] at q'; cases q'
    | _ => rw [Rep] at h'; cases h'
  | .scr ns, d', v, h, h' => by
    rw [Rep] at h
    obtain ⟨a, o, rfl, q⟩ := h
    cases d' with
    | scr ns' =>
      rw [Rep] at h'
      obtain ⟨a', o', e', q'⟩ := h'
      cases e'
      rw [q] at q'
      injection q' with q'
      injection q' with _ q'
      injection q' with q'
      have inj : ∀ (as bs : List Int), as.map V.int = bs.map V.int → as = bs := fun as => by
        induction as with
        | nil => intro bs e; cases bs with
          | nil => rfl
          | cons _ _ => simp at e
        | cons x r ih => intro bs e; cases bs with
          | nil => simp at e
          | cons y t => simp only [List.map_cons, List.cons.injEq, V.int.injEq] at e; rw [e.1, ih t e.2]
      rw [inj _ _ q']
    | lst i' ds' => rw [Rep] at h'; obtain ⟨a', vs', e', p', q', _⟩ := h'; cases e'; rw [q] at q'; cases q'
    | tup ds' => rw [Rep] at h'; obtain ⟨a', vs', e', q', _⟩ := h'; cases e'; rw [q] at q'; cases q'
    | ins i' c ds' => rw [Rep] at h'; obtain ⟨a', C, dx, vs', e', p', hc, q', _⟩ := h'; cases e'; rw [q] at q'; cases q'
    | dic i' ks ds' => rw [Rep] at h'; obtain ⟨a', vs', e', p', q', _⟩ := h'; cases e'; rw [q] at q'; cases q'
    | _ => rw [Rep] at h'; cases h'
theorem Reps.fn (hj : ∀ i j a, φ i = some a → φ j = some a → i = j) : ∀ (ds ds' : List D) (vs : List V), Reps T φ H ds vs → Reps T φ H ds' vs → ds = ds'
  | [], ds', vs, h, h' => by
    rw [Reps] at h; subst h
    cases ds' with
    | nil => rfl
    | cons d r => rw [Reps] at h'; obtain ⟨_, _, e, _⟩ := h'; cases e
  | d :: ds, ds', vs, h, h' => by
    rw [Reps] at h
    obtain ⟨v, r, rfl, h1, h2⟩ := h
    cases ds' with
    | nil => rw [Reps] at h'; cases h'
    | cons d' r' =>
      rw [Reps] at h'
      obtain ⟨v', r', e, h1', h2'⟩ := h'
      cases e
      rw [Rep.fn hj d d' v h1 h1', Reps.fn hj ds _ r h2 h2']
end
/-! data that bears an id: what stands at its place is a part of it -/
mutual
theorem Rep.part : ∀ (d : D) (v : V), Rep T φ H d v → ∀ i, D.has i d = true → ∃ d' a, φ i = some a ∧ Rep T φ H d' (.ref a) ∧ D.sz d' ≤ D.sz d
  | .non, _, _, _, n => by simp [D.has] at n
  | .bl _, _, _, _, n => by simp [D.has] at n
  | .int _, _, _, _, n => by simp [D.has] at n
  | .str _, _, _, _, n => by simp [D.has] at n
  | .scr _, _, _, _, n => by simp [D.has] at n
  | .lst j ds, v, h, i, n => by
    simp only [D.has, Bool.or_eq_true, beq_iff_eq] at n
    rcases n with rfl | n
    · have h0 := h
      rw [Rep] at h
      obtain ⟨b, vs, e, p, q, r⟩ := h
      subst e
      exact ⟨_, b, p, h0, Nat.le_refl _⟩
    · rw [Rep] at h
      obtain ⟨b, vs, e, p, q, r⟩ := h
      obtain ⟨d', a, h1, h2, h3⟩ := Reps.part ds vs r i n
      exact ⟨d', a, h1, h2, by rw [D.sz]; omega⟩
  | .tup ds, v, h, i, n => by
    rw [Rep] at h
    obtain ⟨b, vs, e, q, r⟩ := h
    obtain ⟨d', a, h1, h2, h3⟩ := Reps.part ds vs r i (by simpa [D.has] using n)
    exact ⟨d', a, h1, h2, by rw [D.sz]; omega⟩
  | .ins j c ds, v, h, i, n => by
    simp only [D.has, Bool.or_eq_true, beq_iff_eq] at n
    rcases n with rfl | n
    · have h0 := h
      rw [Rep] at h
      obtain ⟨b, C, dx, vs, e, p, _⟩ := h
      subst e
      exact ⟨_, b, p, h0, Nat.le_refl _⟩
    · rw [Rep] at h
      obtain ⟨b, C, dx, vs, e, p, hc, q, l, r⟩ := h
      obtain ⟨d', a, h1, h2, h3⟩ := Reps.part ds vs r i n
      exact ⟨d', a, h1, h2, by rw [D.sz]; omega⟩
  | .dic j ks ds, v, h, i, n => by
    simp only [D.has, Bool.or_eq_true, beq_iff_eq] at n
    rcases n with rfl | n
    · have h0 := h
      rw [Rep] at h
      obtain ⟨b, vs, e, p, _⟩ := h
      subst e
      exact ⟨_, b, p, h0, Nat.le_refl _⟩
    · rw [Rep] at h
      obtain ⟨b, vs, e, p, q, l, r⟩ := h
      obtain ⟨d', a, h1, h2, h3⟩ := Reps.part ds vs r i n
      exact ⟨d', a, h1, h2, by rw [D.sz]; omega⟩
theorem Reps.part : ∀ (ds : List D) (vs : List V), Reps T φ H ds vs → ∀ i, hasL i ds = true → ∃ d' a, φ i = some a ∧ Rep T φ H d' (.ref a) ∧ D.sz d' ≤ szL ds
  | [], _, _, _, n => by simp [hasL] at n
  | d :: ds, _, h, i, n => by
    rw [Reps] at h
    obtain ⟨v, r, e, h1, h2⟩ := h
    simp only [hasL, Bool.or_eq_true] at n
    rcases n with n | n
    · obtain ⟨d', a, h1, h2, h3⟩ := Rep.part d v h1 i n
      exact ⟨d', a, h1, h2, by rw [szL]; omega⟩
    · obtain ⟨d', a, h1, h2, h3⟩ := Reps.part ds r h2 i n
      exact ⟨d', a, h1, h2, by rw [szL]; omega⟩
end
theorem Rep.lst_acyc (hj : ∀ i j a, φ i = some a → φ j = some a → i = j) {i : Nat} {ds : List D} {v : V} (h : Rep T φ H (.lst i ds) v) : hasL i ds = false := by
  cases hn : hasL i ds with
  | false => rfl
  | true =>
    have h0 := h
    rw [Rep] at h
    obtain ⟨a, vs, rfl, p, q, r⟩ := h
    obtain ⟨d', a', p', r', s⟩ := Reps.part ds vs r i hn
    rw [p] at p'; cases p'
    have e := Rep.fn hj _ _ _ h0 r'
    subst e
    rw [D.sz] at s; omega
theorem Rep.ins_acyc (hj : ∀ i j a, φ i = some a → φ j = some a → i = j) {i c : Nat} {ds : List D} {v : V} (h : Rep T φ H (.ins i c ds) v) : hasL i ds = false := by
  cases hn : hasL i ds with
  | false => rfl
  | true =>
    have h0 := h
    rw [Rep] at h
    obtain ⟨a, C, dx, vs, rfl, p, hc, q, l, r⟩ := h
    obtain ⟨d', a', p', r', s⟩ := Reps.part ds vs r i hn
    rw [p] at p'; cases p'
    have e := Rep.fn hj _ _ _ h0 r'
    subst e
    rw [D.sz] at s; omega
theorem Rep.dic_acyc (hj : ∀ i j a, φ i = some a → φ j = some a → i = j) {i : Nat} {ks : List Key} {ds : List D} {v : V} (h : Rep T φ H (.dic i ks ds) v) : hasL i ds = false := by
  cases hn : hasL i ds with
  | false => rfl
  | true =>
    have h0 := h
    rw [Rep] at h
    obtain ⟨a, vs, rfl, p, q, l, r⟩ := h
    obtain ⟨d', a', p', r', s⟩ := Reps.part ds vs r i hn
    rw [p] at p'; cases p'
    have e := Rep.fn hj _ _ _ h0 r'
    subst e
    rw [D.sz] at s; omega
end

/-! ### a step: from one heap to a later one -/
structure Wf (φ : Phi) (n : Nat) (H : Hp) : Prop where
  inj : ∀ i j a, φ i = some a → φ j = some a → i = j
  lt : ∀ i a, φ i = some a → i < n
  trk : ∀ i a, φ i = some a → H a ≠ none ∧ ∀ xs, H a ≠ some (.tup xs)
structure Step (T : Tab) (φ : Phi) (n : Nat) (H : Hp) (w : Wr) (φ' : Phi) (n' : Nat) (H' : Hp) : Prop where
  le : ∀ i a, φ i = some a → φ' i = some a
  wf : Wf φ' n' H'
  nn : n ≤ n'
  car : ∀ d v, Rep T φ H d v → Rep T φ' H' (puts w d) v
  new : ∀ i a, φ' i = some a → φ i = some a ∨ H a = none
  frm : ∀ a o, (∀ i, φ i ≠ some a) → H a = some o → H' a = some o
section
variable {T : Tab} {φ φ1 φ2 : Phi} {n n1 n2 : Nat} {H H1 H2 : Hp} {w w1 w2 : Wr}
theorem Step.refl (h : Wf φ n H) : Step T φ n H [] φ n H := ⟨fun _ _ h => h, h, Nat.le_refl _, fun d v r => by rw [puts_nil]; exact r, fun _ _ h => .inl h, fun _ _ _ h => h⟩
theorem Step.none_back (a : Step T φ n H w1 φ1 n1 H1) {x : Addr} (h : H1 x = none) : H x = none := by
  cases q : H x with
  | none => rfl
  | some o =>
    by_cases hx : ∃ i, φ i = some x
    · obtain ⟨i, e⟩ := hx
      exact absurd h (a.wf.trk i x (a.le i x e)).1
    · have := a.frm x o (fun i e => hx ⟨i, e⟩) q
      rw [h] at this; cases this
theorem Step.trans (a : Step T φ n H w1 φ1 n1 H1) (b : Step T φ1 n1 H1 w2 φ2 n2 H2) : Step T φ n H (comp w1 w2) φ2 n2 H2 :=
  ⟨fun i x h => b.le _ _ (a.le _ _ h), b.wf, Nat.le_trans a.nn b.nn, fun d v r => by rw [puts_comp]; exact b.car _ _ (a.car _ _ r),
    fun i x h => (b.new i x h).elim (fun h => a.new i x h) fun h => .inr (a.none_back h),
    fun x o hx h => b.frm x o (fun i e => (a.new i x e).elim (hx i) fun e => by rw [e] at h; cases h) (a.frm x o hx h)⟩
theorem Step.carL (a : Step T φ n H w φ1 n1 H1) : ∀ {ds : List D} {vs : List V}, Reps T φ H ds vs → Reps T φ1 H1 (putsL w ds) vs
  | [], _, h => by rw [Reps] at h; subst h; exact Reps.nil
  | d :: ds, _, h => by
    rw [Reps] at h
    obtain ⟨v, r, rfl, h1, h2⟩ := h
    rw [putsL]
    exact Reps.cons (a.car _ _ h1) (a.carL h2)
theorem Step.more (a : Step T φ n H w φ1 n1 H1) (h : n1 ≤ n2) : Step T φ n H w φ1 n2 H1 :=
  ⟨a.le, ⟨a.wf.inj, fun i x e => Nat.lt_of_lt_of_le (a.wf.lt i x e) h, a.wf.trk⟩, Nat.le_trans a.nn h, a.car, a.new, a.frm⟩
/-- the new object at p has the number n -/
def phiAt (φ : Phi) (n : Nat) (p : Addr) : Phi := fun i => if i = n then some p else φ i
theorem phiAt_self {p : Addr} : phiAt φ n p n = some p := by unfold phiAt; rw [if_pos rfl]
theorem phiAt_old {p a : Addr} {i : Nat} (hw : Wf φ n H) (h : φ i = some a) : phiAt φ n p i = some a := by
  unfold phiAt; rw [if_neg (Nat.ne_of_lt (hw.lt i a h))]; exact h
theorem grow_new {p : Addr} {o : HO} (hw : Wf φ n H) (hp : H p = none) : Grow φ (phiAt φ n p) H (upd H p o) :=
  ⟨fun i a h => phiAt_old hw h, fun a u h => by rw [upd_ne (ne_of_none h hp)]; exact h⟩
theorem grow_tup {p : Addr} {o : HO} (hp : H p = none) : Grow φ φ H (upd H p o) :=
  ⟨fun i a h => h, fun a u h => by rw [upd_ne (ne_of_none h hp)]; exact h⟩
theorem Grow.step {φ' : Phi} {H' : Hp} {n' : Nat} (g : Grow φ φ' H H') (hw : Wf φ' n' H') (hn : n ≤ n') (hnew : ∀ i a, φ' i = some a → φ i = some a ∨ H a = none) : Step T φ n H [] φ' n' H' :=
  ⟨g.1, hw, hn, fun d v r => by rw [puts_nil]; exact Rep.grow g d v r, hnew, fun a o _ h => g.2 a o h⟩
theorem phi_new {p : Addr} (hp : H p = none) : ∀ i a, phiAt φ n p i = some a → φ i = some a ∨ H a = none := fun i a h => by
  unfold phiAt at h
  by_cases hi : i = n
  · rw [if_pos hi] at h; cases h; exact .inr hp
  · rw [if_neg hi] at h; exact .inl h
theorem wf_new {p : Addr} {o : HO} (hw : Wf φ n H) (hp : H p = none) (ho : ∀ xs, o ≠ .tup xs) : Wf (phiAt φ n p) (n + 1) (upd H p o) := by
  have hne : ∀ i a, φ i = some a → a ≠ p := fun i a h e => (hw.trk i a h).1 (by rw [e]; exact hp)
  refine ⟨fun i j a h1 h2 => ?_, fun i a h => ?_, fun i a h => ?_⟩
  · unfold phiAt at h1 h2
    by_cases hi : i = n
    · by_cases hjn : j = n
      · rw [hi, hjn]
      · rw [if_pos hi] at h1; rw [if_neg hjn] at h2; cases h1
        exact absurd rfl (hne j p h2)
    · by_cases hjn : j = n
      · rw [if_neg hi] at h1; rw [if_pos hjn] at h2; cases h2
        exact absurd rfl (hne i p h1)
      · rw [if_neg hi] at h1; rw [if_neg hjn] at h2; exact hw.inj i j a h1 h2
  · unfold phiAt at h
    by_cases hi : i = n
    · omega
    · rw [if_neg hi] at h; have := hw.lt i a h; omega
  · unfold phiAt at h
    by_cases hi : i = n
    · rw [if_pos hi] at h; cases h
      rw [upd_same]
      exact ⟨by simp, fun xs e => ho xs (Option.some.inj e)⟩
    · rw [if_neg hi] at h
      rw [upd_ne (hne i a h)]
      exact hw.trk i a h
theorem wf_tup {p : Addr} {o : HO} (hw : Wf φ n H) (hp : H p = none) : Wf φ n (upd H p o) :=
  ⟨hw.inj, hw.lt, fun i a h => by
    have hne : a ≠ p := fun e => (hw.trk i a h).1 (by rw [e]; exact hp)
    rw [upd_ne hne]; exact hw.trk i a h⟩
/-- a new list -/
theorem new_lst {p : Addr} {ds : List D} {vs : List V} (hw : Wf φ n H) (hp : H p = none) (r : Reps T φ H ds vs) :
    Step T φ n H [] (phiAt φ n p) (n + 1) (upd H p (.lst vs)) ∧ Rep T (phiAt φ n p) (upd H p (.lst vs)) (.lst n ds) (.ref p) := by
  have g := grow_new (o := .lst vs) hw hp
  refine ⟨g.step (wf_new hw hp fun xs e => by cases e) (Nat.le_succ _) (phi_new hp), ?_⟩
  rw [Rep]
  exact ⟨p, vs, rfl, phiAt_self, upd_same, Reps.grow g ds vs r⟩
theorem new_tup {p : Addr} {ds : List D} {vs : List V} (hw : Wf φ n H) (hp : H p = none) (r : Reps T φ H ds vs) :
    Step T φ n H [] φ n (upd H p (.tup vs)) ∧ Rep T φ (upd H p (.tup vs)) (.tup ds) (.ref p) := by
  have g := grow_tup (φ := φ) (o := .tup vs) hp
  refine ⟨g.step (wf_tup hw hp) (Nat.le_refl _) (fun _ _ h => .inl h), ?_⟩
  rw [Rep]
  exact ⟨p, vs, rfl, upd_same, Reps.grow g ds vs r⟩
/-- a list's content is changed -/
theorem write_lst {i : Nat} {a : Addr} {ds ds' : List D} {vs vs' : List V} (hw : Wf φ n H) (hi : φ i = some a) (ha : H a = some (.lst vs))
    (r : Reps T φ H ds' vs') (hn : hasL i ds' = false) : Step T φ n H [(i, .lst i ds')] φ n (upd H a (.lst vs')) ∧ Rep T φ (upd H a (.lst vs')) (.lst i ds') (.ref a) := by
  have h1 : ∀ j b, φ j = some b → j ≠ i → b ≠ a := fun j b e hne z => hne (hw.inj j i a (z ▸ e) hi)
  have h2 : ∀ b xs, H b = some (.tup xs) → b ≠ a := fun b xs e z => by rw [z, ha] at e; cases e
  have h2z : ∀ b o u, H b = some (.frz o u) → b ≠ a := fun b o u e z => by rw [z, ha] at e; cases e
  have h3 : ∀ b o, b ≠ a → H b = some o → upd H a (.lst vs') b = some o := fun b o hb e => by rw [upd_ne hb]; exact e
  have hr : Rep T φ (upd H a (.lst vs')) (.lst i ds') (.ref a) := by
    rw [Rep]
    exact ⟨a, vs', rfl, hi, upd_same, Reps.keep (fun _ _ h => h) h1 h2 h2z h3 ds' vs' hn r⟩
  refine ⟨⟨fun _ _ h => h, ⟨hw.inj, hw.lt, fun j b e => ?_⟩, Nat.le_refl _, fun d v rd => Rep.put hi (fun _ _ h => h) h1 h2 h2z h3 hr d v rd, fun _ _ h => .inl h, fun b o hb e => h3 b o (fun z => hb i (z ▸ hi)) e⟩, hr⟩
  by_cases hb : b = a
  · subst hb; rw [upd_same]; exact ⟨by simp, fun xs e => by cases e⟩
  · rw [upd_ne hb]; exact hw.trk j b e
theorem write_ins {i c : Nat} {a C dx : Addr} {fs : List (Str × V)} {ds' : List D} {vs' : List V} (hw : Wf φ n H) (hi : φ i = some a) (hc : T.cls c = some C) (ha : H a = some (.ins C dx fs))
    (r : Reps T φ H ds' vs') (hl : vs'.length ≤ (T.flds c).length) (hn : hasL i ds' = false) : Step T φ n H [(i, .ins i c ds')] φ n (upd H a (.ins C dx ((T.flds c).zip vs'))) ∧ Rep T φ (upd H a (.ins C dx ((T.flds c).zip vs'))) (.ins i c ds') (.ref a) := by
  have h1 : ∀ j b, φ j = some b → j ≠ i → b ≠ a := fun j b e hne z => hne (hw.inj j i a (z ▸ e) hi)
  have h2 : ∀ b xs, H b = some (.tup xs) → b ≠ a := fun b xs e z => by rw [z, ha] at e; cases e
  have h2z : ∀ b o u, H b = some (.frz o u) → b ≠ a := fun b o u e z => by rw [z, ha] at e; cases e
  have h3 : ∀ b o, b ≠ a → H b = some o → upd H a (.ins C dx ((T.flds c).zip vs')) b = some o := fun b o hb e => by rw [upd_ne hb]; exact e
  have hr : Rep T φ (upd H a (.ins C dx ((T.flds c).zip vs'))) (.ins i c ds') (.ref a) := by
    rw [Rep]
    exact ⟨a, C, dx, vs', rfl, hi, hc, upd_same, hl, Reps.keep (fun _ _ h => h) h1 h2 h2z h3 ds' vs' hn r⟩
  refine ⟨⟨fun _ _ h => h, ⟨hw.inj, hw.lt, fun j b e => ?_⟩, Nat.le_refl _, fun d v rd => Rep.put hi (fun _ _ h => h) h1 h2 h2z h3 hr d v rd, fun _ _ h => .inl h, fun b o hb e => h3 b o (fun z => hb i (z ▸ hi)) e⟩, hr⟩
  by_cases hb : b = a
  · subst hb; rw [upd_same]; exact ⟨by simp, fun xs e => by cases e⟩
  · rw [upd_ne hb]; exact hw.trk j b e
/-- stores at younger ids tell nothing of elder data -/
def cutW (n0 : Nat) (w : Wr) : Wr := match w with
  | [] => []
  | _ :: _ => w.filter fun p => decide (p.1 < n0)
theorem cutW_get (n0 : Nat) (w : Wr) (i : Nat) (h : i < n0) : Wr.get w i = Wr.get (cutW n0 w) i := by
  cases w with
  | nil => rfl
  | cons p r =>
    show _ = Wr.get ((p :: r).filter fun p => decide (p.1 < n0)) i
    rw [get_filter (fun j => decide (j < n0)), if_pos (by simpa using h)]
theorem cutW_puts (hw : Wf φ n H) {d : D} {v : V} (r : Rep T φ H d v) (w : Wr) : puts w d = puts (cutW n w) d :=
  puts_congr _ _ d fun i hi => cutW_get n w i (let ⟨a, e⟩ := Rep.ids d v r i hi; hw.lt i a e)
theorem Step.cut (s : Step T φ n H w φ1 n1 H1) (hw : Wf φ n H) : Step T φ n H (cutW n w) φ1 n1 H1 :=
  ⟨s.le, s.wf, s.nn, fun d v r => by rw [← cutW_puts hw r]; exact s.car d v r, s.new, s.frm⟩
end
end Sx
end
section
set_option Elab.async false
set_option linter.all false
set_option maxRecDepth 100000
set_option maxHeartbeats 1000000
/-! Sx.B: what an evaluation gives; readings by evaluators; expressions. -/
namespace Sx
open PySem PySem.Spec PyProof.Rows L2

/-- what an evaluation gives: a value, the next id, the stores; an exception of a class with its field; or nothing is known -/
inductive R (α : Type) where
  | ok (a : α) (n : Nat) (w : Wr)
  | ex (c : Nat) (d : Option D) (n : Nat) (w : Wr)
  | bad
def R.pre {α : Type} (w : Wr) : R α → R α
  | .ok a n w2 => .ok a n (comp w w2)
  | .ex c d n w2 => .ex c d n (comp w w2)
  | .bad => .bad
def R.bind {α β : Type} (r : R α) (k : α → Nat → Wr → R β) : R β := match r with
  | .ok a n w => (k a n w).pre w
  | .ex c d n w => .ex c d n w
  | .bad => .bad
def R.of {α : Type} : Option (α × Nat) → R α
  | some (a, n) => .ok a n []
  | none => .bad
abbrev Ev := List (Option D)
def putE (w : Wr) (env : Ev) : Ev := match w with
  | [] => env
  | _ :: _ => env.map fun o => o.map (puts w)
theorem putE_nil (env : Ev) : putE [] env = env := rfl
theorem putE_map (w : Wr) (env : Ev) : putE w env = env.map fun o => o.map (puts w) := by
  cases w with
  | nil =>
    rw [putE_nil]
    induction env with
    | nil => rfl
    | cons o r ih =>
      rw [List.map_cons, ← ih]
      cases o with
      | none => rfl
      | some d => rw [Option.map_some, puts_nil]
  | cons p r => rfl
abbrev EV := Nat → Ev → R D
abbrev AV := Nat → Ev → R (List D)
abbrev TV := Nat → Ev → R Bool

/-- the slots hold what the environment says -/
structure EnvR (T : Tab) (φ : Phi) (H : Hp) (env : Ev) (σ : L2.St) : Prop where
  len : env.length = σ.length
  at_ : ∀ (i : Nat) d, env[i]? = some (some d) → ∃ v : V, σ[i]? = some (some v) ∧ Rep T φ H d v
/-- an exception of the class number c with the field d: what stands for it -/
def ExRep (T : Tab) (φ : Phi) (H : Hp) (c : Nat) : Option D → XK → Prop
  | none, EX => ∀ C, T.cls c = some C → EX (.ref C) none H
  | some d, EX => ∀ C dx v, T.cls c = some C → H dx = some (.xd [("value", v)]) → Rep T φ H d v → EX (.ref C) (some dx) H
def PostE (T : Tab) (EX : XK) (φ : Phi) (n : Nat) (H : Hp) {α : Type} (Q : α → Phi → Nat → Hp → Prop) : R α → Prop
  | .ok a n' w => ∀ φ' H', Step T φ n H w φ' n' H' → Q a φ' n' H'
  | .ex c d n' w => ∀ φ' H', Step T φ n H w φ' n' H' → ExRep T φ' H' c d EX
  | .bad => False
section
variable {T : Tab} {EX : XK} {φ φ1 : Phi} {n n1 : Nat} {H H1 : Hp} {w : Wr} {env : Ev} {σ : L2.St} {α β : Type}
theorem EnvR.step (h : EnvR T φ H env σ) (s : Step T φ n H w φ1 n1 H1) : EnvR T φ1 H1 (putE w env) σ := by
  rw [putE_map]
  refine ⟨by rw [List.length_map]; exact h.len, fun i d e => ?_⟩
  rw [List.getElem?_map] at e
  cases q : env[i]? with
  | none => rw [q] at e; cases e
  | some o =>
    rw [q] at e
    cases o with
    | none => cases e
    | some d0 =>
      have e' : puts w d0 = d := by simpa using e
      obtain ⟨v, e1, r⟩ := h.at_ i d0 q
      subst e'
      exact ⟨v, e1, s.car d0 v r⟩
theorem ExRep.imp {c : Nat} {o : Option D} {EX' : XK} {φ H} (h : ExRep T φ H c o EX) (hx : ∀ a b H, EX a b H → EX' a b H) : ExRep T φ H c o EX' := by
  cases o with
  | none => exact fun C e => hx _ _ _ (h C e)
  | some d => exact fun C dx v e1 e2 e3 => hx _ _ _ (h C dx v e1 e2 e3)
theorem PostE.imp {Q Q' : α → Phi → Nat → Hp → Prop} {r : R α} (h : PostE T EX φ n H Q r) (hq : ∀ a φ' n' H', Q a φ' n' H' → Q' a φ' n' H') : PostE T EX φ n H Q' r := by
  cases r with
  | ok a n' w => exact fun φ' H' s => hq _ _ _ _ (h φ' H' s)
  | ex c d n' w => exact h
  | bad => exact h
theorem PostE.pre {Q : α → Phi → Nat → Hp → Prop} {r : R α} (h : PostE T EX φ n H Q (r.pre w)) (s : Step T φ n H w φ1 n1 H1) : PostE T EX φ1 n1 H1 Q r := by
  cases r with
  | ok a n' w' => exact fun φ' H' s' => h φ' H' (s.trans s')
  | ex c d n' w' => exact fun φ' H' s' => h φ' H' (s.trans s')
  | bad => exact h
theorem PostE.of {Q : α → Phi → Nat → Hp → Prop} {r : Option (α × Nat)} (h : PostE T EX φ n H Q (R.of r)) : ∃ a n', r = some (a, n') ∧ ∀ φ' H', Step T φ n H [] φ' n' H' → Q a φ' n' H' := by
  cases r with
  | none => exact h.elim
  | some p => obtain ⟨a, n'⟩ := p; exact ⟨a, n', rfl, h⟩
theorem PostE.bind {Q : β → Phi → Nat → Hp → Prop} {Q1 : α → Phi → Nat → Hp → Prop} {r : R α} {k : α → Nat → Wr → R β} (h : PostE T EX φ n H Q (r.bind k))
    (hk : ∀ a n1 w φ1 H1, r = .ok a n1 w → Step T φ n H w φ1 n1 H1 → PostE T EX φ1 n1 H1 Q (k a n1 w) → Q1 a φ1 n1 H1) : PostE T EX φ n H Q1 r := by
  cases r with
  | ok a n1 w => exact fun φ1 H1 s => hk a n1 w φ1 H1 rfl s (PostE.pre (w := w) h s)
  | ex c d n' w => exact h
  | bad => exact h
end

/-- readings by evaluators -/
def QV (T : Tab) (Q : VK) : D → Phi → Nat → Hp → Prop := fun d φ _ H => ∀ v, Rep T φ H d v → Q v H
def QA (T : Tab) (Q : List V → Hp → Prop) : List D → Phi → Nat → Hp → Prop := fun ds φ _ H => ∀ vs, Reps T φ H ds vs → Q vs H
def QT (Q : Bool → Hp → Prop) : Bool → Phi → Nat → Hp → Prop := fun b _ _ H => Q b H
def rdE (T : Tab) (EX : XK) (f : EV) : TE := fun σ H Q => ∃ φ n env, Wf φ n H ∧ EnvR T φ H env σ ∧ PostE T EX φ n H (QV T Q) (f n env)
def rdA (T : Tab) (EX : XK) (f : AV) : TA := fun σ H Q => ∃ φ n env, Wf φ n H ∧ EnvR T φ H env σ ∧ PostE T EX φ n H (QA T Q) (f n env)
def rdT (T : Tab) (EX : XK) (f : TV) : TT := fun σ H Q => ∃ φ n env, Wf φ n H ∧ EnvR T φ H env σ ∧ PostE T EX φ n H (QT Q) (f n env)
theorem _root_.L2.PE.to {X : Cx} {e : Expr} {t t' : TE} (h : PE X e t) (ht : ∀ σ H Q, t' σ H Q → t σ H Q) : PE X e t' := ⟨fun pins s σ H Q I q => h.run pins s σ H Q I (ht σ H Q q)⟩
theorem _root_.L2.PA.to {X : Cx} {e : List Expr} {t t' : TA} (h : PA X e t) (ht : ∀ σ H Q, t' σ H Q → t σ H Q) : PA X e t' := ⟨fun pos pins s σ H Q I q => h.run pos pins s σ H Q I (ht σ H Q q)⟩
theorem _root_.L2.PT.to {X : Cx} {e : Expr} {t t' : TT} (h : PT X e t) (ht : ∀ σ H Q, t' σ H Q → t σ H Q) : PT X e t' := ⟨fun pins s σ H Q I q => h.run pins s σ H Q I (ht σ H Q q)⟩
theorem _root_.L2.PW.to {X : Cx} {e : Expr} {t t' : TT} (h : PW X e t) (ht : ∀ σ H Q, t' σ H Q → t σ H Q) : PW X e t' := ⟨fun wh pins s σ H Q I q => h.run wh pins s σ H Q I (ht σ H Q q)⟩
theorem _root_.L2.PK.to {X : Cx} {e : List Keyword} {t t' : TA} (h : PK X e t) (ht : ∀ σ H Q, t' σ H Q → t σ H Q) : PK X e t' := ⟨fun pos pins s σ H Q I q => h.run pos pins s σ H Q I (ht σ H Q q)⟩
theorem _root_.L2.PS.to {X : Cx} {e : Stmt} {t t' : TS} (h : PS X e t) (ht : ∀ D σ H, t' D σ H → t D σ H) : PS X e t' := ⟨fun pins s σ H D I q => h.run pins s σ H D I (ht D σ H q)⟩
theorem _root_.L2.PSs.to {X : Cx} {e : List Stmt} {t t' : TS} (h : PSs X e t) (ht : ∀ D σ H, t' D σ H → t D σ H) : PSs X e t' := ⟨fun pins s σ H D I q => h.run pins s σ H D I (ht D σ H q)⟩

/-! ### evaluators of expressions -/
def eVar (i : Nat) : EV := fun n env => match env[i]? with
  | some (some d) => .ok d n []
  | _ => .bad
def eC (d : D) : EV := fun n _ => .ok d n []
def aNil : AV := fun n _ => .ok [] n []
def aCons (f : EV) (g : AV) : AV := fun n env => (f n env).bind fun d n1 w1 => (g n1 (putE w1 env)).bind fun ds n2 w2 => .ok (puts w2 d :: ds) n2 []
def eLst (f : AV) : EV := fun n env => (f n env).bind fun ds n1 w1 => if ds.length ≤ sizeLine then .ok (.lst n1 ds) (n1 + 1) [] else .bad
def eTup (f : AV) : EV := fun n env => (f n env).bind fun ds n1 w1 => if ds.length ≤ sizeLine then .ok (.tup ds) n1 [] else .bad
/-- two parts, then an operation on data -/
def eBin (g : D → D → Nat → Option (D × Nat)) (a b : EV) : EV := fun n env => (a n env).bind fun x n1 w1 => (b n1 (putE w1 env)).bind fun y n2 w2 => R.of (g (puts w2 x) y n2)
def eUn (g : D → Nat → Option (D × Nat)) (a : EV) : EV := fun n env => (a n env).bind fun x n1 w1 => R.of (g x n1)
/-- a value that is a bool, as a test -/
def tOf (a : EV) : TV := fun n env => (a n env).bind fun x n1 _ => match x with
  | .bl b => .ok b n1 []
  | _ => .bad
def tAnd (a b : TV) : TV := fun n env => (a n env).bind fun c n1 w1 => if c = true then b n1 (putE w1 env) else .ok false n1 []
def tOr (a b : TV) : TV := fun n env => (a n env).bind fun c n1 w1 => if c = true then .ok true n1 [] else b n1 (putE w1 env)
def tNot (a : TV) : TV := fun n env => (a n env).bind fun c n1 _ => .ok (!c) n1 []
def eAnd (a b : EV) : EV := fun n env => (a n env).bind fun x n1 w1 => match x with
  | .bl c => if c = true then b n1 (putE w1 env) else .ok (.bl false) n1 []
  | _ => .bad
def eOr (a b : EV) : EV := fun n env => (a n env).bind fun x n1 w1 => match x with
  | .bl c => if c = true then .ok (.bl true) n1 [] else b n1 (putE w1 env)
  | _ => .bad
def eNot (a : EV) : EV := fun n env => (a n env).bind fun x n1 _ => match x with
  | .bl c => .ok (.bl (!c)) n1 []
  | _ => .bad
def eIf (c : TV) (a b : EV) : EV := fun n env => (c n env).bind fun k n1 w1 => if k = true then a n1 (putE w1 env) else b n1 (putE w1 env)
/-- a < b < c -/
def eChain (g1 g2 : D → D → Nat → Option (D × Nat)) (a b c : EV) : EV := fun n env => (a n env).bind fun x n1 w1 => (b n1 (putE w1 env)).bind fun y n2 w2 =>
  (R.of (g1 (puts w2 x) y n2)).bind fun z n3 _ => match z with
    | .bl k => if k = true then (c n3 (putE w2 (putE w1 env))).bind fun u n4 w4 => R.of (g2 (puts w4 y) u n4) else .ok (.bl false) n3 []
    | _ => .bad

section
variable {X : Cx} {T : Tab} {EX : XK} {a b c e : Expr} {es : List Expr} {fa fb fc fe : EV} {ga : AV} {ta tb tc : TV} {pos : Pos}

/-- the step from a part to what follows it -/
theorem go_e {φ : Phi} {n : Nat} {H : Hp} {env : Ev} {σ : L2.St} {β : Type} {Q : β → Phi → Nat → Hp → Prop} {k : D → Nat → Wr → R β} {Q1 : VK} (wf : Wf φ n H) (er : EnvR T φ H env σ) (p : PostE T EX φ n H Q ((fa n env).bind k))
    (h : ∀ d n1 w1 φ1 H1 v, Step T φ n H w1 φ1 n1 H1 → EnvR T φ1 H1 (putE w1 env) σ → Rep T φ1 H1 d v → PostE T EX φ1 n1 H1 Q (k d n1 w1) → Q1 v H1) : rdE T EX fa σ H Q1 :=
  ⟨φ, n, env, wf, er, p.bind fun d n1 w1 φ1 H1 _ s q v r => h d n1 w1 φ1 H1 v s (er.step s) r q⟩
theorem go_a {φ : Phi} {n : Nat} {H : Hp} {env : Ev} {σ : L2.St} {β : Type} {Q : β → Phi → Nat → Hp → Prop} {k : List D → Nat → Wr → R β} {Q1 : List V → Hp → Prop} (wf : Wf φ n H) (er : EnvR T φ H env σ) (p : PostE T EX φ n H Q ((ga n env).bind k))
    (h : ∀ d n1 w1 φ1 H1 v, Step T φ n H w1 φ1 n1 H1 → EnvR T φ1 H1 (putE w1 env) σ → Reps T φ1 H1 d v → PostE T EX φ1 n1 H1 Q (k d n1 w1) → Q1 v H1) : rdA T EX ga σ H Q1 :=
  ⟨φ, n, env, wf, er, p.bind fun d n1 w1 φ1 H1 _ s q v r => h d n1 w1 φ1 H1 v s (er.step s) r q⟩
theorem go_t {φ : Phi} {n : Nat} {H : Hp} {env : Ev} {σ : L2.St} {β : Type} {Q : β → Phi → Nat → Hp → Prop} {k : Bool → Nat → Wr → R β} {Q1 : Bool → Hp → Prop} (wf : Wf φ n H) (er : EnvR T φ H env σ) (p : PostE T EX φ n H Q ((ta n env).bind k))
    (h : ∀ d n1 w1 φ1 H1, Step T φ n H w1 φ1 n1 H1 → EnvR T φ1 H1 (putE w1 env) σ → PostE T EX φ1 n1 H1 Q (k d n1 w1) → Q1 d H1) : rdT T EX ta σ H Q1 :=
  ⟨φ, n, env, wf, er, p.bind fun d n1 w1 φ1 H1 _ s q => h d n1 w1 φ1 H1 s (er.step s) q⟩

theorem x_var {i : Nat} {x : Str} {pos : Pos} (hN : X.N[i]? = some x) (hv : Vis X.env.scope x) (hd : (x == ("__debug__" : Str)) = false := by decide) (hcd : (x == ("__classdict__" : Str)) = false := by decide) :
    PE X (.Name x pos) (rdE T EX (eVar i)) := (pe_var hN hv hd hcd).to fun σ H Q ⟨φ, n, env, wf, er, p⟩ => by
  unfold eVar at p
  split at p
  · rename_i d q
    obtain ⟨v, e, r⟩ := er.at_ i d q
    exact ⟨v, e, p φ H (Step.refl wf) v r⟩
  · exact p.elim
theorem x_int {i j pos} : PE X (.Constant (.int i) j pos) (rdE T EX (eC (.int i))) := pe_int.to fun σ H Q ⟨φ, n, env, wf, er, p⟩ => p φ H (Step.refl wf) (.int i) (by rw [Rep])
theorem x_str {x j pos} : PE X (.Constant (.str x) j pos) (rdE T EX (eC (.str x))) := pe_str.to fun σ H Q ⟨φ, n, env, wf, er, p⟩ => p φ H (Step.refl wf) (.str x) (by rw [Rep])
theorem x_bl {x j pos} : PE X (.Constant (.bool x) j pos) (rdE T EX (eC (.bl x))) := pe_bl.to fun σ H Q ⟨φ, n, env, wf, er, p⟩ => p φ H (Step.refl wf) (.bl x) (by rw [Rep])
theorem x_non {j pos} : PE X (.Constant .none j pos) (rdE T EX (eC .non)) := pe_non.to fun σ H Q ⟨φ, n, env, wf, er, p⟩ => p φ H (Step.refl wf) .non (by rw [Rep])
theorem x_gstr {x : Str} {z : Str} {t : Tok} {pos : Pos} (hg : Gl X x) (hm : X.mg x = some (.str z t)) (hd : (x == ("__debug__" : Str)) = false := by decide) : PE X (.Name x pos) (rdE T EX (eC (.str z))) :=
  (pe_glob (v := .str z) hg hm ⟨t, rfl⟩ hd).to fun σ H Q ⟨φ, n, env, wf, er, p⟩ => p φ H (Step.refl wf) (.str z) (by rw [Rep])
theorem x_gint {x : Str} {z : Int} {t : Tok} {pos : Pos} (hg : Gl X x) (hm : X.mg x = some (.int z t)) (hd : (x == ("__debug__" : Str)) = false := by decide) : PE X (.Name x pos) (rdE T EX (eC (.int z))) :=
  (pe_glob (v := .int z) hg hm ⟨t, rfl⟩ hd).to fun σ H Q ⟨φ, n, env, wf, er, p⟩ => p φ H (Step.refl wf) (.int z) (by rw [Rep])

theorem xa_nil : PA X [] (rdA T EX aNil) := pa_nil.to fun σ H Q ⟨φ, n, env, wf, er, p⟩ => p φ H (Step.refl wf) [] Reps.nil
theorem xa_cons (ha : PE X e (rdE T EX fe)) (hr : PA X es (rdA T EX ga)) (hs : starEach (e :: es) X.env = (false, eval e X.env) :: starEach es X.env := by rfl) : PA X (e :: es) (rdA T EX (aCons fe ga)) :=
  (pa_cons ha hr hs).to fun σ H Q ⟨φ, n, env, wf, er, p⟩ => go_e wf er p fun d n1 w1 φ1 H1 v s1 er1 r1 p1 => go_a s1.wf er1 p1 fun ds n2 w2 φ2 H2 vs s2 er2 r2 p2 =>
    p2 φ2 H2 (Step.refl s2.wf) _ (Reps.cons (s2.car _ _ r1) r2)
theorem x_lst (h : PA X es (rdA T EX ga)) : PE X (.List es pos) (rdE T EX (eLst ga)) :=
  (pe_lst h).to fun σ H Q ⟨φ, n, env, wf, er, p⟩ => go_a wf er p fun ds n1 w1 φ1 H1 vs s1 er1 r1 p1 => by
    split at p1
    · rename_i hz
      refine ⟨by rw [r1.length]; exact hz, fun q hq => ?_⟩
      obtain ⟨s2, r2⟩ := new_lst s1.wf hq r1
      exact p1 _ _ s2 _ r2
    · exact p1.elim
theorem x_tup {k : Nat} (h : PA X es (rdA T EX ga)) : PE X (.Tuple es k pos) (rdE T EX (eTup ga)) :=
  (pe_tup h).to fun σ H Q ⟨φ, n, env, wf, er, p⟩ => go_a wf er p fun ds n1 w1 φ1 H1 vs s1 er1 r1 p1 => by
    split at p1
    · rename_i hz
      refine ⟨by rw [r1.length]; exact hz, fun q hq => ?_⟩
      obtain ⟨s2, r2⟩ := new_tup s1.wf hq r1
      exact p1 _ _ s2 _ r2
    · exact p1.elim

/-- an operation on data is borne by one on values -/
def Bin (T : Tab) (g : D → D → Nat → Option (D × Nat)) (r : R2) : Prop := ∀ φ n H d1 d2 v1 v2 d n' Q, Wf φ n H → Rep T φ H d1 v1 → Rep T φ H d2 v2 → g d1 d2 n = some (d, n') →
  (∀ φ' H', Step T φ n H [] φ' n' H' → ∀ v, Rep T φ' H' d v → Q v H') → r v1 v2 H Q
def Una (T : Tab) (g : D → Nat → Option (D × Nat)) (r : V → Hp → VK → Prop) : Prop := ∀ φ n H d1 v1 d n' Q, Wf φ n H → Rep T φ H d1 v1 → g d1 n = some (d, n') →
  (∀ φ' H', Step T φ n H [] φ' n' H' → ∀ v, Rep T φ' H' d v → Q v H') → r v1 H Q
theorem bin_go {g : D → D → Nat → Option (D × Nat)} {r : R2} (hg : Bin T g r) : ∀ σ H Q, rdE T EX (eBin g fa fb) σ H Q → tOp r (rdE T EX fa) (rdE T EX fb) σ H Q :=
  fun σ H Q ⟨φ, n, env, wf, er, p⟩ => go_e wf er p fun d n1 w1 φ1 H1 v s1 er1 r1 p1 => go_e s1.wf er1 p1 fun d2 n2 w2 φ2 H2 v2 s2 er2 r2 p2 => by
    obtain ⟨d3, n3, e3, p3⟩ := p2.of
    exact hg _ _ _ _ _ _ _ _ _ _ s2.wf (s2.car _ _ r1) r2 e3 p3
theorem x_bin {op : Operator} {g : D → D → Nat → Option (D × Nat)} {r : R2} (ho : OpR X (binaryOp op) r) (hg : Bin T g r) (ha : PE X a (rdE T EX fa)) (hb : PE X b (rdE T EX fb)) : PE X (.BinOp a op b pos) (rdE T EX (eBin g fa fb)) :=
  (pe_op ho ha hb).to (bin_go hg)
theorem x_cmp {op : CmpOp} {g : D → D → Nat → Option (D × Nat)} {r : R2} (ho : OpR X (compareOp op) r) (hg : Bin T g r) (ha : PE X a (rdE T EX fa)) (hb : PE X b (rdE T EX fb)) (hm : behindInMarks op b = false) : PE X (.Compare a [op] [b] pos) (rdE T EX (eBin g fa fb)) :=
  (pe_cmpR ho ha hb hm).to (bin_go hg)
theorem tOf_go {f : EV} {t : TE} (h : ∀ σ H Q, rdE T EX f σ H Q → t σ H Q) : ∀ σ H Q, rdT T EX (tOf f) σ H Q → tTest t σ H Q :=
  fun σ H Q ⟨φ, n, env, wf, er, p⟩ => h σ H _ (go_e wf er p fun d n1 w1 φ1 H1 v s1 er1 r1 p1 => by
    split at p1
    · rename_i k
      rw [Rep] at r1
      exact ⟨k, r1, p1 φ1 H1 (Step.refl s1.wf)⟩
    · exact p1.elim)
theorem xt_cmp {op : CmpOp} {g : D → D → Nat → Option (D × Nat)} {r : R2} (ho : OpR X (compareOp op) r) (hg : Bin T g r) (ha : PE X a (rdE T EX fa)) (hb : PE X b (rdE T EX fb)) (hm : behindInMarks op b = false) : PT X (.Compare a [op] [b] pos) (rdT T EX (tOf (eBin g fa fb))) :=
  (pt_cmpR ho ha hb hm).to (tOf_go (bin_go hg))
theorem x_un {op : UnaryOp} {g : D → Nat → Option (D × Nat)} {r : V → Hp → VK → Prop} (ho : UnR X (unaryOp op) r) (hg : Una T g r) (ha : PE X a (rdE T EX fa)) : PE X (.UnaryOp op a pos) (rdE T EX (eUn g fa)) :=
  (pe_un ho ha).to fun σ H Q ⟨φ, n, env, wf, er, p⟩ => go_e wf er p fun d n1 w1 φ1 H1 v s1 er1 r1 p1 => by
    obtain ⟨d3, n3, e3, p3⟩ := p1.of
    exact hg _ _ _ _ _ _ _ _ s1.wf r1 e3 p3
/-- an expression as a test -/
theorem xt_val (h : PE X e (rdE T EX fe)) (he : ∀ whole, isTrue e X.env whole = (do let v ← whole; standAt e.pos; holding [v] (truthy v)) := by intro _; rfl) : PT X e (rdT T EX (tOf fe)) :=
  (pt_val h he).to fun σ H Q q => tOf_go (fun _ _ _ x => x) σ H Q q
theorem xw_and1 (ha : PT X a (rdT T EX ta)) : PW X (.BoolOp .And [a] pos) (rdT T EX ta) := pw_and1 ha
theorem xw_or1 (ha : PT X a (rdT T EX ta)) : PW X (.BoolOp .Or [a] pos) (rdT T EX ta) := pw_or1 ha
theorem xw_and {rest : List Expr} (ha : PT X a (rdT T EX ta)) (hb : PW X (.BoolOp .And (b :: rest) pos) (rdT T EX tb)) : PW X (.BoolOp .And (a :: b :: rest) pos) (rdT T EX (tAnd ta tb)) :=
  (pw_and ha hb).to fun σ H Q ⟨φ, n, env, wf, er, p⟩ => go_t wf er p fun c n1 w1 φ1 H1 s1 er1 p1 => by
    cases c with
    | true => exact ⟨φ1, n1, _, s1.wf, er1, p1⟩
    | false => exact p1 φ1 H1 (Step.refl s1.wf)
theorem xw_or {rest : List Expr} (ha : PT X a (rdT T EX ta)) (hb : PW X (.BoolOp .Or (b :: rest) pos) (rdT T EX tb)) : PW X (.BoolOp .Or (a :: b :: rest) pos) (rdT T EX (tOr ta tb)) :=
  (pw_or ha hb).to fun σ H Q ⟨φ, n, env, wf, er, p⟩ => go_t wf er p fun c n1 w1 φ1 H1 s1 er1 p1 => by
    cases c with
    | true => exact p1 φ1 H1 (Step.refl s1.wf)
    | false => exact ⟨φ1, n1, _, s1.wf, er1, p1⟩
theorem xt_not (ha : PT X a (rdT T EX ta)) : PT X (.UnaryOp .Not a pos) (rdT T EX (tNot ta)) :=
  (pt_not ha).to fun σ H Q ⟨φ, n, env, wf, er, p⟩ => go_t wf er p fun c n1 w1 φ1 H1 s1 er1 p1 => p1 φ1 H1 (Step.refl s1.wf)
theorem x_one {op} (h : PE X a (rdE T EX fa)) : PE X (.BoolOp op [a] pos) (rdE T EX fa) := pe_one h
theorem x_and {rest : List Expr} (ha : PE X a (rdE T EX fa)) (hb : PE X (.BoolOp .And (b :: rest) pos) (rdE T EX fb)) : PE X (.BoolOp .And (a :: b :: rest) pos) (rdE T EX (eAnd fa fb)) :=
  (pe_and ha hb).to fun σ H Q ⟨φ, n, env, wf, er, p⟩ => go_e wf er p fun d n1 w1 φ1 H1 v s1 er1 r1 p1 => by
    split at p1
    · rename_i k
      rw [Rep] at r1
      refine ⟨k, r1, ?_⟩
      cases k with
      | true => exact ⟨φ1, n1, _, s1.wf, er1, p1⟩
      | false => exact p1 φ1 H1 (Step.refl s1.wf) _ (by rw [Rep])
    · exact p1.elim
theorem x_or {rest : List Expr} (ha : PE X a (rdE T EX fa)) (hb : PE X (.BoolOp .Or (b :: rest) pos) (rdE T EX fb)) : PE X (.BoolOp .Or (a :: b :: rest) pos) (rdE T EX (eOr fa fb)) :=
  (pe_or ha hb).to fun σ H Q ⟨φ, n, env, wf, er, p⟩ => go_e wf er p fun d n1 w1 φ1 H1 v s1 er1 r1 p1 => by
    split at p1
    · rename_i k
      rw [Rep] at r1
      refine ⟨k, r1, ?_⟩
      cases k with
      | true => exact p1 φ1 H1 (Step.refl s1.wf) _ (by rw [Rep])
      | false => exact ⟨φ1, n1, _, s1.wf, er1, p1⟩
    · exact p1.elim
theorem x_not (ha : PE X a (rdE T EX fa)) : PE X (.UnaryOp .Not a pos) (rdE T EX (eNot fa)) :=
  (pe_not ha).to fun σ H Q ⟨φ, n, env, wf, er, p⟩ => go_e wf er p fun d n1 w1 φ1 H1 v s1 er1 r1 p1 => by
    split at p1
    · rename_i k
      rw [Rep] at r1
      exact ⟨k, r1, p1 φ1 H1 (Step.refl s1.wf) _ (by rw [Rep])⟩
    · exact p1.elim
theorem x_if (hc : PT X c (rdT T EX tc)) (ha : PE X a (rdE T EX fa)) (hb : PE X b (rdE T EX fb)) : PE X (.IfExp c a b pos) (rdE T EX (eIf tc fa fb)) :=
  (pe_ifExp hc ha hb).to fun σ H Q ⟨φ, n, env, wf, er, p⟩ => go_t wf er p fun k n1 w1 φ1 H1 s1 er1 p1 => by
    cases k with
    | true => exact ⟨φ1, n1, _, s1.wf, er1, p1⟩
    | false => exact ⟨φ1, n1, _, s1.wf, er1, p1⟩
end
end Sx
end
section
set_option Elab.async false
set_option linter.all false
set_option maxRecDepth 100000
set_option maxHeartbeats 1000000
/-! Sx.C: places, slices, fields, calls of defs, classes, methods, built-ins. -/
namespace Sx
open PySem PySem.Spec PyProof.Rows L2

/-! ### chains of comparisons, stars, places -/
section
variable {X : Cx} {T : Tab} {EX : XK} {a b c e : Expr} {es : List Expr} {fa fb fc fe : EV} {ga : AV} {pos : Pos}
theorem chain_go {g1 g2 : D → D → Nat → Option (D × Nat)} {r r' : R2} (h1 : Bin T g1 r) (h2 : Bin T g2 r') : ∀ σ H Q, rdE T EX (eChain g1 g2 fa fb fc) σ H Q → tChain r r' (rdE T EX fa) (rdE T EX fb) (rdE T EX fc) σ H Q :=
  fun σ H Q ⟨φ, n, env, wf, er, p⟩ => go_e wf er p fun d1 n1 w1 φ1 H1 v1 s1 er1 r1 p1 => go_e s1.wf er1 p1 fun d2 n2 w2 φ2 H2 v2 s2 er2 r2 p2 => by
    have r1' := s2.car _ _ r1
    cases hz : g1 (puts w2 d1) d2 n2 with
    | none =>
      rw [hz] at p2
      exact p2.elim
    | some q =>
      obtain ⟨z, n3⟩ := q
      rw [hz] at p2
      refine h1 _ _ _ _ _ _ _ _ _ _ s2.wf r1' r2 hz fun φ3 H3 s3 v3 r3 => ?_
      have p3 := PostE.pre (w := []) p2 s3
      have er3 := er2.step s3
      rw [putE_nil] at er3
      dsimp only at p3
      split at p3
      · rename_i k
        rw [Rep] at r3
        refine ⟨k, r3, ?_⟩
        cases k with
        | false => exact p3 φ3 H3 (Step.refl s3.wf) _ (by rw [Rep])
        | true =>
          refine go_e s3.wf er3 p3 fun d4 n4 w4 φ4 H4 v4 s4 er4 r4 p4 => ?_
          obtain ⟨d5, n5, e5, p5⟩ := p4.of
          have r2' := s3.car _ _ r2
          rw [puts_nil] at r2'
          exact h2 _ _ _ _ _ _ _ _ _ _ s4.wf (s4.car _ _ r2') r4 e5 p5
      · exact p3.elim
theorem x_chain {op op' : CmpOp} {g1 g2 : D → D → Nat → Option (D × Nat)} {r r' : R2} (ho : OpR X (compareOp op) r) (h1 : Bin T g1 r) (ho' : OpR X (compareOp op') r') (h2 : Bin T g2 r')
    (ha : PE X a (rdE T EX fa)) (hb : PE X b (rdE T EX fb)) (hc : PE X c (rdE T EX fc)) (hm : lastMarks [op, op'] [b, c] = false := by with_unfolding_all rfl) : PE X (.Compare a [op, op'] [b, c] pos) (rdE T EX (eChain g1 g2 fa fb fc)) :=
  (pe_chain ho ho' ha hb hc hm).to (chain_go h1 h2)
theorem xt_chain {op op' : CmpOp} {g1 g2 : D → D → Nat → Option (D × Nat)} {r r' : R2} (ho : OpR X (compareOp op) r) (h1 : Bin T g1 r) (ho' : OpR X (compareOp op') r') (h2 : Bin T g2 r')
    (ha : PE X a (rdE T EX fa)) (hb : PE X b (rdE T EX fb)) (hc : PE X c (rdE T EX fc)) (hm : lastMarks [op, op'] [b, c] = false := by with_unfolding_all rfl) : PT X (.Compare a [op, op'] [b, c] pos) (rdT T EX (tOf (eChain g1 g2 fa fb fc))) :=
  (pt_chain ho ho' ha hb hc hm).to (tOf_go (chain_go h1 h2))

def seqD : D → Option (List D)
  | .lst _ ds => some ds
  | .tup ds => some ds
  | _ => none
/-- *e in a display -/
def aStar (f : EV) (g : AV) : AV := fun n env => (f n env).bind fun d n1 w1 => match seqD d with
  | some xs => (g n1 (putE w1 env)).bind fun ds n2 w2 => .ok (putsL w2 xs ++ ds) n2 []
  | none => .bad
theorem seqD_rep {d : D} {xs : List D} {φ : Phi} {H : Hp} {v : V} {K : PySem.W.Frag} (h : seqD d = some xs) (r : Rep T φ H d v) : ∃ p vs, v = .ref p ∧ (SqT K H p vs ∨ SqL K H p vs) ∧ Reps T φ H xs vs := by
  cases d with
  | lst i ds =>
    cases h
    rw [Rep] at r
    obtain ⟨a, vs, e, p, q, r⟩ := r
    exact ⟨a, vs, e, .inr (.inl (.inl q)), r⟩
  | tup ds =>
    cases h
    rw [Rep] at r
    obtain ⟨a, vs, e, q, r⟩ := r
    exact ⟨a, vs, e, .inl (.inl (.inl q)), r⟩
  | _ => cases h
theorem xa_star {p : Pos} (ha : PE X e (rdE T EX fe)) (hr : PA X es (rdA T EX ga)) (hs : starEach (.Starred e p :: es) X.env = (true, eval e X.env) :: starEach es X.env := by rfl) : PA X (.Starred e p :: es) (rdA T EX (aStar fe ga)) :=
  (StX.pa_star ha hr hs).to fun σ H Q ⟨φ, n, env, wf, er, p⟩ => go_e wf er p fun d n1 w1 φ1 H1 v s1 er1 r1 p1 => by
    cases hq : seqD d with
    | none => simp only [hq] at p1; exact p1.elim
    | some xs =>
      simp only [hq] at p1
      obtain ⟨a, vs, e, hl, rr⟩ := seqD_rep (K := X.K) hq r1
      exact ⟨a, vs, e, hl, go_a s1.wf er1 p1 fun ds n2 w2 φ2 H2 us s2 er2 r2 p2 => p2 φ2 H2 (Step.refl s2.wf) _ ((s2.carL rr).append r2)⟩

theorem Reps.atI {φ : Phi} {H : Hp} {ds : List D} {vs : List V} {i : Int} {d : D} (r : Reps T φ H ds vs) (h : L2.atI ds i = some d) : ∃ v, L2.atI vs i = some v ∧ Rep T φ H d v := by
  unfold L2.atI at h ⊢
  rw [r.length]
  cases q : ixN ds.length i with
  | none => rw [q] at h; cases h
  | some j =>
    rw [q] at h
    exact r.get (by simpa using h)
/-- x[i] -/
def ixD (x y : D) (n : Nat) : Option (D × Nat) := match y with
  | .int i => match x with
    | .lst _ ds => (L2.atI ds i).map fun d => (d, n)
    | .tup ds => (L2.atI ds i).map fun d => (d, n)
    | .str z => if z.length ≤ sizeLine then (L2.atI z.cps.toList i).map fun c => (.str ⟨#[c]⟩, n) else none
    | _ => none
  | _ => none
theorem ixD_ok {K : PySem.W.Frag} : Bin T ixD (rIx K) := by
  intro φ n H d1 d2 v1 v2 d n' Q wf r1 r2 h q
  cases d2 with
  | int i =>
    rw [Rep] at r2
    cases d1 with
    | lst j ds =>
      rw [Rep] at r1
      obtain ⟨a, vs, e, p, hh, rr⟩ := r1
      simp only [ixD, Option.map_eq_some_iff] at h
      obtain ⟨x, hx, hn⟩ := h
      cases hn
      obtain ⟨v, hv, rv⟩ := rr.atI hx
      exact .inl ⟨a, vs, i, v, e, r2, .inl (.inl hh), hv, q φ H (Step.refl wf) v rv⟩
    | tup ds =>
      rw [Rep] at r1
      obtain ⟨a, vs, e, hh, rr⟩ := r1
      simp only [ixD, Option.map_eq_some_iff] at h
      obtain ⟨x, hx, hn⟩ := h
      cases hn
      obtain ⟨v, hv, rv⟩ := rr.atI hx
      exact .inr (.inl ⟨a, vs, i, v, e, r2, .inl (.inl hh), hv, q φ H (Step.refl wf) v rv⟩)
    | str z =>
      rw [Rep] at r1
      simp only [ixD] at h
      split at h
      · rename_i hz
        rw [Option.map_eq_some_iff] at h
        obtain ⟨x, hx, hn⟩ := h
        cases hn
        exact .inr (.inr ⟨z, i, x, r1, r2, hz, hx, q φ H (Step.refl wf) _ (by rw [Rep])⟩)
      · cases h
    | _ => cases h
  | _ => cases h
theorem x_ix (ha : PE X a (rdE T EX fa)) (hb : PE X b (rdE T EX fb)) (hs : PlainIx b) : PE X (.Subscript a b pos) (rdE T EX (eBin ixD fa fb)) := (pe_ix ix_seq ha hb hs).to (bin_go ixD_ok)

/-! ### slices -/
abbrev OV := Nat → Ev → R (Option Int)
def rdO (T : Tab) (EX : XK) (f : OV) : TO := fun σ H Q => ∃ φ n env, Wf φ n H ∧ EnvR T φ H env σ ∧ PostE T EX φ n H (fun o _ _ H' => Q o H') (f n env)
def oNone : OV := fun n _ => .ok none n []
def oSome (f : EV) : OV := fun n env => (f n env).bind fun d n1 _ => match d with
  | .int i => .ok (some i) n1 []
  | _ => .bad
def eSl (g : D → Option Int → Option Int → Nat → Option (D × Nat)) (f : EV) (lo hi : OV) : EV := fun n env => (f n env).bind fun d n1 w1 => (lo n1 (putE w1 env)).bind fun l n2 w2 => (hi n2 (putE w2 (putE w1 env))).bind fun h n3 w3 =>
  R.of (g (puts w3 (puts w2 d)) l h n3)
theorem xo_none : PO X none (rdO T EX oNone) := by
  have h := po_none (X := X)
  exact ⟨fun pins s σ H Q I ⟨φ, n, env, wf, er, p⟩ => h.run pins s σ H Q I (p φ H (Step.refl wf))⟩
theorem xo_some (ha : PE X a (rdE T EX fa)) : PO X (some a) (rdO T EX (oSome fa)) := by
  have h := po_some ha
  refine ⟨fun pins s σ H Q I ⟨φ, n, env, wf, er, p⟩ => h.run pins s σ H Q I (go_e wf er p fun d n1 w1 φ1 H1 v s1 er1 r1 p1 => ?_)⟩
  split at p1
  · rename_i i
    rw [Rep] at r1
    exact ⟨i, r1, p1 φ1 H1 (Step.refl s1.wf)⟩
  · exact p1.elim
def slD (x : D) (lo hi : Option Int) (n : Nat) : Option (D × Nat) := match x with
  | .lst _ ds => some (.lst n ((ds.drop (HT.sIx ds.length 0 lo)).take (HT.sIx ds.length ds.length hi - HT.sIx ds.length 0 lo)), n + 1)
  | .tup ds => some (.tup ((ds.drop (HT.sIx ds.length 0 lo)).take (HT.sIx ds.length ds.length hi - HT.sIx ds.length 0 lo)), n)
  | .scr ns => some (.lst n ((ns.drop (HT.sIx ns.length 0 lo)).take (HT.sIx ns.length ns.length hi - HT.sIx ns.length 0 lo) |>.map D.int), n + 1)
  | _ => none
def rSl2 (K : PySem.W.Frag) : V → Option Int → Option Int → Hp → VK → Prop := fun x lo hi H Q => rSlL K x lo hi H Q ∨ rSlA K x lo hi H Q
theorem Reps.cut {φ : Phi} {H : Hp} {ds : List D} {vs : List V} {lo hi : Option Int} (r : Reps T φ H ds vs) : Reps T φ H ((ds.drop (HT.sIx ds.length 0 lo)).take (HT.sIx ds.length ds.length hi - HT.sIx ds.length 0 lo)) (cutV vs lo hi) := by
  unfold cutV
  rw [r.length]
  exact (r.drop _).take _
theorem slD_ok {K : PySem.W.Frag} {φ : Phi} {n : Nat} {H : Hp} {d1 : D} {v1 : V} {lo hi : Option Int} {d : D} {n' : Nat} {Q : VK} (wf : Wf φ n H) (r1 : Rep T φ H d1 v1) (h : slD d1 lo hi n = some (d, n'))
    (q : ∀ φ' H', Step T φ n H [] φ' n' H' → ∀ v, Rep T φ' H' d v → Q v H') : rSl2 K v1 lo hi H Q := by
  cases d1 with
  | lst j ds =>
    rw [Rep] at r1
    obtain ⟨a, vs, e, p, hh, rr⟩ := r1
    cases h
    refine .inl ⟨a, vs, e, .inl (.inl hh), fun p hp => ?_⟩
    obtain ⟨s2, r2⟩ := new_lst wf hp (rr.cut (lo := lo) (hi := hi))
    exact q _ _ s2 _ r2
  | tup ds =>
    rw [Rep] at r1
    obtain ⟨a, vs, e, hh, rr⟩ := r1
    cases h
    refine .inr ⟨a, vs, e, .inl (.inl hh), fun ⟨h1, h2⟩ => ?_, fun _ p hp => ?_⟩
    · refine q φ H (Step.refl wf) _ ?_
      have hl := rr.length
      rw [hl] at h1 h2
      rw [h1, h2, Nat.sub_zero, List.drop_zero, List.take_length, Rep]
      exact ⟨a, vs, rfl, hh, rr⟩
    · obtain ⟨s2, r2⟩ := new_tup wf hp (rr.cut (lo := lo) (hi := hi))
      exact q _ _ s2 _ r2
  | scr ns =>
    rw [Rep] at r1
    obtain ⟨a, o, e, hh⟩ := r1
    cases h
    refine .inl ⟨a, _, e, .inl (.inr ⟨o, hh⟩), fun p hp => ?_⟩
    obtain ⟨s2, r2⟩ := new_lst wf hp (Reps.of_ints (T := T) (φ := φ) (H := H) (ns := (ns.drop (HT.sIx ns.length 0 lo)).take (HT.sIx ns.length ns.length hi - HT.sIx ns.length 0 lo)))
    have e2 : cutV (ns.map V.int) lo hi = ((ns.drop (HT.sIx ns.length 0 lo)).take (HT.sIx ns.length ns.length hi - HT.sIx ns.length 0 lo)).map V.int := by
      unfold cutV
      rw [List.length_map, List.map_take, List.map_drop]
    rw [e2]
    exact q _ _ s2 _ r2
  | _ => cases h
theorem x_sl {lo hi : Option Expr} {ol oh : OV} {p2 : Pos} (ha : PE X a (rdE T EX fa)) (hl : PO X lo (rdO T EX ol)) (hh : PO X hi (rdO T EX oh)) : PE X (.Subscript a (.Slice lo hi none p2) pos) (rdE T EX (eSl slD fa ol oh)) :=
  (pe_slice (sl_list.or sl_tupA) ha hl hh).to fun σ H Q ⟨φ, n, env, wf, er, p⟩ => go_e wf er p fun d n1 w1 φ1 H1 v s1 er1 r1 p1 =>
    ⟨φ1, n1, _, s1.wf, er1, p1.bind fun l n2 w2 φ2 H2 _ s2 p2 => ⟨φ2, n2, _, s2.wf, er1.step s2, p2.bind fun u n3 w3 φ3 H3 _ s3 p3 => by
      obtain ⟨d4, n4, e4, p4⟩ := p3.of
      exact slD_ok (K := X.K) s3.wf (s3.car _ _ (s2.car _ _ r1)) e4 p4⟩⟩
/-- xs[::-1] -/
def eRevL (f : EV) : EV := fun n env => (f n env).bind fun d n1 _ => match d with
  | .lst _ ds => .ok (.lst n1 ds.reverse) (n1 + 1) []
  | _ => .bad
theorem x_revL {k : Nat} {p1 p2 p3 : Pos} (ha : PE X a (rdE T EX fa)) : PE X (.Subscript a (.Slice none none (some (.UnaryOp .USub (.Constant (.int 1) k p1) p2)) p3) pos) (rdE T EX (eRevL fa)) :=
  (pe_revL ha).to fun σ H Q ⟨φ, n, env, wf, er, p⟩ => go_e wf er p fun d n1 w1 φ1 H1 v s1 er1 r1 p1 => by
    split at p1
    · rename_i i ds
      rw [Rep] at r1
      obtain ⟨a, vs, e, pp, hh, rr⟩ := r1
      refine ⟨a, vs, e, .inl (.inl hh), fun q hq => ?_⟩
      obtain ⟨s2, r2⟩ := new_lst s1.wf hq rr.reverse
      exact p1 _ _ s2 _ r2
    · exact p1.elim

/-! ### fields -/
structure Fld (T : Tab) (K : PySem.W.Frag) (c : Nat) (j : Nat) (f : Str) : Prop where
  at_ : (T.flds c)[j]? = some f
  nd : (T.flds c).Nodup
  cl : ∀ C, T.cls c = some C → Cls K C ∧ NoAttr K C f
theorem lookup_zip : ∀ {ks : List Str} {vs : List V} {j : Nat} {f : Str} {v : V}, ks.Nodup → ks[j]? = some f → vs[j]? = some v → (ks.zip vs).lookup f = some v
  | [], _, _, _, _, _, h, _ => by simp at h
  | _ :: _, [], _, _, _, _, _, h => by simp at h
  | k :: ks, v :: vs, 0, f, u, nd, h1, h2 => by
    simp at h1 h2
    subst h1; subst h2
    simp [List.zip_cons_cons, List.lookup_cons]
  | k :: ks, v :: vs, j + 1, f, u, nd, h1, h2 => by
    have h1' : ks[j]? = some f := by simpa using h1
    have hne : f ≠ k := fun e => (List.nodup_cons.mp nd).1 (e ▸ List.mem_of_getElem? h1')
    rw [List.zip_cons_cons, List.lookup_cons]
    simp only [beq_eq_false_iff_ne.mpr hne]
    exact lookup_zip (List.nodup_cons.mp nd).2 h1' (by simpa using h2)
def eFld (c j : Nat) (f : EV) : EV := fun n env => (f n env).bind fun d n1 _ => match d with
  | .ins _ c' ds => if c' = c then (match ds[j]? with
    | some x => .ok x n1 []
    | none => .bad) else .bad
  | _ => .bad
theorem x_fld {c j : Nat} {f : Str} (F : Fld T X.K c j f) (ha : PE X a (rdE T EX fa)) (hb : attributeBase a f X.env (eval a X.env) = eval a X.env) : PE X (.Attribute a f pos) (rdE T EX (eFld c j fa)) :=
  (pe_fld ha hb).to fun σ H Q ⟨φ, n, env, wf, er, p⟩ => go_e wf er p fun d n1 w1 φ1 H1 v s1 er1 r1 p1 => by
    split at p1
    · rename_i i c' ds
      split at p1
      · rename_i hc
        subst hc
        split at p1
        · rename_i x hx
          rw [Rep] at r1
          obtain ⟨a, C, dx, vs, e, pp, hC, hh, hl, rr⟩ := r1
          obtain ⟨u, hu, ru⟩ := rr.get hx
          obtain ⟨h1, h2⟩ := F.cl C hC
          exact ⟨a, C, dx, _, u, e, hh, h1, h2, lookup_zip F.nd F.at_ hu, p1 _ _ (Step.refl s1.wf) u ru⟩
        · exact p1.elim
      · exact p1.elim
    · exact p1.elim
end

/-! ### calls of defs -/
abbrev FV := List D → Nat → R D
/-- what a def promises -/
def spF (T : Tab) (m : Nat) (f : FV) : Sp := fun vs H Q E => vs.length = m ∧ ∃ φ n ds, Wf φ n H ∧ Reps T φ H ds vs ∧ PostE T E φ n H (QV T Q) (f ds n)
def permL {α : Type} (perm : List Nat) (l : List α) : List α := perm.filterMap fun i => l[i]?
theorem permL_vals {perm : List Nat} : ∀ {vs : List V} {us : List Value}, Vals vs us → Vals (permL perm vs) (permL perm us) := by
  intro vs us r
  induction perm with
  | nil => exact .nil
  | cons i p ih =>
    unfold permL at ih ⊢
    rw [List.filterMap_cons, List.filterMap_cons]
    cases h : vs[i]? with
    | none => rw [r.none_of h]; exact ih
    | some v =>
      obtain ⟨u, h1, h2⟩ := r.get h
      rw [h1]
      exact .cons h2 ih
theorem permL_reps {T : Tab} {φ : Phi} {H : Hp} {perm : List Nat} : ∀ {ds : List D} {vs : List V}, Reps T φ H ds vs → Reps T φ H (permL perm ds) (permL perm vs) := by
  intro ds vs r
  induction perm with
  | nil => exact Reps.nil
  | cons i p ih =>
    unfold permL at ih ⊢
    rw [List.filterMap_cons, List.filterMap_cons]
    cases h : ds[i]? with
    | none =>
      have : vs[i]? = none := List.getElem?_eq_none_iff.mpr (by rw [r.length]; exact List.getElem?_eq_none_iff.mp h)
      rw [this]; exact ih
    | some v =>
      obtain ⟨u, h1, h2⟩ := r.get h
      rw [h1]
      exact Reps.cons h2 ih
/-- a call with keywords: n values, the keywords' names, the parameters' order -/
structure KPat where
  n : Nat
  ks : List Str
  perm : List Nat
def KPat.Ok (K : PySem.W.Frag) (fd : FuncData) (ps : List Str) (p : KPat) : Prop :=
  ∀ (s : Shared) (us ws : List Value), K.In s.heap → us.length = p.n → ws.length = p.ks.length → BindsTo s fd ⟨us, p.ks.zip ws⟩ (ps.zip (permL p.perm (us ++ ws)))
theorem KPat.Ok.kbn {K : PySem.W.Frag} {fd : FuncData} {ps : List Str} {p : KPat} (h : p.Ok K fd ps) : KBn K fd ps p.n p.ks (fun us ws => permL p.perm (us ++ ws)) (fun vs zs => permL p.perm (vs ++ zs)) :=
  ⟨fun s us ws X l1 l2 => h s us ws X l1 l2, fun r1 r2 => permL_vals (r1.append r2)⟩
/-- a def of the module: where it stands, what it promises -/
structure Fn (P : Program) (w : World) (K : PySem.W.Frag) (mg : Str → Option Value) (base : Heap) (CX : CXT) (T : Tab) (x : Str) (k : Nat) (ps : List Str) (f : FV) (pats : List KPat) : Prop where
  to : ∃ (a : Addr) (fd : FuncData), FnOk P w K mg base CX k a fd ps (spF T ps.length f) ∧ mg x = some (.ref a) ∧ PySem.W.keepIn K (.ref a) = true ∧ Binds K fd ps [] ∧ ∀ p ∈ pats, p.Ok K fd ps
theorem Fn.mono {P : Program} {w : World} {K : PySem.W.Frag} {mg : Str → Option Value} {base : Heap} {CX : CXT} {T : Tab} {x : Str} {j k : Nat} {ps : List Str} {f : FV} {pats : List KPat} (F : Fn P w K mg base CX T x j ps f pats) (h : j ≤ k) : Fn P w K mg base CX T x k ps f pats :=
  let ⟨a, fd, h1, h2⟩ := F.to
  ⟨a, fd, h1.mono h, h2⟩
def eCall (f : FV) (g : AV) : EV := fun n env => (g n env).bind fun ds n1 _ => f ds n1
def eCallK (f : FV) (perm : List Nat) (g gk : AV) : EV := fun n env => (g n env).bind fun ds n1 w1 => (gk n1 (putE w1 env)).bind fun es n2 w2 => f (permL perm (putsL w2 ds ++ es)) n2
section
variable {X : Cx} {T : Tab} {EX : XK} {CX : CXT} {a b c e o : Expr} {es : List Expr} {fa fb fc fe fo : EV} {ga gk : AV} {pos p apos : Pos} {x : Str} {k : Nat} {ps : List Str} {f : FV} {pats : List KPat} {kws : List Keyword}
theorem xk_nil : PK X [] (rdA T EX aNil) := pk_nil.to fun σ H Q ⟨φ, n, env, wf, er, p⟩ => p φ H (Step.refl wf) [] Reps.nil
theorem xk_cons {nm : Option Str} {kpos : Pos} (ha : PE X e (rdE T EX fe)) (hr : PK X kws (rdA T EX ga)) : PK X (⟨nm, e, kpos⟩ :: kws) (rdA T EX (aCons fe ga)) :=
  (pk_cons ha hr).to fun σ H Q ⟨φ, n, env, wf, er, p⟩ => go_e wf er p fun d n1 w1 φ1 H1 v s1 er1 r1 p1 => go_a s1.wf er1 p1 fun ds n2 w2 φ2 H2 vs s2 er2 r2 p2 =>
    p2 φ2 H2 (Step.refl s2.wf) _ (Reps.cons (s2.car _ _ r1) r2)
theorem x_call (F : Fn X.prog X.w X.K X.mg X.base CX T x k ps f pats) (hr : Room k X.A) (hg : Gl X x) (hx : Passes CX X EX) (ha : PA X (e :: es) (rdA T EX ga)) (hlen : (e :: es).length = ps.length)
    (hla : ∀ n env ds n1 w1, ga n env = .ok ds n1 w1 → ds.length = (e :: es).length)
    (hdb : (x == ("__debug__" : Str)) = false := by decide) (he : starEach (e :: es) X.env = (false, eval e X.env) :: starEach es X.env := by rfl) (hpl : (backTo pos (starEach es X.env)).any (·.1) = false := by rfl) :
    PE X (.Call (.Name x p) (e :: es) [] pos) (rdE T EX (eCall f ga)) := by
  obtain ⟨a, fd, h1, h2, h3, h4, _⟩ := F.to
  refine (pe_call (dvs := []) (ds := []) h1 hr hg h2 h3 h4 .nil hx ha hdb he hpl).to fun σ H Q ⟨φ, n, env, wf, er, p⟩ => ⟨φ, n, env, wf, er, p.bind fun ds n1 w1 φ1 H1 eq s1 p1 vs r1 => ?_⟩
  show spF T ps.length f (vs ++ []) H1 Q EX
  rw [List.append_nil]
  exact ⟨by rw [r1.length, hla _ _ _ _ _ eq, hlen], φ1, n1, ds, s1.wf, r1, p1⟩
theorem x_call0 (F : Fn X.prog X.w X.K X.mg X.base CX T x k [] f pats) (hr : Room k X.A) (hg : Gl X x) (hx : Passes CX X EX) (hdb : (x == ("__debug__" : Str)) = false := by decide) : PE X (.Call (.Name x p) [] [] pos) (rdE T EX (eCall f aNil)) := by
  obtain ⟨a, fd, h1, h2, h3, h4, _⟩ := F.to
  refine (pe_call0 (dvs := []) (ds := []) h1 hr hg h2 h3 h4 .nil hx hdb).to fun σ H Q ⟨φ, n, env, wf, er, p⟩ => ?_
  exact ⟨rfl, φ, n, [], wf, Reps.nil, (p : PostE T EX φ n H (QV T Q) ((f [] n).pre [])).pre (Step.refl wf)⟩
theorem x_callK {pt : KPat} (F : Fn X.prog X.w X.K X.mg X.base CX T x k ps f pats) (hp : pt ∈ pats) (hr : Room k X.A) (hg : Gl X x) (hx : Passes CX X EX) (ha : PA X (e :: es) (rdA T EX ga)) (hk : PK X kws (rdA T EX gk))
    (hn : (e :: es).length = pt.n) (hm : kws.length = pt.ks.length) (hl : ps.length = pt.perm.length) (hlt : ∀ i ∈ pt.perm, i < pt.n + pt.ks.length)
    (hla : ∀ n env ds n1 w1, ga n env = .ok ds n1 w1 → ds.length = (e :: es).length) (hlk : ∀ n env ds n1 w1, gk n env = .ok ds n1 w1 → ds.length = kws.length)
    (hall : (backToKw pos (keywordEach kws X.env)).all (·.1.isSome) = true := by rfl) (hks : (backToKw pos (keywordEach kws X.env)).filterMap (·.1) = pt.ks := by rfl)
    (hdb : (x == ("__debug__" : Str)) = false := by decide) (he : starEach (e :: es) X.env = (false, eval e X.env) :: starEach es X.env := by rfl)
    (hpl : ((backTo pos (starEach (e :: es) X.env)).any (·.1) || (backToKw pos (keywordEach kws X.env)).any (·.1.isNone)) = false := by rfl) :
    PE X (.Call (.Name x p) (e :: es) kws pos) (rdE T EX (eCallK f pt.perm ga gk)) := by
  obtain ⟨a, fd, h1, h2, h3, _, h5⟩ := F.to
  refine (pe_callN h1 hr hg h2 h3 (h5 pt hp).kbn hx ha hk hall hks hdb he hpl).to fun σ H Q ⟨φ, n, env, wf, er, p⟩ => ⟨φ, n, env, wf, er, p.bind fun ds n1 w1 φ1 H1 eq s1 p1 vs r1 => ⟨φ1, n1, _, s1.wf, er.step s1, p1.bind fun es n2 w2 φ2 H2 eq2 s2 p2 us r2 => ?_⟩⟩
  have l1 : vs.length = pt.n := by rw [r1.length, hla _ _ _ _ _ eq, hn]
  have l2 : us.length = pt.ks.length := by rw [r2.length, hlk _ _ _ _ _ eq2, hm]
  refine ⟨l1, l2, ?_, φ2, n2, _, s2.wf, permL_reps ((s2.carL r1).append r2), p2⟩
  rw [hl]
  have h6 : ∀ (q : List Nat), (∀ i ∈ q, i < pt.n + pt.ks.length) → (permL q (vs ++ us)).length = q.length := by
    intro q
    induction q with
    | nil => intro _; rfl
    | cons i r ih =>
      intro hq
      have hi : i < (vs ++ us).length := by rw [List.length_append, l1, l2]; exact hq i List.mem_cons_self
      unfold permL at ih ⊢
      rw [List.filterMap_cons, List.getElem?_eq_getElem hi]
      show (_ :: _).length = _
      rw [List.length_cons, ih fun j hj => hq j (List.mem_cons_of_mem _ hj), List.length_cons]
  exact h6 _ hlt
theorem x_callK0 {pt : KPat} (F : Fn X.prog X.w X.K X.mg X.base CX T x k ps f pats) (hp : pt ∈ pats) (hr : Room k X.A) (hg : Gl X x) (hx : Passes CX X EX) (hk : PK X kws (rdA T EX gk))
    (hn : 0 = pt.n) (hm : kws.length = pt.ks.length) (hl : ps.length = pt.perm.length) (hlt : ∀ i ∈ pt.perm, i < pt.n + pt.ks.length)
    (hlk : ∀ n env ds n1 w1, gk n env = .ok ds n1 w1 → ds.length = kws.length)
    (hall : (backToKw pos (keywordEach kws X.env)).all (·.1.isSome) = true := by rfl) (hks : (backToKw pos (keywordEach kws X.env)).filterMap (·.1) = pt.ks := by rfl)
    (hdb : (x == ("__debug__" : Str)) = false := by decide)
    (hpl : ((backTo pos (starEach [] X.env)).any (·.1) || (backToKw pos (keywordEach kws X.env)).any (·.1.isNone)) = false := by rfl) :
    PE X (.Call (.Name x p) [] kws pos) (rdE T EX (eCallK f pt.perm aNil gk)) := by
  obtain ⟨a, fd, h1, h2, h3, _, h5⟩ := F.to
  refine PE.to (t := fun σ H Q => rdA T EX gk σ H fun zs H2 => zs.length = pt.ks.length ∧ spF T ps.length f (permL pt.perm ([] ++ zs)) H2 Q EX) ⟨fun pins s σ H Q I h => ?_⟩ fun σ H Q ⟨φ, n, env, wf, er, p⟩ => ?_
  · refine wpAny_Call_Name_kw (ld_glob I hg h2 ?_ hdb)
    refine PySem.W.callWith_KW0 (h₀ := X.base) I.ok.mod.kin h3 hall (thn (hk.run pos pins s σ H _ I h) fun ws s2 ⟨zs, H2, I2, rz, l2, q2⟩ => ⟨I2.kIn, ?_⟩) hpl
    rw [hks]
    exact run_fnN (us := []) (vs := []) h1 hr (h5 pt hp).kbn hx I2 .nil rz hn l2 q2
  · have p' : PostE T EX φ n H (QV T Q) ((gk n env).bind fun es n2 w2 => f (permL pt.perm (putsL w2 [] ++ es)) n2) := by
      have := (p : PostE T EX φ n H (QV T Q) (R.pre [] ((gk n (putE [] env)).bind fun es n2 w2 => f (permL pt.perm (putsL w2 [] ++ es)) n2))).pre (Step.refl wf)
      exact this
    refine ⟨φ, n, env, wf, er, p'.bind fun es n2 w2 φ2 H2 eq2 s2 p2 us r2 => ?_⟩
    have l2 : us.length = pt.ks.length := by rw [r2.length, hlk _ _ _ _ _ eq2, hm]
    refine ⟨l2, ?_, φ2, n2, _, s2.wf, permL_reps (Reps.nil.append r2), p2⟩
    rw [hl]
    have h6 : ∀ (q : List Nat), (∀ i ∈ q, i < pt.n + pt.ks.length) → (permL q ([] ++ us)).length = q.length := by
      intro q
      induction q with
      | nil => intro _; rfl
      | cons i r ih =>
        intro hq
        have hi : i < ([] ++ us).length := by rw [List.nil_append, l2]; have := hq i List.mem_cons_self; omega
        unfold permL at ih ⊢
        rw [List.filterMap_cons, List.getElem?_eq_getElem hi]
        show (_ :: _).length = _
        rw [List.length_cons, ih fun j hj => hq j (List.mem_cons_of_mem _ hj), List.length_cons]
    exact h6 _ hlt

/-! ### C(..) -/
def R.cut {α : Type} (n0 : Nat) : R α → R α
  | .ok a n w => .ok a n (cutW n0 w)
  | .ex c d n w => .ex c d n (cutW n0 w)
  | .bad => .bad
theorem PostE.cut {α : Type} {φ : Phi} {n : Nat} {H : Hp} {Q : α → Phi → Nat → Hp → Prop} {r : R α} (hw : Wf φ n H) (h : PostE T EX φ n H Q (r.cut n)) : PostE T EX φ n H Q r := by
  cases r with
  | ok a n' w => exact fun φ' H' s => h φ' H' (s.cut hw)
  | ex c d n' w => exact fun φ' H' s => h φ' H' (s.cut hw)
  | bad => exact h
structure Mkr (P : Program) (w : World) (K : PySem.W.Frag) (mg : Str → Option Value) (base : Heap) (CX : CXT) (T : Tab) (x : Str) (c : Nat) (k : Nat) (ps : List Str) (f : FV) (pats : List KPat) : Prop where
  to : ∃ (C a : Addr) (fd : FuncData), T.cls c = some C ∧ mg x = some (.ref C) ∧ Mk K C a ∧ FnOk P w K mg base CX k a fd ps (spF T ps.length f) ∧ Binds K fd ps [] ∧ ∀ p ∈ pats, KPat.Ok K fd ps p
def mkD (c : Nat) (f : FV) (ds : List D) (n : Nat) : R D := ((f (.ins n c [] :: ds) (n + 1)).bind fun r n2 w2 => match r with
  | .non => .ok (puts w2 (.ins n c [])) n2 []
  | _ => .bad).cut n
def eMake (c : Nat) (f : FV) (g : AV) : EV := fun n env => (g n env).bind fun ds n1 _ => mkD c f ds n1
def eMakeK (c : Nat) (f : FV) (perm : List Nat) (g gk : AV) : EV := fun n env => (g n env).bind fun ds n1 w1 => (gk n1 (putE w1 env)).bind fun es n2 w2 => mkD c (fun xs => f (permL perm xs)) (putsL w2 ds ++ es) n2
theorem new_ins {c : Nat} {φ : Phi} {n : Nat} {H : Hp} {C y dx : Addr} (hw : Wf φ n H) (hC : T.cls c = some C) (h1 : H y = none) (h2 : H dx = none) (hne : dx ≠ y) :
    Step T φ n H [] (phiAt φ n y) (n + 1) (upd (upd H dx (.own y)) y (.ins C dx [])) ∧ Rep T (phiAt φ n y) (upd (upd H dx (.own y)) y (.ins C dx [])) (.ins n c []) (.ref y) := by
  have hw1 : Wf φ n (upd H dx (.own y)) := wf_tup hw h2
  have hy : upd H dx (.own y) y = none := by rw [upd_ne (Ne.symm hne)]; exact h1
  have g1 : Grow φ φ H (upd H dx (.own y)) := grow_tup h2
  have g2 := grow_new (o := .ins C dx []) hw1 hy
  have g : Grow φ (phiAt φ n y) H (upd (upd H dx (.own y)) y (.ins C dx [])) := ⟨fun i a e => g2.1 i a (g1.1 i a e), fun a o e => g2.2 a o (g1.2 a o e)⟩
  refine ⟨g.step (wf_new hw1 hy fun xs e => by cases e) (Nat.le_succ _) (phi_new h1), ?_⟩
  rw [Rep]
  exact ⟨y, C, dx, [], rfl, phiAt_self, hC, by rw [upd_same, List.zip_nil_right], Nat.zero_le _, Reps.nil⟩
theorem mkD_go {c : Nat} {C : Addr} {f : FV} {φ : Phi} {n : Nat} {H : Hp} {ds : List D} {vs : List V} {Q : VK} {m : Nat} (hw : Wf φ n H) (hC : T.cls c = some C) (r : Reps T φ H ds vs) (hm : vs.length + 1 = m) (p : PostE T EX φ n H (QV T Q) (mkD c f ds n)) (x dx : Addr) (h1 : H x = none) (h2 : H dx = none) (hne : dx ≠ x) :
    spF T m f (.ref x :: vs) (upd (upd H dx (.own x)) x (.ins C dx [])) (fun v H2 => v = .non ∧ Q (.ref x) H2) EX := by
  obtain ⟨s1, r1⟩ := new_ins (T := T) hw hC h1 h2 hne
  have r2 := s1.carL r
  rw [putsL_nil] at r2
  refine ⟨by rw [List.length_cons]; exact hm, _, n + 1, _, s1.wf, Reps.cons r1 r2, ?_⟩
  have p1 := PostE.pre (w := []) (r := (f (.ins n c [] :: ds) (n + 1)).bind fun r n2 w2 => match r with
    | .non => .ok (puts w2 (.ins n c [])) n2 []
    | _ => .bad) (by
      have := p.cut hw
      cases h : ((f (.ins n c [] :: ds) (n + 1)).bind fun r n2 w2 => match r with
        | .non => R.ok (puts w2 (.ins n c [])) n2 []
        | _ => .bad) with
      | ok a n' w' => rw [h] at this; exact fun φ' H' s => this φ' H' (by have := s; rwa [nil_comp] at this)
      | ex a b n' w' => rw [h] at this; exact fun φ' H' s => this φ' H' (by have := s; rwa [nil_comp] at this)
      | bad => rw [h] at this; exact this) s1
  refine p1.bind fun d n2 w2 φ2 H2 _ s2 p2 v rv => ?_
  split at p2
  · rw [Rep] at rv
    exact ⟨rv, p2 φ2 H2 (Step.refl s2.wf) _ (s2.car _ _ r1)⟩
  · exact p2.elim
theorem x_make {c : Nat} (F : Mkr X.prog X.w X.K X.mg X.base CX T x c k ps f pats) (hr : Room (k + 1) X.A) (hg : Gl X x) (hx : Passes CX X EX) (ha : PA X (e :: es) (rdA T EX ga)) (hlen : (e :: es).length + 1 = ps.length)
    (hla : ∀ n env ds n1 w1, ga n env = .ok ds n1 w1 → ds.length = (e :: es).length)
    (hdb : (x == ("__debug__" : Str)) = false := by decide) (he : starEach (e :: es) X.env = (false, eval e X.env) :: starEach es X.env := by rfl) (hpl : (backTo pos (starEach es X.env)).any (·.1) = false := by rfl) :
    PE X (.Call (.Name x p) (e :: es) [] pos) (rdE T EX (eMake c f ga)) := by
  obtain ⟨C, a, fd, h1, h2, h3, h4, h5, _⟩ := F.to
  refine (pe_make (dvs := []) (ds := []) h3 h4 hr hg h2 h5 .nil hx ha hdb he hpl).to fun σ H Q ⟨φ, n, env, wf, er, p⟩ => ⟨φ, n, env, wf, er, p.bind fun ds n1 w1 φ1 H1 eq s1 p1 vs r1 => ?_⟩
  intro y dx e1 e2 e3
  rw [List.append_nil]
  exact mkD_go s1.wf h1 r1 (by rw [r1.length, hla _ _ _ _ _ eq, hlen]) p1 y dx e1 e2 e3

/-! ### methods of own classes -/
structure Mth (P : Program) (w : World) (K : PySem.W.Frag) (mg : Str → Option Value) (base : Heap) (CX : CXT) (T : Tab) (c : Nat) (m : Str) (k : Nat) (ps : List Str) (f : FV) : Prop where
  to : ∃ (C a : Addr) (fd : FuncData), T.cls c = some C ∧ Cls K C ∧ Meth K C m a ∧ FnOk P w K mg base CX k a fd ps (spF T ps.length f) ∧ Binds K fd ps [] ∧ m ∉ T.flds c
theorem lookup_zip_none : ∀ {ks : List Str} {vs : List V} {f : Str}, f ∉ ks → (ks.zip vs).lookup f = none
  | [], _, _, _ => rfl
  | _ :: _, [], _, _ => rfl
  | k :: ks, v :: vs, f, h => by
    rw [List.zip_cons_cons, List.lookup_cons]
    simp only [List.mem_cons, not_or] at h
    simp only [beq_eq_false_iff_ne.mpr h.1]
    exact lookup_zip_none h.2
def eMth (c : Nat) (f : FV) (o : EV) (g : AV) : EV := fun n env => (o n env).bind fun d n1 w1 => match d with
  | .ins i c' fs => if c' = c then (g n1 (putE w1 env)).bind fun ds n2 w2 => f (puts w2 (.ins i c' fs) :: ds) n2 else .bad
  | _ => .bad
theorem x_mth {c : Nat} {m : Str} {pl : Sem Bool} (F : Mth X.prog X.w X.K X.mg X.base CX T c m k ps f) (hr : Room k X.A) (hx : Passes CX X EX) (ho : PE X o (rdE T EX fo)) (ha : PA X (e :: es) (rdA T EX ga)) (hlen : (e :: es).length + 1 = ps.length)
    (hla : ∀ n env ds n1 w1, ga n env = .ok ds n1 w1 → ds.length = (e :: es).length)
    (hst : starEach (e :: es) X.env = (false, eval e X.env) :: starEach es X.env := by rfl) (hpl : (backTo pos (starEach es X.env)).any (·.1) = false := by rfl)
    (ht : eval (.Call (.Attribute o m apos) (e :: es) [] pos) X.env = (do
      let ov ← eval o X.env
      standAt apos.atName
      let (f, first) ← holding [ov] (getMethod ov m pl)
      callWith pos f first (backTo pos (starEach (e :: es) X.env)) (backToKw pos (keywordEach [] X.env))) := by rfl) : PE X (.Call (.Attribute o m apos) (e :: es) [] pos) (rdE T EX (eMth c f fo ga)) := by
  obtain ⟨C, a, fd, h1, h2, h3, h4, h5, h6⟩ := F.to
  refine (pe_meth (dvs := []) (ds := []) (pl := pl) ho h2 h3 h4 hr h5 .nil hx ha hst hpl ht).to fun σ H Q ⟨φ, n, env, wf, er, p⟩ => go_e wf er p fun d n1 w1 φ1 H1 v s1 er1 r1 p1 => ?_
  split at p1
  · rename_i i c' fs
    split at p1
    · rename_i hc
      subst hc
      have r0 := r1
      rw [Rep] at r1
      obtain ⟨y, C', dx, vs, e1, pp, hC, hh, hl, rr⟩ := r1
      rw [h1] at hC; cases hC
      refine ⟨y, dx, _, e1, hh, lookup_zip_none h6, ⟨φ1, n1, _, s1.wf, er1, p1.bind fun ds n2 w2 φ2 H2 eq s2 p2 us r2 => ?_⟩⟩
      show spF T ps.length f (v :: (us ++ [])) H2 Q EX
      rw [List.append_nil]
      exact ⟨by rw [List.length_cons, r2.length, hla _ _ _ _ _ eq, hlen], φ2, n2, _, s2.wf, Reps.cons (s2.car _ _ r0) r2, p2⟩
    · exact p1.elim
  · exact p1.elim
theorem x_mth0 {c : Nat} {m : Str} {pl : Sem Bool} (F : Mth X.prog X.w X.K X.mg X.base CX T c m k ps f) (hr : Room k X.A) (hx : Passes CX X EX) (ho : PE X o (rdE T EX fo)) (hlen : 1 = ps.length)
    (ht : eval (.Call (.Attribute o m apos) [] [] pos) X.env = (do
      let ov ← eval o X.env
      standAt apos.atName
      let (f, first) ← holding [ov] (getMethod ov m pl)
      callWith pos f first (backTo pos (starEach [] X.env)) (backToKw pos (keywordEach [] X.env))) := by rfl) : PE X (.Call (.Attribute o m apos) [] [] pos) (rdE T EX (eMth c f fo aNil)) := by
  obtain ⟨C, a, fd, h1, h2, h3, h4, h5, h6⟩ := F.to
  refine (pe_meth0 (dvs := []) (ds := []) (pl := pl) ho h2 h3 h4 hr h5 .nil hx ht).to fun σ H Q ⟨φ, n, env, wf, er, p⟩ => go_e wf er p fun d n1 w1 φ1 H1 v s1 er1 r1 p1 => ?_
  split at p1
  · rename_i i c' fs
    split at p1
    · rename_i hc
      subst hc
      have r0 := r1
      rw [Rep] at r1
      obtain ⟨y, C', dx, vs, e1, pp, hC, hh, hl, rr⟩ := r1
      rw [h1] at hC; cases hC
      refine ⟨y, dx, _, e1, hh, lookup_zip_none h6, ?_⟩
      refine ⟨by show 1 = _; exact hlen, φ1, n1, _, s1.wf, Reps.cons r0 Reps.nil, ?_⟩
      have p2 := (p1 : PostE T EX φ1 n1 H1 (QV T Q) (R.pre [] (f (puts [] (.ins i c' fs) :: []) n1))).pre (Step.refl s1.wf)
      dsimp only at p2
      rwa [puts_nil] at p2
    · exact p1.elim
  · exact p1.elim

/-! ### built-ins by name; methods of built-in types -/
def Cal (T : Tab) (g : List D → Nat → Option (D × Nat)) (r : List V → Hp → VK → Prop) : Prop := ∀ φ n H ds vs d n' Q, Wf φ n H → Reps T φ H ds vs → g ds n = some (d, n') →
  (∀ φ' H', Step T φ n H [] φ' n' H' → ∀ v, Rep T φ' H' d v → Q v H') → r vs H Q
def eB (g : List D → Nat → Option (D × Nat)) (ga : AV) : EV := fun n env => (ga n env).bind fun ds n1 _ => R.of (g ds n1)
theorem cal_go {g : List D → Nat → Option (D × Nat)} {r : List V → Hp → VK → Prop} (hg : Cal T g r) : ∀ σ H Q, rdE T EX (eB g ga) σ H Q → tCB r (rdA T EX ga) σ H Q :=
  fun σ H Q ⟨φ, n, env, wf, er, p⟩ => go_a wf er p fun ds n1 w1 φ1 H1 vs s1 er1 r1 p1 => by
    obtain ⟨d2, n2, e2, p2⟩ := p1.of
    exact hg _ _ _ _ _ _ _ _ s1.wf r1 e2 p2
theorem x_callB {id : String} {g : List D → Nat → Option (D × Nat)} {r : List V → Hp → VK → Prop} (hc : CallR X (.builtin id) r) (hgg : Cal T g r) (hg : Gl X x) (hm : X.mg x = none) (hv : bootBuiltins x = some (.builtin id)) (ha : PA X (e :: es) (rdA T EX ga))
    (hn : x ≠ "__name__" := by decide) (hdb : (x == ("__debug__" : Str)) = false := by decide)
    (he : starEach (e :: es) X.env = (false, eval e X.env) :: starEach es X.env := by rfl) (hpl : (backTo pos (starEach es X.env)).any (·.1) = false := by rfl) : PE X (.Call (.Name x p) (e :: es) [] pos) (rdE T EX (eB g ga)) :=
  (pe_callB hc hg hm hv ha hn hdb he hpl).to (cal_go hgg)
theorem x_callTy {id : String} {g : List D → Nat → Option (D × Nat)} {r : List V → Hp → VK → Prop} (hc : CallR X (.type id) r) (hgg : Cal T g r) (hg : Gl X x) (hm : X.mg x = none) (hv : bootBuiltins x = some (.type id)) (ha : PA X (e :: es) (rdA T EX ga))
    (hn : x ≠ "__name__" := by decide) (hdb : (x == ("__debug__" : Str)) = false := by decide)
    (he : starEach (e :: es) X.env = (false, eval e X.env) :: starEach es X.env := by rfl) (hpl : (backTo pos (starEach es X.env)).any (·.1) = false := by rfl) : PE X (.Call (.Name x p) (e :: es) [] pos) (rdE T EX (eB g ga)) :=
  (pe_callTy hc hg hm hv ha hn hdb he hpl).to (cal_go hgg)
/-- o.m(..) of a built-in type: the value, the next id, the stores -/
abbrev MV := D → List D → Nat → Option (D × Nat × Wr)
def R.ofW : Option (D × Nat × Wr) → R D
  | some (d, n, w) => .ok d n w
  | none => .bad
def Mt (T : Tab) (K : PySem.W.Frag) (ty : String) (g : MV) (r : V → List V → Hp → VK → Prop) : Prop := ∀ φ n H x xs v vs d n' w Q, Wf φ n H → Rep T φ H x v → Reps T φ H xs vs → g x xs n = some (d, n', w) →
  (∀ φ' H', Step T φ n H w φ' n' H' → ∀ u, Rep T φ' H' d u → Q u H') → r v vs H Q
/-- the data is of the built-in type -/
def tyD (ty : String) : D → Bool
  | .lst _ _ => ty == "list"
  | .str _ => ty == "str"
  | .int _ => ty == "int"
  | .dic _ _ _ => ty == "dict"
  | _ => false
def eM (ty : String) (g : MV) (o : EV) (ga : AV) : EV := fun n env => (o n env).bind fun d n1 w1 => if tyD ty d = true then (ga n1 (putE w1 env)).bind fun ds n2 w2 => R.ofW (g (puts w2 d) ds n2) else .bad
theorem tyD_ok {K : PySem.W.Frag} {ty : String} {d : D} {v : V} {φ : Phi} {H : Hp} (h : tyD ty d = true) (r : Rep T φ H d v) : tyV K ty v H := by
  cases d with
  | lst i ds =>
    rw [Rep] at r
    obtain ⟨a, vs, rfl, p, q, r⟩ := r
    exact .inl ⟨by simpa [tyD] using h, vs, .inl (.inl q)⟩
  | str x => rw [Rep] at r; subst r; show ty = "str"; simpa [tyD] using h
  | int x => rw [Rep] at r; subst r; show ty = "int"; simpa [tyD] using h
  | dic i ks ds =>
    rw [Rep] at r
    obtain ⟨a, vs, rfl, p, q, r⟩ := r
    exact .inr (.inr (.inl ⟨by simpa [tyD] using h, .inl ⟨_, q⟩⟩))
  | _ => cases h
theorem PostE.ofW {φ : Phi} {n : Nat} {H : Hp} {Q : D → Phi → Nat → Hp → Prop} {r : Option (D × Nat × Wr)} (h : PostE T EX φ n H Q (R.ofW r)) : ∃ a n' w, r = some (a, n', w) ∧ ∀ φ' H', Step T φ n H w φ' n' H' → Q a φ' n' H' := by
  cases r with
  | none => exact h.elim
  | some p => obtain ⟨a, n', w⟩ := p; exact ⟨a, n', w, rfl, h⟩
theorem x_bm {ty id : String} {m : Str} {g : MV} {r : V → List V → Hp → VK → Prop} (pa : PlainAttrs ty) (slot : Slot ty m id) (hty : typeOf (.builtin id) = pure (.type "method_descriptor")) (hm : MtR X id r) (hg : Mt T X.K ty g r) (ho : PE X o (rdE T EX fo)) (ha : PA X (e :: es) (rdA T EX ga))
    (hbase : attributeBase o m X.env (eval o X.env) = eval o X.env := by rfl)
    (hfew : ((backTo pos (starEach (e :: es) X.env)).all (fun x => !x.1) && (backToKw pos (keywordEach [] X.env)).all (fun x => x.1.isSome)
      && decide ((e :: es).length + ([] : List Keyword).length + (if ([] : List Keyword).isEmpty then 0 else 1) < 30)) = true := by rfl)
    (hline : (apos.endLine == pos.line) = true := by rfl) (hs : starEach (e :: es) X.env = (false, eval e X.env) :: starEach es X.env := by rfl) (hplain : (backTo pos (starEach es X.env)).any (·.1) = false := by rfl) :
    PE X (.Call (.Attribute o m apos) (e :: es) [] pos) (rdE T EX (eM ty g fo ga)) :=
  (pe_bm pa slot hty hm ho ha hbase hfew hline hs hplain).to fun σ H Q ⟨φ, n, env, wf, er, p⟩ => go_e wf er p fun d n1 w1 φ1 H1 v s1 er1 r1 p1 => by
    split at p1
    · rename_i ht
      refine ⟨tyD_ok ht r1, go_a s1.wf er1 p1 fun ds n2 w2 φ2 H2 vs s2 er2 r2 p2 => ?_⟩
      obtain ⟨d3, n3, w3, e3, p3⟩ := p2.ofW
      exact hg _ _ _ _ _ _ _ _ _ _ _ s2.wf (s2.car _ _ r1) r2 e3 p3
    · exact p1.elim
theorem x_bm0 {ty id : String} {m : Str} {g : MV} {r : V → List V → Hp → VK → Prop} (pa : PlainAttrs ty) (slot : Slot ty m id) (hty : typeOf (.builtin id) = pure (.type "method_descriptor")) (hm : MtR X id r) (hg : Mt T X.K ty g r) (ho : PE X o (rdE T EX fo))
    (hbase : attributeBase o m X.env (eval o X.env) = eval o X.env := by rfl) (hline : (apos.endLine == pos.line) = true := by rfl) :
    PE X (.Call (.Attribute o m apos) [] [] pos) (rdE T EX (eM ty g fo aNil)) :=
  (pe_bm0 pa slot hty hm ho hbase hline).to fun σ H Q ⟨φ, n, env, wf, er, p⟩ => go_e wf er p fun d n1 w1 φ1 H1 v s1 er1 r1 p1 => by
    split at p1
    · rename_i ht
      refine ⟨tyD_ok ht r1, ?_⟩
      have p2 := (p1 : PostE T EX φ1 n1 H1 (QV T Q) (R.pre [] (R.ofW (g (puts [] d) [] n1)))).pre (Step.refl s1.wf)
      dsimp only at p2
      rw [puts_nil] at p2
      obtain ⟨d3, n3, w3, e3, p3⟩ := p2.ofW
      exact hg _ _ _ _ _ _ _ _ _ _ _ s1.wf r1 Reps.nil e3 p3
    · exact p1.elim
end
end Sx
end
section
set_option Elab.async false
set_option linter.all false
set_option maxRecDepth 100000
set_option maxHeartbeats 1000000
/-! Sx.D0: max, min of a tuple of ints. -/
namespace Sx
open PySem PySem.Spec PyProof.Rows L2
section
variable {prog : Program} {w : World} {A : Around} {E : Value → Shared → Prop} {s : Shared} {tp : Addr} {xs : Array (Int × Tok)} {its : List Value} {ns : List Int}
theorem iter_tupI {Q : Value → Shared → Prop} (ht : s.heap.IsTuple tp (intItems xs))
    (q : ∀ s₂ : Shared, s₂ = { s with heap := s.heap.push { cls := .type "tuple_iterator", data := .fields #[.ref tp, .int 0 0] } } →
      (s₂.heap.IsTupleIter s.heap.objs.size tp 0 ∧ s₂.heap.IsTuple tp (intItems xs)) → (∀ b ∈ [s.heap.objs.size, tp], b < s₂.heap.objs.size) → tp ≠ s.heap.objs.size → Q (.ref s.heap.objs.size) s₂) :
    wpAny (model prog w) A (pyIter (.ref tp)) Q E s := by
  have tlt : tp < s.heap.objs.size := by obtain ⟨_, e, _⟩ := ht; exact Heap.lt_size e
  refine wpAny_pyIter_tuple ht (q _ rfl ⟨⟨_, Heap.get?_push_size _ rfl, rfl, rfl⟩, ht.push _⟩ (fun b hb => ?_) (Nat.ne_of_lt tlt))
  have sz := Heap.size_push s.heap { cls := .type "tuple_iterator", data := .fields #[.ref tp, .int 0 0] }
  have hb' : b = s.heap.objs.size ∨ b = tp := by simpa using hb
  rcases hb' with r | r <;> rw [r]
  · exact Nat.lt_of_lt_of_eq (Nat.lt_succ_self _) sz.symm
  · exact Nat.lt_of_lt_of_eq (Nat.lt_succ_of_lt tlt) sz.symm
theorem tup_old {h' : Heap} (hk : ∀ b o, b ∉ [s.heap.objs.size] → (s.heap.push { cls := .type "tuple_iterator", data := .fields #[.ref tp, .int 0 0] }).get? b = some o → h'.get? b = some o) :
    ∀ b o, s.heap.get? b = some o → h'.get? b = some o := fun b o e => hk b o (fun hm => by
      rw [List.mem_singleton] at hm
      exact absurd (hm ▸ Heap.lt_size e) (Nat.lt_irrefl _)) (Heap.get?_push_of_some _ e)
theorem max_tupI {Q : Value → Shared → Prop} (hA : A.handled = none) (ht : s.heap.IsTuple tp (intItems xs)) (ne : 0 < xs.size)
    (q : ∀ v h' tk, (intItems xs)[argBest (fun i j => decide (numAt xs i > numAt xs j)) (xs.size - 1)]? = some v → (∀ b o, s.heap.get? b = some o → h'.get? b = some o) → Q v { s with heap := h', toks := tk }) :
    wpAny (model prog w) A (call (.builtin "max") [.ref tp]) Q E s := by
  refine call_max_walk (iter_tupI ht fun s₂ e st hfp hI => ?_)
  subst e
  exact ⟨_, _, _, _, _, _, _, rfl, Walks.tuple (A := A.in1) hA _ tp hI (intItems xs), st, hfp, by simpa [intItems] using ne, CmpOf.ints_gt (numAt xs) (fun _ _ => intItems_at), fun v h' tk hP hk => q v h' tk (by simpa [intItems] using hP) (tup_old hk)⟩
theorem min_tupI {Q : Value → Shared → Prop} (hA : A.handled = none) (ht : s.heap.IsTuple tp (intItems xs)) (ne : 0 < xs.size)
    (q : ∀ v h' tk, (intItems xs)[argBest (fun i j => decide (numAt xs i < numAt xs j)) (xs.size - 1)]? = some v → (∀ b o, s.heap.get? b = some o → h'.get? b = some o) → Q v { s with heap := h', toks := tk }) :
    wpAny (model prog w) A (call (.builtin "min") [.ref tp]) Q E s := by
  refine call_min_walk (iter_tupI ht fun s₂ e st hfp hI => ?_)
  subst e
  exact ⟨_, _, _, _, _, _, _, rfl, Walks.tuple (A := A.in1) hA _ tp hI (intItems xs), st, hfp, by simpa [intItems] using ne, CmpOf.ints_lt (numAt xs) (fun _ _ => intItems_at), fun v h' tk hP hk => q v h' tk (by simpa [intItems] using hP) (tup_old hk)⟩
theorem max_tupN {Q : Value → Shared → Prop} (hA : A.handled = none) (ht : s.heap.IsTuple tp its.toArray) (hi : IntsAre its ns) (ne : 0 < ns.length)
    (q : ∀ h' tk M t', (∀ b o, s.heap.get? b = some o → h'.get? b = some o) → M ∈ ns → (∀ a, a ∈ ns → a ≤ M) → Q (.int M t') { s with heap := h', toks := tk }) : wpAny (model prog w) A (call (.builtin "max") [.ref tp]) Q E s := by
  obtain ⟨xs, e⟩ := hi.allInts.items
  have en : numsOf (intItems xs).toList = ns := by rw [← e]; exact hi.numsOf
  rw [nums_intItems] at en; subst en; rw [e] at ht
  refine max_tupI hA ht (by simpa using ne) fun v h' tk hv hk => ?_
  obtain ⟨t, rfl⟩ := intItems_at hv
  have hb := (argBest_gt (numAt xs) (xs.size - 1))
  have n1 : 0 < xs.size := by simpa using ne
  refine q h' tk _ t hk (by rw [numAt_eq]; exact PySem.getD_mem (by rw [List.length_map, Array.length_toList]; have := hb.1; omega)) fun a ha => ?_
  obtain ⟨j, hj, rfl⟩ := mem_getD ha
  rw [List.length_map, Array.length_toList] at hj; rw [← numAt_eq]
  exact hb.2 j (by omega)
theorem min_tupN {Q : Value → Shared → Prop} (hA : A.handled = none) (ht : s.heap.IsTuple tp its.toArray) (hi : IntsAre its ns) (ne : 0 < ns.length)
    (q : ∀ h' tk M t', (∀ b o, s.heap.get? b = some o → h'.get? b = some o) → M ∈ ns → (∀ a, a ∈ ns → M ≤ a) → Q (.int M t') { s with heap := h', toks := tk }) : wpAny (model prog w) A (call (.builtin "min") [.ref tp]) Q E s := by
  obtain ⟨xs, e⟩ := hi.allInts.items
  have en : numsOf (intItems xs).toList = ns := by rw [← e]; exact hi.numsOf
  rw [nums_intItems] at en; subst en; rw [e] at ht
  refine min_tupI hA ht (by simpa using ne) fun v h' tk hv hk => ?_
  obtain ⟨t, rfl⟩ := intItems_at hv
  have hb := (argBest_lt (numAt xs) (xs.size - 1))
  have n1 : 0 < xs.size := by simpa using ne
  refine q h' tk _ t hk (by rw [numAt_eq]; exact PySem.getD_mem (by rw [List.length_map, Array.length_toList]; have := hb.1; omega)) fun a ha => ?_
  obtain ⟨j, hj, rfl⟩ := mem_getD ha
  rw [List.length_map, Array.length_toList] at hj; rw [← numAt_eq]
  exact hb.2 j (by omega)
end
section
variable {X : Cx}
def rMaxT (K : PySem.W.Frag) : List V → Hp → VK → Prop := fun vs H Q => ∃ (a : Addr) (ns : List Int), vs = [V.ref a] ∧ SqT K H a (ns.map V.int) ∧ 0 < ns.length ∧ ∀ m, m ∈ ns → (∀ y, y ∈ ns → y ≤ m) → Q (.int m) H
def rMinT (K : PySem.W.Frag) : List V → Hp → VK → Prop := fun vs H Q => ∃ (a : Addr) (ns : List Int), vs = [V.ref a] ∧ SqT K H a (ns.map V.int) ∧ 0 < ns.length ∧ ∀ m, m ∈ ns → (∀ y, y ∈ ns → m ≤ y) → Q (.int m) H
theorem cr_maxT (hc : X.calm = true) : CallR X (.builtin "max") (rMaxT X.K) := fun pins s σ H vs us Q I r h => by
  obtain ⟨a, ns, rfl, hs, ne, q⟩ := h
  obtain ⟨its, rv, hl, _⟩ := I.tuple hs
  rw [Vals.ref1 r]
  exact max_tupN (I.ok.hd hc) (show s.heap.IsTuple a its.toArray from hl) rv.ints ne fun h' tk m t' hk h1 h2 => ⟨.int _, H, I.kept hk, ⟨_, rfl⟩, q m h1 h2⟩
theorem cr_minT (hc : X.calm = true) : CallR X (.builtin "min") (rMinT X.K) := fun pins s σ H vs us Q I r h => by
  obtain ⟨a, ns, rfl, hs, ne, q⟩ := h
  obtain ⟨its, rv, hl, _⟩ := I.tuple hs
  rw [Vals.ref1 r]
  exact min_tupN (I.ok.hd hc) (show s.heap.IsTuple a its.toArray from hl) rv.ints ne fun h' tk m t' hk h1 h2 => ⟨.int _, H, I.kept hk, ⟨_, rfl⟩, q m h1 h2⟩
end
end Sx
end
section
set_option Elab.async false
set_option linter.all false
set_option maxRecDepth 100000
set_option maxHeartbeats 1000000
/-! Sx.D: operations on data. -/
namespace Sx
open PySem PySem.Spec PyProof.Rows L2
section
variable {X : Cx} {T : Tab} {K : PySem.W.Frag}

/-! ### arithmetic -/
def addD (x y : D) (n : Nat) : Option (D × Nat) := match x, y with
  | .int i, .int j => some (.int (i + j), n)
  | .lst _ ds, .lst _ es => if ds.length + es.length ≤ sizeLine then some (.lst n (ds ++ es), n + 1) else none
  | .tup ds, .tup es => if ds.length + es.length ≤ sizeLine then some (.tup (ds ++ es), n) else none
  | .str a, .str b => if a.length + b.length ≤ sizeLine then some (.str (a ++ b), n) else none
  | _, _ => none
def rAddA (K : PySem.W.Frag) : R2 := fun x y H Q => (rI0 (fun i j => .int (i + j))) x y H Q ∨ (rCat x y H Q ∨ (rCatA K x y H Q ∨ ∃ i j, x = .str i ∧ y = .str j ∧ i.length + j.length ≤ sizeLine ∧ Q (.str (i ++ j)) H))
theorem op_addA : OpR X (binaryOp .Add) (rAddA X.K) := op_add.or (op_cat.or (op_catA.or op_add_str))
theorem addD_ok : Bin T addD (rAddA K) := by
  intro φ n H d1 d2 v1 v2 d n' Q wf r1 r2 h q
  unfold addD at h
  split at h
  · cases h
    rw [Rep] at r1 r2
    exact .inl ⟨_, _, r1, r2, q φ H (Step.refl wf) _ (by rw [Rep])⟩
  · split at h
    · rename_i hz
      cases h
      rw [Rep] at r1 r2
      obtain ⟨a, vs, e1, p1, h1, rr1⟩ := r1
      obtain ⟨b, us, e2, p2, h2, rr2⟩ := r2
      refine .inr (.inl ⟨a, b, vs, us, e1, e2, h1, h2, by rw [rr1.length, rr2.length]; exact hz, fun p hp => ?_⟩)
      obtain ⟨s, r⟩ := new_lst wf hp (rr1.append rr2)
      exact q _ _ s _ r
    · cases h
  · split at h
    · rename_i hz
      cases h
      rw [Rep] at r1 r2
      obtain ⟨a, vs, e1, h1, rr1⟩ := r1
      obtain ⟨b, us, e2, h2, rr2⟩ := r2
      refine .inr (.inr (.inl ⟨a, b, vs, us, e1, e2, .inl (.inl h1), .inl (.inl h2), by rw [rr1.length, rr2.length]; exact hz, fun e => ?_, fun _ e => ?_, fun _ _ p hp => ?_⟩))
      · subst e
        refine q φ H (Step.refl wf) _ ?_
        have l := rr1.length
        rw [List.length_nil] at l
        rw [List.eq_nil_of_length_eq_zero l.symm, List.nil_append, Rep]
        exact ⟨b, us, rfl, h2, rr2⟩
      · subst e
        refine q φ H (Step.refl wf) _ ?_
        have l := rr2.length
        rw [List.length_nil] at l
        rw [List.eq_nil_of_length_eq_zero l.symm, List.append_nil, Rep]
        exact ⟨a, vs, rfl, h1, rr1⟩
      · obtain ⟨s, r⟩ := new_tup wf hp (rr1.append rr2)
        exact q _ _ s _ r
    · cases h
  · split at h
    · rename_i hz
      cases h
      rw [Rep] at r1 r2
      exact .inr (.inr (.inr ⟨_, _, r1, r2, hz, q φ H (Step.refl wf) _ (by rw [Rep])⟩))
    · cases h
  · cases h
/-- ints in, under a test, and data out -/
def intD (C : Int → Int → Bool) (g : Int → Int → Int) (x y : D) (n : Nat) : Option (D × Nat) := match x, y with
  | .int i, .int j => if C i j = true then some (.int (g i j), n) else none
  | _, _ => none
theorem intD_ok {C : Int → Int → Bool} {g : Int → Int → Int} {P : Int → Int → Prop} (hC : ∀ i j, C i j = true → P i j) : Bin T (intD C g) (rI P fun i j => .int (g i j)) := by
  intro φ n H d1 d2 v1 v2 d n' Q wf r1 r2 h q
  unfold intD at h
  split at h
  · split at h
    · rename_i hc
      cases h
      rw [Rep] at r1 r2
      exact ⟨_, _, r1, r2, hC _ _ hc, q φ H (Step.refl wf) _ (by rw [Rep])⟩
    · cases h
  · cases h
def cmpD (g : Int → Int → Bool) (x y : D) (n : Nat) : Option (D × Nat) := match x, y with
  | .int i, .int j => some (.bl (g i j), n)
  | _, _ => none
theorem cmpD_ok {g : Int → Int → Bool} : Bin T (cmpD g) (rI0 fun i j => .bl (g i j)) := by
  intro φ n H d1 d2 v1 v2 d n' Q wf r1 r2 h q
  unfold cmpD at h
  split at h
  · cases h
    rw [Rep] at r1 r2
    exact ⟨_, _, r1, r2, q φ H (Step.refl wf) _ (by rw [Rep])⟩
  · cases h
def subD (x y : D) (n : Nat) : Option (D × Nat) := match x, y with
  | .int i, .int j => some (.int (i - j), n)
  | _, _ => none
theorem subD_ok : Bin T subD (rI0 fun i j => .int (i - j)) := by
  intro φ n H d1 d2 v1 v2 d n' Q wf r1 r2 h q
  unfold subD at h
  split at h
  · cases h
    rw [Rep] at r1 r2
    exact ⟨_, _, r1, r2, q φ H (Step.refl wf) _ (by rw [Rep])⟩
  · cases h
def mulOk (i j : Int) : Bool := decide (Builtin.Int.intBits i + Builtin.Int.intBits j ≤ 134217728)
def mulD (x y : D) (n : Nat) : Option (D × Nat) := match x, y with
  | .int i, .int j => if mulOk i j = true then some (.int (i * j), n) else none
  | .lst _ ds, .int k => if ds.length * k.toNat ≤ sizeLine ∧ -(2 ^ 63) ≤ k ∧ k < 2 ^ 63 then some (.lst n (List.replicate k.toNat ds).flatten, n + 1) else none
  | _, _ => none
def rMulA : R2 := fun x y H Q => (rI CMulX fun i j => .int (i * j)) x y H Q ∨ rRep x y H Q
theorem op_mulA : OpR X (binaryOp .Mult) rMulA := op_mulX.or op_rep
theorem Reps.rep {φ : Phi} {H : Hp} {ds : List D} {vs : List V} (r : Reps T φ H ds vs) : ∀ k : Nat, Reps T φ H (List.replicate k ds).flatten (List.replicate k vs).flatten
  | 0 => by simp [Reps.nil]
  | k + 1 => by
    rw [List.replicate_succ, List.replicate_succ, List.flatten_cons, List.flatten_cons]
    exact r.append (Reps.rep r k)

theorem mulD_ok : Bin T mulD rMulA := by
  intro φ n H d1 d2 v1 v2 d n' Q wf r1 r2 h q
  unfold mulD at h
  split at h
  · split at h
    · rename_i hc
      cases h
      rw [Rep] at r1 r2
      refine .inl ⟨_, _, r1, r2, ?_, q φ H (Step.refl wf) _ (by rw [Rep])⟩
      have := of_decide_eq_true hc
      unfold CMulX
      omega
    · cases h
  · split at h
    · rename_i hc
      cases h
      rw [Rep] at r2
      rw [Rep] at r1
      obtain ⟨a, vs, e1, p1, h1, rr1⟩ := r1
      refine .inr ⟨a, _, vs, e1, r2, h1, hc.2.1, hc.2.2, by rw [rr1.length]; exact hc.1, fun p hp => ?_⟩
      obtain ⟨s, r⟩ := new_lst wf hp (rr1.rep _)
      exact q _ _ s _ r
    · cases h
  · cases h
def fdivOk (_ j : Int) : Bool := decide (0 < j) && decide (j.natAbs.log2 < 9000)
abbrev fdivD := intD fdivOk fun i j => i / j
theorem fdivD_ok : Bin T fdivD (rI CDivW fun i j => .int (i / j)) := intD_ok fun i j h => by
  unfold fdivOk at h
  rw [Bool.and_eq_true] at h
  exact ⟨of_decide_eq_true h.1, of_decide_eq_true h.2⟩
abbrev modD := intD (fun _ j => decide (0 < j)) fun i j => i % j
theorem modD_ok : Bin T modD (rI (fun _ j => 0 < j) fun i j => .int (i % j)) := intD_ok fun i j h => of_decide_eq_true h
def powOk (i j : Int) : Bool := decide (0 ≤ j) && decide ((Builtin.Int.intBits i : Int) * j ≤ 2 ^ 27)
def CPowX (i j : Int) : Prop := 0 ≤ j ∧ (Builtin.Int.intBits i : Int) * j ≤ 2 ^ 27
theorem op_powX : OpR X (binaryOp .Pow) (rI CPowX fun i j => .int (i ^ j.toNat)) := opI fun _ _ _ _ _ _ _ hc q => pow_int hc.1 hc.2 q
abbrev powD := intD powOk fun i j => i ^ j.toNat
theorem powD_ok : Bin T powD (rI CPowX fun i j => .int (i ^ j.toNat)) := intD_ok fun i j h => by
  unfold powOk at h
  rw [Bool.and_eq_true] at h
  exact ⟨of_decide_eq_true h.1, of_decide_eq_true h.2⟩
abbrev ltD := cmpD fun i j => decide (i < j)
abbrev leD := cmpD fun i j => decide (i ≤ j)
abbrev gtD := cmpD fun i j => decide (j < i)
abbrev geD := cmpD fun i j => decide (j ≤ i)
def negD (x : D) (n : Nat) : Option (D × Nat) := match x with
  | .int i => some (.int (-i), n)
  | _ => none
theorem negD_ok : Una T negD (rU fun i => .int (-i)) := by
  intro φ n H d1 v1 d n' Q wf r1 h q
  cases d1 with
  | int i =>
    cases h
    rw [Rep] at r1
    exact ⟨i, r1, q φ H (Step.refl wf) (.int (-i)) (by rw [Rep])⟩
  | _ => cases h

/-! ### == and != of data without instances -/
mutual
def toPy : D → Option PyData
  | .non => some .none
  | .bl b => some (.bool b)
  | .int i => some (.int i)
  | .str x => some (.str x)
  | .lst _ ds => match toPyL ds with
    | some ps => some (.list ps)
    | none => none
  | .tup ds => match toPyL ds with
    | some ps => some (.tuple ps)
    | none => none
  | .ins _ _ _ => none
  | .dic _ _ _ => none
  | .scr _ => none
def toPyL : List D → Option (List PyData)
  | [] => some []
  | d :: r => match toPy d with
    | some p => (match toPyL r with
      | some ps => some (p :: ps)
      | none => none)
    | none => none
end
mutual
theorem toPy_dp {φ : Phi} {H : Hp} : ∀ (d : D) (p : PyData) (v : V), toPy d = some p → Rep T φ H d v → Dp K H v p
  | .non, p, v, h, r => by cases h; rw [Rep] at r; subst r; exact .non
  | .bl b, p, v, h, r => by cases h; rw [Rep] at r; subst r; exact .bl b
  | .int b, p, v, h, r => by cases h; rw [Rep] at r; subst r; exact .int b
  | .str b, p, v, h, r => by cases h; rw [Rep] at r; subst r; exact .str b
  | .lst i ds, p, v, h, r => by
    rw [toPy] at h
    split at h
    · rename_i ps hp
      cases h
      rw [Rep] at r
      obtain ⟨a, vs, rfl, _, q, rr⟩ := r
      exact .lst (.inl (.inl q)) (toPyL_dp ds ps vs hp rr)
    · cases h
  | .tup ds, p, v, h, r => by
    rw [toPy] at h
    split at h
    · rename_i ps hp
      cases h
      rw [Rep] at r
      obtain ⟨a, vs, rfl, q, rr⟩ := r
      exact .tup (.inl (.inl q)) (toPyL_dp ds ps vs hp rr)
    · cases h
  | .ins i c ds, p, v, h, r => by cases h
  | .dic i ks ds, p, v, h, r => by cases h
  | .scr ns, p, v, h, r => by cases h
theorem toPyL_dp {φ : Phi} {H : Hp} : ∀ (ds : List D) (ps : List PyData) (vs : List V), toPyL ds = some ps → Reps T φ H ds vs → DpAll K H vs ps
  | [], ps, vs, h, r => by cases h; rw [Reps] at r; subst r; exact .nil
  | d :: ds, ps, vs, h, r => by
    rw [Reps] at r
    obtain ⟨v, us, rfl, r1, r2⟩ := r
    rw [toPyL] at h
    split at h
    · rename_i p hp
      split at h
      · rename_i qs hq
        cases h
        exact .cons (toPy_dp d p v hp r1) (toPyL_dp ds qs us hq r2)
      · cases h
    · cases h
end
def eqD (x y : D) (n : Nat) : Option (D × Nat) := match toPy x, toPy y with
  | some p, some q => if SeqAt.shaped p = true ∧ SeqAt.shaped q = true then some (.bl (PyData.eqv p q), n) else none
  | _, _ => none
def neD (x y : D) (n : Nat) : Option (D × Nat) := match toPy x, toPy y with
  | some p, some q => if SeqAt.shaped p = true ∧ SeqAt.shaped q = true then some (.bl (!PyData.eqv p q), n) else none
  | _, _ => none
theorem eqD_ok : Bin T eqD (rEqD K) := by
  intro φ n H d1 d2 v1 v2 d n' Q wf r1 r2 h q
  unfold eqD at h
  split at h
  · rename_i p p' h1 h2
    split at h
    · rename_i hs
      cases h
      exact ⟨p, p', toPy_dp _ _ _ h1 r1, toPy_dp _ _ _ h2 r2, hs.1, hs.2, q φ H (Step.refl wf) _ (by rw [Rep])⟩
    · cases h
  · cases h
theorem neD_ok : Bin T neD (rNeD K) := by
  intro φ n H d1 d2 v1 v2 d n' Q wf r1 r2 h q
  unfold neD at h
  split at h
  · rename_i p p' h1 h2
    split at h
    · rename_i hs
      cases h
      exact ⟨p, p', toPy_dp _ _ _ h1 r1, toPy_dp _ _ _ h2 r2, hs.1, hs.2, q φ H (Step.refl wf) _ (by rw [Rep])⟩
    · cases h
  · cases h

/-! ### is None, is not None; in, not in -/
def isNone : D → Bool
  | .non => true
  | _ => false
theorem isNone_ok {φ : Phi} {H : Hp} {d : D} {v : V} (r : Rep T φ H d v) : decide (v = .non) = isNone d := by
  cases d with
  | non => rw [Rep] at r; subst r; rfl
  | bl b => rw [Rep] at r; subst r; rfl
  | int b => rw [Rep] at r; subst r; rfl
  | str b => rw [Rep] at r; subst r; rfl
  | lst i ds => rw [Rep] at r; obtain ⟨a, vs, rfl, _⟩ := r; rfl
  | tup ds => rw [Rep] at r; obtain ⟨a, vs, rfl, _⟩ := r; rfl
  | ins i c ds => rw [Rep] at r; obtain ⟨a, C, dx, vs, rfl, _⟩ := r; rfl
  | dic i ks ds => rw [Rep] at r; obtain ⟨a, vs, rfl, _⟩ := r; rfl
  | scr ns => rw [Rep] at r; obtain ⟨a, o, rfl, _⟩ := r; rfl
def isD (x y : D) (n : Nat) : Option (D × Nat) := match y with
  | .non => some (.bl (isNone x), n)
  | .bl b => match x with
    | .bl a => some (.bl (decide (a = b)), n)
    | _ => none
  | _ => none
def isnotD (x y : D) (n : Nat) : Option (D × Nat) := match y with
  | .non => some (.bl (!isNone x), n)
  | .bl b => match x with
    | .bl a => some (.bl (!decide (a = b)), n)
    | _ => none
  | _ => none
def rIsA : R2 := fun x y H Q => (y = .non ∧ Q (.bl (decide (x = .non))) H) ∨ rIsB x y H Q
def rIsnotA : R2 := fun x y H Q => (y = .non ∧ Q (.bl (!decide (x = .non))) H) ∨ rNotB x y H Q
theorem op_isA : OpR X (compareOp .Is) rIsA := op_isN.or op_isBl
theorem op_isnotA : OpR X (compareOp .IsNot) rIsnotA := op_notN.or op_notBl
theorem isD_ok : Bin T isD rIsA := by
  intro φ n H d1 d2 v1 v2 d n' Q wf r1 r2 h q
  unfold isD at h
  split at h
  · cases h
    rw [Rep] at r2
    exact .inl ⟨r2, by rw [isNone_ok r1]; exact q φ H (Step.refl wf) _ (by rw [Rep])⟩
  · split at h
    · cases h
      rw [Rep] at r1 r2
      exact .inr ⟨_, _, r1, r2, q φ H (Step.refl wf) _ (by rw [Rep])⟩
    · cases h
  · cases h
theorem isnotD_ok : Bin T isnotD rIsnotA := by
  intro φ n H d1 d2 v1 v2 d n' Q wf r1 r2 h q
  unfold isnotD at h
  split at h
  · cases h
    rw [Rep] at r2
    exact .inl ⟨r2, by rw [isNone_ok r1]; exact q φ H (Step.refl wf) _ (by rw [Rep])⟩
  · split at h
    · cases h
      rw [Rep] at r1 r2
      exact .inr ⟨_, _, r1, r2, q φ H (Step.refl wf) _ (by rw [Rep])⟩
    · cases h
  · cases h
/-- x in xs, data of any depth (items are taken as == tells) -/
def inD (neg : Bool) (x y : D) (n : Nat) : Option (D × Nat) := match y with
  | .lst _ ds => match toPy x, toPyL ds with
    | some p, some qs => if SeqAt.shaped p = true ∧ SeqAt.shaped (.list qs) = true then some (.bl (neg != (qs.any fun z => PyData.eqv z p)), n) else none
    | _, _ => none
  | _ => none
theorem inD_ok : Bin T (inD false) (rInD K) := by
  intro φ n H d1 d2 v1 v2 d n' Q wf r1 r2 h q
  unfold inD at h
  split at h
  · rename_i i ds
    split at h
    · rename_i p qs h1 h2
      split at h
      · rename_i hs
        cases h
        refine ⟨p, qs, toPy_dp _ _ _ h1 r1, toPy_dp (.lst i ds) (.list qs) _ (by rw [toPy, h2]) r2, hs.1, hs.2, ?_⟩
        have := q φ H (Step.refl wf) (.bl (false != (qs.any fun z => PyData.eqv z p))) (by rw [Rep])
        rwa [Bool.false_bne] at this
      · cases h
    · cases h
  · cases h
theorem notInD_ok : Bin T (inD true) (rNotInD K) := by
  intro φ n H d1 d2 v1 v2 d n' Q wf r1 r2 h q
  unfold inD at h
  split at h
  · rename_i i ds
    split at h
    · rename_i p qs h1 h2
      split at h
      · rename_i hs
        cases h
        refine ⟨p, qs, toPy_dp _ _ _ h1 r1, toPy_dp (.lst i ds) (.list qs) _ (by rw [toPy, h2]) r2, hs.1, hs.2, ?_⟩
        have := q φ H (Step.refl wf) (.bl (true != (qs.any fun z => PyData.eqv z p))) (by rw [Rep])
        rwa [Bool.true_bne] at this
      · cases h
    · cases h
  · cases h
/-- x in (a, b): flat items -/
def flatD : D → Bool
  | .non => true
  | .bl _ => true
  | .int _ => true
  | .str _ => true
  | _ => false
def toV : D → V
  | .bl b => .bl b
  | .int i => .int i
  | .str x => .str x
  | _ => .non
theorem flatD_ok {φ : Phi} {H : Hp} {d : D} {v : V} (f : flatD d = true) (r : Rep T φ H d v) : v = toV d ∧ flatV v = true := by
  cases d with
  | non => rw [Rep] at r; subst r; exact ⟨rfl, rfl⟩
  | bl b => rw [Rep] at r; subst r; exact ⟨rfl, rfl⟩
  | int b => rw [Rep] at r; subst r; exact ⟨rfl, rfl⟩
  | str b => rw [Rep] at r; subst r; exact ⟨rfl, rfl⟩
  | _ => cases f
theorem flatL_ok {φ : Phi} {H : Hp} : ∀ {ds : List D} {vs : List V}, ds.all flatD = true → Reps T φ H ds vs → vs = ds.map toV ∧ vs.all flatV = true
  | [], _, _, r => by rw [Reps] at r; subst r; exact ⟨rfl, rfl⟩
  | d :: ds, _, f, r => by
    rw [Reps] at r
    obtain ⟨v, us, rfl, r1, r2⟩ := r
    rw [List.all_cons, Bool.and_eq_true] at f
    obtain ⟨e1, e2⟩ := flatD_ok f.1 r1
    obtain ⟨e3, e4⟩ := flatL_ok f.2 r2
    exact ⟨by rw [List.map_cons, e1, e3], by rw [List.all_cons, e2, e4]; rfl⟩
def inF (neg : Bool) (x y : D) (n : Nat) : Option (D × Nat) := match seqD y with
  | some ds => if flatD x = true ∧ ds.all flatD = true then some (.bl (if neg then !inV (toV x) (ds.map toV) else inV (toV x) (ds.map toV)), n) else none
  | none => none
theorem inF_ok {neg : Bool} : Bin T (inF neg) (rIn K neg) := by
  intro φ n H d1 d2 v1 v2 d n' Q wf r1 r2 h q
  unfold inF at h
  split at h
  · rename_i ds hd
    split at h
    · rename_i hs
      cases h
      obtain ⟨p, vs, e, hl, rr⟩ := seqD_rep (K := K) hd r2
      obtain ⟨e1, f1⟩ := flatD_ok hs.1 r1
      obtain ⟨e2, f2⟩ := flatL_ok hs.2 rr
      refine ⟨p, vs, e, hl.symm, f1, f2, ?_⟩
      rw [e1, e2]
      exact q φ H (Step.refl wf) _ (by rw [Rep])
    · cases h
  · cases h

/-! ### built-in functions -/
def lenD (ds : List D) (n : Nat) : Option (D × Nat) := match ds with
  | [.lst _ es] => some (.int es.length, n)
  | [.tup es] => some (.int es.length, n)
  | [.str x] => if x.length ≤ sizeLine then some (.int x.length, n) else none
  | [.scr ns] => some (.int ns.length, n)
  | _ => none
def rLenA (K : PySem.W.Frag) : List V → Hp → VK → Prop := fun xs H Q => (∃ p ys, xs = [.ref p] ∧ (SqL K H p ys ∨ SqT K H p ys) ∧ Q (.int ys.length) H) ∨ ∃ z, xs = [.str z] ∧ z.length ≤ sizeLine ∧ Q (.int z.length) H
theorem cr_lenA : CallR X (.builtin "len") (rLenA X.K) := call_len_seq.or call_len_str
theorem Reps.one {φ : Phi} {H : Hp} {d : D} {vs : List V} (r : Reps T φ H [d] vs) : ∃ v, vs = [v] ∧ Rep T φ H d v := by
  rw [Reps] at r
  obtain ⟨v, us, rfl, r1, r2⟩ := r
  rw [Reps] at r2
  subst r2
  exact ⟨v, rfl, r1⟩
theorem Reps.two {φ : Phi} {H : Hp} {d e : D} {vs : List V} (r : Reps T φ H [d, e] vs) : ∃ v u, vs = [v, u] ∧ Rep T φ H d v ∧ Rep T φ H e u := by
  rw [Reps] at r
  obtain ⟨v, us, rfl, r1, r2⟩ := r
  obtain ⟨u, rfl, r3⟩ := Reps.one r2
  exact ⟨v, u, rfl, r1, r3⟩
theorem lenD_ok : Cal T lenD (rLenA K) := by
  intro φ n H ds vs d n' Q wf r h q
  unfold lenD at h
  split at h
  · cases h
    obtain ⟨v, rfl, r1⟩ := r.one
    rw [Rep] at r1
    obtain ⟨a, us, rfl, p, hh, rr⟩ := r1
    exact .inl ⟨a, us, rfl, .inl (.inl (.inl hh)), by rw [rr.length]; exact q φ H (Step.refl wf) _ (by rw [Rep])⟩
  · cases h
    obtain ⟨v, rfl, r1⟩ := r.one
    rw [Rep] at r1
    obtain ⟨a, us, rfl, hh, rr⟩ := r1
    exact .inl ⟨a, us, rfl, .inr (.inl (.inl hh)), by rw [rr.length]; exact q φ H (Step.refl wf) _ (by rw [Rep])⟩
  · split at h
    · rename_i hz
      cases h
      obtain ⟨v, rfl, r1⟩ := r.one
      rw [Rep] at r1
      exact .inr ⟨_, by rw [r1], hz, q φ H (Step.refl wf) _ (by rw [Rep])⟩
    · cases h
  · rename_i ns
    cases h
    obtain ⟨v, rfl, r1⟩ := r.one
    rw [Rep] at r1
    obtain ⟨a, o, rfl, hh⟩ := r1
    exact .inl ⟨a, ns.map V.int, rfl, .inl (.inl (.inr ⟨o, hh⟩)), by rw [List.length_map]; exact q φ H (Step.refl wf) _ (by rw [Rep])⟩
  · cases h
/-- the ints, the bools of a list -/
def asInts : List D → Option (List Int)
  | [] => some []
  | .int i :: r => (asInts r).map (i :: ·)
  | _ => none
theorem asInts_eq : ∀ {ds : List D} {ns : List Int}, asInts ds = some ns → ds = ns.map D.int
  | [], _, h => by cases h; rfl
  | d :: r, ns, h => by
    cases d with
    | int i =>
      rw [asInts, Option.map_eq_some_iff] at h
      obtain ⟨ms, h1, rfl⟩ := h
      rw [asInts_eq h1]; rfl
    | _ => cases h
theorem asInts_map : ∀ ns : List Int, asInts (ns.map D.int) = some ns
  | [] => rfl
  | n :: ns => by rw [List.map_cons, asInts, asInts_map ns]; rfl
def asBls : List D → Option (List Bool)
  | [] => some []
  | .bl i :: r => (asBls r).map (i :: ·)
  | _ => none
theorem asBls_eq : ∀ {ds : List D} {ns : List Bool}, asBls ds = some ns → ds = ns.map D.bl
  | [], _, h => by cases h; rfl
  | d :: r, ns, h => by
    cases d with
    | bl i =>
      rw [asBls, Option.map_eq_some_iff] at h
      obtain ⟨ms, h1, rfl⟩ := h
      rw [asBls_eq h1]; rfl
    | _ => cases h
theorem asBls_map : ∀ ns : List Bool, asBls (ns.map D.bl) = some ns
  | [] => rfl
  | n :: ns => by rw [List.map_cons, asBls, asBls_map ns]; rfl
theorem Reps.bls {φ : Phi} {H : Hp} : ∀ {ns : List Bool} {vs : List V}, Reps T φ H (ns.map D.bl) vs → vs = ns.map V.bl
  | [], _, h => by rw [List.map_nil, Reps] at h; subst h; rfl
  | d :: ds, _, h => by
    rw [List.map_cons, Reps] at h
    obtain ⟨v, r, rfl, h1, h2⟩ := h
    rw [Rep] at h1
    rw [List.map_cons, Reps.bls h2, h1]
/-- one list of ints (bools) in, data out -/
def onInts (g : List Int → Option D) (ds : List D) (n : Nat) : Option (D × Nat) := match ds with
  | [.lst _ es] => match asInts es with
    | some ns => (g ns).map fun d => (d, n)
    | none => none
  | _ => none
def onBls (g : List Bool → Bool) (ds : List D) (n : Nat) : Option (D × Nat) := match ds with
  | [.lst _ es] => match asBls es with
    | some ns => some (.bl (g ns), n)
    | none => none
  | _ => none
theorem onInts_at {g : List Int → Option D} {φ : Phi} {n : Nat} {H : Hp} {ds : List D} {vs : List V} {d : D} {n' : Nat} (r : Reps T φ H ds vs) (h : onInts g ds n = some (d, n')) :
    ∃ a ns, vs = [.ref a] ∧ SqL K H a (ns.map V.int) ∧ g ns = some d ∧ n' = n := by
  unfold onInts at h
  split at h
  · split at h
    · rename_i ns hn
      rw [Option.map_eq_some_iff] at h
      obtain ⟨x, h1, h2⟩ := h
      cases h2
      obtain ⟨v, rfl, r1⟩ := r.one
      rw [Rep] at r1
      obtain ⟨a, us, rfl, p, hh, rr⟩ := r1
      rw [asInts_eq hn] at rr
      exact ⟨a, ns, rfl, by rw [← rr.ints]; exact .inl (.inl hh), h1, rfl⟩
    · cases h
  · cases h
theorem onBls_at {g : List Bool → Bool} {φ : Phi} {n : Nat} {H : Hp} {ds : List D} {vs : List V} {d : D} {n' : Nat} (r : Reps T φ H ds vs) (h : onBls g ds n = some (d, n')) :
    ∃ a ns, vs = [.ref a] ∧ SqL K H a (ns.map V.bl) ∧ d = .bl (g ns) ∧ n' = n := by
  unfold onBls at h
  split at h
  · split at h
    · rename_i ns hn
      cases h
      obtain ⟨v, rfl, r1⟩ := r.one
      rw [Rep] at r1
      obtain ⟨a, us, rfl, p, hh, rr⟩ := r1
      rw [asBls_eq hn] at rr
      exact ⟨a, ns, rfl, by rw [← rr.bls]; exact .inl (.inl hh), rfl, rfl⟩
    · cases h
  · cases h
abbrev sumD := onInts fun ns => some (.int ns.sum)
abbrev allD := onBls fun bs => bs.all id
abbrev anyD := onBls fun bs => bs.any id
theorem sumD_ok : Cal T sumD (rSum K) := by
  intro φ n H ds vs d n' Q wf r h q
  obtain ⟨a, ns, e, hl, hg, rfl⟩ := onInts_at (K := K) r h
  cases hg
  exact ⟨a, ns, e, hl, q φ H (Step.refl wf) _ (by rw [Rep])⟩
theorem allD_ok : Cal T allD (rAll K) := by
  intro φ n H ds vs d n' Q wf r h q
  obtain ⟨a, ns, e, hl, hg, rfl⟩ := onBls_at (K := K) r h
  cases hg
  exact ⟨a, ns, e, hl, q φ H (Step.refl wf) _ (by rw [Rep])⟩
theorem anyD_ok : Cal T anyD (rAny K) := by
  intro φ n H ds vs d n' Q wf r h q
  obtain ⟨a, ns, e, hl, hg, rfl⟩ := onBls_at (K := K) r h
  cases hg
  exact ⟨a, ns, e, hl, q φ H (Step.refl wf) _ (by rw [Rep])⟩
def maxL : List Int → Int
  | [] => 0
  | [x] => x
  | x :: y :: r => max x (maxL (y :: r))
def minL : List Int → Int
  | [] => 0
  | [x] => x
  | x :: y :: r => min x (minL (y :: r))
theorem maxL_ge : ∀ {ns : List Int} {m : Int}, m ∈ ns → m ≤ maxL ns
  | [x], m, h => by simp at h; subst h; exact Int.le_refl _
  | x :: y :: r, m, h => by
    rw [maxL]
    rcases List.mem_cons.mp h with rfl | h
    · exact Int.le_max_left ..
    · exact Int.le_trans (maxL_ge h) (Int.le_max_right ..)
theorem minL_le : ∀ {ns : List Int} {m : Int}, m ∈ ns → minL ns ≤ m
  | [x], m, h => by simp at h; subst h; exact Int.le_refl _
  | x :: y :: r, m, h => by
    rw [minL]
    rcases List.mem_cons.mp h with rfl | h
    · exact Int.min_le_left ..
    · exact Int.le_trans (Int.min_le_right ..) (minL_le h)
theorem maxL_mem : ∀ {ns : List Int}, ns ≠ [] → maxL ns ∈ ns
  | [x], _ => by simp [maxL]
  | x :: y :: r, _ => by
    rw [maxL]
    have ih := maxL_mem (ns := y :: r) (by simp)
    rcases Int.le_total x (maxL (y :: r)) with h | h
    · rw [Int.max_eq_right h]; exact List.mem_cons_of_mem _ ih
    · rw [Int.max_eq_left h]; exact List.mem_cons_self
theorem minL_mem : ∀ {ns : List Int}, ns ≠ [] → minL ns ∈ ns
  | [x], _ => by simp [minL]
  | x :: y :: r, _ => by
    rw [minL]
    have ih := minL_mem (ns := y :: r) (by simp)
    rcases Int.le_total x (minL (y :: r)) with h | h
    · rw [Int.min_eq_left h]; exact List.mem_cons_self
    · rw [Int.min_eq_right h]; exact List.mem_cons_of_mem _ ih
/-- max(a, b), max([..]) -/
def maxD (ds : List D) (n : Nat) : Option (D × Nat) := match ds with
  | [.int i, .int j] => some (.int (max i j), n)
  | [.tup es] => match asInts es with
    | some ns => if ns.isEmpty then none else some (.int (maxL ns), n)
    | none => none
  | _ => onInts (fun ns => if ns.isEmpty then none else some (.int (maxL ns))) ds n
def minD (ds : List D) (n : Nat) : Option (D × Nat) := match ds with
  | [.int i, .int j] => some (.int (min i j), n)
  | [.tup es] => match asInts es with
    | some ns => if ns.isEmpty then none else some (.int (minL ns), n)
    | none => none
  | _ => onInts (fun ns => if ns.isEmpty then none else some (.int (minL ns))) ds n
def rMaxA (K : PySem.W.Frag) : List V → Hp → VK → Prop := fun xs H Q => (∃ i j, xs = [.int i, .int j] ∧ Q (.int (if j > i then j else i)) H) ∨ (rMax K xs H Q ∨ rMaxT K xs H Q)
def rMinA (K : PySem.W.Frag) : List V → Hp → VK → Prop := fun xs H Q => (∃ i j, xs = [.int i, .int j] ∧ Q (.int (if j < i then j else i)) H) ∨ (rMin K xs H Q ∨ rMinT K xs H Q)
theorem cr_maxA (hc : X.calm = true) : CallR X (.builtin "max") (rMaxA X.K) := (call_max2 hc).or ((cr_max hc).or (cr_maxT hc))
theorem cr_minA (hc : X.calm = true) : CallR X (.builtin "min") (rMinA X.K) := (call_min2 hc).or ((cr_min hc).or (cr_minT hc))
theorem maxD_ok : Cal T maxD (rMaxA K) := by
  intro φ n H ds vs d n' Q wf r h q
  unfold maxD at h
  split at h
  · cases h
    obtain ⟨v, u, rfl, r1, r2⟩ := r.two
    rw [Rep] at r1 r2
    subst r1; subst r2
    refine .inl ⟨_, _, rfl, ?_⟩
    rename_i i j
    rw [show (if j > i then j else i) = max i j by rw [Int.max_def]; split <;> split <;> omega]
    exact q φ H (Step.refl wf) _ (by rw [Rep])
  · split at h
    · rename_i ns hn
      split at h
      · cases h
      · rename_i hne
        cases h
        have hne' : ns ≠ [] := fun z => by subst z; exact hne rfl
        obtain ⟨v, rfl, r1⟩ := r.one
        rw [Rep] at r1
        obtain ⟨a, us, rfl, hh, rr⟩ := r1
        rw [asInts_eq hn] at rr
        refine .inr (.inr ⟨a, ns, rfl, by rw [← rr.ints]; exact .inl (.inl hh), List.length_pos_iff.mpr hne', fun m hm hy => ?_⟩)
        rw [show m = maxL ns from Int.le_antisymm (maxL_ge hm) (hy _ (maxL_mem hne'))]
        exact q φ H (Step.refl wf) _ (by rw [Rep])
    · cases h
  · obtain ⟨a, ns, e, hl, hg, rfl⟩ := onInts_at (K := K) r h
    split at hg
    · cases hg
    · rename_i hne
      cases hg
      have hne' : ns ≠ [] := fun z => by subst z; exact hne rfl
      refine .inr (.inl ⟨a, ns, e, hl, List.length_pos_iff.mpr hne', fun m hm hy => ?_⟩)
      rw [show m = maxL ns from Int.le_antisymm (maxL_ge hm) (hy _ (maxL_mem hne'))]
      exact q φ H (Step.refl wf) _ (by rw [Rep])
theorem minD_ok : Cal T minD (rMinA K) := by
  intro φ n H ds vs d n' Q wf r h q
  unfold minD at h
  split at h
  · cases h
    obtain ⟨v, u, rfl, r1, r2⟩ := r.two
    rw [Rep] at r1 r2
    subst r1; subst r2
    refine .inl ⟨_, _, rfl, ?_⟩
    rename_i i j
    rw [show (if j < i then j else i) = min i j by rw [Int.min_def]; split <;> split <;> omega]
    exact q φ H (Step.refl wf) _ (by rw [Rep])
  · split at h
    · rename_i ns hn
      split at h
      · cases h
      · rename_i hne
        cases h
        have hne' : ns ≠ [] := fun z => by subst z; exact hne rfl
        obtain ⟨v, rfl, r1⟩ := r.one
        rw [Rep] at r1
        obtain ⟨a, us, rfl, hh, rr⟩ := r1
        rw [asInts_eq hn] at rr
        refine .inr (.inr ⟨a, ns, rfl, by rw [← rr.ints]; exact .inl (.inl hh), List.length_pos_iff.mpr hne', fun m hm hy => ?_⟩)
        rw [show m = minL ns from Int.le_antisymm (hy _ (minL_mem hne')) (minL_le hm)]
        exact q φ H (Step.refl wf) _ (by rw [Rep])
    · cases h
  · obtain ⟨a, ns, e, hl, hg, rfl⟩ := onInts_at (K := K) r h
    split at hg
    · cases hg
    · rename_i hne
      cases hg
      have hne' : ns ≠ [] := fun z => by subst z; exact hne rfl
      refine .inr (.inl ⟨a, ns, e, hl, List.length_pos_iff.mpr hne', fun m hm hy => ?_⟩)
      rw [show m = minL ns from Int.le_antisymm (hy _ (minL_mem hne')) (minL_le hm)]
      exact q φ H (Step.refl wf) _ (by rw [Rep])
def listD (ds : List D) (n : Nat) : Option (D × Nat) := match ds with
  | [.lst _ es] => some (.lst n es, n + 1)
  | [.tup es] => some (.lst n es, n + 1)
  | _ => none
def rListA (K : PySem.W.Frag) : List V → Hp → VK → Prop := fun xs H Q => ∃ p ys, xs = [.ref p] ∧ (SqL K H p ys ∨ SqT K H p ys) ∧ ∀ l, H l = none → Q (.ref l) (upd H l (.lst ys))
theorem listD_ok : Cal T listD (rListA K) := by
  intro φ n H ds vs d n' Q wf r h q
  unfold listD at h
  split at h
  · cases h
    obtain ⟨v, rfl, r1⟩ := r.one
    rw [Rep] at r1
    obtain ⟨a, us, rfl, p, hh, rr⟩ := r1
    refine ⟨a, us, rfl, .inl (.inl (.inl hh)), fun p hp => ?_⟩
    obtain ⟨s, r⟩ := new_lst wf hp rr
    exact q _ _ s _ r
  · cases h
    obtain ⟨v, rfl, r1⟩ := r.one
    rw [Rep] at r1
    obtain ⟨a, us, rfl, hh, rr⟩ := r1
    refine ⟨a, us, rfl, .inr (.inl (.inl hh)), fun p hp => ?_⟩
    obtain ⟨s, r⟩ := new_lst wf hp rr
    exact q _ _ s _ r
  · cases h
def tupleD (ds : List D) (n : Nat) : Option (D × Nat) := match ds with
  | [.lst _ es] => some (.tup es, n)
  | [.tup es] => some (.tup es, n)
  | _ => none
def rTupleA (K : PySem.W.Frag) : List V → Hp → VK → Prop := fun xs H Q => ∃ p ys, xs = [.ref p] ∧ ((SqL K H p ys ∧ ∀ l, H l = none → Q (.ref l) (upd H l (.tup ys))) ∨ (SqT K H p ys ∧ Q (.ref p) H))
theorem tupleD_ok : Cal T tupleD (rTupleA K) := by
  intro φ n H ds vs d n' Q wf r h q
  unfold tupleD at h
  split at h
  · cases h
    obtain ⟨v, rfl, r1⟩ := r.one
    rw [Rep] at r1
    obtain ⟨a, us, rfl, p, hh, rr⟩ := r1
    refine ⟨a, us, rfl, .inl ⟨.inl (.inl hh), fun p hp => ?_⟩⟩
    obtain ⟨s, r⟩ := new_tup wf hp rr
    exact q _ _ s _ r
  · cases h
    obtain ⟨v, rfl, r1⟩ := r.one
    have r0 := r1
    rw [Rep] at r1
    obtain ⟨a, us, rfl, hh, rr⟩ := r1
    exact ⟨a, us, rfl, .inr ⟨.inl (.inl hh), q φ H (Step.refl wf) _ r0⟩⟩
  · cases h
def intD1 (ds : List D) (n : Nat) : Option (D × Nat) := match ds with
  | [.int i] => some (.int i, n)
  | [.bl b] => some (.int (if b then 1 else 0), n)
  | _ => none
theorem intD1_ok : Cal T intD1 (fun xs H Q => (∃ i, xs = [.int i] ∧ Q (.int i) H) ∨ ∃ k, xs = [.bl k] ∧ Q (.int (if k then 1 else 0)) H) := by
  intro φ n H ds vs d n' Q wf r h q
  unfold intD1 at h
  split at h
  · cases h
    obtain ⟨v, rfl, r1⟩ := r.one
    rw [Rep] at r1
    subst r1
    exact .inl ⟨_, rfl, q φ H (Step.refl wf) _ (by rw [Rep])⟩
  · cases h
    obtain ⟨v, rfl, r1⟩ := r.one
    rw [Rep] at r1
    subst r1
    exact .inr ⟨_, rfl, q φ H (Step.refl wf) _ (by rw [Rep])⟩
  · cases h
def strD1 (ds : List D) (n : Nat) : Option (D × Nat) := match ds with
  | [.int i] => if i.natAbs.log2 < 1920 then some (.str (toString i), n) else none
  | _ => none
theorem strD1_ok : Cal T strD1 (fun xs H Q => ∃ i, xs = [.int i] ∧ i.natAbs.log2 < 1920 ∧ Q (.str (toString i)) H) := by
  intro φ n H ds vs d n' Q wf r h q
  unfold strD1 at h
  split at h
  · split at h
    · rename_i hz
      cases h
      obtain ⟨v, rfl, r1⟩ := r.one
      rw [Rep] at r1
      subst r1
      exact ⟨_, rfl, hz, q φ H (Step.refl wf) _ (by rw [Rep])⟩
    · cases h
  · cases h

/-! ### methods of lists -/
def appD : MV := fun x xs n => match x, xs with
  | .lst i ds, [d] => if ds.length < sizeLine ∧ D.has i d = false then some (.non, n, [(i, .lst i (ds ++ [d]))]) else none
  | _, _ => none
theorem hasL_append {i : Nat} : ∀ {ds es : List D}, hasL i (ds ++ es) = (hasL i ds || hasL i es)
  | [], _ => rfl
  | d :: ds, es => by rw [List.cons_append, hasL, hasL, hasL_append, Bool.or_assoc]
theorem appD_ok : Mt T K "list" appD rAppend := by
  intro φ n H x xs v vs d n' w Q wf r rs h q
  unfold appD at h
  split at h
  · split at h
    · rename_i i ds y hz
      cases h
      have hac := Rep.lst_acyc wf.inj r
      rw [Rep] at r
      obtain ⟨a, us, rfl, p, hh, rr⟩ := r
      obtain ⟨u, rfl, r1⟩ := rs.one
      refine ⟨a, us, u, rfl, rfl, hh, by rw [rr.length]; exact hz.1, ?_⟩
      obtain ⟨s, _⟩ := write_lst (ds := ds) wf p hh (rr.append (Reps.cons r1 Reps.nil)) (by rw [hasL_append, hac]; simp [hasL, hz.2])
      exact q _ _ s _ (by rw [Rep])
    · cases h
  · cases h
def insertD : MV := fun x xs n => match x, xs with
  | .lst i ds, [.int k, d] => if ds.length < sizeLine ∧ D.has i d = false ∧ 0 ≤ k ∧ k < 2 ^ 63 then some (.non, n, [(i, .lst i (ds.take k.toNat ++ d :: ds.drop k.toNat))]) else none
  | _, _ => none
theorem hasL_take {i : Nat} : ∀ {ds : List D} (k : Nat), hasL i ds = false → hasL i (ds.take k) = false
  | [], k, _ => by simp [hasL]
  | d :: ds, 0, _ => by simp [hasL]
  | d :: ds, k + 1, h => by
    rw [hasL, Bool.or_eq_false_iff] at h
    rw [List.take_succ_cons, hasL, h.1, hasL_take k h.2]; rfl
theorem hasL_drop {i : Nat} : ∀ {ds : List D} (k : Nat), hasL i ds = false → hasL i (ds.drop k) = false
  | [], k, _ => by simp [hasL]
  | d :: ds, 0, h => h
  | d :: ds, k + 1, h => by
    rw [hasL, Bool.or_eq_false_iff] at h
    exact hasL_drop k h.2
theorem hasL_set {i : Nat} {d : D} (hd : D.has i d = false) : ∀ {ds : List D} (k : Nat), hasL i ds = false → hasL i (ds.set k d) = false
  | [], k, _ => by simp [hasL]
  | e :: ds, 0, h => by
    rw [hasL, Bool.or_eq_false_iff] at h
    rw [List.set_cons_zero, hasL, hd, h.2]; rfl
  | e :: ds, k + 1, h => by
    rw [hasL, Bool.or_eq_false_iff] at h
    rw [List.set_cons_succ, hasL, h.1, hasL_set hd k h.2]; rfl
def rInsert : V → List V → Hp → VK → Prop := fun x vs H Q => ∃ (l : Addr) (xs : List V) (i : Int) (y : V), x = .ref l ∧ vs = [.int i, y] ∧ H l = some (.lst xs) ∧ xs.length < sizeLine ∧ 0 ≤ i ∧ i < 2 ^ 63 ∧
    Q .non (upd H l (.lst (xs.take i.toNat ++ [y] ++ xs.drop i.toNat)))
theorem insertD_ok : Mt T K "list" insertD rInsert := by
  intro φ n H x xs v vs d n' w Q wf r rs h q
  unfold insertD at h
  split at h
  · split at h
    · rename_i i ds k y hz
      cases h
      have hac := Rep.lst_acyc wf.inj r
      rw [Rep] at r
      obtain ⟨a, us, rfl, p, hh, rr⟩ := r
      obtain ⟨u0, u, rfl, r0, r1⟩ := rs.two
      rw [Rep] at r0
      subst r0
      refine ⟨a, us, k, u, rfl, rfl, hh, by rw [rr.length]; exact hz.1, hz.2.2.1, hz.2.2.2, ?_⟩
      have e : ds.take k.toNat ++ y :: ds.drop k.toNat = ds.take k.toNat ++ [y] ++ ds.drop k.toNat := by simp
      rw [e] at q
      obtain ⟨s, _⟩ := write_lst (ds := ds) wf p hh (((rr.take k.toNat).append (Reps.cons r1 Reps.nil)).append (rr.drop k.toNat)) (by
        rw [hasL_append, hasL_append, hasL_take _ hac, hasL_drop _ hac]; simp [hasL, hz.2.1])
      exact q _ _ s _ (by rw [Rep])
    · cases h
  · cases h
def popD : MV := fun x xs n => match x, xs with
  | .lst i ds, [] => match ds[ds.length - 1]? with
    | some y => some (y, n, [(i, .lst i (ds.take (ds.length - 1)))])
    | none => none
  | _, _ => none
theorem hasL_mem {i : Nat} : ∀ {ds : List D} {d : D}, d ∈ ds → hasL i ds = false → D.has i d = false
  | x :: ds, d, h, n => by
    rw [hasL, Bool.or_eq_false_iff] at n
    rcases List.mem_cons.mp h with rfl | h
    · exact n.1
    · exact hasL_mem h n.2
theorem popD_ok : Mt T K "list" popD rPop := by
  intro φ n H x xs v vs d n' w Q wf r rs h q
  unfold popD at h
  split at h
  · rename_i i ds
    split at h
    · rename_i y hy
      cases h
      have hac := Rep.lst_acyc wf.inj r
      rw [Rep] at r
      obtain ⟨a, us, rfl, p, hh, rr⟩ := r
      rw [Reps] at rs
      subst rs
      have hl := rr.length
      obtain ⟨u, hu, ru⟩ := rr.get hy
      rw [← hl] at hu
      refine ⟨a, us, u, rfl, rfl, hh, hu, ?_⟩
      obtain ⟨s, r2⟩ := write_lst (ds := ds) (ds' := ds.take (ds.length - 1)) (vs' := us.dropLast) wf p hh (by
        rw [List.dropLast_eq_take, hl]; exact rr.take _) (hasL_take _ hac)
      have hn := s.car _ _ ru
      have hm : D.has i d = false := hasL_mem (List.mem_of_getElem? hy) hac
      have e : puts [(i, D.lst i (ds.take (ds.length - 1)))] d = d := by
        rw [puts_congr _ [] d (fun j hj => ?_), puts_nil]
        rw [Wr.get, Wr.get]
        split
        · rename_i e; rw [e, hm] at hj; cases hj
        · rfl
      rw [e] at hn
      exact q _ _ s _ hn
    · cases h
  · cases h
def bitsD (x : D) (n : Nat) : Option (D × Nat) := match x with
  | .int i => some (.int (Builtin.Int.intBits i : Nat), n)
  | _ => none
end
end Sx
end
section
set_option Elab.async false
set_option linter.all false
set_option maxRecDepth 100000
set_option maxHeartbeats 1000000
/-! Sx.E: isinstance; bit_length; places stored. -/
namespace Sx
open PySem PySem.Spec PyProof.Rows L2
section
variable {X : Cx} {T : Tab} {EX : XK} {a b c e o : Expr} {es : List Expr} {fa fb fc fe fo : EV} {ga : AV} {pos p apos : Pos} {x : Str}

/-! ### isinstance -/
/-- what isinstance has to know of the own classes -/
structure InsTy (T : Tab) (K : PySem.W.Frag) : Prop where
  cl : ∀ c C, T.cls c = some C → Cls K C
  ha : ∀ c C, T.cls c = some C → PySem.W.findIn K (.ref C) "__class__" = some (some (.builtin "object.__class__"))
  hn : PySem.W.specialIn K (.builtin "object.__class__") "__get__" = some (some (.builtin "getset_descriptor.__get__"))
  ht : PySem.W.takesIn K (.builtin "object.__class__") = some true
  hm : ∀ c C, T.cls c = some C → PySem.W.mroIn K C (.type "object") = some true
/-- the built-in type's name -/
def tyName : D → Option String
  | .non => some "NoneType"
  | .bl _ => some "bool"
  | .int _ => some "int"
  | .str _ => some "str"
  | .lst _ _ => some "list"
  | .tup _ => some "tuple"
  | .dic _ _ _ => some "dict"
  | .ins _ _ _ => none
  | .scr _ => some "list"
theorem tyName_ok {K : PySem.W.Frag} {φ : Phi} {H : Hp} {d : D} {v : V} {s : String} (h : tyName d = some s) (r : Rep T φ H d v) : TyX K H v (.type s) := by
  cases d with
  | non => cases h; rw [Rep] at r; subst r; exact .base .non
  | bl b => cases h; rw [Rep] at r; subst r; exact .base (.bl b)
  | int b => cases h; rw [Rep] at r; subst r; exact .base (.int b)
  | str b => cases h; rw [Rep] at r; subst r; exact .base (.str b)
  | lst i ds => cases h; rw [Rep] at r; obtain ⟨a, vs, rfl, _, q, _⟩ := r; exact .base (.lst q)
  | tup ds => cases h; rw [Rep] at r; obtain ⟨a, vs, rfl, q, _⟩ := r; exact .base (.tup q)
  | dic i ks ds => cases h; rw [Rep] at r; obtain ⟨a, vs, rfl, _, q, _⟩ := r; exact .base (.dK q)
  | ins i c ds => cases h
  | scr ns => cases h; rw [Rep] at r; obtain ⟨a, o, rfl, q⟩ := r; exact .base (.frz q)
theorem insTy_ok {K : PySem.W.Frag} (I : InsTy T K) {φ : Phi} {H : Hp} {i c : Nat} {ds : List D} {v : V} (r : Rep T φ H (.ins i c ds) v) : ∃ C, T.cls c = some C ∧ TyX K H v (.ref C) := by
  rw [Rep] at r
  obtain ⟨a, C, dx, vs, rfl, p, hC, q, _⟩ := r
  exact ⟨C, hC, .base (.ins q (I.cl c C hC) (I.ha c C hC) I.hn I.ht (I.hm c C hC))⟩
/-- the type -/
def canonT (T : Tab) (d : D) : Option Value := match d with
  | .ins _ c _ => (T.cls c).map Value.ref
  | d => (tyName d).map Value.type
/-- one class, as isinstance takes it: g tells the answer -/
structure Isi (T : Tab) (K : PySem.W.Frag) (u : Value) (g : D → Option Bool) : Prop where
  to : ∀ φ H d v b, Rep T φ H d v → g d = some b → ∃ t, canonT T d = some t ∧ TyX K H v t ∧ PySem.W.kitOne K t u = some b
/-- a built-in type -/
def isTyD (ty : String) (d : D) : Option Bool := match d with
  | .scr _ => some (ty == "list")
  | .ins _ _ _ => some false
  | .non => some (ty == "NoneType")
  | .bl _ => some (ty == "bool" || ty == "int")
  | .int _ => some (ty == "int")
  | .str _ => some (ty == "str")
  | .lst _ _ => some (ty == "list")
  | .tup _ => some (ty == "tuple")
  | .dic _ _ _ => some (ty == "dict")
theorem isi_ty {K : PySem.W.Frag} (I : InsTy T K) (ty : String) (h1 : kitB "NoneType" ty = some (ty == "NoneType")) (h2 : kitB "bool" ty = some (ty == "bool" || ty == "int")) (h3 : kitB "int" ty = some (ty == "int")) (h4 : kitB "str" ty = some (ty == "str"))
    (h5 : kitB "list" ty = some (ty == "list")) (h6 : kitB "tuple" ty = some (ty == "tuple")) (h7 : kitB "dict" ty = some (ty == "dict")) (h8 : ∀ c C, T.cls c = some C → PySem.W.kitOne K (.ref C) (.type ty) = some false) : Isi T K (.type ty) (isTyD ty) := by
  refine ⟨fun φ H d v b r h => ?_⟩
  cases d with
  | scr ns => cases h; exact ⟨_, rfl, tyName_ok rfl r, kit_ty h5⟩
  | non => cases h; exact ⟨_, rfl, tyName_ok rfl r, kit_ty h1⟩
  | bl b => cases h; exact ⟨_, rfl, tyName_ok rfl r, kit_ty h2⟩
  | int b => cases h; exact ⟨_, rfl, tyName_ok rfl r, kit_ty h3⟩
  | str b => cases h; exact ⟨_, rfl, tyName_ok rfl r, kit_ty h4⟩
  | lst i ds => cases h; exact ⟨_, rfl, tyName_ok rfl r, kit_ty h5⟩
  | tup ds => cases h; exact ⟨_, rfl, tyName_ok rfl r, kit_ty h6⟩
  | dic i ks ds => cases h; exact ⟨_, rfl, tyName_ok rfl r, kit_ty h7⟩
  | ins i c ds =>
    cases h
    obtain ⟨C, hC, t⟩ := insTy_ok I r
    exact ⟨_, by rw [canonT, hC]; rfl, t, h8 c C hC⟩
/-- an own class that has no heirs among the tabled ones -/
def isClD (c : Nat) (d : D) : Option Bool := match d with
  | .ins _ c' _ => some (c' == c)
  | _ => some false
theorem isi_cl {K : PySem.W.Frag} (I : InsTy T K) (c : Nat) (C : Addr) (hC : T.cls c = some C) (h0 : ∀ ty ∈ ["NoneType", "bool", "int", "str", "list", "tuple", "dict"], PySem.W.kitOne K (.type ty) (.ref C) = some false)
    (h1 : ∀ c' C', T.cls c' = some C' → PySem.W.kitOne K (.ref C') (.ref C) = some (c' == c)) : Isi T K (.ref C) (isClD c) := by
  refine ⟨fun φ H d v b r h => ?_⟩
  cases d with
  | scr ns => cases h; exact ⟨_, rfl, tyName_ok rfl r, h0 _ (by simp)⟩
  | non => cases h; exact ⟨_, rfl, tyName_ok rfl r, h0 _ (by simp)⟩
  | bl b => cases h; exact ⟨_, rfl, tyName_ok rfl r, h0 _ (by simp)⟩
  | int b => cases h; exact ⟨_, rfl, tyName_ok rfl r, h0 _ (by simp)⟩
  | str b => cases h; exact ⟨_, rfl, tyName_ok rfl r, h0 _ (by simp)⟩
  | lst i ds => cases h; exact ⟨_, rfl, tyName_ok rfl r, h0 _ (by simp)⟩
  | tup ds => cases h; exact ⟨_, rfl, tyName_ok rfl r, h0 _ (by simp)⟩
  | dic i ks ds => cases h; exact ⟨_, rfl, tyName_ok rfl r, h0 _ (by simp)⟩
  | ins i c' ds =>
    cases h
    obtain ⟨C', hC', t⟩ := insTy_ok I r
    exact ⟨_, by rw [canonT, hC']; rfl, t, h1 c' C' hC'⟩
def eIsi (g : D → Option Bool) (f : EV) : EV := fun n env => (f n env).bind fun d n1 _ => match g d with
  | some b => .ok (.bl b) n1 []
  | none => .bad
/-- isinstance(e, T), T a built-in type or an own class -/
theorem x_isiTy {ty : String} {g : D → Option Bool} {y : Str} {p2 : Pos} (S : Isi T X.K (.type ty) g) (hg : Gl X x) (hm : X.mg x = none) (hv : bootBuiltins x = some (.builtin "isinstance")) (hg2 : Gl X y) (hm2 : X.mg y = none) (hv2 : bootBuiltins y = some (.type ty)) (ha : PE X e (rdE T EX fe))
    (hn : x ≠ "__name__" := by decide) (hdb : (x == ("__debug__" : Str)) = false := by decide) (hn2 : y ≠ "__name__" := by decide) (hdb2 : (y == ("__debug__" : Str)) = false := by decide)
    (he : starEach (e :: [.Name y p2]) X.env = (false, eval e X.env) :: starEach [.Name y p2] X.env := by rfl) : PE X (.Call (.Name x p) [e, .Name y p2] [] pos) (rdE T EX (eIsi g fe)) :=
  (pe_callB call_isi hg hm hv (pa_cons ha (pa_cons (pe_bltn (v := .ty ty) hg2 hm2 hv2 rfl hn2 hdb2) pa_nil) he) hn hdb he).to fun σ H Q ⟨φ, n, env, wf, er, q⟩ => go_e wf er q fun d n1 w1 φ1 H1 v s1 er1 r1 p1 => by
    split at p1
    · rename_i b hb
      obtain ⟨t, _, h1, h2⟩ := S.to _ _ _ _ _ r1 hb
      exact ⟨v, .ty ty, t, .type ty, b, rfl, .ty ty, h1, h2, p1 φ1 H1 (Step.refl s1.wf) _ (by rw [Rep])⟩
    · exact p1.elim
theorem x_isiCl {C : Addr} {g : D → Option Bool} {y : Str} {p2 : Pos} (S : Isi T X.K (.ref C) g) (hg : Gl X x) (hm : X.mg x = none) (hv : bootBuiltins x = some (.builtin "isinstance")) (hg2 : Gl X y) (hm2 : X.mg y = some (.ref C)) (ha : PE X e (rdE T EX fe))
    (hn : x ≠ "__name__" := by decide) (hdb : (x == ("__debug__" : Str)) = false := by decide) (hdb2 : (y == ("__debug__" : Str)) = false := by decide)
    (he : starEach (e :: [.Name y p2]) X.env = (false, eval e X.env) :: starEach [.Name y p2] X.env := by rfl) : PE X (.Call (.Name x p) [e, .Name y p2] [] pos) (rdE T EX (eIsi g fe)) :=
  (pe_callB call_isi hg hm hv (pa_cons ha (pa_cons (pe_glob (v := .ref C) hg2 hm2 rfl hdb2) pa_nil) he) hn hdb he).to fun σ H Q ⟨φ, n, env, wf, er, q⟩ => go_e wf er q fun d n1 w1 φ1 H1 v s1 er1 r1 p1 => by
    split at p1
    · rename_i b hb
      obtain ⟨t, _, h1, h2⟩ := S.to _ _ _ _ _ r1 hb
      exact ⟨v, .ref C, t, .ref C, b, rfl, .own C, h1, h2, p1 φ1 H1 (Step.refl s1.wf) _ (by rw [Rep])⟩
    · exact p1.elim
/-- isinstance(e, (T, U)), two built-in types -/
def isi2 (g1 g2 : D → Option Bool) (d : D) : Option Bool := match g1 d, g2 d with
  | some a, some b => some (a || b)
  | _, _ => none
theorem x_isiTy2 {ty tz : String} {g1 g2 : D → Option Bool} {y z : Str} {p2 p3 p4 : Pos} {k : Nat} (S1 : Isi T X.K (.type ty) g1) (S2 : Isi T X.K (.type tz) g2) (hg : Gl X x) (hm : X.mg x = none) (hv : bootBuiltins x = some (.builtin "isinstance"))
    (hg2 : Gl X y) (hm2 : X.mg y = none) (hv2 : bootBuiltins y = some (.type ty)) (hg3 : Gl X z) (hm3 : X.mg z = none) (hv3 : bootBuiltins z = some (.type tz)) (ha : PE X e (rdE T EX fe))
    (hn : x ≠ "__name__" := by decide) (hdb : (x == ("__debug__" : Str)) = false := by decide) (hn2 : y ≠ "__name__" := by decide) (hdb2 : (y == ("__debug__" : Str)) = false := by decide) (hn3 : z ≠ "__name__" := by decide) (hdb3 : (z == ("__debug__" : Str)) = false := by decide)
    (he : starEach (e :: [.Tuple [.Name y p2, .Name z p3] k p4]) X.env = (false, eval e X.env) :: starEach [.Tuple [.Name y p2, .Name z p3] k p4] X.env := by rfl) :
    PE X (.Call (.Name x p) [e, .Tuple [.Name y p2, .Name z p3] k p4] [] pos) (rdE T EX (eIsi (isi2 g1 g2) fe)) :=
  (pe_callB call_isiT hg hm hv (pa_cons ha (pa_cons (pe_tup (pa_cons (pe_bltn (v := .ty ty) hg2 hm2 hv2 rfl hn2 hdb2) (pa_cons (pe_bltn (v := .ty tz) hg3 hm3 hv3 rfl hn3 hdb3) pa_nil))) pa_nil) he) hn hdb he).to fun σ H Q ⟨φ, n, env, wf, er, q⟩ => go_e wf er q fun d n1 w1 φ1 H1 v s1 er1 r1 p1 => by
    refine ⟨by show 2 ≤ sizeLine; decide, fun tp htp => ?_⟩
    have g := grow_tup (φ := φ1) (o := .tup [.ty ty, .ty tz]) htp
    have r2 := Rep.grow g d v r1
    split at p1
    · rename_i b hb
      unfold isi2 at hb
      split at hb
      · rename_i b1 b2 hb1 hb2
        cases hb
        obtain ⟨t, c1, h1, h2⟩ := S1.to _ _ _ _ _ r2 hb1
        obtain ⟨t', c2, h1', h2'⟩ := S2.to _ _ _ _ _ r2 hb2
        have e : t = t' := Option.some.inj (c1.symm.trans c2)
        subst e
        refine ⟨v, tp, [.ty ty, .ty tz], t, [.type ty, .type tz], b1 || b2, rfl, upd_same, .cons (.ty ty) (.cons (.ty tz) .nil), h1, kitAny_cons h2 (fun e1 => ?_) (fun e1 => by rw [e1]; rfl), ?_⟩
        · subst e1
          exact kitAny_cons h2' (fun e2 => by subst e2; exact kitAny_nil) (fun e2 => by subst e2; rfl)
        · exact p1 φ1 _ (g.step (wf_tup s1.wf htp) (Nat.le_refl _) (fun _ _ h => .inl h)) _ (by rw [Rep])
      · cases hb
    · exact p1.elim

/-! ### n.bit_length() -/
def eBits (f : EV) : EV := fun n env => (f n env).bind fun d n1 _ => R.of (bitsD d n1)
theorem x_bits (ho : PE X o (rdE T EX fo)) (hbase : attributeBase o "bit_length" X.env (eval o X.env) = eval o X.env := by rfl) (hline : (apos.endLine == pos.line) = true := by rfl) : PE X (.Call (.Attribute o "bit_length" apos) [] [] pos) (rdE T EX (eBits fo)) :=
  (pe_bits ho hbase hline).to fun σ H Q ⟨φ, n, env, wf, er, q⟩ => go_e wf er q fun d n1 w1 φ1 H1 v s1 er1 r1 p1 => by
    obtain ⟨d2, n2, e2, p2⟩ := p1.of
    cases d with
    | int i =>
      cases e2
      rw [Rep] at r1
      exact ⟨i, r1, p2 φ1 H1 (Step.refl s1.wf) (.int (Builtin.Int.intBits i : Nat)) (by rw [Rep])⟩
    | _ => cases e2
end
end Sx
end
section
set_option Elab.async false
set_option linter.all false
set_option maxRecDepth 100000
set_option maxHeartbeats 1000000
/-! Sx.F: what is walked; targets; comprehensions. -/
namespace Sx
open PySem PySem.Spec PyProof.Rows L2

/-- what a loop or a comprehension walks -/
inductive Src where
  | lst (d : D) | tup (d : D) | rng (lo : Int) (n : Nat) | zipL (d e : D) | zipT (d e : D) | enum (d : D)
/-- the item at a turn: nothing is known, the end, an item -/
def Src.at (k : Nat) : Src → Option (Option D)
  | .lst (.lst _ ds) => some ds[k]?
  | .tup (.tup ds) => some ds[k]?
  | .rng lo n => some (if k < n then some (.int (lo + k)) else none)
  | .zipL (.lst _ ds) (.lst _ es) => some (match ds[k]?, es[k]? with
    | some x, some y => some (.tup [x, y])
    | _, _ => none)
  | .zipT (.tup ds) (.tup es) => some (match ds[k]?, es[k]? with
    | some x, some y => some (.tup [x, y])
    | _, _ => none)
  | .enum (.lst _ ds) => some (match ds[k]? with
    | some x => some (.tup [.int (k : Int), x])
    | none => none)
  | _ => none
def dlen : D → Nat
  | .lst _ ds => ds.length
  | .tup ds => ds.length
  | _ => 0
def Src.len : Src → Nat
  | .lst d => dlen d
  | .tup d => dlen d
  | .rng _ n => n
  | .zipL d _ => dlen d
  | .zipT d _ => dlen d
  | .enum d => dlen d
def Src.puts (w : Wr) : Src → Src
  | .lst d => .lst (Sx.puts w d)
  | .tup d => .tup (Sx.puts w d)
  | .rng lo n => .rng lo n
  | .zipL d e => .zipL (Sx.puts w d) (Sx.puts w e)
  | .zipT d e => .zipT (Sx.puts w d) (Sx.puts w e)
  | .enum d => .enum (Sx.puts w d)
theorem Src.puts_nil : ∀ s : Src, s.puts [] = s
  | .lst d => by rw [Src.puts, Sx.puts_nil]
  | .tup d => by rw [Src.puts, Sx.puts_nil]
  | .rng lo n => rfl
  | .zipL d e => by rw [Src.puts, Sx.puts_nil, Sx.puts_nil]
  | .zipT d e => by rw [Src.puts, Sx.puts_nil, Sx.puts_nil]
  | .enum d => by rw [Src.puts, Sx.puts_nil]
def SrcR (T : Tab) (K : PySem.W.Frag) (φ : Phi) (H : Hp) : Src → It → Prop
  | .lst d, J => ∃ a, Rep T φ H d (.ref a) ∧ J = Itl K a
  | .tup d, J => ∃ a, Rep T φ H d (.ref a) ∧ J = Itt K a
  | .rng lo n, J => J = Itr lo n
  | .zipL d e, J => ∃ a b, Rep T φ H d (.ref a) ∧ Rep T φ H e (.ref b) ∧ J = Itz K a b
  | .zipT d e, J => ∃ a b, Rep T φ H d (.ref a) ∧ Rep T φ H e (.ref b) ∧ J = RZ.ItzT K a b
  | .enum d, J => ∃ a, Rep T φ H d (.ref a) ∧ J = Ite K a
section
variable {T : Tab} {K : PySem.W.Frag} {φ φ1 : Phi} {n n1 : Nat} {H H1 : Hp} {w : Wr} {J : It}
theorem SrcR.step : ∀ {s : Src}, SrcR T K φ H s J → Step T φ n H w φ1 n1 H1 → SrcR T K φ1 H1 (s.puts w) J
  | .lst d, ⟨a, r, e⟩, s => ⟨a, s.car _ _ r, e⟩
  | .tup d, ⟨a, r, e⟩, s => ⟨a, s.car _ _ r, e⟩
  | .rng lo n, e, s => e
  | .zipL d e, ⟨a, b, r, r', q⟩, s => ⟨a, b, s.car _ _ r, s.car _ _ r', q⟩
  | .zipT d e, ⟨a, b, r, r', q⟩, s => ⟨a, b, s.car _ _ r, s.car _ _ r', q⟩
  | .enum d, ⟨a, r, e⟩, s => ⟨a, s.car _ _ r, e⟩
theorem rep_lst {a : Addr} {i : Nat} {ds : List D} (r : Rep T φ H (.lst i ds) (.ref a)) : ∃ vs, H a = some (.lst vs) ∧ Reps T φ H ds vs := by
  rw [Rep] at r
  obtain ⟨a', vs, e, _, q, rr⟩ := r
  cases e
  exact ⟨vs, q, rr⟩
theorem rep_tup {a : Addr} {ds : List D} (r : Rep T φ H (.tup ds) (.ref a)) : ∃ vs, H a = some (.tup vs) ∧ Reps T φ H ds vs := by
  rw [Rep] at r
  obtain ⟨a', vs, e, q, rr⟩ := r
  cases e
  exact ⟨vs, q, rr⟩
/-- an item: the turn goes on, and what it yields stands for the item -/
theorem SrcR.item (wf : Wf φ n H) {k : Nat} {d : D} : ∀ {s : Src}, SrcR T K φ H s J → s.at k = some (some d) →
    J.go k H ∧ ∀ x H', J.yld k H x H' → Step T φ n H [] φ n H' ∧ Rep T φ H' d x
  | .lst e, ⟨a, r, q⟩, h => by
    subst q
    cases e with
    | lst i ds =>
      obtain ⟨vs, hh, rr⟩ := rep_lst r
      obtain ⟨v, hv, rv⟩ := rr.get (i := k) (d := d) (by simpa [Src.at] using h)
      refine ⟨⟨vs, v, .inl (.inl hh), hv⟩, fun x H' ⟨e1, e2⟩ => ?_⟩
      subst e1
      have := e2 vs (.inl (.inl hh))
      rw [hv] at this; cases this
      exact ⟨Step.refl wf, rv⟩
    | _ => cases h
  | .tup e, ⟨a, r, q⟩, h => by
    subst q
    cases e with
    | tup ds =>
      obtain ⟨vs, hh, rr⟩ := rep_tup r
      obtain ⟨v, hv, rv⟩ := rr.get (i := k) (d := d) (by simpa [Src.at] using h)
      refine ⟨⟨vs, v, .inl (.inl hh), hv⟩, fun x H' ⟨e1, e2⟩ => ?_⟩
      subst e1
      have := e2 vs (.inl (.inl hh))
      rw [hv] at this; cases this
      exact ⟨Step.refl wf, rv⟩
    | _ => cases h
  | .rng lo m, q, h => by
    cases q
    by_cases hk : k < m
    · have h' : some (some (D.int (lo + k))) = some (some d) := by rw [Src.at, if_pos hk] at h; exact h
      cases h'
      refine ⟨hk, fun x H' ⟨e1, e2⟩ => ?_⟩
      subst e1; subst e2
      exact ⟨Step.refl wf, by rw [Rep]⟩
    · rw [Src.at, if_neg hk] at h; cases h
  | .zipL e f, ⟨a, b, r, r', q⟩, h => by
    subst q
    cases e with
    | lst i ds =>
      cases f with
      | lst j es =>
        obtain ⟨vs, hh, rr⟩ := rep_lst r
        obtain ⟨us, hh', rr'⟩ := rep_lst r'
        cases h1 : ds[k]? with
        | none => simp [Src.at, h1] at h
        | some x =>
          cases h2 : es[k]? with
          | none => simp [Src.at, h1, h2] at h
          | some y =>
            have h3 : D.tup [x, y] = d := by simpa [Src.at, h1, h2] using h
            subst h3
            obtain ⟨v, hv, rv⟩ := rr.get h1
            obtain ⟨u, hu, ru⟩ := rr'.get h2
            refine ⟨⟨vs, us, v, u, .inl (.inl hh), .inl (.inl hh'), hv, hu⟩, fun z H' ⟨T', x', y', e1, e2, e3, e4, e5⟩ => ?_⟩
            have q1 := e4 vs (.inl (.inl hh))
            have q2 := e5 us (.inl (.inl hh'))
            rw [hv] at q1; rw [hu] at q2
            cases q1; cases q2
            subst e1; subst e3
            exact new_tup wf e2 (Reps.cons rv (Reps.cons ru Reps.nil))
      | _ => cases h
    | _ => cases h
  | .zipT e f, ⟨a, b, r, r', q⟩, h => by
    subst q
    cases e with
    | tup ds =>
      cases f with
      | tup es =>
        obtain ⟨vs, hh, rr⟩ := rep_tup r
        obtain ⟨us, hh', rr'⟩ := rep_tup r'
        cases h1 : ds[k]? with
        | none => simp [Src.at, h1] at h
        | some x =>
          cases h2 : es[k]? with
          | none => simp [Src.at, h1, h2] at h
          | some y =>
            have h3 : D.tup [x, y] = d := by simpa [Src.at, h1, h2] using h
            subst h3
            obtain ⟨v, hv, rv⟩ := rr.get h1
            obtain ⟨u, hu, ru⟩ := rr'.get h2
            refine ⟨⟨vs, us, v, u, .inl (.inl hh), .inl (.inl hh'), hv, hu⟩, fun z H' ⟨T', x', y', e1, e2, e3, e4, e5⟩ => ?_⟩
            have q1 := e4 vs (.inl (.inl hh))
            have q2 := e5 us (.inl (.inl hh'))
            rw [hv] at q1; rw [hu] at q2
            cases q1; cases q2
            subst e1; subst e3
            exact new_tup wf e2 (Reps.cons rv (Reps.cons ru Reps.nil))
      | _ => cases h
    | _ => cases h
  | .enum e, ⟨a, r, q⟩, h => by
    subst q
    cases e with
    | lst i ds =>
      obtain ⟨vs, hh, rr⟩ := rep_lst r
      cases h1 : ds[k]? with
      | none => simp [Src.at, h1] at h
      | some x =>
        have h3 : D.tup [.int (k : Int), x] = d := by simpa [Src.at, h1] using h
        subst h3
        obtain ⟨v, hv, rv⟩ := rr.get h1
        refine ⟨⟨vs, v, .inl (.inl hh), hv⟩, fun z H' ⟨T', x', e1, e2, e3, e4⟩ => ?_⟩
        have q1 := e4 vs (.inl (.inl hh))
        rw [hv] at q1
        cases q1
        subst e1; subst e3
        exact new_tup wf e2 (Reps.cons (by rw [Rep]) (Reps.cons rv Reps.nil))
    | _ => cases h
theorem getElem?_none_len {α : Type} {xs : List α} {k : Nat} (h : xs[k]? = none) : xs.length ≤ k := List.getElem?_eq_none_iff.mp h
theorem SrcR.stop {k : Nat} : ∀ {s : Src}, SrcR T K φ H s J → s.at k = some none → J.stop k H
  | .lst e, ⟨a, r, q⟩, h => by
    subst q
    cases e with
    | lst i ds =>
      obtain ⟨vs, hh, rr⟩ := rep_lst r
      exact ⟨vs, .inl (.inl hh), by rw [rr.length]; exact getElem?_none_len (by simpa [Src.at] using h)⟩
    | _ => cases h
  | .tup e, ⟨a, r, q⟩, h => by
    subst q
    cases e with
    | tup ds =>
      obtain ⟨vs, hh, rr⟩ := rep_tup r
      exact ⟨vs, .inl (.inl hh), by rw [rr.length]; exact getElem?_none_len (by simpa [Src.at] using h)⟩
    | _ => cases h
  | .rng lo m, q, h => by
    cases q
    by_cases hk : k < m
    · rw [Src.at, if_pos hk] at h; cases h
    · exact Nat.le_of_not_lt hk
  | .zipL e f, ⟨a, b, r, r', q⟩, h => by
    subst q
    cases e with
    | lst i ds =>
      cases f with
      | lst j es =>
        obtain ⟨vs, hh, rr⟩ := rep_lst r
        obtain ⟨us, hh', rr'⟩ := rep_lst r'
        refine ⟨vs, us, .inl (.inl hh), .inl (.inl hh'), ?_⟩
        rw [rr.length, rr'.length]
        cases h1 : ds[k]? with
        | none => exact .inl (getElem?_none_len h1)
        | some x =>
          cases h2 : es[k]? with
          | none => exact .inr (getElem?_none_len h2)
          | some y => simp [Src.at, h1, h2] at h
      | _ => cases h
    | _ => cases h
  | .zipT e f, ⟨a, b, r, r', q⟩, h => by
    subst q
    cases e with
    | tup ds =>
      cases f with
      | tup es =>
        obtain ⟨vs, hh, rr⟩ := rep_tup r
        obtain ⟨us, hh', rr'⟩ := rep_tup r'
        refine ⟨vs, us, .inl (.inl hh), .inl (.inl hh'), ?_⟩
        rw [rr.length, rr'.length]
        cases h1 : ds[k]? with
        | none => exact .inl (getElem?_none_len h1)
        | some x =>
          cases h2 : es[k]? with
          | none => exact .inr (getElem?_none_len h2)
          | some y => simp [Src.at, h1, h2] at h
      | _ => cases h
    | _ => cases h
  | .enum e, ⟨a, r, q⟩, h => by
    subst q
    cases e with
    | lst i ds =>
      obtain ⟨vs, hh, rr⟩ := rep_lst r
      refine ⟨vs, .inl (.inl hh), ?_⟩
      rw [rr.length]
      cases h1 : ds[k]? with
      | none => exact getElem?_none_len h1
      | some x => simp [Src.at, h1] at h
    | _ => cases h
end

/-! ### iterables -/
abbrev IV := Nat → Ev → R Src
def rdI (T : Tab) (K : PySem.W.Frag) (EX : XK) (f : IV) : TI := fun σ H Q => ∃ φ n env, Wf φ n H ∧ EnvR T φ H env σ ∧ PostE T EX φ n H (fun s φ' _ H' => ∀ J, SrcR T K φ' H' s J → Q J H') (f n env)
theorem _root_.L2.PI.to {X : Cx} {tg e : Expr} {t t' : TI} (h : PI X tg e t) (ht : ∀ σ H Q, t' σ H Q → t σ H Q) : PI X tg e t' := ⟨fun pins s σ H Q I q => h.run pins s σ H Q I (ht σ H Q q)⟩
theorem pi_or {X : Cx} {tg e : Expr} {t t' : TI} (h : PI X tg e t) (h' : PI X tg e t') : PI X tg e (fun σ H Q => t σ H Q ∨ t' σ H Q) := ⟨fun pins s σ H Q I q => q.elim (h.run pins s σ H Q I) (h'.run pins s σ H Q I)⟩
def iSeq (f : EV) : IV := fun n env => (f n env).bind fun d n1 _ => match d with
  | .lst i ds => .ok (.lst (.lst i ds)) n1 []
  | .tup ds => .ok (.tup (.tup ds)) n1 []
  | _ => .bad
def iRange1 (f : AV) : IV := fun n env => (f n env).bind fun ds n1 _ => match ds with
  | [.int j] => if -(2 ^ 62) ≤ j ∧ j < 2 ^ 62 then .ok (.rng 0 j.toNat) n1 [] else .bad
  | _ => .bad
def iRange2 (f : AV) : IV := fun n env => (f n env).bind fun ds n1 _ => match ds with
  | [.int i, .int j] => if -(2 ^ 62) ≤ i ∧ i < 2 ^ 62 ∧ -(2 ^ 62) ≤ j ∧ j < 2 ^ 62 then .ok (.rng i (j - i).toNat) n1 [] else .bad
  | _ => .bad
def iZip (f : AV) : IV := fun n env => (f n env).bind fun ds n1 _ => match ds with
  | [.lst i xs, .lst j ys] => .ok (.zipL (.lst i xs) (.lst j ys)) n1 []
  | [.tup xs, .tup ys] => .ok (.zipT (.tup xs) (.tup ys)) n1 []
  | _ => .bad
def iEnum (f : AV) : IV := fun n env => (f n env).bind fun ds n1 _ => match ds with
  | [.lst i xs] => .ok (.enum (.lst i xs)) n1 []
  | _ => .bad
section
variable {X : Cx} {T : Tab} {EX : XK} {tg e e2 : Expr} {fe : EV} {ga : AV} {pos p tpos : Pos}
theorem rep_ref {φ : Phi} {H : Hp} {i : Nat} {ds : List D} {v : V} (r : Rep T φ H (.lst i ds) v) : ∃ a vs, v = .ref a ∧ Rep T φ H (.lst i ds) (.ref a) ∧ H a = some (.lst vs) := by
  have r0 := r
  rw [Rep] at r
  obtain ⟨a, vs, e, _, q, _⟩ := r
  subst e
  exact ⟨a, vs, rfl, r0, q⟩
theorem rep_refT {φ : Phi} {H : Hp} {ds : List D} {v : V} (r : Rep T φ H (.tup ds) v) : ∃ a vs, v = .ref a ∧ Rep T φ H (.tup ds) (.ref a) ∧ H a = some (.tup vs) := by
  have r0 := r
  rw [Rep] at r
  obtain ⟨a, vs, e, q, _⟩ := r
  subst e
  exact ⟨a, vs, rfl, r0, q⟩
theorem xi_seq (ha : PE X e (rdE T EX fe)) : PI X tg e (rdI T X.K EX (iSeq fe)) := by
  refine (pi_or (pi_list (tg := tg) ha) (pi_tup (tg := tg) ha)).to fun σ H Q ⟨φ, n, env, wf, er, q⟩ => ?_
  -- which one is told by the data
  have key : (∃ d n1 w1, fe n env = .ok d n1 w1 ∧ ((∃ i ds, d = .lst i ds) ∨ ∃ ds, d = .tup ds)) ∨ (∃ c d n1 w1, fe n env = .ex c d n1 w1) := by
    unfold iSeq at q
    cases hf : fe n env with
    | ok d n1 w1 =>
      rw [hf] at q
      left
      refine ⟨d, n1, w1, rfl, ?_⟩
      cases d with
      | lst i ds => exact .inl ⟨i, ds, rfl⟩
      | tup ds => exact .inr ⟨ds, rfl⟩
      | _ => exact q.elim
    | ex c d n1 w1 => exact .inr ⟨c, d, n1, w1, rfl⟩
    | bad => rw [hf] at q; exact q.elim
  rcases key with ⟨d, n1, w1, hf, ⟨i, ds, rfl⟩ | ⟨ds, rfl⟩⟩ | ⟨c, d, n1, w1, hf⟩
  · refine .inl (⟨φ, n, env, wf, er, q.bind fun d' n1' w1' φ1 H1 eq s1 p1 v r1 => ?_⟩ : rdE T EX fe σ H _)
    rw [hf] at eq; cases eq
    obtain ⟨a, vs, rfl, r2, hh⟩ := rep_ref r1
    exact ⟨a, rfl, ⟨vs, .inl (.inl hh)⟩, p1 φ1 H1 (Step.refl s1.wf) _ ⟨a, r2, rfl⟩⟩
  · refine .inr (⟨φ, n, env, wf, er, q.bind fun d' n1' w1' φ1 H1 eq s1 p1 v r1 => ?_⟩ : rdE T EX fe σ H _)
    rw [hf] at eq; cases eq
    obtain ⟨a, vs, rfl, r2, hh⟩ := rep_refT r1
    exact ⟨a, rfl, ⟨vs, .inl (.inl hh)⟩, p1 φ1 H1 (Step.refl s1.wf) _ ⟨a, r2, rfl⟩⟩
  · refine .inl (⟨φ, n, env, wf, er, q.bind fun d' n1' w1' φ1 H1 eq s1 p1 v r1 => ?_⟩ : rdE T EX fe σ H _)
    rw [hf] at eq; cases eq
theorem xi_range1 (hg : Gl X "range") (hm : X.mg "range" = none) (ha : PA X [e] (rdA T EX ga)) (hs : starEach [e] X.env = [(false, eval e X.env)] := by rfl) : PI X tg (.Call (.Name "range" p) [e] [] pos) (rdI T X.K EX (iRange1 ga)) :=
  (pi_range1 hg hm ha hs).to fun σ H Q ⟨φ, n, env, wf, er, q⟩ => go_a wf er q fun ds n1 w1 φ1 H1 vs s1 er1 r1 p1 => by
    split at p1
    · split at p1
      · rename_i j hj
        obtain ⟨v, rfl, r2⟩ := r1.one
        rw [Rep] at r2
        subst r2
        exact ⟨j, rfl, hj.1, hj.2, p1 φ1 H1 (Step.refl s1.wf) _ rfl⟩
      · exact p1.elim
    · exact p1.elim
theorem xi_range2 (hg : Gl X "range") (hm : X.mg "range" = none) (ha : PA X [e, e2] (rdA T EX ga)) (hs : starEach [e, e2] X.env = [(false, eval e X.env), (false, eval e2 X.env)] := by rfl) (hs2 : starEach [e2] X.env = [(false, eval e2 X.env)] := by rfl) :
    PI X tg (.Call (.Name "range" p) [e, e2] [] pos) (rdI T X.K EX (iRange2 ga)) :=
  (pi_range2 hg hm ha hs hs2).to fun σ H Q ⟨φ, n, env, wf, er, q⟩ => go_a wf er q fun ds n1 w1 φ1 H1 vs s1 er1 r1 p1 => by
    split at p1
    · split at p1
      · rename_i i j hj
        obtain ⟨v, u, rfl, r2, r3⟩ := r1.two
        rw [Rep] at r2
        rw [Rep] at r3
        subst r2; subst r3
        exact ⟨i, j, rfl, hj, p1 φ1 H1 (Step.refl s1.wf) _ rfl⟩
      · exact p1.elim
    · exact p1.elim
theorem xi_zip {elts : List Expr} {kk : Nat} (hg : Gl X "zip") (hm : X.mg "zip" = none) (ha : PA X [e, e2] (rdA T EX ga))
    (hs : starEach [e, e2] X.env = (false, eval e X.env) :: starEach [e2] X.env := by rfl) (hpl : (backTo pos (starEach [e2] X.env)).any (·.1) = false := by rfl) :
    PI X (.Tuple elts kk tpos) (.Call (.Name "zip" p) [e, e2] [] pos) (rdI T X.K EX (iZip ga)) :=
  (RZ.pi_zipA hg hm ha hs hpl).to fun σ H Q ⟨φ, n, env, wf, er, q⟩ => go_a wf er q fun ds n1 w1 φ1 H1 vs s1 er1 r1 p1 => by
    split at p1
    · obtain ⟨v, u, rfl, r2, r3⟩ := r1.two
      obtain ⟨a, xs, rfl, r4, h1⟩ := rep_ref r2
      obtain ⟨b, ys, rfl, r5, h2⟩ := rep_ref r3
      exact ⟨a, b, xs, ys, rfl, .inl ⟨.inl (.inl h1), .inl (.inl h2), p1 φ1 H1 (Step.refl s1.wf) _ ⟨a, b, r4, r5, rfl⟩⟩⟩
    · obtain ⟨v, u, rfl, r2, r3⟩ := r1.two
      obtain ⟨a, xs, rfl, r4, h1⟩ := rep_refT r2
      obtain ⟨b, ys, rfl, r5, h2⟩ := rep_refT r3
      exact ⟨a, b, xs, ys, rfl, .inr ⟨.inl (.inl h1), .inl (.inl h2), p1 φ1 H1 (Step.refl s1.wf) _ ⟨a, b, r4, r5, rfl⟩⟩⟩
    · exact p1.elim
theorem xi_enum {elts : List Expr} {kk : Nat} (hg : Gl X "enumerate") (hm : X.mg "enumerate" = none) (ha : PA X [e] (rdA T EX ga)) (hs : starEach [e] X.env = [(false, eval e X.env)] := by rfl) :
    PI X (.Tuple elts kk tpos) (.Call (.Name "enumerate" p) [e] [] pos) (rdI T X.K EX (iEnum ga)) :=
  (pi_enum hg hm ha hs).to fun σ H Q ⟨φ, n, env, wf, er, q⟩ => go_a wf er q fun ds n1 w1 φ1 H1 vs s1 er1 r1 p1 => by
    split at p1
    · obtain ⟨v, rfl, r2⟩ := r1.one
      obtain ⟨a, xs, rfl, r4, h1⟩ := rep_ref r2
      exact ⟨a, xs, rfl, .inl (.inl h1), p1 φ1 H1 (Step.refl s1.wf) _ ⟨a, r4, rfl⟩⟩
    · exact p1.elim
end

/-! ### targets -/
abbrev TgV := D → Ev → Option Ev
/-- a target borne by a rule: js are the slots that it stores -/
structure TgOk (T : Tab) (g : TG) (f : TgV) (js : List Nat) : Prop where
  to : ∀ φ H env σ d v env' (Q : L2.St → Hp → Prop), EnvR T φ H env σ → Rep T φ H d v → f d env = some env' → (∀ σ', EnvR T φ H env' σ' → (∀ vs : List Nat, (∀ j ∈ js, j ∈ vs) → wipe σ' vs = wipe σ vs) → Q σ' H) → g v σ H Q
def tgN (i : Nat) : TgV := fun d env => some (env.set i (some d))
theorem wipe_set {σ : L2.St} {i : Nat} {o : Option V} : ∀ {vs : List Nat}, i ∈ vs → wipe (σ.set i o) vs = wipe σ vs
  | [], h => by cases h
  | v :: vs, h => by
    unfold wipe
    by_cases hv : i ∈ vs
    · rw [wipe_set hv]
    · have e : i = v := (List.mem_cons.mp h).elim id fun z => absurd z hv
      subst e
      have key : ∀ us : List Nat, i ∉ us → wipe (σ.set i o) us = (wipe σ us).set i o := by
        intro us
        induction us with
        | nil => intro _; rfl
        | cons u us ih =>
          intro hu
          unfold wipe
          rw [ih fun z => hu (List.mem_cons_of_mem _ z), List.set_comm _ _ (fun z : i = u => hu (by rw [z]; exact List.mem_cons_self))]
      rw [key vs hv, List.set_set]
theorem EnvR.set {T : Tab} {φ : Phi} {H : Hp} {env : Ev} {σ : L2.St} {i : Nat} {d : D} {v : V} (er : EnvR T φ H env σ) (r : Rep T φ H d v) : EnvR T φ H (env.set i (some d)) (σ.set i (some v)) := by
  refine ⟨by rw [List.length_set, List.length_set]; exact er.len, fun j x e => ?_⟩
  by_cases hj : i = j
  · subst hj
    by_cases hl : i < env.length
    · rw [List.getElem?_set_self hl] at e
      cases e
      exact ⟨v, List.getElem?_set_self (by show i < List.length σ; rw [← er.len]; exact hl), r⟩
    · rw [List.getElem?_eq_none (by rw [List.length_set]; exact Nat.le_of_not_lt hl)] at e; cases e
  · rw [List.getElem?_set_ne hj] at e
    obtain ⟨u, h1, h2⟩ := er.at_ j x e
    exact ⟨u, by rw [List.getElem?_set_ne hj]; exact h1, h2⟩
theorem tgN_ok {T : Tab} {i : Nat} : TgOk T (gName i) (tgN i) [i] :=
  ⟨fun φ H env σ d v env' Q er r h q => by
    cases h
    exact q _ (er.set r) fun vs hv => wipe_set (hv i (by simp))⟩
/-- several targets, from the left -/
def tgs : List TgV → List D → Ev → Option Ev
  | [], [], env => some env
  | f :: fs, d :: ds, env => match f d env with
    | some env1 => tgs fs ds env1
    | none => none
  | _, _, _ => none
structure TgsOk (T : Tab) (g : TGs) (fs : List TgV) (js : List Nat) : Prop where
  to : ∀ φ H env σ ds vs env' (Q : L2.St → Hp → Prop), EnvR T φ H env σ → Reps T φ H ds vs → tgs fs ds env = some env' → (∀ σ', EnvR T φ H env' σ' → (∀ vs : List Nat, (∀ j ∈ js, j ∈ vs) → wipe σ' vs = wipe σ vs) → Q σ' H) → g vs σ H Q
theorem tgs_nil {T : Tab} : TgsOk T gNil [] [] :=
  ⟨fun φ H env σ ds vs env' Q er r h q => by
    cases ds with
    | nil =>
      cases h
      rw [Reps] at r
      exact ⟨r, q σ er fun _ _ => rfl⟩
    | cons _ _ => cases h⟩
theorem tgs_cons {T : Tab} {g : TG} {gs : TGs} {f : TgV} {fs : List TgV} {js ks : List Nat} (h1 : TgOk T g f js) (h2 : TgsOk T gs fs ks) : TgsOk T (gCons g gs) (f :: fs) (js ++ ks) :=
  ⟨fun φ H env σ ds vs env' Q er r h q => by
    cases ds with
    | nil => cases h
    | cons d ds =>
      rw [Reps] at r
      obtain ⟨v, us, e, r1, r2⟩ := r
      rw [tgs] at h
      cases hf : f d env with
      | none => rw [hf] at h; cases h
      | some env1 =>
        rw [hf] at h
        exact ⟨v, us, e, h1.to _ _ _ _ _ _ _ _ er r1 hf fun σ1 er1 k1 => h2.to _ _ _ _ _ _ _ _ er1 r2 h fun σ2 er2 k2 => q σ2 er2 fun vs hv =>
          (k2 vs fun j hj => hv j (List.mem_append_right _ hj)).trans (k1 vs fun j hj => hv j (List.mem_append_left _ hj))⟩⟩
/-- (a, b, ..) = a tuple -/
def tgT (fs : List TgV) : TgV := fun d env => match d with
  | .tup ds => tgs fs ds env
  | _ => none
theorem tgs_len : ∀ {fs : List TgV} {ds : List D} {env env' : Ev}, tgs fs ds env = some env' → ds.length = fs.length
  | [], [], _, _, _ => rfl
  | [], _ :: _, _, _, h => by cases h
  | _ :: _, [], _, _, h => by cases h
  | f :: fs, d :: ds, env, env', h => by
    rw [tgs] at h
    cases hf : f d env with
    | none => rw [hf] at h; cases h
    | some env1 => rw [hf] at h; rw [List.length_cons, List.length_cons, tgs_len h]
theorem tgT_ok {T : Tab} {K : PySem.W.Frag} {g : TGs} {fs : List TgV} {js : List Nat} {m : Nat} (h : TgsOk T g fs js) (hm : fs.length = m) : TgOk T (gTup K m g) (tgT fs) js :=
  ⟨fun φ H env σ d v env' Q er r hf q => by
    unfold tgT at hf
    split at hf
    · rename_i ds
      obtain ⟨a, vs, rfl, r2, hh⟩ := rep_refT r
      obtain ⟨vs', hh', rr⟩ := rep_tup r2
      rw [hh] at hh'; cases hh'
      exact ⟨a, vs, rfl, .inl (.inl hh), by rw [rr.length, tgs_len hf, hm], h.to _ _ _ _ _ _ _ _ er rr hf q⟩
    · cases hf⟩

/-! ### comprehensions -/
def wipeE (env : Ev) : List Nat → Ev
  | [] => env
  | v :: vs => (wipeE env vs).set v none
theorem EnvR.wipe {T : Tab} {φ : Phi} {H : Hp} {env : Ev} {σ : L2.St} (er : EnvR T φ H env σ) : ∀ vs : List Nat, EnvR T φ H (wipeE env vs) (wipe σ vs)
  | [] => er
  | v :: vs => by
    have ih := er.wipe vs
    unfold wipeE L2.wipe
    refine ⟨by rw [List.length_set, List.length_set]; exact ih.len, fun j x e => ?_⟩
    by_cases hj : v = j
    · subst hj
      by_cases hl : v < (wipeE env vs).length
      · rw [List.getElem?_set_self hl] at e; cases e
      · rw [List.getElem?_eq_none (by rw [List.length_set]; exact Nat.le_of_not_lt hl)] at e; cases e
    · rw [List.getElem?_set_ne hj] at e
      obtain ⟨u, h1, h2⟩ := ih.at_ j x e
      exact ⟨u, by rw [List.getElem?_set_ne hj]; exact h1, h2⟩
theorem wipe_wipe {σ : L2.St} : ∀ vs : List Nat, L2.wipe (L2.wipe σ vs) vs = L2.wipe σ vs := by
  have key : ∀ (us vs : List Nat) (σ : L2.St), (∀ u ∈ us, u ∈ vs) → L2.wipe (L2.wipe σ us) vs = L2.wipe σ vs := by
    intro us
    induction us with
    | nil => intro vs σ _; rfl
    | cons u us ih =>
      intro vs σ h
      show L2.wipe ((L2.wipe σ us).set u none) vs = _
      rw [wipe_set (h u List.mem_cons_self), ih vs σ fun x hx => h x (List.mem_cons_of_mem _ hx)]
  exact fun vs => key vs vs σ fun _ h => h
def tTrue : TV := fun n _ => .ok true n []
def lcGo (own : List Nat) (tg : TgV) (tt : TV) (el : EV) : Nat → Nat → Src → List D → Nat → Ev → R D
  | fuel, k, s, acc, n, env => match s.at k with
    | none => .bad
    | some none => .ok (.lst n acc) (n + 1) []
    | some (some d) => match fuel with
      | 0 => .bad
      | fuel + 1 => match tg d (wipeE env own) with
        | none => .bad
        | some env1 => (tt n env1).bind fun b n1 w1 =>
          if b = true then (el n1 (putE w1 env1)).bind fun x n2 w2 =>
            if acc.length < sizeLine then lcGo own tg tt el fuel (k + 1) ((s.puts w1).puts w2) (putsL w2 (putsL w1 acc) ++ [x]) n2 (putE w2 (putE w1 env)) else .bad
          else lcGo own tg tt el fuel (k + 1) (s.puts w1) (putsL w1 acc) n1 (putE w1 env)
def eLc (it : IV) (own : List Nat) (tg : TgV) (tt : TV) (el : EV) : EV := fun n env => (it n env).bind fun s n1 w1 => lcGo own tg tt el s.len 0 s [] n1 (putE w1 env)
section
variable {X : Cx} {T : Tab} {EX : XK} {K : PySem.W.Frag}
theorem putsL_len (w : Wr) : ∀ ds : List D, (putsL w ds).length = ds.length
  | [] => rfl
  | d :: ds => by rw [putsL, List.length_cons, List.length_cons, putsL_len w ds]
/-- an untabled list at D grows: a step that is none for tabled data -/
theorem own_step {φ : Phi} {n : Nat} {H : Hp} {D0 : Addr} {xs ys : List V} (wf : Wf φ n H) (hD : H D0 = some (.lst xs)) (hφ : ∀ i, φ i ≠ some D0) :
    Wf φ n (upd H D0 (.lst ys)) ∧ (∀ (d : D) v, Rep T φ H d v → Rep T φ (upd H D0 (.lst ys)) d v) ∧ (∀ ds vs, Reps T φ H ds vs → Reps T φ (upd H D0 (.lst ys)) ds vs) := by
  have h1 : ∀ i b, φ i = some b → b ≠ D0 := fun i b e z => hφ i (z ▸ e)
  have key : (∀ (d : D) v, Rep T φ H d v → Rep T φ (upd H D0 (.lst ys)) d v) ∧ (∀ ds vs, Reps T φ H ds vs → Reps T φ (upd H D0 (.lst ys)) ds vs) := by
    have k1 : ∀ (d : D) (v : V) , Rep T φ H d v → ∃ j, D.has j d = false := fun d v r => ⟨n, by
      cases e : D.has n d with
      | false => rfl
      | true =>
        obtain ⟨a, ha⟩ := Rep.ids d v r n e
        exact absurd (wf.lt n a ha) (Nat.lt_irrefl _)⟩
    have h2 : ∀ b xs', H b = some (.tup xs') → b ≠ D0 := fun b xs' e z => by rw [z, hD] at e; cases e
    have h2z : ∀ b o u, H b = some (.frz o u) → b ≠ D0 := fun b o u e z => by rw [z, hD] at e; cases e
    have h3 : ∀ b o, b ≠ D0 → H b = some o → upd H D0 (.lst ys) b = some o := fun b o hb e => by rw [upd_ne hb]; exact e
    refine ⟨fun d v r => ?_, fun ds vs r => ?_⟩
    · have e : D.has n d = false := by
        cases e : D.has n d with
        | false => rfl
        | true =>
          obtain ⟨a, ha⟩ := Rep.ids d v r n e
          exact absurd (wf.lt n a ha) (Nat.lt_irrefl _)
      exact Rep.keep (j := n) (fun _ _ h => h) (fun i b h _ => h1 i b h) h2 h2z h3 d v e r
    · have e : hasL n ds = false := by
        cases e : hasL n ds with
        | false => rfl
        | true =>
          obtain ⟨a, ha⟩ := Reps.ids ds vs r n e
          exact absurd (wf.lt n a ha) (Nat.lt_irrefl _)
      exact Reps.keep (j := n) (fun _ _ h => h) (fun i b h _ => h1 i b h) h2 h2z h3 ds vs e r
  refine ⟨⟨wf.inj, wf.lt, fun i a e => ?_⟩, key⟩
  rw [upd_ne (h1 i a e)]
  exact wf.trk i a e
theorem SrcR.imp {φ : Phi} {H H1 : Hp} {J : It} (h : ∀ (d : D) v, Rep T φ H d v → Rep T φ H1 d v) : ∀ {s : Src}, SrcR T K φ H s J → SrcR T K φ H1 s J
  | .lst d, ⟨a, r, e⟩ => ⟨a, h _ _ r, e⟩
  | .tup d, ⟨a, r, e⟩ => ⟨a, h _ _ r, e⟩
  | .rng lo n, e => e
  | .zipL d e, ⟨a, b, r, r', q⟩ => ⟨a, b, h _ _ r, h _ _ r', q⟩
  | .zipT d e, ⟨a, b, r, r', q⟩ => ⟨a, b, h _ _ r, h _ _ r', q⟩
  | .enum d, ⟨a, r, e⟩ => ⟨a, h _ _ r, e⟩
theorem EnvR.imp {φ : Phi} {H H1 : Hp} {env : Ev} {σ : L2.St} (er : EnvR T φ H env σ) (h : ∀ (d : D) v, Rep T φ H d v → Rep T φ H1 d v) : EnvR T φ H1 env σ :=
  ⟨er.len, fun i d e => let ⟨v, h1, h2⟩ := er.at_ i d e; ⟨v, h1, h d v h2⟩⟩
/-- what holds between two turns of a comprehension -/
structure LcInv (T : Tab) (K : PySem.W.Frag) (φ0 : Phi) (n0 : Nat) (H0 : Hp) (σ : L2.St) (D0 : Addr) (J : It) (w : Wr) (φ : Phi) (n : Nat) (H : Hp) (s : Src) (acc : List D) (env : Ev) : Prop where
  st : Step T φ0 n0 H0 w φ n H
  hD : ∃ vs, H D0 = some (.lst vs) ∧ Reps T φ H acc vs
  nD : ∀ i, φ i ≠ some D0
  src : SrcR T K φ H s J
  env : EnvR T φ H env σ
theorem LcInv.step {φ0 φ φ1 : Phi} {n0 n n1 : Nat} {H0 H H1 : Hp} {σ : L2.St} {D0 : Addr} {J : It} {w w1 : Wr} {s : Src} {acc : List D} {env : Ev} (I : LcInv T K φ0 n0 H0 σ D0 J w φ n H s acc env) (st : Step T φ n H w1 φ1 n1 H1) :
    LcInv T K φ0 n0 H0 σ D0 J (comp w w1) φ1 n1 H1 (s.puts w1) (putsL w1 acc) (putE w1 env) := by
  obtain ⟨vs, h1, h2⟩ := I.hD
  exact ⟨I.st.trans st, ⟨vs, st.frm _ _ I.nD h1, st.carL h2⟩, fun i e => (st.new i D0 e).elim (I.nD i) (fun z => by rw [h1] at z; cases z), I.src.step st, I.env.step st⟩
theorem LcInv.app {φ0 φ : Phi} {n0 n : Nat} {H0 H : Hp} {σ : L2.St} {D0 : Addr} {J : It} {w : Wr} {s : Src} {acc : List D} {env : Ev} {d : D} {v : V} (hD0 : H0 D0 = none) (I : LcInv T K φ0 n0 H0 σ D0 J w φ n H s acc env) (r : Rep T φ H d v) :
    ∃ vs, H D0 = some (.lst vs) ∧ vs.length = acc.length ∧ LcInv T K φ0 n0 H0 σ D0 J w φ n (upd H D0 (.lst (vs ++ [v]))) s (acc ++ [d]) env := by
  obtain ⟨vs, h1, h2⟩ := I.hD
  obtain ⟨k1, k2, k3⟩ := own_step (ys := vs ++ [v]) I.st.wf h1 I.nD
  refine ⟨vs, h1, h2.length, ⟨I.st.le, k1, I.st.nn, fun d v r => k2 _ _ (I.st.car d v r), I.st.new, fun a o hx h => ?_⟩, ⟨vs ++ [v], upd_same, k3 _ _ (h2.append (Reps.cons r Reps.nil))⟩, I.nD, I.src.imp k2, I.env.imp k2⟩
  have hne : a ≠ D0 := fun z => by rw [z, hD0] at h; cases h
  rw [upd_ne hne]
  exact I.st.frm a o hx h
theorem R.pre_pre {α : Type} (r : R α) (w1 w2 : Wr) : (r.pre w2).pre w1 = r.pre (comp w1 w2) := by
  have key : ∀ w3, comp w1 (comp w2 w3) = comp (comp w1 w2) w3 := fun w3 => comp_assoc w1 w2 w3
  cases r with
  | ok a n w => show R.ok a n _ = R.ok a n _; rw [key]
  | ex c d n w => show R.ex c d n _ = R.ex c d n _; rw [key]
  | bad => rfl
theorem pts_yes {X : Cx} : PTs X [] (rdT T EX tTrue) := ⟨fun pins s σ H Q I ⟨φ, n, env, wf, er, p⟩ => pts_nil.run pins s σ H Q I (p φ H (Step.refl wf))⟩
theorem pts_t {X : Cx} {c : Expr} {tc : TV} (h : PT X c (rdT T EX tc)) : PTs X [c] (rdT T EX tc) := pts_one h
theorem PostE.bind_pre {α β : Type} {φ φ1 : Phi} {n n1 : Nat} {H H1 : Hp} {w : Wr} {Q : β → Phi → Nat → Hp → Prop} {Q1 : α → Phi → Nat → Hp → Prop} {r : R α} {k : α → Nat → Wr → R β} (h : PostE T EX φ n H Q ((r.bind k).pre w)) (s : Step T φ n H w φ1 n1 H1)
    (hk : ∀ a n2 w2 φ2 H2, r = .ok a n2 w2 → Step T φ1 n1 H1 w2 φ2 n2 H2 → PostE T EX φ n H Q ((k a n2 w2).pre (comp w w2)) → Q1 a φ2 n2 H2) : PostE T EX φ1 n1 H1 Q1 r := by
  cases r with
  | ok a n2 w2 =>
    intro φ2 H2 s2
    refine hk a n2 w2 φ2 H2 rfl s2 ?_
    have h' : PostE T EX φ n H Q (((k a n2 w2).pre w2).pre w) := h
    rwa [R.pre_pre] at h'
  | ex c d n' w' => exact fun φ2 H2 s2 => h φ2 H2 (s.trans s2)
  | bad => exact h
theorem lc_go {it : IV} {own : List Nat} {tg : TgV} {g : TG} {js : List Nat} {tt : TV} {el : EV} (ht : TgOk T g tg js) (hjs : ∀ j ∈ js, j ∈ own) :
    ∀ σ H Q, rdE T EX (eLc it own tg tt el) σ H Q → tLc (rdI T K EX it) g (rdT T EX tt) (rdE T EX el) own σ H Q := by
  intro σ H Q ⟨φ, n, env, wf, er, p⟩
  refine ⟨φ, n, env, wf, er, p.bind fun s n1 w1 φ1 H1 _ s1 p1 J hJ => ?_⟩
  intro D0 hD0
  have er1 := er.step s1
  -- the turns
  refine ⟨fun i m H' => ∃ φ' n' s' acc env' w', LcInv T K φ1 n1 H1 σ D0 J w' φ' n' H' s' acc env' ∧ PostE T EX φ1 n1 H1 (QV T Q) ((lcGo own tg tt el m i s' acc n' env').pre w'), ⟨s.len, φ1, n1, s, [], putE w1 env, [], ?_, ?_⟩, ?_⟩
  · have g := grow_tup (φ := φ1) (o := .lst []) hD0
    exact ⟨g.step (wf_tup s1.wf hD0) (Nat.le_refl _) (fun _ _ h => .inl h), ⟨[], upd_same, Reps.nil⟩, fun i e => (s1.wf.trk i D0 e).1 hD0, hJ.imp fun d v => Rep.grow g d v, er1.imp fun d v => Rep.grow g d v⟩
  · have e : ∀ r : R D, r.pre [] = r := fun r => by cases r <;> simp only [R.pre, nil_comp]
    rw [e]
    exact p1
  · intro i m H' ⟨φ', n', s', acc, env', w', I, q⟩
    rw [lcGo.eq_def] at q
    cases hat : s'.at i with
    | none => simp only [hat] at q; exact q.elim
    | some o =>
      cases o with
      | none =>
        simp only [hat] at q
        refine .inl ⟨I.src.stop hat, ?_⟩
        -- the list is tabled now
        obtain ⟨vs, h1, h2⟩ := I.hD
        have hwf : Wf (phiAt φ' n' D0) (n' + 1) H' := by
          refine ⟨fun x y a h3 h4 => ?_, fun x a h3 => ?_, fun x a h3 => ?_⟩
          · unfold phiAt at h3 h4
            by_cases hx : x = n' <;> by_cases hy : y = n'
            · rw [hx, hy]
            · rw [if_pos hx] at h3; rw [if_neg hy] at h4; cases h3; exact absurd h4 (I.nD y)
            · rw [if_neg hx] at h3; rw [if_pos hy] at h4; cases h4; exact absurd h3 (I.nD x)
            · rw [if_neg hx] at h3; rw [if_neg hy] at h4; exact I.st.wf.inj x y a h3 h4
          · unfold phiAt at h3
            by_cases hx : x = n'
            · omega
            · rw [if_neg hx] at h3; have := I.st.wf.lt x a h3; omega
          · unfold phiAt at h3
            by_cases hx : x = n'
            · rw [if_pos hx] at h3; cases h3
              rw [h1]; exact ⟨by simp, fun xs e => by cases e⟩
            · rw [if_neg hx] at h3; exact I.st.wf.trk x a h3
        have g : Grow φ' (phiAt φ' n' D0) H' H' := ⟨fun x a e => phiAt_old I.st.wf e, fun _ _ e => e⟩
        have st : Step T φ1 n1 H1 w' (phiAt φ' n' D0) (n' + 1) H' := by
          refine ⟨fun x a e => g.1 x a (I.st.le x a e), hwf, Nat.le_succ_of_le I.st.nn, fun d v r => Rep.grow g _ _ (I.st.car d v r), fun x a e => ?_, I.st.frm⟩
          unfold phiAt at e
          by_cases hx : x = n'
          · rw [if_pos hx] at e; cases e; exact .inr hD0
          · rw [if_neg hx] at e; exact I.st.new x a e
        have q' : PostE T EX φ1 n1 H1 (QV T Q) (.ok (.lst n' acc) (n' + 1) (comp w' [])) := q
        rw [comp_nil] at q'
        refine q' _ _ st (.ref D0) ?_
        rw [Rep]
        exact ⟨D0, vs, rfl, phiAt_self, h1, Reps.grow g acc vs h2⟩
      | some d =>
        simp only [hat] at q
        obtain ⟨h1, h2⟩ := I.src.item I.st.wf hat
        cases m with
        | zero => exact q.elim
        | succ m =>
          dsimp only at q
          refine .inr ⟨h1, fun H2 => ∃ φ' n' s' acc env' w', LcInv T K φ1 n1 H1 σ D0 J w' φ' n' H2 s' acc env' ∧ PostE T EX φ1 n1 H1 (QV T Q) ((lcGo own tg tt el m (i + 1) s' acc n' env').pre w'), fun H2 hN => ⟨m, Nat.lt_succ_self _, hN⟩, fun x H2 y => ?_⟩
          obtain ⟨st, rx⟩ := h2 x H2 y
          have I2 := I.step st
          rw [Src.puts_nil, putsL_nil, putE_nil, comp_nil] at I2
          cases htg : tg d (wipeE env' own) with
          | none => rw [htg] at q; exact q.elim
          | some env1 =>
            rw [htg] at q
            dsimp only at q
            refine ht.to _ _ _ _ _ _ _ _ (I2.env.wipe own) rx htg fun σ2 er2 k2 => ⟨?_, ?_⟩
            · rw [k2 own hjs, wipe_wipe]
            · refine ⟨_, _, _, I2.st.wf, er2, q.bind_pre I2.st fun b n3 w3 φ3 H3 _ s3 q3 => ?_⟩
              have I3 := I2.step s3
              have er3 := er2.step s3
              show if b = true then _ else _
              cases b with
              | false => exact ⟨φ3, n3, _, _, _, _, I3, q3⟩
              | true =>
                rw [if_pos rfl]
                rw [if_pos rfl] at q3
                refine ⟨_, _, _, s3.wf, er3, q3.bind_pre I3.st fun z n4 w4 φ4 H4 _ s4 q4 v rv => ?_⟩
                have I4 := I3.step s4
                split at q4
                · rename_i hz
                  obtain ⟨vs, e1, e2, I5⟩ := I4.app hD0 rv
                  refine ⟨vs, e1, by rw [e2, putsL_len, putsL_len]; exact hz, φ4, n4, _, _, _, _, I5, q4⟩
                · exact q4.elim
theorem x_lc {elt tg iter : Expr} {ifs : List Expr} {scope : Scope} {own : List (Str × Nat)} {pos : Pos} {it : IV} {tgv : TgV} {g : TG} {js : List Nat} {tt : TV} {el : EV} (hc : X.calm = true) (hN : X.N.Nodup) (hi : PI X tg iter (rdI T K EX it)) (ok : BlkOk X.N X.env.scope scope own) (ht : TgOk T g tgv js) (hjs : ∀ j ∈ js, j ∈ own.map (·.2))
    (hg : ∀ (s : Shared) (H : Hp) (C : Addr) (cl : List (Str × Addr)) (fp : List Addr), PG (X.blk s H scope (compEnvC scope cl C X.env) fp) tg g) (htt : ∀ (s : Shared) (H : Hp) (C : Addr) (cl : List (Str × Addr)) (fp : List Addr), PTs (X.blk s H scope (compEnvC scope cl C X.env) fp) ifs (rdT T EX tt))
    (he : ∀ (s : Shared) (H : Hp) (C : Addr) (cl : List (Str × Addr)) (fp : List Addr), PE (X.blk s H scope (compEnvC scope cl C X.env) fp) elt (rdE T EX el)) (hs : ∀ x, foldedSetIterable iter X.env x = pure x := by intro _; rfl) :
    PE X (.ListComp elt [⟨tg, iter, ifs, 0⟩] scope pos) (rdE T EX (eLc it (own.map (·.2)) tgv tt el)) :=
  (pe_lc hc hN hi ok hg htt he hs).to (lc_go ht hjs)
end
end Sx
end
section
set_option Elab.async false
set_option linter.all false
set_option maxRecDepth 100000
set_option maxHeartbeats 1000000
/-! Sx.G: statements, bodies, defs. -/
namespace Sx
open PySem PySem.Spec PyProof.Rows L2

/-- the state of a body: the next id, the slots, the stores at elder ids, what the loops around walk -/
structure SS where
  n : Nat
  env : Ev
  w : Wr
  hid : List Src
/-- behind an expression -/
def SS.put (s : SS) (n0 n' : Nat) (wx : Wr) : SS := match wx with
  | [] => { s with n := n' }
  | _ :: _ => { n := n', env := putE wx s.env, w := cutW n0 (comp s.w wx), hid := s.hid.map (Src.puts wx) }
theorem hid_nil (h : List Src) : h.map (Src.puts []) = h := by
  induction h with
  | nil => rfl
  | cons s r ih => rw [List.map_cons, ih, Src.puts_nil]
inductive RS where
  | nx (s : SS) | rt (d : D) (s : SS) | bk (s : SS) | ct (s : SS) | ex (c : Nat) (d : Option D) (s : SS) | bad
abbrev SV := Nat → SS → RS
structure SRel (T : Tab) (K : PySem.W.Frag) (φ0 : Phi) (n0 : Nat) (H0 : Hp) (φ : Phi) (s : SS) (σ : L2.St) (H : Hp) (hj : List It) : Prop where
  st : Step T φ0 n0 H0 s.w φ s.n H
  env : EnvR T φ H s.env σ
  hid : Paired (fun (s : Src) (J : It) => SrcR T K φ H s J) s.hid hj
def PostS (T : Tab) (K : PySem.W.Frag) (EX : XK) (φ0 : Phi) (n0 : Nat) (H0 : Hp) (hj : List It) (E : Ends) : RS → Prop
  | .nx s => ∀ φ σ H, SRel T K φ0 n0 H0 φ s σ H hj → E.nx σ H
  | .rt d s => ∀ φ σ H v, SRel T K φ0 n0 H0 φ s σ H hj → Rep T φ H d v → E.rt v H
  | .bk s => ∀ φ σ H, SRel T K φ0 n0 H0 φ s σ H hj → E.bk σ H
  | .ct s => ∀ φ σ H, SRel T K φ0 n0 H0 φ s σ H hj → E.ct σ H
  | .ex c d s => ∀ φ H, Step T φ0 n0 H0 s.w φ s.n H → ExRep T φ H c d EX
  | .bad => False
def rdS (T : Tab) (K : PySem.W.Frag) (EX : XK) (f : SV) : TS := fun E σ H => ∃ φ0 n0 H0 φ s hj, Wf φ0 n0 H0 ∧ SRel T K φ0 n0 H0 φ s σ H hj ∧ PostS T K EX φ0 n0 H0 hj E (f n0 s)

section
variable {T : Tab} {K : PySem.W.Frag} {EX : XK} {φ0 φ φ1 : Phi} {n0 n1 : Nat} {H0 H H1 : Hp} {s : SS} {σ : L2.St} {hj : List It} {w : Wr}
theorem Paired.srcs {a : List Src} (h : Paired (fun (s : Src) (J : It) => SrcR T K φ H s J) a hj) (st : Step T φ n1 H w φ1 n0 H1) : Paired (fun (s : Src) (J : It) => SrcR T K φ1 H1 s J) (a.map (Src.puts w)) hj := by
  induction h with
  | nil => exact .nil
  | cons r t ih => exact .cons (r.step st) ih
theorem SRel.put (w0 : Wf φ0 n0 H0) (r : SRel T K φ0 n0 H0 φ s σ H hj) (st : Step T φ s.n H w φ1 n1 H1) : SRel T K φ0 n0 H0 φ1 (s.put n0 n1 w) σ H1 hj := by
  have st1 := (r.st.trans st).cut w0
  cases w with
  | nil =>
    refine ⟨?_, ?_, ?_⟩
    · have := r.st.trans st
      rw [comp_nil] at this
      exact this
    · have := r.env.step st
      rw [putE_nil] at this
      exact this
    · have := Paired.srcs r.hid st
      rw [hid_nil] at this
      exact this
  | cons p q => exact ⟨st1, r.env.step st, Paired.srcs r.hid st⟩
end

/-! ### the evaluators -/
/-- an expression in a statement -/
def onE {α : Type} (f : Nat → Ev → R α) (k : α → SV) : SV := fun n0 s => match f s.n s.env with
  | .ok a n1 w => k a n0 (s.put n0 n1 w)
  | .ex c d n1 w => .ex c d (s.put n0 n1 w)
  | .bad => .bad
def SS.setv (s : SS) (i : Nat) (d : D) : SS := { s with env := s.env.set i (some d) }
def sNil : SV := fun _ s => .nx s
def sSeq (a b : SV) : SV := fun n0 s => match a n0 s with
  | .nx s' => b n0 s'
  | r => r
def sBad : SV := fun _ _ => .bad
def sExpr (f : EV) : SV := onE f fun _ _ s => .nx s
def sRet (f : EV) : SV := onE f fun d _ s => .rt d s
def sRetN : SV := fun _ s => .rt .non s
def sBreak : SV := fun _ s => .bk s
def sCont : SV := fun _ s => .ct s
def sSet (i : Nat) (f : EV) : SV := onE f fun d _ s => .nx (s.setv i d)
def sTg (tg : TgV) (f : EV) : SV := onE f fun d _ s => match tg d s.env with
  | some env => .nx { s with env := env }
  | none => .bad
def sPar (i j : Nat) (f : AV) : SV := onE f fun ds _ s => match ds with
  | [a, b] => .nx ((s.setv i a).setv j b)
  | _ => .bad
def sPar3 (i j l : Nat) (f : AV) : SV := onE f fun ds _ s => match ds with
  | [a, b, c] => .nx (((s.setv i a).setv j b).setv l c)
  | _ => .bad
def sIf (c : TV) (a b : SV) : SV := onE c fun k n0 s => if k = true then a n0 s else b n0 s
/-- name op= e -/
def sAug (i : Nat) (g : D → D → Nat → Option (D × Nat)) (f : EV) : SV := fun n0 s => match s.env[i]? with
  | some (some x) => match f s.n s.env with
    | .ok y n1 w => (match g (puts w x) y n1 with
      | some (z, n2) => .nx (((s.put n0 n1 w).put n0 n2 []).setv i z)
      | none => .bad)
    | .ex c d n1 w => .ex c d (s.put n0 n1 w)
    | .bad => .bad
  | _ => .bad
/-- o[i] = e -/
def setD : D → D → D → Option (Nat × D) := fun o i v => match o, i with
  | .lst a ds, .int k => match ixN ds.length k with
    | some j => if D.has a v = false then some (a, .lst a (ds.set j v)) else none
    | none => none
  | _, _ => none
def sSub (o i f : EV) : SV := onE f fun v n0 s => match o s.n s.env with
  | .ok od n1 w1 => (match i n1 (putE w1 s.env) with
    | .ok id_ n2 w2 => (match setD (puts w2 od) id_ (puts w2 (puts w1 v)) with
      | some (a, nw) => .nx (((s.put n0 n1 w1).put n0 n2 w2).put n0 n2 [(a, nw)])
      | none => .bad)
    | _ => .bad)
  | _ => .bad
/-- o.f = e, the j-th field of the class c -/
def setF (c j : Nat) (o v : D) : Option (Nat × D) := match o with
  | .ins a c' ds => if c' = c ∧ j ≤ ds.length ∧ D.has a v = false then some (a, .ins a c (if j = ds.length then ds ++ [v] else ds.set j v)) else none
  | _ => none
def sFld (c j : Nat) (o f : EV) : SV := onE f fun v n0 s => match o s.n s.env with
  | .ok od n1 w1 => (match setF c j od (puts w1 v) with
    | some (a, nw) => .nx ((s.put n0 n1 w1).put n0 n1 [(a, nw)])
    | none => .bad)
  | _ => .bad
def forGo (tg : TgV) (body : SV) (n0 : Nat) : Nat → Nat → SS → RS
  | fuel, k, s => match s.hid with
    | [] => .bad
    | src :: h => match src.at k with
      | none => .bad
      | some none => .nx { s with hid := h }
      | some (some d) => match fuel with
        | 0 => .bad
        | fuel + 1 => match tg d s.env with
          | none => .bad
          | some env => match body n0 { s with env := env } with
            | .nx s' => forGo tg body n0 fuel (k + 1) s'
            | .ct s' => forGo tg body n0 fuel (k + 1) s'
            | .bk s' => .nx { s' with hid := s'.hid.drop 1 }
            | .rt d s' => .rt d { s' with hid := s'.hid.drop 1 }
            | .ex c d s' => .ex c d { s' with hid := s'.hid.drop 1 }
            | .bad => .bad
def sFor (it : IV) (tg : TgV) (body : SV) : SV := onE it fun src n0 s => forGo tg body n0 src.len 0 { s with hid := src :: s.hid }
def whileGo (c : TV) (body : SV) (n0 : Nat) : Nat → SS → RS
  | fuel, s => match c s.n s.env with
    | .ok k n1 w => if k = true then (match fuel with
        | 0 => .bad
        | fuel + 1 => match body n0 (s.put n0 n1 w) with
          | .nx s' => whileGo c body n0 fuel s'
          | .ct s' => whileGo c body n0 fuel s'
          | .bk s' => .nx s'
          | r => r) else .nx (s.put n0 n1 w)
    | .ex e d n1 w => .ex e d (s.put n0 n1 w)
    | .bad => .bad
def sWhile (fuel : Nat) (c : TV) (body : SV) : SV := fun n0 s => whileGo c body n0 fuel s
/-- a def's body run -/
def runF (m : Nat) (body : SV) : FV := fun ds n => match body n { n := n, env := ds.map some ++ List.replicate (m - ds.length) none, w := [], hid := [] } with
  | .nx s => .ok .non s.n s.w
  | .rt d s => .ok d s.n s.w
  | .ex c d s => .ex c d s.n s.w
  | _ => .bad

/-! ### soundness -/
section
variable {X : Cx} {T : Tab} {EX : XK} {st : Stmt} {rest : List Stmt} {fs gs : SV} {e o i' : Expr} {fe fo fi : EV} {ga : AV} {tc : TV} {pos : Pos}
theorem xs_nil : PSs X [] (rdS T X.K EX sNil) := pss_nil.to fun E σ H ⟨φ0, n0, H0, φ, s, hj, w0, r, p⟩ => p φ σ H r
theorem seq_go {a b : SV} : ∀ E σ H, rdS T X.K EX (sSeq a b) E σ H → tSeq (rdS T X.K EX a) (rdS T X.K EX b) E σ H := by
  intro E σ H ⟨φ0, n0, H0, φ, s, hj, w0, r, p⟩
  refine ⟨φ0, n0, H0, φ, s, hj, w0, r, ?_⟩
  unfold sSeq at p
  cases h : a n0 s with
  | nx s' => rw [h] at p; exact fun φ' σ' H' r' => ⟨φ0, n0, H0, φ', s', hj, w0, r', p⟩
  | rt d s' => rw [h] at p; exact p
  | bk s' => rw [h] at p; exact p
  | ct s' => rw [h] at p; exact p
  | ex c d s' => rw [h] at p; exact p
  | bad => rw [h] at p; exact p
theorem xs_cons (h1 : PS X st (rdS T X.K EX fs)) (h2 : PSs X rest (rdS T X.K EX gs)) : PSs X (st :: rest) (rdS T X.K EX (sSeq fs gs)) := (pss_cons h1 h2).to seq_go
theorem xs_one (h1 : PS X st (rdS T X.K EX fs)) : PSs X [st] (rdS T X.K EX fs) := pss_one h1
/-- code that is not come to -/
theorem xs_bad : PS X st (rdS T X.K EX sBad) := ps_never.to fun E σ H ⟨φ0, n0, H0, φ, s, hj, w0, r, p⟩ => p
theorem xss_bad : PSs X rest (rdS T X.K EX sBad) := pss_never.to fun E σ H ⟨φ0, n0, H0, φ, s, hj, w0, r, p⟩ => p
theorem s_pass : PS X (.Pass pos) (rdS T X.K EX sNil) := ps_pass.to fun E σ H ⟨φ0, n0, H0, φ, s, hj, w0, r, p⟩ => p φ σ H r
theorem s_break : PS X (.Break pos) (rdS T X.K EX sBreak) := ps_break.to fun E σ H ⟨φ0, n0, H0, φ, s, hj, w0, r, p⟩ => p φ σ H r
theorem s_cont : PS X (.Continue pos) (rdS T X.K EX sCont) := ps_continue.to fun E σ H ⟨φ0, n0, H0, φ, s, hj, w0, r, p⟩ => p φ σ H r
theorem s_retN : PS X (.Return none pos) (rdS T X.K EX sRetN) := ps_retN.to fun E σ H ⟨φ0, n0, H0, φ, s, hj, w0, r, p⟩ => p φ σ H .non r (by rw [Rep])
/-- the common step -/
theorem onE_go {φ0 φ : Phi} {n0 : Nat} {H0 H : Hp} {s : SS} {σ : L2.St} {hj : List It} {E : Ends} {Q : VK} {k : D → SV} (w0 : Wf φ0 n0 H0) (r : SRel T X.K φ0 n0 H0 φ s σ H hj) (p : PostS T X.K EX φ0 n0 H0 hj E (onE fe k n0 s))
    (h : ∀ d n1 w φ1 H1 v, SRel T X.K φ0 n0 H0 φ1 (s.put n0 n1 w) σ H1 hj → Rep T φ1 H1 d v → PostS T X.K EX φ0 n0 H0 hj E (k d n0 (s.put n0 n1 w)) → Q v H1) : rdE T EX fe σ H Q := by
  refine ⟨φ, s.n, s.env, r.st.wf, r.env, ?_⟩
  unfold onE at p
  cases hf : fe s.n s.env with
  | ok d n1 w =>
    rw [hf] at p
    exact fun φ1 H1 st v rv => h d n1 w φ1 H1 v (r.put w0 st) rv p
  | ex c d n1 w =>
    rw [hf] at p
    exact fun φ1 H1 st => p φ1 H1 (r.put w0 st).st
  | bad => rw [hf] at p; exact p.elim
theorem onA_go {φ0 φ : Phi} {n0 : Nat} {H0 H : Hp} {s : SS} {σ : L2.St} {hj : List It} {E : Ends} {Q : List V → Hp → Prop} {k : List D → SV} (w0 : Wf φ0 n0 H0) (r : SRel T X.K φ0 n0 H0 φ s σ H hj) (p : PostS T X.K EX φ0 n0 H0 hj E (onE ga k n0 s))
    (h : ∀ d n1 w φ1 H1 v, SRel T X.K φ0 n0 H0 φ1 (s.put n0 n1 w) σ H1 hj → Reps T φ1 H1 d v → PostS T X.K EX φ0 n0 H0 hj E (k d n0 (s.put n0 n1 w)) → Q v H1) : rdA T EX ga σ H Q := by
  refine ⟨φ, s.n, s.env, r.st.wf, r.env, ?_⟩
  unfold onE at p
  cases hf : ga s.n s.env with
  | ok d n1 w =>
    rw [hf] at p
    exact fun φ1 H1 st v rv => h d n1 w φ1 H1 v (r.put w0 st) rv p
  | ex c d n1 w =>
    rw [hf] at p
    exact fun φ1 H1 st => p φ1 H1 (r.put w0 st).st
  | bad => rw [hf] at p; exact p.elim
theorem onT_go {φ0 φ : Phi} {n0 : Nat} {H0 H : Hp} {s : SS} {σ : L2.St} {hj : List It} {E : Ends} {Q : Bool → Hp → Prop} {k : Bool → SV} (w0 : Wf φ0 n0 H0) (r : SRel T X.K φ0 n0 H0 φ s σ H hj) (p : PostS T X.K EX φ0 n0 H0 hj E (onE tc k n0 s))
    (h : ∀ d n1 w φ1 H1, SRel T X.K φ0 n0 H0 φ1 (s.put n0 n1 w) σ H1 hj → PostS T X.K EX φ0 n0 H0 hj E (k d n0 (s.put n0 n1 w)) → Q d H1) : rdT T EX tc σ H Q := by
  refine ⟨φ, s.n, s.env, r.st.wf, r.env, ?_⟩
  unfold onE at p
  cases hf : tc s.n s.env with
  | ok d n1 w =>
    rw [hf] at p
    exact fun φ1 H1 st => h d n1 w φ1 H1 (r.put w0 st) p
  | ex c d n1 w =>
    rw [hf] at p
    exact fun φ1 H1 st => p φ1 H1 (r.put w0 st).st
  | bad => rw [hf] at p; exact p.elim
theorem s_expr (he : PE X e (rdE T EX fe)) (hs : swapsWith e none pos.line X.env = pure false := by rfl) : PS X (.Expr e pos) (rdS T X.K EX (sExpr fe)) :=
  (ps_expr he hs).to fun E σ H ⟨φ0, n0, H0, φ, s, hj, w0, r, p⟩ => onE_go w0 r p fun d n1 w φ1 H1 v r1 rv p1 => p1 φ1 σ H1 r1
theorem s_ret (he : PE X e (rdE T EX fe)) : PS X (.Return (some e) pos) (rdS T X.K EX (sRet fe)) :=
  (ps_ret he).to fun E σ H ⟨φ0, n0, H0, φ, s, hj, w0, r, p⟩ => onE_go w0 r p fun d n1 w φ1 H1 v r1 rv p1 => p1 φ1 σ H1 v r1 rv
theorem SRel.setv {φ0 φ : Phi} {n0 : Nat} {H0 H : Hp} {s : SS} {σ : L2.St} {hj : List It} {K : PySem.W.Frag} {i : Nat} {d : D} {v : V} (r : SRel T K φ0 n0 H0 φ s σ H hj) (rv : Rep T φ H d v) : SRel T K φ0 n0 H0 φ (s.setv i d) (σ.set i (some v)) H hj :=
  ⟨r.st, r.env.set rv, r.hid⟩
theorem set_go {i : Nat} : ∀ E σ H, rdS T X.K EX (sSet i fe) E σ H → tAsg (rdE T EX fe) (gName i) E σ H :=
  fun E σ H ⟨φ0, n0, H0, φ, s, hj, w0, r, p⟩ => onE_go w0 r p fun d n1 w φ1 H1 v r1 rv p1 => p1 φ1 _ H1 (r1.setv rv)
theorem s_set {i : Nat} {x : Str} {pos' : Pos} (hN : X.N.Nodup) (hi : X.N[i]? = some x) (hx : Loc X.env.scope x) (he : PE X e (rdE T EX fe)) (hs : swapsWith e (some (.Name x pos')) pos.line X.env = pure false := by rfl) (hf : X.fn x = true ∨ X.env.scope.names.lookup x = some .local := by first | exact .inl rfl | exact .inr rfl | assumption) :
    PS X (.Assign [.Name x pos'] e pos) (rdS T X.K EX (sSet i fe)) := (ps_set hN hi hx he hs hf).to set_go
/-- name = [..] on one line -/
theorem s_setLc {i : Nat} {y : Str} {py : Pos} {elt tg iter : Expr} {ifs : List Expr} {scope : Scope} {own : List (Str × Nat)} {spos : Pos} {it : IV} {tgv : TgV} {g : TG} {js : List Nat} {tt : TV} {el : EV} (hc : X.calm = true) (hN : X.N.Nodup) (hy : X.N[i]? = some y) (hyl : X.env.scope.names.lookup y = some .local)
    (hsw : swapsWith (.ListComp elt [⟨tg, iter, ifs, 0⟩] scope pos) (some (.Name y py)) spos.line X.env = pure true) (hi : PI X tg iter (rdI T X.K EX it)) (ok : BlkOk X.N X.env.scope scope own) (ht : TgOk T g tgv js) (hjs : ∀ j ∈ js, j ∈ own.map (·.2))
    (hg : ∀ (s : Shared) (H : Hp) (C : Addr) (cl : List (Str × Addr)) (fp : List Addr), PG (X.blk s H scope (compEnvC scope cl C X.env) fp) tg g) (htt : ∀ (s : Shared) (H : Hp) (C : Addr) (cl : List (Str × Addr)) (fp : List Addr), PTs (X.blk s H scope (compEnvC scope cl C X.env) fp) ifs (rdT T EX tt))
    (he : ∀ (s : Shared) (H : Hp) (C : Addr) (cl : List (Str × Addr)) (fp : List Addr), PE (X.blk s H scope (compEnvC scope cl C X.env) fp) elt (rdE T EX el)) (hs : ∀ x, foldedSetIterable iter X.env x = pure x := by intro _; rfl) :
    PS X (.Assign [.Name y py] (.ListComp elt [⟨tg, iter, ifs, 0⟩] scope pos) spos) (rdS T X.K EX (sSet i (eLc it (own.map (·.2)) tgv tt el))) :=
  (ps_setLc hc hN hy hyl hsw hi ok hg htt he hs).to fun E σ H q => by
    obtain ⟨φ0, n0, H0, φ, s, hj, w0, r, p⟩ := q
    exact lc_go ht hjs _ _ _ (onE_go w0 r p fun d n1 w φ1 H1 v r1 rv p1 => p1 φ1 _ H1 (r1.setv rv))
theorem s_tg {tg : Expr} {g : TG} {f : TgV} {js : List Nat} (he : PE X e (rdE T EX fe)) (hg : PG X tg g) (ht : TgOk T g f js) (hs : swapsWithSole [tg] e pos.line X.env = pure false := by rfl) (hw : swappedStores [tg] e X.env = pure none := by rfl)
    (h1 : (assignEach [tg] X.env).map (·.2) = [assign tg X.env] := by rfl) : PS X (.Assign [tg] e pos) (rdS T X.K EX (sTg f fe)) :=
  (ps_asg he hg hs hw h1).to fun E σ H ⟨φ0, n0, H0, φ, s, hj, w0, r, p⟩ => onE_go w0 r p fun d n1 w φ1 H1 v r1 rv p1 => by
    split at p1
    · rename_i env henv
      exact ht.to _ _ _ _ _ _ _ _ r1.env rv henv fun σ' er' _ => p1 φ1 σ' H1 ⟨r1.st, er', r1.hid⟩
    · exact p1.elim
theorem s_par {i j : Nat} {x y : Str} {a b : Expr} {px py pt : Pos} {kt k2 pt2} (hc : X.calm = true) (hN : X.N.Nodup) (hi : X.N[i]? = some x) (hj : X.N[j]? = some y) (hij : i ≠ j)
    (hx : X.env.scope.names.lookup x = some .local) (hy : X.env.scope.names.lookup y = some .local) (ha : PA X [a, b] (rdA T EX ga))
    (hw : swappedStores [.Tuple [.Name x px, .Name y py] kt pt] (.Tuple [a, b] k2 pt2) X.env = pure (some [x, y]))
    (hs : swapsWithSole [.Tuple [.Name x px, .Name y py] kt pt] (.Tuple [a, b] k2 pt2) pos.line X.env = pure false := by rfl) :
    PS X (.Assign [.Tuple [.Name x px, .Name y py] kt pt] (.Tuple [a, b] k2 pt2) pos) (rdS T X.K EX (sPar i j ga)) :=
  (ps_par hc hN hi hj hij hx hy ha hw hs).to fun E σ H ⟨φ0, n0, H0, φ, s, hj, w0, r, p⟩ => onA_go w0 r p fun ds n1 w φ1 H1 vs r1 rv p1 => by
    split at p1
    · obtain ⟨v, u, rfl, r2, r3⟩ := rv.two
      exact ⟨v, u, rfl, p1 φ1 _ H1 ((r1.setv r2).setv r3)⟩
    · exact p1.elim
theorem s_par3 {i j l : Nat} {x y z : Str} {a b c : Expr} {px py pz pt : Pos} {kt k2 pt2} (hc : X.calm = true) (hN : X.N.Nodup) (hi : X.N[i]? = some x) (hj : X.N[j]? = some y) (hl : X.N[l]? = some z) (hij : i ≠ j) (hil : i ≠ l) (hjl : j ≠ l)
    (hx : X.env.scope.names.lookup x = some .local) (hy : X.env.scope.names.lookup y = some .local) (hz : X.env.scope.names.lookup z = some .local) (ha : PA X [a, b, c] (rdA T EX ga))
    (hw : swappedStores [.Tuple [.Name x px, .Name y py, .Name z pz] kt pt] (.Tuple [a, b, c] k2 pt2) X.env = pure (some [x, y, z]))
    (hs : swapsWithSole [.Tuple [.Name x px, .Name y py, .Name z pz] kt pt] (.Tuple [a, b, c] k2 pt2) pos.line X.env = pure false := by rfl) :
    PS X (.Assign [.Tuple [.Name x px, .Name y py, .Name z pz] kt pt] (.Tuple [a, b, c] k2 pt2) pos) (rdS T X.K EX (sPar3 i j l ga)) :=
  (ps_par3 hc hN hi hj hl hij hil hjl hx hy hz ha hw hs).to fun E σ H ⟨φ0, n0, H0, φ, s, hj, w0, r, p⟩ => onA_go w0 r p fun ds n1 w φ1 H1 vs r1 rv p1 => by
    split at p1
    · rw [Reps] at rv
      obtain ⟨v, us, rfl, r2, rv⟩ := rv
      obtain ⟨u, w', rfl, r3, r4⟩ := rv.two
      exact ⟨v, u, w', rfl, p1 φ1 _ H1 (((r1.setv r2).setv r3).setv r4)⟩
    · exact p1.elim
theorem s_if {c : Expr} {a b : List Stmt} (hc : PT X c (rdT T EX tc)) (ha : PSs X a (rdS T X.K EX fs)) (hb : PSs X b (rdS T X.K EX gs)) : PS X (.If c a b pos) (rdS T X.K EX (sIf tc fs gs)) :=
  (ps_if hc ha hb).to fun E σ H ⟨φ0, n0, H0, φ, s, hj, w0, r, p⟩ => onT_go w0 r p fun k n1 w φ1 H1 r1 p1 => by
    cases k with
    | true => exact ⟨φ0, n0, H0, φ1, _, hj, w0, r1, p1⟩
    | false => exact ⟨φ0, n0, H0, φ1, _, hj, w0, r1, p1⟩

/-! ### op= -/
def iaddD (x y : D) (n : Nat) : Option (D × Nat) := match x, y with
  | .int i, .int j => some (.int (i + j), n)
  | _, _ => none
theorem iaddD_ok : Bin T iaddD (rI0 fun i j => .int (i + j)) := by
  intro φ n H d1 d2 v1 v2 d n' Q wf r1 r2 h q
  unfold iaddD at h
  split at h
  · cases h
    rw [Rep] at r1 r2
    exact ⟨_, _, r1, r2, q φ H (Step.refl wf) _ (by rw [Rep])⟩
  · cases h
def imulD (x y : D) (n : Nat) : Option (D × Nat) := match x, y with
  | .int i, .int j => if mulOk i j = true then some (.int (i * j), n) else none
  | _, _ => none
theorem iop_mulX : OpR X (inplaceOp .Mult) (rI CMulX fun i j => .int (i * j)) := opI fun _ _ _ _ _ _ _ hc q => imul_int q hc.ok
theorem imulD_ok : Bin T imulD (rI CMulX fun i j => .int (i * j)) := by
  intro φ n H d1 d2 v1 v2 d n' Q wf r1 r2 h q
  unfold imulD at h
  split at h
  · split at h
    · rename_i hc
      cases h
      rw [Rep] at r1 r2
      refine ⟨_, _, r1, r2, ?_, q φ H (Step.refl wf) _ (by rw [Rep])⟩
      have := of_decide_eq_true hc
      unfold CMulX
      omega
    · cases h
  · cases h
theorem SS.put_nil (s : SS) (n0 n1 : Nat) : s.put n0 n1 [] = { s with n := n1 } := rfl
/-- an operation behind a state -/
theorem SRel.op {φ0 φ : Phi} {n0 : Nat} {H0 H : Hp} {s : SS} {σ : L2.St} {hj : List It} {K : PySem.W.Frag} {φ1 : Phi} {n1 : Nat} {H1 : Hp} (w0 : Wf φ0 n0 H0) (r : SRel T K φ0 n0 H0 φ s σ H hj) (st : Step T φ s.n H [] φ1 n1 H1) : SRel T K φ0 n0 H0 φ1 (s.put n0 n1 []) σ H1 hj := r.put w0 st
theorem put_n (s : SS) (n0 n1 : Nat) (w : Wr) : (s.put n0 n1 w).n = n1 := by cases w <;> rfl
theorem put_env (s : SS) (n0 n1 : Nat) (w : Wr) : (s.put n0 n1 w).env = putE w s.env := by cases w <;> rfl
theorem s_aug {i : Nat} {x : Str} {op : Operator} {r : R2} {g : D → D → Nat → Option (D × Nat)} {pos' : Pos} (hN : X.N.Nodup) (hi : X.N[i]? = some x) (hx : Loc X.env.scope x) (he : PE X e (rdE T EX fe)) (ho : OpR X (inplaceOp op) r) (hg : Bin T g r) (hf : X.fn x = true ∨ X.env.scope.names.lookup x = some .local := by first | exact .inl rfl | exact .inr rfl | assumption) :
    PS X (.AugAssign (.Name x pos') op e pos) (rdS T X.K EX (sAug i g fe)) :=
  (ps_aug (ti := r) hN hi hx he ho hf).to fun E σ H ⟨φ0, n0, H0, φ, s, hj, w0, rl, p⟩ => by
    unfold sAug at p
    split at p
    · rename_i d hd
      obtain ⟨v, e1, r1⟩ := rl.env.at_ i d hd
      refine ⟨v, e1, φ, s.n, s.env, rl.st.wf, rl.env, ?_⟩
      cases hf : fe s.n s.env with
      | ok y n1 w =>
        rw [hf] at p
        intro φ1 H1 st u ru
        cases hq : g (puts w d) y n1 with
        | none => simp only [hq] at p; exact p.elim
        | some q =>
          obtain ⟨z, n2⟩ := q
          simp only [hq] at p
          exact hg _ _ _ _ _ _ _ _ _ _ st.wf (st.car _ _ r1) ru hq fun φ2 H2 st2 z' rz => p φ2 _ H2 (((rl.put w0 st).op w0 (by rw [put_n]; exact st2)).setv rz)
      | ex c d n1 w =>
        rw [hf] at p
        exact fun φ1 H1 st => p φ1 H1 (rl.put w0 st).st
      | bad => rw [hf] at p; exact p.elim
    · exact p.elim
/-! ### o[i] = e -/
theorem setD_ok {φ : Phi} {n : Nat} {H : Hp} {o i v : D} {ov iv vv : V} {a : Nat} {nw : D} {Q : Hp → Prop} (wf : Wf φ n H) (r1 : Rep T φ H o ov) (r2 : Rep T φ H i iv) (r3 : Rep T φ H v vv) (h : setD o i v = some (a, nw)) (q : ∀ H', Step T φ n H [(a, nw)] φ n H' → Q H') : rSetL ov iv vv H Q := by
  unfold setD at h
  split at h
  · rename_i b ds k
    split at h
    · rename_i j hj
      split at h
      · rename_i hh
        cases h
        have hac := Rep.lst_acyc wf.inj r1
        rw [Rep] at r1
        obtain ⟨p, vs, e1, hp, hv, rr⟩ := r1
        rw [Rep] at r2
        refine ⟨p, vs, k, j, e1, r2, hv, by rw [rr.length]; exact hj, ?_⟩
        obtain ⟨st, _⟩ := write_lst (ds := ds) wf hp hv (rr.set j r3) (hasL_set hh j hac)
        exact q _ st
      · cases h
    · cases h
  · cases h
theorem s_sub {i : Expr} {tpos : Pos} (he : PE X e (rdE T EX fe)) (ho : PE X o (rdE T EX fo)) (hi : PE X i (rdE T EX fi))
    (ha : ∀ v, assign (.Subscript o i tpos) X.env v = (do
      let ov ← holding [v] (eval o X.env)
      let iv ← holding [v, ov] (eval i X.env)
      standAt tpos
      holding [v, ov, iv] (setItem ov iv v)
      release [v, ov, iv] []) := by intro _; rfl) (hs : swapsWithSole [.Subscript o i tpos] e pos.line X.env = pure false := by rfl) (hw : swappedStores [.Subscript o i tpos] e X.env = pure none := by rfl)
    (h1 : (assignEach [.Subscript o i tpos] X.env).map (·.2) = [assign (.Subscript o i tpos) X.env] := by rfl) : PS X (.Assign [.Subscript o i tpos] e pos) (rdS T X.K EX (sSub fo fi fe)) :=
  (ps_asg he (pg_sub ho hi set_list ha) hs hw h1).to fun E σ H ⟨φ0, n0, H0, φ, s, hj, w0, rl, p⟩ => onE_go w0 rl p fun d n1 w φ1 H1 v r1 rv p1 => by
    generalize s.put n0 n1 w = s1 at r1 p1
    refine ⟨φ1, s1.n, s1.env, r1.st.wf, r1.env, ?_⟩
    cases hfo : fo s1.n s1.env with
    | ok od n2 w1 =>
      rw [hfo] at p1
      intro φ2 H2 st2 ov rov
      have r2 := r1.put w0 st2
      refine ⟨φ2, n2, putE w1 s1.env, st2.wf, r1.env.step st2, ?_⟩
      cases hfi : fi n2 (putE w1 s1.env) with
      | ok id_ n3 w2 =>
        simp only [hfi] at p1
        intro φ3 H3 st3 iv riv
        cases hset : setD (puts w2 od) id_ (puts w2 (puts w1 d)) with
        | none => simp only [hset] at p1; exact p1.elim
        | some q =>
          obtain ⟨a, nw⟩ := q
          simp only [hset] at p1
          refine setD_ok st3.wf (st3.car _ _ rov) riv (st3.car _ _ (st2.car _ _ rv)) hset fun H4 st4 => ?_
          have r3 := r2.put w0 (show Step T φ2 (s1.put n0 n2 w1).n H2 w2 φ3 n3 H3 by rw [put_n]; exact st3)
          have r4 := r3.put w0 (show Step T φ3 ((s1.put n0 n2 w1).put n0 n3 w2).n H3 [(a, nw)] φ3 n3 H4 by rw [put_n]; exact st4)
          exact p1 φ3 σ H4 r4
      | ex c d n1 w => simp only [hfi] at p1; exact p1.elim
      | bad => simp only [hfi] at p1; exact p1.elim
    | ex c d n1 w => rw [hfo] at p1; exact p1.elim
    | bad => rw [hfo] at p1; exact p1.elim
/-- a list's item by value -/
theorem pget_list : PGet X (rIxL X.K) := by
  intro pins s σ H x y v u Q I rx ry h
  obtain ⟨p, xs, i, z, rfl, rfl, hq, he, q⟩ := h
  cases rx
  obtain ⟨t, rfl⟩ := ry
  obtain ⟨its, r, pl, hz⟩ := I.list hq
  obtain ⟨j, h1, h2, h3, h4, h5⟩ := atI_get he
  obtain ⟨w, ew, rw'⟩ := r.get h2
  have hl := r.length
  have hn := line63
  have fin : EP X pins σ Q w s := ⟨z, H, I, rw', q⟩
  by_cases h0 : 0 ≤ i
  · have hj : i.toNat = j := by
      rw [seqIndex_of h0 h5] at h1
      exact Option.some.inj h1
    exact wpAny_getItem_list pl.isList h0 (by omega) (by rw [hj]; simpa using ew) fin
  · have hj : (i + (its.toArray.size : Int)).toNat = j := by
      rw [seqIndex_neg (by omega) h4] at h1
      rw [List.size_toArray, ← hl]
      exact Option.some.inj h1
    exact wpAny_getItem_list_neg pl.isList (by omega) (by rw [List.size_toArray] <;> omega) (by omega) (by rw [hj]; simpa using ew) fin
/-- o[i] op= e, over lists of ints -/
def sAugSub (g : D → D → Nat → Option (D × Nat)) (o i f : EV) : SV := fun n0 s => match o s.n s.env with
  | .ok od n1 w1 => (match i n1 (putE w1 s.env) with
    | .ok id_ n2 w2 => (match puts w2 od, id_ with
      | .lst a ds, .int k => (match L2.atI ds k with
        | some x => (match f n2 (putE w2 (putE w1 s.env)) with
          | .ok y n3 w3 => (match g (puts w3 x) y n3 with
            | some (z, n4) => (match setD (puts w3 (.lst a ds)) (.int k) z with
              | some (b, nw) => .nx (((((s.put n0 n1 w1).put n0 n2 w2).put n0 n3 w3).put n0 n4 []).put n0 n4 [(b, nw)])
              | none => .bad)
            | none => .bad)
          | _ => .bad)
        | none => .bad)
      | _, _ => .bad)
    | _ => .bad)
  | _ => .bad
theorem s_augSub {i : Expr} {tpos : Pos} {op : Operator} {r : R2} {g : D → D → Nat → Option (D × Nat)} (ho : PE X o (rdE T EX fo)) (hi : PE X i (rdE T EX fi)) (he : PE X e (rdE T EX fe)) (hop : OpR X (inplaceOp op) r) (hg : Bin T g r) (hgf : ∀ x y n z n', g x y n = some (z, n') → n' = n)
    (ha : ∀ ov iv new, augStore i ov iv new = (do holding [new, ov, iv] (setItem ov iv new); release [new, ov, iv] []; pure .next) := by intros; rfl) : PS X (.AugAssign (.Subscript o i tpos) op e pos) (rdS T X.K EX (sAugSub g fo fi fe)) :=
  (ps_augS (tip := r) ho hi pget_list he hop set_list ha).to fun E σ H ⟨φ0, n0, H0, φ, s, hj, w0, rl, p⟩ => by
    unfold sAugSub at p
    refine ⟨φ, s.n, s.env, rl.st.wf, rl.env, ?_⟩
    cases hfo : fo s.n s.env with
    | ok od n1 w1 =>
      rw [hfo] at p
      intro φ1 H1 st1 ov rov
      have r1 := rl.put w0 st1
      refine ⟨φ1, n1, _, st1.wf, rl.env.step st1, ?_⟩
      cases hfi : fi n1 (putE w1 s.env) with
      | ok id_ n2 w2 =>
        simp only [hfi] at p
        intro φ2 H2 st2 iv riv
        have r2 := r1.put w0 (show Step T φ1 (s.put n0 n1 w1).n H1 w2 φ2 n2 H2 by rw [put_n]; exact st2)
        have rov2 := st2.car _ _ rov
        split at p
        · rename_i a ds k hod
          rw [hod] at rov2
          have rov3 := rov2
          rw [Rep] at rov2
          obtain ⟨pa, vs, e1, hp, hv, rr⟩ := rov2
          rw [Rep] at riv
          split at p
          · rename_i x hx
            obtain ⟨xv, hxv, rx⟩ := rr.atI hx
            refine ⟨pa, vs, k, xv, e1, riv, .inl (.inl hv), hxv, φ2, n2, _, st2.wf, (rl.env.step st1).step st2, ?_⟩
            cases hff : fe n2 (putE w2 (putE w1 s.env)) with
            | ok y n3 w3 =>
              simp only [hff] at p
              intro φ3 H3 st3 yv ry
              have r3 := r2.put w0 (show Step T φ2 ((s.put n0 n1 w1).put n0 n2 w2).n H2 w3 φ3 n3 H3 by rw [put_n]; exact st3)
              cases hgz : g (puts w3 x) y n3 with
              | none => simp only [hgz] at p; exact p.elim
              | some q =>
                obtain ⟨z, n4⟩ := q
                simp only [hgz] at p
                refine hg _ _ _ _ _ _ _ _ _ _ st3.wf (st3.car _ _ rx) ry hgz fun φ4 H4 st4 zv rz => ?_
                have r4 := r3.put w0 (show Step T φ3 (((s.put n0 n1 w1).put n0 n2 w2).put n0 n3 w3).n H3 [] φ4 n4 H4 by rw [put_n]; exact st4)
                cases hset : setD (puts w3 (.lst a ds)) (.int k) z with
                | none => simp only [hset] at p; exact p.elim
                | some q =>
                  obtain ⟨b, nw⟩ := q
                  simp only [hset] at p
                  have ro4 := st4.car _ _ (st3.car _ _ rov3)
                  rw [puts_nil] at ro4
                  refine setD_ok (i := .int k) st4.wf ro4 (by rw [Rep]; exact riv) rz hset fun H5 st5 => ?_
                  have r5 := r4.put w0 (show Step T φ4 ((((s.put n0 n1 w1).put n0 n2 w2).put n0 n3 w3).put n0 n4 []).n H4 [(b, nw)] φ4 n4 H5 by rw [put_n]; exact st5)
                  exact p φ4 σ H5 r5
            | ex c d n1 w => simp only [hff] at p; exact p.elim
            | bad => simp only [hff] at p; exact p.elim
          · exact p.elim
        · exact p.elim
      | ex c d n1 w => simp only [hfi] at p; exact p.elim
      | bad => simp only [hfi] at p; exact p.elim
    | ex c d n1 w => rw [hfo] at p; exact p.elim
    | bad => rw [hfo] at p; exact p.elim
/-! ### o.f = e -/
theorem zip_len_le {α β : Type} : ∀ {a : List α} {b : List β}, (a.zip b).length ≤ a.length
  | [], _ => by simp
  | _ :: _, [] => by simp
  | _ :: a, _ :: b => by rw [List.zip_cons_cons, List.length_cons, List.length_cons]; exact Nat.succ_le_succ zip_len_le
theorem putF_zip : ∀ {ks : List Str} {vs : List V} {j : Nat} {f : Str} {v : V}, ks.Nodup → ks[j]? = some f → j ≤ vs.length → vs.length ≤ ks.length → putF f v (ks.zip vs) = ks.zip (if j = vs.length then vs ++ [v] else vs.set j v)
  | [], _, _, _, _, _, h, _, _ => by simp at h
  | k :: ks, [], j, f, v, nd, h, hl, _ => by
    have hj : j = 0 := Nat.le_zero.mp hl
    subst hj
    simp at h
    subst h
    simp [putF]
  | k :: ks, u :: vs, 0, f, v, nd, h, hl, _ => by
    simp at h
    subst h
    rw [List.zip_cons_cons]
    show (if k = k then (k, v) :: ks.zip vs else _) = _
    rw [if_pos rfl, if_neg (by simp)]
    rfl
  | k :: ks, u :: vs, j + 1, f, v, nd, h, hl, hm => by
    have h1' : ks[j]? = some f := by simpa using h
    have hne : k ≠ f := fun e => (List.nodup_cons.mp nd).1 (e ▸ List.mem_of_getElem? h1')
    rw [List.zip_cons_cons]
    show (if k = f then _ else (k, u) :: putF f v (ks.zip vs)) = _
    rw [if_neg hne, putF_zip (List.nodup_cons.mp nd).2 h1' (by simpa using hl) (by simpa using hm)]
    by_cases hj : j = vs.length
    · rw [if_pos hj, if_pos (by simp [hj])]; rfl
    · rw [if_neg hj, if_neg (by simp [hj])]; rfl
theorem setF_ok {φ : Phi} {n : Nat} {H : Hp} {c j : Nat} {f : Str} {K : PySem.W.Frag} {o v : D} {ov vv : V} {a : Nat} {nw : D} (F : Fld T K c j f) (hlen : (T.flds c).length < 1000) (wf : Wf φ n H) (r1 : Rep T φ H o ov) (r3 : Rep T φ H v vv) (h : setF c j o v = some (a, nw)) :
    ∃ p C dx fs, ov = .ref p ∧ H p = some (.ins C dx fs) ∧ Cls K C ∧ NoAttr K C f ∧ fs.length < 1000 ∧ Step T φ n H [(a, nw)] φ n (upd H p (.ins C dx (putF f vv fs))) := by
  unfold setF at h
  split at h
  · rename_i b c' ds
    split at h
    · rename_i hh
      obtain ⟨hc, hj, hhas⟩ := hh
      subst hc
      cases h
      have hac := Rep.ins_acyc wf.inj r1
      rw [Rep] at r1
      obtain ⟨p, C, dx, vs, e1, hp, hC, hv, hl, rr⟩ := r1
      obtain ⟨h1, h2⟩ := F.cl C hC
      have hln := rr.length
      refine ⟨p, C, dx, _, e1, hv, h1, h2, Nat.lt_of_le_of_lt zip_len_le hlen, ?_⟩
      have hjl : j < (T.flds c').length := (List.getElem?_eq_some_iff.mp F.at_).1
      rw [putF_zip F.nd F.at_ (by omega) hl]
      have rr' : Reps T φ H (if j = ds.length then ds ++ [v] else ds.set j v) (if j = vs.length then vs ++ [vv] else vs.set j vv) := by
        rw [hln]
        by_cases hjd : j = ds.length
        · rw [if_pos hjd, if_pos hjd]; exact rr.append (Reps.cons r3 Reps.nil)
        · rw [if_neg hjd, if_neg hjd]; exact rr.set j r3
      refine (write_ins wf hp hC hv rr' ?_ ?_).1
      · split
        · rw [List.length_append, List.length_singleton]; omega
        · rw [List.length_set]; omega
      · split
        · rw [hasL_append, hac]; simp [hasL, hhas]
        · exact hasL_set hhas j hac
    · cases h
  · cases h
theorem s_fld {c j : Nat} {f : Str} {pos' : Pos} (F : Fld T X.K c j f) (hlen : (T.flds c).length < 1000) (ho : PE X o (rdE T EX fo)) (he : PE X e (rdE T EX fe)) (hs : swapsWith e (some (.Attribute o f pos')) pos.line X.env = pure false) : PS X (.Assign [.Attribute o f pos'] e pos) (rdS T X.K EX (sFld c j fo fe)) :=
  (ps_fld ho he hs).to fun E σ H ⟨φ0, n0, H0, φ, s, hj, w0, rl, p⟩ => onE_go w0 rl p fun d n1 w φ1 H1 v r1 rv p1 => by
    generalize s.put n0 n1 w = s1 at r1 p1
    refine ⟨φ1, s1.n, s1.env, r1.st.wf, r1.env, ?_⟩
    cases hfo : fo s1.n s1.env with
    | ok od n2 w1 =>
      rw [hfo] at p1
      intro φ2 H2 st2 ov rov
      cases hset : setF c j od (puts w1 d) with
      | none => simp only [hset] at p1; exact p1.elim
      | some q =>
        obtain ⟨a, nw⟩ := q
        simp only [hset] at p1
        obtain ⟨p, C, dx, fs, e1, h1, h2, h3, h4, st3⟩ := setF_ok F hlen st2.wf rov (st2.car _ _ rv) hset
        refine ⟨p, C, dx, fs, e1, h1, h2, h3, h4, p1 φ2 σ _ ?_⟩
        have r2 := r1.put w0 st2
        exact r2.put w0 (show Step T φ2 (s1.put n0 n2 w1).n H2 [(a, nw)] φ2 n2 _ by rw [put_n]; exact st3)
    | ex c d n1 w => rw [hfo] at p1; exact p1.elim
    | bad => rw [hfo] at p1; exact p1.elim
/-! ### loops -/
theorem s_for {tg iter : Expr} {body : List Stmt} {it : IV} {tgv : TgV} {g : TG} {js : List Nat} (hp : PassesOwn (model X.prog X.w) X.A X.env X.xe) (hc : X.calm = true) (hi : PI X tg iter (rdI T X.K EX it)) (hg : PG X tg g) (ht : TgOk T g tgv js) (hb : PSs X body (rdS T X.K EX fs))
    (hs : ∀ x, foldedSetIterable iter X.env x = pure x := by intro _; rfl) : PS X (.For tg iter body [] pos) (rdS T X.K EX (sFor it tgv fs)) :=
  (ps_for hp hc hi hg hb hs).to fun E σ H ⟨φ0, n0, H0, φ, s, hj, w0, rl, p⟩ => by
    refine ⟨φ, s.n, s.env, rl.st.wf, rl.env, ?_⟩
    unfold sFor onE at p
    cases hit : it s.n s.env with
    | ok src n1 w =>
      rw [hit] at p
      intro φ1 H1 st J hJ
      have r1 := rl.put w0 st
      refine ⟨fun i m σ H => ∃ φ s hj', hj' = J :: hj ∧ SRel T X.K φ0 n0 H0 φ s σ H hj' ∧ PostS T X.K EX φ0 n0 H0 hj E (forGo tgv fs n0 m i s), ⟨src.len, φ1, { s.put n0 n1 w with hid := src :: (s.put n0 n1 w).hid }, _, rfl, ⟨r1.st, r1.env, .cons hJ r1.hid⟩, p⟩, ?_⟩
      intro i m σ2 H2 ⟨φ2, s2, hj', ehj, r2, q⟩
      subst ehj
      obtain ⟨n2, env2, w2, hid2⟩ := s2
      obtain ⟨rst, renv, rhid⟩ := r2
      cases rhid with
      | cons rJ rh =>
        rename_i src2 hid2
        rw [forGo.eq_def] at q
        dsimp only at q rst renv
        cases hat : src2.at i with
        | none => simp only [hat] at q; exact q.elim
        | some o =>
          cases o with
          | none =>
            simp only [hat] at q
            exact .inl ⟨rJ.stop hat, q φ2 σ2 H2 ⟨rst, renv, rh⟩⟩
          | some d =>
            simp only [hat] at q
            obtain ⟨hgo, hyl⟩ := rJ.item rst.wf hat
            cases m with
            | zero => exact q.elim
            | succ m =>
              dsimp only at q
              refine .inr ⟨hgo, fun σ H => ∃ φ s hj', hj' = J :: hj ∧ SRel T X.K φ0 n0 H0 φ s σ H hj' ∧ PostS T X.K EX φ0 n0 H0 hj E (forGo tgv fs n0 m (i + 1) s), fun σ' H' hN => ⟨m, Nat.lt_succ_self _, hN⟩, fun x H3 y => ?_⟩
              obtain ⟨st3, rx⟩ := hyl x H3 y
              have r3 : SRel T X.K φ0 n0 H0 φ2 { n := n2, env := env2, w := w2, hid := src2 :: hid2 } σ2 H3 (J :: hj) := SRel.put (s := { n := n2, env := env2, w := w2, hid := src2 :: hid2 }) (w := []) w0 ⟨rst, renv, .cons rJ rh⟩ st3
              cases htg : tgv d env2 with
              | none => rw [htg] at q; exact q.elim
              | some env3 =>
                rw [htg] at q
                dsimp only at q
                refine ht.to _ _ _ _ _ _ _ _ r3.env rx htg fun σ4 er4 _ => ?_
                refine ⟨φ0, n0, H0, φ2, { n := n2, env := env3, w := w2, hid := src2 :: hid2 }, J :: hj, w0, ⟨r3.st, er4, r3.hid⟩, ?_⟩
                have tl : ∀ {φ : Phi} {s' : SS} {σ : L2.St} {H : Hp}, SRel T X.K φ0 n0 H0 φ s' σ H (J :: hj) → SRel T X.K φ0 n0 H0 φ { s' with hid := s'.hid.drop 1 } σ H hj := fun {φ s' σ H} r => by
                  obtain ⟨a, b, c, e⟩ := s'
                  obtain ⟨x1, x2, x3⟩ := r
                  dsimp only at x3
                  cases x3 with
                  | cons _ t => exact ⟨x1, x2, t⟩
                cases hbody : fs n0 { n := n2, env := env3, w := w2, hid := src2 :: hid2 } with
                | nx s' => rw [hbody] at q; exact fun φ' σ' H' r' => ⟨φ', s', _, rfl, r', q⟩
                | ct s' => rw [hbody] at q; exact fun φ' σ' H' r' => ⟨φ', s', _, rfl, r', q⟩
                | bk s' => rw [hbody] at q; exact fun φ' σ' H' r' => q φ' σ' H' (tl r')
                | rt d' s' => rw [hbody] at q; exact fun φ' σ' H' v r' rv => q φ' σ' H' v (tl r') rv
                | ex c d' s' => rw [hbody] at q; exact fun φ' H' st' => q φ' H' st'
                | bad => rw [hbody] at q; exact q.elim
    | ex c d n1 w =>
      rw [hit] at p
      exact fun φ1 H1 st => p φ1 H1 (rl.put w0 st).st
    | bad => rw [hit] at p; exact p.elim
theorem s_while {c : Expr} {body : List Stmt} {fuel : Nat} (hp : PassesOwn (model X.prog X.w) X.A X.env X.xe) (hc : PT X c (rdT T EX tc)) (hb : PSs X body (rdS T X.K EX fs)) : PS X (.While c body [] pos) (rdS T X.K EX (sWhile fuel tc fs)) :=
  (ps_while hp hc hb).to fun E σ H ⟨φ0, n0, H0, φ, s, hj, w0, rl, p⟩ => by
    refine ⟨fun m σ H => ∃ φ s, SRel T X.K φ0 n0 H0 φ s σ H hj ∧ PostS T X.K EX φ0 n0 H0 hj E (whileGo tc fs n0 m s), ⟨fuel, φ, s, rl, p⟩, ?_⟩
    intro m σ1 H1 ⟨φ1, s1, r1, q⟩
    rw [whileGo.eq_def] at q
    refine ⟨φ1, s1.n, s1.env, r1.st.wf, r1.env, ?_⟩
    cases htc : tc s1.n s1.env with
    | ok k n2 w2 =>
      simp only [htc] at q
      intro φ2 H2 st2
      have r2 := r1.put w0 st2
      cases k with
      | false => exact q φ2 σ1 H2 r2
      | true =>
        rw [if_pos rfl] at q
        cases m with
        | zero => exact q.elim
        | succ m =>
          dsimp only at q
          refine ⟨fun σ H => ∃ φ s, SRel T X.K φ0 n0 H0 φ s σ H hj ∧ PostS T X.K EX φ0 n0 H0 hj E (whileGo tc fs n0 m s), fun σ' H' hN => ⟨m, Nat.lt_succ_self _, hN⟩, φ0, n0, H0, φ2, _, hj, w0, r2, ?_⟩
          cases hbody : fs n0 (s1.put n0 n2 w2) with
          | nx s' => rw [hbody] at q; exact fun φ' σ' H' r' => ⟨φ', s', r', q⟩
          | ct s' => rw [hbody] at q; exact fun φ' σ' H' r' => ⟨φ', s', r', q⟩
          | bk s' => rw [hbody] at q; exact q
          | rt d' s' => rw [hbody] at q; exact q
          | ex c d' s' => rw [hbody] at q; exact q
          | bad => rw [hbody] at q; exact q.elim
    | ex c d n1 w =>
      simp only [htc] at q
      exact fun φ1 H1 st => q φ1 H1 (r1.put w0 st).st
    | bad => simp only [htc] at q; exact q.elim
end

/-! ### defs -/
section
variable {P : Program} {w : World} {K : PySem.W.Frag} {mg : Str → Option Value} {base : Heap} {T : Tab}
theorem envR_start {φ : Phi} {H : Hp} {ds : List D} {vs : List V} {N : List Str} (r : Reps T φ H ds vs) : EnvR T φ H (ds.map some ++ List.replicate (N.length - ds.length) none) (L2.start N vs) := by
  have hl := r.length
  unfold L2.start
  refine ⟨by rw [List.length_append, List.length_append, List.length_map, List.length_map, List.length_replicate, List.length_replicate, hl], fun i d e => ?_⟩
  rw [List.getElem?_append] at e
  split at e
  · rename_i hi
    rw [List.getElem?_map] at e
    cases q : ds[i]? with
    | none => rw [q] at e; cases e
    | some x =>
      rw [q] at e
      have e' : x = d := by simpa using e
      subst e'
      obtain ⟨v, h1, h2⟩ := r.get q
      refine ⟨v, ?_, h2⟩
      rw [List.getElem?_append_left (by rw [List.length_map]; exact (List.getElem?_eq_some_iff.mp h1).1), List.getElem?_map, h1]
      rfl
  · rw [List.getElem?_replicate] at e
    split at e <;> cases e
/-- the body's run behind a def's promise -/
theorem run_rd {EX : XK} {N : List Str} {body : SV} {m : Nat} {vs : List V} {H : Hp} {Q : VK} (h : spF T m (runF N.length body) vs H Q EX) : rdS T K EX body { nx := fun _ H' => Q .non H', rt := Q } (L2.start N vs) H := by
  obtain ⟨hm, φ, n, ds, wf, r, p⟩ := h
  refine ⟨φ, n, H, φ, { n := n, env := ds.map some ++ List.replicate (N.length - ds.length) none, w := [], hid := [] }, [], wf, ⟨Step.refl wf, envR_start (N := N) r, .nil⟩, ?_⟩
  unfold runF at p
  cases hb : body n { n := n, env := ds.map some ++ List.replicate (N.length - ds.length) none, w := [], hid := [] } with
  | nx s => rw [hb] at p; exact fun φ' σ' H' r' => p φ' H' r'.st .non (by rw [Rep])
  | rt d s => rw [hb] at p; exact fun φ' σ' H' v r' rv => p φ' H' r'.st v rv
  | ex c d s => rw [hb] at p; exact fun φ' H' st => p φ' H' st
  | bk s => rw [hb] at p; exact p.elim
  | ct s => rw [hb] at p; exact p.elim
  | bad => rw [hb] at p; exact p.elim
theorem pass0E {X : Cx} {E : XK} : Passes CX0 X E := fun _ _ _ _ _ _ _ h => h.elim
/-- THE RULE for a def out of which no exception comes -/
theorem fn0 {x qual : Str} {st : Stmt} {f : Addr} {fd : FuncData} {N ps : List Str} {k : Nat} {body : SV} (F : Fun K x qual st f fd) (S : FnScope N ps (defScope st))
    (hb : ∀ (cdv : Value) (A : Around) (outer : List Env) (s : Shared) (H : Hp) (E : XK), Room k (A.deeper (envOfC qual (defScope st) s.heap.objs.size f cdv)) →
      PSs (cxOf CX0 P w K mg base N qual (defScope st) f cdv A outer s H E).nox (defBody st) (rdS T K E body)) : FnOk P w K mg base CX0 (k + 1) f fd ps (spF T ps.length (runF N.length body)) :=
  F.ok S (fun vs H Q E h => h.1) (fun cdv A outer s H vs Q E hr h => ⟨_, hb cdv A outer s H E hr, run_rd h⟩)
end
end Sx
end
section
set_option Elab.async false
set_option linter.all false
set_option maxRecDepth 100000
set_option maxHeartbeats 1000000
/-! Sx.H: == and != where the left side may be an instance of a class with an own __eq__. -/
namespace PySem
namespace SxNe
open PySem.Spec PyProof.Rows
section
variable {M : Model} {prog : Program} {w : World} {A : Around} {E : Value → Shared → Prop} {s : Shared} {K : PySem.W.Frag} {x C f : Addr} {ox : Obj} {od : Option Obj} {b tb : Value}
theorem ifBound_ne {args : List Value} {Q : Option Value → Shared → Prop} (X : K.In s.heap) (I : PySem.W.InstAt s.heap x ox C od) (hs : PySem.W.findIn K (.ref C) "__ne__" = some (some (.builtin "object.__ne__")))
    (h : wpAny M A (call (.builtin "object.__ne__") (.ref x :: args)) (fun v => Q (some v)) E s) : wpAny M A (callSpecialIfBound? (.ref x) "__ne__" args) Q E s := by
  simp only [callSpecialIfBound?, bindSpecialIfBound?]
  refine wpAny_holding (wpAny_bind (wpAny_bind (wpAny_bind (I.type.here ((PySem.W.looks_findIn X hs).here ?_)))))
  refine wpAny_bind (wpAny_askSetting (wpAny_ite ?_))
  have fin : wpAny M A (call (.builtin "object.__ne__") ([.ref x] ++ args) >>= fun v => pure (some v)) Q E s := wpAny_bind (wpAny_mono h (fun v s' h' => wpAny_pure h') fun _ _ h' => h')
  split
  · exact wpAny_bind (wpAny_of_eq (F.cmp_object.ne.bind _) (wpAny_pure (by exact fin)))
  · exact wpAny_tryCatch (wpAny_bind (wpAny_of_eq (F.cmp_object.ne.bind _) (wpAny_pure (by exact fin))))
theorem entry_ne (hu : A.units < cLine) (X : K.In s.heap) (I : PySem.W.InstAt s.heap x ox C od) (hs : PySem.W.findIn K (.ref C) "__eq__" = some (some (.ref f))) (hf : PySem.W.isFn K (.ref f) = true) {Q : Fin → Shared → Prop}
    (hcall : wpAny (model prog w) A (call (.ref f) [.ref x, b]) (fun v s' => ∃ q, v = .bool q ∧ Q (.done (.ret (.bool (!q)))) s') E s) :
    wpAny (model prog w) A (Builtin.«object.__ne__» ⟨[.ref x, b], []⟩) Q E s := by
  unfold Builtin.«object.__ne__»
  repeat (first
    | with_reducible refine wpAny_cRoomFor hu ?_
    | (refine wpAny_bind (m := callSpecialIfBound? (.ref x) (Str.ofString "__eq__") [b])
        (PySem.W.ifBound_K X I hs hf (wpAny_mono hcall (fun r s' hr => by
          obtain ⟨q, rfl, hq⟩ := hr
          repeat (first | exact hq | exact wpAny_pure hq | exact wpAny_truthy_bool hq | (refine wpAny_bind (m := truthy (.bool _)) (wpAny_truthy_bool ?_)) | wp_step)) fun _ _ e => e)))
    | wp_step)
theorem ne_K {Q : Value → Shared → Prop} (hu : A.units + 1 < cLine) (X : K.In s.heap) (I : PySem.W.InstAt s.heap x ox C od) (hb : PySem.W.Looks (model prog w) s.heap (typeOf b) tb) (hn : PySem.W.notFirst K C tb = true)
    (hs : PySem.W.findIn K (.ref C) "__eq__" = some (some (.ref f))) (hf : PySem.W.isFn K (.ref f) = true) (hne : PySem.W.findIn K (.ref C) "__ne__" = some (some (.builtin "object.__ne__"))) (hm : PySem.W.mroIn K C (.type "object") = some true)
    (h : wpAny (model prog w) A.in1 (call (.ref f) [.ref x, b]) (fun v s' => ∃ q, v = .bool q ∧ Q (.bool (!q)) s') E s) : wpAny (model prog w) A (richCompare .NotEq (.ref x) b) Q E s := by
  have one : wpAny (model prog w) A (tryCompare (.ref x) "__ne__" b) (fun r s' => ∃ v, r = some v ∧ Q v s') E s := by
    unfold tryCompare
    refine wpAny_bind (ifBound_ne X I hne (wpAny_call (codeAny_call_builtin F.cmp_object.ne.plain F.cmpEntry_ne (PySem.W.check_slot F.cmpKind_ne F.cmpSplit_ne (I.type.andThen (PySem.W.looks_mroIn X hm)) (F.cmpArgs_ne _ _)
      (entry_ne (A := A.in1) (by show A.units + 1 < cLine; exact hu) X I hs hf (wpAny_mono h (fun v s' hv => ?_) fun _ _ e => e))))))
    obtain ⟨q, rfl, hq⟩ := hv
    first | exact ⟨q, rfl, wpAny_pure ⟨_, rfl, hq⟩⟩ | exact ⟨q, rfl, _, rfl, hq⟩
  unfold richCompare
  simp only [oneThing_ref]
  refine wpAny_holding (wpAny_bind (wpAny_cRoomFor (Nat.lt_of_succ_lt hu) ?_))
  refine wpAny_bind (I.type.here (wpAny_bind (hb.here ?_)))
  split
  · rename_i q
    have e : PySem.W.subIn K tb (.ref C) = some false := by
      rcases Bool.or_eq_true_iff.mp hn with e | e
      · rw [beq_iff_eq.mp e] at q; simp at q
      · exact beq_iff_eq.mp e
    refine wpAny_bind ((PySem.W.looks_subIn X e).here ?_)
    simp only [Bool.false_eq_true, if_false]
    refine wpAny_bind (wpAny_mono one (fun r s' z => ?_) fun _ _ e => e)
    obtain ⟨v, rfl, hq⟩ := z
    exact wpAny_pure hq
  · refine wpAny_bind (wpAny_pure ?_)
    simp only [Bool.false_eq_true, if_false]
    refine wpAny_bind (wpAny_mono one (fun r s' z => ?_) fun _ _ e => e)
    obtain ⟨v, rfl, hq⟩ := z
    exact wpAny_pure hq
end
end SxNe
end PySem
end
section
set_option Elab.async false
set_option linter.all false
set_option maxRecDepth 100000
set_option maxHeartbeats 1000000
/-! Sx.I: == and != where the left side may be an instance of a class with an own __eq__; lists' index; keyword makers. -/
namespace Sx
open PySem PySem.Spec PyProof.Rows L2
structure EqC (P : Program) (w : World) (K : PySem.W.Frag) (mg : Str → Option Value) (base : Heap) (CX : CXT) (T : Tab) (c k : Nat) (f : FV) : Prop where
  to : ∃ (C a : Addr) (fd : FuncData) (ps : List Str), T.cls c = some C ∧ FnOk P w K mg base CX k a fd ps (spF T ps.length f) ∧ Binds K fd ps [] ∧ ps.length = 2 ∧ PySem.W.findIn K (.ref C) "__eq__" = some (some (.ref a)) ∧ PySem.W.isFn K (.ref a) = true ∧
    PySem.W.findIn K (.ref C) "__ne__" = some (some (.builtin "object.__ne__")) ∧ PySem.W.mroIn K C (.type "object") = some true ∧
    (∀ ty ∈ ["NoneType", "bool", "int", "str", "list", "tuple", "dict"], PySem.W.notFirst K C (.type ty) = true) ∧ (∀ c' C', T.cls c' = some C' → PySem.W.notFirst K C (.ref C') = true)
/-- the callee's promise at two data, the answer turned -/
def rEqO (T : Tab) (neg : Bool) (E : XK) (c : Nat) (f : FV) : R2 := fun v1 v2 H Q => ∃ φ n d1 d2 i fs, d1 = D.ins i c fs ∧ Wf φ n H ∧ Rep T φ H d1 v1 ∧ Rep T φ H d2 v2 ∧
  PostE T E φ n H (fun d φ' _ H' => ∃ b, d = D.bl b ∧ Q (.bl (neg ^^ b)) H') (f [d1, d2] n)
section
variable {X : Cx} {T : Tab} {EX : XK} {CX : CXT} {a b e : Expr} {fa fb : EV} {pos : Pos} {c k : Nat} {f : FV}
theorem canon_in {d : D} {s : String} (h : tyName d = some s) : s ∈ ["NoneType", "bool", "int", "str", "list", "tuple", "dict"] := by
  cases d <;> cases h <;> simp
theorem eqc_type (I : InsTy T X.K) (F : EqC X.prog X.w X.K X.mg X.base CX T c k f) {φ : Phi} {H : Hp} {d : D} {v : V} (r : Rep T φ H d v) {C : Addr} (hC : T.cls c = some C) :
    ∃ t, TyX X.K H v t ∧ PySem.W.notFirst X.K C t = true := by
  obtain ⟨C0, a0, fd, ps, h1, h2, h3, h4, h5, h6, h7, h8, h9, h10⟩ := F.to
  rw [h1] at hC; cases hC
  cases h : tyName d with
  | some s => exact ⟨_, tyName_ok h r, h9 s (canon_in h)⟩
  | none =>
    cases d with
    | ins i c' ds =>
      obtain ⟨C', hC', t⟩ := insTy_ok I r
      exact ⟨_, t, h10 c' C' hC'⟩
    | _ => cases h
/-- the run of the own __eq__ -/
theorem eqc_run {A : Around} (hA : A.frames = X.A.frames) (hroom : Room k A) {pins : List (Addr × Obj)} {σ : L2.St} {H : Hp} {s : Shared} {x : Addr} {y : V} {u : Value} {E : XK} {g : Addr} {fd : FuncData} {ps : List Str} {sp : Sp} {Q : VK}
    (F : FnOk X.prog X.w X.K X.mg X.base CX k g fd ps sp) (hb : Binds X.K fd ps []) (hx : Passes CX X E) (I : Inv X pins σ H s) (ry : RelV y u) (h : sp [.ref x, y] H Q E) : wpAny (model X.prog X.w) A (call (.ref g) [.ref x, u]) (EP X pins σ Q) X.xe s := by
  have e0 : Env0 X.prog X.w X.K X.mg X.base A X.stack s H := by
    have e := I.env0
    exact ⟨by rw [hA]; exact e.frames, e.mod, e.bs, e.bsz, e.funs, e.frf, e.hok, e.bare⟩
  have hl := F.len _ _ _ _ h
  have r2 : Vals [V.ref x, y] [Value.ref x, u] := .cons rfl (.cons ry .nil)
  refine wpAny_call (codeAny_mono (F.run A X.stack s H ⟨[.ref x, u], []⟩ [.ref x, u] [.ref x, y] Q E hroom e0 (by
    have := hb s [.ref x, u] I.kIn (by simpa using hl)
    simpa using this) r2 h) fun r s' hq => ?_)
  cases r with
  | error e => exact hx pins σ H s e s' I hq
  | ok fl =>
    cases fl with
    | ret w => exact I.after hq
    | next => exact False.elim hq
    | brk => exact False.elim hq
    | cont => exact False.elim hq
theorem op_eqO (IT : InsTy T X.K) (F : EqC X.prog X.w X.K X.mg X.base CX T c k f) (hr : Room k X.A) (hx : Passes CX X EX) : OpR X (compareOp .Eq) (rEqO T false EX c f) := by
  intro pins s σ H x y v u Q I rx ry h
  obtain ⟨φ, n, d1, d2, i, fs, rfl, wf, r1, r2, p⟩ := h
  obtain ⟨C, g, fd, ps, h1, h2, h3, h4, h5, h6, h7, h8, h9, h10⟩ := id F.to
  obtain ⟨t, ty, nf⟩ := eqc_type IT F r2 h1
  have r1' := r1
  rw [Rep] at r1
  obtain ⟨xa, C', dx, vs, rfl, pp, hC, hh, hl, rr⟩ := r1
  rw [h1] at hC; cases hC
  cases rx
  obtain ⟨mA, J, _⟩ := ins_get I.hok hh
  obtain ⟨od, J, _⟩ := J.look
  obtain ⟨P, Z, pz, _⟩ := kit_of I ry ty
  obtain ⟨m, hF⟩ := I.fr
  show wpAny _ _ (richCompare .Eq (.ref xa) u) _ _ _
  refine PySem.W.cmp_K (op := .Eq) (tb := t) hr.units0 hF I.ok.mod.kin J (Z.ty _ _ I.kIn pz) nf h5 h6 ?_
  refine wpAny_mono (eqc_run rfl hr h2 h3 hx I ry (Q := fun v H' => ∃ b, v = .bl b ∧ Q (.bl b) H') ⟨by rw [h4]; rfl, φ, n, _, wf, .cons r1' (.cons r2 .nil), p.imp fun d φ' n' H' q v' rv => ?_⟩) (fun v' s' hv => ?_) fun _ _ z => z
  · obtain ⟨b, rfl, q⟩ := q
    rw [Rep] at rv
    exact ⟨b, rv, by simpa using q⟩
  · obtain ⟨z, H', I', rz, b, ez, q⟩ := hv
    subst ez
    cases rz
    exact ⟨.bl b, H', I', rfl, q⟩
theorem op_neO (IT : InsTy T X.K) (F : EqC X.prog X.w X.K X.mg X.base CX T c k f) (hr : Room (k + 1) X.A) (hx : Passes CX X EX) : OpR X (compareOp .NotEq) (rEqO T true EX c f) := by
  intro pins s σ H x y v u Q I rx ry h
  obtain ⟨φ, n, d1, d2, i, fs, rfl, wf, r1, r2, p⟩ := h
  obtain ⟨C, g, fd, ps, h1, h2, h3, h4, h5, h6, h7, h8, h9, h10⟩ := id F.to
  obtain ⟨t, ty, nf⟩ := eqc_type IT F r2 h1
  have r1' := r1
  rw [Rep] at r1
  obtain ⟨xa, C', dx, vs, rfl, pp, hC, hh, hl, rr⟩ := r1
  rw [h1] at hC; cases hC
  cases rx
  obtain ⟨mA, J, _⟩ := ins_get I.hok hh
  obtain ⟨od, J, _⟩ := J.look
  obtain ⟨P, Z, pz, _⟩ := kit_of I ry ty
  show wpAny _ _ (richCompare .NotEq (.ref xa) u) _ _ _
  refine PySem.SxNe.ne_K (tb := t) hr.in1.units0 I.kIn J (Z.ty _ _ I.kIn pz) nf h5 h6 h7 h8 ?_
  refine wpAny_mono (eqc_run (A := X.A.in1) rfl hr.in1 h2 h3 hx I ry (Q := fun v H' => ∃ b, v = .bl b ∧ Q (.bl (!b)) H') ⟨by rw [h4]; rfl, φ, n, _, wf, .cons r1' (.cons r2 .nil), p.imp fun d φ' n' H' q v' rv => ?_⟩) (fun v' s' hv => ?_) fun _ _ z => z
  · obtain ⟨b, rfl, q⟩ := q
    rw [Rep] at rv
    exact ⟨b, rv, by simpa using q⟩
  · obtain ⟨z, H', I', rz, b, ez, q⟩ := hv
    subst ez
    cases rz
    exact ⟨b, rfl, .bl (!b), H', I', rfl, q⟩
def eEqO (neg : Bool) (c : Nat) (f : FV) (a b : EV) : EV := fun n env => (a n env).bind fun x n1 w1 => (b n1 (putE w1 env)).bind fun y n2 w2 => match puts w2 x with
  | .ins i c' fs => if c' = c then (f [.ins i c' fs, y] n2).bind fun d n3 _ => match d with
    | .bl k => .ok (.bl (neg ^^ k)) n3 []
    | _ => .bad else .bad
  | d => R.of ((if neg = true then neD else eqD) d y n2)
theorem eqo_go {neg : Bool} {r : R2} (hg : Bin T (if neg = true then neD else eqD) r) : ∀ σ H Q, rdE T EX (eEqO neg c f fa fb) σ H Q → tOp (fun x y H Q => r x y H Q ∨ rEqO T neg EX c f x y H Q) (rdE T EX fa) (rdE T EX fb) σ H Q :=
  fun σ H Q ⟨φ, n, env, wf, er, p⟩ => go_e wf er p fun d n1 w1 φ1 H1 v s1 er1 r1 p1 => go_e s1.wf er1 p1 fun d2 n2 w2 φ2 H2 v2 s2 er2 r2 p2 => by
    have r3 := s2.car _ _ r1
    split at p2
    · rename_i i c' fs hd
      split at p2
      · rename_i hc
        subst hc
        rw [hd] at r3
        refine .inr ⟨φ2, n2, _, d2, i, fs, rfl, s2.wf, r3, r2, p2.bind fun d3 n3 w3 φ3 H3 _ s3 p3 => ?_⟩
        split at p3
        · rename_i kb _
          exact ⟨kb, rfl, p3 φ3 H3 (Step.refl s3.wf) _ (by rw [Rep])⟩
        · exact p3.elim
      · exact p2.elim
    · obtain ⟨d3, n3, e3, p3⟩ := p2.of
      exact .inl (hg _ _ _ _ _ _ _ _ _ _ s2.wf r3 r2 e3 p3)
theorem x_eqO (IT : InsTy T X.K) (F : EqC X.prog X.w X.K X.mg X.base CX T c k f) (hr : Room k X.A) (hx : Passes CX X EX) {r : R2} (ho : OpR X (compareOp .Eq) r) (hg : Bin T eqD r) (ha : PE X a (rdE T EX fa)) (hb : PE X b (rdE T EX fb)) :
    PE X (.Compare a [.Eq] [b] pos) (rdE T EX (eEqO false c f fa fb)) := (pe_cmpR (ho.or (op_eqO IT F hr hx)) ha hb (nomark _)).to (eqo_go (by simpa using hg))
theorem x_neO (IT : InsTy T X.K) (F : EqC X.prog X.w X.K X.mg X.base CX T c k f) (hr : Room (k + 1) X.A) (hx : Passes CX X EX) {r : R2} (ho : OpR X (compareOp .NotEq) r) (hg : Bin T neD r) (ha : PE X a (rdE T EX fa)) (hb : PE X b (rdE T EX fb)) :
    PE X (.Compare a [.NotEq] [b] pos) (rdE T EX (eEqO true c f fa fb)) := (pe_cmpR (ho.or (op_neO IT F hr hx)) ha hb (nomark _)).to (eqo_go (by simpa using hg))
end
end Sx
end
section
set_option Elab.async false
set_option linter.all false
set_option maxRecDepth 100000
set_option maxHeartbeats 1000000
/-! Sx.J: calls with defaults; makers with keywords; list.index. -/
namespace Sx
open PySem PySem.Spec PyProof.Rows L2
/-- a def some parameters of which take their defaults (data dd) -/
structure FnD (P : Program) (w : World) (K : PySem.W.Frag) (mg : Str → Option Value) (base : Heap) (CX : CXT) (T : Tab) (x : Str) (k : Nat) (ps : List Str) (f : FV) (dd : List D) : Prop where
  to : ∃ (a : Addr) (fd : FuncData) (dvs : List V) (dus : List Value), FnOk P w K mg base CX k a fd ps (spF T ps.length f) ∧ mg x = some (.ref a) ∧ PySem.W.keepIn K (.ref a) = true ∧ Binds K fd ps dus ∧ Vals dvs dus ∧ ∀ φ H, Reps T φ H dd dvs
theorem FnD.mono {P : Program} {w : World} {K : PySem.W.Frag} {mg : Str → Option Value} {base : Heap} {CX : CXT} {T : Tab} {x : Str} {j k : Nat} {ps : List Str} {f : FV} {dd : List D} (F : FnD P w K mg base CX T x j ps f dd) (h : j ≤ k) : FnD P w K mg base CX T x k ps f dd :=
  let ⟨a, fd, dv, du, h1, h2⟩ := F.to
  ⟨a, fd, dv, du, h1.mono h, h2⟩
def eCallD (f : FV) (dd : List D) (g : AV) : EV := fun n env => (g n env).bind fun ds n1 _ => f (ds ++ dd) n1
def eMakeP (c : Nat) (f : FV) (perm : List Nat) (gk : AV) : EV := fun n env => (gk n env).bind fun es n1 _ => mkD c f (permL perm es) n1
section
variable {X : Cx} {T : Tab} {EX : XK} {CX : CXT} {a b c e o : Expr} {es : List Expr} {fa fb fc fe fo : EV} {ga gk : AV} {pos p apos : Pos} {x : Str} {k : Nat} {ps : List Str} {f : FV} {pats : List KPat} {kws : List Keyword} {dd : List D}
theorem x_callD (F : FnD X.prog X.w X.K X.mg X.base CX T x k ps f dd) (hr : Room k X.A) (hg : Gl X x) (hx : Passes CX X EX) (ha : PA X (e :: es) (rdA T EX ga)) (hlen : (e :: es).length + dd.length = ps.length)
    (hla : ∀ n env ds n1 w1, ga n env = .ok ds n1 w1 → ds.length = (e :: es).length)
    (hdb : (x == ("__debug__" : Str)) = false := by decide) (he : starEach (e :: es) X.env = (false, eval e X.env) :: starEach es X.env := by rfl) (hpl : (backTo pos (starEach es X.env)).any (·.1) = false := by rfl) :
    PE X (.Call (.Name x p) (e :: es) [] pos) (rdE T EX (eCallD f dd ga)) := by
  obtain ⟨a, fd, dvs, dus, h1, h2, h3, h4, h5, h6⟩ := F.to
  refine (pe_call (dvs := dvs) (ds := dus) h1 hr hg h2 h3 h4 h5 hx ha hdb he hpl).to fun σ H Q ⟨φ, n, env, wf, er, p⟩ => ⟨φ, n, env, wf, er, p.bind fun ds n1 w1 φ1 H1 eq s1 p1 vs r1 => ?_⟩
  show spF T ps.length f (vs ++ dvs) H1 Q EX
  have r2 := h6 φ1 H1
  exact ⟨by rw [List.length_append, r1.length, r2.length, hla _ _ _ _ _ eq, hlen], φ1, n1, ds ++ dd, s1.wf, r1.append r2, p1⟩
/-- the order of the maker's parameters: the instance first -/
theorem x_makeK0 {c : Nat} {pt : KPat} (F : Mkr X.prog X.w X.K X.mg X.base CX T x c k ps f pats) (hp : pt ∈ pats) (hr : Room (k + 1) X.A) (hg : Gl X x) (hx : Passes CX X EX) (hk : PK X kws (rdA T EX gk))
    (hn : 1 = pt.n) (hm : kws.length = pt.ks.length) (perm : List Nat) (hpe : pt.perm = 0 :: perm.map (· + 1)) (hl : ps.length = pt.perm.length) (hlt : ∀ i ∈ perm, i < pt.ks.length)
    (hlk : ∀ n env ds n1 w1, gk n env = .ok ds n1 w1 → ds.length = kws.length)
    (hall : (backToKw pos (keywordEach kws X.env)).all (·.1.isSome) = true := by rfl) (hks : (backToKw pos (keywordEach kws X.env)).filterMap (·.1) = pt.ks := by rfl)
    (hdb : (x == ("__debug__" : Str)) = false := by decide)
    (hpl : ((backTo pos (starEach [] X.env)).any (·.1) || (backToKw pos (keywordEach kws X.env)).any (·.1.isNone)) = false := by rfl) :
    PE X (.Call (.Name x p) [] kws pos) (rdE T EX (eMakeP c f perm gk)) := by
  obtain ⟨C, a, fd, h1, h2, h3, h4, h5, h6⟩ := F.to
  refine PE.to (t := fun σ H Q => rdA T EX gk σ H fun zs H2 => zs.length = pt.ks.length ∧ ∀ y dx, H2 y = none → H2 dx = none → dx ≠ y → spF T ps.length f (permL pt.perm ([V.ref y] ++ zs)) (upd (upd H2 dx (.own y)) y (.ins C dx [])) (fun v H3 => v = .non ∧ Q (.ref y) H3) EX) ⟨fun pins s σ H Q I h => ?_⟩ fun σ H Q ⟨φ, n, env, wf, er, p⟩ => ?_
  · refine wpAny_Call_Name_kw (ld_glob I hg h2 ?_ hdb)
    refine PySem.W.callWith_KW0 (h₀ := X.base) I.ok.mod.kin h3.kp hall (thn (hk.run pos pins s σ H _ I h) fun ws s2 ⟨zs, H2, I2, rz, l2, q2⟩ => ⟨I2.kIn, ?_⟩) hpl
    rw [hks]
    have hkb : KBn X.K fd ps (0 + 1) pt.ks (fun us ws => permL pt.perm (us ++ ws)) (fun vs zs => permL pt.perm (vs ++ zs)) := by
      have := (h6 pt hp).kbn
      rw [← hn] at this
      exact this
    exact run_makeN (us := []) (vs := []) h3 h4 hr hkb hx I2 .nil rz rfl l2 q2
  · refine ⟨φ, n, env, wf, er, ?_⟩
    refine PostE.bind (r := gk n env) p fun es n1 w1 φ1 H1 eq s1 p1 us r1 => ?_
    have l2 : us.length = pt.ks.length := by rw [r1.length, hlk _ _ _ _ _ eq, hm]
    refine ⟨l2, fun y dx e1 e2 e3 => ?_⟩
    have hperm : permL pt.perm ([V.ref y] ++ us) = .ref y :: permL perm us := by
      rw [hpe]
      unfold permL
      rw [List.filterMap_cons]
      show V.ref y :: _ = _
      rw [List.filterMap_map]
      rfl
    rw [hperm]
    refine mkD_go s1.wf h1 (permL_reps r1) ?_ p1 y dx e1 e2 e3
    rw [hl, hpe, List.length_cons, List.length_map]
    have h7 : ∀ (q : List Nat), (∀ i ∈ q, i < pt.ks.length) → (permL q us).length = q.length := by
      intro q
      induction q with
      | nil => intro _; rfl
      | cons i r ih =>
        intro hq
        have hi : i < us.length := by rw [l2]; exact hq i List.mem_cons_self
        unfold permL at ih ⊢
        rw [List.filterMap_cons, List.getElem?_eq_getElem hi]
        show (_ :: _).length = _
        rw [List.length_cons, ih fun j hj => hq j (List.mem_cons_of_mem _ hj), List.length_cons]
    rw [h7 _ hlt]
end
/-! ### list.index of whole numbers -/
def idxOf (x : Int) : List Int → Option Nat
  | [] => none
  | y :: r => if y = x then some 0 else (idxOf x r).map (· + 1)
def indexD : MV := fun x xs n => match x, xs with
  | .lst _ ds, [.int k] => match asInts ds with
    | some ns => (idxOf k ns).map fun j => (.int (j : Nat), n, [])
    | none => none
  | _, _ => none
theorem idxOf_at {x : Int} : ∀ {ns : List Int} {j : Nat}, idxOf x ns = some j → ns[j]? = some x ∧ ∀ m z, m < j → ns[m]? = some z → z ≠ x
  | y :: r, j, h => by
    rw [idxOf] at h
    split at h
    · rename_i e
      cases h
      exact ⟨by simp [e], fun m z hm => absurd hm (Nat.not_lt_zero _)⟩
    · rename_i e
      rw [Option.map_eq_some_iff] at h
      obtain ⟨i, h1, h2⟩ := h
      subst h2
      obtain ⟨q1, q2⟩ := idxOf_at h1
      refine ⟨by simpa using q1, fun m z hm hz => ?_⟩
      cases m with
      | zero => simp at hz; subst hz; exact e
      | succ m => exact q2 m z (by omega) (by simpa using hz)
theorem indexD_ok {T : Tab} {K : PySem.W.Frag} : Mt T K "list" indexD (rIndex K) := by
  intro φ n H x xs v vs d n' w Q wf r rs h q
  unfold indexD at h
  split at h
  · rename_i i ds k
    split at h
    · rename_i ns hn
      rw [Option.map_eq_some_iff] at h
      obtain ⟨j, h1, h2⟩ := h
      cases h2
      rw [Rep] at r
      obtain ⟨a, us, rfl, p, hh, rr⟩ := r
      obtain ⟨u, rfl, r1⟩ := rs.one
      rw [Rep] at r1
      subst r1
      rw [asInts_eq hn] at rr
      have e := rr.ints
      subst e
      obtain ⟨q1, q2⟩ := idxOf_at h1
      refine ⟨a, ns.map V.int, .int k, j, .int k, rfl, rfl, .inl (.inl hh), rfl, ?_, ?_, ?_, ?_, q φ H (Step.refl wf) _ (by rw [Rep])⟩
      · rw [List.all_map]; exact List.all_eq_true.mpr fun _ _ => rfl
      · rw [List.getElem?_map, q1]; rfl
      · show decide (k = k) = true; exact decide_eq_true rfl
      · intro m z hm hz
        rw [List.getElem?_map, Option.map_eq_some_iff] at hz
        obtain ⟨y, hy, rfl⟩ := hz
        show decide (y = k) = false
        exact decide_eq_false (q2 m y hm hy)
    · cases h
  · cases h
end Sx
end
section
set_option Elab.async false
set_option linter.all false
set_option maxRecDepth 100000
set_option maxHeartbeats 1000000
/-! Sx.K: the rules in short; what a law's names stand for. -/
namespace Sx
open PySem PySem.Spec PyProof.Rows L2
theorem bt_len : bootBuiltins "len" = some (.builtin "len") := by decide +kernel
theorem bt_sum : bootBuiltins "sum" = some (.builtin "sum") := by decide +kernel
theorem bt_max : bootBuiltins "max" = some (.builtin "max") := by decide +kernel
theorem bt_min : bootBuiltins "min" = some (.builtin "min") := by decide +kernel
theorem bt_all : bootBuiltins "all" = some (.builtin "all") := by decide +kernel
theorem bt_any : bootBuiltins "any" = some (.builtin "any") := by decide +kernel
theorem bt_isi : bootBuiltins "isinstance" = some (.builtin "isinstance") := by decide +kernel
theorem bt_list : bootBuiltins "list" = some (.type "list") := by decide +kernel
theorem bt_tuple : bootBuiltins "tuple" = some (.type "tuple") := by decide +kernel
theorem bt_int : bootBuiltins "int" = some (.type "int") := by decide +kernel
theorem bt_bool : bootBuiltins "bool" = some (.type "bool") := by decide +kernel
theorem bt_str : bootBuiltins "str" = some (.type "str") := by decide +kernel
theorem bt_dict : bootBuiltins "dict" = some (.type "dict") := by decide +kernel
section
variable {X : Cx} {T : Tab} {EX : XK} {CX : CXT} {a b e o : Expr} {es : List Expr} {fa fb fe fo : EV} {ga : AV} {pos p apos : Pos} {k c : Nat} {f : FV}
theorem y_len (hm : X.mg "len" = none) (ha : PA X (e :: es) (rdA T EX ga)) (hg : Gl X "len" := by rfl) (he : starEach (e :: es) X.env = (false, eval e X.env) :: starEach es X.env := by rfl) (hpl : (backTo pos (starEach es X.env)).any (·.1) = false := by rfl) :
    PE X (.Call (.Name "len" p) (e :: es) [] pos) (rdE T EX (eB lenD ga)) := x_callB cr_lenA lenD_ok hg hm bt_len ha (he := he) (hpl := hpl)
theorem y_sum (hm : X.mg "sum" = none) (ha : PA X (e :: es) (rdA T EX ga)) (hc : X.calm = true := by rfl) (hg : Gl X "sum" := by rfl) (he : starEach (e :: es) X.env = (false, eval e X.env) :: starEach es X.env := by rfl) (hpl : (backTo pos (starEach es X.env)).any (·.1) = false := by rfl) :
    PE X (.Call (.Name "sum" p) (e :: es) [] pos) (rdE T EX (eB sumD ga)) := x_callB (cr_sum hc) sumD_ok hg hm bt_sum ha (he := he) (hpl := hpl)
theorem y_max (hm : X.mg "max" = none) (ha : PA X (e :: es) (rdA T EX ga)) (hc : X.calm = true := by rfl) (hg : Gl X "max" := by rfl) (he : starEach (e :: es) X.env = (false, eval e X.env) :: starEach es X.env := by rfl) (hpl : (backTo pos (starEach es X.env)).any (·.1) = false := by rfl) :
    PE X (.Call (.Name "max" p) (e :: es) [] pos) (rdE T EX (eB maxD ga)) := x_callB (cr_maxA hc) maxD_ok hg hm bt_max ha (he := he) (hpl := hpl)
theorem y_min (hm : X.mg "min" = none) (ha : PA X (e :: es) (rdA T EX ga)) (hc : X.calm = true := by rfl) (hg : Gl X "min" := by rfl) (he : starEach (e :: es) X.env = (false, eval e X.env) :: starEach es X.env := by rfl) (hpl : (backTo pos (starEach es X.env)).any (·.1) = false := by rfl) :
    PE X (.Call (.Name "min" p) (e :: es) [] pos) (rdE T EX (eB minD ga)) := x_callB (cr_minA hc) minD_ok hg hm bt_min ha (he := he) (hpl := hpl)
theorem y_all (hm : X.mg "all" = none) (ha : PA X (e :: es) (rdA T EX ga)) (hc : X.calm = true := by rfl) (hg : Gl X "all" := by rfl) (he : starEach (e :: es) X.env = (false, eval e X.env) :: starEach es X.env := by rfl) (hpl : (backTo pos (starEach es X.env)).any (·.1) = false := by rfl) :
    PE X (.Call (.Name "all" p) (e :: es) [] pos) (rdE T EX (eB allD ga)) := x_callB (cr_all hc) allD_ok hg hm bt_all ha (he := he) (hpl := hpl)
theorem y_any (hm : X.mg "any" = none) (ha : PA X (e :: es) (rdA T EX ga)) (hc : X.calm = true := by rfl) (hg : Gl X "any" := by rfl) (he : starEach (e :: es) X.env = (false, eval e X.env) :: starEach es X.env := by rfl) (hpl : (backTo pos (starEach es X.env)).any (·.1) = false := by rfl) :
    PE X (.Call (.Name "any" p) (e :: es) [] pos) (rdE T EX (eB anyD ga)) := x_callB (cr_any hc) anyD_ok hg hm bt_any ha (he := he) (hpl := hpl)
theorem y_list (hm : X.mg "list" = none) (ha : PA X (e :: es) (rdA T EX ga)) (hg : Gl X "list" := by rfl) (he : starEach (e :: es) X.env = (false, eval e X.env) :: starEach es X.env := by rfl) (hpl : (backTo pos (starEach es X.env)).any (·.1) = false := by rfl) :
    PE X (.Call (.Name "list" p) (e :: es) [] pos) (rdE T EX (eB listD ga)) := x_callTy call_list_of listD_ok hg hm bt_list ha (he := he) (hpl := hpl)
theorem y_tuple (hm : X.mg "tuple" = none) (ha : PA X (e :: es) (rdA T EX ga)) (hg : Gl X "tuple" := by rfl) (he : starEach (e :: es) X.env = (false, eval e X.env) :: starEach es X.env := by rfl) (hpl : (backTo pos (starEach es X.env)).any (·.1) = false := by rfl) :
    PE X (.Call (.Name "tuple" p) (e :: es) [] pos) (rdE T EX (eB tupleD ga)) := x_callTy call_tuple_of tupleD_ok hg hm bt_tuple ha (he := he) (hpl := hpl)
theorem y_int (hm : X.mg "int" = none) (ha : PA X (e :: es) (rdA T EX ga)) (hg : Gl X "int" := by rfl) (he : starEach (e :: es) X.env = (false, eval e X.env) :: starEach es X.env := by rfl) (hpl : (backTo pos (starEach es X.env)).any (·.1) = false := by rfl) :
    PE X (.Call (.Name "int" p) (e :: es) [] pos) (rdE T EX (eB intD1 ga)) := x_callTy call_int1 intD1_ok hg hm bt_int ha (he := he) (hpl := hpl)
theorem y_str (hm : X.mg "str" = none) (ha : PA X (e :: es) (rdA T EX ga)) (hg : Gl X "str" := by rfl) (he : starEach (e :: es) X.env = (false, eval e X.env) :: starEach es X.env := by rfl) (hpl : (backTo pos (starEach es X.env)).any (·.1) = false := by rfl) :
    PE X (.Call (.Name "str" p) (e :: es) [] pos) (rdE T EX (eB strD1 ga)) := x_callTy call_str_int strD1_ok hg hm bt_str ha (he := he) (hpl := hpl)
-- methods of lists
theorem y_append (ho : PE X o (rdE T EX fo)) (ha : PA X (e :: es) (rdA T EX ga)) (hbase : attributeBase o "append" X.env (eval o X.env) = eval o X.env := by rfl)
    (hfew : ((backTo pos (starEach (e :: es) X.env)).all (fun x => !x.1) && (backToKw pos (keywordEach [] X.env)).all (fun x => x.1.isSome)
      && decide ((e :: es).length + ([] : List Keyword).length + (if ([] : List Keyword).isEmpty then 0 else 1) < 30)) = true := by rfl)
    (hline : (apos.endLine == pos.line) = true := by rfl) (hs : starEach (e :: es) X.env = (false, eval e X.env) :: starEach es X.env := by rfl) (hplain : (backTo pos (starEach es X.env)).any (·.1) = false := by rfl) :
    PE X (.Call (.Attribute o "append" apos) (e :: es) [] pos) (rdE T EX (eM "list" appD fo ga)) := x_bm PySem.F.plainAttrs_list PySem.F.slot_list_append PySem.F.type_list_append mt_append appD_ok ho ha hbase hfew hline hs hplain
theorem y_insert (ho : PE X o (rdE T EX fo)) (ha : PA X (e :: es) (rdA T EX ga)) (hbase : attributeBase o "insert" X.env (eval o X.env) = eval o X.env := by rfl)
    (hfew : ((backTo pos (starEach (e :: es) X.env)).all (fun x => !x.1) && (backToKw pos (keywordEach [] X.env)).all (fun x => x.1.isSome)
      && decide ((e :: es).length + ([] : List Keyword).length + (if ([] : List Keyword).isEmpty then 0 else 1) < 30)) = true := by rfl)
    (hline : (apos.endLine == pos.line) = true := by rfl) (hs : starEach (e :: es) X.env = (false, eval e X.env) :: starEach es X.env := by rfl) (hplain : (backTo pos (starEach es X.env)).any (·.1) = false := by rfl) :
    PE X (.Call (.Attribute o "insert" apos) (e :: es) [] pos) (rdE T EX (eM "list" insertD fo ga)) := x_bm PySem.F.plainAttrs_list PySem.F.slot_list_insert PySem.F.type_list_insert mt_insert insertD_ok ho ha hbase hfew hline hs hplain
theorem y_index (ho : PE X o (rdE T EX fo)) (ha : PA X (e :: es) (rdA T EX ga)) (hbase : attributeBase o "index" X.env (eval o X.env) = eval o X.env := by rfl)
    (hfew : ((backTo pos (starEach (e :: es) X.env)).all (fun x => !x.1) && (backToKw pos (keywordEach [] X.env)).all (fun x => x.1.isSome)
      && decide ((e :: es).length + ([] : List Keyword).length + (if ([] : List Keyword).isEmpty then 0 else 1) < 30)) = true := by rfl)
    (hline : (apos.endLine == pos.line) = true := by rfl) (hs : starEach (e :: es) X.env = (false, eval e X.env) :: starEach es X.env := by rfl) (hplain : (backTo pos (starEach es X.env)).any (·.1) = false := by rfl) :
    PE X (.Call (.Attribute o "index" apos) (e :: es) [] pos) (rdE T EX (eM "list" indexD fo ga)) := x_bm PySem.F.plainAttrs_list PySem.F.slot_list_index PySem.F.type_list_index mt_index indexD_ok ho ha hbase hfew hline hs hplain
theorem y_pop (ho : PE X o (rdE T EX fo)) (hbase : attributeBase o "pop" X.env (eval o X.env) = eval o X.env := by rfl) (hline : (apos.endLine == pos.line) = true := by rfl) :
    PE X (.Call (.Attribute o "pop" apos) [] [] pos) (rdE T EX (eM "list" popD fo aNil)) := x_bm0 PySem.F.plainAttrs_list PySem.F.slot_list_pop PySem.F.type_list_pop mt_pop popD_ok ho hbase hline
-- own == as tests
theorem xt_eqO (IT : InsTy T X.K) (F : EqC X.prog X.w X.K X.mg X.base CX T c k f) (hr : Room k X.A) (hx : Passes CX X EX) {r : R2} (ho : OpR X (compareOp .Eq) r) (hg : Bin T eqD r) (ha : PE X a (rdE T EX fa)) (hb : PE X b (rdE T EX fb)) :
    PT X (.Compare a [.Eq] [b] pos) (rdT T EX (tOf (eEqO false c f fa fb))) := (pt_cmpR (ho.or (op_eqO IT F hr hx)) ha hb (nomark _)).to (tOf_go (eqo_go (by simpa using hg)))
theorem xt_neO (IT : InsTy T X.K) (F : EqC X.prog X.w X.K X.mg X.base CX T c k f) (hr : Room (k + 1) X.A) (hx : Passes CX X EX) {r : R2} (ho : OpR X (compareOp .NotEq) r) (hg : Bin T neD r) (ha : PE X a (rdE T EX fa)) (hb : PE X b (rdE T EX fb)) :
    PT X (.Compare a [.NotEq] [b] pos) (rdT T EX (tOf (eEqO true c f fa fb))) := (pt_cmpR (ho.or (op_neO IT F hr hx)) ha hb (nomark _)).to (tOf_go (eqo_go (by simpa using hg)))
end
/-- an own class, as isinstance takes it -/
structure IsC (K : PySem.W.Frag) (mg : Str → Option Value) (T : Tab) (y : Str) (g : D → Option Bool) : Prop where
  to : ∃ C : Addr, mg y = some (.ref C) ∧ Isi T K (.ref C) g
section
variable {X : Cx} {T : Tab} {EX : XK} {e : Expr} {fe : EV} {pos p p2 p3 p4 : Pos} {g g1 g2 : D → Option Bool} {y z : Str} {ty tz : String} {k : Nat}
theorem y_isiCl (S : IsC X.K X.mg T y g) (hm : X.mg "isinstance" = none) (ha : PE X e (rdE T EX fe)) (hg : Gl X "isinstance" := by rfl) (hg2 : Gl X y := by rfl) (hdb2 : (y == ("__debug__" : Str)) = false := by decide)
    (he : starEach (e :: [.Name y p2]) X.env = (false, eval e X.env) :: starEach [.Name y p2] X.env := by rfl) : PE X (.Call (.Name "isinstance" p) [e, .Name y p2] [] pos) (rdE T EX (eIsi g fe)) := by
  obtain ⟨C, h1, h2⟩ := S.to
  exact x_isiCl h2 hg hm bt_isi hg2 h1 ha (hdb2 := hdb2) (he := he)
theorem y_isiTy (S : Isi T X.K (.type ty) g) (hm : X.mg "isinstance" = none) (hm2 : X.mg y = none) (hv2 : bootBuiltins y = some (.type ty)) (ha : PE X e (rdE T EX fe)) (hg : Gl X "isinstance" := by rfl) (hg2 : Gl X y := by rfl) (hn2 : y ≠ "__name__" := by decide) (hdb2 : (y == ("__debug__" : Str)) = false := by decide)
    (he : starEach (e :: [.Name y p2]) X.env = (false, eval e X.env) :: starEach [.Name y p2] X.env := by rfl) : PE X (.Call (.Name "isinstance" p) [e, .Name y p2] [] pos) (rdE T EX (eIsi g fe)) :=
  x_isiTy S hg hm bt_isi hg2 hm2 hv2 ha (hn2 := hn2) (hdb2 := hdb2) (he := he)
theorem y_isiTy2 (S1 : Isi T X.K (.type ty) g1) (S2 : Isi T X.K (.type tz) g2) (hm : X.mg "isinstance" = none) (hm2 : X.mg y = none) (hv2 : bootBuiltins y = some (.type ty)) (hm3 : X.mg z = none) (hv3 : bootBuiltins z = some (.type tz)) (ha : PE X e (rdE T EX fe))
    (hg : Gl X "isinstance" := by rfl) (hg2 : Gl X y := by rfl) (hg3 : Gl X z := by rfl) (hn2 : y ≠ "__name__" := by decide) (hdb2 : (y == ("__debug__" : Str)) = false := by decide) (hn3 : z ≠ "__name__" := by decide) (hdb3 : (z == ("__debug__" : Str)) = false := by decide)
    (he : starEach (e :: [.Tuple [.Name y p2, .Name z p3] k p4]) X.env = (false, eval e X.env) :: starEach [.Tuple [.Name y p2, .Name z p3] k p4] X.env := by rfl) :
    PE X (.Call (.Name "isinstance" p) [e, .Tuple [.Name y p2, .Name z p3] k p4] [] pos) (rdE T EX (eIsi (isi2 g1 g2) fe)) :=
  x_isiTy2 S1 S2 hg hm bt_isi hg2 hm2 hv2 hg3 hm3 hv3 ha (hn2 := hn2) (hdb2 := hdb2) (hn3 := hn3) (hdb3 := hdb3) (he := he)
end
/-! ### lengths of argument lists -/
theorem la_nil : ∀ n env ds n1 w1, aNil n env = .ok ds n1 w1 → ds.length = ([] : List Expr).length := fun n env ds n1 w1 h => by cases h; rfl
theorem bind_ok {α β : Type} {r : R α} {k : α → Nat → Wr → R β} {b : β} {n : Nat} {w : Wr} (h : r.bind k = .ok b n w) : ∃ a n1 w1 w2, r = .ok a n1 w1 ∧ k a n1 w1 = .ok b n w2 := by
  cases r with
  | ok a n1 w1 =>
    refine ⟨a, n1, w1, ?_⟩
    unfold R.bind at h
    cases hk : k a n1 w1 with
    | ok b' n' w' => simp only [hk, R.pre] at h; cases h; exact ⟨w', rfl, rfl⟩
    | ex c d n' w' => simp only [hk, R.pre] at h; cases h
    | bad => simp only [hk, R.pre] at h; cases h
  | ex c d n' w' => cases h
  | bad => cases h
def LaA (g : AV) (m : Nat) : Prop := ∀ n env ds n1 w1, g n env = .ok ds n1 w1 → ds.length = m
theorem LaA.nil : LaA aNil 0 := fun n env ds n1 w1 h => by cases h; rfl
theorem LaA.cons {f : EV} {g : AV} {m : Nat} (h : LaA g m) : LaA (aCons f g) (m + 1) := fun n env ds n1 w1 e => by
  unfold aCons at e
  obtain ⟨a, n2, w2, w3, e1, e2⟩ := bind_ok e
  obtain ⟨b, n4, w4, w5, e3, e4⟩ := bind_ok e2
  cases e4
  rw [List.length_cons, h _ _ _ _ _ e3]
/-! ### what stands behind a law's names -/
section
variable {P : Program} {w : World} {K : PySem.W.Frag} {mg : Str → Option Value} {base : Heap} {T : Tab} {x qual m : Str} {st : Stmt} {ps N : List Str} {pats : List KPat} {k c : Nat} {body : SV} {dd : List D}
structure Df (K : PySem.W.Frag) (mg : Str → Option Value) (x qual : Str) (st : Stmt) (ps : List Str) (pats : List KPat) : Prop where
  to : ∃ (a : Addr) (fd : FuncData), Fun K x qual st a fd ∧ mg x = some (.ref a) ∧ Binds K fd ps [] ∧ ∀ p ∈ pats, p.Ok K fd ps
theorem Df.fn (D : Df K mg x qual st ps pats) (S : FnScope N ps (defScope st))
    (hb : ∀ (f : Addr) (cdv : Value) (A : Around) (outer : List Env) (s : Shared) (H : Hp) (E : XK), Room k (A.deeper (envOfC qual (defScope st) s.heap.objs.size f cdv)) →
      PSs (cxOf CX0 P w K mg base N qual (defScope st) f cdv A outer s H E).nox (defBody st) (rdS T K E body)) : Fn P w K mg base CX0 T x (k + 1) ps (runF N.length body) pats := by
  obtain ⟨a, fd, h1, h2, h3, h4⟩ := D.to
  exact ⟨a, fd, fn0 h1 S fun cdv A outer s H E hr => hb a cdv A outer s H E hr, h2, h1.kp, h3, h4⟩
/-- a def with defaults -/
structure DfD (K : PySem.W.Frag) (mg : Str → Option Value) (T : Tab) (x qual : Str) (st : Stmt) (ps : List Str) (dd : List D) (pats : List KPat) : Prop where
  to : ∃ (a : Addr) (fd : FuncData) (dvs0 dvs : List V) (dus : List Value), FunD K x qual (defArgs st) (defBody st) (defScope st) dvs0 [] a fd ∧ mg x = some (.ref a) ∧ Binds K fd ps [] ∧ Binds K fd ps dus ∧ Vals dvs dus ∧ (∀ φ H, Reps T φ H dd dvs) ∧ ∀ p ∈ pats, p.Ok K fd ps
theorem DfD.ok (D : DfD K mg T x qual st ps dd pats) (S : FnScope N ps (defScope st))
    (hb : ∀ (f : Addr) (cdv : Value) (A : Around) (outer : List Env) (s : Shared) (H : Hp) (E : XK), Room k (A.deeper (envOfC qual (defScope st) s.heap.objs.size f cdv)) →
      PSs (cxOf CX0 P w K mg base N qual (defScope st) f cdv A outer s H E).nox (defBody st) (rdS T K E body)) : Fn P w K mg base CX0 T x (k + 1) ps (runF N.length body) pats ∧ FnD P w K mg base CX0 T x (k + 1) ps (runF N.length body) dd := by
  obtain ⟨a, fd, dvs0, dvs, dus, h1, h2, h3, h4, h5, h6, h7⟩ := D.to
  have F : FnOk P w K mg base CX0 (k + 1) a fd ps (spF T ps.length (runF N.length body)) :=
    h1.ok S (fun vs H Q E h => h.1) fun cdv A outer s H vs Q E hr h => ⟨_, (hb a cdv A outer s H E hr).nox, run_rd h⟩
  exact ⟨⟨a, fd, F, h2, h1.kp, h3, h7⟩, ⟨a, fd, dvs, dus, F, h2, h1.kp, h4, h5, h6⟩⟩
/-- a class: what makes it -/
structure ClD (K : PySem.W.Frag) (mg : Str → Option Value) (T : Tab) (x : Str) (c : Nat) (qual : Str) (st : Stmt) (ps : List Str) (pats : List KPat) : Prop where
  to : ∃ (C a : Addr) (fd : FuncData), T.cls c = some C ∧ mg x = some (.ref C) ∧ Mk K C a ∧ Fun K "__init__" qual st a fd ∧ Binds K fd ps [] ∧ ∀ p ∈ pats, KPat.Ok K fd ps p
theorem ClD.mk' (D : ClD K mg T x c qual st ps pats) (S : FnScope N ps (defScope st))
    (hb : ∀ (f : Addr) (cdv : Value) (A : Around) (outer : List Env) (s : Shared) (H : Hp) (E : XK), Room k (A.deeper (envOfC qual (defScope st) s.heap.objs.size f cdv)) →
      PSs (cxOf CX0 P w K mg base N qual (defScope st) f cdv A outer s H E).nox (defBody st) (rdS T K E body)) : Mkr P w K mg base CX0 T x c (k + 1) ps (runF N.length body) pats := by
  obtain ⟨C, a, fd, h1, h2, h3, h4, h5, h6⟩ := D.to
  exact ⟨C, a, fd, h1, h2, h3, fn0 h4 S fun cdv A outer s H E hr => hb a cdv A outer s H E hr, h5, h6⟩
theorem _root_.Sx.Mkr.mono {CX : CXT} {j k : Nat} {f : FV} (F : Mkr P w K mg base CX T x c j ps f pats) (h : j ≤ k) : Mkr P w K mg base CX T x c k ps f pats :=
  let ⟨C, a, fd, h1, h2, h3, h4, h5⟩ := F.to
  ⟨C, a, fd, h1, h2, h3, h4.mono h, h5⟩
/-- a method -/
structure MtD (K : PySem.W.Frag) (T : Tab) (c : Nat) (m qual : Str) (st : Stmt) (ps : List Str) : Prop where
  to : ∃ (C a : Addr) (fd : FuncData), T.cls c = some C ∧ Cls K C ∧ Meth K C m a ∧ Fun K m qual st a fd ∧ Binds K fd ps [] ∧ m ∉ T.flds c
theorem MtD.mth (D : MtD K T c m qual st ps) (S : FnScope N ps (defScope st))
    (hb : ∀ (f : Addr) (cdv : Value) (A : Around) (outer : List Env) (s : Shared) (H : Hp) (E : XK), Room k (A.deeper (envOfC qual (defScope st) s.heap.objs.size f cdv)) →
      PSs (cxOf CX0 P w K mg base N qual (defScope st) f cdv A outer s H E).nox (defBody st) (rdS T K E body)) : Mth P w K mg base CX0 T c m (k + 1) ps (runF N.length body) := by
  obtain ⟨C, a, fd, h1, h2, h3, h4, h5, h6⟩ := D.to
  exact ⟨C, a, fd, h1, h2, h3, fn0 h4 S fun cdv A outer s H E hr => hb a cdv A outer s H E hr, h5, h6⟩
theorem _root_.Sx.Mth.mono {CX : CXT} {j k : Nat} {f : FV} (F : Mth P w K mg base CX T c m j ps f) (h : j ≤ k) : Mth P w K mg base CX T c m k ps f :=
  let ⟨C, a, fd, h1, h2, h3, h4, h5⟩ := F.to
  ⟨C, a, fd, h1, h2, h3, h4.mono h, h5⟩
/-- an own __eq__ -/
structure EqDf (K : PySem.W.Frag) (T : Tab) (c : Nat) (qual : Str) (st : Stmt) (ps : List Str) : Prop where
  to : ∃ (C a : Addr) (fd : FuncData), T.cls c = some C ∧ Fun K "__eq__" qual st a fd ∧ Binds K fd ps [] ∧ ps.length = 2 ∧ PySem.W.findIn K (.ref C) "__eq__" = some (some (.ref a)) ∧ PySem.W.isFn K (.ref a) = true ∧
    PySem.W.findIn K (.ref C) "__ne__" = some (some (.builtin "object.__ne__")) ∧ PySem.W.mroIn K C (.type "object") = some true ∧
    (∀ ty ∈ ["NoneType", "bool", "int", "str", "list", "tuple", "dict"], PySem.W.notFirst K C (.type ty) = true) ∧ (∀ c' C', T.cls c' = some C' → PySem.W.notFirst K C (.ref C') = true)
theorem EqDf.eqc (D : EqDf K T c qual st ps) (S : FnScope N ps (defScope st))
    (hb : ∀ (f : Addr) (cdv : Value) (A : Around) (outer : List Env) (s : Shared) (H : Hp) (E : XK), Room k (A.deeper (envOfC qual (defScope st) s.heap.objs.size f cdv)) →
      PSs (cxOf CX0 P w K mg base N qual (defScope st) f cdv A outer s H E).nox (defBody st) (rdS T K E body)) : EqC P w K mg base CX0 T c (k + 1) (runF N.length body) := by
  obtain ⟨C, a, fd, h1, h2, h3, h4, h5⟩ := D.to
  exact ⟨C, a, fd, ps, h1, fn0 h2 S fun cdv A outer s H E hr => hb a cdv A outer s H E hr, h3, h4, h5⟩
theorem _root_.Sx.EqC.mono {CX : CXT} {j k : Nat} {f : FV} (F : EqC P w K mg base CX T c j f) (h : j ≤ k) : EqC P w K mg base CX T c k f :=
  let ⟨C, a, fd, ps, h1, h2, h3⟩ := F.to
  ⟨C, a, fd, ps, h1, h2.mono h, h3⟩
end
end Sx
end
section
set_option Elab.async false
set_option linter.all false
set_option maxRecDepth 100000
set_option maxHeartbeats 1000000
/-! Sx.T: zip of two lists whose pairs are kept under one name. -/
namespace Sx
open PySem PySem.Spec PyProof.Rows L2
abbrev Zs (h : Heap) (zp ti tu : Addr) (v : Value) (f : Bool) : Prop := h.get? zp = some { cls := .type "zip", dict := none, data := .fields #[v, .bool f, .bool false, .ref ti, .ref tu], slots := #[] }
section
variable {prog : Program} {w : World} {A : Around} {E : Value → Shared → Prop} {s : Shared} {zp ti tu j1 j2 m1 m2 N : Addr} {f : Bool} {v : Value} {c1 c2 : Nat} {us vs : Array Value} {xv yv av bv : Value}
theorem alive_look {R : Option Obj → Shared → Prop} (r : R (s.heap.get? N) s) : wpAny (model prog w) A (loadIfAlive N) R E s := fun _ _ _ => r
theorem zs_dead (zz : Zs s.heap zp ti tu (rawInt N) f) (hN : s.heap.get? N = none) {Q : Bool → Shared → Prop} (q : Q true s) : wpAny (model prog w) A (Builtin.SmallTypes.ownedTupleIsFree (.ref zp)) Q E s := by
  unfold Builtin.SmallTypes.ownedTupleIsFree
  refine wpAny_bind (wpAny_field zz rfl (x := rawInt N) rfl (show wpAny _ _ (loadIfAlive ((N : Int).toNat) >>= _) _ _ _ from ?_))
  rw [Int.toNat_natCast]
  refine wpAny_bind (alive_look ?_)
  rw [hN]
  exact wpAny_pure q
/-- a turn at which the zip's own pair is free -/
theorem zs_item {Q : Value → Shared → Prop} (D : ZipApart zp ti tu j1 j2 m1 m2) (zz : Zs s.heap zp ti tu v f)
    (fr : ∀ {E : Value → Shared → Prop} {Q : Bool → Shared → Prop}, Q true s → wpAny (model prog w) A (Builtin.SmallTypes.ownedTupleIsFree (.ref zp)) Q E s)
    (pI : IsPair s.heap ti (.ref j1) (.ref j2)) (pO : IsPair s.heap tu av bv) (g1 : s.heap.IsListIter j1 m1 c1) (g2 : s.heap.IsListIter j2 m2 c2) (hm1 : s.heap.IsList m1 us) (hm2 : s.heap.IsList m2 vs) (eu : us[c1]? = some xv) (ev : vs[c2]? = some yv)
    (q : ∀ h', Zs h' zp ti tu (rawInt s.heap.objs.size) false → IsPair h' tu xv yv → h'.IsListIter j1 m1 (c1 + 1) → h'.IsListIter j2 m2 (c2 + 1) → IsPair h' s.heap.objs.size xv yv → h'.objs.size = s.heap.objs.size + 1 →
      (∀ c o, c ≠ zp → c ≠ tu → c ≠ j1 → c ≠ j2 → s.heap.get? c = some o → h'.get? c = some o) → Q (.ref s.heap.objs.size) { s with heap := h' }) :
    wpAny (model prog w) A (Builtin.«zip.__next__» ⟨[.ref zp], []⟩) (fun fin s' => ∃ r, fin = .done (.ret r) ∧ Q r s') E s := by
  refine show wpAny _ _ (field (.ref zp) 2 >>= _) _ _ _ from wpAny_bind (wpAny_field zz rfl (x := .bool false) rfl ?_)
  refine show wpAny _ _ (field (.ref zp) 3 >>= _) _ _ _ from wpAny_bind (wpAny_field zz rfl (x := .ref ti) rfl ?_)
  refine wpAny_bind (wpAny_seqItems pI rfl (show wpAny _ _ (Builtin.SmallTypes.ownedTupleIsFree (.ref zp) >>= _) _ _ _ from wpAny_bind (fr ?_)))
  simp only [if_true]
  refine wpAny_bind (wpAny_rule (wpAny_bind (wpAny_field zz rfl (x := .ref tu) rfl (wpAny_bind (wpAny_setField_rec zz (by simp) fun k1 z1 b1 => ?_)))))
  have z1' : Zs k1 zp ti tu .ellipsis f := z1
  refine wpAny_bind ?_
  simp only [List.zipIdx_cons, List.zipIdx_nil, List.forIn_cons, List.forIn_nil]
  refine wpAny_bind (wpAny_bind (wpAny_onRaise (show wpAny _ _ (Builtin.SmallTypes.nextOf (.ref j1) >>= _) _ _ _ from ?_)))
  refine wpAny_bind (wpAny_nextOf_list_item (g1.extBut b1.extBut D.i1z) (hm1.extBut b1.extBut D.l1z) eu fun k2 g1' b2 => wpAny_pure ?_)
  have o2 : IsPair k2 tu av bv := b2.extBut _ _ D.TOi1 (b1.extBut _ _ D.TOz pO)
  refine wpAny_bind (wpAny_seqItems o2 rfl (wpAny_bind (wpAny_updateSeq_pair o2 fun k3 o3 b3 => ?_)))
  have o3' : IsPair k3 tu xv bv := o3
  refine wpAny_bind (wpAny_letGo (wpAny_pure (wpAny_bind (wpAny_bind (wpAny_onRaise (show wpAny _ _ (Builtin.SmallTypes.nextOf (.ref j2) >>= _) _ _ _ from ?_))))))
  refine wpAny_bind (wpAny_nextOf_list_item (((g2.extBut b1.extBut D.i2z).extBut b2.extBut D.i12.symm).extBut b3.extBut D.TOi2.symm) (((hm2.extBut b1.extBut D.l2z).extBut b2.extBut D.l2i1).extBut b3.extBut D.l2TO) ev fun k4 g2' b4 => wpAny_pure ?_)
  have o4 : IsPair k4 tu xv bv := b4.extBut _ _ D.TOi2 o3'
  refine wpAny_bind (wpAny_seqItems o4 rfl (wpAny_bind (wpAny_updateSeq_pair o4 fun k5 o5 b5 => ?_)))
  have o5' : IsPair k5 tu xv yv := o5
  refine wpAny_bind (wpAny_letGo (wpAny_pure (wpAny_pure (wpAny_bind (wpAny_seqItems o5' rfl (wpAny_bind (wpAny_newTuple ?_)))))))
  have sz : k5.objs.size = s.heap.objs.size := by rw [b5.1, b4.1, b3.1, b2.1, b1.1]
  have z5 : Zs k5 zp ti tu .ellipsis f := b5.extBut _ _ D.TOz.symm (b4.extBut _ _ D.i2z.symm (b3.extBut _ _ D.TOz.symm (b2.extBut _ _ D.i1z.symm z1')))
  have kp : ∀ c o, c ≠ zp → c ≠ tu → c ≠ j1 → c ≠ j2 → s.heap.get? c = some o → k5.get? c = some o := fun c o n1 n2 n3 n4 e => b5.extBut _ _ n2 (b4.extBut _ _ n4 (b3.extBut _ _ n2 (b2.extBut _ _ n3 (b1.extBut _ _ n1 e))))
  have g15 : k5.IsListIter j1 m1 (c1 + 1) := ((g1'.extBut b3.extBut D.TOi1.symm).extBut b4.extBut D.i12).extBut b5.extBut D.TOi1.symm
  have g25 : k5.IsListIter j2 m2 (c2 + 1) := g2'.extBut b5.extBut D.TOi2.symm
  have zlt : zp < k5.objs.size := Heap.lt_size z5
  refine show wpAny _ _ (Builtin.SmallTypes.ownedTupleHandOut (.ref zp) (.ref k5.objs.size) >>= _) _ _ _ from wpAny_bind ?_
  unfold Builtin.SmallTypes.ownedTupleHandOut
  have z6 : Zs (k5.push { cls := .type "tuple", data := .seq #[xv, yv] }) zp ti tu .ellipsis f := Heap.get?_push_of_some _ z5
  refine wpAny_bind (wpAny_setField_rec z6 (by simp) fun k7 z7 b7 => ?_)
  have z7' : Zs k7 zp ti tu (rawInt k5.objs.size) f := z7
  refine wpAny_setField_rec z7' (by simp) fun k8 z8 b8 => ?_
  have z8' : Zs k8 zp ti tu (rawInt k5.objs.size) false := z8
  have up : ∀ c o, c ≠ zp → k5.get? c = some o → k8.get? c = some o := fun c o n1 e => b8.extBut _ _ n1 (b7.extBut _ _ n1 (Heap.get?_push_of_some _ e))
  have t8 : IsPair k8 k5.objs.size xv yv := b8.extBut _ _ (Nat.ne_of_gt zlt) (b7.extBut _ _ (Nat.ne_of_gt zlt) (Heap.get?_push_size _ rfl))
  have sz8 : k8.objs.size = k5.objs.size + 1 := by rw [b8.1, b7.1, Heap.size_push]
  rw [sz] at z8' t8 sz8
  refine wpAny_pure ⟨_, rfl, show Q (.ref k5.objs.size) _ from ?_⟩
  rw [sz]
  exact q k8 z8' (up _ _ D.TOz o5') (g15.at fun o e => up _ o D.i1z e) (g25.at fun o e => up _ o D.i2z e) t8 sz8 fun c o n1 n2 n3 n4 e => up c o n1 (kp c o n1 n2 n3 n4 e)
theorem zs_end {Q : Fin → Shared → Prop} (hh : A.handled = none) (D : ZipApart zp ti tu j1 j2 m1 m2) (zz : Zs s.heap zp ti tu v f)
    (fr : ∀ {E : Value → Shared → Prop} {Q : Bool → Shared → Prop}, Q true s → wpAny (model prog w) A (Builtin.SmallTypes.ownedTupleIsFree (.ref zp)) Q E s)
    (pI : IsPair s.heap ti (.ref j1) (.ref j2)) (pO : IsPair s.heap tu av bv) (g1 : s.heap.IsListIter j1 m1 c1) (g2 : s.heap.IsListIter j2 m2 c2) (hm1 : s.heap.IsList m1 us) (hm2 : s.heap.IsList m2 vs) (hend : us[c1]? = none ∨ vs[c2]? = none)
    (q : ∀ h' e, (∀ c o, c ≠ zp → c ≠ tu → c ≠ j1 → c ≠ j2 → s.heap.get? c = some o → h'.get? c = some o) → (∃ o, h'.get? e = some o ∧ o.cls = .type "StopIteration") → E (.ref e) { s with heap := h' }) :
    wpAny (model prog w) A (Builtin.«zip.__next__» ⟨[.ref zp], []⟩) Q E s := by
  refine show wpAny _ _ (field (.ref zp) 2 >>= _) _ _ _ from wpAny_bind (wpAny_field zz rfl (x := .bool false) rfl ?_)
  refine show wpAny _ _ (field (.ref zp) 3 >>= _) _ _ _ from wpAny_bind (wpAny_field zz rfl (x := .ref ti) rfl ?_)
  refine wpAny_bind (wpAny_seqItems pI rfl (show wpAny _ _ (Builtin.SmallTypes.ownedTupleIsFree (.ref zp) >>= _) _ _ _ from wpAny_bind (fr ?_)))
  simp only [if_true]
  refine wpAny_bind (wpAny_rule (wpAny_bind (wpAny_field zz rfl (x := .ref tu) rfl (wpAny_bind (wpAny_setField_rec zz (by simp) fun k1 z1 b1 => ?_)))))
  have z1' : Zs k1 zp ti tu .ellipsis f := z1
  refine wpAny_bind ?_
  simp only [List.zipIdx_cons, List.zipIdx_nil, List.forIn_cons, List.forIn_nil]
  refine wpAny_bind (wpAny_bind (wpAny_onRaise (show wpAny _ _ (Builtin.SmallTypes.nextOf (.ref j1) >>= _) _ _ _ from ?_)))
  cases eu : us[c1]? with
  | none =>
    refine wpAny_bind (wpAny_nextOf_list_end hh (g1.extBut b1.extBut D.i1z) (hm1.extBut b1.extBut D.l1z) eu fun k2 e b2 he => ?_)
    obtain ⟨oe, e1, e2⟩ := he
    have z2 : Zs k2 zp ti tu .ellipsis f := b2 _ _ D.i1z.symm z1'
    have ne : e ≠ zp := fun x => by subst x; rw [z2] at e1; cases e1; simp at e2
    exact wpAny_setField_rec z2 (by simp) fun k3 _ b3 => q k3 e (fun c o n1 _ n3 _ x => b3.extBut _ _ n1 (b2 _ _ n3 (b1.extBut _ _ n1 x))) ⟨oe, b3.extBut _ _ ne e1, e2⟩
  | some xv =>
    have ev : vs[c2]? = none := by rcases hend with h | h; rw [eu] at h; cases h; exact h
    refine wpAny_bind (wpAny_nextOf_list_item (g1.extBut b1.extBut D.i1z) (hm1.extBut b1.extBut D.l1z) eu fun k2 g1' b2 => wpAny_pure ?_)
    have o2 : IsPair k2 tu av bv := b2.extBut _ _ D.TOi1 (b1.extBut _ _ D.TOz pO)
    refine wpAny_bind (wpAny_seqItems o2 rfl (wpAny_bind (wpAny_updateSeq_pair o2 fun k3 o3 b3 => ?_)))
    refine wpAny_bind (wpAny_letGo (wpAny_pure (wpAny_bind (wpAny_bind (wpAny_onRaise (show wpAny _ _ (Builtin.SmallTypes.nextOf (.ref j2) >>= _) _ _ _ from ?_))))))
    refine wpAny_bind (wpAny_nextOf_list_end hh (((g2.extBut b1.extBut D.i2z).extBut b2.extBut D.i12.symm).extBut b3.extBut D.TOi2.symm) (((hm2.extBut b1.extBut D.l2z).extBut b2.extBut D.l2i1).extBut b3.extBut D.l2TO) ev fun k4 e b4 he => ?_)
    obtain ⟨oe, e1, e2⟩ := he
    have z4 : Zs k4 zp ti tu .ellipsis f := b4 _ _ D.i2z.symm (b3.extBut _ _ D.TOz.symm (b2.extBut _ _ D.i1z.symm z1'))
    have ne : e ≠ zp := fun x => by subst x; rw [z4] at e1; cases e1; simp at e2
    exact wpAny_setField_rec z4 (by simp) fun k5 _ b5 => q k5 e (fun c o n1 n2 n3 n4 x => b5.extBut _ _ n1 (b4 _ _ n4 (b3.extBut _ _ n2 (b2.extBut _ _ n3 (b1.extBut _ _ n1 x))))) ⟨oe, b5.extBut _ _ ne e1, e2⟩
theorem zs_none (zz : Zs s.heap zp ti tu .none f) {Q : Bool → Shared → Prop} (q : Q true s) : wpAny (model prog w) A (Builtin.SmallTypes.ownedTupleIsFree (.ref zp)) Q E s := by
  unfold Builtin.SmallTypes.ownedTupleIsFree
  exact wpAny_bind (wpAny_field zz rfl (x := .none) rfl (wpAny_pure q))
theorem zs_iter {Q : Value → Shared → Prop} (zz : Zs s.heap zp ti tu v f) (q : Q (.ref zp) s) : wpAny (model prog w) A (pyIter (.ref zp)) Q E s := by
  have ty : s.TypeIs (.ref zp) "zip" := ⟨_, zz, rfl⟩
  exact wpAny_pyIter_slot ty F.slot_zip_iter (wpAny_call_entry F.slot_zip_iter ty F.entry_zip_iter (show wpAny _ _ (ret (.ref zp)) _ _ s from wpAny_pure ⟨_, rfl, "zip", _, ty, F.slot_zip_next.lookup, q⟩) (F.args_zip_iter_1 _))
theorem zn_item {Q : Option Value → Shared → Prop} (D : ZipApart zp ti tu j1 j2 m1 m2) (zz : Zs s.heap zp ti tu v f) (hv : v = .none ∨ ∃ N : Addr, v = rawInt N)
    (pI : IsPair s.heap ti (.ref j1) (.ref j2)) (pO : IsPair s.heap tu av bv) (g1 : s.heap.IsListIter j1 m1 c1) (g2 : s.heap.IsListIter j2 m2 c2) (hm1 : s.heap.IsList m1 us) (hm2 : s.heap.IsList m2 vs) (eu : us[c1]? = some xv) (ev : vs[c2]? = some yv)
    (q : ∀ h', (∃ (N : Addr) (f : Bool), Zs h' zp ti tu (rawInt N) f) → (∃ x y, IsPair h' tu x y) → h'.IsListIter j1 m1 (c1 + 1) → h'.IsListIter j2 m2 (c2 + 1) → IsPair h' s.heap.objs.size xv yv → h'.objs.size = s.heap.objs.size + 1 →
      (∀ c o, c ≠ zp → c ≠ tu → c ≠ j1 → c ≠ j2 → s.heap.get? c = some o → h'.get? c = some o) → Q (some (.ref s.heap.objs.size)) { s with heap := h' }) :
    wpAny (model prog w) A (pyNext (.ref zp)) Q E s := by
  have ty : s.TypeIs (.ref zp) "zip" := ⟨_, zz, rfl⟩
  have free : (∀ {A : Around} {E : Value → Shared → Prop} {Q : Bool → Shared → Prop}, Q true s → wpAny (model prog w) A (Builtin.SmallTypes.ownedTupleIsFree (.ref zp)) Q E s) → wpAny (model prog w) A (pyNext (.ref zp)) Q E s := fun fr => by
    unfold pyNext
    exact wpAny_bind (wpAny_attempt (wpAny_callSpecial?_slot (name := Str.ofString "__next__") ty F.slot_zip_next (wpAny_call_entry F.slot_zip_next ty F.entry_zip_next
      (zs_item D zz fr pI pO g1 g2 hm1 hm2 eu ev fun h' a1 a2 a3 a4 a5 a6 a7 => wpAny_pure (q h' ⟨_, _, a1⟩ ⟨_, _, a2⟩ a3 a4 a5 a6 a7)) (F.args_zip_next_1 _))))
  rcases hv with rfl | ⟨N, rfl⟩
  · exact free fun q => zs_none zz q
  · cases hN : s.heap.get? N with
    | none => exact free fun q => zs_dead zz hN q
    | some oN => exact wpAny_pyNext_zip_item_held D zz hN pI g1 g2 hm1 hm2 eu ev fun h' a1 a3 a4 a5 a6 a7 => q h' ⟨_, _, a1⟩ ⟨av, bv, a7 _ _ D.TOz D.TOi1 D.TOi2 pO⟩ a3 a4 a5 a6 fun c o n1 n2 n3 n4 e => a7 c o n1 n3 n4 e
theorem zn_end {Q : Option Value → Shared → Prop} (hh : A.handled = none) (D : ZipApart zp ti tu j1 j2 m1 m2) (zz : Zs s.heap zp ti tu v f) (hv : v = .none ∨ ∃ N : Addr, v = rawInt N)
    (pI : IsPair s.heap ti (.ref j1) (.ref j2)) (pO : IsPair s.heap tu av bv) (g1 : s.heap.IsListIter j1 m1 c1) (g2 : s.heap.IsListIter j2 m2 c2) (hm1 : s.heap.IsList m1 us) (hm2 : s.heap.IsList m2 vs) (hend : us[c1]? = none ∨ vs[c2]? = none)
    (q : ∀ h', (∀ c o, c ≠ zp → c ≠ tu → c ≠ j1 → c ≠ j2 → s.heap.get? c = some o → h'.get? c = some o) → Q none { s with heap := h' }) : wpAny (model prog w) A (pyNext (.ref zp)) Q E s := by
  have ty : s.TypeIs (.ref zp) "zip" := ⟨_, zz, rfl⟩
  have free : (∀ {A : Around} {E : Value → Shared → Prop} {Q : Bool → Shared → Prop}, Q true s → wpAny (model prog w) A (Builtin.SmallTypes.ownedTupleIsFree (.ref zp)) Q E s) → wpAny (model prog w) A (pyNext (.ref zp)) Q E s := fun fr => by
    unfold pyNext
    refine wpAny_bind (wpAny_attempt (wpAny_callSpecial?_slot (name := Str.ofString "__next__") ty F.slot_zip_next (wpAny_call_entry F.slot_zip_next ty F.entry_zip_next
      (zs_end hh D zz fr pI pO g1 g2 hm1 hm2 hend fun h' e hk he => ?_) (F.args_zip_next_1 _))))
    obtain ⟨oe, e1, e2⟩ := he
    exact wpAny_bind (wpAny_isInstance (T := "StopIteration") (b := true) ⟨oe, e1, e2⟩ isSubtype_stop (wpAny_pure (q _ hk)))
  rcases hv with rfl | ⟨N, rfl⟩
  · exact free fun q => zs_none zz q
  · cases hN : s.heap.get? N with
    | none => exact free fun q => zs_dead zz hN q
    | some oN => exact wpAny_pyNext_zip_end_held hh D zz hN pI g1 g2 hm1 hm2 hend fun h' hk => q h' fun c o n1 n2 n3 n4 e => hk c o n1 n3 n4 e
end
theorem turn_zipN {P : Program} {w : World} {K : PySem.W.Frag} {tg : Expr} {a b zp ti tu j1 j2 : Addr} (ht : ∀ it v, letOwnedTupleGo tg it v = pure ()) (D : ZipApart zp ti tu j1 j2 a b) :
    Turn P w K tg (Itz K a b) [zp, ti, tu, j1, j2] zp (fun i h => (∃ v f, Zs h zp ti tu v f ∧ (v = .none ∨ ∃ N : Addr, v = rawInt N)) ∧ IsPair h ti (.ref j1) (.ref j2) ∧ (∃ x y, IsPair h tu x y) ∧ h.IsListIter j1 a i ∧ h.IsListIter j2 b i) where
  mem := by simp
  obj := fun i h st c hc => by
    obtain ⟨⟨v, f, zz, _⟩, pI, ⟨x, y, pO⟩, ⟨o1, e1, _, d1⟩, ⟨o2, e2, _, d2⟩⟩ := st
    have hc' : c = zp ∨ c = ti ∨ c = tu ∨ c = j1 ∨ c = j2 := by simpa using hc
    rcases hc' with r | r | r | r | r <;> rw [r]
    · exact ⟨_, zz, fun v q => nomatch q⟩
    · exact ⟨_, pI, fun v q => nomatch q⟩
    · exact ⟨_, pO, fun v q => nomatch q⟩
    · exact ⟨o1, e1, fun v q => by rw [d1] at q; cases q⟩
    · exact ⟨o2, e2, fun v q => by rw [d2] at q; cases q⟩
  keep := fun i h h' st k => by
    obtain ⟨⟨v, f, zz, hv⟩, pI, ⟨x, y, pO⟩, g1, g2⟩ := st
    exact ⟨⟨v, f, k zp (by simp) _ zz, hv⟩, k ti (by simp) _ pI, ⟨x, y, k tu (by simp) _ pO⟩, g1.at fun o q => k j1 (by simp) o q, g2.at fun o q => k j2 (by simp) o q⟩
  item := by
    intro X hP hw hK hc i pins s σ H E I hf st hg
    subst hP hw hK
    obtain ⟨⟨v, f, zz, hv⟩, pI, ⟨x0, y0, pO⟩, g1, g2⟩ := st
    obtain ⟨xs, ys, x, y, qx, qy, hx, hy⟩ := hg
    obtain ⟨us, rv, p, _⟩ := I.list qx
    obtain ⟨vs, rv2, p2, _⟩ := I.list qy
    obtain ⟨u, hu, ru⟩ := rv.get hx
    obtain ⟨u2, hu2, ru2⟩ := rv2.get hy
    have fp5 : ∀ c ∈ [zp, ti, tu, j1, j2], c < s.heap.objs.size := fun c hcm => by
      have hc' : c = zp ∨ c = ti ∨ c = tu ∨ c = j1 ∨ c = j2 := by simpa using hcm
      rcases hc' with r | r | r | r | r <;> rw [r]
      · exact Heap.lt_size zz
      · exact Heap.lt_size pI
      · exact Heap.lt_size pO
      · obtain ⟨_, e1, _⟩ := g1; exact Heap.lt_size e1
      · obtain ⟨_, e1, _⟩ := g2; exact Heap.lt_size e1
    refine zn_item D zz hv pI pO g1 g2 p.isList p2.isList (xv := u) (yv := u2) (by simpa using hu) (by simpa using hu2) fun h' zz' pO' g1' g2' hT sz hk => ⟨_, rfl, ?_⟩
    rw [ht]
    have new : ObjOk X.prog X.w (upd H s.heap.objs.size (.tup [x, y])) h' s.heap.objs.size (.tup [x, y]) := ⟨by show 2 ≤ sizeLine; decide, [u, u2], .cons ru (.cons ru2 .nil), ⟨_, hT, rfl, _, rfl⟩⟩
    have I1 : Inv X pins σ (upd H s.heap.objs.size (.tup [x, y])) { s with heap := h' } :=
      I.turnedNew (t' := s.toks) (ch := [zp, ti, tu, j1, j2]) (fun c o hb q => hk c o (fun r => hb (by simp [r])) (fun r => hb (by simp [r])) (fun r => hb (by simp [r])) (fun r => hb (by simp [r])) q) hf (Nat.le_refl _) new
    obtain ⟨N, f', zz'⟩ := zz'
    refine wpAny_pure ⟨.ref s.heap.objs.size, _, I1, rfl, ⟨_, x, y, rfl, I.hok.fresh (Nat.le_refl _), rfl, fun l hl => by rw [I.list_inj hl qx]; exact hx, fun l hl => by rw [I.list_inj hl qy]; exact hy⟩, ⟨⟨_, f', zz', .inr ⟨N, rfl⟩⟩, hk _ _ D.TIz D.TITO D.TIi1 D.TIi2 pI, pO', g1', g2'⟩, fun c hcm => ?_⟩
    rw [upd_ne (Nat.ne_of_lt (fp5 c hcm))]
    exact (hf c hcm).1
  done := by
    intro X hP hw hK hc i pins s σ H E I hf st hg
    subst hP hw hK
    obtain ⟨⟨v, f, zz, hv⟩, pI, ⟨x0, y0, pO⟩, g1, g2⟩ := st
    obtain ⟨xs, ys, qx, qy, he⟩ := hg
    obtain ⟨us, rv, p, _⟩ := I.list qx
    obtain ⟨vs, rv2, p2, _⟩ := I.list qy
    have n1 := rv.length
    have n2 := rv2.length
    have he' : us.toArray[i]? = none ∨ vs.toArray[i]? = none := he.imp (fun q => by simp; omega) fun q => by simp; omega
    exact zn_end (I.ok.hd hc) D zz hv pI pO g1 g2 p.isList p2.isList he' fun h' hk => ⟨rfl, I.turnedL (t' := s.toks) (ch := [zp, ti, tu, j1, j2])
      (fun c o hb q => hk c o (fun r => hb (by simp [r])) (fun r => hb (by simp [r])) (fun r => hb (by simp [r])) (fun r => hb (by simp [r])) q) hf⟩
  self := fun A i s Q E st q => by
    obtain ⟨⟨v, f, zz, _⟩, _⟩ := st
    exact zs_iter zz q
def iZipN (ga : AV) : IV := fun n env => (ga n env).bind fun ds n1 _ => match ds with
  | [.lst i ds, .lst j es] => .ok (.zipL (.lst i ds) (.lst j es)) n1 []
  | _ => .bad
section
variable {X : Cx} {T : Tab} {EX : XK} {e e2 : Expr} {ga : AV} {p pos tpos : Pos} {y : Str}
theorem pi_zipN {ta : TA} (hg : Gl X "zip") (hm : X.mg "zip" = none) (ha : PA X [e, e2] ta)
    (hs : starEach [e, e2] X.env = (false, eval e X.env) :: starEach [e2] X.env := by rfl) (hpl : (backTo pos (starEach [e2] X.env)).any (·.1) = false := by rfl) :
    PI X (.Name y tpos) (.Call (.Name "zip" p) [e, e2] [] pos) (L2.iZip X.K ta) := by
  refine ⟨fun pins s σ H R I h => Call_ (ld_blt I hg hm PyProof.Rows.boot_zip (PyProof.Rows.callWith_type1 (thn (ha.run pos pins s σ H _ I h) fun us s1 ⟨vs, H1, I1, r1, q1⟩ => ?_) hs hpl))⟩
  obtain ⟨a, b, xs, ys, rfl, qx, qy, q⟩ := q1
  cases r1 with
  | cons r rr => cases rr with
    | cons r' rr =>
      cases rr; cases r; cases r'
      obtain ⟨us1, _, p1, _⟩ := I1.list qx
      obtain ⟨us2, _, p2, _⟩ := I1.list qy
      refine call_zip_2 p1.isList p2.isList fun h' zz pI pO g1 g2 sz hk => wpAny_pyIter_zip zz ?_
      have I2 : Inv X pins σ H1 { s1 with heap := h' } := I1.kept (t' := s1.toks) hk
      refine ⟨s1.heap.objs.size + 4, [s1.heap.objs.size + 4, s1.heap.objs.size + 2, s1.heap.objs.size + 3, s1.heap.objs.size, s1.heap.objs.size + 1], _, _, H1, rfl, I2, turn_zipN (fun _ _ => rfl) (PySem.W.ktu_apart s1.heap.objs.size a b p1.lt p2.lt), ⟨⟨_, _, zz, .inl rfl⟩, pI, ⟨_, _, pO⟩, g1, g2⟩, fun c hcm => ?_, q⟩
      have hle : s1.heap.objs.size ≤ c := by
        have hc' : c = s1.heap.objs.size + 4 ∨ c = s1.heap.objs.size + 2 ∨ c = s1.heap.objs.size + 3 ∨ c = s1.heap.objs.size ∨ c = s1.heap.objs.size + 1 := by simpa using hcm
        rcases hc' with r | r | r | r | r <;> rw [r] <;> first | exact Nat.le_add_right _ _ | exact Nat.le_refl _
      exact I1.fpOk hle (I1.hok.fresh hle)
/-- zip(xs, ys): the pairs go to one name -/
theorem xi_zipN (hg : Gl X "zip") (hm : X.mg "zip" = none) (ha : PA X [e, e2] (rdA T EX ga))
    (hs : starEach [e, e2] X.env = (false, eval e X.env) :: starEach [e2] X.env := by rfl) (hpl : (backTo pos (starEach [e2] X.env)).any (·.1) = false := by rfl) :
    PI X (.Name y tpos) (.Call (.Name "zip" p) [e, e2] [] pos) (rdI T X.K EX (iZipN ga)) :=
  (pi_zipN hg hm ha hs hpl).to fun σ H Q ⟨φ, n, env, wf, er, q⟩ => go_a wf er q fun ds n1 w1 φ1 H1 vs s1 er1 r1 p1 => by
    split at p1
    · obtain ⟨v, u, rfl, r2, r3⟩ := r1.two
      obtain ⟨a, xs, rfl, r4, h1⟩ := rep_ref r2
      obtain ⟨b, ys, rfl, r5, h2⟩ := rep_ref r3
      exact ⟨a, b, xs, ys, rfl, .inl (.inl h1), .inl (.inl h2), p1 φ1 H1 (Step.refl s1.wf) _ ⟨a, b, r4, r5, rfl⟩⟩
    · exact p1.elim
end
end Sx
end
section
set_option Elab.async false
set_option linter.all false
set_option maxRecDepth 100000
set_option maxHeartbeats 1000000
/-! Sx.R: the head of a law: the table of classes, facts about the written part. -/
namespace Sx
open PySem PySem.Spec PyProof.Rows L2
def tabOf (cs : List Addr) (fls : List (List Str)) (h : cs.Nodup) : Tab where
  cls c := cs[c]?
  flds c := fls.getD c []
  inj i j C h1 h2 := by
    obtain ⟨hi, e1⟩ := List.getElem?_eq_some_iff.mp h1
    obtain ⟨hj, e2⟩ := List.getElem?_eq_some_iff.mp h2
    have hp := List.pairwise_iff_getElem.mp h
    rcases Nat.lt_trichotomy i j with hij | hij | hij
    · exact absurd (e1.trans e2.symm) (hp i j hi hj hij)
    · exact hij
    · exact absurd (e2.trans e1.symm) (hp j i hj hi hij)
section
variable {K : PySem.W.Frag} {cs : List Addr} {fls : List (List Str)} {h : cs.Nodup}
theorem tab_all {P : Addr → Prop} (hP : ∀ C ∈ cs, P C) : ∀ c C, (tabOf cs fls h).cls c = some C → P C := fun c C e => hP C (List.mem_of_getElem? e)
theorem tab_lt {c : Nat} {C : Addr} (e : (tabOf cs fls h).cls c = some C) : c < cs.length := (List.getElem?_eq_some_iff.mp e).1
def noList (K : PySem.W.Frag) : Bool := K.all fun p => !(p.2.cls == Value.type "list")
theorem mem_of_lookup {a : Addr} {o : Obj} : ∀ {K : PySem.W.Frag}, K.lookup a = some o → (a, o) ∈ K
  | [], e => by cases e
  | (b, x) :: r, e => by
    rw [List.lookup] at e
    split at e
    · rename_i q
      cases e
      rw [beq_iff_eq.mp q]
      exact .head _
    · exact .tail _ (mem_of_lookup e)
theorem noList_rd {H : Hp} {a : Addr} {xs : List V} (hn : noList K = true) (hs : SqL K H a xs) : Rd H a (.lst xs) := by
  rcases hs with hs | ⟨o, its, n, hk, hc, _⟩
  · exact hs
  · have := List.all_eq_true.mp hn _ (mem_of_lookup hk)
    rw [show ((a, o) : Addr × Obj).2.cls = Value.type "list" from hc] at this
    exact absurd this (by decide)
theorem only_frz {H : Hp} {a : Addr} {xs : List V} (hn : noList K = true) (hO : Only H) (hs : SqL K H a xs) : ∃ o, H a = some (.frz o (.lst xs)) := by
  rcases noList_rd hn hs with e | e
  · rcases hO a with z | ⟨o, ys, z⟩
    · rw [e] at z; cases z
    · rw [e] at z; cases z
  · exact e
/-- a law's promise from its run on data -/
theorem hsp_of {T : Tab} {q : FV} {m : Nat} (hn : noList K = true) (hq : ∀ ns : List Int, ns.length ≤ m → ∃ n' w, q [.scr ns] 0 = .ok (.bl true) n' w) (H : Hp) (a : Addr) (ns : List Int) (hl : ns.length ≤ m) (hO : Only H) (hs : SqL K H a (ns.map V.int)) :
    spF T 1 q [.ref a] H (fun v _ => v = .bl true) fun _ _ _ => False := by
  obtain ⟨o, e⟩ := only_frz hn hO hs
  obtain ⟨n', w, hq⟩ := hq ns hl
  refine ⟨rfl, fun _ => none, 0, [.scr ns], ⟨fun _ _ _ h _ => (by cases h), fun _ _ h => (by cases h), fun _ _ h => (by cases h)⟩, Reps.cons (by rw [Rep]; exact ⟨a, o, rfl, e⟩) Reps.nil, ?_⟩
  rw [hq]
  intro φ' H' _ v r
  rw [Rep] at r
  exact r
/-- all that is asked of a class -/
def clsOk (K : PySem.W.Frag) (C : Addr) : Bool := PySem.W.plainGet K C Str.empty && PySem.W.hasDictIn K C && PySem.W.plainOver K C && (PySem.W.findIn K (.ref C) "__setattr__" == some (some (.builtin "object.__setattr__")))
  && (PySem.W.findIn K (.ref C) "__class__" == some (some (.builtin "object.__class__"))) && (PySem.W.mroIn K C (.type "object") == some true)
def objOk (K : PySem.W.Frag) : Bool := (PySem.W.specialIn K (.builtin "object.__class__") "__get__" == some (some (.builtin "getset_descriptor.__get__"))) && (PySem.W.takesIn K (.builtin "object.__class__") == some true)
theorem clsOk_cls {C : Addr} (b : clsOk K C = true) : Cls K C := by
  unfold clsOk at b
  simp only [Bool.and_eq_true] at b
  exact ⟨b.1.1.1.1.1, b.1.1.1.1.2, b.1.1.1.2, eq_of_beq b.1.1.2⟩
theorem insTy_mk (b0 : objOk K = true) (b : cs.all (clsOk K) = true) : InsTy (tabOf cs fls h) K := by
  have b' := List.all_eq_true.mp b
  unfold objOk at b0
  simp only [Bool.and_eq_true] at b0
  refine ⟨tab_all fun C hC => clsOk_cls (b' C hC), tab_all fun C hC => ?_, eq_of_beq b0.1, eq_of_beq b0.2, tab_all fun C hC => ?_⟩
  · have := b' C hC
    unfold clsOk at this
    simp only [Bool.and_eq_true] at this
    exact eq_of_beq this.1.2
  · have := b' C hC
    unfold clsOk at this
    simp only [Bool.and_eq_true] at this
    exact eq_of_beq this.2
def tys : List String := ["NoneType", "bool", "int", "str", "list", "tuple", "dict"]
def kitOk (ty : String) : Bool := (kitB "NoneType" ty == some (ty == "NoneType")) && (kitB "bool" ty == some (ty == "bool" || ty == "int")) && (kitB "int" ty == some (ty == "int")) && (kitB "str" ty == some (ty == "str")) && (kitB "list" ty == some (ty == "list")) && (kitB "tuple" ty == some (ty == "tuple")) && (kitB "dict" ty == some (ty == "dict"))
theorem isTy_mk (I : InsTy (tabOf cs fls h) K) {ty : String} (b0 : kitOk ty = true) (b : cs.all (fun C => PySem.W.kitOne K (.ref C) (.type ty) == some false) = true) : Isi (tabOf cs fls h) K (.type ty) (isTyD ty) := by
  unfold kitOk at b0
  simp only [Bool.and_eq_true] at b0
  exact isi_ty I ty (eq_of_beq b0.1.1.1.1.1.1) (eq_of_beq b0.1.1.1.1.1.2) (eq_of_beq b0.1.1.1.1.2) (eq_of_beq b0.1.1.1.2) (eq_of_beq b0.1.1.2) (eq_of_beq b0.1.2) (eq_of_beq b0.2)
    (tab_all fun C hC => eq_of_beq (List.all_eq_true.mp b C hC))
def isClOk (K : PySem.W.Frag) (cs : List Addr) (c : Nat) (C : Addr) : Bool := (tys.all fun ty => PySem.W.kitOne K (.type ty) (.ref C) == some false) && (List.range cs.length).all fun j => PySem.W.kitOne K (.ref (cs.getD j 0)) (.ref C) == some (j == c)
theorem isC_mk (I : InsTy (tabOf cs fls h) K) {mg : Str → Option Value} {y : Str} {c : Nat} {C : Addr} (hm : mg y = some (.ref C)) (hC : cs[c]? = some C) (b : isClOk K cs c C = true) : IsC K mg (tabOf cs fls h) y (isClD c) := by
  unfold isClOk at b
  rw [Bool.and_eq_true] at b
  refine ⟨C, hm, isi_cl I c C hC (fun ty hty => eq_of_beq (List.all_eq_true.mp b.1 ty hty)) fun c' C' e => ?_⟩
  have hl := tab_lt e
  have := eq_of_beq (List.all_eq_true.mp b.2 c' (List.mem_range.mpr hl))
  have e2 : cs.getD c' 0 = C' := by
    rw [List.getD_eq_getElem?_getD]
    show (cs[c']?).getD 0 = C'
    rw [show cs[c']? = some C' from e]
    rfl
  rw [e2] at this
  exact this
theorem fld_mk {c j : Nat} {f : Str} {C : Addr} (I : InsTy (tabOf cs fls h) K) (hC : cs[c]? = some C) (ha : (fls.getD c [])[j]? = some f) (nd : (fls.getD c []).Nodup) (b : (PySem.W.findIn K (.ref C) f == some none) = true) : Fld (tabOf cs fls h) K c j f :=
  ⟨ha, nd, fun C' e => by
    have e2 : cs[c]? = some C' := e
    rw [hC] at e2; cases e2
    exact ⟨I.cl c C hC, eq_of_beq b⟩⟩
def eqOk (K : PySem.W.Frag) (cs : List Addr) (C : Addr) : Bool := (PySem.W.findIn K (.ref C) "__ne__" == some (some (.builtin "object.__ne__"))) && (PySem.W.mroIn K C (.type "object") == some true) && (tys.all fun ty => PySem.W.notFirst K C (.type ty)) && (cs.all fun C' => PySem.W.notFirst K C (.ref C'))
theorem eqDf_mk {c : Nat} {qual : Str} {st : Stmt} {ps : List Str} {C a : Addr} {fd : FuncData} (hC : cs[c]? = some C) (F : Fun K "__eq__" qual st a fd) (B : Binds K fd ps []) (hl : ps.length = 2) (hf : PySem.W.findIn K (.ref C) "__eq__" = some (some (.ref a))) (hi : PySem.W.isFn K (.ref a) = true)
    (b : eqOk K cs C = true) : EqDf K (tabOf cs fls h) c qual st ps := by
  unfold eqOk at b
  simp only [Bool.and_eq_true] at b
  exact ⟨C, a, fd, hC, F, B, hl, hf, hi, eq_of_beq b.1.1.1, eq_of_beq b.1.1.2, fun ty hty => List.all_eq_true.mp b.1.2 ty hty, tab_all fun C' hC' => List.all_eq_true.mp b.2 C' hC'⟩
/-- a def with defaults -/
theorem dfD_mk {T : Tab} {mg : Str → Option Value} {x qual : Str} {st : Stmt} {ps : List Str} {dd : List D} {pats : List KPat} {dvs : List V} {a : Addr} {fd : FuncData} (F : FunD K x qual (defArgs st) (defBody st) (defScope st) dvs [] a fd) (hm : mg x = some (.ref a)) (n j : Nat)
    (hd : dvs ≠ []) (hn : n + (dvs.length - j) = ps.length)
    (h1 : ∀ (T : Addr) (kV doc pm : Value) (an : Option Addr) (cdv ct : Value) (us its : List Value), us.length = ps.length → its.length = dvs.length →
      ∃ k, bindArgs (PySem.W.fnOf x qual (defArgs st) (defBody st) (defScope st) (.ref T) kV doc pm an cdv ct) ⟨us, []⟩ = seqItems? (.ref T) >>= k ∧ k (some its.toArray) = pure (ps.zip (us ++ its.drop dvs.length)))
    (h2 : ∀ (T : Addr) (kV doc pm : Value) (an : Option Addr) (cdv ct : Value) (us its : List Value), us.length = n → its.length = dvs.length →
      ∃ k, bindArgs (PySem.W.fnOf x qual (defArgs st) (defBody st) (defScope st) (.ref T) kV doc pm an cdv ct) ⟨us, []⟩ = seqItems? (.ref T) >>= k ∧ k (some its.toArray) = pure (ps.zip (us ++ its.drop j)))
    (hr : ∀ φ H, Reps T φ H dd (dvs.drop j)) (hp : ∀ p ∈ pats, p.Ok K fd ps) : DfD K mg T x qual st ps dd pats := by
  obtain ⟨ds, r1, b1⟩ := F.binds1 (ps := ps) ps.length dvs.length hd (by rw [Nat.sub_self]; rfl) h1
  obtain ⟨dus, r2, b2⟩ := F.binds1 (ps := ps) n j hd hn h2
  rw [List.drop_length] at r1
  cases r1
  exact ⟨a, fd, dvs, dvs.drop j, dus, F, hm, b1, b2, r2, hr, hp⟩
end
theorem Df.law {P : Program} {w : World} {K : PySem.W.Frag} {mg : Str → Option Value} {T : Tab} {x qual : Str} {st : Stmt} {ps N : List Str} {pats : List KPat} {k : Nat} {body : SV} (D : Df K mg x qual st ps pats) (S : FnScope N ps (defScope st))
    (hb : ∀ (base : Heap) (f : Addr) (cdv : Value) (A : Around) (outer : List Env) (s : Shared) (H : Hp) (E : XK), Room k (A.deeper (envOfC qual (defScope st) s.heap.objs.size f cdv)) →
      PSs (cxOf CX0 P w K mg base N qual (defScope st) f cdv A outer s H E).nox (defBody st) (rdS T K E body)) : ∃ (a : Addr) (fd : FuncData), Fun K x qual st a fd ∧ mg x = some (.ref a) ∧ ∀ base : Heap, FnOk P w K mg base CX0 (k + 1) a fd ps (spF T ps.length (runF N.length body)) := by
  obtain ⟨a, fd, h1, h2, h3, h4⟩ := D.to
  exact ⟨a, fd, h1, h2, fun base => fn0 h1 S fun cdv A outer s H E hr => hb base a cdv A outer s H E hr⟩
theorem with_cls {K : PySem.W.Frag} {h : Heap} (X : K.In h) (x : Str) {C : Addr} {G : Prop} (n : PySem.W.nsIn K mainGlobals x = some (some (.ref C))) (r : PySem.W.nsIn K mainGlobals x = some (some (.ref C)) → G) : G := r n
theorem then_ {A B : Prop} (a : A) (r : A → B) : B := r a
end Sx
end
section
set_option Elab.async false
set_option linter.all false
set_option maxRecDepth 100000
set_option maxHeartbeats 1000000
/-! Sx.L: reckoning with the evaluators (plain Lean). -/
namespace Sx
open PySem PySem.Spec PyProof.Rows L2
section
variable {α β : Type}
theorem bindOk (a : α) (n : Nat) (w : Wr) (k : α → Nat → Wr → R β) : (R.ok a n w).bind k = (k a n w).pre w := rfl
theorem preOk (a : α) (n : Nat) (w w2 : Wr) : (R.ok a n w2).pre w = .ok a n (comp w w2) := rfl
theorem preNil (r : R α) : R.pre [] r = r := by
  cases r with
  | ok a n w => show R.ok a n (comp [] w) = _; rw [nil_comp]
  | ex c d n w => show R.ex c d n (comp [] w) = _; rw [nil_comp]
  | bad => rfl
theorem ofSome (a : α) (n : Nat) : R.of (some (a, n)) = .ok a n [] := rfl
theorem putNil (s : SS) (n0 n1 : Nat) : s.put n0 n1 [] = { s with n := n1 } := rfl
def li (xs : List Int) : List D := xs.map .int
theorem putsL_li (w : Wr) : ∀ xs : List Int, putsL w (li xs) = li xs
  | [] => rfl
  | x :: r => by show puts w (.int x) :: putsL w (li r) = _; rw [putsL_li w r]; rfl
theorem puts_li (w : Wr) (i : Nat) (xs : List Int) (h : Wr.get w i = none) : puts w (.lst i (li xs)) = .lst i (li xs) := by rw [puts, h, putsL_li]
theorem hasL_li (j : Nat) : ∀ xs : List Int, hasL j (li xs) = false
  | [] => rfl
  | x :: r => by show (D.has j (.int x) || hasL j (li r)) = _; rw [hasL_li j r]; rfl
theorem asInts_li : ∀ xs : List Int, asInts (li xs) = some xs
  | [] => rfl
  | x :: r => by
    have := asInts_li r
    simp [li, asInts] at this ⊢
    rw [this]
theorem li_len (xs : List Int) : (li xs).length = xs.length := List.length_map ..
theorem lcGo_inv {own : List Nat} {tg : TgV} {el : EV} {src : Src} {len : Nat} (I : Nat → Nat → Wr → Ev → List D → Prop) (hstop : src.at len = some none)
    (step : ∀ k n w env acc, k < len → I k n w env acc → ∃ d env1 x n2 w2, src.at k = some (some d) ∧ tg d (wipeE env own) = some env1 ∧ el n env1 = .ok x n2 w2 ∧ src.puts w2 = src ∧ acc.length < sizeLine ∧ I (k + 1) n2 (comp w w2) (putE w2 env) (putsL w2 acc ++ [x])) :
    ∀ fuel k n w env acc, fuel + k = len → I k n w env acc → ∃ acc' n' w'' env', lcGo own tg tTrue el fuel k src acc n env = .ok (.lst n' acc') (n' + 1) w'' ∧ I len n' (comp w w'') env' acc' := by
  intro fuel
  induction fuel with
  | zero =>
    intro k n w env acc hk hI
    have : k = len := by omega
    subst this
    refine ⟨acc, n, [], env, ?_, hI⟩
    rw [lcGo.eq_def]
    simp only [hstop]
  | succ fuel ih =>
    intro k n w env acc hk hI
    obtain ⟨d, env1, x, n2, w2, h1, h2, h3, h4, h5, h6⟩ := step k n w env acc (by omega) hI
    obtain ⟨acc', n', w'', env', e1, e2⟩ := ih (k + 1) n2 (comp w w2) (putE w2 env) (putsL w2 acc ++ [x]) (by omega) h6
    refine ⟨acc', n', comp w2 w'', env', ?_, by rw [comp_assoc]; exact e2⟩
    rw [lcGo.eq_def]
    have hs : src.puts [] = src := by
      cases src <;> simp [Src.puts, puts_nil]
    simp only [h1, h2, tTrue, bindOk, preNil, putE_nil, h3, if_pos h5, hs, putsL_nil, h4, e1, preOk, if_true, nil_comp]
/-- a pure element -/
theorem lcGo_pure {own : List Nat} {tg : TgV} {el : EV} {src : Src} {ds : List D} (g : D → D) (env : Ev) (n : Nat) (hsrc : ∀ j, src.at j = some ds[j]?) (hl : src.len = ds.length)
    (h : ∀ d ∈ ds, ∃ env1, tg d (wipeE env own) = some env1 ∧ el n env1 = .ok (g d) n []) (hz : ds.length ≤ sizeLine) :
    lcGo own tg tTrue el src.len 0 src [] n env = .ok (.lst n (ds.map g)) (n + 1) [] := by
  obtain ⟨acc', n', w'', env', e1, e2, e3, e4, e5⟩ := lcGo_inv (own := own) (tg := tg) (el := el) (src := src) (len := ds.length) (fun k m w e acc => m = n ∧ e = env ∧ w = [] ∧ acc = (ds.take k).map g) (by rw [hsrc]; simp)
    (fun k m w e acc hk hI => by
      obtain ⟨rfl, rfl, rfl, rfl⟩ := hI
      obtain ⟨env1, h1, h2⟩ := h ds[k] (List.getElem_mem hk)
      refine ⟨ds[k], env1, g ds[k], m, [], by rw [hsrc, List.getElem?_eq_getElem hk], h1, h2, by cases src <;> simp [Src.puts, puts_nil], ?_, rfl, putE_nil _, rfl, ?_⟩
      · rw [List.length_map, List.length_take]; omega
      · rw [putsL_nil, List.take_succ, List.getElem?_eq_getElem hk, List.map_append]; rfl) src.len 0 n [] env [] (by omega) ⟨rfl, rfl, rfl, rfl⟩
  rw [nil_comp] at e4
  subst e2 e4 e5
  rw [e1, List.take_length]
/-- an element that makes objects, its value known all the same -/
theorem lcGo_val {own : List Nat} {tg : TgV} {el : EV} {src : Src} {ds : List D} (g : D → D) (env : Ev) (n : Nat) (hsrc : ∀ j, src.at j = some ds[j]?) (hl : src.len = ds.length)
    (h : ∀ d ∈ ds, ∃ env1, tg d (wipeE env own) = some env1 ∧ ∀ m, n ≤ m → ∃ m', m ≤ m' ∧ el m env1 = .ok (g d) m' []) (hz : ds.length ≤ sizeLine) :
    ∃ n', n ≤ n' ∧ lcGo own tg tTrue el src.len 0 src [] n env = .ok (.lst n' (ds.map g)) (n' + 1) [] := by
  obtain ⟨acc', n', w'', env', e1, e2, e3, e4, e5⟩ := lcGo_inv (own := own) (tg := tg) (el := el) (src := src) (len := ds.length) (fun k m w e acc => n ≤ m ∧ e = env ∧ w = [] ∧ acc = (ds.take k).map g) (by rw [hsrc]; simp)
    (fun k m w e acc hk hI => by
      obtain ⟨hm, rfl, rfl, rfl⟩ := hI
      obtain ⟨env1, h1, h2⟩ := h ds[k] (List.getElem_mem hk)
      obtain ⟨m', h3, h4⟩ := h2 m hm
      refine ⟨ds[k], env1, g ds[k], m', [], by rw [hsrc, List.getElem?_eq_getElem hk], h1, h4, by cases src <;> simp [Src.puts, puts_nil], ?_, by omega, putE_nil _, rfl, ?_⟩
      · rw [List.length_map, List.length_take]; omega
      · rw [putsL_nil, List.take_succ, List.getElem?_eq_getElem hk, List.map_append]; rfl) src.len 0 n [] env [] (by omega) ⟨Nat.le_refl _, rfl, rfl, rfl⟩
  rw [nil_comp] at e4
  subst e4 e5
  rw [List.take_length] at e1
  exact ⟨n', e2, e1⟩
theorem forGo_inv {tg : TgV} {body : SV} {n0 : Nat} (I : Nat → SS → Prop) (len : Nat)
    (step : ∀ k s, k < len → I k s → ∃ src h d env s', s.hid = src :: h ∧ src.at k = some (some d) ∧ tg d s.env = some env ∧ (body n0 { s with env := env } = .nx s' ∨ body n0 { s with env := env } = .ct s') ∧ I (k + 1) s')
    (stop : ∀ s, I len s → ∃ src h, s.hid = src :: h ∧ src.at len = some none) :
    ∀ fuel k s, fuel + k = len → I k s → ∃ s' src h, forGo tg body n0 fuel k s = .nx { s' with hid := h } ∧ s'.hid = src :: h ∧ I len s' := by
  intro fuel
  induction fuel with
  | zero =>
    intro k s hk hI
    have : k = len := by omega
    subst this
    obtain ⟨src, h, h1, h2⟩ := stop s hI
    refine ⟨s, src, h, ?_, h1, hI⟩
    rw [forGo.eq_def]
    simp only [h1, h2]
  | succ fuel ih =>
    intro k s hk hI
    obtain ⟨src, h, d, env, s', h1, h2, h3, h4, h5⟩ := step k s (by omega) hI
    obtain ⟨s2, src2, hh, e1, e2, e3⟩ := ih (k + 1) s' (by omega) h5
    refine ⟨s2, src2, hh, ?_, e2, e3⟩
    rw [forGo.eq_def]
    simp only [h1, h2, h3]
    rw [h1] at h4
    rcases h4 with h4 | h4 <;> simp only [h4, e1]
end
section
theorem eqD_int (a b : Int) (n : Nat) : eqD (.int a) (.int b) n = some (.bl (decide (a = b)), n) := by
  show (if SeqAt.shaped (.int a) = true ∧ SeqAt.shaped (.int b) = true then some (D.bl (PyData.eqv (.int a) (.int b)), n) else none) = _
  rw [if_pos ⟨rfl, rfl⟩, PyData.eqv]
  rfl
theorem neD_int (a b : Int) (n : Nat) : neD (.int a) (.int b) n = some (.bl (!decide (a = b)), n) := by
  show (if SeqAt.shaped (.int a) = true ∧ SeqAt.shaped (.int b) = true then some (D.bl (!PyData.eqv (.int a) (.int b)), n) else none) = _
  rw [if_pos ⟨rfl, rfl⟩, PyData.eqv]
  rfl
theorem toPyL_li : ∀ xs : List Int, toPyL (li xs) = some (xs.map PyData.int)
  | [] => rfl
  | x :: r => by
    show toPyL (.int x :: li r) = _
    rw [toPyL, toPyL_li r]
    rfl
theorem eqvAll_li : ∀ xs ys : List Int, PyData.eqvAll (xs.map PyData.int) (ys.map PyData.int) = decide (xs = ys)
  | [], [] => rfl
  | [], _ :: _ => rfl
  | _ :: _, [] => rfl
  | x :: xs, y :: ys => by
    rw [List.map_cons, List.map_cons, PyData.eqvAll, eqvAll_li xs ys, PyData.eqv, Bool.eq_iff_iff]
    simp
theorem shaped_li (xs : List Int) : SeqAt.shaped (.list (xs.map PyData.int)) = true := by
  have h1 : ∀ xs : List Int, PyData.canLayAll0 (xs.map PyData.int) = true := fun xs => by
    induction xs with
    | nil => rfl
    | cons x r ih => rw [List.map_cons, PyData.canLayAll0, ih]; rfl
  have h2 : ∀ xs : List Int, PyData.depthAll (xs.map PyData.int) = 0 := fun xs => by
    induction xs with
    | nil => rfl
    | cons x r ih => rw [List.map_cons, PyData.depthAll, ih]; rfl
  unfold SeqAt.shaped
  rw [PyData.canLay0, h1, PyData.depth, h2]
  rfl
theorem eqD_li (i j : Nat) (xs ys : List Int) (n : Nat) : eqD (.lst i (li xs)) (.lst j (li ys)) n = some (.bl (decide (xs = ys)), n) := by
  unfold eqD
  rw [toPy, toPy, toPyL_li, toPyL_li]
  show (if SeqAt.shaped (.list (xs.map PyData.int)) = true ∧ SeqAt.shaped (.list (ys.map PyData.int)) = true then some (D.bl (PyData.eqv (.list (xs.map PyData.int)) (.list (ys.map PyData.int))), n) else none) = _
  rw [if_pos ⟨shaped_li xs, shaped_li ys⟩, PyData.eqv, eqvAll_li]
theorem neD_li (i j : Nat) (xs ys : List Int) (n : Nat) : neD (.lst i (li xs)) (.lst j (li ys)) n = some (.bl (!decide (xs = ys)), n) := by
  unfold neD
  rw [toPy, toPy, toPyL_li, toPyL_li]
  show (if SeqAt.shaped (.list (xs.map PyData.int)) = true ∧ SeqAt.shaped (.list (ys.map PyData.int)) = true then some (D.bl (!PyData.eqv (.list (xs.map PyData.int)) (.list (ys.map PyData.int))), n) else none) = _
  rw [if_pos ⟨shaped_li xs, shaped_li ys⟩, PyData.eqv, eqvAll_li]
theorem neD_li_nil (i j : Nat) (xs : List Int) (n : Nat) : neD (.lst i (li xs)) (.lst j []) n = some (.bl (!decide (xs = [])), n) := neD_li i j xs [] n
theorem addD_int (a b : Int) (n : Nat) : addD (.int a) (.int b) n = some (.int (a + b), n) := rfl
theorem subD_int (a b : Int) (n : Nat) : subD (.int a) (.int b) n = some (.int (a - b), n) := rfl
theorem li_app (xs ys : List Int) : li xs ++ li ys = li (xs ++ ys) := (List.map_append ..).symm
theorem li_one (x : Int) : [D.int x] = li [x] := rfl
theorem li_nil : ([] : List D) = li [] := rfl
theorem li_get (xs : List Int) (k : Nat) : (li xs)[k]? = xs[k]?.map D.int := List.getElem?_map ..
theorem atI_pos {α : Type} (xs : List α) (k : Nat) : L2.atI xs (k : Int) = xs[k]? := by
  unfold L2.atI L2.ixN
  by_cases h : k < xs.length
  · have h1 : (0 : Int) ≤ (k : Int) := by omega
    simp [h1, h]
  · have h1 : (0 : Int) ≤ (k : Int) := by omega
    have h2 : xs[k]? = none := List.getElem?_eq_none_iff.mpr (by omega)
    simp [h1, h, h2]
end
section
theorem listD_lst (i : Nat) (ds : List D) (n : Nat) : listD [.lst i ds] n = some (.lst n ds, n + 1) := rfl
theorem listD_tup (ds : List D) (n : Nat) : listD [.tup ds] n = some (.lst n ds, n + 1) := rfl
theorem tupleD_lst (i : Nat) (ds : List D) (n : Nat) : tupleD [.lst i ds] n = some (.tup ds, n) := rfl
theorem lenD_lst (i : Nat) (ds : List D) (n : Nat) : lenD [.lst i ds] n = some (.int ds.length, n) := rfl
theorem lenD_tup (ds : List D) (n : Nat) : lenD [.tup ds] n = some (.int ds.length, n) := rfl
theorem setF_new (a c : Nat) (ds : List D) (v : D) (h : D.has a v = false) : setF c ds.length (.ins a c ds) v = some (a, .ins a c (ds ++ [v])) := by simp [setF, h]
theorem putCons (s : SS) (n0 n1 : Nat) (p : Nat × D) (r : Wr) : s.put n0 n1 (p :: r) = { n := n1, env := putE (p :: r) s.env, w := cutW n0 (comp s.w (p :: r)), hid := s.hid.map (Src.puts (p :: r)) } := rfl
theorem putE_cons (p : Nat × D) (r : Wr) (env : Ev) : putE (p :: r) env = env.map fun o => o.map (puts (p :: r)) := rfl
theorem cutW_lt (n0 i : Nat) (d : D) (h : i < n0) : cutW n0 [(i, d)] = [(i, d)] := by simp [cutW, h]
theorem cutW_ge (n0 i : Nat) (d : D) (h : n0 ≤ i) : cutW n0 [(i, d)] = [] := by simp [cutW]; omega
theorem cutW_nil (n0 : Nat) : cutW n0 [] = [] := rfl
theorem comp_one (i : Nat) (a b : D) : comp [(i, a)] [(i, b)] = [(i, puts [(i, b)] a)] := by simp [comp, Wr.get]
theorem get_one (i : Nat) (a : D) : Wr.get [(i, a)] i = some a := by simp [Wr.get]
theorem get_one_ne (i j : Nat) (a : D) (h : j ≠ i) : Wr.get [(i, a)] j = none := by simp [Wr.get, h]
theorem get_nil (j : Nat) : Wr.get [] j = none := rfl
theorem cutOk {α : Type} (n0 : Nat) (a : α) (n : Nat) (w : Wr) : R.cut n0 (.ok a n w) = .ok a n (cutW n0 w) := rfl
theorem bTrue : (true = true) = True := by simp
theorem bFalse : (false = true) = False := by simp
theorem asBls_rep (b : Bool) : ∀ m : Nat, asBls (List.replicate m (.bl b)) = some (List.replicate m b)
  | 0 => rfl
  | m + 1 => by
    have := asBls_rep b m
    rw [List.replicate_succ, asBls, this, List.replicate_succ]; rfl
theorem map_const {α β : Type} (b : β) : ∀ xs : List α, xs.map (fun _ => b) = List.replicate xs.length b
  | [] => rfl
  | x :: r => by rw [List.map_cons, map_const b r, List.length_cons, List.replicate_succ]
theorem all_rep : ∀ m : Nat, (List.replicate m true).all id = true
  | 0 => rfl
  | m + 1 => by rw [List.replicate_succ, List.all_cons, all_rep m]; rfl
end
section
theorem szEq : sizeLine = 16777216 := rfl
/-- a number that is far from the line of sizes -/
def Sm (a : Int) : Prop := -(10 ^ 60) < a ∧ a < 10 ^ 60
theorem Sm.bits {a : Int} (h : Sm a) : Builtin.Int.intBits a ≤ 200 := by
  refine PyProof.Rows.intBits_le ?_
  have h1 := h.1
  have h2 := h.2
  have : a.natAbs < 10 ^ 60 := by omega
  exact Nat.lt_of_lt_of_le this (by decide)
theorem mulOk_sm {a b : Int} (ha : Sm a) (hb : Sm b) : mulOk a b = true := by
  have h1 := ha.bits
  have h2 := hb.bits
  unfold mulOk
  exact decide_eq_true (by omega)
theorem mulD_sm {a b : Int} (n : Nat) (ha : Sm a) (hb : Sm b) : mulD (.int a) (.int b) n = some (.int (a * b), n) := by
  show (if mulOk a b = true then some (D.int (a * b), n) else none) = _
  rw [if_pos (mulOk_sm ha hb)]
theorem sm_of {a : Int} (h1 : -(10 ^ 30) < a) (h2 : a < 10 ^ 30) : Sm a := ⟨by omega, by omega⟩
theorem mul_bd {a b A B : Int} (h1 : 0 ≤ a) (h2 : a ≤ A) (h3 : 0 ≤ b) (h4 : b ≤ B) : 0 ≤ a * b ∧ a * b ≤ A * B :=
  ⟨Int.mul_nonneg h1 h3, Int.mul_le_mul h2 h4 h3 (Int.le_trans h1 h2)⟩
theorem fdivD_int (a b : Int) (n : Nat) (h1 : 0 < b) (h2 : b < 10 ^ 60) : fdivD (.int a) (.int b) n = some (.int (a / b), n) := by
  have hl : b.natAbs.log2 < 9000 := by
    have h0 : b.natAbs ≠ 0 := by omega
    refine (Nat.log2_lt h0).mpr ?_
    have : b.natAbs < 10 ^ 60 := by omega
    exact Nat.lt_of_lt_of_le this (by decide +kernel)
  show (if fdivOk a b = true then some (D.int (a / b), n) else none) = _
  rw [if_pos (by unfold fdivOk; simp [h1, hl])]
theorem modD_int (a b : Int) (n : Nat) (h1 : 0 < b) : modD (.int a) (.int b) n = some (.int (a % b), n) := by
  show (if decide (0 < b) = true then some (D.int (a % b), n) else none) = _
  rw [if_pos (decide_eq_true h1)]
end
section
theorem ixD_lst (i : Nat) (ds : List D) (k : Nat) (d : D) (n : Nat) (h : ds[k]? = some d) : ixD (.lst i ds) (.int (k : Int)) n = some (d, n) := by
  show (L2.atI ds (k : Int)).map (fun d => (d, n)) = _
  rw [atI_pos, h]; rfl
theorem ixD_0 (i : Nat) (d : D) (ds : List D) (n : Nat) : ixD (.lst i (d :: ds)) (.int 0) n = some (d, n) := ixD_lst i (d :: ds) 0 d n rfl
theorem ixD_1 (i : Nat) (d e : D) (ds : List D) (n : Nat) : ixD (.lst i (d :: e :: ds)) (.int 1) n = some (e, n) := ixD_lst i (d :: e :: ds) 1 e n rfl
theorem ixD_2 (i : Nat) (d e f : D) (ds : List D) (n : Nat) : ixD (.lst i (d :: e :: f :: ds)) (.int 2) n = some (f, n) := ixD_lst i (d :: e :: f :: ds) 2 f n rfl
theorem ixD_3 (i : Nat) (d e f g : D) (ds : List D) (n : Nat) : ixD (.lst i (d :: e :: f :: g :: ds)) (.int 3) n = some (g, n) := ixD_lst i (d :: e :: f :: g :: ds) 3 g n rfl
theorem ixD_li (i : Nat) (xs : List Int) (k : Nat) (x : Int) (n : Nat) (h : xs[k]? = some x) : ixD (.lst i (li xs)) (.int (k : Int)) n = some (.int x, n) := ixD_lst i (li xs) k (.int x) n (by rw [li_get, h]; rfl)
theorem atI_last {α : Type} (xs : List α) (x : α) : L2.atI (xs ++ [x]) (-1) = some x := by
  have e : L2.ixN (xs ++ [x]).length (-1) = some xs.length := by
    unfold L2.ixN
    have h1 : ¬ (0 : Int) ≤ -1 := by omega
    have h2 : -((xs ++ [x]).length : Int) ≤ -1 := by rw [List.length_append, List.length_singleton]; omega
    rw [if_neg h1, if_pos h2, List.length_append, List.length_singleton]
    congr 1
    omega
  unfold L2.atI
  rw [e]
  show (xs ++ [x])[xs.length]? = some x
  simp
theorem ixD_last (i : Nat) (ds : List D) (d : D) (n : Nat) : ixD (.lst i (ds ++ [d])) (.int (-1)) n = some (d, n) := by
  show (L2.atI (ds ++ [d]) (-1)).map (fun d => (d, n)) = _
  rw [atI_last]; rfl
theorem ixN_pos (m k : Nat) (h : k < m) : L2.ixN m (k : Int) = some k := by
  unfold L2.ixN
  have h1 : (0 : Int) ≤ (k : Int) := by omega
  simp [h1, h]
theorem setD_lst (a : Nat) (ds : List D) (k : Nat) (v : D) (h : k < ds.length) (hv : D.has a v = false) : setD (.lst a ds) (.int (k : Int)) v = some (a, .lst a (ds.set k v)) := by
  show (match L2.ixN ds.length (k : Int) with | some j => if D.has a v = false then some (a, D.lst a (ds.set j v)) else none | none => none) = _
  rw [ixN_pos _ _ h]
  simp [hv]
theorem setD_0 (a : Nat) (d : D) (ds : List D) (v : D) (hv : D.has a v = false) : setD (.lst a (d :: ds)) (.int 0) v = some (a, .lst a (v :: ds)) := setD_lst a (d :: ds) 0 v (by simp) hv
theorem setD_2 (a : Nat) (d e f : D) (ds : List D) (v : D) (hv : D.has a v = false) : setD (.lst a (d :: e :: f :: ds)) (.int 2) v = some (a, .lst a (d :: e :: v :: ds)) := setD_lst a (d :: e :: f :: ds) 2 v (by simp) hv
theorem appD_lst (i : Nat) (ds : List D) (d : D) (n : Nat) (h : ds.length < 16777216) (hd : D.has i d = false) : appD (.lst i ds) [d] n = some (.non, n, [(i, .lst i (ds ++ [d]))]) := by
  show (if ds.length < sizeLine ∧ D.has i d = false then some (D.non, n, [(i, D.lst i (ds ++ [d]))]) else none) = _
  rw [if_pos ⟨h, hd⟩]
theorem has_int (j : Nat) (x : Int) : D.has j (.int x) = false := rfl
theorem intD1_int (a : Int) (n : Nat) : intD1 [.int a] n = some (.int a, n) := rfl
theorem bitsD_int (x : Int) (n : Nat) : bitsD (.int x) n = some (.int (Builtin.Int.intBits x : Nat), n) := rfl
end
theorem cmpD_int (g : Int → Int → Bool) (i j : Int) (n : Nat) : cmpD g (.int i) (.int j) n = some (.bl (g i j), n) := rfl
theorem negD_int (i : Int) (n : Nat) : negD (.int i) n = some (.int (-i), n) := rfl
theorem isD_non (n : Nat) : isD .non .non n = some (.bl true, n) := rfl
end Sx
end
section
set_option Elab.async false
set_option linter.all false
set_option maxRecDepth 100000
set_option maxHeartbeats 1000000
/-! Sx.M: the evaluators' rules, part by part (a part is read once it has a value). -/
namespace Sx
open PySem
section
variable {α : Type} (a b c o f it lo hi : EV) (g gk : AV) (ta tb tc : TV) (n n0 n1 n2 i j l cc k m : Nat) (env : Ev) (w w1 w2 : Wr) (d d1 d2 x y z : D) (ds es fs : List D) (s s1 : SS) (body st rest : SV) (fv : FV) (perm own : List Nat)
theorem pre_n (r : R α) : R.pre [] r = r := preNil r
theorem pre_o (q : α) : R.pre w (.ok q n w2) = .ok q n (comp w w2) := rfl
theorem of_s (q : α) : R.of (some (q, n)) = .ok q n [] := rfl
theorem e_var : eVar i n env = (match env[i]? with | some (some d) => .ok d n [] | _ => .bad) := rfl
def var1 : Option (Option D) → Nat → R D
  | some (some d), n => .ok d n []
  | _, _ => .bad
theorem r_var : eVar i n env = var1 env[i]? n := by
  unfold eVar var1
  split <;> rename_i h
  · simp only [h]
  · split
    · rename_i d _ h2; exact absurd h2 (h _)
    · rfl
theorem var1_s : var1 (some (some d)) n = .ok d n [] := rfl
theorem r_c : eC d n env = .ok d n [] := rfl
theorem r_nil : aNil n env = .ok [] n [] := rfl
def cons2 : R (List D) → D → R (List D)
  | .ok ds n2 w2, d => .ok (puts w2 d :: ds) n2 w2
  | .ex c d n w, _ => .ex c d n w
  | .bad, _ => .bad
def cons1 : R D → AV → Ev → R (List D)
  | .ok d n1 w1, g, env => (cons2 (g n1 (putE w1 env)) d).pre w1
  | .ex c d n w, _, _ => .ex c d n w
  | .bad, _, _ => .bad
theorem r_cons : aCons a g n env = cons1 (a n env) g env := by
  unfold aCons cons1
  cases a n env with
  | ok d n1 w1 =>
    show ((g n1 (putE w1 env)).bind _).pre w1 = _
    congr 1
    unfold cons2
    cases g n1 (putE w1 env) with
    | ok ds n2 w2 => show R.ok _ _ (comp w2 []) = _; rw [comp_nil]
    | ex c d n w => rfl
    | bad => rfl
  | ex c d n w => rfl
  | bad => rfl
theorem cons1_o : cons1 (.ok d n1 w1) g env = (cons2 (g n1 (putE w1 env)) d).pre w1 := rfl
theorem cons2_o : cons2 (.ok ds n2 w2) d = .ok (puts w2 d :: ds) n2 w2 := rfl
def lst1 : R (List D) → R D
  | .ok ds n1 w1 => if ds.length ≤ 16777216 then .ok (.lst n1 ds) (n1 + 1) w1 else .bad
  | .ex c d n w => .ex c d n w
  | .bad => .bad
theorem r_lst : eLst g n env = lst1 (g n env) := by
  unfold eLst lst1
  cases g n env with
  | ok ds n1 w1 =>
    show R.pre w1 (if ds.length ≤ sizeLine then R.ok (D.lst n1 ds) (n1 + 1) [] else .bad) = if ds.length ≤ 16777216 then R.ok (D.lst n1 ds) (n1 + 1) w1 else .bad
    rw [szEq]
    by_cases h : ds.length ≤ 16777216
    · rw [if_pos h, if_pos h]; show R.ok _ _ (comp w1 []) = _; rw [comp_nil]
    · rw [if_neg h, if_neg h]; rfl
  | ex c d n w => rfl
  | bad => rfl
theorem lst1_o (h : ds.length ≤ 16777216) : lst1 (.ok ds n1 w1) = .ok (.lst n1 ds) (n1 + 1) w1 := if_pos h
def tup1 : R (List D) → R D
  | .ok ds n1 w1 => if ds.length ≤ 16777216 then .ok (.tup ds) n1 w1 else .bad
  | .ex c d n w => .ex c d n w
  | .bad => .bad
theorem r_tup : eTup g n env = tup1 (g n env) := by
  unfold eTup tup1
  cases g n env with
  | ok ds n1 w1 =>
    show R.pre w1 (if ds.length ≤ sizeLine then R.ok (D.tup ds) n1 [] else .bad) = if ds.length ≤ 16777216 then R.ok (D.tup ds) n1 w1 else .bad
    rw [szEq]
    by_cases h : ds.length ≤ 16777216
    · rw [if_pos h, if_pos h]; show R.ok _ _ (comp w1 []) = _; rw [comp_nil]
    · rw [if_neg h, if_neg h]; rfl
  | ex c d n w => rfl
  | bad => rfl
theorem tup1_o (h : ds.length ≤ 16777216) : tup1 (.ok ds n1 w1) = .ok (.tup ds) n1 w1 := if_pos h
variable (op op2 : D → D → Nat → Option (D × Nat)) (u : D → Nat → Option (D × Nat))
def bin2 : R D → D → (D → D → Nat → Option (D × Nat)) → R D
  | .ok y n2 w2, x, op => (R.of (op (puts w2 x) y n2)).pre w2
  | .ex c d n w, _, _ => .ex c d n w
  | .bad, _, _ => .bad
def bin1 : R D → EV → Ev → (D → D → Nat → Option (D × Nat)) → R D
  | .ok x n1 w1, b, env, op => (bin2 (b n1 (putE w1 env)) x op).pre w1
  | .ex c d n w, _, _, _ => .ex c d n w
  | .bad, _, _, _ => .bad
theorem r_bin : eBin op a b n env = bin1 (a n env) b env op := by
  unfold eBin bin1
  cases a n env with
  | ok d n1 w1 =>
    show ((b n1 (putE w1 env)).bind _).pre w1 = _
    congr 1
    unfold bin2
    cases b n1 (putE w1 env) <;> rfl
  | ex c d n w => rfl
  | bad => rfl
theorem bin1_o : bin1 (.ok x n1 w1) b env op = (bin2 (b n1 (putE w1 env)) x op).pre w1 := rfl
theorem bin2_o : bin2 (.ok y n2 w2) x op = (R.of (op (puts w2 x) y n2)).pre w2 := rfl
def un1 : R D → (D → Nat → Option (D × Nat)) → R D
  | .ok x n1 w1, u => (R.of (u x n1)).pre w1
  | .ex c d n w, _ => .ex c d n w
  | .bad, _ => .bad
theorem r_un : eUn u a n env = un1 (a n env) u := by unfold eUn un1; cases a n env <;> rfl
theorem un1_o : un1 (.ok x n1 w1) u = (R.of (u x n1)).pre w1 := rfl
theorem r_bits : eBits a n env = un1 (a n env) bitsD := by unfold eBits un1; cases a n env <;> rfl
def tof1 : R D → R Bool
  | .ok (.bl b) n1 w1 => .ok b n1 w1
  | .ex c d n w => .ex c d n w
  | _ => .bad
theorem r_tof : tOf a n env = tof1 (a n env) := by
  unfold tOf tof1
  cases a n env with
  | ok d n1 w1 => cases d <;> first | rfl | (show R.ok _ _ (comp w1 []) = _; rw [comp_nil])
  | ex c d n w => rfl
  | bad => rfl
theorem tof1_o (q : Bool) : tof1 (.ok (.bl q) n1 w1) = .ok q n1 w1 := rfl
def and1 : R Bool → TV → Ev → R Bool
  | .ok true n1 w1, b, env => (b n1 (putE w1 env)).pre w1
  | .ok false n1 w1, _, _ => .ok false n1 w1
  | .ex c d n w, _, _ => .ex c d n w
  | .bad, _, _ => .bad
theorem r_and : tAnd ta tb n env = and1 (ta n env) tb env := by
  unfold tAnd and1
  cases ta n env with
  | ok q n1 w1 => cases q <;> first | rfl | (show R.ok _ _ (comp w1 []) = _; rw [comp_nil])
  | ex c d n w => rfl
  | bad => rfl
theorem and1_t : and1 (.ok true n1 w1) tb env = (tb n1 (putE w1 env)).pre w1 := rfl
theorem and1_f : and1 (.ok false n1 w1) tb env = .ok false n1 w1 := rfl
def or1 : R Bool → TV → Ev → R Bool
  | .ok false n1 w1, b, env => (b n1 (putE w1 env)).pre w1
  | .ok true n1 w1, _, _ => .ok true n1 w1
  | .ex c d n w, _, _ => .ex c d n w
  | .bad, _, _ => .bad
theorem r_or : tOr ta tb n env = or1 (ta n env) tb env := by
  unfold tOr or1
  cases ta n env with
  | ok q n1 w1 => cases q <;> first | rfl | (show R.ok _ _ (comp w1 []) = _; rw [comp_nil])
  | ex c d n w => rfl
  | bad => rfl
theorem or1_t : or1 (.ok true n1 w1) tb env = .ok true n1 w1 := rfl
theorem or1_f : or1 (.ok false n1 w1) tb env = (tb n1 (putE w1 env)).pre w1 := rfl
def not1 : R Bool → R Bool
  | .ok q n1 w1 => .ok (!q) n1 w1
  | .ex c d n w => .ex c d n w
  | .bad => .bad
theorem r_not : tNot ta n env = not1 (ta n env) := by
  unfold tNot not1
  cases ta n env with
  | ok q n1 w1 => show R.ok _ _ (comp w1 []) = _; rw [comp_nil]
  | ex c d n w => rfl
  | bad => rfl
theorem not1_o (q : Bool) : not1 (.ok q n1 w1) = .ok (!q) n1 w1 := rfl
def eand1 : R D → EV → Ev → R D
  | .ok (.bl true) n1 w1, b, env => (b n1 (putE w1 env)).pre w1
  | .ok (.bl false) n1 w1, _, _ => .ok (.bl false) n1 w1
  | .ex c d n w, _, _ => .ex c d n w
  | _, _, _ => .bad
theorem r_eand : eAnd a b n env = eand1 (a n env) b env := by
  unfold eAnd eand1
  cases a n env with
  | ok d n1 w1 =>
    cases d with
    | bl q => cases q <;> first | rfl | (show R.ok _ _ (comp w1 []) = _; rw [comp_nil])
    | _ => rfl
  | ex c d n w => rfl
  | bad => rfl
theorem eand1_t : eand1 (.ok (.bl true) n1 w1) b env = (b n1 (putE w1 env)).pre w1 := rfl
theorem eand1_f : eand1 (.ok (.bl false) n1 w1) b env = .ok (.bl false) n1 w1 := rfl
def eor1 : R D → EV → Ev → R D
  | .ok (.bl false) n1 w1, b, env => (b n1 (putE w1 env)).pre w1
  | .ok (.bl true) n1 w1, _, _ => .ok (.bl true) n1 w1
  | .ex c d n w, _, _ => .ex c d n w
  | _, _, _ => .bad
theorem r_eor : eOr a b n env = eor1 (a n env) b env := by
  unfold eOr eor1
  cases a n env with
  | ok d n1 w1 =>
    cases d with
    | bl q => cases q <;> first | rfl | (show R.ok _ _ (comp w1 []) = _; rw [comp_nil])
    | _ => rfl
  | ex c d n w => rfl
  | bad => rfl
theorem eor1_t : eor1 (.ok (.bl true) n1 w1) b env = .ok (.bl true) n1 w1 := rfl
theorem eor1_f : eor1 (.ok (.bl false) n1 w1) b env = (b n1 (putE w1 env)).pre w1 := rfl
def enot1 : R D → R D
  | .ok (.bl q) n1 w1 => .ok (.bl (!q)) n1 w1
  | .ex c d n w => .ex c d n w
  | _ => .bad
theorem r_enot : eNot a n env = enot1 (a n env) := by
  unfold eNot enot1
  cases a n env with
  | ok d n1 w1 => cases d <;> first | rfl | (show R.ok _ _ (comp w1 []) = _; rw [comp_nil])
  | ex c d n w => rfl
  | bad => rfl
theorem enot1_o (q : Bool) : enot1 (.ok (.bl q) n1 w1) = .ok (.bl (!q)) n1 w1 := rfl
def eif1 : R Bool → EV → EV → Ev → R D
  | .ok true n1 w1, a, _, env => (a n1 (putE w1 env)).pre w1
  | .ok false n1 w1, _, b, env => (b n1 (putE w1 env)).pre w1
  | .ex c d n w, _, _, _ => .ex c d n w
  | .bad, _, _, _ => .bad
theorem r_eif : eIf tc a b n env = eif1 (tc n env) a b env := by
  unfold eIf eif1
  cases tc n env with
  | ok q n1 w1 => cases q <;> rfl
  | ex c d n w => rfl
  | bad => rfl
theorem eif1_t : eif1 (.ok true n1 w1) a b env = (a n1 (putE w1 env)).pre w1 := rfl
theorem eif1_f : eif1 (.ok false n1 w1) a b env = (b n1 (putE w1 env)).pre w1 := rfl
def call1 : R (List D) → FV → R D
  | .ok ds n1 w1, f => (f ds n1).pre w1
  | .ex c d n w, _ => .ex c d n w
  | .bad, _ => .bad
theorem r_call : eCall fv g n env = call1 (g n env) fv := by unfold eCall call1; cases g n env <;> rfl
theorem call1_o : call1 (.ok ds n1 w1) fv = (fv ds n1).pre w1 := rfl
theorem r_callD (dd : List D) : eCallD fv dd g n env = call1 (g n env) (fun ds n => fv (ds ++ dd) n) := by unfold eCallD call1; cases g n env <;> rfl
def callK2 : R (List D) → FV → List Nat → List D → R D
  | .ok es n2 w2, f, perm, ds => (f (permL perm (putsL w2 ds ++ es)) n2).pre w2
  | .ex c d n w, _, _, _ => .ex c d n w
  | .bad, _, _, _ => .bad
def callK1 : R (List D) → FV → List Nat → AV → Ev → R D
  | .ok ds n1 w1, f, perm, gk, env => (callK2 (gk n1 (putE w1 env)) f perm ds).pre w1
  | .ex c d n w, _, _, _, _ => .ex c d n w
  | .bad, _, _, _, _ => .bad
theorem r_callK : eCallK fv perm g gk n env = callK1 (g n env) fv perm gk env := by
  unfold eCallK callK1
  cases g n env with
  | ok ds n1 w1 =>
    show R.pre w1 ((gk n1 (putE w1 env)).bind _) = _
    congr 1
    unfold callK2
    cases gk n1 (putE w1 env) <;> rfl
  | ex c d n w => rfl
  | bad => rfl
theorem callK1_o : callK1 (.ok ds n1 w1) fv perm gk env = (callK2 (gk n1 (putE w1 env)) fv perm ds).pre w1 := rfl
theorem callK2_o : callK2 (.ok es n2 w2) fv perm ds = (fv (permL perm (putsL w2 ds ++ es)) n2).pre w2 := rfl
theorem r_make : eMake cc fv g n env = call1 (g n env) (mkD cc fv) := by unfold eMake call1; cases g n env <;> rfl
theorem r_makeP : eMakeP cc fv perm g n env = call1 (g n env) (fun ds n => mkD cc fv (permL perm ds) n) := by unfold eMakeP call1; cases g n env <;> rfl
def mth2 : R (List D) → D → FV → R D
  | .ok ds n2 w2, o, f => (f (puts w2 o :: ds) n2).pre w2
  | .ex c d n w, _, _ => .ex c d n w
  | .bad, _, _ => .bad
def mth1 : R D → Nat → FV → AV → Ev → R D
  | .ok (.ins i c' fs) n1 w1, c, f, g, env => if c' = c then (mth2 (g n1 (putE w1 env)) (.ins i c' fs) f).pre w1 else .bad
  | .ex c d n w, _, _, _, _ => .ex c d n w
  | _, _, _, _, _ => .bad
theorem r_mth : eMth cc fv o g n env = mth1 (o n env) cc fv g env := by
  unfold eMth mth1
  cases o n env with
  | ok d n1 w1 =>
    cases d with
    | ins i c' fs =>
      show R.pre w1 (if c' = cc then _ else _) = (if c' = cc then _ else _)
      by_cases h : c' = cc
      · rw [if_pos h, if_pos h]
        congr 1
        unfold mth2
        cases g n1 (putE w1 env) <;> rfl
      · rw [if_neg h, if_neg h]; rfl
    | _ => rfl
  | ex c d n w => rfl
  | bad => rfl
theorem mth1_o : mth1 (.ok (.ins i cc fs) n1 w1) cc fv g env = (mth2 (g n1 (putE w1 env)) (.ins i cc fs) fv).pre w1 := if_pos rfl
theorem mth2_o : mth2 (.ok ds n2 w2) o' fv = (fv (puts w2 o' :: ds) n2).pre w2 := rfl
theorem r_b (gb : List D → Nat → Option (D × Nat)) : eB gb g n env = call1 (g n env) (fun ds n => R.of (gb ds n)) := by unfold eB call1; cases g n env <;> rfl
def m2 : R (List D) → D → MV → R D
  | .ok ds n2 w2, d, g => (R.ofW (g (puts w2 d) ds n2)).pre w2
  | .ex c d n w, _, _ => .ex c d n w
  | .bad, _, _ => .bad
def m1 : R D → String → MV → AV → Ev → R D
  | .ok d n1 w1, ty, g, ga, env => if tyD ty d = true then (m2 (ga n1 (putE w1 env)) d g).pre w1 else .bad
  | .ex c d n w, _, _, _, _ => .ex c d n w
  | .bad, _, _, _, _ => .bad
theorem r_m (ty : String) (mv : MV) : eM ty mv o g n env = m1 (o n env) ty mv g env := by
  unfold eM m1
  cases o n env with
  | ok d n1 w1 =>
    show R.pre w1 (if tyD ty d = true then _ else _) = (if tyD ty d = true then _ else _)
    by_cases h : tyD ty d = true
    · rw [if_pos h, if_pos h]
      congr 1
      unfold m2
      cases g n1 (putE w1 env) <;> rfl
    · rw [if_neg h, if_neg h]; rfl
  | ex c d n w => rfl
  | bad => rfl
theorem m1_lst (mv : MV) : m1 (.ok (.lst i ds) n1 w1) "list" mv g env = (m2 (g n1 (putE w1 env)) (.lst i ds) mv).pre w1 := by
  show (if tyD "list" (.lst i ds) = true then (m2 (g n1 (putE w1 env)) (.lst i ds) mv).pre w1 else .bad) = _
  exact if_pos (by show ("list" == "list") = true; decide)
theorem m2_o (mv : MV) : m2 (.ok ds n2 w2) d mv = (R.ofW (mv (puts w2 d) ds n2)).pre w2 := rfl
theorem ofW_s : R.ofW (some (d, n, w)) = .ok d n w := rfl
def isi3 : Option Bool → Nat → Wr → R D
  | some b, n, w => .ok (.bl b) n w
  | none, _, _ => .bad
def isi1 : R D → (D → Option Bool) → R D
  | .ok d n1 w1, g => isi3 (g d) n1 w1
  | .ex c d n w, _ => .ex c d n w
  | .bad, _ => .bad
theorem r_isi (gi : D → Option Bool) : eIsi gi a n env = isi1 (a n env) gi := by
  unfold eIsi isi1
  cases a n env with
  | ok d n1 w1 =>
    show R.pre w1 (match gi d with | some b => R.ok (D.bl b) n1 [] | none => R.bad) = isi3 (gi d) n1 w1
    unfold isi3
    cases gi d with
    | some b => show R.ok _ _ (comp w1 []) = _; rw [comp_nil]
    | none => rfl
  | ex c d n w => rfl
  | bad => rfl
theorem isi1_o (gi : D → Option Bool) : isi1 (.ok d n1 w1) gi = isi3 (gi d) n1 w1 := rfl
theorem isi3_s (q : Bool) : isi3 (some q) n1 w1 = .ok (.bl q) n1 w1 := rfl
def fld2 : Option D → Nat → Wr → R D
  | some x, n, w => .ok x n w
  | none, _, _ => .bad
def fld1 : R D → Nat → Nat → R D
  | .ok (.ins _ c' ds) n1 w1, c, j => if c' = c then fld2 ds[j]? n1 w1 else .bad
  | .ex c d n w, _, _ => .ex c d n w
  | _, _, _ => .bad
theorem r_fld : eFld cc j a n env = fld1 (a n env) cc j := by
  unfold eFld fld1
  cases a n env with
  | ok d n1 w1 =>
    cases d with
    | ins i c' ds =>
      show R.pre w1 (if c' = cc then _ else _) = (if c' = cc then _ else _)
      by_cases h : c' = cc
      · rw [if_pos h, if_pos h]
        unfold fld2
        cases ds[j]? with
        | some x => show R.ok _ _ (comp w1 []) = _; rw [comp_nil]
        | none => rfl
      · rw [if_neg h, if_neg h]; rfl
    | _ => rfl
  | ex c d n w => rfl
  | bad => rfl
theorem fld1_o : fld1 (.ok (.ins i cc ds) n1 w1) cc j = fld2 ds[j]? n1 w1 := if_pos rfl
theorem fld2_s : fld2 (some x) n1 w1 = .ok x n1 w1 := rfl
def eqo2 : R D → D → Bool → Nat → FV → R D
  | .ok y n2 w2, x, neg, c, f => (match puts w2 x with
    | .ins i c' fs => if c' = c then ((f [.ins i c' fs, y] n2).bind fun d n3 _ => match d with
      | .bl k => R.ok (D.bl (neg ^^ k)) n3 []
      | _ => .bad) else .bad
    | d => R.of ((if neg = true then neD else eqD) d y n2)).pre w2
  | .ex c d n w, _, _, _, _ => .ex c d n w
  | .bad, _, _, _, _ => .bad
def eqo1 : R D → Bool → Nat → FV → EV → Ev → R D
  | .ok x n1 w1, neg, c, f, b, env => (eqo2 (b n1 (putE w1 env)) x neg c f).pre w1
  | .ex c d n w, _, _, _, _, _ => .ex c d n w
  | .bad, _, _, _, _, _ => .bad
theorem r_eqo (neg : Bool) : eEqO neg cc fv a b n env = eqo1 (a n env) neg cc fv b env := by
  unfold eEqO eqo1
  cases a n env with
  | ok d n1 w1 =>
    show R.pre w1 ((b n1 (putE w1 env)).bind _) = _
    congr 1
    unfold eqo2
    cases b n1 (putE w1 env) <;> rfl
  | ex c d n w => rfl
  | bad => rfl
theorem eqo1_o (neg : Bool) : eqo1 (.ok x n1 w1) neg cc fv b env = (eqo2 (b n1 (putE w1 env)) x neg cc fv).pre w1 := rfl
def eqo3 : R D → Bool → R D
  | .ok (.bl k) n w, neg => .ok (.bl (neg ^^ k)) n w
  | .ex c d n w, _ => .ex c d n w
  | _, _ => .bad
theorem eqo2_o (neg : Bool) : eqo2 (.ok y n2 []) (.ins i cc fs) neg cc fv = eqo3 (fv [.ins i cc fs, y] n2) neg := by
  unfold eqo2 eqo3
  dsimp only
  rw [puts_nil, preNil]
  dsimp only
  rw [if_pos rfl]
  cases fv [.ins i cc fs, y] n2 with
  | ok d n w => cases d <;> first | rfl | (show R.ok _ _ (comp w []) = _; rw [comp_nil])
  | ex c d n w => rfl
  | bad => rfl
theorem eqo3_o (neg q : Bool) : eqo3 (.ok (.bl q) n w) neg = .ok (.bl (neg ^^ q)) n w := rfl
-- slices
def osm1 : R D → R (Option Int)
  | .ok (.int i) n w => .ok (some i) n w
  | .ex c d n w => .ex c d n w
  | _ => .bad
theorem r_osm : oSome a n env = osm1 (a n env) := by
  unfold oSome osm1
  cases a n env with
  | ok d n1 w1 => cases d <;> first | rfl | (show R.ok _ _ (comp w1 []) = _; rw [comp_nil])
  | ex c d n w => rfl
  | bad => rfl
theorem osm1_o (q : Int) : osm1 (.ok (.int q) n w) = .ok (some q) n w := rfl
theorem r_onone : oNone n env = .ok none n [] := rfl
variable (sl : D → Option Int → Option Int → Nat → Option (D × Nat)) (olo ohi : OV) (p q : Option Int)
def sl3 : R (Option Int) → (D → Option Int → Option Int → Nat → Option (D × Nat)) → D → Option Int → R D
  | .ok h n3 w3, g, d, l => (R.of (g (puts w3 d) l h n3)).pre w3
  | .ex c d n w, _, _, _ => .ex c d n w
  | .bad, _, _, _ => .bad
def sl2 : R (Option Int) → (D → Option Int → Option Int → Nat → Option (D × Nat)) → D → OV → Ev → R D
  | .ok l n2 w2, g, d, hi, env => (sl3 (hi n2 (putE w2 env)) g (puts w2 d) l).pre w2
  | .ex c d n w, _, _, _, _ => .ex c d n w
  | .bad, _, _, _, _ => .bad
def sl1 : R D → (D → Option Int → Option Int → Nat → Option (D × Nat)) → OV → OV → Ev → R D
  | .ok d n1 w1, g, lo, hi, env => (sl2 (lo n1 (putE w1 env)) g d hi (putE w1 env)).pre w1
  | .ex c d n w, _, _, _, _ => .ex c d n w
  | .bad, _, _, _, _ => .bad
theorem r_sl : eSl sl a olo ohi n env = sl1 (a n env) sl olo ohi env := by
  unfold eSl sl1
  cases a n env with
  | ok d n1 w1 =>
    show R.pre w1 ((olo n1 (putE w1 env)).bind _) = _
    congr 1
    unfold sl2
    cases olo n1 (putE w1 env) with
    | ok l n2 w2 =>
      show R.pre w2 ((ohi n2 (putE w2 (putE w1 env))).bind _) = _
      congr 1
      unfold sl3
      cases ohi n2 (putE w2 (putE w1 env)) <;> rfl
    | ex c d n w => rfl
    | bad => rfl
  | ex c d n w => rfl
  | bad => rfl
theorem sl1_o : sl1 (.ok d n1 w1) sl olo ohi env = (sl2 (olo n1 (putE w1 env)) sl d ohi (putE w1 env)).pre w1 := rfl
theorem sl2_o : sl2 (.ok p n2 w2) sl d ohi env = (sl3 (ohi n2 (putE w2 env)) sl (puts w2 d) p).pre w2 := rfl
theorem sl3_o : sl3 (.ok q n2 w2) sl d p = (R.of (sl (puts w2 d) p q n2)).pre w2 := rfl
def rev1 : R D → R D
  | .ok (.lst _ ds) n1 w1 => .ok (.lst n1 ds.reverse) (n1 + 1) w1
  | .ex c d n w => .ex c d n w
  | _ => .bad
theorem r_rev : eRevL a n env = rev1 (a n env) := by
  unfold eRevL rev1
  cases a n env with
  | ok d n1 w1 => cases d <;> first | rfl | (show R.ok _ _ (comp w1 []) = _; rw [comp_nil])
  | ex c d n w => rfl
  | bad => rfl
theorem rev1_o : rev1 (.ok (.lst i ds) n1 w1) = .ok (.lst n1 ds.reverse) (n1 + 1) w1 := rfl
-- iterables
def seq1 : R D → R Src
  | .ok (.lst i ds) n1 w1 => .ok (.lst (.lst i ds)) n1 w1
  | .ok (.tup ds) n1 w1 => .ok (.tup (.tup ds)) n1 w1
  | .ex c d n w => .ex c d n w
  | _ => .bad
theorem r_seq : iSeq a n env = seq1 (a n env) := by
  unfold iSeq seq1
  cases a n env with
  | ok d n1 w1 => cases d <;> first | rfl | (show R.ok _ _ (comp w1 []) = _; rw [comp_nil])
  | ex c d n w => rfl
  | bad => rfl
theorem seq1_l : seq1 (.ok (.lst i ds) n1 w1) = .ok (.lst (.lst i ds)) n1 w1 := rfl
theorem seq1_t : seq1 (.ok (.tup ds) n1 w1) = .ok (.tup (.tup ds)) n1 w1 := rfl
def zipK : List D → Nat → Wr → R Src := fun ds n1 _ => match ds with
  | [.lst i xs, .lst j ys] => .ok (.zipL (.lst i xs) (.lst j ys)) n1 []
  | [.tup xs, .tup ys] => .ok (.zipT (.tup xs) (.tup ys)) n1 []
  | _ => .bad
theorem r_zip : iZip g n env = (g n env).bind zipK := rfl
theorem zip1_o : (R.ok [.lst i ds, .lst j es] n1 w1).bind zipK = .ok (.zipL (.lst i ds) (.lst j es)) n1 w1 := rfl
def enumK : List D → Nat → Wr → R Src := fun ds n1 _ => match ds with
  | [.lst i xs] => .ok (.enum (.lst i xs)) n1 []
  | _ => .bad
theorem r_enum : iEnum g n env = (g n env).bind enumK := rfl
theorem enum1_o : (R.ok [.lst i ds] n1 w1).bind enumK = .ok (.enum (.lst i ds)) n1 w1 := rfl
def rngK : List D → Nat → Wr → R Src := fun ds n1 _ => match ds with
  | [.int j] => if -(2 ^ 62) ≤ j ∧ j < 2 ^ 62 then .ok (.rng 0 j.toNat) n1 [] else .bad
  | _ => .bad
theorem r_rng1 : iRange1 g n env = (g n env).bind rngK := rfl
theorem rng1_o (q : Int) (h0 : 0 ≤ q) (h : q ≤ 1000000000) : (R.ok [.int q] n1 w1).bind rngK = .ok (.rng 0 q.toNat) n1 w1 := by
  have e : rngK [.int q] n1 w1 = .ok (.rng 0 q.toNat) n1 [] := by
    unfold rngK
    dsimp only
    rw [if_pos]
    exact ⟨by omega, by omega⟩
  unfold R.bind
  dsimp only
  rw [e]
  rfl
variable (iv : IV) (tg : TgV) (tt : TV) (src : Src) (hid : List Src) (fuel : Nat)
def lc1 : R Src → List Nat → TgV → TV → EV → Ev → R D
  | .ok s n1 w1, own, tg, tt, el, env => (lcGo own tg tt el s.len 0 s [] n1 (putE w1 env)).pre w1
  | .ex c d n w, _, _, _, _, _ => .ex c d n w
  | .bad, _, _, _, _, _ => .bad
theorem r_lc : eLc iv own tg tt a n env = lc1 (iv n env) own tg tt a env := by unfold eLc lc1; cases iv n env <;> rfl
theorem lc1_o : lc1 (.ok src n1 w1) own tg tt a env = (lcGo own tg tt a src.len 0 src [] n1 (putE w1 env)).pre w1 := rfl
-- statements
theorem put_0 : SS.put ⟨n, env, w, hid⟩ n0 n1 [] = ⟨n1, env, w, hid⟩ := rfl
theorem put_c (pp : Nat × D) (r : Wr) : SS.put ⟨n, env, w, hid⟩ n0 n1 (pp :: r) = ⟨n1, putE (pp :: r) env, cutW n0 (comp w (pp :: r)), hid.map (Src.puts (pp :: r))⟩ := rfl
theorem setv_c : SS.setv ⟨n, env, w, hid⟩ i d = ⟨n, env.set i (some d), w, hid⟩ := rfl
def then1 : RS → SV → Nat → RS
  | .nx s, b, n0 => b n0 s
  | r, _, _ => r
theorem r_sseq : sSeq st rest n0 s = then1 (st n0 s) rest n0 := by unfold sSeq then1; cases st n0 s <;> rfl
theorem then1_n : then1 (.nx s) rest n0 = rest n0 s := rfl
theorem then1_r : then1 (.rt d s) rest n0 = .rt d s := rfl
theorem then1_c : then1 (.ct s) rest n0 = .ct s := rfl
theorem then1_b : then1 (.bk s) rest n0 = .bk s := rfl
theorem r_snil : sNil n0 s = .nx s := rfl
theorem r_sretn : sRetN n0 s = .rt .non s := rfl
theorem r_scont : sCont n0 s = .ct s := rfl
theorem r_sbrk : sBreak n0 s = .bk s := rfl
def expr1 : R D → Nat → SS → RS
  | .ok _ n1 w, n0, s => .nx (s.put n0 n1 w)
  | .ex c d n1 w, n0, s => .ex c d (s.put n0 n1 w)
  | .bad, _, _ => .bad
theorem r_sexpr : sExpr a n0 s = expr1 (a s.n s.env) n0 s := by unfold sExpr onE expr1; cases a s.n s.env <;> rfl
theorem expr1_o : expr1 (.ok d n1 w) n0 s = .nx (s.put n0 n1 w) := rfl
def ret1 : R D → Nat → SS → RS
  | .ok d n1 w, n0, s => .rt d (s.put n0 n1 w)
  | .ex c d n1 w, n0, s => .ex c d (s.put n0 n1 w)
  | .bad, _, _ => .bad
theorem r_sret : sRet a n0 s = ret1 (a s.n s.env) n0 s := by unfold sRet onE ret1; cases a s.n s.env <;> rfl
theorem ret1_o : ret1 (.ok d n1 w) n0 s = .rt d (s.put n0 n1 w) := rfl
def set1 : R D → Nat → Nat → SS → RS
  | .ok d n1 w, i, n0, s => .nx ((s.put n0 n1 w).setv i d)
  | .ex c d n1 w, _, n0, s => .ex c d (s.put n0 n1 w)
  | .bad, _, _, _ => .bad
theorem r_sset : sSet i a n0 s = set1 (a s.n s.env) i n0 s := by unfold sSet onE set1; cases a s.n s.env <;> rfl
theorem set1_o : set1 (.ok d n1 w) i n0 s = .nx ((s.put n0 n1 w).setv i d) := rfl
def sif1 : R Bool → SV → SV → Nat → SS → RS
  | .ok true n1 w, a, _, n0, s => a n0 (s.put n0 n1 w)
  | .ok false n1 w, _, b, n0, s => b n0 (s.put n0 n1 w)
  | .ex c d n1 w, _, _, n0, s => .ex c d (s.put n0 n1 w)
  | .bad, _, _, _, _ => .bad
theorem r_sif : sIf tc st rest n0 s = sif1 (tc s.n s.env) st rest n0 s := by
  unfold sIf onE sif1
  cases tc s.n s.env with
  | ok q n1 w => cases q <;> rfl
  | ex c d n w => rfl
  | bad => rfl
theorem sif1_t : sif1 (.ok true n1 w) st rest n0 s = st n0 (s.put n0 n1 w) := rfl
theorem sif1_f : sif1 (.ok false n1 w) st rest n0 s = rest n0 (s.put n0 n1 w) := rfl
def tg1 : Option Ev → SS → RS
  | some env, s => .nx { s with env := env }
  | none, _ => .bad
def stg1 : R D → TgV → Nat → SS → RS
  | .ok d n1 w, tg, n0, s => tg1 (tg d (s.put n0 n1 w).env) (s.put n0 n1 w)
  | .ex c d n1 w, _, n0, s => .ex c d (s.put n0 n1 w)
  | .bad, _, _, _ => .bad
theorem r_stg : sTg tg a n0 s = stg1 (a s.n s.env) tg n0 s := by
  unfold sTg onE stg1
  cases a s.n s.env with
  | ok d n1 w =>
    dsimp only
    unfold tg1
    cases tg d (s.put n0 n1 w).env <;> rfl
  | ex c d n w => rfl
  | bad => rfl
theorem stg1_o : stg1 (.ok d n1 w) tg n0 s = tg1 (tg d (s.put n0 n1 w).env) (s.put n0 n1 w) := rfl
theorem tg1_s : tg1 (some env) s = .nx { s with env := env } := rfl
def par1 : R (List D) → Nat → Nat → Nat → SS → RS
  | .ok [a, b] n1 w, i, j, n0, s => .nx (((s.put n0 n1 w).setv i a).setv j b)
  | .ex c d n1 w, _, _, n0, s => .ex c d (s.put n0 n1 w)
  | _, _, _, _, _ => .bad
theorem r_spar : sPar i j g n0 s = par1 (g s.n s.env) i j n0 s := by
  unfold sPar onE par1
  cases g s.n s.env with
  | ok ds n1 w =>
    cases ds with
    | nil => rfl
    | cons x r => cases r with
      | nil => rfl
      | cons y r => cases r <;> rfl
  | ex c d n w => rfl
  | bad => rfl
theorem par1_o : par1 (.ok [x, y] n1 w) i j n0 s = .nx (((s.put n0 n1 w).setv i x).setv j y) := rfl
def par3 : R (List D) → Nat → Nat → Nat → Nat → SS → RS
  | .ok [a, b, c] n1 w, i, j, l, n0, s => .nx ((((s.put n0 n1 w).setv i a).setv j b).setv l c)
  | .ex c d n1 w, _, _, _, n0, s => .ex c d (s.put n0 n1 w)
  | _, _, _, _, _, _ => .bad
theorem r_spar3 : sPar3 i j l g n0 s = par3 (g s.n s.env) i j l n0 s := by
  unfold sPar3 onE par3
  cases g s.n s.env with
  | ok ds n1 w =>
    cases ds with
    | nil => rfl
    | cons x r => cases r with
      | nil => rfl
      | cons y r => cases r with
        | nil => rfl
        | cons z r => cases r <;> rfl
  | ex c d n w => rfl
  | bad => rfl
theorem par3_o : par3 (.ok [x, y, z] n1 w) i j l n0 s = .nx ((((s.put n0 n1 w).setv i x).setv j y).setv l z) := rfl
def aug2 : Option (D × Nat) → Nat → Nat → SS → RS
  | some (z, n2), i, n0, s => .nx ((s.put n0 n2 []).setv i z)
  | none, _, _, _ => .bad
def aug1 : R D → D → Nat → (D → D → Nat → Option (D × Nat)) → Nat → SS → RS
  | .ok y n1 w, x, i, g, n0, s => aug2 (g (puts w x) y n1) i n0 (s.put n0 n1 w)
  | .ex c d n1 w, _, _, _, n0, s => .ex c d (s.put n0 n1 w)
  | .bad, _, _, _, _, _ => .bad
def aug0 : Option (Option D) → EV → Nat → (D → D → Nat → Option (D × Nat)) → Nat → SS → RS
  | some (some x), f, i, g, n0, s => aug1 (f s.n s.env) x i g n0 s
  | _, _, _, _, _, _ => .bad
theorem r_saug : sAug i op a n0 s = aug0 s.env[i]? a i op n0 s := by
  unfold sAug aug0
  cases s.env[i]? with
  | none => rfl
  | some o => cases o with
    | none => rfl
    | some x =>
      dsimp only
      unfold aug1
      cases a s.n s.env with
      | ok y n1 w =>
        dsimp only
        unfold aug2
        cases op (puts w x) y n1 with
        | none => rfl
        | some q => rfl
      | ex c d n w => rfl
      | bad => rfl
theorem aug0_s : aug0 (some (some x)) a i op n0 s = aug1 (a s.n s.env) x i op n0 s := rfl
theorem aug1_o : aug1 (.ok y n1 w) x i op n0 s = aug2 (op (puts w x) y n1) i n0 (s.put n0 n1 w) := rfl
theorem aug2_s : aug2 (some (z, n2)) i n0 s = .nx ((s.put n0 n2 []).setv i z) := rfl
def sub3 : Option (Nat × D) → Nat → Nat → SS → RS
  | some (a, nw), n2, n0, s => .nx (s.put n0 n2 [(a, nw)])
  | none, _, _, _ => .bad
def sub2 : R D → D → D → Nat → SS → RS
  | .ok id_ n2 w2, od, v, n0, s => sub3 (setD (puts w2 od) id_ (puts w2 v)) n2 n0 (s.put n0 n2 w2)
  | _, _, _, _, _ => .bad
def sub1 : R D → D → EV → Nat → SS → RS
  | .ok od n1 w1, v, i, n0, s => sub2 (i n1 (putE w1 s.env)) od (puts w1 v) n0 (s.put n0 n1 w1)
  | _, _, _, _, _ => .bad
def sub0 : R D → EV → EV → Nat → SS → RS
  | .ok v n1 w, o, i, n0, s => sub1 (o n1 (putE w s.env)) v i n0 (s.put n0 n1 w)
  | .ex c d n1 w, _, _, n0, s => .ex c d (s.put n0 n1 w)
  | .bad, _, _, _, _ => .bad
theorem r_ssub : sSub o b a n0 s = sub0 (a s.n s.env) o b n0 s := by
  unfold sSub onE sub0
  cases a s.n s.env with
  | ok v n1 w =>
    dsimp only
    rw [put_n, put_env]
    unfold sub1
    cases o n1 (putE w s.env) with
    | ok od n2 w1 =>
      dsimp only
      rw [put_env]
      unfold sub2
      cases b n2 (putE w1 (putE w s.env)) with
      | ok id_ n3 w2 =>
        dsimp only
        unfold sub3
        cases setD (puts w2 od) id_ (puts w2 (puts w1 v)) with
        | none => rfl
        | some q => rfl
      | ex c d n w => rfl
      | bad => rfl
    | ex c d n w => rfl
    | bad => rfl
  | ex c d n w => rfl
  | bad => rfl
theorem sub0_o : sub0 (.ok d n1 w) o b n0 s = sub1 (o n1 (putE w s.env)) d b n0 (s.put n0 n1 w) := rfl
theorem sub1_o : sub1 (.ok d1 n1 w1) d b n0 s = sub2 (b n1 (putE w1 s.env)) d1 (puts w1 d) n0 (s.put n0 n1 w1) := rfl
theorem sub2_o : sub2 (.ok d2 n2 w2) d1 d n0 s = sub3 (setD (puts w2 d1) d2 (puts w2 d)) n2 n0 (s.put n0 n2 w2) := rfl
theorem sub3_s : sub3 (some (i, x)) n2 n0 s = .nx (s.put n0 n2 [(i, x)]) := rfl
def sfld1 : R D → D → Nat → Nat → Nat → SS → RS
  | .ok od n1 w1, v, c, j, n0, s => sub3 (setF c j od (puts w1 v)) n1 n0 (s.put n0 n1 w1)
  | _, _, _, _, _, _ => .bad
def sfld0 : R D → EV → Nat → Nat → Nat → SS → RS
  | .ok v n1 w, o, c, j, n0, s => sfld1 (o n1 (putE w s.env)) v c j n0 (s.put n0 n1 w)
  | .ex c d n1 w, _, _, _, n0, s => .ex c d (s.put n0 n1 w)
  | .bad, _, _, _, _, _ => .bad
theorem r_sfld : sFld cc j o a n0 s = sfld0 (a s.n s.env) o cc j n0 s := by
  unfold sFld onE sfld0
  cases a s.n s.env with
  | ok v n1 w =>
    dsimp only
    rw [put_n, put_env]
    unfold sfld1
    cases o n1 (putE w s.env) with
    | ok od n2 w1 =>
      dsimp only
      unfold sub3
      cases setF cc j od (puts w1 v) with
      | none => rfl
      | some q => rfl
    | ex c d n w => rfl
    | bad => rfl
  | ex c d n w => rfl
  | bad => rfl
theorem sfld0_o : sfld0 (.ok d n1 w) o cc j n0 s = sfld1 (o n1 (putE w s.env)) d cc j n0 (s.put n0 n1 w) := rfl
theorem sfld1_o : sfld1 (.ok d1 n1 w1) d cc j n0 s = sub3 (setF cc j d1 (puts w1 d)) n1 n0 (s.put n0 n1 w1) := rfl
def for1 : R Src → TgV → SV → Nat → SS → RS
  | .ok src n1 w, tg, body, n0, s => forGo tg body n0 src.len 0 { s.put n0 n1 w with hid := src :: (s.put n0 n1 w).hid }
  | .ex c d n1 w, _, _, n0, s => .ex c d (s.put n0 n1 w)
  | .bad, _, _, _, _ => .bad
theorem r_sfor : sFor iv tg body n0 s = for1 (iv s.n s.env) tg body n0 s := by unfold sFor onE for1; cases iv s.n s.env <;> rfl
theorem for1_o : for1 (.ok src n1 w) tg body n0 s = forGo tg body n0 src.len 0 { s.put n0 n1 w with hid := src :: (s.put n0 n1 w).hid } := rfl
theorem r_swhile : sWhile fuel tc body n0 s = whileGo tc body n0 fuel s := rfl
def run1 : RS → R D
  | .nx s => .ok .non s.n s.w
  | .rt d s => .ok d s.n s.w
  | .ex c d s => .ex c d s.n s.w
  | _ => .bad
theorem r_run : runF m body ds n = run1 (body n ⟨n, ds.map some ++ List.replicate (m - ds.length) none, [], []⟩) := by unfold runF run1; cases body n ⟨n, ds.map some ++ List.replicate (m - ds.length) none, [], []⟩ <;> rfl
theorem run1_n : run1 (.nx s) = .ok .non s.n s.w := rfl
theorem run1_r : run1 (.rt d s) = .ok d s.n s.w := rfl
end
end Sx
end
section
set_option Elab.async false
set_option linter.all false
set_option maxRecDepth 100000
set_option maxHeartbeats 1000000
/-! Sx.N: purses: one list of four numbers that is written to; nothing else holds it. -/
namespace Sx
open PySem
/-- a purse: what stands in it; N bounds its counter -/
def Pu (p : Nat) (N : Int) (d : D) : Prop := ∃ a b c t : Int, d = .lst p [.int a, .int b, .int c, .int t] ∧ 0 ≤ a ∧ 0 ≤ b ∧ b < 2147483629 ∧ 0 ≤ c ∧ c ≤ N ∧ 0 ≤ t ∧ t ≤ 63
theorem Pu.mono {p : Nat} {N M : Int} {d : D} (h : Pu p N d) (hm : N ≤ M) : Pu p M d := by
  obtain ⟨a, b, c, t, h0, h1, h2, h3, h4, h5, h6⟩ := h
  exact ⟨a, b, c, t, h0, h1, h2, h3, h4, by omega, h6⟩
theorem Pu.lst {p : Nat} {N : Int} {d : D} (h : Pu p N d) : ∃ xs : List Int, d = .lst p (li xs) := by
  obtain ⟨a, b, c, t, h0, _⟩ := h
  exact ⟨[a, b, c, t], h0⟩
/-- the stores of a part that drew: the purse d is d' now -/
def PW (p : Nat) (d : D) (w : Wr) (d' : D) : Prop := (∃ xs, d = .lst p (li xs)) ∧ (∃ xs, d' = .lst p (li xs)) ∧ ((w = [] ∧ d' = d) ∨ w = [(p, d')])
section
variable {p n0 n n1 i c : Nat} {d d1 d2 x : D} {w w1 w2 : Wr} {N : Int} {env : Ev} {hid : List Src} {ds : List D} {xs : List Int}
theorem PW.nil (h : Pu p N d) : PW p d [] d := ⟨h.lst, h.lst, .inl ⟨rfl, rfl⟩⟩
theorem PW.one {d' : D} {M : Int} (h : Pu p N d) (h' : Pu p M d') : PW p d [(p, d')] d' := ⟨h.lst, h'.lst, .inr rfl⟩
theorem PW.puts (h : PW p d w d1) : Sx.puts w d = d1 := by
  obtain ⟨⟨xs, rfl⟩, _, h⟩ := h
  rcases h with ⟨rfl, rfl⟩ | rfl
  · exact puts_nil _
  · rw [Sx.puts, get_one]
theorem PW.trans (h1 : PW p d w1 d1) (h2 : PW p d1 w2 d2) : PW p d (comp w1 w2) d2 := by
  obtain ⟨a1, ⟨xs, e⟩, b1⟩ := h1
  obtain ⟨_, a2, b2⟩ := h2
  refine ⟨a1, a2, ?_⟩
  rcases b2 with ⟨rfl, rfl⟩ | rfl
  · rw [comp_nil]; exact b1
  · rcases b1 with ⟨rfl, rfl⟩ | rfl
    · rw [nil_comp]; exact .inr rfl
    · right
      rw [comp_one, e, Sx.puts, get_one]
theorem PW.get (h : PW p d w d1) (hi : i ≠ p) : Wr.get w i = none := by
  rcases h.2.2 with ⟨rfl, _⟩ | rfl
  · rfl
  · exact get_one_ne _ _ _ hi
mutual
theorem puts_free {w : Wr} {p : Nat} (h : ∀ i, i ≠ p → Wr.get w i = none) : ∀ x : D, D.has p x = false → Sx.puts w x = x
  | .non, _ => rfl
  | .bl _, _ => rfl
  | .int _, _ => rfl
  | .str _, _ => rfl
  | .scr _, _ => rfl
  | .lst i ds, hx => by
    rw [D.has, Bool.or_eq_false_iff] at hx
    rw [Sx.puts, h i (by simpa using hx.1), putsL_free h ds hx.2]
  | .tup ds, hx => by
    rw [D.has] at hx
    rw [Sx.puts, putsL_free h ds hx]
  | .ins i c ds, hx => by
    rw [D.has, Bool.or_eq_false_iff] at hx
    rw [Sx.puts, h i (by simpa using hx.1), putsL_free h ds hx.2]
  | .dic i ks ds, hx => by
    rw [D.has, Bool.or_eq_false_iff] at hx
    rw [Sx.puts, h i (by simpa using hx.1), putsL_free h ds hx.2]
theorem putsL_free {w : Wr} {p : Nat} (h : ∀ i, i ≠ p → Wr.get w i = none) : ∀ ds : List D, hasL p ds = false → putsL w ds = ds
  | [], _ => rfl
  | x :: r, hx => by
    rw [hasL, Bool.or_eq_false_iff] at hx
    rw [putsL, puts_free h x hx.1, putsL_free h r hx.2]
end
theorem PW.free (h : PW p d w d1) (hx : D.has p x = false) : Sx.puts w x = x := puts_free (fun i hi => h.get hi) x hx
theorem PW.freeL (h : PW p d w d1) (hx : hasL p ds = false) : putsL w ds = ds := putsL_free (fun i hi => h.get hi) ds hx
theorem PW.li (h : PW p d w d1) (hi : i ≠ p) : Sx.puts w (.lst i (li xs)) = .lst i (li xs) := puts_li _ _ _ (h.get hi)
theorem PW.cut (h : PW p d w d1) (hp : p < n0) : cutW n0 w = w := by
  rcases h.2.2 with ⟨rfl, _⟩ | rfl
  · rfl
  · exact cutW_lt _ _ _ hp
theorem PW.put (h0 : PW p d w d1) (h : PW p d1 w1 d2) (hp : p < n0) : SS.put ⟨n, env, w, hid⟩ n0 n1 w1 = ⟨n1, env.map fun o => o.map (Sx.puts w1), comp w w1, hid.map (Src.puts w1)⟩ := by
  rcases h.2.2 with ⟨rfl, _⟩ | rfl
  · rw [put_0, comp_nil, hid_nil, ← putE_map, putE_nil]
  · rw [put_c, putE_cons, (h0.trans h).cut hp]
/-- a store at a place of one's own (made since n0) is not told -/
theorem PW.local_ (h : PW p d w d1) (hp : p < n0) (hi : n0 ≤ i) : cutW n0 (comp w [(i, x)]) = w := by
  have hne : i ≠ p := by omega
  obtain ⟨_, ⟨xs, e⟩, b⟩ := h
  rcases b with ⟨rfl, _⟩ | rfl
  · rw [nil_comp, cutW_ge _ _ _ hi]
  · have : comp [(p, d1)] [(i, x)] = [(p, d1), (i, x)] := by
      have e1 : Sx.puts [(i, x)] d1 = d1 := by rw [e]; exact puts_li _ _ _ (get_one_ne _ _ _ (Ne.symm hne))
      simp [comp, e1, Wr.get, hne]
    rw [this]
    simp [cutW, hp, hi]
theorem PW.putL (h : PW p d w d1) (hp : p < n0) (hi : n0 ≤ i) : SS.put ⟨n, env, w, hid⟩ n0 n1 [(i, x)] = ⟨n1, env.map fun o => o.map (Sx.puts [(i, x)]), w, hid.map (Src.puts [(i, x)])⟩ := by
  rw [put_c, putE_cons, h.local_ hp hi]
theorem PW.pu (h : PW p d w d1) (hi : i ≠ p) : Sx.puts [(i, x)] d1 = d1 := by
  obtain ⟨_, ⟨xs, rfl⟩, _⟩ := h
  exact puts_li _ _ _ (get_one_ne _ _ _ (Ne.symm hi))
end
theorem isNone_cut (n0 : Nat) (w : Wr) (i : Nat) (h : i < n0) : (Wr.get (cutW n0 w) i).isNone = (Wr.get w i).isNone := by rw [← cutW_get n0 w i h]
theorem cut_comp (n0 : Nat) (w1 w2 : Wr) : cutW n0 (comp (cutW n0 w1) w2) = cutW n0 (comp w1 w2) := by
  have hc : ∀ w : Wr, cutW n0 w = w.filter fun p => decide (p.1 < n0) := fun w => by cases w <;> rfl
  rw [comp_eq, comp_eq, hc, hc, hc, List.filter_append, List.filter_append]
  congr 1
  · rw [List.filter_map, List.filter_map, List.filter_filter]
    congr 1
    refine List.filter_congr fun x _ => ?_
    simp
  · rw [List.filter_filter, List.filter_filter]
    refine List.filter_congr fun x _ => ?_
    by_cases hx : x.1 < n0
    · have := isNone_cut n0 w1 x.1 hx
      rw [hc] at this
      simp [hx, this]
    · simp [hx]
theorem put_comp (s : SS) (n0 n1 n2 : Nat) (a b : Wr) (h : cutW n0 s.w = s.w) : s.put n0 n2 (comp a b) = (s.put n0 n1 a).put n0 n2 b := by
  have hc : ∀ w : Wr, cutW n0 w = w.filter fun p => decide (p.1 < n0) := fun w => by cases w <;> rfl
  have gen : ∀ (s : SS) (n1 : Nat) (w : Wr), cutW n0 s.w = s.w → s.put n0 n1 w = ⟨n1, s.env.map fun o => o.map (puts w), cutW n0 (comp s.w w), s.hid.map (Src.puts w)⟩ := fun s n1 w h => by
    cases w with
    | nil =>
      rw [putNil, comp_nil, h, hid_nil, ← putE_map, putE_nil]
    | cons p r => show SS.mk _ _ _ _ = _; rw [putE_map]
  have h2 : cutW n0 (s.put n0 n1 a).w = (s.put n0 n1 a).w := by
    rw [gen s n1 a h]
    show cutW n0 (cutW n0 (comp s.w a)) = cutW n0 (comp s.w a)
    rw [hc, hc, List.filter_filter]
    refine List.filter_congr fun x _ => ?_
    simp
  rw [gen _ n2 b h2, gen s n1 a h, gen s n2 _ h]
  show SS.mk _ _ _ _ = SS.mk _ _ _ _
  congr 1
  · dsimp only
    rw [List.map_map]
    refine List.map_congr_left fun o _ => ?_
    cases o with
    | none => rfl
    | some d => show some (puts (comp a b) d) = some (puts b (puts a d)); rw [puts_comp]
  · dsimp only
    rw [cut_comp, comp_assoc]
  · dsimp only
    rw [List.map_map]
    refine List.map_congr_left fun o _ => ?_
    cases o <;> simp [Src.puts, puts_comp]
/-- the same, with the counter of the first part left out -/
theorem put_comp' (s : SS) (n0 n2 : Nat) (a b : Wr) (h : cutW n0 s.w = s.w) : s.put n0 n2 (comp a b) = (s.put n0 n2 a).put n0 n2 b := put_comp s n0 n2 n2 a b h
theorem optmap_nil (o : Option D) : Option.map (puts []) o = o := by
  cases o with
  | none => rfl
  | some d => show some (puts [] d) = _; rw [puts_nil]
theorem len_rng (a : Int) (n : Nat) : (Src.rng a n).len = n := rfl
theorem len_li (i : Nat) (xs : List Int) : (Src.lst (.lst i (li xs))).len = xs.length := li_len xs
theorem len_lst (i : Nat) (xs : List D) : (Src.lst (.lst i xs)).len = xs.length := rfl
theorem len_tup (xs : List D) : (Src.tup (.tup xs)).len = xs.length := rfl
theorem len_zip (i : Nat) (xs : List Int) (d : D) : (Src.zipL (.lst i (li xs)) d).len = xs.length := li_len xs
theorem len_enum (i : Nat) (xs : List Int) : (Src.enum (.lst i (li xs))).len = xs.length := li_len xs
end Sx
end
section
set_option Elab.async false
set_option linter.all false
set_option maxRecDepth 100000
set_option maxHeartbeats 1000000
/-! Sx.O: comprehensions whose elements draw. -/
namespace Sx
open PySem
theorem li_snoc (xs : List Int) (x : Int) : li xs ++ [D.int x] = li (xs ++ [x]) := li_app xs [x]
theorem lc_draws {own : List Nat} {tg : TgV} {el : EV} {src : Src} {p n : Nat} {len : Nat} {N c : Int} {d : D} {rest : Ev} (P : Nat → Int → Prop)
    (hrest : ∀ d1 w d2, PW p d1 w d2 → putE w rest = rest) (hsrc : ∀ d1 w d2, PW p d1 w d2 → src.puts w = src) (hstop : src.at len = some none) (hlen : len ≤ 1000)
    (step : ∀ k dk m, k < len → n ≤ m → Pu p (N + c * k) dk → ∃ x0 env1 x d' w m', src.at k = some (some x0) ∧ tg x0 (wipeE (some dk :: rest) own) = some env1 ∧ P k x ∧ m ≤ m' ∧ el m env1 = .ok (.int x) m' w ∧ PW p dk w d' ∧ Pu p (N + c * (k + 1 : Nat)) d')
    (h : Pu p N d) (hl : src.len = len) : ∃ xs d' w n', n ≤ n' ∧ lcGo own tg tTrue el src.len 0 src [] n (some d :: rest) = .ok (.lst n' (li xs)) (n' + 1) w ∧ PW p d w d' ∧ Pu p (N + c * len) d' ∧ xs.length = len ∧ ∀ (k : Nat) x, xs[k]? = some x → P k x := by
  rw [hl]
  obtain ⟨acc', n', w'', env', e1, xs, dk, e2, e3, e4, e5, e6, e7⟩ := lcGo_inv (own := own) (tg := tg) (el := el) (src := src) (len := len)
    (fun k m w env acc => ∃ xs dk, n ≤ m ∧ env = some dk :: rest ∧ acc = li xs ∧ xs.length = k ∧ PW p d w dk ∧ Pu p (N + c * k) dk ∧ ∀ (j : Nat) x, xs[j]? = some x → P j x) hstop
    (fun k m w env acc hk hI => by
      obtain ⟨xs, dk, hm, rfl, rfl, hx, pw, pu, hP⟩ := hI
      obtain ⟨x0, env1, x, d', w2, m', s1, s2, s3, s4, s5, s6, s7⟩ := step k dk m hk hm pu
      refine ⟨x0, env1, .int x, m', w2, s1, s2, s5, hsrc _ _ _ s6, by rw [li_len, hx]; exact Nat.lt_of_lt_of_le hk (Nat.le_trans hlen (by decide)), xs ++ [x], d', by omega, ?_, ?_, ?_, pw.trans s6, s7, fun j y hj => ?_⟩
      · rw [putE_map, List.map_cons, ← putE_map, hrest _ _ _ s6, Option.map_some, s6.puts]
      · rw [putsL_li, li_snoc]
      · rw [List.length_append, hx, List.length_singleton]
      · rw [List.getElem?_append] at hj
        split at hj
        · exact hP j y hj
        · rename_i hlt
          have : j - xs.length = 0 := by
            rcases Nat.eq_zero_or_pos (j - xs.length) with h | h
            · exact h
            · rw [List.getElem?_eq_none_iff.mpr (by rw [List.length_singleton]; omega)] at hj; cases hj
          rw [this] at hj
          have e : x = y := by simpa using hj
          subst e
          have : j = k := by omega
          subst this
          exact s3)
    len 0 n [] (some d :: rest) [] (by omega) ⟨[], d, Nat.le_refl _, rfl, rfl, rfl, .nil h, by simpa using h, fun j x hj => by simp at hj⟩
  rw [nil_comp] at e6
  obtain ⟨e7, e8⟩ := e7
  subst e4
  exact ⟨xs, dk, w'', n', e2, e1, e6, e7, e5, e8⟩
end Sx
end
section
set_option Elab.async false
set_option linter.all false
set_option maxRecDepth 100000
set_option maxHeartbeats 1000000
/-! Sx.P: loops over lists of whole numbers that keep everything but some slots. -/
namespace Sx
open PySem
theorem lst_at (q : Nat) (xs : List Int) (k : Nat) : (Src.lst (.lst q (li xs))).at k = some ((xs[k]?).map D.int) := by
  show some (li xs)[k]? = _
  rw [li_get]
theorem lst_puts (q : Nat) (xs : List Int) (w : Wr) (h : Wr.get w q = none) : (Src.lst (.lst q (li xs))).puts w = .lst (.lst q (li xs)) := by
  show Src.lst (puts w _) = _
  rw [puts_li _ _ _ h]
/-- a loop over a list of numbers: Z k tells the state ahead of the k-th turn -/
theorem for_li {tg : TgV} {body : SV} {n0 q : Nat} {xs : List Int} {h : List Src} {s0 : SS} (Z : Nat → SS → Prop) (h0 : Z 0 s0) (hs0 : s0.hid = .lst (.lst q (li xs)) :: h)
    (step : ∀ k s x, xs[k]? = some x → s.hid = .lst (.lst q (li xs)) :: h → Z k s → ∃ env s', tg (.int x) s.env = some env ∧ body n0 { s with env := env } = .nx s' ∧ s'.hid = .lst (.lst q (li xs)) :: h ∧ Z (k + 1) s') :
    ∃ s', forGo tg body n0 xs.length 0 s0 = .nx { s' with hid := h } ∧ s'.hid = .lst (.lst q (li xs)) :: h ∧ Z xs.length s' := by
  obtain ⟨s', src, hh, e1, e2, e3, e4⟩ := forGo_inv (tg := tg) (body := body) (n0 := n0) (fun k s => s.hid = .lst (.lst q (li xs)) :: h ∧ Z k s) xs.length
    (fun k s hk hI => by
      obtain ⟨g1, g2⟩ := hI
      obtain ⟨env, s', c1, c2, c3, c4⟩ := step k s xs[k] (List.getElem?_eq_getElem hk) g1 g2
      exact ⟨_, _, .int xs[k], env, s', g1, by rw [lst_at, List.getElem?_eq_getElem hk]; rfl, c1, .inl c2, c3, c4⟩)
    (fun s hI => ⟨_, _, hI.1, by rw [lst_at, List.getElem?_eq_none_iff.mpr (Nat.le_refl _)]; rfl⟩) xs.length 0 s0 (by omega) ⟨hs0, h0⟩
  rw [e2] at e3
  cases e3
  exact ⟨s', e1, e2, e4⟩
theorem take_snoc {α : Type} {xs : List α} {k : Nat} {x : α} (h : xs[k]? = some x) : xs.take (k + 1) = xs.take k ++ [x] := by
  rw [List.take_succ, h]; rfl
/-- all numbers of a list lie between two bounds -/
def Btw (a b : Int) (xs : List Int) : Prop := ∀ x ∈ xs, a ≤ x ∧ x ≤ b
theorem Btw.snoc {a b x : Int} {xs : List Int} (h : Btw a b xs) (h1 : a ≤ x) (h2 : x ≤ b) : Btw a b (xs ++ [x]) := fun y hy => by
  rcases List.mem_append.mp hy with hy | hy
  · exact h y hy
  · rw [List.mem_singleton] at hy; subst hy; exact ⟨h1, h2⟩
theorem Btw.nil {a b : Int} : Btw a b [] := fun x hx => by cases hx
theorem Btw.get {a b x : Int} {xs : List Int} {k : Nat} (h : Btw a b xs) (hk : xs[k]? = some x) : a ≤ x ∧ x ≤ b := h x (List.mem_of_getElem? hk)
theorem Btw.take {a b : Int} {xs : List Int} (h : Btw a b xs) (k : Nat) : Btw a b (xs.take k) := fun x hx => h x (List.mem_of_mem_take hx)
theorem Btw.mono {a b a' b' : Int} {xs : List Int} (h : Btw a b xs) (h1 : a' ≤ a) (h2 : b ≤ b') : Btw a' b' xs := fun x hx => by have := h x hx; omega
/-- a house as the laws hold it: the bases, the rooms -/
def hd (i j k : Nat) (bs rs : List Int) : D := .lst i [.lst j (li bs), .lst k (li rs)]
structure Good (bs rs : List Int) : Prop where
  b : Btw 2 60 bs
  r : Btw 0 60 rs
  l : rs.length = bs.length + 1
  m : bs.length ≤ 7
/-- how many rows -/
def mrows (xs : List Int) : Int := xs.foldl (fun a r => a * (r + 1)) 1
theorem mrows_snoc (xs : List Int) (x : Int) : mrows (xs ++ [x]) = mrows xs * (x + 1) := by simp [mrows, List.foldl_append]
theorem mrows_nil : mrows [] = 1 := rfl
theorem snoc_ind {P : List Int → Prop} (h0 : P []) (h1 : ∀ xs x, P xs → P (xs ++ [x])) : ∀ xs, P xs := fun xs => by
  have : ∀ n (xs : List Int), xs.length = n → P xs := by
    intro n
    induction n with
    | zero => intro xs h; rw [List.length_eq_zero_iff.mp h]; exact h0
    | succ n ih =>
      intro xs h
      have hne : xs ≠ [] := fun e => by rw [e] at h; cases h
      rw [← List.dropLast_concat_getLast hne]
      exact h1 _ _ (ih _ (by rw [List.length_dropLast, h]; rfl))
  exact this _ xs rfl
theorem Btw.left {a b : Int} {xs ys : List Int} (h : Btw a b (xs ++ ys)) : Btw a b xs := fun x hx => h x (List.mem_append_left _ hx)
theorem mrows_bd {xs : List Int} (h : Btw 0 60 xs) : 1 ≤ mrows xs ∧ mrows xs ≤ 61 ^ xs.length := by
  revert h
  refine snoc_ind (P := fun xs => Btw 0 60 xs → 1 ≤ mrows xs ∧ mrows xs ≤ 61 ^ xs.length) (fun _ => ⟨by decide, by decide⟩) (fun xs x ih h => ?_) xs
  obtain ⟨h1, h2⟩ := ih h.left
  obtain ⟨x1, x2⟩ := h x (List.mem_append_right _ (List.mem_singleton_self x))
  rw [mrows_snoc, List.length_append, List.length_singleton]
  refine ⟨?_, ?_⟩
  · have : 1 * 1 ≤ mrows xs * (x + 1) := Int.mul_le_mul h1 (by omega) (by decide) (by omega)
    omega
  · rw [show (61 : Int) ^ (xs.length + 1) = 61 ^ xs.length * 61 from Int.pow_succ ..]
    exact Int.mul_le_mul h2 (by omega) (by omega) (by omega)
theorem pow61 {k : Nat} (h : k ≤ 8) : (61 : Int) ^ k ≤ 10 ^ 15 := by
  match k, h with
  | 0, _ => decide
  | 1, _ => decide
  | 2, _ => decide
  | 3, _ => decide
  | 4, _ => decide
  | 5, _ => decide
  | 6, _ => decide
  | 7, _ => decide
  | 8, _ => decide
  | k + 9, h => omega
theorem mrows_sm {xs : List Int} (h : Btw 0 60 xs) (hl : xs.length ≤ 8) : 1 ≤ mrows xs ∧ mrows xs ≤ 10 ^ 15 := by
  obtain ⟨h1, h2⟩ := mrows_bd h
  exact ⟨h1, Int.le_trans h2 (pow61 hl)⟩
/-- product; the weights of the places -/
def prd (xs : List Int) : Int := xs.foldl (· * ·) 1
def wts2 (xs : List Int) : List Int × Int := xs.foldl (fun p b => (p.1 ++ [p.2 * b], p.2 * b)) ([1], 1)
def wts (xs : List Int) : List Int := (wts2 xs).1
theorem prd_snoc (xs : List Int) (x : Int) : prd (xs ++ [x]) = prd xs * x := by simp [prd, List.foldl_append]
theorem wts2_snd (xs : List Int) : (wts2 xs).2 = prd xs := by
  refine snoc_ind (P := fun xs => (wts2 xs).2 = prd xs) rfl (fun xs x ih => ?_) xs
  rw [prd_snoc, ← ih]
  simp [wts2, List.foldl_append]
theorem wts_snoc (xs : List Int) (x : Int) : wts (xs ++ [x]) = wts xs ++ [prd xs * x] := by
  rw [← wts2_snd]
  simp [wts, wts2, List.foldl_append]
theorem wts_last (xs : List Int) : ∃ l, wts xs = l ++ [prd xs] := by
  refine snoc_ind (P := fun xs => ∃ l, wts xs = l ++ [prd xs]) ⟨[], rfl⟩ (fun xs x _ => ?_) xs
  exact ⟨wts xs, by rw [wts_snoc, prd_snoc]⟩
theorem wts_len (xs : List Int) : (wts xs).length = xs.length + 1 := by
  refine snoc_ind (P := fun xs => (wts xs).length = xs.length + 1) rfl (fun xs x ih => ?_) xs
  rw [wts_snoc, List.length_append, ih, List.length_append]; rfl
theorem prd_bd {xs : List Int} (h : Btw 2 60 xs) : 1 ≤ prd xs ∧ prd xs ≤ 61 ^ xs.length := by
  revert h
  refine snoc_ind (P := fun xs => Btw 2 60 xs → 1 ≤ prd xs ∧ prd xs ≤ 61 ^ xs.length) (fun _ => ⟨by decide, by decide⟩) (fun xs x ih h => ?_) xs
  obtain ⟨h1, h2⟩ := ih h.left
  obtain ⟨x1, x2⟩ := h x (List.mem_append_right _ (List.mem_singleton_self x))
  rw [prd_snoc, List.length_append, List.length_singleton]
  refine ⟨?_, ?_⟩
  · have : 1 * 1 ≤ prd xs * x := Int.mul_le_mul h1 (by omega) (by decide) (by omega)
    omega
  · rw [show (61 : Int) ^ (xs.length + 1) = 61 ^ xs.length * 61 from Int.pow_succ ..]
    exact Int.mul_le_mul h2 (by omega) (by omega) (by omega)
theorem prd_sm {xs : List Int} (h : Btw 2 60 xs) (hl : xs.length ≤ 8) : 1 ≤ prd xs ∧ prd xs ≤ 10 ^ 15 := by
  obtain ⟨h1, h2⟩ := prd_bd h
  exact ⟨h1, Int.le_trans h2 (pow61 hl)⟩
theorem wts_btw {xs : List Int} (h : Btw 2 60 xs) (hl : xs.length ≤ 8) : Btw 1 (10 ^ 15) (wts xs) := by
  revert h hl
  have base : Btw 1 (10 ^ 15) (wts []) := fun x hx => by
    have e : x = 1 := by simpa [wts, wts2] using hx
    subst e
    decide
  refine snoc_ind (P := fun xs => Btw 2 60 xs → xs.length ≤ 8 → Btw 1 (10 ^ 15) (wts xs)) (fun _ _ => base) (fun xs x ih h hl => ?_) xs
  rw [wts_snoc, ← prd_snoc]
  rw [List.length_append, List.length_singleton] at hl
  obtain ⟨q1, q2⟩ := prd_sm h (by rw [List.length_append, List.length_singleton]; exact hl)
  exact (ih h.left (by omega)).snoc q1 q2
theorem ixD_wts (i : Nat) (xs : List Int) (n : Nat) : ixD (.lst i (li (wts xs))) (.int (-1)) n = some (.int (prd xs), n) := by
  obtain ⟨l, hl⟩ := wts_last xs
  rw [hl, ← li_snoc]
  exact ixD_last i (li l) _ n
theorem zip_at (q r : Nat) (xs ys : List Int) (k : Nat) (x y : Int) (hx : xs[k]? = some x) (hy : ys[k]? = some y) : (Src.zipL (.lst q (li xs)) (.lst r (li ys))).at k = some (some (.tup [.int x, .int y])) := by
  show some (match (li xs)[k]?, (li ys)[k]? with | some x, some y => some (D.tup [x, y]) | _, _ => none) = _
  rw [li_get, li_get, hx, hy]; rfl
theorem zip_end (q r : Nat) (xs ys : List Int) : (Src.zipL (.lst q (li xs)) (.lst r (li ys))).at xs.length = some none := by
  show some (match (li xs)[xs.length]?, (li ys)[xs.length]? with | some x, some y => some (D.tup [x, y]) | _, _ => none) = _
  rw [li_get, List.getElem?_eq_none_iff.mpr (Nat.le_refl _)]; rfl
theorem enum_at (q : Nat) (xs : List Int) (k : Nat) (x : Int) (hx : xs[k]? = some x) : (Src.enum (.lst q (li xs))).at k = some (some (.tup [.int (k : Int), .int x])) := by
  show some (match (li xs)[k]? with | some x => some (D.tup [.int (k : Int), x]) | none => none) = _
  rw [li_get, hx]; rfl
theorem enum_end (q : Nat) (xs : List Int) : (Src.enum (.lst q (li xs))).at xs.length = some none := by
  show some (match (li xs)[xs.length]? with | some x => some (D.tup [.int (xs.length : Int), x]) | none => none) = _
  rw [li_get, List.getElem?_eq_none_iff.mpr (Nat.le_refl _)]; rfl
theorem rng_at0 (K k : Nat) (h : k < K) : (Src.rng 0 K).at k = some (some (.int (k : Int))) := by
  show some (if k < K then some (D.int (0 + (k : Int))) else none) = _
  rw [if_pos h, Int.zero_add]
theorem rng_end (K : Nat) : (Src.rng 0 K).at K = some none := by
  show some (if K < K then some (D.int (0 + (K : Int))) else none) = _
  rw [if_neg (Nat.lt_irrefl _)]
/-- a loop over any source that nothing writes to -/
theorem for_src {tg : TgV} {body : SV} {n0 len : Nat} {src : Src} {h : List Src} {s0 : SS} (Z : Nat → SS → Prop) (h0 : Z 0 s0) (hs0 : s0.hid = src :: h) (hend : src.at len = some none)
    (step : ∀ k s, k < len → s.hid = src :: h → Z k s → ∃ d env s', src.at k = some (some d) ∧ tg d s.env = some env ∧ body n0 { s with env := env } = .nx s' ∧ s'.hid = src :: h ∧ Z (k + 1) s') :
    ∃ s', forGo tg body n0 len 0 s0 = .nx { s' with hid := h } ∧ s'.hid = src :: h ∧ Z len s' := by
  obtain ⟨s', src', hh, e1, e2, e3, e4⟩ := forGo_inv (tg := tg) (body := body) (n0 := n0) (fun k s => s.hid = src :: h ∧ Z k s) len
    (fun k s hk hI => by
      obtain ⟨g1, g2⟩ := hI
      obtain ⟨d, env, s', c0, c1, c2, c3, c4⟩ := step k s hk g1 g2
      exact ⟨_, _, d, env, s', g1, c0, c1, .inl c2, c3, c4⟩)
    (fun s hI => ⟨_, _, hI.1, hend⟩) len 0 s0 (by omega) ⟨hs0, h0⟩
  rw [e2] at e3
  cases e3
  exact ⟨s', e1, e2, e4⟩
/-- sums up to each place -/
def sums2 (ps : List Int) : List Int × Int := ps.foldl (fun p x => (p.1 ++ [p.2 + x], p.2 + x)) ([], 0)
def sums (ps : List Int) : List Int := (sums2 ps).1
theorem sum_snoc (ps : List Int) (x : Int) : (ps ++ [x]).sum = ps.sum + x := by simp [List.sum_append]
theorem sums2_snd (xs : List Int) : (sums2 xs).2 = xs.sum := by
  refine snoc_ind (P := fun xs => (sums2 xs).2 = xs.sum) rfl (fun xs x ih => ?_) xs
  rw [sum_snoc, ← ih]
  simp [sums2, List.foldl_append]
theorem sums_snoc (xs : List Int) (x : Int) : sums (xs ++ [x]) = sums xs ++ [xs.sum + x] := by
  rw [← sums2_snd]
  simp [sums, sums2, List.foldl_append]
theorem sums_len (xs : List Int) : (sums xs).length = xs.length := by
  refine snoc_ind (P := fun xs => (sums xs).length = xs.length) rfl (fun xs x ih => ?_) xs
  rw [sums_snoc, List.length_append, ih, List.length_append]; rfl
/-- products place by place -/
def muls (xs ys : List Int) : List Int := List.zipWith (· * ·) xs ys
theorem muls_get {xs ys : List Int} {k : Nat} {x y : Int} (hx : xs[k]? = some x) (hy : ys[k]? = some y) : (muls xs ys)[k]? = some (x * y) := by
  unfold muls
  rw [List.getElem?_zipWith, hx, hy]
theorem muls_len {xs ys : List Int} (h : xs.length ≤ ys.length) : (muls xs ys).length = xs.length := by
  unfold muls
  rw [List.length_zipWith]
  omega
/-- a comprehension over two lists of numbers, place by place -/
theorem lc_zip {own : List Nat} {tg : TgV} {el : EV} (q r : Nat) (xs ys : List Int) (g : Int → Int → D) (n : Nat) (env : Ev) (hl : xs.length ≤ ys.length) (hz : xs.length ≤ 1000)
    (h : ∀ (k : Nat) x y, xs[k]? = some x → ys[k]? = some y → ∃ env1, tg (.tup [.int x, .int y]) (wipeE env own) = some env1 ∧ el n env1 = .ok (g x y) n []) :
    lcGo own tg tTrue el xs.length 0 (.zipL (.lst q (li xs)) (.lst r (li ys))) [] n env = .ok (.lst n (List.zipWith g xs ys)) (n + 1) [] := by
  have hsrc : (Src.zipL (.lst q (li xs)) (.lst r (li ys))).puts [] = .zipL (.lst q (li xs)) (.lst r (li ys)) := by simp [Src.puts, puts_nil]
  have hzl : (List.zipWith g xs ys).length = xs.length := by rw [List.length_zipWith]; omega
  obtain ⟨acc', n', w'', env', e1, e2, e3, e4, e5⟩ := lcGo_inv (own := own) (tg := tg) (el := el) (src := .zipL (.lst q (li xs)) (.lst r (li ys))) (len := xs.length) (fun k m w e acc => m = n ∧ e = env ∧ w = [] ∧ acc = (List.zipWith g xs ys).take k) (zip_end _ _ _ _)
    (fun k m w e acc hk hI => by
      obtain ⟨rfl, rfl, rfl, rfl⟩ := hI
      have hx : xs[k]? = some xs[k] := List.getElem?_eq_getElem hk
      have hy : ys[k]? = some ys[k] := List.getElem?_eq_getElem (by omega)
      obtain ⟨env1, h1, h2⟩ := h k _ _ hx hy
      refine ⟨_, env1, g xs[k] ys[k], m, [], zip_at _ _ _ _ _ _ _ hx hy, h1, h2, hsrc, ?_, rfl, putE_nil _, rfl, ?_⟩
      · rw [List.length_take, hzl]; exact Nat.lt_of_le_of_lt (Nat.min_le_left _ _) (Nat.lt_of_lt_of_le hk (Nat.le_trans hz (by decide)))
      · rw [putsL_nil, List.take_succ, List.getElem?_zipWith, hx, hy]; rfl) xs.length 0 n [] env [] (by omega) ⟨rfl, rfl, rfl, rfl⟩
  rw [nil_comp] at e4
  subst e2 e4 e5
  rw [e1, List.take_of_length_le (by omega)]
theorem muls_D (xs ys : List Int) : List.zipWith (fun x y => D.int (x * y)) xs ys = li (muls xs ys) := by
  unfold li muls
  rw [List.map_zipWith]
theorem sumD_li (i : Nat) (xs : List Int) (n : Nat) : sumD [.lst i (li xs)] n = some (.int xs.sum, n) := by
  show (match asInts (li xs) with | some ns => Option.map (fun d => (d, n)) (some (D.int ns.sum)) | none => none) = _
  rw [asInts_li]; rfl
theorem zip_true (g : Int → Int → D) : ∀ (xs ys : List Int), (∀ (k : Nat) x y, xs[k]? = some x → ys[k]? = some y → g x y = .bl true) → xs.length ≤ ys.length → List.zipWith g xs ys = List.replicate xs.length (.bl true)
  | [], _, _, _ => by simp
  | x :: xs, [], _, h => by simp at h
  | x :: xs, y :: ys, h, hl => by
    rw [List.zipWith_cons_cons, List.length_cons, List.replicate_succ, h 0 x y rfl rfl, zip_true g xs ys (fun k a b h1 h2 => h (k + 1) a b (by simpa using h1) (by simpa using h2)) (by simpa using hl)]
end Sx
end
section
set_option Elab.async false
set_option linter.all false
set_option maxRecDepth 100000
set_option maxHeartbeats 1000000
/-! Sx.Q: rows and their numbers (mixed radix). -/
namespace Sx
/-- a row of the house: as many numbers as rooms, each at most its room -/
structure RowOf (rs row : List Int) : Prop where
  l : row.length = rs.length
  b : ∀ (k : Nat) x y, row[k]? = some x → rs[k]? = some y → 0 ≤ x ∧ x ≤ y
theorem RowOf.nn {rs row : List Int} (h : RowOf rs row) : ∀ x ∈ row, 0 ≤ x := fun x hx => by
  obtain ⟨k, hk⟩ := List.mem_iff_getElem?.mp hx
  have hlt : k < rs.length := by rw [← h.l]; exact (List.getElem?_eq_some_iff.mp hk).1
  exact (h.b k x _ hk (List.getElem?_eq_getElem hlt)).1
theorem RowOf.btw {rs row : List Int} (h : RowOf rs row) (hr : Btw 0 60 rs) : Btw 0 60 row := fun x hx => by
  obtain ⟨k, hk⟩ := List.mem_iff_getElem?.mp hx
  have hlt : k < rs.length := by rw [← h.l]; exact (List.getElem?_eq_some_iff.mp hk).1
  have h1 := h.b k x _ hk (List.getElem?_eq_getElem hlt)
  have h2 := hr.get (List.getElem?_eq_getElem hlt)
  omega
theorem RowOf.nil : RowOf [] [] := ⟨rfl, fun k x y h => by simp at h⟩
theorem RowOf.snoc {rs row : List Int} {r x : Int} (h : RowOf rs row) (h0 : 0 ≤ x) (h1 : x ≤ r) : RowOf (rs ++ [r]) (row ++ [x]) := by
  refine ⟨by rw [List.length_append, List.length_append, h.l]; rfl, fun k a b ha hb => ?_⟩
  by_cases hk : k < row.length
  · rw [List.getElem?_append_left hk] at ha
    rw [List.getElem?_append_left (by rw [← h.l]; exact hk)] at hb
    exact h.b k a b ha hb
  · have hk2 : k = row.length := by
      have := (List.getElem?_eq_some_iff.mp ha).1
      rw [List.length_append, List.length_singleton] at this
      omega
    subst hk2
    rw [List.getElem?_append_right (Nat.le_refl _), Nat.sub_self] at ha
    rw [h.l, List.getElem?_append_right (Nat.le_refl _), Nat.sub_self] at hb
    have e1 : x = a := by simpa using ha
    have e2 : r = b := by simpa using hb
    subst e1; subst e2
    exact ⟨h0, h1⟩
theorem RowOf.unsnoc {rs row : List Int} {r : Int} (h : RowOf (rs ++ [r]) row) : ∃ row' x, row = row' ++ [x] ∧ RowOf rs row' ∧ 0 ≤ x ∧ x ≤ r := by
  have hl := h.l
  rw [List.length_append, List.length_singleton] at hl
  have hne : row ≠ [] := fun e => by rw [e] at hl; simp at hl
  refine ⟨row.dropLast, row.getLast hne, (List.dropLast_concat_getLast hne).symm, ⟨by rw [List.length_dropLast]; omega, fun k a b ha hb => ?_⟩, ?_⟩
  · have hk : k < rs.length := (List.getElem?_eq_some_iff.mp hb).1
    have ha' : row[k]? = some a := by
      rw [List.getElem?_dropLast] at ha
      split at ha
      · exact ha
      · cases ha
    exact h.b k a b ha' (by rw [List.getElem?_append_left hk]; exact hb)
  · have hx : row[rs.length]? = some (row.getLast hne) := by
      rw [List.getLast_eq_getElem, List.getElem?_eq_getElem (by omega)]
      congr 1
      congr 1
      omega
    exact h.b rs.length _ r hx (by rw [List.getElem?_append_right (Nat.le_refl _), Nat.sub_self]; rfl)
/-- the number of a row -/
def num (ps : List (Int × Int)) : Int := ps.foldl (fun f p => f * (p.2 + 1) + p.1) 0
theorem num_snoc (ps : List (Int × Int)) (x r : Int) : num (ps ++ [(x, r)]) = num ps * (r + 1) + x := by simp [num, List.foldl_append]
theorem zip_snoc {row rs : List Int} (h : row.length = rs.length) (x r : Int) : (row ++ [x]).zip (rs ++ [r]) = row.zip rs ++ [(x, r)] := by rw [List.zip_append h]; rfl
theorem num_bd {rs row : List Int} (hr : Btw 0 60 rs) (h : RowOf rs row) : 0 ≤ num (row.zip rs) ∧ num (row.zip rs) < mrows rs := by
  revert row hr
  refine snoc_ind (P := fun rs => ∀ {row : List Int}, Btw 0 60 rs → RowOf rs row → 0 ≤ num (row.zip rs) ∧ num (row.zip rs) < mrows rs) (fun {row} _ h => ?_) (fun rs r ih {row} hr h => ?_) rs
  · have : row = [] := List.length_eq_zero_iff.mp h.l
    subst this
    exact ⟨by decide, by decide⟩
  · obtain ⟨row', x, rfl, h', h0, h1⟩ := h.unsnoc
    obtain ⟨i1, i2⟩ := ih hr.left h'
    obtain ⟨r0, _⟩ := hr r (List.mem_append_right _ (List.mem_singleton_self r))
    rw [zip_snoc h'.l, num_snoc, mrows_snoc]
    have e1 : 0 ≤ num (row'.zip rs) * (r + 1) := Int.mul_nonneg i1 (by omega)
    have e2 : (num (row'.zip rs) + 1) * (r + 1) ≤ mrows rs * (r + 1) := Int.mul_le_mul_of_nonneg_right (by omega) (by omega)
    rw [Int.add_mul] at e2
    exact ⟨by omega, by omega⟩
/-- the row at a number; the rooms from the last one on -/
def rowAtR : List Int → Int → List Int
  | [], _ => []
  | r :: t, N => rowAtR t (N / (r + 1)) ++ [N % (r + 1)]
def rowAt (rs : List Int) (N : Int) : List Int := rowAtR rs.reverse N
theorem rowAt_snoc (rs : List Int) (r N : Int) : rowAt (rs ++ [r]) N = rowAt rs (N / (r + 1)) ++ [N % (r + 1)] := by
  unfold rowAt
  rw [List.reverse_append]
  rfl
theorem rowAt_row (rs : List Int) : Btw 0 60 rs → ∀ N, RowOf rs (rowAt rs N) := by
  refine snoc_ind (P := fun rs => Btw 0 60 rs → ∀ N, RowOf rs (rowAt rs N)) (fun _ N => .nil) (fun rs r ih hr N => ?_) rs
  obtain ⟨r0, _⟩ := hr r (List.mem_append_right _ (List.mem_singleton_self r))
  rw [rowAt_snoc]
  have h1 := Int.emod_lt_of_pos N (show 0 < r + 1 by omega)
  exact (ih hr.left _).snoc (Int.emod_nonneg _ (by omega)) (by omega)
theorem num_rowAt (rs : List Int) : Btw 0 60 rs → ∀ N, 0 ≤ N → N < mrows rs → num ((rowAt rs N).zip rs) = N := by
  refine snoc_ind (P := fun rs => Btw 0 60 rs → ∀ N, 0 ≤ N → N < mrows rs → num ((rowAt rs N).zip rs) = N) (fun _ N h0 h1 => ?_) (fun rs r ih hr N h0 h1 => ?_) rs
  · rw [mrows_nil] at h1
    show 0 = N
    omega
  · obtain ⟨r0, _⟩ := hr r (List.mem_append_right _ (List.mem_singleton_self r))
    rw [mrows_snoc] at h1
    rw [rowAt_snoc, zip_snoc (rowAt_row rs hr.left _).l, num_snoc, ih hr.left _ (Int.ediv_nonneg h0 (by omega)) (Int.ediv_lt_of_lt_mul (by omega) h1)]
    have := Int.mul_ediv_add_emod N (r + 1)
    rw [Int.mul_comm] at this
    exact this
theorem rowAt_num (rs : List Int) : ∀ row, Btw 0 60 rs → RowOf rs row → rowAt rs (num (row.zip rs)) = row := by
  refine snoc_ind (P := fun rs => ∀ row, Btw 0 60 rs → RowOf rs row → rowAt rs (num (row.zip rs)) = row) (fun row _ h => ?_) (fun rs r ih row hr h => ?_) rs
  · have : row = [] := List.length_eq_zero_iff.mp h.l
    subst this
    rfl
  · obtain ⟨row', x, rfl, h', h0, h1⟩ := h.unsnoc
    obtain ⟨r0, _⟩ := hr r (List.mem_append_right _ (List.mem_singleton_self r))
    have e1 : (num (row'.zip rs) * (r + 1) + x) / (r + 1) = num (row'.zip rs) := by
      rw [Int.add_comm, Int.add_mul_ediv_right _ _ (by omega), Int.ediv_eq_zero_of_lt h0 (by omega), Int.zero_add]
    have e2 : (num (row'.zip rs) * (r + 1) + x) % (r + 1) = x := by
      rw [Int.add_comm, Int.add_mul_emod_self_right, Int.emod_eq_of_lt h0 (by omega)]
    rw [zip_snoc h'.l, num_snoc, rowAt_snoc, e1, e2, ih row' hr.left h']
end Sx
end
section
set_option Elab.async false
set_option linter.all false
set_option maxRecDepth 100000
set_option maxHeartbeats 1000000
/-! Sx.S: the script, the purses made of it, the loop over them. -/
namespace Sx
open PySem PySem.Spec PyProof.Rows L2
def cutI (ns : List Int) (lo hi : Option Int) : List Int := (ns.drop (HT.sIx ns.length 0 lo)).take (HT.sIx ns.length ns.length hi - HT.sIx ns.length 0 lo)
theorem slD_scr (ns : List Int) (lo hi : Option Int) (n : Nat) : slD (.scr ns) lo hi n = some (.lst n (li (cutI ns lo hi)), n + 1) := rfl
theorem powD_c {i j : Int} (h : powOk i j = true) (n : Nat) : powD (.int i) (.int j) n = some (.int (i ^ j.toNat), n) := by
  show (if powOk i j = true then some (D.int (i ^ j.toNat), n) else none) = _
  rw [if_pos h]
theorem maxD_2 (i j : Int) (n : Nat) : maxD [.int i, .int j] n = some (.int (max i j), n) := rfl
theorem minD_2 (i j : Int) (n : Nat) : minD [.int i, .int j] n = some (.int (min i j), n) := rfl
theorem lenD_scr (ns : List Int) (n : Nat) : lenD [.scr ns] n = some (.int ns.length, n) := rfl
theorem puts_scr (w : Wr) (ns : List Int) : Sx.puts w (.scr ns) = .scr ns := rfl
theorem pow_ABC : ∃ A B C : Int, 0 < C ∧ (∀ n, powD (.int 10) (.int 18) n = some (.int A, n)) ∧ (∀ n, powD (.int 10) (.int 60) n = some (.int B, n)) ∧ ∀ n, powD (.int B) (.int 8) n = some (.int C, n) :=
  ⟨(10 : Int) ^ (18 : Int).toNat, (10 : Int) ^ (60 : Int).toNat, ((10 : Int) ^ (60 : Int).toNat) ^ (8 : Int).toNat, by decide +kernel, fun n => powD_c (by decide +kernel) n, fun n => powD_c (by decide +kernel) n, fun n => powD_c (by decide +kernel) n⟩
theorem Src.puts_comp (a b : Wr) : ∀ s : Src, (s.puts a).puts b = s.puts (comp a b)
  | .lst d => by rw [Src.puts, Src.puts, Src.puts, Sx.puts_comp]
  | .tup d => by rw [Src.puts, Src.puts, Src.puts, Sx.puts_comp]
  | .rng lo n => rfl
  | .zipL d e => by rw [Src.puts, Src.puts, Src.puts, Sx.puts_comp, Sx.puts_comp]
  | .zipT d e => by rw [Src.puts, Src.puts, Src.puts, Sx.puts_comp, Sx.puts_comp]
  | .enum d => by rw [Src.puts, Src.puts, Src.puts, Sx.puts_comp]
theorem hid_comp (a b : Wr) (hid : List Src) : (hid.map (Src.puts a)).map (Src.puts b) = hid.map (Src.puts (comp a b)) := by
  rw [List.map_map]
  exact List.map_congr_left fun s _ => Src.puts_comp a b s
section
variable {p n n1 lo hi : Nat} {d d1 d2 x : D} {w w1 w2 : Wr} {N : Int} {env : Ev} {hid : List Src} {ds : List D}
theorem PW.put0 (h : PW p d w d1) : SS.put ⟨n, env, [], hid⟩ 0 n1 w = ⟨n1, env.map fun o => o.map (Sx.puts w), [], hid.map (Src.puts w)⟩ := by
  rcases h.2.2 with ⟨rfl, _⟩ | rfl
  · rw [put_0, hid_nil, ← putE_map, putE_nil]
  · rw [put_c, putE_cons, nil_comp, cutW_ge _ _ _ (Nat.zero_le _)]
/-- purses at places of their own -/
structure Ps (lo hi : Nat) (ds : List D) : Prop where
  at_ : ∀ d ∈ ds, ∃ p, lo ≤ p ∧ p < hi ∧ Pu p 0 d
  nd : ds.Pairwise fun d e => ∀ p q N M, Pu p N d → Pu q M e → p ≠ q
theorem Pu.id_eq {p q : Nat} {N M : Int} {d : D} (h : Pu p N d) (h' : Pu q M d) : p = q := by
  obtain ⟨_, _, _, _, rfl, _⟩ := h
  obtain ⟨_, _, _, _, e, _⟩ := h'
  injection e
theorem Ps.nil : Ps lo hi [] := ⟨fun _ h => (List.not_mem_nil h).elim, .nil⟩
theorem Ps.snoc {hi' : Nat} (h : Ps lo hi ds) (hl : lo ≤ p) (h1 : hi ≤ p) (h2 : p < hi') (hp : Pu p 0 d) : Ps lo hi' (ds ++ [d]) := by
  refine ⟨fun e he => ?_, List.pairwise_append.mpr ⟨h.nd, List.pairwise_singleton _ _, fun a ha b hb => ?_⟩⟩
  · rcases List.mem_append.mp he with he | he
    · obtain ⟨q, a1, a2, a3⟩ := h.at_ e he
      exact ⟨q, a1, by omega, a3⟩
    · rw [List.mem_singleton] at he
      subst he
      exact ⟨p, hl, h2, hp⟩
  · rw [List.mem_singleton] at hb
    subst hb
    obtain ⟨q, a1, a2, a3⟩ := h.at_ a ha
    intro p' q' N' M' g1 g2
    have e1 := g1.id_eq a3
    have e2 := g2.id_eq hp
    omega
theorem Pu.has {q : Nat} (h : Pu p N d) (hq : p ≠ q) : D.has q d = false := by
  obtain ⟨xs, rfl⟩ := h.lst
  rw [D.has, hasL_li]
  simp [hq]
/-- the loop of a law over its purses (all stores are at places of its own) -/
theorem for_purses {tg : TgV} {body : SV} {L : Nat} (hP : Ps lo hi ds) (hL : hi ≤ L) (Z : Nat → Ev → Prop) (h0 : Z n env)
    (step : ∀ n env p d hid, Z n env → p < L → Pu p 0 d → ∃ env1 n' env' w d', tg d env = some env1 ∧ body 0 ⟨n, env1, [], hid⟩ = .nx ⟨n', env', [], hid.map (Src.puts w)⟩ ∧ PW p d w d' ∧ Z n' env') :
    ∃ n' env', forGo tg body 0 ds.length 0 ⟨n, env, [], [.lst (.lst L ds)]⟩ = .nx ⟨n', env', [], []⟩ ∧ Z n' env' := by
  obtain ⟨s', src, h, e1, e2, n', env', ds', e3, e4, _⟩ := forGo_inv (tg := tg) (body := body) (n0 := 0)
    (fun k s => ∃ n env ds', s = ⟨n, env, [], [.lst (.lst L ds')]⟩ ∧ Z n env ∧ ds'.length = ds.length ∧ ∀ j, k ≤ j → ds'[j]? = ds[j]?) ds.length
    (fun k s hk hI => by
      obtain ⟨n, env, ds', rfl, hz, hl, he⟩ := hI
      have hx : ds[k]? = some ds[k] := List.getElem?_eq_getElem hk
      obtain ⟨p, p1, p2, pu⟩ := hP.at_ ds[k] (List.getElem_mem hk)
      obtain ⟨env1, n', env', w, d', g1, g2, g3, g4⟩ := step n env p ds[k] [.lst (.lst L ds')] hz (by omega) pu
      have hw : Wr.get w L = none := g3.get (by omega)
      have e5 : [Src.lst (.lst L ds')].map (Src.puts w) = [.lst (.lst L (putsL w ds'))] := by
        show [Src.lst (Sx.puts w (.lst L ds'))] = _
        rw [Sx.puts, hw]
      rw [e5] at g2
      refine ⟨_, _, ds[k], env1, _, rfl, ?_, g1, .inl g2, n', env', putsL w ds', rfl, g4, by rw [putsL_map, List.length_map, hl], fun j hj => ?_⟩
      · show some ds'[k]? = _
        rw [he k (Nat.le_refl _), hx]
      · rw [putsL_map, List.getElem?_map, he j (by omega)]
        cases hy : ds[j]? with
        | none => rfl
        | some y =>
          show some (Sx.puts w y) = some y
          have hjl : j < ds.length := (List.getElem?_eq_some_iff.mp hy).1
          have hy' : ds[j] = y := (List.getElem?_eq_some_iff.mp hy).2
          obtain ⟨q, q1, q2, qu⟩ := hP.at_ y (hy' ▸ List.getElem_mem hjl)
          have hne := List.pairwise_iff_getElem.mp hP.nd k j hk hjl (by omega) p q 0 0 pu (hy' ▸ qu)
          rw [g3.free (qu.has (Ne.symm hne))])
    (fun s hI => by
      obtain ⟨n, env, ds', rfl, hz, hl, he⟩ := hI
      exact ⟨_, _, rfl, by show some ds'[ds.length]? = _; rw [List.getElem?_eq_none_iff.mpr (by omega)]⟩)
    ds.length 0 ⟨n, env, [], [.lst (.lst L ds)]⟩ (by omega) ⟨n, env, ds, rfl, h0, rfl, fun _ _ => rfl⟩
  subst e3
  injection e2 with e5 e6
  subst e6
  exact ⟨n', env', e1, e4⟩
end
end Sx
end
section
set_option Elab.async false
set_option linter.all false
set_option maxRecDepth 100000
set_option maxHeartbeats 1000000
/-! Sx.U: more rules for reckoning: starred items, range(a, b), zip to one name, min and max of a pair. -/
namespace Sx
open PySem PySem.Spec PyProof.Rows L2
section
variable {a f : EV} {g : AV} {env : Ev} {n n1 n2 : Nat} {w1 w2 : Wr} {d : D} {ds es xs : List D} {i j : Nat}
def star2 : R (List D) → List D → R (List D)
  | .ok ds n2 w2, xs => .ok (putsL w2 xs ++ ds) n2 w2
  | .ex c d n w, _ => .ex c d n w
  | .bad, _ => .bad
def starK (g : AV) (n1 : Nat) (env : Ev) : Option (List D) → R (List D)
  | some xs => star2 (g n1 env) xs
  | none => .bad
def star1 : R D → AV → Ev → R (List D)
  | .ok d n1 w1, g, env => (starK g n1 (putE w1 env) (seqD d)).pre w1
  | .ex c d n w, _, _ => .ex c d n w
  | .bad, _, _ => .bad
theorem r_star : aStar a g n env = star1 (a n env) g env := by
  unfold aStar star1
  cases a n env with
  | ok d n1 w1 =>
    show (R.pre w1 (match seqD d with | some xs => (g n1 (putE w1 env)).bind fun ds n2 w2 => R.ok (putsL w2 xs ++ ds) n2 [] | none => R.bad)) = R.pre w1 (starK g n1 (putE w1 env) (seqD d))
    congr 1
    cases seqD d with
    | none => rfl
    | some xs =>
      unfold starK star2
      dsimp only
      cases g n1 (putE w1 env) with
      | ok ds n2 w2 => show R.ok _ _ (comp w2 []) = _; rw [comp_nil]
      | ex c d n w => rfl
      | bad => rfl
  | ex c d n w => rfl
  | bad => rfl
theorem star1_l : star1 (.ok (.lst i xs) n1 w1) g env = (star2 (g n1 (putE w1 env)) xs).pre w1 := rfl
theorem star1_t : star1 (.ok (.tup xs) n1 w1) g env = (star2 (g n1 (putE w1 env)) xs).pre w1 := rfl
theorem star2_o : star2 (.ok ds n2 w2) xs = .ok (putsL w2 xs ++ ds) n2 w2 := rfl
def rng2K : List D → Nat → Wr → R Src := fun ds n1 _ => match ds with
  | [.int i, .int j] => if -(2 ^ 62) ≤ i ∧ i < 2 ^ 62 ∧ -(2 ^ 62) ≤ j ∧ j < 2 ^ 62 then .ok (.rng i (j - i).toNat) n1 [] else .bad
  | _ => .bad
theorem r_rng2 : iRange2 g n env = (g n env).bind rng2K := rfl
theorem rng2_o (p q : Int) (h0 : 0 ≤ p) (h : p ≤ 1000000000) (h2 : 0 ≤ q) (h3 : q ≤ 1000000000) : (R.ok [.int p, .int q] n1 w1).bind rng2K = .ok (.rng p (q - p).toNat) n1 w1 := by
  have e : rng2K [.int p, .int q] n1 w1 = .ok (.rng p (q - p).toNat) n1 [] := by
    unfold rng2K
    dsimp only
    rw [if_pos]
    exact ⟨by omega, by omega, by omega, by omega⟩
  unfold R.bind
  dsimp only
  rw [e]
  rfl
def zipNK : List D → Nat → Wr → R Src := fun ds n1 _ => match ds with
  | [.lst i xs, .lst j ys] => .ok (.zipL (.lst i xs) (.lst j ys)) n1 []
  | _ => .bad
theorem r_zipN : iZipN g n env = (g n env).bind zipNK := rfl
theorem zipN1_o : (R.ok [.lst i ds, .lst j es] n1 w1).bind zipNK = .ok (.zipL (.lst i ds) (.lst j es)) n1 w1 := rfl
theorem minD_pair (x y : Int) (n : Nat) : minD [.tup [.int x, .int y]] n = some (.int (min x y), n) := rfl
theorem maxD_pair (x y : Int) (n : Nat) : maxD [.tup [.int x, .int y]] n = some (.int (max x y), n) := rfl
end
theorem tgT_2 (i j : Nat) (x y : D) (env : Ev) : tgT [tgN i, tgN j] (.tup [x, y]) env = some ((env.set i (some x)).set j (some y)) := rfl
theorem tgT_3 (i j k : Nat) (x y z : D) (env : Ev) : tgT [tgN i, tgN j, tgN k] (.tup [x, y, z]) env = some (((env.set i (some x)).set j (some y)).set k (some z)) := rfl
theorem li_zipWith (g : Int → Int → Int) : ∀ xs ys : List Int, List.zipWith (fun x y => D.int (g x y)) xs ys = li (List.zipWith g xs ys)
  | [], _ => rfl
  | _ :: _, [] => rfl
  | x :: xs, y :: ys => by
    rw [List.zipWith_cons_cons, List.zipWith_cons_cons, li_zipWith g xs ys]; rfl
theorem bl_zipWith (g : Int → Int → Bool) : ∀ xs ys : List Int, List.zipWith (fun x y => D.bl (g x y)) xs ys = (List.zipWith g xs ys).map D.bl
  | [], _ => rfl
  | _ :: _, [] => rfl
  | x :: xs, y :: ys => by
    rw [List.zipWith_cons_cons, List.zipWith_cons_cons, bl_zipWith g xs ys]; rfl
theorem allD_bls (i n : Nat) (bs : List Bool) : allD [.lst i (bs.map .bl)] n = some (.bl (bs.all id), n) := by
  show (match asBls (bs.map D.bl) with | some ns => some (D.bl (ns.all id), n) | none => none) = _
  rw [asBls_map]
theorem anyD_bls (i n : Nat) (bs : List Bool) : anyD [.lst i (bs.map .bl)] n = some (.bl (bs.any id), n) := by
  show (match asBls (bs.map D.bl) with | some ns => some (D.bl (ns.any id), n) | none => none) = _
  rw [asBls_map]
/-- each at most the other one's -/
def lee (xs ys : List Int) : Bool := (List.zipWith (fun x y => decide (x ≤ y)) xs ys).all id
/-- a comprehension over zip, the pairs under one name -/
theorem lc_zipP {own : List Nat} {tg : TgV} {el : EV} (q r : Nat) (xs ys : List Int) (g : Int → Int → D) (n : Nat) (env : Ev) (hl : xs.length = ys.length) (hz : xs.length ≤ 1000)
    (h : ∀ x y, ∃ env1, tg (.tup [.int x, .int y]) (wipeE env own) = some env1 ∧ el n env1 = .ok (g x y) n []) :
    lcGo own tg tTrue el xs.length 0 (.zipL (.lst q (li xs)) (.lst r (li ys))) [] n env = .ok (.lst n (List.zipWith g xs ys)) (n + 1) [] :=
  lc_zip q r xs ys g n env (by omega) hz fun k x y _ _ => h x y
end Sx
end
section
set_option Elab.async false
set_option linter.all false
set_option maxRecDepth 100000
set_option maxHeartbeats 4000000
namespace B
open PySem PySem.Spec PyProof.Rows L2 Sx
def b_is_whole : SV :=
  (sRet (eAnd (eIsi (isTyD "int") (eVar 0)) (eNot (eIsi (isTyD "bool") (eVar 0)))))
def q_is_whole : FV := runF 1 b_is_whole
def b_is_count : SV :=
  (sSeq (sIf (tOr (tNot (tOf (eCall q_is_whole (aCons (eVar 0) aNil)))) (tOf (eBin ltD (eVar 0) (eC (.int 0))))) (sRet (eC (.bl false))) sNil)
  (sRet (eOr (eBin isD (eVar 1) (eC .non)) (eBin leD (eVar 0) (eVar 1)))))
def q_is_count : FV := runF 2 b_is_count
def c_are_counts_1 : EV :=
  (eCallD q_is_count [.non] (aCons (eVar 1) aNil))
def b_are_counts : SV :=
  (sRet (eAnd (eIsi (isTyD "list") (eVar 0)) (eB allD (aCons (eLc (iSeq (eVar 0)) [1] (tgN 1) tTrue c_are_counts_1) aNil))))
def q_are_counts : FV := runF 2 b_are_counts
def b_is_base : SV :=
  (sRet (eAnd (eCall q_is_whole (aCons (eVar 0) aNil)) (eBin gtD (eVar 0) (eC (.int 1)))))
def q_is_base : FV := runF 1 b_is_base
def c_init_House_1 : EV :=
  (eCall q_is_base (aCons (eVar 3) aNil))
def b_init_House : SV :=
  (sSeq (sIf (tOr (tNot (tOf (eIsi (isTyD "list") (eVar 1)))) (tNot (tOf (eB allD (aCons (eLc (iSeq (eVar 1)) [3] (tgN 3) tTrue c_init_House_1) aNil))))) sBad sNil)
  (sSeq (sIf (tOr (tNot (tOf (eCall q_are_counts (aCons (eVar 2) aNil)))) (tOf (eBin neD (eB lenD (aCons (eVar 2) aNil)) (eBin addD (eB lenD (aCons (eVar 1) aNil)) (eC (.int 1)))))) sBad sNil)
  (sSeq (sFld 0 0 (eVar 0) (eB listD (aCons (eVar 1) aNil)))
  (sFld 0 1 (eVar 0) (eB listD (aCons (eVar 2) aNil))))))
def q_init_House : FV := runF 4 b_init_House
def b_m_House_bases : SV :=
  (sRet (eB listD (aCons (eFld 0 0 (eVar 0)) aNil)))
def q_m_House_bases : FV := runF 1 b_m_House_bases
def b_m_House_rooms : SV :=
  (sRet (eB listD (aCons (eFld 0 1 (eVar 0)) aNil)))
def q_m_House_rooms : FV := runF 1 b_m_House_rooms
def b_m_House_places : SV :=
  (sRet (eB lenD (aCons (eFld 0 1 (eVar 0)) aNil)))
def q_m_House_places : FV := runF 1 b_m_House_places
def b_eq_House : SV :=
  (sRet (eAnd (eIsi (isClD 0) (eVar 1)) (eAnd (eBin eqD (eFld 0 0 (eVar 0)) (eFld 0 0 (eVar 1))) (eBin eqD (eFld 0 1 (eVar 0)) (eFld 0 1 (eVar 1))))))
def q_eq_House : FV := runF 2 b_eq_House
def b_check_house : SV :=
  (sIf (tNot (tOf (eIsi (isClD 0) (eVar 0)))) sBad sNil)
def q_check_house : FV := runF 1 b_check_house
def c_is_row_of_1 : EV :=
  (eBin leD (eVar 2) (eVar 3))
def b_is_row_of : SV :=
  (sSeq (sIf (tOr (tNot (tOf (eCall q_are_counts (aCons (eVar 1) aNil)))) (tOf (eBin neD (eB lenD (aCons (eVar 1) aNil)) (eB lenD (aCons (eFld 0 1 (eVar 0)) aNil))))) (sRet (eC (.bl false))) sNil)
  (sRet (eB allD (aCons (eLc (iZip (aCons (eVar 1) (aCons (eFld 0 1 (eVar 0)) aNil))) [2, 3] (tgT [(tgN 2), (tgN 3)]) tTrue c_is_row_of_1) aNil))))
def q_is_row_of : FV := runF 4 b_is_row_of
def b_check_row : SV :=
  (sIf (tNot (tOf (eCall q_is_row_of (aCons (eVar 0) (aCons (eVar 1) aNil))))) sBad sNil)
def q_check_row : FV := runF 2 b_check_row
def b_weights_of_1 : SV :=
  (sExpr (eM "list" appD (eVar 1) (aCons (eBin mulD (eBin ixD (eVar 1) (eUn negD (eC (.int 1)))) (eVar 2)) aNil)))
def b_weights_of : SV :=
  (sSeq (sSet 1 (eLst (aCons (eC (.int 1)) aNil)))
  (sSeq (sFor (iSeq (eFld 0 0 (eVar 0))) (tgN 2) b_weights_of_1)
  (sRet (eVar 1))))
def q_weights_of : FV := runF 3 b_weights_of
def c_worth_in_1 : EV :=
  (eBin mulD (eVar 2) (eVar 3))
def b_worth_in : SV :=
  (sRet (eB sumD (aCons (eLc (iZip (aCons (eVar 1) (aCons (eCall q_weights_of (aCons (eVar 0) aNil)) aNil))) [2, 3] (tgT [(tgN 2), (tgN 3)]) tTrue c_worth_in_1) aNil)))
def q_worth_in : FV := runF 4 b_worth_in
def b_sums_up_to_1 : SV :=
  (sSeq (sAug 3 iaddD (eBin mulD (eVar 4) (eVar 5)))
  (sExpr (eM "list" appD (eVar 2) (aCons (eVar 3) aNil))))
def b_sums_up_to : SV :=
  (sSeq (sPar 2 3 (aCons (eLst aNil) (aCons (eC (.int 0)) aNil)))
  (sSeq (sFor (iZip (aCons (eVar 1) (aCons (eCall q_weights_of (aCons (eVar 0) aNil)) aNil))) (tgT [(tgN 4), (tgN 5)]) b_sums_up_to_1)
  (sRet (eVar 2))))
def q_sums_up_to : FV := runF 6 b_sums_up_to
def b_rows_in_1 : SV :=
  (sAug 1 imulD (eBin addD (eVar 2) (eC (.int 1))))
def b_rows_in : SV :=
  (sSeq (sSet 1 (eC (.int 1)))
  (sSeq (sFor (iSeq (eFld 0 1 (eVar 0))) (tgN 2) b_rows_in_1)
  (sRet (eVar 1))))
def q_rows_in : FV := runF 3 b_rows_in
def b_weights : SV :=
  (sSeq (sExpr (eCall q_check_house (aCons (eVar 0) aNil)))
  (sRet (eCall q_weights_of (aCons (eVar 0) aNil))))
def q_weights : FV := runF 1 b_weights
def b_held_up_to : SV :=
  (sSeq (sExpr (eCall q_check_house (aCons (eVar 0) aNil)))
  (sRet (eCall q_sums_up_to (aCons (eVar 0) (aCons (eFld 0 1 (eVar 0)) aNil)))))
def q_held_up_to : FV := runF 1 b_held_up_to
def b_whole_worth : SV :=
  (sSeq (sExpr (eCall q_check_house (aCons (eVar 0) aNil)))
  (sRet (eCall q_worth_in (aCons (eVar 0) (aCons (eFld 0 1 (eVar 0)) aNil)))))
def q_whole_worth : FV := runF 1 b_whole_worth
def b_many_rows : SV :=
  (sSeq (sExpr (eCall q_check_house (aCons (eVar 0) aNil)))
  (sRet (eCall q_rows_in (aCons (eVar 0) aNil))))
def q_many_rows : FV := runF 1 b_many_rows
def b_row_at_1 : SV :=
  (sSeq (sExpr (eM "list" insertD (eVar 2) (aCons (eC (.int 0)) (aCons (eBin modD (eVar 1) (eBin addD (eVar 3) (eC (.int 1)))) aNil))))
  (sAug 1 fdivD (eBin addD (eVar 3) (eC (.int 1)))))
def b_row_at : SV :=
  (sSeq (sExpr (eCall q_check_house (aCons (eVar 0) aNil)))
  (sSeq (sIf (tOr (tNot (tOf (eCallD q_is_count [.non] (aCons (eVar 1) aNil)))) (tOf (eBin geD (eVar 1) (eCall q_rows_in (aCons (eVar 0) aNil))))) sBad sNil)
  (sSeq (sSet 2 (eLst aNil))
  (sSeq (sFor (iSeq (eRevL (eFld 0 1 (eVar 0)))) (tgN 3) b_row_at_1)
  (sRet (eVar 2))))))
def q_row_at : FV := runF 4 b_row_at
def b_number_of_1 : SV :=
  (sSet 2 (eBin addD (eBin mulD (eVar 2) (eBin addD (eVar 4) (eC (.int 1)))) (eVar 3)))
def b_number_of : SV :=
  (sSeq (sExpr (eCall q_check_house (aCons (eVar 0) aNil)))
  (sSeq (sExpr (eCall q_check_row (aCons (eVar 0) (aCons (eVar 1) aNil))))
  (sSeq (sSet 2 (eC (.int 0)))
  (sSeq (sFor (iZip (aCons (eVar 1) (aCons (eFld 0 1 (eVar 0)) aNil))) (tgT [(tgN 3), (tgN 4)]) b_number_of_1)
  (sRet (eVar 2))))))
def q_number_of : FV := runF 5 b_number_of
def b_l_purse : SV :=
  (sSeq (sSet 2 (eB sumD (aCons (eSl slD (eVar 0) (oSome (eVar 1)) (oSome (eBin addD (eVar 1) (eC (.int 1))))) aNil)))
  (sRet (eLst (aCons (eBin modD (eB intD1 (aCons (eB maxD (aCons (eBin subD (eVar 2) (eBin powD (eC (.int 10)) (eC (.int 18)))) (aCons (eC (.int 0)) aNil))) aNil)) (eBin powD (eBin powD (eC (.int 10)) (eC (.int 60))) (eC (.int 8)))) (aCons (eBin modD (eB intD1 (aCons (eVar 2) aNil)) (eC (.int 2147483629))) (aCons (eC (.int 0)) (aCons (eVar 1) aNil)))))))
def q_l_purse : FV := runF 3 b_l_purse
def b_l_mixed : SV :=
  (sSeq (sSet 3 (eBin addD (eBin mulD (eVar 0) (eC (.int 69069))) (eBin mulD (eBin mulD (eC (.int 104729)) (eVar 1)) (eVar 1))))
  (sSeq (sSet 3 (eBin modD (eB intD1 (aCons (eBin addD (eBin addD (eVar 3) (eBin mulD (eC (.int 7919)) (eVar 2))) (eVar 1)) aNil)) (eC (.int 2147483647))))
  (sSeq (sSet 3 (eBin modD (eB intD1 (aCons (eBin addD (eBin mulD (eVar 3) (eVar 3)) (eC (.int 40503))) aNil)) (eC (.int 2147483629))))
  (sRet (eBin modD (eB intD1 (aCons (eBin mulD (eVar 3) (eC (.int 48271))) aNil)) (eC (.int 2147483587)))))))
def q_l_mixed : FV := runF 4 b_l_mixed
def b_l_draw_1 : SV :=
  (sSeq (sSub (eVar 0) (eC (.int 2)) (eBin addD (eBin ixD (eVar 0) (eC (.int 2))) (eC (.int 1))))
  (sSet 3 (eBin addD (eBin mulD (eVar 3) (eC (.int 2147483587))) (eCall q_l_mixed (aCons (eBin ixD (eVar 0) (eC (.int 1))) (aCons (eBin ixD (eVar 0) (eC (.int 2))) (aCons (eBin ixD (eVar 0) (eC (.int 3))) aNil)))))))
def b_l_draw : SV :=
  (sSeq (sIf (tOf (eBin gtD (eBin ixD (eVar 0) (eC (.int 0))) (eC (.int 0)))) (sSeq (sSet 2 (eBin modD (eB intD1 (aCons (eBin ixD (eVar 0) (eC (.int 0))) aNil)) (eVar 1)))
  (sSeq (sSub (eVar 0) (eC (.int 0)) (eBin fdivD (eBin ixD (eVar 0) (eC (.int 0))) (eVar 1)))
  (sRet (eVar 2)))) sNil)
  (sSeq (sSet 3 (eC (.int 0)))
  (sSeq (sFor (iRange1 (aCons (eBin addD (eC (.int 1)) (eBin fdivD (eBits (eVar 1)) (eC (.int 28)))) aNil)) (tgN 4) b_l_draw_1)
  (sRet (eBin modD (eB intD1 (aCons (eVar 3) aNil)) (eVar 1))))))
def q_l_draw : FV := runF 5 b_l_draw
def c_l_purses_1 : EV :=
  (eCall q_l_purse (aCons (eVar 0) (aCons (eVar 2) aNil)))
def b_l_purses : SV :=
  (sRet (eLc (iRange1 (aCons (eB maxD (aCons (eC (.int 1)) (aCons (eB minD (aCons (eVar 1) (aCons (eB lenD (aCons (eVar 0) aNil)) aNil))) aNil))) aNil)) [2] (tgN 2) tTrue c_l_purses_1))
def q_l_purses : FV := runF 3 b_l_purses
def b_l_one_of : SV :=
  (sRet (eBin ixD (eVar 1) (eCall q_l_draw (aCons (eVar 0) (aCons (eB lenD (aCons (eVar 1) aNil)) aNil)))))
def q_l_one_of : FV := runF 2 b_l_one_of
def b_l_exact (f0 : FV) : SV :=
  (sSeq (sIf (tOf (eIsi (isi2 (isTyD "list") (isTyD "tuple")) (eVar 0))) (sSeq (sSet 2 (eAnd (eBin eqD (eIsi (isTyD "list") (eVar 1)) (eIsi (isTyD "list") (eVar 0))) (eBin eqD (eIsi (isTyD "tuple") (eVar 1)) (eIsi (isTyD "tuple") (eVar 0)))))
  (sRet (eAnd (eVar 2) (eAnd (eBin eqD (eB lenD (aCons (eVar 0) aNil)) (eB lenD (aCons (eVar 1) aNil))) (eB allD (aCons (eLc (iZip (aCons (eVar 0) (aCons (eVar 1) aNil))) [3, 4] (tgT [(tgN 3), (tgN 4)]) tTrue (eCall f0 (aCons (eVar 3) (aCons (eVar 4) aNil)))) aNil)))))) sNil)
  (sSeq (sIf (tOf (eIsi (isTyD "dict") (eVar 0))) sBad sNil)
  (sSeq (sSet 2 (eBin eqD (eIsi (isTyD "int") (eVar 0)) (eIsi (isTyD "int") (eVar 1))))
  (sRet (eAnd (eVar 2) (eAnd (eBin eqD (eIsi (isTyD "bool") (eVar 0)) (eIsi (isTyD "bool") (eVar 1))) (eBin eqD (eVar 0) (eVar 1))))))))
def q_l_exact : Nat → FV
  | 0 => runF 6 sBad
  | m + 1 => runF 6 (b_l_exact (q_l_exact m))
def b_l_weights_1 : SV :=
  (sExpr (eM "list" appD (eVar 1) (aCons (eBin mulD (eBin ixD (eVar 1) (eUn negD (eC (.int 1)))) (eVar 2)) aNil)))
def b_l_weights : SV :=
  (sSeq (sSet 1 (eLst (aCons (eC (.int 1)) aNil)))
  (sSeq (sFor (iSeq (eBin ixD (eVar 0) (eC (.int 0)))) (tgN 2) b_l_weights_1)
  (sRet (eVar 1))))
def q_l_weights : FV := runF 3 b_l_weights
def b_l_many_rows_1 : SV :=
  (sSet 1 (eBin mulD (eVar 1) (eBin addD (eVar 2) (eC (.int 1)))))
def b_l_many_rows : SV :=
  (sSeq (sSet 1 (eC (.int 1)))
  (sSeq (sFor (iSeq (eBin ixD (eVar 0) (eC (.int 1)))) (tgN 2) b_l_many_rows_1)
  (sRet (eVar 1))))
def q_l_many_rows : FV := runF 3 b_l_many_rows
def c_l_house_1 : EV :=
  (eCall q_l_one_of (aCons (eVar 0) (aCons (eLst (aCons (eC (.int 2)) (aCons (eC (.int 2)) (aCons (eC (.int 2)) (aCons (eC (.int 3)) (aCons (eC (.int 3)) (aCons (eC (.int 4)) (aCons (eC (.int 5)) (aCons (eC (.int 10)) (aCons (eC (.int 12)) (aCons (eC (.int 60)) aNil))))))))))) aNil)))
def b_l_house_2 : SV :=
  (sSeq (sSet 5 (eLst (aCons (eC (.int 0)) (aCons (eC (.int 1)) (aCons (eBin subD (eVar 4) (eC (.int 1))) (aCons (eVar 4) (aCons (eBin addD (eVar 4) (eC (.int 1))) (aCons (eBin subD (eBin mulD (eC (.int 2)) (eVar 4)) (eC (.int 1))) (aCons (eBin mulD (eC (.int 2)) (eVar 4)) aNil)))))))))
  (sExpr (eM "list" appD (eVar 3) (aCons (eB minD (aCons (eC (.int 60)) (aCons (eCall q_l_one_of (aCons (eVar 0) (aCons (eBin addD (eVar 5) (eLst (aCons (eCall q_l_draw (aCons (eVar 0) (aCons (eBin addD (eBin mulD (eC (.int 2)) (eVar 4)) (eC (.int 1))) aNil))) (aCons (eCall q_l_draw (aCons (eVar 0) (aCons (eBin mulD (eC (.int 3)) (eVar 4)) aNil))) aNil)))) aNil))) aNil))) aNil))))
def b_l_house : SV :=
  (sSeq (sSet 2 (eLc (iRange1 (aCons (eBin subD (eVar 1) (eC (.int 1))) aNil)) [6] (tgN 6) tTrue c_l_house_1))
  (sSeq (sSet 3 (eLst aNil))
  (sSeq (sFor (iSeq (eBin addD (eVar 2) (eLst (aCons (eC (.int 4)) aNil)))) (tgN 4) b_l_house_2)
  (sRet (eLst (aCons (eVar 2) (aCons (eVar 3) aNil)))))))
def q_l_house : FV := runF 7 b_l_house
def c_l_small_house_1 : EV :=
  (eCall q_l_one_of (aCons (eVar 0) (aCons (eLst (aCons (eC (.int 2)) (aCons (eC (.int 2)) (aCons (eC (.int 2)) (aCons (eC (.int 3)) (aCons (eC (.int 3)) (aCons (eC (.int 4)) aNil))))))) aNil)))
def b_l_small_house_2 : SV :=
  (sExpr (eM "list" appD (eVar 2) (aCons (eCall q_l_one_of (aCons (eVar 0) (aCons (eLst (aCons (eBin subD (eVar 3) (eC (.int 1))) (aCons (eVar 3) (aCons (eVar 3) (aCons (eBin addD (eVar 3) (eC (.int 1))) (aCons (eBin mulD (eC (.int 2)) (eVar 3)) (aCons (eCall q_l_draw (aCons (eVar 0) (aCons (eBin addD (eBin mulD (eC (.int 2)) (eVar 3)) (eC (.int 1))) aNil))) aNil))))))) aNil))) aNil)))
def b_l_small_house_3 : SV :=
  (sSeq (sSet 5 (eM "list" indexD (eBin ixD (eVar 4) (eC (.int 1))) (aCons (eB maxD (aCons (eBin ixD (eVar 4) (eC (.int 1))) aNil)) aNil)))
  (sSub (eBin ixD (eVar 4) (eC (.int 1))) (eVar 5) (eBin subD (eBin ixD (eBin ixD (eVar 4) (eC (.int 1))) (eVar 5)) (eC (.int 1)))))
def b_l_small_house : SV :=
  (sSeq (sSet 1 (eLc (iRange1 (aCons (eCall q_l_draw (aCons (eVar 0) (aCons (eC (.int 4)) aNil))) aNil)) [5] (tgN 5) tTrue c_l_small_house_1))
  (sSeq (sSet 2 (eLst aNil))
  (sSeq (sFor (iSeq (eBin addD (eVar 1) (eLst (aCons (eC (.int 2)) aNil)))) (tgN 3) b_l_small_house_2)
  (sSeq (sSet 4 (eLst (aCons (eVar 1) (aCons (eVar 2) aNil))))
  (sSeq (sWhile 1000 (tOf (eBin gtD (eCall q_l_many_rows (aCons (eVar 4) aNil)) (eC (.int 400)))) b_l_small_house_3)
  (sRet (eVar 4)))))))
def q_l_small_house : FV := runF 6 b_l_small_house
def c_l_row_1 : EV :=
  (eCall q_l_one_of (aCons (eVar 0) (aCons (eLst (aCons (eC (.int 0)) (aCons (eVar 2) (aCons (eCall q_l_draw (aCons (eVar 0) (aCons (eBin addD (eVar 2) (eC (.int 1))) aNil))) (aCons (eCall q_l_draw (aCons (eVar 0) (aCons (eBin addD (eVar 2) (eC (.int 1))) aNil))) aNil))))) aNil)))
def b_l_row : SV :=
  (sRet (eLc (iSeq (eBin ixD (eVar 1) (eC (.int 1)))) [2] (tgN 2) tTrue c_l_row_1))
def q_l_row : FV := runF 3 b_l_row
def b_l_great_house_1 : SV :=
  (sIf (tAnd (tOf (eBin gtD (eCall q_l_draw (aCons (eVar 0) (aCons (eC (.int 3)) aNil))) (eC (.int 0)))) (tOf (eBin ltD (eBin ixD (eBin ixD (eVar 1) (eC (.int 1))) (eVar 2)) (eVar 3)))) (sSub (eBin ixD (eVar 1) (eC (.int 1))) (eVar 2) (eB minD (aCons (eC (.int 60)) (aCons (eBin addD (eVar 3) (eCall q_l_draw (aCons (eVar 0) (aCons (eC (.int 4)) aNil)))) aNil)))) sNil)
def b_l_great_house : SV :=
  (sSeq (sSet 1 (eCall q_l_house (aCons (eVar 0) (aCons (eBin addD (eC (.int 5)) (eCall q_l_draw (aCons (eVar 0) (aCons (eC (.int 4)) aNil)))) aNil))))
  (sSeq (sFor (iEnum (aCons (eBin ixD (eVar 1) (eC (.int 0))) aNil)) (tgT [(tgN 2), (tgN 3)]) b_l_great_house_1)
  (sRet (eVar 1))))
def q_l_great_house : FV := runF 4 b_l_great_house
def b_l_made : SV :=
  (sRet (eMake 0 q_init_House (aCons (eB listD (aCons (eBin ixD (eVar 0) (eC (.int 0))) aNil)) (aCons (eB listD (aCons (eBin ixD (eVar 0) (eC (.int 1))) aNil)) aNil))))
def q_l_made : FV := runF 1 b_l_made
end B
end
section
set_option Elab.async false
set_option linter.all false
set_option maxRecDepth 100000
set_option maxHeartbeats 1000000
namespace B
open PySem Sx
theorem v_mixed (b c t : Int) (n : Nat) (hb : 0 ≤ b) (hb2 : b < 2147483629) (hc : 0 ≤ c) (hc2 : c ≤ 2000000) (ht : 0 ≤ t) (ht2 : t ≤ 63) :
    ∃ r, 0 ≤ r ∧ r < 2147483587 ∧ q_l_mixed [.int b, .int c, .int t] n = .ok (.int r) n [] := by
  have m1 := mulD_sm (a := b) (b := 69069) n (sm_of (by omega) (by omega)) (sm_of (by omega) (by omega))
  have m2 := mulD_sm (a := 104729) (b := c) n (sm_of (by omega) (by omega)) (sm_of (by omega) (by omega))
  have m3 := mulD_sm (a := 104729 * c) (b := c) n (sm_of (by omega) (by omega)) (sm_of (by omega) (by omega))
  have m4 := mulD_sm (a := 7919) (b := t) n (sm_of (by omega) (by omega)) (sm_of (by omega) (by omega))
  have d1 := fun a => modD_int a 2147483647 n (by decide)
  have d2 := fun a => modD_int a 2147483629 n (by decide)
  have d3 := fun a => modD_int a 2147483587 n (by decide)
  generalize hx : (b * 69069 + 104729 * c * c + 7919 * t + c) % 2147483647 = x at *
  have hx0 : 0 ≤ x := by omega
  have hx1 : x < 2147483647 := by omega
  have m5 := mulD_sm (a := x) (b := x) n (sm_of (by omega) (by omega)) (sm_of (by omega) (by omega))
  generalize hy : (x * x + 40503) % 2147483629 = y at *
  have hy0 : 0 ≤ y := by omega
  have hy1 : y < 2147483629 := by omega
  have m6 := mulD_sm (a := y) (b := 48271) n (sm_of (by omega) (by omega)) (sm_of (by omega) (by omega))
  refine ⟨(y * 48271) % 2147483587, by omega, by omega, ?_⟩
  simp only [q_l_mixed, b_l_mixed, m1, m2, m3, m4, m5, m6, d1, d2, d3, hx, hy, pre_n, pre_o, of_s, r_var, var1_s, r_c, r_nil, r_cons, cons1_o, cons2_o, r_lst, lst1_o, r_tup, tup1_o, r_bin, bin1_o, bin2_o, r_un, un1_o, r_bits, r_tof, tof1_o, r_and, and1_t, and1_f, r_or, or1_t, or1_f, r_not, not1_o, r_eand, eand1_t, eand1_f, r_eor, eor1_t, eor1_f, r_enot, enot1_o, r_eif, eif1_t, eif1_f, r_call, call1_o, r_callD, r_callK, callK1_o, callK2_o, r_make, r_makeP, r_mth, mth1_o, mth2_o, r_b, r_m, m1_lst, m2_o, ofW_s, r_isi, isi1_o, isi3_s, r_fld, fld1_o, fld2_s, r_eqo, eqo1_o, eqo2_o, eqo3_o, r_osm, osm1_o, r_onone, r_sl, sl1_o, sl2_o, sl3_o, r_rev, rev1_o, r_seq, seq1_l, seq1_t, r_rng1, rng1_o, r_zip, zip1_o, r_enum, enum1_o, r_lc, lc1_o, put_0, put_c, setv_c, r_sseq, then1_n, then1_r, then1_c, then1_b, r_snil, r_sretn, r_scont, r_sbrk, r_sexpr, expr1_o, r_sret, ret1_o, r_sset, set1_o, r_sif, sif1_t, sif1_f, r_stg, stg1_o, tg1_s, r_spar, par1_o, r_spar3, par3_o, r_saug, aug0_s, aug1_o, aug2_s, r_ssub, sub0_o, sub1_o, sub2_o, sub3_s, r_sfld, sfld0_o, sfld1_o, r_sfor, for1_o, r_swhile, r_run, run1_n, run1_r, len_rng, len_li, len_lst, len_tup, len_zip, len_enum, puts, putsL, optmap_nil, get_comp, puts_comp, putsL_comp, put_comp', puts_nil, putsL_nil, putE_nil, putE_map, comp_nil, nil_comp, comp_one, cutW_nil, get_one, get_nil, puts_li, putsL_li, li_len, permL, D.has, hasL, hasL_li, isTyD, isClD, isi2, isD_non, isNone, cmpD_int, negD_int, addD_int, subD_int, eqD_int, neD_int, eqD_li, neD_li, listD_lst, listD_tup, tupleD_lst, lenD_lst, lenD_tup, intD1_int, ixD_0, ixD_1, ixD_2, ixD_3, bitsD_int, cutOk, List.map_cons, List.map_nil, List.length_cons, List.length_nil, List.getElem?_cons_zero, List.getElem?_cons_succ, List.set_cons_zero, List.set_cons_succ, List.replicate, List.cons_append, List.nil_append, Option.map_some, Option.map_none, Nat.reduceAdd, Nat.reduceSub, Nat.add_assoc, Nat.zero_add, Nat.add_zero, Bool.not_true, Bool.not_false, beq_self_eq_true, String.reduceBEq, Bool.true_or, Bool.false_or, Bool.or_true, Bool.or_false, Bool.true_and, Bool.false_and, Bool.and_true, Bool.and_false, decide_true, decide_false, Bool.false_eq_true, if_true, if_false, reduceCtorEq, Nat.reduceLeDiff]
theorem bits_few {m : Int} (h1 : 1 ≤ m) (h2 : m < 10 ^ 30) : ∃ k : Nat, (Builtin.Int.intBits m : Int) / 28 = (k : Int) ∧ k ≤ 3 := by
  have h : Builtin.Int.intBits m ≤ 100 := PyProof.Rows.intBits_le (by
    have : m.natAbs < 10 ^ 30 := by omega
    exact Nat.lt_of_lt_of_le this (by decide))
  refine ⟨Builtin.Int.intBits m / 28, by omega, by omega⟩
theorem draw_one (p n : Nat) (b c t m f : Int) (o : Option D) (w : Wr) (hid : Nat) (hp : p < n) (hw : w = [] ∨ ∃ xs, w = [(p, .lst p xs)]) (hb : 0 ≤ b) (hb2 : b < 2147483629) (hc : 0 ≤ c) (hc2 : c + 1 ≤ 2000000) (ht : 0 ≤ t) (ht2 : t ≤ 63) (hf : 0 ≤ f) (hf2 : f < 10 ^ 40) :
    ∃ r, 0 ≤ r ∧ r < 2147483587 ∧ b_l_draw_1 n ⟨n, [some (.lst p [.int 0, .int b, .int c, .int t]), some (.int m), none, some (.int f), o], w, [.rng 0 hid]⟩ =
      .nx ⟨n, [some (.lst p [.int 0, .int b, .int (c + 1), .int t]), some (.int m), none, some (.int (f * 2147483587 + r)), o.map (puts [(p, .lst p [.int 0, .int b, .int (c + 1), .int t])])], [(p, .lst p [.int 0, .int b, .int (c + 1), .int t])], [.rng 0 hid]⟩ := by
  obtain ⟨r, h1, h2, h3⟩ := v_mixed b (c + 1) t n hb hb2 (by omega) hc2 ht ht2
  refine ⟨r, h1, h2, ?_⟩
  have e3 : setD (.lst p [.int 0, .int b, .int c, .int t]) (.int 2) (.int (c + 1)) = some (p, .lst p [.int 0, .int b, .int (c + 1), .int t]) := setD_2 p _ _ _ _ _ rfl
  have m1 := mulD_sm (a := f) (b := 2147483587) n ⟨by omega, by omega⟩ ⟨by omega, by omega⟩
  have cw : cutW n (comp w [(p, .lst p [.int 0, .int b, .int (c + 1), .int t])]) = [(p, .lst p [.int 0, .int b, .int (c + 1), .int t])] := by
    rcases hw with rfl | ⟨d, rfl⟩
    · rw [nil_comp, cutW_lt _ _ _ hp]
    · rw [comp_one, puts, get_one, cutW_lt _ _ _ hp]
  simp only [b_l_draw_1, e3, m1, h3, cw, pre_n, pre_o, of_s, r_var, var1_s, r_c, r_nil, r_cons, cons1_o, cons2_o, r_lst, lst1_o, r_tup, tup1_o, r_bin, bin1_o, bin2_o, r_un, un1_o, r_bits, r_tof, tof1_o, r_and, and1_t, and1_f, r_or, or1_t, or1_f, r_not, not1_o, r_eand, eand1_t, eand1_f, r_eor, eor1_t, eor1_f, r_enot, enot1_o, r_eif, eif1_t, eif1_f, r_call, call1_o, r_callD, r_callK, callK1_o, callK2_o, r_make, r_makeP, r_mth, mth1_o, mth2_o, r_b, r_m, m1_lst, m2_o, ofW_s, r_isi, isi1_o, isi3_s, r_fld, fld1_o, fld2_s, r_eqo, eqo1_o, eqo2_o, eqo3_o, r_osm, osm1_o, r_onone, r_sl, sl1_o, sl2_o, sl3_o, r_rev, rev1_o, r_seq, seq1_l, seq1_t, r_rng1, rng1_o, r_zip, zip1_o, r_enum, enum1_o, r_lc, lc1_o, put_0, put_c, setv_c, r_sseq, then1_n, then1_r, then1_c, then1_b, r_snil, r_sretn, r_scont, r_sbrk, r_sexpr, expr1_o, r_sret, ret1_o, r_sset, set1_o, r_sif, sif1_t, sif1_f, r_stg, stg1_o, tg1_s, r_spar, par1_o, r_spar3, par3_o, r_saug, aug0_s, aug1_o, aug2_s, r_ssub, sub0_o, sub1_o, sub2_o, sub3_s, r_sfld, sfld0_o, sfld1_o, r_sfor, for1_o, r_swhile, r_run, run1_n, run1_r, len_rng, len_li, len_lst, len_tup, len_zip, len_enum, puts, putsL, optmap_nil, get_comp, puts_comp, putsL_comp, put_comp', puts_nil, putsL_nil, putE_nil, putE_map, comp_nil, nil_comp, comp_one, cutW_nil, get_one, get_nil, puts_li, putsL_li, li_len, permL, D.has, hasL, hasL_li, isTyD, isClD, isi2, isD_non, isNone, cmpD_int, negD_int, addD_int, subD_int, eqD_int, neD_int, eqD_li, neD_li, listD_lst, listD_tup, tupleD_lst, lenD_lst, lenD_tup, intD1_int, ixD_0, ixD_1, ixD_2, ixD_3, bitsD_int, cutOk, List.map_cons, List.map_nil, List.length_cons, List.length_nil, List.getElem?_cons_zero, List.getElem?_cons_succ, List.set_cons_zero, List.set_cons_succ, List.replicate, List.cons_append, List.nil_append, Option.map_some, Option.map_none, Nat.reduceAdd, Nat.reduceSub, Nat.add_assoc, Nat.zero_add, Nat.add_zero, Bool.not_true, Bool.not_false, beq_self_eq_true, String.reduceBEq, Bool.true_or, Bool.false_or, Bool.or_true, Bool.or_false, Bool.true_and, Bool.false_and, Bool.and_true, Bool.and_false, decide_true, decide_false, Bool.false_eq_true, if_true, if_false, reduceCtorEq, Nat.reduceLeDiff, Src.puts]
def Bd : Nat → Int
  | 0 => 1
  | k + 1 => Bd k * 2147483587
theorem Bd_le : ∀ {k : Nat}, k ≤ 4 → Bd k ≤ 10 ^ 40
  | 0, _ => by decide
  | 1, _ => by decide
  | 2, _ => by decide
  | 3, _ => by decide
  | 4, _ => by decide
  | k + 5, h => absurd h (by omega)
theorem draw_loop (p n : Nat) (b c t m : Int) (K : Nat) (hK : K ≤ 4) (hp : p < n) (hb : 0 ≤ b) (hb2 : b < 2147483629) (hc : 0 ≤ c) (hc2 : c + 4 ≤ 2000000) (ht : 0 ≤ t) (ht2 : t ≤ 63) (hK0 : 0 < K) :
    ∃ f o, 0 ≤ f ∧ forGo (tgN 4) b_l_draw_1 n K 0 ⟨n, [some (.lst p [.int 0, .int b, .int c, .int t]), some (.int m), none, some (.int 0), none], [], [.rng 0 K]⟩ =
      .nx ⟨n, [some (.lst p [.int 0, .int b, .int (c + K), .int t]), some (.int m), none, some (.int f), o], [(p, .lst p [.int 0, .int b, .int (c + K), .int t])], []⟩ := by
  obtain ⟨s', src, h, e1, e2, f, o, w, e3, h0, h1, hw⟩ := forGo_inv (tg := tgN 4) (body := b_l_draw_1) (n0 := n)
    (fun k s => ∃ (f : Int) (o : Option D) (w : Wr), s = ⟨n, [some (.lst p [.int 0, .int b, .int (c + k), .int t]), some (.int m), none, some (.int f), o], w, [.rng 0 K]⟩ ∧ 0 ≤ f ∧ f < Bd k ∧
      ((k = 0 ∧ w = []) ∨ (0 < k ∧ w = [(p, .lst p [.int 0, .int b, .int (c + k), .int t])]))) K
    (fun k s hk hI => by
      obtain ⟨f, o, w, rfl, h0, h1, hw⟩ := hI
      have hB := Bd_le (k := k) (by omega)
      obtain ⟨r, r0, r1, e⟩ := draw_one p n b (c + k) t m f (some (.int (0 + k))) w K hp (by rcases hw with ⟨_, h⟩ | ⟨_, h⟩; exact .inl h; exact .inr ⟨_, h⟩) hb hb2 (by omega) (by omega) ht ht2 h0 (by omega)
      rw [show c + (k : Int) + 1 = c + ((k + 1 : Nat) : Int) by omega] at e
      refine ⟨_, _, .int (0 + (k : Int)), _, _, rfl, ?_, rfl, .inl e, f * 2147483587 + r, _, _, rfl, by omega, ?_, .inr ⟨by omega, rfl⟩⟩
      · show some (if k < K then some (D.int (0 + (k : Int))) else none) = _
        rw [if_pos hk]
      · show f * 2147483587 + r < Bd k * 2147483587
        omega)
    (fun s hI => by
      obtain ⟨f, o, w, rfl, h0, h1, hw⟩ := hI
      refine ⟨_, _, rfl, ?_⟩
      show some (if K < K then _ else none) = _
      rw [if_neg (Nat.lt_irrefl _)])
    K 0 ⟨n, [some (.lst p [.int 0, .int b, .int c, .int t]), some (.int m), none, some (.int 0), none], [], [.rng 0 K]⟩ (by omega) ⟨0, none, [], by simp, by omega, by decide, .inl ⟨rfl, rfl⟩⟩
  subst e3
  refine ⟨f, o, h0, ?_⟩
  rw [e1]
  rcases hw with ⟨h, _⟩ | ⟨_, rfl⟩
  · omega
  · cases e2; rfl
theorem v_draw (p : Nat) (N m : Int) (n : Nat) (d : D) (h : Pu p N d) (hN : N ≤ 1000000) (hp : p < n) (hm : 1 ≤ m) (hm2 : m < 10 ^ 30) :
    ∃ r d', 0 ≤ r ∧ r < m ∧ q_l_draw [d, .int m] n = .ok (.int r) n [(p, d')] ∧ Pu p (N + 4) d' := by
  obtain ⟨a, b, c, t, rfl, ha, hb, hb2, hc, hcN, ht, ht2⟩ := h
  by_cases h0 : 0 < a
  · refine ⟨a % m, .lst p [.int (a / m), .int b, .int c, .int t], Int.emod_nonneg _ (by omega), Int.emod_lt_of_pos _ (by omega), ?_, a / m, b, c, t, rfl, Int.ediv_nonneg ha (by omega), hb, hb2, hc, by omega, ht, ht2⟩
    have e1 := modD_int a m n (by omega)
    have e2 := fdivD_int a m n (by omega) (by omega)
    have e3 := setD_0 p (.int a) [.int b, .int c, .int t] (.int (a / m)) rfl
    simp -implicitDefEqProofs only [q_l_draw, b_l_draw, h0, e1, e2, e3, cutW_lt _ _ _ hp, pre_n, pre_o, of_s, r_var, var1_s, r_c, r_nil, r_cons, cons1_o, cons2_o, r_lst, lst1_o, r_tup, tup1_o, r_bin, bin1_o, bin2_o, r_un, un1_o, r_bits, r_tof, tof1_o, r_and, and1_t, and1_f, r_or, or1_t, or1_f, r_not, not1_o, r_eand, eand1_t, eand1_f, r_eor, eor1_t, eor1_f, r_enot, enot1_o, r_eif, eif1_t, eif1_f, r_call, call1_o, r_callD, r_callK, callK1_o, callK2_o, r_make, r_makeP, r_mth, mth1_o, mth2_o, r_b, r_m, m1_lst, m2_o, ofW_s, r_isi, isi1_o, isi3_s, r_fld, fld1_o, fld2_s, r_eqo, eqo1_o, eqo2_o, eqo3_o, r_osm, osm1_o, r_onone, r_sl, sl1_o, sl2_o, sl3_o, r_rev, rev1_o, r_seq, seq1_l, seq1_t, r_rng1, rng1_o, r_zip, zip1_o, r_enum, enum1_o, r_lc, lc1_o, put_0, put_c, setv_c, r_sseq, then1_n, then1_r, then1_c, then1_b, r_snil, r_sretn, r_scont, r_sbrk, r_sexpr, expr1_o, r_sret, ret1_o, r_sset, set1_o, r_sif, sif1_t, sif1_f, r_stg, stg1_o, tg1_s, r_spar, par1_o, r_spar3, par3_o, r_saug, aug0_s, aug1_o, aug2_s, r_ssub, sub0_o, sub1_o, sub2_o, sub3_s, r_sfld, sfld0_o, sfld1_o, r_sfor, for1_o, r_swhile, r_run, run1_n, run1_r, len_rng, len_li, len_lst, len_tup, len_zip, len_enum, puts, putsL, optmap_nil, get_comp, puts_comp, putsL_comp, put_comp', puts_nil, putsL_nil, putE_nil, putE_map, comp_nil, nil_comp, comp_one, cutW_nil, get_one, get_nil, puts_li, putsL_li, li_len, permL, D.has, hasL, hasL_li, isTyD, isClD, isi2, isD_non, isNone, cmpD_int, negD_int, addD_int, subD_int, eqD_int, neD_int, eqD_li, neD_li, listD_lst, listD_tup, tupleD_lst, lenD_lst, lenD_tup, intD1_int, ixD_0, ixD_1, ixD_2, ixD_3, bitsD_int, cutOk, List.map_cons, List.map_nil, List.length_cons, List.length_nil, List.getElem?_cons_zero, List.getElem?_cons_succ, List.set_cons_zero, List.set_cons_succ, List.replicate, List.cons_append, List.nil_append, Option.map_some, Option.map_none, Nat.reduceAdd, Nat.reduceSub, Nat.add_assoc, Nat.zero_add, Nat.add_zero, Bool.not_true, Bool.not_false, beq_self_eq_true, String.reduceBEq, Bool.true_or, Bool.false_or, Bool.or_true, Bool.or_false, Bool.true_and, Bool.false_and, Bool.and_true, Bool.and_false, decide_true, decide_false, Bool.false_eq_true, if_true, if_false, reduceCtorEq, Nat.reduceLeDiff]
  · have h00 : a = 0 := by omega
    subst h00
    obtain ⟨k, hk, hk3⟩ := bits_few hm hm2
    have e2 := fdivD_int (Builtin.Int.intBits m : Nat) 28 n (by omega) (by omega)
    rw [hk] at e2
    obtain ⟨f, o, f0, hl⟩ := draw_loop p n b c t m (k + 1) (by omega) hp hb hb2 hc (by omega) ht ht2 (by omega)
    have e5 := modD_int f m n (by omega)
    have ev : q_l_draw [.lst p [.int 0, .int b, .int c, .int t], .int m] n = .ok (.int (f % m)) n [(p, .lst p [.int 0, .int b, .int (c + (k + 1 : Nat)), .int t])] := by
      have hT : ((1 : Int) + (k : Int)).toNat = k + 1 := by omega
      simp -implicitDefEqProofs only [q_l_draw, b_l_draw, e2, Int.lt_irrefl, rng1_o _ _ _ (show (0 : Int) ≤ 1 + k by omega) (show 1 + (k : Int) ≤ 1000000000 by omega), hT, Src.len, hl, e5, pre_n, pre_o, of_s, r_var, var1_s, r_c, r_nil, r_cons, cons1_o, cons2_o, r_lst, lst1_o, r_tup, tup1_o, r_bin, bin1_o, bin2_o, r_un, un1_o, r_bits, r_tof, tof1_o, r_and, and1_t, and1_f, r_or, or1_t, or1_f, r_not, not1_o, r_eand, eand1_t, eand1_f, r_eor, eor1_t, eor1_f, r_enot, enot1_o, r_eif, eif1_t, eif1_f, r_call, call1_o, r_callD, r_callK, callK1_o, callK2_o, r_make, r_makeP, r_mth, mth1_o, mth2_o, r_b, r_m, m1_lst, m2_o, ofW_s, r_isi, isi1_o, isi3_s, r_fld, fld1_o, fld2_s, r_eqo, eqo1_o, eqo2_o, eqo3_o, r_osm, osm1_o, r_onone, r_sl, sl1_o, sl2_o, sl3_o, r_rev, rev1_o, r_seq, seq1_l, seq1_t, r_rng1, rng1_o, r_zip, zip1_o, r_enum, enum1_o, r_lc, lc1_o, put_0, put_c, setv_c, r_sseq, then1_n, then1_r, then1_c, then1_b, r_snil, r_sretn, r_scont, r_sbrk, r_sexpr, expr1_o, r_sret, ret1_o, r_sset, set1_o, r_sif, sif1_t, sif1_f, r_stg, stg1_o, tg1_s, r_spar, par1_o, r_spar3, par3_o, r_saug, aug0_s, aug1_o, aug2_s, r_ssub, sub0_o, sub1_o, sub2_o, sub3_s, r_sfld, sfld0_o, sfld1_o, r_sfor, for1_o, r_swhile, r_run, run1_n, run1_r, len_rng, len_li, len_lst, len_tup, len_zip, len_enum, puts, putsL, optmap_nil, get_comp, puts_comp, putsL_comp, put_comp', puts_nil, putsL_nil, putE_nil, putE_map, comp_nil, nil_comp, comp_one, cutW_nil, get_one, get_nil, puts_li, putsL_li, li_len, permL, D.has, hasL, hasL_li, isTyD, isClD, isi2, isD_non, isNone, cmpD_int, negD_int, addD_int, subD_int, eqD_int, neD_int, eqD_li, neD_li, listD_lst, listD_tup, tupleD_lst, lenD_lst, lenD_tup, intD1_int, ixD_0, ixD_1, ixD_2, ixD_3, bitsD_int, cutOk, List.map_cons, List.map_nil, List.length_cons, List.length_nil, List.getElem?_cons_zero, List.getElem?_cons_succ, List.set_cons_zero, List.set_cons_succ, List.replicate, List.cons_append, List.nil_append, Option.map_some, Option.map_none, Nat.reduceAdd, Nat.reduceSub, Nat.add_assoc, Nat.zero_add, Nat.add_zero, Bool.not_true, Bool.not_false, beq_self_eq_true, String.reduceBEq, Bool.true_or, Bool.false_or, Bool.or_true, Bool.or_false, Bool.true_and, Bool.false_and, Bool.and_true, Bool.and_false, decide_true, decide_false, Bool.false_eq_true, if_true, if_false, reduceCtorEq, Nat.reduceLeDiff]
    exact ⟨f % m, _, Int.emod_nonneg _ (by omega), Int.emod_lt_of_pos _ (by omega), ev, 0, b, _, t, rfl, by omega, hb, hb2, by omega, by omega, ht, ht2⟩
theorem v_drawP (p : Nat) (N m : Int) (n : Nat) (d : D) (h : Pu p N d) (hN : N ≤ 1000000) (hp : p < n) (hm : 1 ≤ m) (hm2 : m < 10 ^ 30) :
    ∃ r d' w, 0 ≤ r ∧ r < m ∧ q_l_draw [d, .int m] n = .ok (.int r) n w ∧ PW p d w d' ∧ Pu p (N + 4) d' := by
  obtain ⟨r, d', h1, h2, h3, h4⟩ := v_draw p N m n d h hN hp hm hm2
  exact ⟨r, d', _, h1, h2, h3, .one h h4, h4⟩
theorem v_one_of (p N i : _) (xs : List Int) (n : Nat) (d : D) (h : Pu p N d) (hN : N ≤ 1000000) (hp : p < n) (hi : i ≠ p) (h1 : xs ≠ []) (h2 : xs.length ≤ 1000) :
    ∃ x d' w, x ∈ xs ∧ q_l_one_of [d, .lst i (li xs)] n = .ok (.int x) n w ∧ PW p d w d' ∧ Pu p (N + 4) d' := by
  have hl : 0 < xs.length := List.length_pos_iff.mpr h1
  obtain ⟨r, d', w, r0, r1, e, pw, pu⟩ := v_drawP p N xs.length n d h hN hp (by omega) (by omega)
  obtain ⟨k, rfl⟩ : ∃ k : Nat, r = (k : Int) := ⟨r.toNat, by omega⟩
  have hk : k < xs.length := by omega
  refine ⟨xs[k], d', w, List.getElem_mem hk, ?_, pw, pu⟩
  have e2 := ixD_li i xs k xs[k] n (List.getElem?_eq_getElem hk)
  have pz := (PW.nil h).put pw hp (n := n) (n1 := n) (env := [some d, some (.lst i (li xs))]) (hid := [])
  simp -implicitDefEqProofs only [q_l_one_of, b_l_one_of, e, e2, pw.get hi, pz, pre_n, pre_o, of_s, r_var, var1_s, r_c, r_nil, r_cons, cons1_o, cons2_o, r_lst, lst1_o, r_tup, tup1_o, r_bin, bin1_o, bin2_o, r_un, un1_o, r_bits, r_tof, tof1_o, r_and, and1_t, and1_f, r_or, or1_t, or1_f, r_not, not1_o, r_eand, eand1_t, eand1_f, r_eor, eor1_t, eor1_f, r_enot, enot1_o, r_eif, eif1_t, eif1_f, r_call, call1_o, r_callD, r_callK, callK1_o, callK2_o, r_make, r_makeP, r_mth, mth1_o, mth2_o, r_b, r_m, m1_lst, m2_o, ofW_s, r_isi, isi1_o, isi3_s, r_fld, fld1_o, fld2_s, r_eqo, eqo1_o, eqo2_o, eqo3_o, r_osm, osm1_o, r_onone, r_sl, sl1_o, sl2_o, sl3_o, r_rev, rev1_o, r_seq, seq1_l, seq1_t, r_rng1, rng1_o, r_zip, zip1_o, r_enum, enum1_o, r_lc, lc1_o, put_0, put_c, setv_c, r_sseq, then1_n, then1_r, then1_c, then1_b, r_snil, r_sretn, r_scont, r_sbrk, r_sexpr, expr1_o, r_sret, ret1_o, r_sset, set1_o, r_sif, sif1_t, sif1_f, r_stg, stg1_o, tg1_s, r_spar, par1_o, r_spar3, par3_o, r_saug, aug0_s, aug1_o, aug2_s, r_ssub, sub0_o, sub1_o, sub2_o, sub3_s, r_sfld, sfld0_o, sfld1_o, r_sfor, for1_o, r_swhile, r_run, run1_n, run1_r, len_rng, len_li, len_lst, len_tup, len_zip, len_enum, puts, putsL, optmap_nil, get_comp, puts_comp, putsL_comp, put_comp', puts_nil, putsL_nil, putE_nil, putE_map, comp_nil, nil_comp, comp_one, cutW_nil, get_one, get_nil, puts_li, putsL_li, li_len, permL, D.has, hasL, hasL_li, isTyD, isClD, isi2, isD_non, isNone, cmpD_int, negD_int, addD_int, subD_int, eqD_int, neD_int, eqD_li, neD_li, listD_lst, listD_tup, tupleD_lst, lenD_lst, lenD_tup, intD1_int, ixD_0, ixD_1, ixD_2, ixD_3, bitsD_int, cutOk, List.map_cons, List.map_nil, List.length_cons, List.length_nil, List.getElem?_cons_zero, List.getElem?_cons_succ, List.set_cons_zero, List.set_cons_succ, List.replicate, List.cons_append, List.nil_append, Option.map_some, Option.map_none, Nat.reduceAdd, Nat.reduceSub, Nat.add_assoc, Nat.zero_add, Nat.add_zero, Bool.not_true, Bool.not_false, beq_self_eq_true, String.reduceBEq, Bool.true_or, Bool.false_or, Bool.or_true, Bool.or_false, Bool.true_and, Bool.false_and, Bool.and_true, Bool.and_false, decide_true, decide_false, Bool.false_eq_true, if_true, if_false, reduceCtorEq, Nat.reduceLeDiff]
end B
end
section
set_option Elab.async false
set_option linter.all false
set_option maxRecDepth 100000
set_option maxHeartbeats 1000000
namespace B
open PySem Sx
theorem rng_at (K k : Nat) : (Src.rng 0 K).at k = some (if k < K then some (.int (0 + k)) else none) := rfl
theorem v_bases (p : Nat) (N : Int) (d : D) (n K : Nat) (L : List Int) (e1 : Option D) (rest : Ev) (own : List Nat) (tg : TgV) (el : EV) (h : Pu p N d) (hN : N + 4 * 10 ≤ 1000000) (hp : p < n) (hK : K ≤ 10) (hL : L ≠ []) (hL2 : L.length ≤ 1000)
    (hrest : ∀ d1 w d2, PW p d1 w d2 → putE w rest = rest)
    (hel : ∀ (dk : D) (k m : Nat) (x : Int) (d' : D) (w : Wr), n ≤ m → q_l_one_of [dk, .lst m (li L)] (m + 1) = .ok (.int x) (m + 1) w → ∃ env1, tg (.int (0 + k)) (wipeE (some dk :: rest) own) = some env1 ∧ el m env1 = .ok (.int x) (m + 1) w) :
    ∃ xs d' w n', n ≤ n' ∧ lcGo own tg tTrue el K 0 (.rng 0 K) [] n (some d :: rest) = .ok (.lst n' (li xs)) (n' + 1) w ∧ PW p d w d' ∧ Pu p (N + 4 * K) d' ∧ xs.length = K ∧ ∀ x ∈ xs, x ∈ L := by
  obtain ⟨xs, d', w, n', q1, q2, q3, q4, q5, q6⟩ := lc_draws (own := own) (tg := tg) (el := el) (src := .rng 0 K) (p := p) (n := n) (len := K) (N := N) (c := 4) (d := d) (rest := rest) (fun _ x => x ∈ L) hrest (fun _ _ _ _ => rfl) (by rw [rng_at, if_neg (Nat.lt_irrefl _)]) (by omega)
    (fun k dk m hk hm hpu => by
      obtain ⟨x, d', w, hx, e, pw, pu⟩ := v_one_of p _ m L (m + 1) dk hpu (by omega) (by omega) (by omega) hL hL2
      obtain ⟨env1, a1, a2⟩ := hel dk k m x d' w hm e
      exact ⟨.int (0 + k), env1, x, d', w, m + 1, by rw [rng_at, if_pos hk], a1, hx, by omega, a2, pw, pu.mono (by omega)⟩) h rfl
  refine ⟨xs, d', w, n', q1, q2, q3, q4, q5, fun x hx => ?_⟩
  obtain ⟨k, hk⟩ := List.mem_iff_getElem?.mp hx
  exact q6 k x hk
theorem addD_lst (i j : Nat) (xs ys : List D) (n : Nat) (h : xs.length + ys.length ≤ 16777216) : addD (.lst i xs) (.lst j ys) n = some (.lst n (xs ++ ys), n + 1) := if_pos h
theorem addD_li (i j : Nat) (xs ys : List Int) (n : Nat) (h : xs.length + ys.length ≤ 16777216) : addD (.lst i (li xs)) (.lst j (li ys)) n = some (.lst n (li (xs ++ ys)), n + 1) := by
  rw [addD_lst _ _ _ _ _ (by rw [li_len, li_len]; exact h), li_app]
theorem minD_int (a b : Int) (n : Nat) : minD [.int a, .int b] n = some (.int (min a b), n) := rfl
/-- one room more -/
theorem house_one (p n m r j y : Nat) (N b k : Int) (dk bl o5 o6 : _) (rs : List Int) (w : Wr) (d0 : D) (src : Src) (hsrc : ∀ d1 w d2, PW p d1 w d2 → src.puts w = src) (hsrc2 : ∀ x, src.puts [(r, x)] = src) (h : Pu p N dk) (hN : N ≤ 900000) (hp : p < n) (hr : n ≤ r) (hrm : r < m) (hb : 2 ≤ b) (hb2 : b ≤ 60) (hl : rs.length ≤ 100)
    (hbl : ∀ d1 w d2, PW p d1 w d2 → puts w bl = bl) (hbl2 : ∀ x, puts [(r, x)] bl = bl) (h0 : PW p d0 w dk) :
    ∃ x d' w' m', 0 ≤ x ∧ x ≤ 60 ∧ m ≤ m' ∧ PW p d0 w' d' ∧ Pu p (N + 12) d' ∧ ∃ o5' o6',
      b_l_house_2 n ⟨m, [some dk, some (.int k), some bl, some (.lst r (li rs)), some (.int b), o5, o6], w, [src]⟩ =
        .nx ⟨m', [some d', some (.int k), some bl, some (.lst r (li (rs ++ [x]))), some (.int b), o5', o6'], w', [src]⟩ := by
  obtain ⟨x1, d1, w1, a1, a2, e1, pw1, pu1⟩ := v_drawP p N (2 * b + 1) (m + 1) dk h (by omega) (by omega) (by omega) (by omega)
  obtain ⟨x2, d2, w2, a3, a4, e2, pw2, pu2⟩ := v_drawP p _ (3 * b) (m + 1) d1 pu1 (by omega) (by omega) (by omega) (by omega)
  obtain ⟨x, d3, w3, hx, e3, pw3, pu3⟩ := v_one_of p _ (m + 2) ([0, 1, b - 1, b, b + 1, 2 * b - 1, 2 * b] ++ [x1, x2]) (m + 3) d2 pu2 (by omega) (by omega) (by omega) (by simp) (by simp)
  have m1 := mulD_sm (a := 2) (b := b) m (sm_of (by omega) (by omega)) (sm_of (by omega) (by omega))
  have m2 := mulD_sm (a := 2) (b := b) (m + 1) (sm_of (by omega) (by omega)) (sm_of (by omega) (by omega))
  have m3 := mulD_sm (a := 3) (b := b) (m + 1) (sm_of (by omega) (by omega)) (sm_of (by omega) (by omega))
  have hx' : 0 ≤ x := by simp at hx; omega
  have ap := appD_lst r (li rs) (.int (min 60 x)) (m + 3) (by rw [li_len]; omega) rfl
  have t1 := h0.trans pw1
  have t2 := t1.trans pw2
  have t3 := t2.trans pw3
  have e3' : q_l_one_of [d2, .lst (m + 2) [.int 0, .int 1, .int (b - 1), .int b, .int (b + 1), .int (2 * b - 1), .int (2 * b), .int x1, .int x2]] (m + 3) = .ok (.int x) (m + 3) w3 := e3
  have ad : addD (.lst m [.int 0, .int 1, .int (b - 1), .int b, .int (b + 1), .int (2 * b - 1), .int (2 * b)]) (.lst (m + 1) [.int x1, .int x2]) (m + 2) = some (.lst (m + 2) [.int 0, .int 1, .int (b - 1), .int b, .int (b + 1), .int (2 * b - 1), .int (2 * b), .int x1, .int x2], m + 3) := addD_lst _ _ _ _ _ (by simp)
  refine ⟨min 60 x, d3, comp (comp (comp w w1) w2) w3, m + 3, by omega, by omega, by omega, t3, pu3.mono (by omega), ?_⟩
  simp -implicitDefEqProofs only [b_l_house_2, e1, e2, e3', ad, ap, m1, m2, m3, minD_int, pw1.puts, pw2.puts, pw3.puts, pw1.get (i := r) (by omega), pw2.get (i := r) (by omega), pw3.get (i := r) (by omega), pw1.get (i := m) (by omega), pw2.get (i := m) (by omega), pw3.get (i := m) (by omega), pw1.get (i := m + 1) (by omega), pw2.get (i := m + 1) (by omega), pw1.get (i := m + 2) (by omega), pw2.get (i := m + 2) (by omega), pw3.get (i := m + 2) (by omega),
    hbl _ _ _ pw1, hbl _ _ _ pw2, hbl _ _ _ pw3, hbl2, hsrc _ _ _ pw1, hsrc _ _ _ pw2, hsrc _ _ _ pw3, hsrc2, h0.cut hp, t1.cut hp, t2.cut hp, t3.cut hp, h0.put pw1 hp, t1.put pw2 hp, t2.put pw3 hp, t3.putL hp hr, t3.pu (i := r) (by omega), li_snoc, pre_n, pre_o, of_s, r_var, var1_s, r_c, r_nil, r_cons, cons1_o, cons2_o, r_lst, lst1_o, r_tup, tup1_o, r_bin, bin1_o, bin2_o, r_un, un1_o, r_bits, r_tof, tof1_o, r_and, and1_t, and1_f, r_or, or1_t, or1_f, r_not, not1_o, r_eand, eand1_t, eand1_f, r_eor, eor1_t, eor1_f, r_enot, enot1_o, r_eif, eif1_t, eif1_f, r_call, call1_o, r_callD, r_callK, callK1_o, callK2_o, r_make, r_makeP, r_mth, mth1_o, mth2_o, r_b, r_m, m1_lst, m2_o, ofW_s, r_isi, isi1_o, isi3_s, r_fld, fld1_o, fld2_s, r_eqo, eqo1_o, eqo2_o, eqo3_o, r_osm, osm1_o, r_onone, r_sl, sl1_o, sl2_o, sl3_o, r_rev, rev1_o, r_seq, seq1_l, seq1_t, r_rng1, rng1_o, r_zip, zip1_o, r_enum, enum1_o, r_lc, lc1_o, put_0, put_c, setv_c, r_sseq, then1_n, then1_r, then1_c, then1_b, r_snil, r_sretn, r_scont, r_sbrk, r_sexpr, expr1_o, r_sret, ret1_o, r_sset, set1_o, r_sif, sif1_t, sif1_f, r_stg, stg1_o, tg1_s, r_spar, par1_o, r_spar3, par3_o, r_saug, aug0_s, aug1_o, aug2_s, r_ssub, sub0_o, sub1_o, sub2_o, sub3_s, r_sfld, sfld0_o, sfld1_o, r_sfor, for1_o, r_swhile, r_run, run1_n, run1_r, len_rng, len_li, len_lst, len_tup, len_zip, len_enum, puts, putsL, optmap_nil, get_comp, puts_comp, putsL_comp, put_comp', puts_nil, putsL_nil, putE_nil, putE_map, comp_nil, nil_comp, comp_one, cutW_nil, get_one, get_nil, puts_li, putsL_li, li_len, permL, D.has, hasL, hasL_li, isTyD, isClD, isi2, isD_non, isNone, cmpD_int, negD_int, addD_int, subD_int, eqD_int, neD_int, eqD_li, neD_li, listD_lst, listD_tup, tupleD_lst, lenD_lst, lenD_tup, intD1_int, ixD_0, ixD_1, ixD_2, ixD_3, bitsD_int, cutOk, List.map_cons, List.map_nil, List.length_cons, List.length_nil, List.getElem?_cons_zero, List.getElem?_cons_succ, List.set_cons_zero, List.set_cons_succ, List.replicate, List.cons_append, List.nil_append, Option.map_some, Option.map_none, Nat.reduceAdd, Nat.reduceSub, Nat.add_assoc, Nat.zero_add, Nat.add_zero, Bool.not_true, Bool.not_false, beq_self_eq_true, String.reduceBEq, Bool.true_or, Bool.false_or, Bool.or_true, Bool.or_false, Bool.true_and, Bool.false_and, Bool.and_true, Bool.and_false, decide_true, decide_false, Bool.false_eq_true, if_true, if_false, reduceCtorEq, Nat.reduceLeDiff]
  exact ⟨_, _, rfl⟩
theorem house_loop (p n m r q i1 : Nat) (N K : Int) (d0 d1 : D) (bs : List Int) (w : Wr) (h : Pu p N d1) (hN : N ≤ 800000) (hp : p < n) (hr : n ≤ r) (hrm : r < m) (hq : n ≤ q) (hqr : q ≠ r) (hi1 : n ≤ i1) (hir : i1 ≠ r) (hb : Btw 2 60 bs) (hl : bs.length ≤ 10) (h0 : PW p d0 w d1) :
    ∃ rs d' w' m' o4 o5 o6, m ≤ m' ∧ PW p d0 w' d' ∧ Pu p (N + 200) d' ∧ Btw 0 60 rs ∧ rs.length = bs.length + 1 ∧
      forGo (tgN 4) b_l_house_2 n (bs.length + 1) 0 ⟨m, [some d1, some (.int K), some (.lst i1 (li bs)), some (.lst r []), none, none, none], w, [.lst (.lst q (li (bs ++ [4])))]⟩ =
        .nx ⟨m', [some d', some (.int K), some (.lst i1 (li bs)), some (.lst r (li rs)), o4, o5, o6], w', []⟩ := by
  have hb4 : Btw 2 60 (bs ++ [4]) := hb.snoc (by decide) (by decide)
  have hlen : (bs ++ [4]).length = bs.length + 1 := by simp
  obtain ⟨s', src, hh, e1, e2, dk, rs, m', w', o4, o5, o6, e3, a1, a2, a3, a4, a5⟩ := forGo_inv (tg := tgN 4) (body := b_l_house_2) (n0 := n)
    (fun k s => ∃ dk rs m' w' o4 o5 o6, s = ⟨m', [some dk, some (.int K), some (.lst i1 (li bs)), some (.lst r (li rs)), o4, o5, o6], w', [.lst (.lst q (li (bs ++ [4])))]⟩ ∧ m ≤ m' ∧ PW p d0 w' dk ∧ Pu p (N + 12 * k) dk ∧ Btw 0 60 rs ∧ rs.length = k) (bs.length + 1)
    (fun k s hk hI => by
      obtain ⟨dk, rs, m', w', o4, o5, o6, rfl, a1, a2, a3, a4, a5⟩ := hI
      have hk2 : k < (bs ++ [4]).length := by omega
      obtain ⟨b1, b2⟩ := hb4.get (List.getElem?_eq_getElem hk2)
      obtain ⟨x, d', w2, m2, c1, c2, c3, c4, c5, o5', o6', c6⟩ := house_one p n m' r 0 0 (N + 12 * k) (bs ++ [4])[k] K dk (.lst i1 (li bs)) o5 o6 rs w' d0 (.lst (.lst q (li (bs ++ [4]))))
        (fun _ _ _ pw => lst_puts _ _ _ (pw.get (by omega))) (fun x => lst_puts _ _ _ (get_one_ne _ _ _ hqr)) a3 (by omega) hp hr (by omega) b1 b2 (by omega) (fun _ _ _ pw => pw.li (by omega)) (fun x => puts_li _ _ _ (get_one_ne _ _ _ hir)) a2
      refine ⟨_, _, .int (bs ++ [4])[k], _, _, rfl, ?_, rfl, .inl c6, d', rs ++ [x], m2, w2, _, o5', o6', rfl, by omega, c4, c5.mono (by omega), a4.snoc c1 c2, by rw [List.length_append, a5]; rfl⟩
      rw [lst_at, List.getElem?_eq_getElem hk2]; rfl)
    (fun s hI => by
      obtain ⟨dk, rs, m', w', o4, o5, o6, rfl, _⟩ := hI
      exact ⟨_, _, rfl, by rw [lst_at, List.getElem?_eq_none_iff.mpr (by omega)]; rfl⟩)
    (bs.length + 1) 0 ⟨m, [some d1, some (.int K), some (.lst i1 (li bs)), some (.lst r []), none, none, none], w, [.lst (.lst q (li (bs ++ [4])))]⟩ (by omega) ⟨d1, [], m, w, none, none, none, rfl, Nat.le_refl _, h0, by simpa using h, .nil, rfl⟩
  subst e3
  refine ⟨rs, dk, w', m', o4, o5, o6, a1, a2, a3.mono (by omega), a4, a5, ?_⟩
  rw [e1]
  cases e2
  rfl
theorem putE_free {p : Nat} {d : D} {w : Wr} {d' : D} (h : PW p d w d') : ∀ {env : Ev}, (∀ x, some x ∈ env → D.has p x = false) → putE w env = env := by
  intro env he
  rw [putE_map]
  induction env with
  | nil => rfl
  | cons o r ih =>
    rw [List.map_cons, ih fun x hx => he x (List.mem_cons_of_mem _ hx)]
    cases o with
    | none => rfl
    | some x => rw [Option.map_some, h.free (he x List.mem_cons_self)]
theorem v_house (p n : Nat) (N K : Int) (d : D) (h : Pu p N d) (hN : N ≤ 700000) (hp : p < n) (hK : 1 ≤ K) (hK2 : K ≤ 8) :
    ∃ i j k bs rs d' w n', n ≤ i ∧ n ≤ j ∧ n ≤ k ∧ i < n' ∧ j < n' ∧ k < n' ∧ i ≠ j ∧ i ≠ k ∧ j ≠ k ∧ q_l_house [d, .int K] n = .ok (hd i j k bs rs) n' w ∧ PW p d w d' ∧ Pu p (N + 300) d' ∧ Good bs rs ∧ (bs.length : Int) + 1 = K := by
  obtain ⟨k1, rfl⟩ : ∃ k : Nat, K = (k : Int) + 1 := ⟨(K - 1).toNat, by omega⟩
  have hT : ((k1 : Int) + 1 - 1).toNat = k1 := by omega
  obtain ⟨bs, d1, w1, n1, g1, g2, g3, g4, g5, g6⟩ := v_bases p N d n k1 [2, 2, 2, 3, 3, 4, 5, 10, 12, 60] none [some (.int ((k1 : Int) + 1)), none, none, none, none, none] [6] (tgN 6) c_l_house_1 h (by omega) hp (by omega) (by simp) (by simp)
    (fun _ _ _ pw => putE_free pw (by simp [D.has])) (fun dk k m x d' w hm e => by
      refine ⟨_, rfl, ?_⟩
      have e' : q_l_one_of [dk, .lst m [.int 2, .int 2, .int 2, .int 3, .int 3, .int 4, .int 5, .int 10, .int 12, .int 60]] (m + 1) = .ok (.int x) (m + 1) w := e
      simp -implicitDefEqProofs only [c_l_house_1, wipeE, e', pre_n, pre_o, of_s, r_var, var1_s, r_c, r_nil, r_cons, cons1_o, cons2_o, r_lst, lst1_o, r_tup, tup1_o, r_bin, bin1_o, bin2_o, r_un, un1_o, r_bits, r_tof, tof1_o, r_and, and1_t, and1_f, r_or, or1_t, or1_f, r_not, not1_o, r_eand, eand1_t, eand1_f, r_eor, eor1_t, eor1_f, r_enot, enot1_o, r_eif, eif1_t, eif1_f, r_call, call1_o, r_callD, r_callK, callK1_o, callK2_o, r_make, r_makeP, r_mth, mth1_o, mth2_o, r_b, r_m, m1_lst, m2_o, ofW_s, r_isi, isi1_o, isi3_s, r_fld, fld1_o, fld2_s, r_eqo, eqo1_o, eqo2_o, eqo3_o, r_osm, osm1_o, r_onone, r_sl, sl1_o, sl2_o, sl3_o, r_rev, rev1_o, r_seq, seq1_l, seq1_t, r_rng1, rng1_o, r_zip, zip1_o, r_enum, enum1_o, r_lc, lc1_o, put_0, put_c, setv_c, r_sseq, then1_n, then1_r, then1_c, then1_b, r_snil, r_sretn, r_scont, r_sbrk, r_sexpr, expr1_o, r_sret, ret1_o, r_sset, set1_o, r_sif, sif1_t, sif1_f, r_stg, stg1_o, tg1_s, r_spar, par1_o, r_spar3, par3_o, r_saug, aug0_s, aug1_o, aug2_s, r_ssub, sub0_o, sub1_o, sub2_o, sub3_s, r_sfld, sfld0_o, sfld1_o, r_sfor, for1_o, r_swhile, r_run, run1_n, run1_r, len_rng, len_li, len_lst, len_tup, len_zip, len_enum, puts, putsL, optmap_nil, get_comp, puts_comp, putsL_comp, put_comp', puts_nil, putsL_nil, putE_nil, putE_map, comp_nil, nil_comp, comp_one, cutW_nil, get_one, get_nil, puts_li, putsL_li, li_len, permL, D.has, hasL, hasL_li, isTyD, isClD, isi2, isD_non, isNone, cmpD_int, negD_int, addD_int, subD_int, eqD_int, neD_int, eqD_li, neD_li, listD_lst, listD_tup, tupleD_lst, lenD_lst, lenD_tup, intD1_int, ixD_0, ixD_1, ixD_2, ixD_3, bitsD_int, cutOk, List.map_cons, List.map_nil, List.length_cons, List.length_nil, List.getElem?_cons_zero, List.getElem?_cons_succ, List.set_cons_zero, List.set_cons_succ, List.replicate, List.cons_append, List.nil_append, Option.map_some, Option.map_none, Nat.reduceAdd, Nat.reduceSub, Nat.add_assoc, Nat.zero_add, Nat.add_zero, Bool.not_true, Bool.not_false, beq_self_eq_true, String.reduceBEq, Bool.true_or, Bool.false_or, Bool.or_true, Bool.or_false, Bool.true_and, Bool.false_and, Bool.and_true, Bool.and_false, decide_true, decide_false, Bool.false_eq_true, if_true, if_false, reduceCtorEq, Nat.reduceLeDiff])
  have hbs : Btw 2 60 bs := fun x hx => by have := g6 x hx; simp at this; omega
  obtain ⟨rs, d2, w2, n2, o4, o5, o6, l1, l2, l3, l4, l5, l6⟩ := house_loop p n (n1 + 4) (n1 + 1) (n1 + 3) n1 (N + 4 * k1) ((k1 : Int) + 1) d d1 bs w1 g4 (by omega) hp (by omega) (by omega) (by omega) (by omega) (by omega) (by omega) hbs (by omega) g3
  have ad : addD (.lst n1 (li bs)) (.lst (n1 + 2) [.int 4]) (n1 + 3) = some (.lst (n1 + 3) (li (bs ++ [4])), n1 + 4) := addD_li _ _ bs [4] _ (by simp; omega)
  have hlen : (bs ++ [4]).length = bs.length + 1 := by simp
  have pz := (PW.nil h).put g3 hp (n := n) (n1 := n1 + 1) (env := [some d, some (.int ((k1 : Int) + 1)), none, none, none, none, none]) (hid := [])
  refine ⟨n2, n1, n1 + 1, bs, rs, d2, w2, n2 + 1, by omega, by omega, by omega, by omega, by omega, by omega, by omega, by omega, by omega, ?_, l2, l3.mono (by omega), ⟨hbs, l4, l5, by omega⟩, by omega⟩
  simp -implicitDefEqProofs only [q_l_house, b_l_house, rng1_o _ _ _ (show (0 : Int) ≤ (k1 : Int) + 1 - 1 by omega) (show ((k1 : Int) + 1 - 1 : Int) ≤ 1000000000 by omega), hT, g2, pz, g3.puts, ad, hlen, l6, hd, pre_n, pre_o, of_s, r_var, var1_s, r_c, r_nil, r_cons, cons1_o, cons2_o, r_lst, lst1_o, r_tup, tup1_o, r_bin, bin1_o, bin2_o, r_un, un1_o, r_bits, r_tof, tof1_o, r_and, and1_t, and1_f, r_or, or1_t, or1_f, r_not, not1_o, r_eand, eand1_t, eand1_f, r_eor, eor1_t, eor1_f, r_enot, enot1_o, r_eif, eif1_t, eif1_f, r_call, call1_o, r_callD, r_callK, callK1_o, callK2_o, r_make, r_makeP, r_mth, mth1_o, mth2_o, r_b, r_m, m1_lst, m2_o, ofW_s, r_isi, isi1_o, isi3_s, r_fld, fld1_o, fld2_s, r_eqo, eqo1_o, eqo2_o, eqo3_o, r_osm, osm1_o, r_onone, r_sl, sl1_o, sl2_o, sl3_o, r_rev, rev1_o, r_seq, seq1_l, seq1_t, r_rng1, rng1_o, r_zip, zip1_o, r_enum, enum1_o, r_lc, lc1_o, put_0, put_c, setv_c, r_sseq, then1_n, then1_r, then1_c, then1_b, r_snil, r_sretn, r_scont, r_sbrk, r_sexpr, expr1_o, r_sret, ret1_o, r_sset, set1_o, r_sif, sif1_t, sif1_f, r_stg, stg1_o, tg1_s, r_spar, par1_o, r_spar3, par3_o, r_saug, aug0_s, aug1_o, aug2_s, r_ssub, sub0_o, sub1_o, sub2_o, sub3_s, r_sfld, sfld0_o, sfld1_o, r_sfor, for1_o, r_swhile, r_run, run1_n, run1_r, len_rng, len_li, len_lst, len_tup, len_zip, len_enum, puts, putsL, optmap_nil, get_comp, puts_comp, putsL_comp, put_comp', puts_nil, putsL_nil, putE_nil, putE_map, comp_nil, nil_comp, comp_one, cutW_nil, get_one, get_nil, puts_li, putsL_li, li_len, permL, D.has, hasL, hasL_li, isTyD, isClD, isi2, isD_non, isNone, cmpD_int, negD_int, addD_int, subD_int, eqD_int, neD_int, eqD_li, neD_li, listD_lst, listD_tup, tupleD_lst, lenD_lst, lenD_tup, intD1_int, ixD_0, ixD_1, ixD_2, ixD_3, bitsD_int, cutOk, List.map_cons, List.map_nil, List.length_cons, List.length_nil, List.getElem?_cons_zero, List.getElem?_cons_succ, List.set_cons_zero, List.set_cons_succ, List.replicate, List.cons_append, List.nil_append, Option.map_some, Option.map_none, Nat.reduceAdd, Nat.reduceSub, Nat.add_assoc, Nat.zero_add, Nat.add_zero, Bool.not_true, Bool.not_false, beq_self_eq_true, String.reduceBEq, Bool.true_or, Bool.false_or, Bool.or_true, Bool.or_false, Bool.true_and, Bool.false_and, Bool.and_true, Bool.and_false, decide_true, decide_false, Bool.false_eq_true, if_true, if_false, reduceCtorEq, Nat.reduceLeDiff]
end B
end
section
set_option Elab.async false
set_option linter.all false
set_option maxRecDepth 100000
set_option maxHeartbeats 1000000
namespace B
open PySem Sx
/-- a house as made -/
def ho (a b c : Nat) (bs rs : List Int) : D := .ins a 0 [.lst b (li bs), .lst c (li rs)]
theorem v_many_rows (i j k : Nat) (bs rs : List Int) (n : Nat) (h : Btw 0 60 rs) (hl : rs.length ≤ 8) : q_l_many_rows [hd i j k bs rs] n = .ok (.int (mrows rs)) n [] := by
  obtain ⟨s', e1, e2, o, e3⟩ := for_li (tg := tgN 2) (body := b_l_many_rows_1) (n0 := n) (q := k) (xs := rs) (h := []) (s0 := ⟨n, [some (hd i j k bs rs), some (.int 1), none], [], [.lst (.lst k (li rs))]⟩)
    (fun m s => ∃ o, s = ⟨n, [some (hd i j k bs rs), some (.int (mrows (rs.take m))), o], [], [.lst (.lst k (li rs))]⟩) ⟨none, rfl⟩ rfl
    (fun m s x hx _ hZ => by
      obtain ⟨o, rfl⟩ := hZ
      have hm : m < rs.length := (List.getElem?_eq_some_iff.mp hx).1
      obtain ⟨b1, b2⟩ := mrows_sm (h.take m) (by rw [List.length_take]; omega)
      obtain ⟨c1, c2⟩ := h.get hx
      have m1 := mulD_sm (a := mrows (rs.take m)) (b := x + 1) n (sm_of (by omega) (by omega)) (sm_of (by omega) (by omega))
      refine ⟨_, _, rfl, ?_, rfl, some (.int x), rfl⟩
      rw [take_snoc hx, mrows_snoc]
      simp -implicitDefEqProofs only [b_l_many_rows_1, m1, pre_n, pre_o, of_s, r_var, var1_s, r_c, r_nil, r_cons, cons1_o, cons2_o, r_lst, lst1_o, r_tup, tup1_o, r_bin, bin1_o, bin2_o, r_un, un1_o, r_bits, r_tof, tof1_o, r_and, and1_t, and1_f, r_or, or1_t, or1_f, r_not, not1_o, r_eand, eand1_t, eand1_f, r_eor, eor1_t, eor1_f, r_enot, enot1_o, r_eif, eif1_t, eif1_f, r_call, call1_o, r_callD, r_callK, callK1_o, callK2_o, r_make, r_makeP, r_mth, mth1_o, mth2_o, r_b, r_m, m1_lst, m2_o, ofW_s, r_isi, isi1_o, isi3_s, r_fld, fld1_o, fld2_s, r_eqo, eqo1_o, eqo2_o, eqo3_o, r_osm, osm1_o, r_onone, r_sl, sl1_o, sl2_o, sl3_o, r_rev, rev1_o, r_seq, seq1_l, seq1_t, r_rng1, rng1_o, r_zip, zip1_o, r_enum, enum1_o, r_lc, lc1_o, put_0, put_c, setv_c, r_sseq, then1_n, then1_r, then1_c, then1_b, r_snil, r_sretn, r_scont, r_sbrk, r_sexpr, expr1_o, r_sret, ret1_o, r_sset, set1_o, r_sif, sif1_t, sif1_f, r_stg, stg1_o, tg1_s, r_spar, par1_o, r_spar3, par3_o, r_saug, aug0_s, aug1_o, aug2_s, r_ssub, sub0_o, sub1_o, sub2_o, sub3_s, r_sfld, sfld0_o, sfld1_o, r_sfor, for1_o, r_swhile, r_run, run1_n, run1_r, len_rng, len_li, len_lst, len_tup, len_zip, len_enum, puts, putsL, optmap_nil, get_comp, puts_comp, putsL_comp, put_comp', puts_nil, putsL_nil, putE_nil, putE_map, comp_nil, nil_comp, comp_one, cutW_nil, get_one, get_nil, puts_li, putsL_li, li_len, permL, D.has, hasL, hasL_li, isTyD, isClD, isi2, isD_non, isNone, cmpD_int, negD_int, addD_int, subD_int, eqD_int, neD_int, eqD_li, neD_li, listD_lst, listD_tup, tupleD_lst, lenD_lst, lenD_tup, intD1_int, ixD_0, ixD_1, ixD_2, ixD_3, bitsD_int, cutOk, List.map_cons, List.map_nil, List.length_cons, List.length_nil, List.getElem?_cons_zero, List.getElem?_cons_succ, List.set_cons_zero, List.set_cons_succ, List.replicate, List.cons_append, List.nil_append, Option.map_some, Option.map_none, Nat.reduceAdd, Nat.reduceSub, Nat.add_assoc, Nat.zero_add, Nat.add_zero, Bool.not_true, Bool.not_false, beq_self_eq_true, String.reduceBEq, Bool.true_or, Bool.false_or, Bool.or_true, Bool.or_false, Bool.true_and, Bool.false_and, Bool.and_true, Bool.and_false, decide_true, decide_false, Bool.false_eq_true, if_true, if_false, reduceCtorEq, Nat.reduceLeDiff])
  subst e3
  rw [List.take_length] at e1
  unfold hd at e1 ⊢
  simp -implicitDefEqProofs only [q_l_many_rows, b_l_many_rows, e1, pre_n, pre_o, of_s, r_var, var1_s, r_c, r_nil, r_cons, cons1_o, cons2_o, r_lst, lst1_o, r_tup, tup1_o, r_bin, bin1_o, bin2_o, r_un, un1_o, r_bits, r_tof, tof1_o, r_and, and1_t, and1_f, r_or, or1_t, or1_f, r_not, not1_o, r_eand, eand1_t, eand1_f, r_eor, eor1_t, eor1_f, r_enot, enot1_o, r_eif, eif1_t, eif1_f, r_call, call1_o, r_callD, r_callK, callK1_o, callK2_o, r_make, r_makeP, r_mth, mth1_o, mth2_o, r_b, r_m, m1_lst, m2_o, ofW_s, r_isi, isi1_o, isi3_s, r_fld, fld1_o, fld2_s, r_eqo, eqo1_o, eqo2_o, eqo3_o, r_osm, osm1_o, r_onone, r_sl, sl1_o, sl2_o, sl3_o, r_rev, rev1_o, r_seq, seq1_l, seq1_t, r_rng1, rng1_o, r_zip, zip1_o, r_enum, enum1_o, r_lc, lc1_o, put_0, put_c, setv_c, r_sseq, then1_n, then1_r, then1_c, then1_b, r_snil, r_sretn, r_scont, r_sbrk, r_sexpr, expr1_o, r_sret, ret1_o, r_sset, set1_o, r_sif, sif1_t, sif1_f, r_stg, stg1_o, tg1_s, r_spar, par1_o, r_spar3, par3_o, r_saug, aug0_s, aug1_o, aug2_s, r_ssub, sub0_o, sub1_o, sub2_o, sub3_s, r_sfld, sfld0_o, sfld1_o, r_sfor, for1_o, r_swhile, r_run, run1_n, run1_r, len_rng, len_li, len_lst, len_tup, len_zip, len_enum, puts, putsL, optmap_nil, get_comp, puts_comp, putsL_comp, put_comp', puts_nil, putsL_nil, putE_nil, putE_map, comp_nil, nil_comp, comp_one, cutW_nil, get_one, get_nil, puts_li, putsL_li, li_len, permL, D.has, hasL, hasL_li, isTyD, isClD, isi2, isD_non, isNone, cmpD_int, negD_int, addD_int, subD_int, eqD_int, neD_int, eqD_li, neD_li, listD_lst, listD_tup, tupleD_lst, lenD_lst, lenD_tup, intD1_int, ixD_0, ixD_1, ixD_2, ixD_3, bitsD_int, cutOk, List.map_cons, List.map_nil, List.length_cons, List.length_nil, List.getElem?_cons_zero, List.getElem?_cons_succ, List.set_cons_zero, List.set_cons_succ, List.replicate, List.cons_append, List.nil_append, Option.map_some, Option.map_none, Nat.reduceAdd, Nat.reduceSub, Nat.add_assoc, Nat.zero_add, Nat.add_zero, Bool.not_true, Bool.not_false, beq_self_eq_true, String.reduceBEq, Bool.true_or, Bool.false_or, Bool.or_true, Bool.or_false, Bool.true_and, Bool.false_and, Bool.and_true, Bool.and_false, decide_true, decide_false, Bool.false_eq_true, if_true, if_false, reduceCtorEq, Nat.reduceLeDiff]
theorem v_l_weights (i j k : Nat) (bs rs : List Int) (n : Nat) (hi : i < n) (hj : j < n) (hk : k < n) (h : Btw 2 60 bs) (hl : bs.length ≤ 7) : q_l_weights [hd i j k bs rs] n = .ok (.lst n (li (wts bs))) (n + 1) [] := by
  obtain ⟨s', e1, e2, o, e3⟩ := for_li (tg := tgN 2) (body := b_l_weights_1) (n0 := n) (q := j) (xs := bs) (h := []) (s0 := ⟨n + 1, [some (hd i j k bs rs), some (.lst n (li [1])), none], [], [.lst (.lst j (li bs))]⟩)
    (fun m s => ∃ o, s = ⟨n + 1, [some (hd i j k bs rs), some (.lst n (li (wts (bs.take m)))), o], [], [.lst (.lst j (li bs))]⟩) ⟨none, rfl⟩ rfl
    (fun m s x hx _ hZ => by
      obtain ⟨o, rfl⟩ := hZ
      have hm : m < bs.length := (List.getElem?_eq_some_iff.mp hx).1
      obtain ⟨b1, b2⟩ := prd_sm (h.take m) (by rw [List.length_take]; omega)
      obtain ⟨c1, c2⟩ := h.get hx
      have m1 := mulD_sm (a := prd (bs.take m)) (b := x) (n + 1) (sm_of (by omega) (by omega)) (sm_of (by omega) (by omega))
      have ap := appD_lst n (li (wts (bs.take m))) (.int (prd (bs.take m) * x)) (n + 1) (by rw [li_len, wts_len, List.length_take]; omega) rfl
      have w1 := ixD_wts n (bs.take m) (n + 1)
      refine ⟨_, _, rfl, ?_, rfl, some (.int x), rfl⟩
      rw [take_snoc hx, wts_snoc]
      have ls := lst_puts j bs [(n, .lst n (li (wts (bs.take m)) ++ [.int (prd (bs.take m) * x)]))] (get_one_ne _ _ _ (by omega))
      simp -implicitDefEqProofs only [b_l_weights_1, w1, m1, ap, hd, get_one_ne _ _ _ (show i ≠ n by omega), get_one_ne _ _ _ (show j ≠ n by omega), get_one_ne _ _ _ (show k ≠ n by omega), cutW_ge _ _ _ (Nat.le_refl n), ls, put_c, pre_n, pre_o, of_s, r_var, var1_s, r_c, r_nil, r_cons, cons1_o, cons2_o, r_lst, lst1_o, r_tup, tup1_o, r_bin, bin1_o, bin2_o, r_un, un1_o, r_bits, r_tof, tof1_o, r_and, and1_t, and1_f, r_or, or1_t, or1_f, r_not, not1_o, r_eand, eand1_t, eand1_f, r_eor, eor1_t, eor1_f, r_enot, enot1_o, r_eif, eif1_t, eif1_f, r_call, call1_o, r_callD, r_callK, callK1_o, callK2_o, r_make, r_makeP, r_mth, mth1_o, mth2_o, r_b, r_m, m1_lst, m2_o, ofW_s, r_isi, isi1_o, isi3_s, r_fld, fld1_o, fld2_s, r_eqo, eqo1_o, eqo2_o, eqo3_o, r_osm, osm1_o, r_onone, r_sl, sl1_o, sl2_o, sl3_o, r_rev, rev1_o, r_seq, seq1_l, seq1_t, r_rng1, rng1_o, r_zip, zip1_o, r_enum, enum1_o, r_lc, lc1_o, put_0, put_c, setv_c, r_sseq, then1_n, then1_r, then1_c, then1_b, r_snil, r_sretn, r_scont, r_sbrk, r_sexpr, expr1_o, r_sret, ret1_o, r_sset, set1_o, r_sif, sif1_t, sif1_f, r_stg, stg1_o, tg1_s, r_spar, par1_o, r_spar3, par3_o, r_saug, aug0_s, aug1_o, aug2_s, r_ssub, sub0_o, sub1_o, sub2_o, sub3_s, r_sfld, sfld0_o, sfld1_o, r_sfor, for1_o, r_swhile, r_run, run1_n, run1_r, len_rng, len_li, len_lst, len_tup, len_zip, len_enum, puts, putsL, optmap_nil, get_comp, puts_comp, putsL_comp, put_comp', puts_nil, putsL_nil, putE_nil, putE_map, comp_nil, nil_comp, comp_one, cutW_nil, get_one, get_nil, puts_li, putsL_li, li_len, permL, D.has, hasL, hasL_li, isTyD, isClD, isi2, isD_non, isNone, cmpD_int, negD_int, addD_int, subD_int, eqD_int, neD_int, eqD_li, neD_li, listD_lst, listD_tup, tupleD_lst, lenD_lst, lenD_tup, intD1_int, ixD_0, ixD_1, ixD_2, ixD_3, bitsD_int, cutOk, List.map_cons, List.map_nil, List.length_cons, List.length_nil, List.getElem?_cons_zero, List.getElem?_cons_succ, List.set_cons_zero, List.set_cons_succ, List.replicate, List.cons_append, List.nil_append, Option.map_some, Option.map_none, Nat.reduceAdd, Nat.reduceSub, Nat.add_assoc, Nat.zero_add, Nat.add_zero, Bool.not_true, Bool.not_false, beq_self_eq_true, String.reduceBEq, Bool.true_or, Bool.false_or, Bool.or_true, Bool.or_false, Bool.true_and, Bool.false_and, Bool.and_true, Bool.and_false, decide_true, decide_false, Bool.false_eq_true, if_true, if_false, reduceCtorEq, Nat.reduceLeDiff]
      rw [← li_snoc])
  subst e3
  rw [List.take_length] at e1
  unfold hd at e1 ⊢
  have e0 : [D.int 1] = li [1] := rfl
  simp -implicitDefEqProofs only [q_l_weights, b_l_weights, e0, e1, pre_n, pre_o, of_s, r_var, var1_s, r_c, r_nil, r_cons, cons1_o, cons2_o, r_lst, lst1_o, r_tup, tup1_o, r_bin, bin1_o, bin2_o, r_un, un1_o, r_bits, r_tof, tof1_o, r_and, and1_t, and1_f, r_or, or1_t, or1_f, r_not, not1_o, r_eand, eand1_t, eand1_f, r_eor, eor1_t, eor1_f, r_enot, enot1_o, r_eif, eif1_t, eif1_f, r_call, call1_o, r_callD, r_callK, callK1_o, callK2_o, r_make, r_makeP, r_mth, mth1_o, mth2_o, r_b, r_m, m1_lst, m2_o, ofW_s, r_isi, isi1_o, isi3_s, r_fld, fld1_o, fld2_s, r_eqo, eqo1_o, eqo2_o, eqo3_o, r_osm, osm1_o, r_onone, r_sl, sl1_o, sl2_o, sl3_o, r_rev, rev1_o, r_seq, seq1_l, seq1_t, r_rng1, rng1_o, r_zip, zip1_o, r_enum, enum1_o, r_lc, lc1_o, put_0, put_c, setv_c, r_sseq, then1_n, then1_r, then1_c, then1_b, r_snil, r_sretn, r_scont, r_sbrk, r_sexpr, expr1_o, r_sret, ret1_o, r_sset, set1_o, r_sif, sif1_t, sif1_f, r_stg, stg1_o, tg1_s, r_spar, par1_o, r_spar3, par3_o, r_saug, aug0_s, aug1_o, aug2_s, r_ssub, sub0_o, sub1_o, sub2_o, sub3_s, r_sfld, sfld0_o, sfld1_o, r_sfor, for1_o, r_swhile, r_run, run1_n, run1_r, len_rng, len_li, len_lst, len_tup, len_zip, len_enum, puts, putsL, optmap_nil, get_comp, puts_comp, putsL_comp, put_comp', puts_nil, putsL_nil, putE_nil, putE_map, comp_nil, nil_comp, comp_one, cutW_nil, get_one, get_nil, puts_li, putsL_li, li_len, permL, D.has, hasL, hasL_li, isTyD, isClD, isi2, isD_non, isNone, cmpD_int, negD_int, addD_int, subD_int, eqD_int, neD_int, eqD_li, neD_li, listD_lst, listD_tup, tupleD_lst, lenD_lst, lenD_tup, intD1_int, ixD_0, ixD_1, ixD_2, ixD_3, bitsD_int, cutOk, List.map_cons, List.map_nil, List.length_cons, List.length_nil, List.getElem?_cons_zero, List.getElem?_cons_succ, List.set_cons_zero, List.set_cons_succ, List.replicate, List.cons_append, List.nil_append, Option.map_some, Option.map_none, Nat.reduceAdd, Nat.reduceSub, Nat.add_assoc, Nat.zero_add, Nat.add_zero, Bool.not_true, Bool.not_false, beq_self_eq_true, String.reduceBEq, Bool.true_or, Bool.false_or, Bool.or_true, Bool.or_false, Bool.true_and, Bool.false_and, Bool.and_true, Bool.and_false, decide_true, decide_false, Bool.false_eq_true, if_true, if_false, reduceCtorEq, Nat.reduceLeDiff]
theorem v_weights_of (a b c : Nat) (bs rs : List Int) (n : Nat) (hi : a < n) (hj : b < n) (hk : c < n) (h : Btw 2 60 bs) (hl : bs.length ≤ 7) : q_weights_of [ho a b c bs rs] n = .ok (.lst n (li (wts bs))) (n + 1) [] := by
  obtain ⟨s', e1, e2, o, e3⟩ := for_li (tg := tgN 2) (body := b_weights_of_1) (n0 := n) (q := b) (xs := bs) (h := []) (s0 := ⟨n + 1, [some (ho a b c bs rs), some (.lst n (li [1])), none], [], [.lst (.lst b (li bs))]⟩)
    (fun m s => ∃ o, s = ⟨n + 1, [some (ho a b c bs rs), some (.lst n (li (wts (bs.take m)))), o], [], [.lst (.lst b (li bs))]⟩) ⟨none, rfl⟩ rfl
    (fun m s x hx _ hZ => by
      obtain ⟨o, rfl⟩ := hZ
      have hm : m < bs.length := (List.getElem?_eq_some_iff.mp hx).1
      obtain ⟨b1, b2⟩ := prd_sm (h.take m) (by rw [List.length_take]; omega)
      obtain ⟨c1, c2⟩ := h.get hx
      have m1 := mulD_sm (a := prd (bs.take m)) (b := x) (n + 1) (sm_of (by omega) (by omega)) (sm_of (by omega) (by omega))
      have ap := appD_lst n (li (wts (bs.take m))) (.int (prd (bs.take m) * x)) (n + 1) (by rw [li_len, wts_len, List.length_take]; omega) rfl
      have w1 := ixD_wts n (bs.take m) (n + 1)
      refine ⟨_, _, rfl, ?_, rfl, some (.int x), rfl⟩
      rw [take_snoc hx, wts_snoc]
      have ls := lst_puts b bs [(n, .lst n (li (wts (bs.take m)) ++ [.int (prd (bs.take m) * x)]))] (get_one_ne _ _ _ (by omega))
      simp -implicitDefEqProofs only [b_weights_of_1, w1, m1, ap, ho, get_one_ne _ _ _ (show a ≠ n by omega), get_one_ne _ _ _ (show b ≠ n by omega), get_one_ne _ _ _ (show c ≠ n by omega), cutW_ge _ _ _ (Nat.le_refl n), ls, put_c, pre_n, pre_o, of_s, r_var, var1_s, r_c, r_nil, r_cons, cons1_o, cons2_o, r_lst, lst1_o, r_tup, tup1_o, r_bin, bin1_o, bin2_o, r_un, un1_o, r_bits, r_tof, tof1_o, r_and, and1_t, and1_f, r_or, or1_t, or1_f, r_not, not1_o, r_eand, eand1_t, eand1_f, r_eor, eor1_t, eor1_f, r_enot, enot1_o, r_eif, eif1_t, eif1_f, r_call, call1_o, r_callD, r_callK, callK1_o, callK2_o, r_make, r_makeP, r_mth, mth1_o, mth2_o, r_b, r_m, m1_lst, m2_o, ofW_s, r_isi, isi1_o, isi3_s, r_fld, fld1_o, fld2_s, r_eqo, eqo1_o, eqo2_o, eqo3_o, r_osm, osm1_o, r_onone, r_sl, sl1_o, sl2_o, sl3_o, r_rev, rev1_o, r_seq, seq1_l, seq1_t, r_rng1, rng1_o, r_zip, zip1_o, r_enum, enum1_o, r_lc, lc1_o, put_0, put_c, setv_c, r_sseq, then1_n, then1_r, then1_c, then1_b, r_snil, r_sretn, r_scont, r_sbrk, r_sexpr, expr1_o, r_sret, ret1_o, r_sset, set1_o, r_sif, sif1_t, sif1_f, r_stg, stg1_o, tg1_s, r_spar, par1_o, r_spar3, par3_o, r_saug, aug0_s, aug1_o, aug2_s, r_ssub, sub0_o, sub1_o, sub2_o, sub3_s, r_sfld, sfld0_o, sfld1_o, r_sfor, for1_o, r_swhile, r_run, run1_n, run1_r, len_rng, len_li, len_lst, len_tup, len_zip, len_enum, puts, putsL, optmap_nil, get_comp, puts_comp, putsL_comp, put_comp', puts_nil, putsL_nil, putE_nil, putE_map, comp_nil, nil_comp, comp_one, cutW_nil, get_one, get_nil, puts_li, putsL_li, li_len, permL, D.has, hasL, hasL_li, isTyD, isClD, isi2, isD_non, isNone, cmpD_int, negD_int, addD_int, subD_int, eqD_int, neD_int, eqD_li, neD_li, listD_lst, listD_tup, tupleD_lst, lenD_lst, lenD_tup, intD1_int, ixD_0, ixD_1, ixD_2, ixD_3, bitsD_int, cutOk, List.map_cons, List.map_nil, List.length_cons, List.length_nil, List.getElem?_cons_zero, List.getElem?_cons_succ, List.set_cons_zero, List.set_cons_succ, List.replicate, List.cons_append, List.nil_append, Option.map_some, Option.map_none, Nat.reduceAdd, Nat.reduceSub, Nat.add_assoc, Nat.zero_add, Nat.add_zero, Bool.not_true, Bool.not_false, beq_self_eq_true, String.reduceBEq, Bool.true_or, Bool.false_or, Bool.or_true, Bool.or_false, Bool.true_and, Bool.false_and, Bool.and_true, Bool.and_false, decide_true, decide_false, Bool.false_eq_true, if_true, if_false, reduceCtorEq, Nat.reduceLeDiff]
      rw [← li_snoc])
  subst e3
  rw [List.take_length] at e1
  unfold ho at e1 ⊢
  have e0 : [D.int 1] = li [1] := rfl
  simp -implicitDefEqProofs only [q_weights_of, b_weights_of, e0, e1, pre_n, pre_o, of_s, r_var, var1_s, r_c, r_nil, r_cons, cons1_o, cons2_o, r_lst, lst1_o, r_tup, tup1_o, r_bin, bin1_o, bin2_o, r_un, un1_o, r_bits, r_tof, tof1_o, r_and, and1_t, and1_f, r_or, or1_t, or1_f, r_not, not1_o, r_eand, eand1_t, eand1_f, r_eor, eor1_t, eor1_f, r_enot, enot1_o, r_eif, eif1_t, eif1_f, r_call, call1_o, r_callD, r_callK, callK1_o, callK2_o, r_make, r_makeP, r_mth, mth1_o, mth2_o, r_b, r_m, m1_lst, m2_o, ofW_s, r_isi, isi1_o, isi3_s, r_fld, fld1_o, fld2_s, r_eqo, eqo1_o, eqo2_o, eqo3_o, r_osm, osm1_o, r_onone, r_sl, sl1_o, sl2_o, sl3_o, r_rev, rev1_o, r_seq, seq1_l, seq1_t, r_rng1, rng1_o, r_zip, zip1_o, r_enum, enum1_o, r_lc, lc1_o, put_0, put_c, setv_c, r_sseq, then1_n, then1_r, then1_c, then1_b, r_snil, r_sretn, r_scont, r_sbrk, r_sexpr, expr1_o, r_sret, ret1_o, r_sset, set1_o, r_sif, sif1_t, sif1_f, r_stg, stg1_o, tg1_s, r_spar, par1_o, r_spar3, par3_o, r_saug, aug0_s, aug1_o, aug2_s, r_ssub, sub0_o, sub1_o, sub2_o, sub3_s, r_sfld, sfld0_o, sfld1_o, r_sfor, for1_o, r_swhile, r_run, run1_n, run1_r, len_rng, len_li, len_lst, len_tup, len_zip, len_enum, puts, putsL, optmap_nil, get_comp, puts_comp, putsL_comp, put_comp', puts_nil, putsL_nil, putE_nil, putE_map, comp_nil, nil_comp, comp_one, cutW_nil, get_one, get_nil, puts_li, putsL_li, li_len, permL, D.has, hasL, hasL_li, isTyD, isClD, isi2, isD_non, isNone, cmpD_int, negD_int, addD_int, subD_int, eqD_int, neD_int, eqD_li, neD_li, listD_lst, listD_tup, tupleD_lst, lenD_lst, lenD_tup, intD1_int, ixD_0, ixD_1, ixD_2, ixD_3, bitsD_int, cutOk, List.map_cons, List.map_nil, List.length_cons, List.length_nil, List.getElem?_cons_zero, List.getElem?_cons_succ, List.set_cons_zero, List.set_cons_succ, List.replicate, List.cons_append, List.nil_append, Option.map_some, Option.map_none, Nat.reduceAdd, Nat.reduceSub, Nat.add_assoc, Nat.zero_add, Nat.add_zero, Bool.not_true, Bool.not_false, beq_self_eq_true, String.reduceBEq, Bool.true_or, Bool.false_or, Bool.or_true, Bool.or_false, Bool.true_and, Bool.false_and, Bool.and_true, Bool.and_false, decide_true, decide_false, Bool.false_eq_true, if_true, if_false, reduceCtorEq, Nat.reduceLeDiff]
end B
end
section
set_option Elab.async false
set_option linter.all false
set_option maxRecDepth 100000
set_option maxHeartbeats 1000000
namespace B
open PySem Sx
theorem v_is_whole (x : Int) (n : Nat) : q_is_whole [.int x] n = .ok (.bl true) n [] := rfl
theorem v_is_count (x : Int) (n : Nat) (h : 0 ≤ x) : q_is_count [.int x, .non] n = .ok (.bl true) n [] := by
  have : ¬ x < 0 := by omega
  simp -implicitDefEqProofs only [q_is_count, b_is_count, v_is_whole, this, pre_n, pre_o, of_s, r_var, var1_s, r_c, r_nil, r_cons, cons1_o, cons2_o, r_lst, lst1_o, r_tup, tup1_o, r_bin, bin1_o, bin2_o, r_un, un1_o, r_bits, r_tof, tof1_o, r_and, and1_t, and1_f, r_or, or1_t, or1_f, r_not, not1_o, r_eand, eand1_t, eand1_f, r_eor, eor1_t, eor1_f, r_enot, enot1_o, r_eif, eif1_t, eif1_f, r_call, call1_o, r_callD, r_callK, callK1_o, callK2_o, r_make, r_makeP, r_mth, mth1_o, mth2_o, r_b, r_m, m1_lst, m2_o, ofW_s, r_isi, isi1_o, isi3_s, r_fld, fld1_o, fld2_s, r_eqo, eqo1_o, eqo2_o, eqo3_o, r_osm, osm1_o, r_onone, r_sl, sl1_o, sl2_o, sl3_o, r_rev, rev1_o, r_seq, seq1_l, seq1_t, r_rng1, rng1_o, r_zip, zip1_o, r_enum, enum1_o, r_lc, lc1_o, put_0, put_c, setv_c, r_sseq, then1_n, then1_r, then1_c, then1_b, r_snil, r_sretn, r_scont, r_sbrk, r_sexpr, expr1_o, r_sret, ret1_o, r_sset, set1_o, r_sif, sif1_t, sif1_f, r_stg, stg1_o, tg1_s, r_spar, par1_o, r_spar3, par3_o, r_saug, aug0_s, aug1_o, aug2_s, r_ssub, sub0_o, sub1_o, sub2_o, sub3_s, r_sfld, sfld0_o, sfld1_o, r_sfor, for1_o, r_swhile, r_run, run1_n, run1_r, len_rng, len_li, len_lst, len_tup, len_zip, len_enum, puts, putsL, optmap_nil, get_comp, puts_comp, putsL_comp, put_comp', puts_nil, putsL_nil, putE_nil, putE_map, comp_nil, nil_comp, comp_one, cutW_nil, get_one, get_nil, puts_li, putsL_li, li_len, permL, D.has, hasL, hasL_li, isTyD, isClD, isi2, isD_non, isNone, cmpD_int, negD_int, addD_int, subD_int, eqD_int, neD_int, eqD_li, neD_li, listD_lst, listD_tup, tupleD_lst, lenD_lst, lenD_tup, intD1_int, ixD_0, ixD_1, ixD_2, ixD_3, bitsD_int, cutOk, List.map_cons, List.map_nil, List.length_cons, List.length_nil, List.getElem?_cons_zero, List.getElem?_cons_succ, List.set_cons_zero, List.set_cons_succ, List.replicate, List.cons_append, List.nil_append, Option.map_some, Option.map_none, Nat.reduceAdd, Nat.reduceSub, Nat.add_assoc, Nat.zero_add, Nat.add_zero, Bool.not_true, Bool.not_false, beq_self_eq_true, String.reduceBEq, Bool.true_or, Bool.false_or, Bool.or_true, Bool.or_false, Bool.true_and, Bool.false_and, Bool.and_true, Bool.and_false, decide_true, decide_false, Bool.false_eq_true, if_true, if_false, reduceCtorEq, Nat.reduceLeDiff]
theorem v_is_base (x : Int) (n : Nat) (h : 2 ≤ x) : q_is_base [.int x] n = .ok (.bl true) n [] := by
  have : 1 < x := by omega
  simp -implicitDefEqProofs only [q_is_base, b_is_base, v_is_whole, this, pre_n, pre_o, of_s, r_var, var1_s, r_c, r_nil, r_cons, cons1_o, cons2_o, r_lst, lst1_o, r_tup, tup1_o, r_bin, bin1_o, bin2_o, r_un, un1_o, r_bits, r_tof, tof1_o, r_and, and1_t, and1_f, r_or, or1_t, or1_f, r_not, not1_o, r_eand, eand1_t, eand1_f, r_eor, eor1_t, eor1_f, r_enot, enot1_o, r_eif, eif1_t, eif1_f, r_call, call1_o, r_callD, r_callK, callK1_o, callK2_o, r_make, r_makeP, r_mth, mth1_o, mth2_o, r_b, r_m, m1_lst, m2_o, ofW_s, r_isi, isi1_o, isi3_s, r_fld, fld1_o, fld2_s, r_eqo, eqo1_o, eqo2_o, eqo3_o, r_osm, osm1_o, r_onone, r_sl, sl1_o, sl2_o, sl3_o, r_rev, rev1_o, r_seq, seq1_l, seq1_t, r_rng1, rng1_o, r_zip, zip1_o, r_enum, enum1_o, r_lc, lc1_o, put_0, put_c, setv_c, r_sseq, then1_n, then1_r, then1_c, then1_b, r_snil, r_sretn, r_scont, r_sbrk, r_sexpr, expr1_o, r_sret, ret1_o, r_sset, set1_o, r_sif, sif1_t, sif1_f, r_stg, stg1_o, tg1_s, r_spar, par1_o, r_spar3, par3_o, r_saug, aug0_s, aug1_o, aug2_s, r_ssub, sub0_o, sub1_o, sub2_o, sub3_s, r_sfld, sfld0_o, sfld1_o, r_sfor, for1_o, r_swhile, r_run, run1_n, run1_r, len_rng, len_li, len_lst, len_tup, len_zip, len_enum, puts, putsL, optmap_nil, get_comp, puts_comp, putsL_comp, put_comp', puts_nil, putsL_nil, putE_nil, putE_map, comp_nil, nil_comp, comp_one, cutW_nil, get_one, get_nil, puts_li, putsL_li, li_len, permL, D.has, hasL, hasL_li, isTyD, isClD, isi2, isD_non, isNone, cmpD_int, negD_int, addD_int, subD_int, eqD_int, neD_int, eqD_li, neD_li, listD_lst, listD_tup, tupleD_lst, lenD_lst, lenD_tup, intD1_int, ixD_0, ixD_1, ixD_2, ixD_3, bitsD_int, cutOk, List.map_cons, List.map_nil, List.length_cons, List.length_nil, List.getElem?_cons_zero, List.getElem?_cons_succ, List.set_cons_zero, List.set_cons_succ, List.replicate, List.cons_append, List.nil_append, Option.map_some, Option.map_none, Nat.reduceAdd, Nat.reduceSub, Nat.add_assoc, Nat.zero_add, Nat.add_zero, Bool.not_true, Bool.not_false, beq_self_eq_true, String.reduceBEq, Bool.true_or, Bool.false_or, Bool.or_true, Bool.or_false, Bool.true_and, Bool.false_and, Bool.and_true, Bool.and_false, decide_true, decide_false, Bool.false_eq_true, if_true, if_false, reduceCtorEq, Nat.reduceLeDiff]
theorem allD_rep (i m n : Nat) : allD [.lst i (List.replicate m (.bl true))] n = some (.bl true, n) := by
  show (match asBls (List.replicate m (D.bl true)) with | some ns => some (D.bl (ns.all id), n) | none => none) = _
  rw [asBls_rep]
  show some (D.bl ((List.replicate m true).all id), n) = _
  rw [all_rep]
theorem lc_rep {own : List Nat} {el : EV} {t : Nat} (i : Nat) (xs : List Int) (n : Nat) (env : Ev) (hz : xs.length ≤ 1000) (hf : ∀ x ∈ xs, el n ((wipeE env own).set t (some (.int x))) = .ok (.bl true) n []) :
    lcGo own (tgN t) tTrue el xs.length 0 (.lst (.lst i (li xs))) [] n env = .ok (.lst n (List.replicate xs.length (.bl true))) (n + 1) [] := by
  have := lcGo_pure (own := own) (tg := tgN t) (el := el) (src := .lst (.lst i (li xs))) (ds := li xs) (fun _ => D.bl true) env n (fun j => rfl) rfl
    (fun d hd => by
      obtain ⟨x, hx, rfl⟩ := List.mem_map.mp hd
      exact ⟨_, rfl, hf x hx⟩) (by rw [li_len]; exact Nat.le_trans hz (by decide))
  rw [len_li, map_const, li_len] at this
  exact this
theorem v_are_counts (i : Nat) (xs : List Int) (n : Nat) (h : ∀ x ∈ xs, 0 ≤ x) (hz : xs.length ≤ 1000) : q_are_counts [.lst i (li xs)] n = .ok (.bl true) (n + 1) [] := by
  have hl := lc_rep (own := [1]) (el := c_are_counts_1) (t := 1) i xs n [some (.lst i (li xs)), none] hz (fun x hx => by
    simp -implicitDefEqProofs only [c_are_counts_1, wipeE, v_is_count x _ (h x hx), pre_n, pre_o, of_s, r_var, var1_s, r_c, r_nil, r_cons, cons1_o, cons2_o, r_lst, lst1_o, r_tup, tup1_o, r_bin, bin1_o, bin2_o, r_un, un1_o, r_bits, r_tof, tof1_o, r_and, and1_t, and1_f, r_or, or1_t, or1_f, r_not, not1_o, r_eand, eand1_t, eand1_f, r_eor, eor1_t, eor1_f, r_enot, enot1_o, r_eif, eif1_t, eif1_f, r_call, call1_o, r_callD, r_callK, callK1_o, callK2_o, r_make, r_makeP, r_mth, mth1_o, mth2_o, r_b, r_m, m1_lst, m2_o, ofW_s, r_isi, isi1_o, isi3_s, r_fld, fld1_o, fld2_s, r_eqo, eqo1_o, eqo2_o, eqo3_o, r_osm, osm1_o, r_onone, r_sl, sl1_o, sl2_o, sl3_o, r_rev, rev1_o, r_seq, seq1_l, seq1_t, r_rng1, rng1_o, r_zip, zip1_o, r_enum, enum1_o, r_lc, lc1_o, put_0, put_c, setv_c, r_sseq, then1_n, then1_r, then1_c, then1_b, r_snil, r_sretn, r_scont, r_sbrk, r_sexpr, expr1_o, r_sret, ret1_o, r_sset, set1_o, r_sif, sif1_t, sif1_f, r_stg, stg1_o, tg1_s, r_spar, par1_o, r_spar3, par3_o, r_saug, aug0_s, aug1_o, aug2_s, r_ssub, sub0_o, sub1_o, sub2_o, sub3_s, r_sfld, sfld0_o, sfld1_o, r_sfor, for1_o, r_swhile, r_run, run1_n, run1_r, len_rng, len_li, len_lst, len_tup, len_zip, len_enum, puts, putsL, optmap_nil, get_comp, puts_comp, putsL_comp, put_comp', puts_nil, putsL_nil, putE_nil, putE_map, comp_nil, nil_comp, comp_one, cutW_nil, get_one, get_nil, puts_li, putsL_li, li_len, permL, D.has, hasL, hasL_li, isTyD, isClD, isi2, isD_non, isNone, cmpD_int, negD_int, addD_int, subD_int, eqD_int, neD_int, eqD_li, neD_li, listD_lst, listD_tup, tupleD_lst, lenD_lst, lenD_tup, intD1_int, ixD_0, ixD_1, ixD_2, ixD_3, bitsD_int, cutOk, List.map_cons, List.map_nil, List.length_cons, List.length_nil, List.getElem?_cons_zero, List.getElem?_cons_succ, List.set_cons_zero, List.set_cons_succ, List.replicate, List.cons_append, List.nil_append, Option.map_some, Option.map_none, Nat.reduceAdd, Nat.reduceSub, Nat.add_assoc, Nat.zero_add, Nat.add_zero, Bool.not_true, Bool.not_false, beq_self_eq_true, String.reduceBEq, Bool.true_or, Bool.false_or, Bool.or_true, Bool.or_false, Bool.true_and, Bool.false_and, Bool.and_true, Bool.and_false, decide_true, decide_false, Bool.false_eq_true, if_true, if_false, reduceCtorEq, Nat.reduceLeDiff])
  simp -implicitDefEqProofs only [q_are_counts, b_are_counts, hl, allD_rep, pre_n, pre_o, of_s, r_var, var1_s, r_c, r_nil, r_cons, cons1_o, cons2_o, r_lst, lst1_o, r_tup, tup1_o, r_bin, bin1_o, bin2_o, r_un, un1_o, r_bits, r_tof, tof1_o, r_and, and1_t, and1_f, r_or, or1_t, or1_f, r_not, not1_o, r_eand, eand1_t, eand1_f, r_eor, eor1_t, eor1_f, r_enot, enot1_o, r_eif, eif1_t, eif1_f, r_call, call1_o, r_callD, r_callK, callK1_o, callK2_o, r_make, r_makeP, r_mth, mth1_o, mth2_o, r_b, r_m, m1_lst, m2_o, ofW_s, r_isi, isi1_o, isi3_s, r_fld, fld1_o, fld2_s, r_eqo, eqo1_o, eqo2_o, eqo3_o, r_osm, osm1_o, r_onone, r_sl, sl1_o, sl2_o, sl3_o, r_rev, rev1_o, r_seq, seq1_l, seq1_t, r_rng1, rng1_o, r_zip, zip1_o, r_enum, enum1_o, r_lc, lc1_o, put_0, put_c, setv_c, r_sseq, then1_n, then1_r, then1_c, then1_b, r_snil, r_sretn, r_scont, r_sbrk, r_sexpr, expr1_o, r_sret, ret1_o, r_sset, set1_o, r_sif, sif1_t, sif1_f, r_stg, stg1_o, tg1_s, r_spar, par1_o, r_spar3, par3_o, r_saug, aug0_s, aug1_o, aug2_s, r_ssub, sub0_o, sub1_o, sub2_o, sub3_s, r_sfld, sfld0_o, sfld1_o, r_sfor, for1_o, r_swhile, r_run, run1_n, run1_r, len_rng, len_li, len_lst, len_tup, len_zip, len_enum, puts, putsL, optmap_nil, get_comp, puts_comp, putsL_comp, put_comp', puts_nil, putsL_nil, putE_nil, putE_map, comp_nil, nil_comp, comp_one, cutW_nil, get_one, get_nil, puts_li, putsL_li, li_len, permL, D.has, hasL, hasL_li, isTyD, isClD, isi2, isD_non, isNone, cmpD_int, negD_int, addD_int, subD_int, eqD_int, neD_int, eqD_li, neD_li, listD_lst, listD_tup, tupleD_lst, lenD_lst, lenD_tup, intD1_int, ixD_0, ixD_1, ixD_2, ixD_3, bitsD_int, cutOk, List.map_cons, List.map_nil, List.length_cons, List.length_nil, List.getElem?_cons_zero, List.getElem?_cons_succ, List.set_cons_zero, List.set_cons_succ, List.replicate, List.cons_append, List.nil_append, Option.map_some, Option.map_none, Nat.reduceAdd, Nat.reduceSub, Nat.add_assoc, Nat.zero_add, Nat.add_zero, Bool.not_true, Bool.not_false, beq_self_eq_true, String.reduceBEq, Bool.true_or, Bool.false_or, Bool.or_true, Bool.or_false, Bool.true_and, Bool.false_and, Bool.and_true, Bool.and_false, decide_true, decide_false, Bool.false_eq_true, if_true, if_false, reduceCtorEq, Nat.reduceLeDiff]
theorem v_init (s i j : Nat) (bs rs : List Int) (n : Nat) (hs : s < n) (hi : i ≠ s) (hj : j ≠ s) (hb : ∀ x ∈ bs, 2 ≤ x) (hr : ∀ x ∈ rs, 0 ≤ x) (hl : rs.length = bs.length + 1) (hz : bs.length ≤ 999) :
    q_init_House [.ins s 0 [], .lst i (li bs), .lst j (li rs)] n = .ok .non (n + 4) [(s, .ins s 0 [.lst (n + 2) (li bs), .lst (n + 3) (li rs)])] := by
  have h1 := lc_rep (own := [3]) (el := c_init_House_1) (t := 3) i bs n [some (.ins s 0 []), some (.lst i (li bs)), some (.lst j (li rs)), none] (by omega) (fun x hx => by
    simp -implicitDefEqProofs only [c_init_House_1, wipeE, v_is_base x _ (hb x hx), pre_n, pre_o, of_s, r_var, var1_s, r_c, r_nil, r_cons, cons1_o, cons2_o, r_lst, lst1_o, r_tup, tup1_o, r_bin, bin1_o, bin2_o, r_un, un1_o, r_bits, r_tof, tof1_o, r_and, and1_t, and1_f, r_or, or1_t, or1_f, r_not, not1_o, r_eand, eand1_t, eand1_f, r_eor, eor1_t, eor1_f, r_enot, enot1_o, r_eif, eif1_t, eif1_f, r_call, call1_o, r_callD, r_callK, callK1_o, callK2_o, r_make, r_makeP, r_mth, mth1_o, mth2_o, r_b, r_m, m1_lst, m2_o, ofW_s, r_isi, isi1_o, isi3_s, r_fld, fld1_o, fld2_s, r_eqo, eqo1_o, eqo2_o, eqo3_o, r_osm, osm1_o, r_onone, r_sl, sl1_o, sl2_o, sl3_o, r_rev, rev1_o, r_seq, seq1_l, seq1_t, r_rng1, rng1_o, r_zip, zip1_o, r_enum, enum1_o, r_lc, lc1_o, put_0, put_c, setv_c, r_sseq, then1_n, then1_r, then1_c, then1_b, r_snil, r_sretn, r_scont, r_sbrk, r_sexpr, expr1_o, r_sret, ret1_o, r_sset, set1_o, r_sif, sif1_t, sif1_f, r_stg, stg1_o, tg1_s, r_spar, par1_o, r_spar3, par3_o, r_saug, aug0_s, aug1_o, aug2_s, r_ssub, sub0_o, sub1_o, sub2_o, sub3_s, r_sfld, sfld0_o, sfld1_o, r_sfor, for1_o, r_swhile, r_run, run1_n, run1_r, len_rng, len_li, len_lst, len_tup, len_zip, len_enum, puts, putsL, optmap_nil, get_comp, puts_comp, putsL_comp, put_comp', puts_nil, putsL_nil, putE_nil, putE_map, comp_nil, nil_comp, comp_one, cutW_nil, get_one, get_nil, puts_li, putsL_li, li_len, permL, D.has, hasL, hasL_li, isTyD, isClD, isi2, isD_non, isNone, cmpD_int, negD_int, addD_int, subD_int, eqD_int, neD_int, eqD_li, neD_li, listD_lst, listD_tup, tupleD_lst, lenD_lst, lenD_tup, intD1_int, ixD_0, ixD_1, ixD_2, ixD_3, bitsD_int, cutOk, List.map_cons, List.map_nil, List.length_cons, List.length_nil, List.getElem?_cons_zero, List.getElem?_cons_succ, List.set_cons_zero, List.set_cons_succ, List.replicate, List.cons_append, List.nil_append, Option.map_some, Option.map_none, Nat.reduceAdd, Nat.reduceSub, Nat.add_assoc, Nat.zero_add, Nat.add_zero, Bool.not_true, Bool.not_false, beq_self_eq_true, String.reduceBEq, Bool.true_or, Bool.false_or, Bool.or_true, Bool.or_false, Bool.true_and, Bool.false_and, Bool.and_true, Bool.and_false, decide_true, decide_false, Bool.false_eq_true, if_true, if_false, reduceCtorEq, Nat.reduceLeDiff])
  have e1 : ((rs.length : Int) = bs.length + 1) := by omega
  have g1 : (n + 2 == s) = false := by rw [beq_eq_false_iff_ne]; omega
  have g2 : (n + 3 == s) = false := by rw [beq_eq_false_iff_ne]; omega
  have f1 : setF 0 0 (.ins s 0 []) (.lst (n + 2) (li bs)) = some (s, .ins s 0 [.lst (n + 2) (li bs)]) := setF_new s 0 [] _ (by simp [D.has, hasL_li, g1])
  have f2 : setF 0 1 (.ins s 0 [.lst (n + 2) (li bs)]) (.lst (n + 3) (li rs)) = some (s, .ins s 0 [.lst (n + 2) (li bs), .lst (n + 3) (li rs)]) := setF_new s 0 [_] _ (by simp [D.has, hasL_li, g2])
  simp -implicitDefEqProofs only [q_init_House, b_init_House, h1, allD_rep, v_are_counts j rs _ hr (by omega), e1, f1, f2, cutW_lt _ _ _ hs, get_one_ne _ _ _ hi, get_one_ne _ _ _ hj, get_one_ne _ _ _ (show n + 2 ≠ s by omega), get_one_ne _ _ _ (show n + 3 ≠ s by omega), put_c, pre_n, pre_o, of_s, r_var, var1_s, r_c, r_nil, r_cons, cons1_o, cons2_o, r_lst, lst1_o, r_tup, tup1_o, r_bin, bin1_o, bin2_o, r_un, un1_o, r_bits, r_tof, tof1_o, r_and, and1_t, and1_f, r_or, or1_t, or1_f, r_not, not1_o, r_eand, eand1_t, eand1_f, r_eor, eor1_t, eor1_f, r_enot, enot1_o, r_eif, eif1_t, eif1_f, r_call, call1_o, r_callD, r_callK, callK1_o, callK2_o, r_make, r_makeP, r_mth, mth1_o, mth2_o, r_b, r_m, m1_lst, m2_o, ofW_s, r_isi, isi1_o, isi3_s, r_fld, fld1_o, fld2_s, r_eqo, eqo1_o, eqo2_o, eqo3_o, r_osm, osm1_o, r_onone, r_sl, sl1_o, sl2_o, sl3_o, r_rev, rev1_o, r_seq, seq1_l, seq1_t, r_rng1, rng1_o, r_zip, zip1_o, r_enum, enum1_o, r_lc, lc1_o, put_0, put_c, setv_c, r_sseq, then1_n, then1_r, then1_c, then1_b, r_snil, r_sretn, r_scont, r_sbrk, r_sexpr, expr1_o, r_sret, ret1_o, r_sset, set1_o, r_sif, sif1_t, sif1_f, r_stg, stg1_o, tg1_s, r_spar, par1_o, r_spar3, par3_o, r_saug, aug0_s, aug1_o, aug2_s, r_ssub, sub0_o, sub1_o, sub2_o, sub3_s, r_sfld, sfld0_o, sfld1_o, r_sfor, for1_o, r_swhile, r_run, run1_n, run1_r, len_rng, len_li, len_lst, len_tup, len_zip, len_enum, puts, putsL, optmap_nil, get_comp, puts_comp, putsL_comp, put_comp', puts_nil, putsL_nil, putE_nil, putE_map, comp_nil, nil_comp, comp_one, cutW_nil, get_one, get_nil, puts_li, putsL_li, li_len, permL, D.has, hasL, hasL_li, isTyD, isClD, isi2, isD_non, isNone, cmpD_int, negD_int, addD_int, subD_int, eqD_int, neD_int, eqD_li, neD_li, listD_lst, listD_tup, tupleD_lst, lenD_lst, lenD_tup, intD1_int, ixD_0, ixD_1, ixD_2, ixD_3, bitsD_int, cutOk, List.map_cons, List.map_nil, List.length_cons, List.length_nil, List.getElem?_cons_zero, List.getElem?_cons_succ, List.set_cons_zero, List.set_cons_succ, List.replicate, List.cons_append, List.nil_append, Option.map_some, Option.map_none, Nat.reduceAdd, Nat.reduceSub, Nat.add_assoc, Nat.zero_add, Nat.add_zero, Bool.not_true, Bool.not_false, beq_self_eq_true, String.reduceBEq, Bool.true_or, Bool.false_or, Bool.or_true, Bool.or_false, Bool.true_and, Bool.false_and, Bool.and_true, Bool.and_false, decide_true, decide_false, Bool.false_eq_true, if_true, if_false, reduceCtorEq, Nat.reduceLeDiff]
theorem v_mk (i j : Nat) (bs rs : List Int) (n : Nat) (hi : i < n) (hj : j < n) (hb : ∀ x ∈ bs, 2 ≤ x) (hr : ∀ x ∈ rs, 0 ≤ x) (hl : rs.length = bs.length + 1) (hz : bs.length ≤ 999) :
    mkD 0 q_init_House [.lst i (li bs), .lst j (li rs)] n = .ok (ho n (n + 3) (n + 4) bs rs) (n + 5) [] := by
  unfold mkD
  rw [v_init n i j bs rs (n + 1) (by omega) (by omega) (by omega) hb hr hl hz]
  have e : puts [(n, D.ins n 0 [.lst (n + 1 + 2) (li bs), .lst (n + 1 + 3) (li rs)])] (.ins n 0 []) = ho n (n + 3) (n + 4) bs rs := by rw [puts, get_one]; rfl
  show R.cut n (R.pre _ (R.ok (puts _ _) _ [])) = _
  rw [e, preOk, comp_nil, cutOk, cutW_ge _ _ _ (Nat.le_refl n)]
end B
end
section
set_option Elab.async false
set_option linter.all false
set_option maxRecDepth 100000
set_option maxHeartbeats 1000000
namespace B
open PySem Sx
theorem v_check_house (a b c : Nat) (bs rs : List Int) (n : Nat) : q_check_house [ho a b c bs rs] n = .ok .non n [] := rfl
theorem v_sums_up_to (a b c i : Nat) (bs rs row : List Int) (n : Nat) (hi : a < n) (hj : b < n) (hk : c < n) (hi' : i < n) (h : Good bs rs) (hr : Btw 0 60 row) (hl : row.length = rs.length) :
    q_sums_up_to [ho a b c bs rs, .lst i (li row)] n = .ok (.lst n (li (sums (muls row (wts bs))))) (n + 2) [] := by
  have hw := wts_btw h.b (by have := h.m; omega)
  have hwl := wts_len bs
  have hm := h.m
  have hlr := h.l
  have hml : (muls row (wts bs)).length = row.length := muls_len (by omega)
  obtain ⟨s', e1, e2, o4, o5, e3⟩ := for_src (tg := tgT [tgN 4, tgN 5]) (body := b_sums_up_to_1) (n0 := n) (len := row.length) (src := .zipL (.lst i (li row)) (.lst (n + 1) (li (wts bs)))) (h := [])
    (s0 := ⟨n + 2, [some (ho a b c bs rs), some (.lst i (li row)), some (.lst n (li [])), some (.int 0), none, none], [], [.zipL (.lst i (li row)) (.lst (n + 1) (li (wts bs)))]⟩)
    (fun m s => ∃ o4 o5, s = ⟨n + 2, [some (ho a b c bs rs), some (.lst i (li row)), some (.lst n (li (sums ((muls row (wts bs)).take m)))), some (.int ((muls row (wts bs)).take m).sum), o4, o5], [], [.zipL (.lst i (li row)) (.lst (n + 1) (li (wts bs)))]⟩) ⟨none, none, rfl⟩ rfl (zip_end _ _ _ _)
    (fun m s hm' _ hZ => by
      obtain ⟨o4, o5, rfl⟩ := hZ
      have hx : row[m]? = some row[m] := List.getElem?_eq_getElem hm'
      have hm2 : m < (wts bs).length := by omega
      have hy : (wts bs)[m]? = some (wts bs)[m] := List.getElem?_eq_getElem hm2
      obtain ⟨b1, b2⟩ := hr.get hx
      obtain ⟨c1, c2⟩ := hw.get hy
      have hz := muls_get hx hy
      have m1 := mulD_sm (a := row[m]) (b := (wts bs)[m]) (n + 2) (sm_of (by omega) (by omega)) (sm_of (by omega) (by omega))
      have ap := appD_lst n (li (sums ((muls row (wts bs)).take m))) (.int (((muls row (wts bs)).take m).sum + row[m] * (wts bs)[m])) (n + 2) (by rw [li_len, sums_len, List.length_take]; omega) rfl
      refine ⟨_, _, _, zip_at _ _ _ _ _ _ _ hx hy, rfl, ?_, rfl, some (.int row[m]), some (.int (wts bs)[m]), rfl⟩
      rw [take_snoc hz, sums_snoc, sum_snoc]
      have ia : ∀ (x y : Int) (k : Nat), iaddD (.int x) (.int y) k = some (.int (x + y), k) := fun _ _ _ => rfl
      simp -implicitDefEqProofs only [b_sums_up_to_1, m1, ia, ap, ho, get_one_ne _ _ _ (show a ≠ n by omega), get_one_ne _ _ _ (show b ≠ n by omega), get_one_ne _ _ _ (show c ≠ n by omega), get_one_ne _ _ _ (show i ≠ n by omega), get_one_ne _ _ _ (show n + 1 ≠ n by omega), cutW_ge _ _ _ (Nat.le_refl n), Src.puts, put_c, pre_n, pre_o, of_s, r_var, var1_s, r_c, r_nil, r_cons, cons1_o, cons2_o, r_lst, lst1_o, r_tup, tup1_o, r_bin, bin1_o, bin2_o, r_un, un1_o, r_bits, r_tof, tof1_o, r_and, and1_t, and1_f, r_or, or1_t, or1_f, r_not, not1_o, r_eand, eand1_t, eand1_f, r_eor, eor1_t, eor1_f, r_enot, enot1_o, r_eif, eif1_t, eif1_f, r_call, call1_o, r_callD, r_callK, callK1_o, callK2_o, r_make, r_makeP, r_mth, mth1_o, mth2_o, r_b, r_m, m1_lst, m2_o, ofW_s, r_isi, isi1_o, isi3_s, r_fld, fld1_o, fld2_s, r_eqo, eqo1_o, eqo2_o, eqo3_o, r_osm, osm1_o, r_onone, r_sl, sl1_o, sl2_o, sl3_o, r_rev, rev1_o, r_seq, seq1_l, seq1_t, r_rng1, rng1_o, r_zip, zip1_o, r_enum, enum1_o, r_lc, lc1_o, put_0, put_c, setv_c, r_sseq, then1_n, then1_r, then1_c, then1_b, r_snil, r_sretn, r_scont, r_sbrk, r_sexpr, expr1_o, r_sret, ret1_o, r_sset, set1_o, r_sif, sif1_t, sif1_f, r_stg, stg1_o, tg1_s, r_spar, par1_o, r_spar3, par3_o, r_saug, aug0_s, aug1_o, aug2_s, r_ssub, sub0_o, sub1_o, sub2_o, sub3_s, r_sfld, sfld0_o, sfld1_o, r_sfor, for1_o, r_swhile, r_run, run1_n, run1_r, len_rng, len_li, len_lst, len_tup, len_zip, len_enum, puts, putsL, optmap_nil, get_comp, puts_comp, putsL_comp, put_comp', puts_nil, putsL_nil, putE_nil, putE_map, comp_nil, nil_comp, comp_one, cutW_nil, get_one, get_nil, puts_li, putsL_li, li_len, permL, D.has, hasL, hasL_li, isTyD, isClD, isi2, isD_non, isNone, cmpD_int, negD_int, addD_int, subD_int, eqD_int, neD_int, eqD_li, neD_li, listD_lst, listD_tup, tupleD_lst, lenD_lst, lenD_tup, intD1_int, ixD_0, ixD_1, ixD_2, ixD_3, bitsD_int, cutOk, List.map_cons, List.map_nil, List.length_cons, List.length_nil, List.getElem?_cons_zero, List.getElem?_cons_succ, List.set_cons_zero, List.set_cons_succ, List.replicate, List.cons_append, List.nil_append, Option.map_some, Option.map_none, Nat.reduceAdd, Nat.reduceSub, Nat.add_assoc, Nat.zero_add, Nat.add_zero, Bool.not_true, Bool.not_false, beq_self_eq_true, String.reduceBEq, Bool.true_or, Bool.false_or, Bool.or_true, Bool.or_false, Bool.true_and, Bool.false_and, Bool.and_true, Bool.and_false, decide_true, decide_false, Bool.false_eq_true, if_true, if_false, reduceCtorEq, Nat.reduceLeDiff]
      rw [← li_snoc])
  obtain ⟨rfl⟩ := e3
  rw [List.take_of_length_le (by omega)] at e1
  have e0 : ([] : List D) = li [] := rfl
  have vw := v_weights_of a b c bs rs (n + 1) (by omega) (by omega) (by omega) h.b h.m
  rw [← e0] at e1
  simp -implicitDefEqProofs only [q_sums_up_to, b_sums_up_to, vw, e1, pre_n, pre_o, of_s, r_var, var1_s, r_c, r_nil, r_cons, cons1_o, cons2_o, r_lst, lst1_o, r_tup, tup1_o, r_bin, bin1_o, bin2_o, r_un, un1_o, r_bits, r_tof, tof1_o, r_and, and1_t, and1_f, r_or, or1_t, or1_f, r_not, not1_o, r_eand, eand1_t, eand1_f, r_eor, eor1_t, eor1_f, r_enot, enot1_o, r_eif, eif1_t, eif1_f, r_call, call1_o, r_callD, r_callK, callK1_o, callK2_o, r_make, r_makeP, r_mth, mth1_o, mth2_o, r_b, r_m, m1_lst, m2_o, ofW_s, r_isi, isi1_o, isi3_s, r_fld, fld1_o, fld2_s, r_eqo, eqo1_o, eqo2_o, eqo3_o, r_osm, osm1_o, r_onone, r_sl, sl1_o, sl2_o, sl3_o, r_rev, rev1_o, r_seq, seq1_l, seq1_t, r_rng1, rng1_o, r_zip, zip1_o, r_enum, enum1_o, r_lc, lc1_o, put_0, put_c, setv_c, r_sseq, then1_n, then1_r, then1_c, then1_b, r_snil, r_sretn, r_scont, r_sbrk, r_sexpr, expr1_o, r_sret, ret1_o, r_sset, set1_o, r_sif, sif1_t, sif1_f, r_stg, stg1_o, tg1_s, r_spar, par1_o, r_spar3, par3_o, r_saug, aug0_s, aug1_o, aug2_s, r_ssub, sub0_o, sub1_o, sub2_o, sub3_s, r_sfld, sfld0_o, sfld1_o, r_sfor, for1_o, r_swhile, r_run, run1_n, run1_r, len_rng, len_li, len_lst, len_tup, len_zip, len_enum, puts, putsL, optmap_nil, get_comp, puts_comp, putsL_comp, put_comp', puts_nil, putsL_nil, putE_nil, putE_map, comp_nil, nil_comp, comp_one, cutW_nil, get_one, get_nil, puts_li, putsL_li, li_len, permL, D.has, hasL, hasL_li, isTyD, isClD, isi2, isD_non, isNone, cmpD_int, negD_int, addD_int, subD_int, eqD_int, neD_int, eqD_li, neD_li, listD_lst, listD_tup, tupleD_lst, lenD_lst, lenD_tup, intD1_int, ixD_0, ixD_1, ixD_2, ixD_3, bitsD_int, cutOk, List.map_cons, List.map_nil, List.length_cons, List.length_nil, List.getElem?_cons_zero, List.getElem?_cons_succ, List.set_cons_zero, List.set_cons_succ, List.replicate, List.cons_append, List.nil_append, Option.map_some, Option.map_none, Nat.reduceAdd, Nat.reduceSub, Nat.add_assoc, Nat.zero_add, Nat.add_zero, Bool.not_true, Bool.not_false, beq_self_eq_true, String.reduceBEq, Bool.true_or, Bool.false_or, Bool.or_true, Bool.or_false, Bool.true_and, Bool.false_and, Bool.and_true, Bool.and_false, decide_true, decide_false, Bool.false_eq_true, if_true, if_false, reduceCtorEq, Nat.reduceLeDiff]
theorem v_worth_in (a b c i : Nat) (bs rs row : List Int) (n : Nat) (hi : a < n) (hj : b < n) (hk : c < n) (hi' : i < n) (h : Good bs rs) (hr : Btw 0 60 row) (hl : row.length = rs.length) :
    q_worth_in [ho a b c bs rs, .lst i (li row)] n = .ok (.int (muls row (wts bs)).sum) (n + 2) [] := by
  have hw := wts_btw h.b (by have := h.m; omega)
  have hwl := wts_len bs
  have hm := h.m
  have hlr := h.l
  have vw := v_weights_of a b c bs rs n hi hj hk h.b h.m
  have lz := lc_zip (own := [2, 3]) (tg := tgT [tgN 2, tgN 3]) (el := c_worth_in_1) i n row (wts bs) (fun x y => .int (x * y)) (n + 1) [some (ho a b c bs rs), some (.lst i (li row)), none, none] (by omega) (by omega)
    (fun k x y hx hy => by
      obtain ⟨b1, b2⟩ := hr.get hx
      obtain ⟨c1, c2⟩ := hw.get hy
      have m1 := mulD_sm (a := x) (b := y) (n + 1) (sm_of (by omega) (by omega)) (sm_of (by omega) (by omega))
      refine ⟨_, rfl, ?_⟩
      simp -implicitDefEqProofs only [c_worth_in_1, wipeE, m1, pre_n, pre_o, of_s, r_var, var1_s, r_c, r_nil, r_cons, cons1_o, cons2_o, r_lst, lst1_o, r_tup, tup1_o, r_bin, bin1_o, bin2_o, r_un, un1_o, r_bits, r_tof, tof1_o, r_and, and1_t, and1_f, r_or, or1_t, or1_f, r_not, not1_o, r_eand, eand1_t, eand1_f, r_eor, eor1_t, eor1_f, r_enot, enot1_o, r_eif, eif1_t, eif1_f, r_call, call1_o, r_callD, r_callK, callK1_o, callK2_o, r_make, r_makeP, r_mth, mth1_o, mth2_o, r_b, r_m, m1_lst, m2_o, ofW_s, r_isi, isi1_o, isi3_s, r_fld, fld1_o, fld2_s, r_eqo, eqo1_o, eqo2_o, eqo3_o, r_osm, osm1_o, r_onone, r_sl, sl1_o, sl2_o, sl3_o, r_rev, rev1_o, r_seq, seq1_l, seq1_t, r_rng1, rng1_o, r_zip, zip1_o, r_enum, enum1_o, r_lc, lc1_o, put_0, put_c, setv_c, r_sseq, then1_n, then1_r, then1_c, then1_b, r_snil, r_sretn, r_scont, r_sbrk, r_sexpr, expr1_o, r_sret, ret1_o, r_sset, set1_o, r_sif, sif1_t, sif1_f, r_stg, stg1_o, tg1_s, r_spar, par1_o, r_spar3, par3_o, r_saug, aug0_s, aug1_o, aug2_s, r_ssub, sub0_o, sub1_o, sub2_o, sub3_s, r_sfld, sfld0_o, sfld1_o, r_sfor, for1_o, r_swhile, r_run, run1_n, run1_r, len_rng, len_li, len_lst, len_tup, len_zip, len_enum, puts, putsL, optmap_nil, get_comp, puts_comp, putsL_comp, put_comp', puts_nil, putsL_nil, putE_nil, putE_map, comp_nil, nil_comp, comp_one, cutW_nil, get_one, get_nil, puts_li, putsL_li, li_len, permL, D.has, hasL, hasL_li, isTyD, isClD, isi2, isD_non, isNone, cmpD_int, negD_int, addD_int, subD_int, eqD_int, neD_int, eqD_li, neD_li, listD_lst, listD_tup, tupleD_lst, lenD_lst, lenD_tup, intD1_int, ixD_0, ixD_1, ixD_2, ixD_3, bitsD_int, cutOk, List.map_cons, List.map_nil, List.length_cons, List.length_nil, List.getElem?_cons_zero, List.getElem?_cons_succ, List.set_cons_zero, List.set_cons_succ, List.replicate, List.cons_append, List.nil_append, Option.map_some, Option.map_none, Nat.reduceAdd, Nat.reduceSub, Nat.add_assoc, Nat.zero_add, Nat.add_zero, Bool.not_true, Bool.not_false, beq_self_eq_true, String.reduceBEq, Bool.true_or, Bool.false_or, Bool.or_true, Bool.or_false, Bool.true_and, Bool.false_and, Bool.and_true, Bool.and_false, decide_true, decide_false, Bool.false_eq_true, if_true, if_false, reduceCtorEq, Nat.reduceLeDiff])
  rw [muls_D] at lz
  simp -implicitDefEqProofs only [q_worth_in, b_worth_in, vw, lz, sumD_li, pre_n, pre_o, of_s, r_var, var1_s, r_c, r_nil, r_cons, cons1_o, cons2_o, r_lst, lst1_o, r_tup, tup1_o, r_bin, bin1_o, bin2_o, r_un, un1_o, r_bits, r_tof, tof1_o, r_and, and1_t, and1_f, r_or, or1_t, or1_f, r_not, not1_o, r_eand, eand1_t, eand1_f, r_eor, eor1_t, eor1_f, r_enot, enot1_o, r_eif, eif1_t, eif1_f, r_call, call1_o, r_callD, r_callK, callK1_o, callK2_o, r_make, r_makeP, r_mth, mth1_o, mth2_o, r_b, r_m, m1_lst, m2_o, ofW_s, r_isi, isi1_o, isi3_s, r_fld, fld1_o, fld2_s, r_eqo, eqo1_o, eqo2_o, eqo3_o, r_osm, osm1_o, r_onone, r_sl, sl1_o, sl2_o, sl3_o, r_rev, rev1_o, r_seq, seq1_l, seq1_t, r_rng1, rng1_o, r_zip, zip1_o, r_enum, enum1_o, r_lc, lc1_o, put_0, put_c, setv_c, r_sseq, then1_n, then1_r, then1_c, then1_b, r_snil, r_sretn, r_scont, r_sbrk, r_sexpr, expr1_o, r_sret, ret1_o, r_sset, set1_o, r_sif, sif1_t, sif1_f, r_stg, stg1_o, tg1_s, r_spar, par1_o, r_spar3, par3_o, r_saug, aug0_s, aug1_o, aug2_s, r_ssub, sub0_o, sub1_o, sub2_o, sub3_s, r_sfld, sfld0_o, sfld1_o, r_sfor, for1_o, r_swhile, r_run, run1_n, run1_r, len_rng, len_li, len_lst, len_tup, len_zip, len_enum, puts, putsL, optmap_nil, get_comp, puts_comp, putsL_comp, put_comp', puts_nil, putsL_nil, putE_nil, putE_map, comp_nil, nil_comp, comp_one, cutW_nil, get_one, get_nil, puts_li, putsL_li, li_len, permL, D.has, hasL, hasL_li, isTyD, isClD, isi2, isD_non, isNone, cmpD_int, negD_int, addD_int, subD_int, eqD_int, neD_int, eqD_li, neD_li, listD_lst, listD_tup, tupleD_lst, lenD_lst, lenD_tup, intD1_int, ixD_0, ixD_1, ixD_2, ixD_3, bitsD_int, cutOk, List.map_cons, List.map_nil, List.length_cons, List.length_nil, List.getElem?_cons_zero, List.getElem?_cons_succ, List.set_cons_zero, List.set_cons_succ, List.replicate, List.cons_append, List.nil_append, Option.map_some, Option.map_none, Nat.reduceAdd, Nat.reduceSub, Nat.add_assoc, Nat.zero_add, Nat.add_zero, Bool.not_true, Bool.not_false, beq_self_eq_true, String.reduceBEq, Bool.true_or, Bool.false_or, Bool.or_true, Bool.or_false, Bool.true_and, Bool.false_and, Bool.and_true, Bool.and_false, decide_true, decide_false, Bool.false_eq_true, if_true, if_false, reduceCtorEq, Nat.reduceLeDiff]
theorem v_rows_in (a b c : Nat) (bs rs : List Int) (n : Nat) (h : Good bs rs) : q_rows_in [ho a b c bs rs] n = .ok (.int (mrows rs)) n [] := by
  have hm := h.m
  have hlr := h.l
  obtain ⟨s', e1, e2, o, e3⟩ := for_li (tg := tgN 2) (body := b_rows_in_1) (n0 := n) (q := c) (xs := rs) (h := []) (s0 := ⟨n, [some (ho a b c bs rs), some (.int 1), none], [], [.lst (.lst c (li rs))]⟩)
    (fun m s => ∃ o, s = ⟨n, [some (ho a b c bs rs), some (.int (mrows (rs.take m))), o], [], [.lst (.lst c (li rs))]⟩) ⟨none, rfl⟩ rfl
    (fun m s x hx _ hZ => by
      obtain ⟨o, rfl⟩ := hZ
      have hm' : m < rs.length := (List.getElem?_eq_some_iff.mp hx).1
      obtain ⟨b1, b2⟩ := mrows_sm (h.r.take m) (by rw [List.length_take]; omega)
      obtain ⟨c1, c2⟩ := h.r.get hx
      have m1 : imulD (.int (mrows (rs.take m))) (.int (x + 1)) n = some (.int (mrows (rs.take m) * (x + 1)), n) := by
        show (if mulOk _ _ = true then some (D.int _, n) else none) = _
        rw [if_pos (mulOk_sm (sm_of (by omega) (by omega)) (sm_of (by omega) (by omega)))]
      refine ⟨_, _, rfl, ?_, rfl, some (.int x), rfl⟩
      rw [take_snoc hx, mrows_snoc]
      simp -implicitDefEqProofs only [b_rows_in_1, m1, ho, pre_n, pre_o, of_s, r_var, var1_s, r_c, r_nil, r_cons, cons1_o, cons2_o, r_lst, lst1_o, r_tup, tup1_o, r_bin, bin1_o, bin2_o, r_un, un1_o, r_bits, r_tof, tof1_o, r_and, and1_t, and1_f, r_or, or1_t, or1_f, r_not, not1_o, r_eand, eand1_t, eand1_f, r_eor, eor1_t, eor1_f, r_enot, enot1_o, r_eif, eif1_t, eif1_f, r_call, call1_o, r_callD, r_callK, callK1_o, callK2_o, r_make, r_makeP, r_mth, mth1_o, mth2_o, r_b, r_m, m1_lst, m2_o, ofW_s, r_isi, isi1_o, isi3_s, r_fld, fld1_o, fld2_s, r_eqo, eqo1_o, eqo2_o, eqo3_o, r_osm, osm1_o, r_onone, r_sl, sl1_o, sl2_o, sl3_o, r_rev, rev1_o, r_seq, seq1_l, seq1_t, r_rng1, rng1_o, r_zip, zip1_o, r_enum, enum1_o, r_lc, lc1_o, put_0, put_c, setv_c, r_sseq, then1_n, then1_r, then1_c, then1_b, r_snil, r_sretn, r_scont, r_sbrk, r_sexpr, expr1_o, r_sret, ret1_o, r_sset, set1_o, r_sif, sif1_t, sif1_f, r_stg, stg1_o, tg1_s, r_spar, par1_o, r_spar3, par3_o, r_saug, aug0_s, aug1_o, aug2_s, r_ssub, sub0_o, sub1_o, sub2_o, sub3_s, r_sfld, sfld0_o, sfld1_o, r_sfor, for1_o, r_swhile, r_run, run1_n, run1_r, len_rng, len_li, len_lst, len_tup, len_zip, len_enum, puts, putsL, optmap_nil, get_comp, puts_comp, putsL_comp, put_comp', puts_nil, putsL_nil, putE_nil, putE_map, comp_nil, nil_comp, comp_one, cutW_nil, get_one, get_nil, puts_li, putsL_li, li_len, permL, D.has, hasL, hasL_li, isTyD, isClD, isi2, isD_non, isNone, cmpD_int, negD_int, addD_int, subD_int, eqD_int, neD_int, eqD_li, neD_li, listD_lst, listD_tup, tupleD_lst, lenD_lst, lenD_tup, intD1_int, ixD_0, ixD_1, ixD_2, ixD_3, bitsD_int, cutOk, List.map_cons, List.map_nil, List.length_cons, List.length_nil, List.getElem?_cons_zero, List.getElem?_cons_succ, List.set_cons_zero, List.set_cons_succ, List.replicate, List.cons_append, List.nil_append, Option.map_some, Option.map_none, Nat.reduceAdd, Nat.reduceSub, Nat.add_assoc, Nat.zero_add, Nat.add_zero, Bool.not_true, Bool.not_false, beq_self_eq_true, String.reduceBEq, Bool.true_or, Bool.false_or, Bool.or_true, Bool.or_false, Bool.true_and, Bool.false_and, Bool.and_true, Bool.and_false, decide_true, decide_false, Bool.false_eq_true, if_true, if_false, reduceCtorEq, Nat.reduceLeDiff])
  subst e3
  rw [List.take_length] at e1
  unfold ho at e1 ⊢
  simp -implicitDefEqProofs only [q_rows_in, b_rows_in, e1, pre_n, pre_o, of_s, r_var, var1_s, r_c, r_nil, r_cons, cons1_o, cons2_o, r_lst, lst1_o, r_tup, tup1_o, r_bin, bin1_o, bin2_o, r_un, un1_o, r_bits, r_tof, tof1_o, r_and, and1_t, and1_f, r_or, or1_t, or1_f, r_not, not1_o, r_eand, eand1_t, eand1_f, r_eor, eor1_t, eor1_f, r_enot, enot1_o, r_eif, eif1_t, eif1_f, r_call, call1_o, r_callD, r_callK, callK1_o, callK2_o, r_make, r_makeP, r_mth, mth1_o, mth2_o, r_b, r_m, m1_lst, m2_o, ofW_s, r_isi, isi1_o, isi3_s, r_fld, fld1_o, fld2_s, r_eqo, eqo1_o, eqo2_o, eqo3_o, r_osm, osm1_o, r_onone, r_sl, sl1_o, sl2_o, sl3_o, r_rev, rev1_o, r_seq, seq1_l, seq1_t, r_rng1, rng1_o, r_zip, zip1_o, r_enum, enum1_o, r_lc, lc1_o, put_0, put_c, setv_c, r_sseq, then1_n, then1_r, then1_c, then1_b, r_snil, r_sretn, r_scont, r_sbrk, r_sexpr, expr1_o, r_sret, ret1_o, r_sset, set1_o, r_sif, sif1_t, sif1_f, r_stg, stg1_o, tg1_s, r_spar, par1_o, r_spar3, par3_o, r_saug, aug0_s, aug1_o, aug2_s, r_ssub, sub0_o, sub1_o, sub2_o, sub3_s, r_sfld, sfld0_o, sfld1_o, r_sfor, for1_o, r_swhile, r_run, run1_n, run1_r, len_rng, len_li, len_lst, len_tup, len_zip, len_enum, puts, putsL, optmap_nil, get_comp, puts_comp, putsL_comp, put_comp', puts_nil, putsL_nil, putE_nil, putE_map, comp_nil, nil_comp, comp_one, cutW_nil, get_one, get_nil, puts_li, putsL_li, li_len, permL, D.has, hasL, hasL_li, isTyD, isClD, isi2, isD_non, isNone, cmpD_int, negD_int, addD_int, subD_int, eqD_int, neD_int, eqD_li, neD_li, listD_lst, listD_tup, tupleD_lst, lenD_lst, lenD_tup, intD1_int, ixD_0, ixD_1, ixD_2, ixD_3, bitsD_int, cutOk, List.map_cons, List.map_nil, List.length_cons, List.length_nil, List.getElem?_cons_zero, List.getElem?_cons_succ, List.set_cons_zero, List.set_cons_succ, List.replicate, List.cons_append, List.nil_append, Option.map_some, Option.map_none, Nat.reduceAdd, Nat.reduceSub, Nat.add_assoc, Nat.zero_add, Nat.add_zero, Bool.not_true, Bool.not_false, beq_self_eq_true, String.reduceBEq, Bool.true_or, Bool.false_or, Bool.or_true, Bool.or_false, Bool.true_and, Bool.false_and, Bool.and_true, Bool.and_false, decide_true, decide_false, Bool.false_eq_true, if_true, if_false, reduceCtorEq, Nat.reduceLeDiff]
theorem v_weights (a b c : Nat) (bs rs : List Int) (n : Nat) (hi : a < n) (hj : b < n) (hk : c < n) (h : Good bs rs) : q_weights [ho a b c bs rs] n = .ok (.lst n (li (wts bs))) (n + 1) [] := by
  have vw := v_weights_of a b c bs rs n hi hj hk h.b h.m
  simp -implicitDefEqProofs only [q_weights, b_weights, v_check_house, vw, pre_n, pre_o, of_s, r_var, var1_s, r_c, r_nil, r_cons, cons1_o, cons2_o, r_lst, lst1_o, r_tup, tup1_o, r_bin, bin1_o, bin2_o, r_un, un1_o, r_bits, r_tof, tof1_o, r_and, and1_t, and1_f, r_or, or1_t, or1_f, r_not, not1_o, r_eand, eand1_t, eand1_f, r_eor, eor1_t, eor1_f, r_enot, enot1_o, r_eif, eif1_t, eif1_f, r_call, call1_o, r_callD, r_callK, callK1_o, callK2_o, r_make, r_makeP, r_mth, mth1_o, mth2_o, r_b, r_m, m1_lst, m2_o, ofW_s, r_isi, isi1_o, isi3_s, r_fld, fld1_o, fld2_s, r_eqo, eqo1_o, eqo2_o, eqo3_o, r_osm, osm1_o, r_onone, r_sl, sl1_o, sl2_o, sl3_o, r_rev, rev1_o, r_seq, seq1_l, seq1_t, r_rng1, rng1_o, r_zip, zip1_o, r_enum, enum1_o, r_lc, lc1_o, put_0, put_c, setv_c, r_sseq, then1_n, then1_r, then1_c, then1_b, r_snil, r_sretn, r_scont, r_sbrk, r_sexpr, expr1_o, r_sret, ret1_o, r_sset, set1_o, r_sif, sif1_t, sif1_f, r_stg, stg1_o, tg1_s, r_spar, par1_o, r_spar3, par3_o, r_saug, aug0_s, aug1_o, aug2_s, r_ssub, sub0_o, sub1_o, sub2_o, sub3_s, r_sfld, sfld0_o, sfld1_o, r_sfor, for1_o, r_swhile, r_run, run1_n, run1_r, len_rng, len_li, len_lst, len_tup, len_zip, len_enum, puts, putsL, optmap_nil, get_comp, puts_comp, putsL_comp, put_comp', puts_nil, putsL_nil, putE_nil, putE_map, comp_nil, nil_comp, comp_one, cutW_nil, get_one, get_nil, puts_li, putsL_li, li_len, permL, D.has, hasL, hasL_li, isTyD, isClD, isi2, isD_non, isNone, cmpD_int, negD_int, addD_int, subD_int, eqD_int, neD_int, eqD_li, neD_li, listD_lst, listD_tup, tupleD_lst, lenD_lst, lenD_tup, intD1_int, ixD_0, ixD_1, ixD_2, ixD_3, bitsD_int, cutOk, List.map_cons, List.map_nil, List.length_cons, List.length_nil, List.getElem?_cons_zero, List.getElem?_cons_succ, List.set_cons_zero, List.set_cons_succ, List.replicate, List.cons_append, List.nil_append, Option.map_some, Option.map_none, Nat.reduceAdd, Nat.reduceSub, Nat.add_assoc, Nat.zero_add, Nat.add_zero, Bool.not_true, Bool.not_false, beq_self_eq_true, String.reduceBEq, Bool.true_or, Bool.false_or, Bool.or_true, Bool.or_false, Bool.true_and, Bool.false_and, Bool.and_true, Bool.and_false, decide_true, decide_false, Bool.false_eq_true, if_true, if_false, reduceCtorEq, Nat.reduceLeDiff]
theorem v_held_up_to (a b c : Nat) (bs rs : List Int) (n : Nat) (hi : a < n) (hj : b < n) (hk : c < n) (h : Good bs rs) : q_held_up_to [ho a b c bs rs] n = .ok (.lst n (li (sums (muls rs (wts bs))))) (n + 2) [] := by
  have vw := v_sums_up_to a b c c bs rs rs n hi hj hk hk h h.r rfl
  have vc := v_check_house a b c bs rs n
  unfold ho at vw vc ⊢
  simp -implicitDefEqProofs only [q_held_up_to, b_held_up_to, vc, vw, pre_n, pre_o, of_s, r_var, var1_s, r_c, r_nil, r_cons, cons1_o, cons2_o, r_lst, lst1_o, r_tup, tup1_o, r_bin, bin1_o, bin2_o, r_un, un1_o, r_bits, r_tof, tof1_o, r_and, and1_t, and1_f, r_or, or1_t, or1_f, r_not, not1_o, r_eand, eand1_t, eand1_f, r_eor, eor1_t, eor1_f, r_enot, enot1_o, r_eif, eif1_t, eif1_f, r_call, call1_o, r_callD, r_callK, callK1_o, callK2_o, r_make, r_makeP, r_mth, mth1_o, mth2_o, r_b, r_m, m1_lst, m2_o, ofW_s, r_isi, isi1_o, isi3_s, r_fld, fld1_o, fld2_s, r_eqo, eqo1_o, eqo2_o, eqo3_o, r_osm, osm1_o, r_onone, r_sl, sl1_o, sl2_o, sl3_o, r_rev, rev1_o, r_seq, seq1_l, seq1_t, r_rng1, rng1_o, r_zip, zip1_o, r_enum, enum1_o, r_lc, lc1_o, put_0, put_c, setv_c, r_sseq, then1_n, then1_r, then1_c, then1_b, r_snil, r_sretn, r_scont, r_sbrk, r_sexpr, expr1_o, r_sret, ret1_o, r_sset, set1_o, r_sif, sif1_t, sif1_f, r_stg, stg1_o, tg1_s, r_spar, par1_o, r_spar3, par3_o, r_saug, aug0_s, aug1_o, aug2_s, r_ssub, sub0_o, sub1_o, sub2_o, sub3_s, r_sfld, sfld0_o, sfld1_o, r_sfor, for1_o, r_swhile, r_run, run1_n, run1_r, len_rng, len_li, len_lst, len_tup, len_zip, len_enum, puts, putsL, optmap_nil, get_comp, puts_comp, putsL_comp, put_comp', puts_nil, putsL_nil, putE_nil, putE_map, comp_nil, nil_comp, comp_one, cutW_nil, get_one, get_nil, puts_li, putsL_li, li_len, permL, D.has, hasL, hasL_li, isTyD, isClD, isi2, isD_non, isNone, cmpD_int, negD_int, addD_int, subD_int, eqD_int, neD_int, eqD_li, neD_li, listD_lst, listD_tup, tupleD_lst, lenD_lst, lenD_tup, intD1_int, ixD_0, ixD_1, ixD_2, ixD_3, bitsD_int, cutOk, List.map_cons, List.map_nil, List.length_cons, List.length_nil, List.getElem?_cons_zero, List.getElem?_cons_succ, List.set_cons_zero, List.set_cons_succ, List.replicate, List.cons_append, List.nil_append, Option.map_some, Option.map_none, Nat.reduceAdd, Nat.reduceSub, Nat.add_assoc, Nat.zero_add, Nat.add_zero, Bool.not_true, Bool.not_false, beq_self_eq_true, String.reduceBEq, Bool.true_or, Bool.false_or, Bool.or_true, Bool.or_false, Bool.true_and, Bool.false_and, Bool.and_true, Bool.and_false, decide_true, decide_false, Bool.false_eq_true, if_true, if_false, reduceCtorEq, Nat.reduceLeDiff]
theorem v_whole_worth (a b c : Nat) (bs rs : List Int) (n : Nat) (hi : a < n) (hj : b < n) (hk : c < n) (h : Good bs rs) : q_whole_worth [ho a b c bs rs] n = .ok (.int (muls rs (wts bs)).sum) (n + 2) [] := by
  have vw := v_worth_in a b c c bs rs rs n hi hj hk hk h h.r rfl
  have vc := v_check_house a b c bs rs n
  unfold ho at vw vc ⊢
  simp -implicitDefEqProofs only [q_whole_worth, b_whole_worth, vc, vw, pre_n, pre_o, of_s, r_var, var1_s, r_c, r_nil, r_cons, cons1_o, cons2_o, r_lst, lst1_o, r_tup, tup1_o, r_bin, bin1_o, bin2_o, r_un, un1_o, r_bits, r_tof, tof1_o, r_and, and1_t, and1_f, r_or, or1_t, or1_f, r_not, not1_o, r_eand, eand1_t, eand1_f, r_eor, eor1_t, eor1_f, r_enot, enot1_o, r_eif, eif1_t, eif1_f, r_call, call1_o, r_callD, r_callK, callK1_o, callK2_o, r_make, r_makeP, r_mth, mth1_o, mth2_o, r_b, r_m, m1_lst, m2_o, ofW_s, r_isi, isi1_o, isi3_s, r_fld, fld1_o, fld2_s, r_eqo, eqo1_o, eqo2_o, eqo3_o, r_osm, osm1_o, r_onone, r_sl, sl1_o, sl2_o, sl3_o, r_rev, rev1_o, r_seq, seq1_l, seq1_t, r_rng1, rng1_o, r_zip, zip1_o, r_enum, enum1_o, r_lc, lc1_o, put_0, put_c, setv_c, r_sseq, then1_n, then1_r, then1_c, then1_b, r_snil, r_sretn, r_scont, r_sbrk, r_sexpr, expr1_o, r_sret, ret1_o, r_sset, set1_o, r_sif, sif1_t, sif1_f, r_stg, stg1_o, tg1_s, r_spar, par1_o, r_spar3, par3_o, r_saug, aug0_s, aug1_o, aug2_s, r_ssub, sub0_o, sub1_o, sub2_o, sub3_s, r_sfld, sfld0_o, sfld1_o, r_sfor, for1_o, r_swhile, r_run, run1_n, run1_r, len_rng, len_li, len_lst, len_tup, len_zip, len_enum, puts, putsL, optmap_nil, get_comp, puts_comp, putsL_comp, put_comp', puts_nil, putsL_nil, putE_nil, putE_map, comp_nil, nil_comp, comp_one, cutW_nil, get_one, get_nil, puts_li, putsL_li, li_len, permL, D.has, hasL, hasL_li, isTyD, isClD, isi2, isD_non, isNone, cmpD_int, negD_int, addD_int, subD_int, eqD_int, neD_int, eqD_li, neD_li, listD_lst, listD_tup, tupleD_lst, lenD_lst, lenD_tup, intD1_int, ixD_0, ixD_1, ixD_2, ixD_3, bitsD_int, cutOk, List.map_cons, List.map_nil, List.length_cons, List.length_nil, List.getElem?_cons_zero, List.getElem?_cons_succ, List.set_cons_zero, List.set_cons_succ, List.replicate, List.cons_append, List.nil_append, Option.map_some, Option.map_none, Nat.reduceAdd, Nat.reduceSub, Nat.add_assoc, Nat.zero_add, Nat.add_zero, Bool.not_true, Bool.not_false, beq_self_eq_true, String.reduceBEq, Bool.true_or, Bool.false_or, Bool.or_true, Bool.or_false, Bool.true_and, Bool.false_and, Bool.and_true, Bool.and_false, decide_true, decide_false, Bool.false_eq_true, if_true, if_false, reduceCtorEq, Nat.reduceLeDiff]
theorem v_many_rowsP (a b c : Nat) (bs rs : List Int) (n : Nat) (h : Good bs rs) : q_many_rows [ho a b c bs rs] n = .ok (.int (mrows rs)) n [] := by
  have vw := v_rows_in a b c bs rs n h
  simp -implicitDefEqProofs only [q_many_rows, b_many_rows, v_check_house, vw, pre_n, pre_o, of_s, r_var, var1_s, r_c, r_nil, r_cons, cons1_o, cons2_o, r_lst, lst1_o, r_tup, tup1_o, r_bin, bin1_o, bin2_o, r_un, un1_o, r_bits, r_tof, tof1_o, r_and, and1_t, and1_f, r_or, or1_t, or1_f, r_not, not1_o, r_eand, eand1_t, eand1_f, r_eor, eor1_t, eor1_f, r_enot, enot1_o, r_eif, eif1_t, eif1_f, r_call, call1_o, r_callD, r_callK, callK1_o, callK2_o, r_make, r_makeP, r_mth, mth1_o, mth2_o, r_b, r_m, m1_lst, m2_o, ofW_s, r_isi, isi1_o, isi3_s, r_fld, fld1_o, fld2_s, r_eqo, eqo1_o, eqo2_o, eqo3_o, r_osm, osm1_o, r_onone, r_sl, sl1_o, sl2_o, sl3_o, r_rev, rev1_o, r_seq, seq1_l, seq1_t, r_rng1, rng1_o, r_zip, zip1_o, r_enum, enum1_o, r_lc, lc1_o, put_0, put_c, setv_c, r_sseq, then1_n, then1_r, then1_c, then1_b, r_snil, r_sretn, r_scont, r_sbrk, r_sexpr, expr1_o, r_sret, ret1_o, r_sset, set1_o, r_sif, sif1_t, sif1_f, r_stg, stg1_o, tg1_s, r_spar, par1_o, r_spar3, par3_o, r_saug, aug0_s, aug1_o, aug2_s, r_ssub, sub0_o, sub1_o, sub2_o, sub3_s, r_sfld, sfld0_o, sfld1_o, r_sfor, for1_o, r_swhile, r_run, run1_n, run1_r, len_rng, len_li, len_lst, len_tup, len_zip, len_enum, puts, putsL, optmap_nil, get_comp, puts_comp, putsL_comp, put_comp', puts_nil, putsL_nil, putE_nil, putE_map, comp_nil, nil_comp, comp_one, cutW_nil, get_one, get_nil, puts_li, putsL_li, li_len, permL, D.has, hasL, hasL_li, isTyD, isClD, isi2, isD_non, isNone, cmpD_int, negD_int, addD_int, subD_int, eqD_int, neD_int, eqD_li, neD_li, listD_lst, listD_tup, tupleD_lst, lenD_lst, lenD_tup, intD1_int, ixD_0, ixD_1, ixD_2, ixD_3, bitsD_int, cutOk, List.map_cons, List.map_nil, List.length_cons, List.length_nil, List.getElem?_cons_zero, List.getElem?_cons_succ, List.set_cons_zero, List.set_cons_succ, List.replicate, List.cons_append, List.nil_append, Option.map_some, Option.map_none, Nat.reduceAdd, Nat.reduceSub, Nat.add_assoc, Nat.zero_add, Nat.add_zero, Bool.not_true, Bool.not_false, beq_self_eq_true, String.reduceBEq, Bool.true_or, Bool.false_or, Bool.or_true, Bool.or_false, Bool.true_and, Bool.false_and, Bool.and_true, Bool.and_false, decide_true, decide_false, Bool.false_eq_true, if_true, if_false, reduceCtorEq, Nat.reduceLeDiff]
theorem v_is_row_of (a b c i : Nat) (bs rs row : List Int) (n : Nat) (h : Good bs rs) (hr : RowOf rs row) : q_is_row_of [ho a b c bs rs, .lst i (li row)] n = .ok (.bl true) (n + 2) [] := by
  have hm := h.m
  have hlr := h.l
  have hl := hr.l
  have vc := v_are_counts i row n hr.nn (by omega)
  have lz := lc_zip (own := [2, 3]) (tg := tgT [tgN 2, tgN 3]) (el := c_is_row_of_1) i c row rs (fun x y => .bl (decide (x ≤ y))) (n + 1) [some (.ins a 0 [.lst b (li bs), .lst c (li rs)]), some (.lst i (li row)), none, none] (by omega) (by omega)
    (fun k x y hx hy => by
      refine ⟨_, rfl, ?_⟩
      simp -implicitDefEqProofs only [c_is_row_of_1, wipeE, pre_n, pre_o, of_s, r_var, var1_s, r_c, r_nil, r_cons, cons1_o, cons2_o, r_lst, lst1_o, r_tup, tup1_o, r_bin, bin1_o, bin2_o, r_un, un1_o, r_bits, r_tof, tof1_o, r_and, and1_t, and1_f, r_or, or1_t, or1_f, r_not, not1_o, r_eand, eand1_t, eand1_f, r_eor, eor1_t, eor1_f, r_enot, enot1_o, r_eif, eif1_t, eif1_f, r_call, call1_o, r_callD, r_callK, callK1_o, callK2_o, r_make, r_makeP, r_mth, mth1_o, mth2_o, r_b, r_m, m1_lst, m2_o, ofW_s, r_isi, isi1_o, isi3_s, r_fld, fld1_o, fld2_s, r_eqo, eqo1_o, eqo2_o, eqo3_o, r_osm, osm1_o, r_onone, r_sl, sl1_o, sl2_o, sl3_o, r_rev, rev1_o, r_seq, seq1_l, seq1_t, r_rng1, rng1_o, r_zip, zip1_o, r_enum, enum1_o, r_lc, lc1_o, put_0, put_c, setv_c, r_sseq, then1_n, then1_r, then1_c, then1_b, r_snil, r_sretn, r_scont, r_sbrk, r_sexpr, expr1_o, r_sret, ret1_o, r_sset, set1_o, r_sif, sif1_t, sif1_f, r_stg, stg1_o, tg1_s, r_spar, par1_o, r_spar3, par3_o, r_saug, aug0_s, aug1_o, aug2_s, r_ssub, sub0_o, sub1_o, sub2_o, sub3_s, r_sfld, sfld0_o, sfld1_o, r_sfor, for1_o, r_swhile, r_run, run1_n, run1_r, len_rng, len_li, len_lst, len_tup, len_zip, len_enum, puts, putsL, optmap_nil, get_comp, puts_comp, putsL_comp, put_comp', puts_nil, putsL_nil, putE_nil, putE_map, comp_nil, nil_comp, comp_one, cutW_nil, get_one, get_nil, puts_li, putsL_li, li_len, permL, D.has, hasL, hasL_li, isTyD, isClD, isi2, isD_non, isNone, cmpD_int, negD_int, addD_int, subD_int, eqD_int, neD_int, eqD_li, neD_li, listD_lst, listD_tup, tupleD_lst, lenD_lst, lenD_tup, intD1_int, ixD_0, ixD_1, ixD_2, ixD_3, bitsD_int, cutOk, List.map_cons, List.map_nil, List.length_cons, List.length_nil, List.getElem?_cons_zero, List.getElem?_cons_succ, List.set_cons_zero, List.set_cons_succ, List.replicate, List.cons_append, List.nil_append, Option.map_some, Option.map_none, Nat.reduceAdd, Nat.reduceSub, Nat.add_assoc, Nat.zero_add, Nat.add_zero, Bool.not_true, Bool.not_false, beq_self_eq_true, String.reduceBEq, Bool.true_or, Bool.false_or, Bool.or_true, Bool.or_false, Bool.true_and, Bool.false_and, Bool.and_true, Bool.and_false, decide_true, decide_false, Bool.false_eq_true, if_true, if_false, reduceCtorEq, Nat.reduceLeDiff])
  rw [zip_true _ row rs (fun k x y hx hy => by
    have := (hr.b k x y hx hy).2
    rw [decide_eq_true this]) (by omega)] at lz
  unfold ho
  simp -implicitDefEqProofs only [q_is_row_of, b_is_row_of, vc, hl, lz, allD_rep, pre_n, pre_o, of_s, r_var, var1_s, r_c, r_nil, r_cons, cons1_o, cons2_o, r_lst, lst1_o, r_tup, tup1_o, r_bin, bin1_o, bin2_o, r_un, un1_o, r_bits, r_tof, tof1_o, r_and, and1_t, and1_f, r_or, or1_t, or1_f, r_not, not1_o, r_eand, eand1_t, eand1_f, r_eor, eor1_t, eor1_f, r_enot, enot1_o, r_eif, eif1_t, eif1_f, r_call, call1_o, r_callD, r_callK, callK1_o, callK2_o, r_make, r_makeP, r_mth, mth1_o, mth2_o, r_b, r_m, m1_lst, m2_o, ofW_s, r_isi, isi1_o, isi3_s, r_fld, fld1_o, fld2_s, r_eqo, eqo1_o, eqo2_o, eqo3_o, r_osm, osm1_o, r_onone, r_sl, sl1_o, sl2_o, sl3_o, r_rev, rev1_o, r_seq, seq1_l, seq1_t, r_rng1, rng1_o, r_zip, zip1_o, r_enum, enum1_o, r_lc, lc1_o, put_0, put_c, setv_c, r_sseq, then1_n, then1_r, then1_c, then1_b, r_snil, r_sretn, r_scont, r_sbrk, r_sexpr, expr1_o, r_sret, ret1_o, r_sset, set1_o, r_sif, sif1_t, sif1_f, r_stg, stg1_o, tg1_s, r_spar, par1_o, r_spar3, par3_o, r_saug, aug0_s, aug1_o, aug2_s, r_ssub, sub0_o, sub1_o, sub2_o, sub3_s, r_sfld, sfld0_o, sfld1_o, r_sfor, for1_o, r_swhile, r_run, run1_n, run1_r, len_rng, len_li, len_lst, len_tup, len_zip, len_enum, puts, putsL, optmap_nil, get_comp, puts_comp, putsL_comp, put_comp', puts_nil, putsL_nil, putE_nil, putE_map, comp_nil, nil_comp, comp_one, cutW_nil, get_one, get_nil, puts_li, putsL_li, li_len, permL, D.has, hasL, hasL_li, isTyD, isClD, isi2, isD_non, isNone, cmpD_int, negD_int, addD_int, subD_int, eqD_int, neD_int, eqD_li, neD_li, listD_lst, listD_tup, tupleD_lst, lenD_lst, lenD_tup, intD1_int, ixD_0, ixD_1, ixD_2, ixD_3, bitsD_int, cutOk, List.map_cons, List.map_nil, List.length_cons, List.length_nil, List.getElem?_cons_zero, List.getElem?_cons_succ, List.set_cons_zero, List.set_cons_succ, List.replicate, List.cons_append, List.nil_append, Option.map_some, Option.map_none, Nat.reduceAdd, Nat.reduceSub, Nat.add_assoc, Nat.zero_add, Nat.add_zero, Bool.not_true, Bool.not_false, beq_self_eq_true, String.reduceBEq, Bool.true_or, Bool.false_or, Bool.or_true, Bool.or_false, Bool.true_and, Bool.false_and, Bool.and_true, Bool.and_false, decide_true, decide_false, Bool.false_eq_true, if_true, if_false, reduceCtorEq, Nat.reduceLeDiff]
  rw [← hl, lz]
  simp -implicitDefEqProofs only [allD_rep, pre_n, pre_o, of_s, r_var, var1_s, r_c, r_nil, r_cons, cons1_o, cons2_o, r_lst, lst1_o, r_tup, tup1_o, r_bin, bin1_o, bin2_o, r_un, un1_o, r_bits, r_tof, tof1_o, r_and, and1_t, and1_f, r_or, or1_t, or1_f, r_not, not1_o, r_eand, eand1_t, eand1_f, r_eor, eor1_t, eor1_f, r_enot, enot1_o, r_eif, eif1_t, eif1_f, r_call, call1_o, r_callD, r_callK, callK1_o, callK2_o, r_make, r_makeP, r_mth, mth1_o, mth2_o, r_b, r_m, m1_lst, m2_o, ofW_s, r_isi, isi1_o, isi3_s, r_fld, fld1_o, fld2_s, r_eqo, eqo1_o, eqo2_o, eqo3_o, r_osm, osm1_o, r_onone, r_sl, sl1_o, sl2_o, sl3_o, r_rev, rev1_o, r_seq, seq1_l, seq1_t, r_rng1, rng1_o, r_zip, zip1_o, r_enum, enum1_o, r_lc, lc1_o, put_0, put_c, setv_c, r_sseq, then1_n, then1_r, then1_c, then1_b, r_snil, r_sretn, r_scont, r_sbrk, r_sexpr, expr1_o, r_sret, ret1_o, r_sset, set1_o, r_sif, sif1_t, sif1_f, r_stg, stg1_o, tg1_s, r_spar, par1_o, r_spar3, par3_o, r_saug, aug0_s, aug1_o, aug2_s, r_ssub, sub0_o, sub1_o, sub2_o, sub3_s, r_sfld, sfld0_o, sfld1_o, r_sfor, for1_o, r_swhile, r_run, run1_n, run1_r, len_rng, len_li, len_lst, len_tup, len_zip, len_enum, puts, putsL, optmap_nil, get_comp, puts_comp, putsL_comp, put_comp', puts_nil, putsL_nil, putE_nil, putE_map, comp_nil, nil_comp, comp_one, cutW_nil, get_one, get_nil, puts_li, putsL_li, li_len, permL, D.has, hasL, hasL_li, isTyD, isClD, isi2, isD_non, isNone, cmpD_int, negD_int, addD_int, subD_int, eqD_int, neD_int, eqD_li, neD_li, listD_lst, listD_tup, tupleD_lst, lenD_lst, lenD_tup, intD1_int, ixD_0, ixD_1, ixD_2, ixD_3, bitsD_int, cutOk, List.map_cons, List.map_nil, List.length_cons, List.length_nil, List.getElem?_cons_zero, List.getElem?_cons_succ, List.set_cons_zero, List.set_cons_succ, List.replicate, List.cons_append, List.nil_append, Option.map_some, Option.map_none, Nat.reduceAdd, Nat.reduceSub, Nat.add_assoc, Nat.zero_add, Nat.add_zero, Bool.not_true, Bool.not_false, beq_self_eq_true, String.reduceBEq, Bool.true_or, Bool.false_or, Bool.or_true, Bool.or_false, Bool.true_and, Bool.false_and, Bool.and_true, Bool.and_false, decide_true, decide_false, Bool.false_eq_true, if_true, if_false, reduceCtorEq, Nat.reduceLeDiff]
theorem v_check_row (a b c i : Nat) (bs rs row : List Int) (n : Nat) (h : Good bs rs) (hr : RowOf rs row) : q_check_row [ho a b c bs rs, .lst i (li row)] n = .ok .non (n + 2) [] := by
  have v := v_is_row_of a b c i bs rs row n h hr
  simp -implicitDefEqProofs only [q_check_row, b_check_row, v, pre_n, pre_o, of_s, r_var, var1_s, r_c, r_nil, r_cons, cons1_o, cons2_o, r_lst, lst1_o, r_tup, tup1_o, r_bin, bin1_o, bin2_o, r_un, un1_o, r_bits, r_tof, tof1_o, r_and, and1_t, and1_f, r_or, or1_t, or1_f, r_not, not1_o, r_eand, eand1_t, eand1_f, r_eor, eor1_t, eor1_f, r_enot, enot1_o, r_eif, eif1_t, eif1_f, r_call, call1_o, r_callD, r_callK, callK1_o, callK2_o, r_make, r_makeP, r_mth, mth1_o, mth2_o, r_b, r_m, m1_lst, m2_o, ofW_s, r_isi, isi1_o, isi3_s, r_fld, fld1_o, fld2_s, r_eqo, eqo1_o, eqo2_o, eqo3_o, r_osm, osm1_o, r_onone, r_sl, sl1_o, sl2_o, sl3_o, r_rev, rev1_o, r_seq, seq1_l, seq1_t, r_rng1, rng1_o, r_zip, zip1_o, r_enum, enum1_o, r_lc, lc1_o, put_0, put_c, setv_c, r_sseq, then1_n, then1_r, then1_c, then1_b, r_snil, r_sretn, r_scont, r_sbrk, r_sexpr, expr1_o, r_sret, ret1_o, r_sset, set1_o, r_sif, sif1_t, sif1_f, r_stg, stg1_o, tg1_s, r_spar, par1_o, r_spar3, par3_o, r_saug, aug0_s, aug1_o, aug2_s, r_ssub, sub0_o, sub1_o, sub2_o, sub3_s, r_sfld, sfld0_o, sfld1_o, r_sfor, for1_o, r_swhile, r_run, run1_n, run1_r, len_rng, len_li, len_lst, len_tup, len_zip, len_enum, puts, putsL, optmap_nil, get_comp, puts_comp, putsL_comp, put_comp', puts_nil, putsL_nil, putE_nil, putE_map, comp_nil, nil_comp, comp_one, cutW_nil, get_one, get_nil, puts_li, putsL_li, li_len, permL, D.has, hasL, hasL_li, isTyD, isClD, isi2, isD_non, isNone, cmpD_int, negD_int, addD_int, subD_int, eqD_int, neD_int, eqD_li, neD_li, listD_lst, listD_tup, tupleD_lst, lenD_lst, lenD_tup, intD1_int, ixD_0, ixD_1, ixD_2, ixD_3, bitsD_int, cutOk, List.map_cons, List.map_nil, List.length_cons, List.length_nil, List.getElem?_cons_zero, List.getElem?_cons_succ, List.set_cons_zero, List.set_cons_succ, List.replicate, List.cons_append, List.nil_append, Option.map_some, Option.map_none, Nat.reduceAdd, Nat.reduceSub, Nat.add_assoc, Nat.zero_add, Nat.add_zero, Bool.not_true, Bool.not_false, beq_self_eq_true, String.reduceBEq, Bool.true_or, Bool.false_or, Bool.or_true, Bool.or_false, Bool.true_and, Bool.false_and, Bool.and_true, Bool.and_false, decide_true, decide_false, Bool.false_eq_true, if_true, if_false, reduceCtorEq, Nat.reduceLeDiff]
theorem v_number_of (a b c i : Nat) (bs rs row : List Int) (n : Nat) (h : Good bs rs) (hr : RowOf rs row) : q_number_of [ho a b c bs rs, .lst i (li row)] n = .ok (.int (num (row.zip rs))) (n + 2) [] := by
  have hm := h.m
  have hlr := h.l
  have hl := hr.l
  have hzl : (row.zip rs).length = row.length := by rw [List.length_zip]; omega
  obtain ⟨s', e1, e2, o3, o4, e3⟩ := for_src (tg := tgT [tgN 3, tgN 4]) (body := b_number_of_1) (n0 := n) (len := row.length) (src := .zipL (.lst i (li row)) (.lst c (li rs))) (h := [])
    (s0 := ⟨n + 2, [some (ho a b c bs rs), some (.lst i (li row)), some (.int 0), none, none], [], [.zipL (.lst i (li row)) (.lst c (li rs))]⟩)
    (fun m s => ∃ o3 o4, s = ⟨n + 2, [some (ho a b c bs rs), some (.lst i (li row)), some (.int (num ((row.zip rs).take m))), o3, o4], [], [.zipL (.lst i (li row)) (.lst c (li rs))]⟩) ⟨none, none, rfl⟩ rfl (zip_end _ _ _ _)
    (fun m s hm' _ hZ => by
      obtain ⟨o3, o4, rfl⟩ := hZ
      have hx : row[m]? = some row[m] := List.getElem?_eq_getElem hm'
      have hm2 : m < rs.length := by omega
      have hy : rs[m]? = some rs[m] := List.getElem?_eq_getElem hm2
      obtain ⟨b1, b2⟩ := hr.b m _ _ hx hy
      obtain ⟨c1, c2⟩ := h.r.get hy
      have hz : (row.zip rs)[m]? = some (row[m], rs[m]) := by rw [List.getElem?_zip_eq_some]; exact ⟨hx, hy⟩
      have hb : 0 ≤ num ((row.zip rs).take m) ∧ num ((row.zip rs).take m) < 10 ^ 15 := by
        have e : (row.zip rs).take m = (row.take m).zip (rs.take m) := by rw [List.zip_eq_zipWith, List.zip_eq_zipWith, List.take_zipWith]
        have hr' : RowOf (rs.take m) (row.take m) := ⟨by rw [List.length_take, List.length_take, hl], fun k x y h1 h2 => by
          rw [List.getElem?_take] at h1 h2
          split at h1
          · rename_i hk
            rw [if_pos hk] at h2
            exact hr.b k x y h1 h2
          · cases h1⟩
        obtain ⟨q1, q2⟩ := num_bd (h.r.take m) hr'
        obtain ⟨_, q3⟩ := mrows_sm (h.r.take m) (by rw [List.length_take]; omega)
        rw [e]
        exact ⟨q1, by omega⟩
      have m1 := mulD_sm (a := num ((row.zip rs).take m)) (b := rs[m] + 1) (n + 2) (sm_of (by omega) (by omega)) (sm_of (by omega) (by omega))
      refine ⟨_, _, _, zip_at _ _ _ _ _ _ _ hx hy, rfl, ?_, rfl, some (.int row[m]), some (.int rs[m]), rfl⟩
      rw [take_snoc hz, num_snoc]
      simp -implicitDefEqProofs only [b_number_of_1, m1, ho, pre_n, pre_o, of_s, r_var, var1_s, r_c, r_nil, r_cons, cons1_o, cons2_o, r_lst, lst1_o, r_tup, tup1_o, r_bin, bin1_o, bin2_o, r_un, un1_o, r_bits, r_tof, tof1_o, r_and, and1_t, and1_f, r_or, or1_t, or1_f, r_not, not1_o, r_eand, eand1_t, eand1_f, r_eor, eor1_t, eor1_f, r_enot, enot1_o, r_eif, eif1_t, eif1_f, r_call, call1_o, r_callD, r_callK, callK1_o, callK2_o, r_make, r_makeP, r_mth, mth1_o, mth2_o, r_b, r_m, m1_lst, m2_o, ofW_s, r_isi, isi1_o, isi3_s, r_fld, fld1_o, fld2_s, r_eqo, eqo1_o, eqo2_o, eqo3_o, r_osm, osm1_o, r_onone, r_sl, sl1_o, sl2_o, sl3_o, r_rev, rev1_o, r_seq, seq1_l, seq1_t, r_rng1, rng1_o, r_zip, zip1_o, r_enum, enum1_o, r_lc, lc1_o, put_0, put_c, setv_c, r_sseq, then1_n, then1_r, then1_c, then1_b, r_snil, r_sretn, r_scont, r_sbrk, r_sexpr, expr1_o, r_sret, ret1_o, r_sset, set1_o, r_sif, sif1_t, sif1_f, r_stg, stg1_o, tg1_s, r_spar, par1_o, r_spar3, par3_o, r_saug, aug0_s, aug1_o, aug2_s, r_ssub, sub0_o, sub1_o, sub2_o, sub3_s, r_sfld, sfld0_o, sfld1_o, r_sfor, for1_o, r_swhile, r_run, run1_n, run1_r, len_rng, len_li, len_lst, len_tup, len_zip, len_enum, puts, putsL, optmap_nil, get_comp, puts_comp, putsL_comp, put_comp', puts_nil, putsL_nil, putE_nil, putE_map, comp_nil, nil_comp, comp_one, cutW_nil, get_one, get_nil, puts_li, putsL_li, li_len, permL, D.has, hasL, hasL_li, isTyD, isClD, isi2, isD_non, isNone, cmpD_int, negD_int, addD_int, subD_int, eqD_int, neD_int, eqD_li, neD_li, listD_lst, listD_tup, tupleD_lst, lenD_lst, lenD_tup, intD1_int, ixD_0, ixD_1, ixD_2, ixD_3, bitsD_int, cutOk, List.map_cons, List.map_nil, List.length_cons, List.length_nil, List.getElem?_cons_zero, List.getElem?_cons_succ, List.set_cons_zero, List.set_cons_succ, List.replicate, List.cons_append, List.nil_append, Option.map_some, Option.map_none, Nat.reduceAdd, Nat.reduceSub, Nat.add_assoc, Nat.zero_add, Nat.add_zero, Bool.not_true, Bool.not_false, beq_self_eq_true, String.reduceBEq, Bool.true_or, Bool.false_or, Bool.or_true, Bool.or_false, Bool.true_and, Bool.false_and, Bool.and_true, Bool.and_false, decide_true, decide_false, Bool.false_eq_true, if_true, if_false, reduceCtorEq, Nat.reduceLeDiff])
  obtain ⟨rfl⟩ := e3
  rw [List.take_of_length_le (by omega)] at e1
  have vc := v_check_row a b c i bs rs row n h hr
  have vh := v_check_house a b c bs rs n
  unfold ho at e1 vc vh ⊢
  simp -implicitDefEqProofs only [q_number_of, b_number_of, vh, vc, e1, pre_n, pre_o, of_s, r_var, var1_s, r_c, r_nil, r_cons, cons1_o, cons2_o, r_lst, lst1_o, r_tup, tup1_o, r_bin, bin1_o, bin2_o, r_un, un1_o, r_bits, r_tof, tof1_o, r_and, and1_t, and1_f, r_or, or1_t, or1_f, r_not, not1_o, r_eand, eand1_t, eand1_f, r_eor, eor1_t, eor1_f, r_enot, enot1_o, r_eif, eif1_t, eif1_f, r_call, call1_o, r_callD, r_callK, callK1_o, callK2_o, r_make, r_makeP, r_mth, mth1_o, mth2_o, r_b, r_m, m1_lst, m2_o, ofW_s, r_isi, isi1_o, isi3_s, r_fld, fld1_o, fld2_s, r_eqo, eqo1_o, eqo2_o, eqo3_o, r_osm, osm1_o, r_onone, r_sl, sl1_o, sl2_o, sl3_o, r_rev, rev1_o, r_seq, seq1_l, seq1_t, r_rng1, rng1_o, r_zip, zip1_o, r_enum, enum1_o, r_lc, lc1_o, put_0, put_c, setv_c, r_sseq, then1_n, then1_r, then1_c, then1_b, r_snil, r_sretn, r_scont, r_sbrk, r_sexpr, expr1_o, r_sret, ret1_o, r_sset, set1_o, r_sif, sif1_t, sif1_f, r_stg, stg1_o, tg1_s, r_spar, par1_o, r_spar3, par3_o, r_saug, aug0_s, aug1_o, aug2_s, r_ssub, sub0_o, sub1_o, sub2_o, sub3_s, r_sfld, sfld0_o, sfld1_o, r_sfor, for1_o, r_swhile, r_run, run1_n, run1_r, len_rng, len_li, len_lst, len_tup, len_zip, len_enum, puts, putsL, optmap_nil, get_comp, puts_comp, putsL_comp, put_comp', puts_nil, putsL_nil, putE_nil, putE_map, comp_nil, nil_comp, comp_one, cutW_nil, get_one, get_nil, puts_li, putsL_li, li_len, permL, D.has, hasL, hasL_li, isTyD, isClD, isi2, isD_non, isNone, cmpD_int, negD_int, addD_int, subD_int, eqD_int, neD_int, eqD_li, neD_li, listD_lst, listD_tup, tupleD_lst, lenD_lst, lenD_tup, intD1_int, ixD_0, ixD_1, ixD_2, ixD_3, bitsD_int, cutOk, List.map_cons, List.map_nil, List.length_cons, List.length_nil, List.getElem?_cons_zero, List.getElem?_cons_succ, List.set_cons_zero, List.set_cons_succ, List.replicate, List.cons_append, List.nil_append, Option.map_some, Option.map_none, Nat.reduceAdd, Nat.reduceSub, Nat.add_assoc, Nat.zero_add, Nat.add_zero, Bool.not_true, Bool.not_false, beq_self_eq_true, String.reduceBEq, Bool.true_or, Bool.false_or, Bool.or_true, Bool.or_false, Bool.true_and, Bool.false_and, Bool.and_true, Bool.and_false, decide_true, decide_false, Bool.false_eq_true, if_true, if_false, reduceCtorEq, Nat.reduceLeDiff]
theorem insertD_0 (i : Nat) (ds : List D) (d : D) (n : Nat) (h : ds.length < 16777216) (hd : D.has i d = false) : insertD (.lst i ds) [.int 0, d] n = some (.non, n, [(i, .lst i (d :: ds))]) := by
  show (if ds.length < sizeLine ∧ D.has i d = false ∧ (0 : Int) ≤ 0 ∧ (0 : Int) < 2 ^ 63 then some (D.non, n, [(i, D.lst i (ds.take (0 : Int).toNat ++ d :: ds.drop (0 : Int).toNat))]) else none) = _
  rw [if_pos ⟨h, hd, by decide, by decide⟩]
  rfl
theorem v_row_at (a b c : Nat) (bs rs : List Int) (N : Int) (n : Nat) (hi : a < n) (hj : b < n) (hk : c < n) (h : Good bs rs) (h0 : 0 ≤ N) (h1 : N < mrows rs) : q_row_at [ho a b c bs rs, .int N] n = .ok (.lst n (li (rowAt rs N))) (n + 2) [] := by
  have hm := h.m
  have hlr := h.l
  have hrev : (li rs).reverse = li rs.reverse := by unfold li; rw [List.map_reverse]
  have hbr : Btw 0 60 rs.reverse := fun x hx => h.r x (List.mem_reverse.mp hx)
  obtain ⟨s', e1, e2, M, f, o, e3, e4, e5⟩ := for_li (tg := tgN 3) (body := b_row_at_1) (n0 := n) (q := n + 1) (xs := rs.reverse) (h := []) (s0 := ⟨n + 2, [some (ho a b c bs rs), some (.int N), some (.lst n (li [])), none], [], [.lst (.lst (n + 1) (li rs.reverse))]⟩)
    (fun m s => ∃ M f o, s = ⟨n + 2, [some (ho a b c bs rs), some (.int M), some (.lst n (li f)), o], [], [.lst (.lst (n + 1) (li rs.reverse))]⟩ ∧ f.length = m ∧ rowAtR (rs.reverse.drop m) M ++ f = rowAt rs N) ⟨N, [], none, rfl, rfl, by rw [List.append_nil]; rfl⟩ rfl
    (fun m s x hx _ hZ => by
      obtain ⟨M, f, o, rfl, hf, hZ⟩ := hZ
      have hm' : m < rs.reverse.length := (List.getElem?_eq_some_iff.mp hx).1
      rw [List.length_reverse] at hm'
      obtain ⟨c1, c2⟩ := hbr.get hx
      have d1 := modD_int M (x + 1) (n + 2) (by omega)
      have d2 := fdivD_int M (x + 1) (n + 2) (by omega) (by omega)
      have ins := insertD_0 n (li f) (.int (M % (x + 1))) (n + 2) (by rw [li_len]; omega) rfl
      have hcons : D.int (M % (x + 1)) :: li f = li (M % (x + 1) :: f) := rfl
      have ls := lst_puts (n + 1) rs.reverse [(n, .lst n (li (M % (x + 1) :: f)))] (get_one_ne _ _ _ (by omega))
      refine ⟨_, _, rfl, ?_, rfl, M / (x + 1), M % (x + 1) :: f, some (.int x), rfl, by rw [List.length_cons, hf], ?_⟩
      · simp -implicitDefEqProofs only [b_row_at_1, d1, d2, ins, hcons, ls, ho, get_one_ne _ _ _ (show a ≠ n by omega), get_one_ne _ _ _ (show b ≠ n by omega), get_one_ne _ _ _ (show c ≠ n by omega), get_one_ne _ _ _ (show n + 1 ≠ n by omega), cutW_ge _ _ _ (Nat.le_refl n), put_c, pre_n, pre_o, of_s, r_var, var1_s, r_c, r_nil, r_cons, cons1_o, cons2_o, r_lst, lst1_o, r_tup, tup1_o, r_bin, bin1_o, bin2_o, r_un, un1_o, r_bits, r_tof, tof1_o, r_and, and1_t, and1_f, r_or, or1_t, or1_f, r_not, not1_o, r_eand, eand1_t, eand1_f, r_eor, eor1_t, eor1_f, r_enot, enot1_o, r_eif, eif1_t, eif1_f, r_call, call1_o, r_callD, r_callK, callK1_o, callK2_o, r_make, r_makeP, r_mth, mth1_o, mth2_o, r_b, r_m, m1_lst, m2_o, ofW_s, r_isi, isi1_o, isi3_s, r_fld, fld1_o, fld2_s, r_eqo, eqo1_o, eqo2_o, eqo3_o, r_osm, osm1_o, r_onone, r_sl, sl1_o, sl2_o, sl3_o, r_rev, rev1_o, r_seq, seq1_l, seq1_t, r_rng1, rng1_o, r_zip, zip1_o, r_enum, enum1_o, r_lc, lc1_o, put_0, put_c, setv_c, r_sseq, then1_n, then1_r, then1_c, then1_b, r_snil, r_sretn, r_scont, r_sbrk, r_sexpr, expr1_o, r_sret, ret1_o, r_sset, set1_o, r_sif, sif1_t, sif1_f, r_stg, stg1_o, tg1_s, r_spar, par1_o, r_spar3, par3_o, r_saug, aug0_s, aug1_o, aug2_s, r_ssub, sub0_o, sub1_o, sub2_o, sub3_s, r_sfld, sfld0_o, sfld1_o, r_sfor, for1_o, r_swhile, r_run, run1_n, run1_r, len_rng, len_li, len_lst, len_tup, len_zip, len_enum, puts, putsL, optmap_nil, get_comp, puts_comp, putsL_comp, put_comp', puts_nil, putsL_nil, putE_nil, putE_map, comp_nil, nil_comp, comp_one, cutW_nil, get_one, get_nil, puts_li, putsL_li, li_len, permL, D.has, hasL, hasL_li, isTyD, isClD, isi2, isD_non, isNone, cmpD_int, negD_int, addD_int, subD_int, eqD_int, neD_int, eqD_li, neD_li, listD_lst, listD_tup, tupleD_lst, lenD_lst, lenD_tup, intD1_int, ixD_0, ixD_1, ixD_2, ixD_3, bitsD_int, cutOk, List.map_cons, List.map_nil, List.length_cons, List.length_nil, List.getElem?_cons_zero, List.getElem?_cons_succ, List.set_cons_zero, List.set_cons_succ, List.replicate, List.cons_append, List.nil_append, Option.map_some, Option.map_none, Nat.reduceAdd, Nat.reduceSub, Nat.add_assoc, Nat.zero_add, Nat.add_zero, Bool.not_true, Bool.not_false, beq_self_eq_true, String.reduceBEq, Bool.true_or, Bool.false_or, Bool.or_true, Bool.or_false, Bool.true_and, Bool.false_and, Bool.and_true, Bool.and_false, decide_true, decide_false, Bool.false_eq_true, if_true, if_false, reduceCtorEq, Nat.reduceLeDiff]
      · rw [← hZ, List.drop_eq_getElem_cons (show m < rs.reverse.length by rw [List.length_reverse]; exact hm')]
        have : rs.reverse[m]'(by rw [List.length_reverse]; exact hm') = x := by
          have := List.getElem?_eq_getElem (l := rs.reverse) (i := m) (by rw [List.length_reverse]; exact hm')
          rw [hx] at this
          exact (Option.some.inj this).symm
        rw [this]
        show _ = (rowAtR (rs.reverse.drop (m + 1)) (M / (x + 1)) ++ [M % (x + 1)]) ++ f
        rw [List.append_assoc]; rfl)
  subst e3
  rw [List.drop_length] at e5
  have e6 : f = rowAt rs N := e5
  rw [e6] at e1
  have vc := v_is_count N n h0
  have vr := v_rows_in a b c bs rs n h
  have vh := v_check_house a b c bs rs n
  have hN : ¬ mrows rs ≤ N := by omega
  have e0 : ([] : List D) = li [] := rfl
  unfold ho at e1 vr vh ⊢
  rw [← e0, List.length_reverse] at e1
  simp -implicitDefEqProofs only [q_row_at, b_row_at, vh, vc, vr, hN, hrev, List.length_reverse, e1, pre_n, pre_o, of_s, r_var, var1_s, r_c, r_nil, r_cons, cons1_o, cons2_o, r_lst, lst1_o, r_tup, tup1_o, r_bin, bin1_o, bin2_o, r_un, un1_o, r_bits, r_tof, tof1_o, r_and, and1_t, and1_f, r_or, or1_t, or1_f, r_not, not1_o, r_eand, eand1_t, eand1_f, r_eor, eor1_t, eor1_f, r_enot, enot1_o, r_eif, eif1_t, eif1_f, r_call, call1_o, r_callD, r_callK, callK1_o, callK2_o, r_make, r_makeP, r_mth, mth1_o, mth2_o, r_b, r_m, m1_lst, m2_o, ofW_s, r_isi, isi1_o, isi3_s, r_fld, fld1_o, fld2_s, r_eqo, eqo1_o, eqo2_o, eqo3_o, r_osm, osm1_o, r_onone, r_sl, sl1_o, sl2_o, sl3_o, r_rev, rev1_o, r_seq, seq1_l, seq1_t, r_rng1, rng1_o, r_zip, zip1_o, r_enum, enum1_o, r_lc, lc1_o, put_0, put_c, setv_c, r_sseq, then1_n, then1_r, then1_c, then1_b, r_snil, r_sretn, r_scont, r_sbrk, r_sexpr, expr1_o, r_sret, ret1_o, r_sset, set1_o, r_sif, sif1_t, sif1_f, r_stg, stg1_o, tg1_s, r_spar, par1_o, r_spar3, par3_o, r_saug, aug0_s, aug1_o, aug2_s, r_ssub, sub0_o, sub1_o, sub2_o, sub3_s, r_sfld, sfld0_o, sfld1_o, r_sfor, for1_o, r_swhile, r_run, run1_n, run1_r, len_rng, len_li, len_lst, len_tup, len_zip, len_enum, puts, putsL, optmap_nil, get_comp, puts_comp, putsL_comp, put_comp', puts_nil, putsL_nil, putE_nil, putE_map, comp_nil, nil_comp, comp_one, cutW_nil, get_one, get_nil, puts_li, putsL_li, li_len, permL, D.has, hasL, hasL_li, isTyD, isClD, isi2, isD_non, isNone, cmpD_int, negD_int, addD_int, subD_int, eqD_int, neD_int, eqD_li, neD_li, listD_lst, listD_tup, tupleD_lst, lenD_lst, lenD_tup, intD1_int, ixD_0, ixD_1, ixD_2, ixD_3, bitsD_int, cutOk, List.map_cons, List.map_nil, List.length_cons, List.length_nil, List.getElem?_cons_zero, List.getElem?_cons_succ, List.set_cons_zero, List.set_cons_succ, List.replicate, List.cons_append, List.nil_append, Option.map_some, Option.map_none, Nat.reduceAdd, Nat.reduceSub, Nat.add_assoc, Nat.zero_add, Nat.add_zero, Bool.not_true, Bool.not_false, beq_self_eq_true, String.reduceBEq, Bool.true_or, Bool.false_or, Bool.or_true, Bool.or_false, Bool.true_and, Bool.false_and, Bool.and_true, Bool.and_false, decide_true, decide_false, Bool.false_eq_true, if_true, if_false, reduceCtorEq, Nat.reduceLeDiff]
end B
end
section
set_option Elab.async false
set_option linter.all false
set_option maxRecDepth 100000
set_option maxHeartbeats 1000000
namespace B
open PySem Sx
/-- alike, to a depth -/
def Alk : Nat → D → D → Prop
  | _, .int x, .int y => x = y
  | _, .bl a, .bl b => a = b
  | m + 1, .lst _ xs, .lst _ ys => xs.length = ys.length ∧ xs.length ≤ 1000 ∧ ∀ (k : Nat) x y, xs[k]? = some x → ys[k]? = some y → Alk m x y
  | _, _, _ => False
theorem eqD_bl (a b : Bool) (n : Nat) : eqD (.bl a) (.bl b) n = some (.bl (a == b), n) := by
  show (if SeqAt.shaped (.bool a) = true ∧ SeqAt.shaped (.bool b) = true then some (D.bl (PyData.eqv (.bool a) (.bool b)), n) else none) = _
  rw [if_pos ⟨rfl, rfl⟩, PyData.eqv]
theorem zipG_at (q r : Nat) (xs ys : List D) (k : Nat) (x y : D) (hx : xs[k]? = some x) (hy : ys[k]? = some y) : (Src.zipL (.lst q xs) (.lst r ys)).at k = some (some (.tup [x, y])) := by
  show some (match xs[k]?, ys[k]? with | some x, some y => some (D.tup [x, y]) | _, _ => none) = _
  rw [hx, hy]
theorem zipG_end (q r : Nat) (xs ys : List D) : (Src.zipL (.lst q xs) (.lst r ys)).at xs.length = some none := by
  show some (match xs[xs.length]?, ys[xs.length]? with | some x, some y => some (D.tup [x, y]) | _, _ => none) = _
  rw [List.getElem?_eq_none_iff.mpr (Nat.le_refl _)]
theorem v_exact : ∀ (f m : Nat) (x y : D) (n : Nat), m < f → Alk m x y → ∃ n', n ≤ n' ∧ q_l_exact f [x, y] n = .ok (.bl true) n' [] := by
  intro f
  induction f with
  | zero => intro m x y n h; omega
  | succ f ih =>
    intro m x y n hf h
    cases x with
    | int a =>
      cases y with
      | int b =>
        have e : a = b := by cases m <;> simpa [Alk] using h
        subst e
        refine ⟨n, Nat.le_refl _, ?_⟩
        simp -implicitDefEqProofs only [q_l_exact, b_l_exact, eqD_bl, pre_n, pre_o, of_s, r_var, var1_s, r_c, r_nil, r_cons, cons1_o, cons2_o, r_lst, lst1_o, r_tup, tup1_o, r_bin, bin1_o, bin2_o, r_un, un1_o, r_bits, r_tof, tof1_o, r_and, and1_t, and1_f, r_or, or1_t, or1_f, r_not, not1_o, r_eand, eand1_t, eand1_f, r_eor, eor1_t, eor1_f, r_enot, enot1_o, r_eif, eif1_t, eif1_f, r_call, call1_o, r_callD, r_callK, callK1_o, callK2_o, r_make, r_makeP, r_mth, mth1_o, mth2_o, r_b, r_m, m1_lst, m2_o, ofW_s, r_isi, isi1_o, isi3_s, r_fld, fld1_o, fld2_s, r_eqo, eqo1_o, eqo2_o, eqo3_o, r_osm, osm1_o, r_onone, r_sl, sl1_o, sl2_o, sl3_o, r_rev, rev1_o, r_seq, seq1_l, seq1_t, r_rng1, rng1_o, r_zip, zip1_o, r_enum, enum1_o, r_lc, lc1_o, put_0, put_c, setv_c, r_sseq, then1_n, then1_r, then1_c, then1_b, r_snil, r_sretn, r_scont, r_sbrk, r_sexpr, expr1_o, r_sret, ret1_o, r_sset, set1_o, r_sif, sif1_t, sif1_f, r_stg, stg1_o, tg1_s, r_spar, par1_o, r_spar3, par3_o, r_saug, aug0_s, aug1_o, aug2_s, r_ssub, sub0_o, sub1_o, sub2_o, sub3_s, r_sfld, sfld0_o, sfld1_o, r_sfor, for1_o, r_swhile, r_run, run1_n, run1_r, len_rng, len_li, len_lst, len_tup, len_zip, len_enum, puts, putsL, optmap_nil, get_comp, puts_comp, putsL_comp, put_comp', puts_nil, putsL_nil, putE_nil, putE_map, comp_nil, nil_comp, comp_one, cutW_nil, get_one, get_nil, puts_li, putsL_li, li_len, permL, D.has, hasL, hasL_li, isTyD, isClD, isi2, isD_non, isNone, cmpD_int, negD_int, addD_int, subD_int, eqD_int, neD_int, eqD_li, neD_li, listD_lst, listD_tup, tupleD_lst, lenD_lst, lenD_tup, intD1_int, ixD_0, ixD_1, ixD_2, ixD_3, bitsD_int, cutOk, List.map_cons, List.map_nil, List.length_cons, List.length_nil, List.getElem?_cons_zero, List.getElem?_cons_succ, List.set_cons_zero, List.set_cons_succ, List.replicate, List.cons_append, List.nil_append, Option.map_some, Option.map_none, Nat.reduceAdd, Nat.reduceSub, Nat.add_assoc, Nat.zero_add, Nat.add_zero, Bool.not_true, Bool.not_false, beq_self_eq_true, String.reduceBEq, Bool.true_or, Bool.false_or, Bool.or_true, Bool.or_false, Bool.true_and, Bool.false_and, Bool.and_true, Bool.and_false, decide_true, decide_false, Bool.false_eq_true, if_true, if_false, reduceCtorEq, Nat.reduceLeDiff]
      | _ => cases m <;> simp [Alk] at h
    | bl a =>
      cases y with
      | bl b =>
        have e : a = b := by cases m <;> simpa [Alk] using h
        subst e
        refine ⟨n, Nat.le_refl _, ?_⟩
        simp -implicitDefEqProofs only [q_l_exact, b_l_exact, eqD_bl, pre_n, pre_o, of_s, r_var, var1_s, r_c, r_nil, r_cons, cons1_o, cons2_o, r_lst, lst1_o, r_tup, tup1_o, r_bin, bin1_o, bin2_o, r_un, un1_o, r_bits, r_tof, tof1_o, r_and, and1_t, and1_f, r_or, or1_t, or1_f, r_not, not1_o, r_eand, eand1_t, eand1_f, r_eor, eor1_t, eor1_f, r_enot, enot1_o, r_eif, eif1_t, eif1_f, r_call, call1_o, r_callD, r_callK, callK1_o, callK2_o, r_make, r_makeP, r_mth, mth1_o, mth2_o, r_b, r_m, m1_lst, m2_o, ofW_s, r_isi, isi1_o, isi3_s, r_fld, fld1_o, fld2_s, r_eqo, eqo1_o, eqo2_o, eqo3_o, r_osm, osm1_o, r_onone, r_sl, sl1_o, sl2_o, sl3_o, r_rev, rev1_o, r_seq, seq1_l, seq1_t, r_rng1, rng1_o, r_zip, zip1_o, r_enum, enum1_o, r_lc, lc1_o, put_0, put_c, setv_c, r_sseq, then1_n, then1_r, then1_c, then1_b, r_snil, r_sretn, r_scont, r_sbrk, r_sexpr, expr1_o, r_sret, ret1_o, r_sset, set1_o, r_sif, sif1_t, sif1_f, r_stg, stg1_o, tg1_s, r_spar, par1_o, r_spar3, par3_o, r_saug, aug0_s, aug1_o, aug2_s, r_ssub, sub0_o, sub1_o, sub2_o, sub3_s, r_sfld, sfld0_o, sfld1_o, r_sfor, for1_o, r_swhile, r_run, run1_n, run1_r, len_rng, len_li, len_lst, len_tup, len_zip, len_enum, puts, putsL, optmap_nil, get_comp, puts_comp, putsL_comp, put_comp', puts_nil, putsL_nil, putE_nil, putE_map, comp_nil, nil_comp, comp_one, cutW_nil, get_one, get_nil, puts_li, putsL_li, li_len, permL, D.has, hasL, hasL_li, isTyD, isClD, isi2, isD_non, isNone, cmpD_int, negD_int, addD_int, subD_int, eqD_int, neD_int, eqD_li, neD_li, listD_lst, listD_tup, tupleD_lst, lenD_lst, lenD_tup, intD1_int, ixD_0, ixD_1, ixD_2, ixD_3, bitsD_int, cutOk, List.map_cons, List.map_nil, List.length_cons, List.length_nil, List.getElem?_cons_zero, List.getElem?_cons_succ, List.set_cons_zero, List.set_cons_succ, List.replicate, List.cons_append, List.nil_append, Option.map_some, Option.map_none, Nat.reduceAdd, Nat.reduceSub, Nat.add_assoc, Nat.zero_add, Nat.add_zero, Bool.not_true, Bool.not_false, beq_self_eq_true, String.reduceBEq, Bool.true_or, Bool.false_or, Bool.or_true, Bool.or_false, Bool.true_and, Bool.false_and, Bool.and_true, Bool.and_false, decide_true, decide_false, Bool.false_eq_true, if_true, if_false, reduceCtorEq, Nat.reduceLeDiff]
      | _ => cases m <;> simp [Alk] at h
    | lst i xs =>
      cases y with
      | lst j ys =>
        cases m with
        | zero => simp [Alk] at h
        | succ m =>
          obtain ⟨hl, hz, hk⟩ : xs.length = ys.length ∧ xs.length ≤ 1000 ∧ ∀ (k : Nat) x y, xs[k]? = some x → ys[k]? = some y → Alk m x y := h
          have hsrc : (Src.zipL (.lst i xs) (.lst j ys)).puts [] = .zipL (.lst i xs) (.lst j ys) := by simp [Src.puts, puts_nil]
          obtain ⟨acc', n', w'', env', e1, e2, e3, e4, e5⟩ := lcGo_inv (own := [3, 4]) (tg := tgT [tgN 3, tgN 4]) (el := eCall (q_l_exact f) (aCons (eVar 3) (aCons (eVar 4) aNil))) (src := .zipL (.lst i xs) (.lst j ys)) (len := xs.length)
            (fun k m w e acc => n ≤ m ∧ e = [some (.lst i xs), some (.lst j ys), some (.bl true), none, none, none] ∧ w = [] ∧ acc = List.replicate k (.bl true)) (zipG_end _ _ _ _)
            (fun k m' w e acc hk' hI => by
              obtain ⟨hm, rfl, rfl, rfl⟩ := hI
              have hx : xs[k]? = some xs[k] := List.getElem?_eq_getElem hk'
              have hy : ys[k]? = some ys[k] := List.getElem?_eq_getElem (by omega)
              obtain ⟨n2, q1, q2⟩ := ih m xs[k] ys[k] m' (by omega) (hk k _ _ hx hy)
              refine ⟨_, _, .bl true, n2, [], zipG_at _ _ _ _ _ _ _ hx hy, rfl, ?_, hsrc, ?_, by omega, putE_nil _, rfl, ?_⟩
              · simp -implicitDefEqProofs only [wipeE, q2, pre_n, pre_o, of_s, r_var, var1_s, r_c, r_nil, r_cons, cons1_o, cons2_o, r_lst, lst1_o, r_tup, tup1_o, r_bin, bin1_o, bin2_o, r_un, un1_o, r_bits, r_tof, tof1_o, r_and, and1_t, and1_f, r_or, or1_t, or1_f, r_not, not1_o, r_eand, eand1_t, eand1_f, r_eor, eor1_t, eor1_f, r_enot, enot1_o, r_eif, eif1_t, eif1_f, r_call, call1_o, r_callD, r_callK, callK1_o, callK2_o, r_make, r_makeP, r_mth, mth1_o, mth2_o, r_b, r_m, m1_lst, m2_o, ofW_s, r_isi, isi1_o, isi3_s, r_fld, fld1_o, fld2_s, r_eqo, eqo1_o, eqo2_o, eqo3_o, r_osm, osm1_o, r_onone, r_sl, sl1_o, sl2_o, sl3_o, r_rev, rev1_o, r_seq, seq1_l, seq1_t, r_rng1, rng1_o, r_zip, zip1_o, r_enum, enum1_o, r_lc, lc1_o, put_0, put_c, setv_c, r_sseq, then1_n, then1_r, then1_c, then1_b, r_snil, r_sretn, r_scont, r_sbrk, r_sexpr, expr1_o, r_sret, ret1_o, r_sset, set1_o, r_sif, sif1_t, sif1_f, r_stg, stg1_o, tg1_s, r_spar, par1_o, r_spar3, par3_o, r_saug, aug0_s, aug1_o, aug2_s, r_ssub, sub0_o, sub1_o, sub2_o, sub3_s, r_sfld, sfld0_o, sfld1_o, r_sfor, for1_o, r_swhile, r_run, run1_n, run1_r, len_rng, len_li, len_lst, len_tup, len_zip, len_enum, puts, putsL, optmap_nil, get_comp, puts_comp, putsL_comp, put_comp', puts_nil, putsL_nil, putE_nil, putE_map, comp_nil, nil_comp, comp_one, cutW_nil, get_one, get_nil, puts_li, putsL_li, li_len, permL, D.has, hasL, hasL_li, isTyD, isClD, isi2, isD_non, isNone, cmpD_int, negD_int, addD_int, subD_int, eqD_int, neD_int, eqD_li, neD_li, listD_lst, listD_tup, tupleD_lst, lenD_lst, lenD_tup, intD1_int, ixD_0, ixD_1, ixD_2, ixD_3, bitsD_int, cutOk, List.map_cons, List.map_nil, List.length_cons, List.length_nil, List.getElem?_cons_zero, List.getElem?_cons_succ, List.set_cons_zero, List.set_cons_succ, List.replicate, List.cons_append, List.nil_append, Option.map_some, Option.map_none, Nat.reduceAdd, Nat.reduceSub, Nat.add_assoc, Nat.zero_add, Nat.add_zero, Bool.not_true, Bool.not_false, beq_self_eq_true, String.reduceBEq, Bool.true_or, Bool.false_or, Bool.or_true, Bool.or_false, Bool.true_and, Bool.false_and, Bool.and_true, Bool.and_false, decide_true, decide_false, Bool.false_eq_true, if_true, if_false, reduceCtorEq, Nat.reduceLeDiff]
              · rw [List.length_replicate]; exact Nat.lt_of_lt_of_le hk' (Nat.le_trans hz (by decide))
              · rw [putsL_nil, ← List.replicate_succ']) xs.length 0 n [] [some (.lst i xs), some (.lst j ys), some (.bl true), none, none, none] [] (by omega) ⟨Nat.le_refl _, rfl, rfl, rfl⟩
          rw [nil_comp] at e4
          subst e4 e5
          have hle : ((ys.length : Int) = xs.length) := by omega
          have hlen : (Src.zipL (.lst i xs) (.lst j ys)).len = xs.length := rfl
          refine ⟨n' + 1, by omega, ?_⟩
          simp -implicitDefEqProofs only [q_l_exact, b_l_exact, eqD_bl, hl, hlen, e1, allD_rep, pre_n, pre_o, of_s, r_var, var1_s, r_c, r_nil, r_cons, cons1_o, cons2_o, r_lst, lst1_o, r_tup, tup1_o, r_bin, bin1_o, bin2_o, r_un, un1_o, r_bits, r_tof, tof1_o, r_and, and1_t, and1_f, r_or, or1_t, or1_f, r_not, not1_o, r_eand, eand1_t, eand1_f, r_eor, eor1_t, eor1_f, r_enot, enot1_o, r_eif, eif1_t, eif1_f, r_call, call1_o, r_callD, r_callK, callK1_o, callK2_o, r_make, r_makeP, r_mth, mth1_o, mth2_o, r_b, r_m, m1_lst, m2_o, ofW_s, r_isi, isi1_o, isi3_s, r_fld, fld1_o, fld2_s, r_eqo, eqo1_o, eqo2_o, eqo3_o, r_osm, osm1_o, r_onone, r_sl, sl1_o, sl2_o, sl3_o, r_rev, rev1_o, r_seq, seq1_l, seq1_t, r_rng1, rng1_o, r_zip, zip1_o, r_enum, enum1_o, r_lc, lc1_o, put_0, put_c, setv_c, r_sseq, then1_n, then1_r, then1_c, then1_b, r_snil, r_sretn, r_scont, r_sbrk, r_sexpr, expr1_o, r_sret, ret1_o, r_sset, set1_o, r_sif, sif1_t, sif1_f, r_stg, stg1_o, tg1_s, r_spar, par1_o, r_spar3, par3_o, r_saug, aug0_s, aug1_o, aug2_s, r_ssub, sub0_o, sub1_o, sub2_o, sub3_s, r_sfld, sfld0_o, sfld1_o, r_sfor, for1_o, r_swhile, r_run, run1_n, run1_r, len_rng, len_li, len_lst, len_tup, len_zip, len_enum, puts, putsL, optmap_nil, get_comp, puts_comp, putsL_comp, put_comp', puts_nil, putsL_nil, putE_nil, putE_map, comp_nil, nil_comp, comp_one, cutW_nil, get_one, get_nil, puts_li, putsL_li, li_len, permL, D.has, hasL, hasL_li, isTyD, isClD, isi2, isD_non, isNone, cmpD_int, negD_int, addD_int, subD_int, eqD_int, neD_int, eqD_li, neD_li, listD_lst, listD_tup, tupleD_lst, lenD_lst, lenD_tup, intD1_int, ixD_0, ixD_1, ixD_2, ixD_3, bitsD_int, cutOk, List.map_cons, List.map_nil, List.length_cons, List.length_nil, List.getElem?_cons_zero, List.getElem?_cons_succ, List.set_cons_zero, List.set_cons_succ, List.replicate, List.cons_append, List.nil_append, Option.map_some, Option.map_none, Nat.reduceAdd, Nat.reduceSub, Nat.add_assoc, Nat.zero_add, Nat.add_zero, Bool.not_true, Bool.not_false, beq_self_eq_true, String.reduceBEq, Bool.true_or, Bool.false_or, Bool.or_true, Bool.or_false, Bool.true_and, Bool.false_and, Bool.and_true, Bool.and_false, decide_true, decide_false, Bool.false_eq_true, if_true, if_false, reduceCtorEq, Nat.reduceLeDiff]
          rw [← hl, e1]
          simp -implicitDefEqProofs only [allD_rep, pre_n, pre_o, of_s, r_var, var1_s, r_c, r_nil, r_cons, cons1_o, cons2_o, r_lst, lst1_o, r_tup, tup1_o, r_bin, bin1_o, bin2_o, r_un, un1_o, r_bits, r_tof, tof1_o, r_and, and1_t, and1_f, r_or, or1_t, or1_f, r_not, not1_o, r_eand, eand1_t, eand1_f, r_eor, eor1_t, eor1_f, r_enot, enot1_o, r_eif, eif1_t, eif1_f, r_call, call1_o, r_callD, r_callK, callK1_o, callK2_o, r_make, r_makeP, r_mth, mth1_o, mth2_o, r_b, r_m, m1_lst, m2_o, ofW_s, r_isi, isi1_o, isi3_s, r_fld, fld1_o, fld2_s, r_eqo, eqo1_o, eqo2_o, eqo3_o, r_osm, osm1_o, r_onone, r_sl, sl1_o, sl2_o, sl3_o, r_rev, rev1_o, r_seq, seq1_l, seq1_t, r_rng1, rng1_o, r_zip, zip1_o, r_enum, enum1_o, r_lc, lc1_o, put_0, put_c, setv_c, r_sseq, then1_n, then1_r, then1_c, then1_b, r_snil, r_sretn, r_scont, r_sbrk, r_sexpr, expr1_o, r_sret, ret1_o, r_sset, set1_o, r_sif, sif1_t, sif1_f, r_stg, stg1_o, tg1_s, r_spar, par1_o, r_spar3, par3_o, r_saug, aug0_s, aug1_o, aug2_s, r_ssub, sub0_o, sub1_o, sub2_o, sub3_s, r_sfld, sfld0_o, sfld1_o, r_sfor, for1_o, r_swhile, r_run, run1_n, run1_r, len_rng, len_li, len_lst, len_tup, len_zip, len_enum, puts, putsL, optmap_nil, get_comp, puts_comp, putsL_comp, put_comp', puts_nil, putsL_nil, putE_nil, putE_map, comp_nil, nil_comp, comp_one, cutW_nil, get_one, get_nil, puts_li, putsL_li, li_len, permL, D.has, hasL, hasL_li, isTyD, isClD, isi2, isD_non, isNone, cmpD_int, negD_int, addD_int, subD_int, eqD_int, neD_int, eqD_li, neD_li, listD_lst, listD_tup, tupleD_lst, lenD_lst, lenD_tup, intD1_int, ixD_0, ixD_1, ixD_2, ixD_3, bitsD_int, cutOk, List.map_cons, List.map_nil, List.length_cons, List.length_nil, List.getElem?_cons_zero, List.getElem?_cons_succ, List.set_cons_zero, List.set_cons_succ, List.replicate, List.cons_append, List.nil_append, Option.map_some, Option.map_none, Nat.reduceAdd, Nat.reduceSub, Nat.add_assoc, Nat.zero_add, Nat.add_zero, Bool.not_true, Bool.not_false, beq_self_eq_true, String.reduceBEq, Bool.true_or, Bool.false_or, Bool.or_true, Bool.or_false, Bool.true_and, Bool.false_and, Bool.and_true, Bool.and_false, decide_true, decide_false, Bool.false_eq_true, if_true, if_false, reduceCtorEq, Nat.reduceLeDiff]
      | _ => cases m <;> simp [Alk] at h
    | _ => cases m <;> cases y <;> simp [Alk] at h
end B
end
section
set_option Elab.async false
set_option linter.all false
set_option maxRecDepth 100000
set_option maxHeartbeats 1000000
namespace B
open PySem Sx
theorem has_hd {p i j k : Nat} {bs rs : List Int} (hi : i ≠ p) (hj : j ≠ p) (hk : k ≠ p) : D.has p (hd i j k bs rs) = false := by
  simp [hd, D.has, hasL, hasL_li, hi, hj, hk]
theorem v_row (p n i j k : Nat) (N : Int) (d : D) (bs rs : List Int) (h : Pu p N d) (hN : N ≤ 800000) (hp : p < n) (hi : i ≠ p) (hj : j ≠ p) (hk : k ≠ p) (hg : Good bs rs) :
    ∃ row d' w n', n ≤ n' ∧ q_l_row [d, hd i j k bs rs] n = .ok (.lst n' (li row)) (n' + 1) w ∧ PW p d w d' ∧ Pu p (N + 100) d' ∧ RowOf rs row := by
  have hm := hg.m
  have hlr := hg.l
  obtain ⟨row, d', w, n', g1, g2, g3, g4, g5, g6⟩ := lc_draws (own := [2]) (tg := tgN 2) (el := c_l_row_1) (src := .lst (.lst k (li rs))) (p := p) (n := n) (len := rs.length) (N := N) (c := 12) (d := d) (rest := [some (hd i j k bs rs), none])
    (fun m x => ∀ r, rs[m]? = some r → 0 ≤ x ∧ x ≤ r) (fun _ _ _ pw => putE_free pw (fun x hx => by
      simp at hx
      subst hx
      exact has_hd hi hj hk)) (fun _ _ _ pw => lst_puts _ _ _ (pw.get hk)) (by rw [lst_at, List.getElem?_eq_none_iff.mpr (Nat.le_refl _)]; rfl) (by omega)
    (fun m dk q hm' hq hpu => by
      have hx : rs[m]? = some rs[m] := List.getElem?_eq_getElem hm'
      obtain ⟨r0, r1⟩ := hg.r.get hx
      obtain ⟨x1, d1, w1, a1, a2, e1, pw1, pu1⟩ := v_drawP p _ (rs[m] + 1) q dk hpu (by omega) (by omega) (by omega) (by omega)
      obtain ⟨x2, d2, w2, a3, a4, e2, pw2, pu2⟩ := v_drawP p _ (rs[m] + 1) q d1 pu1 (by omega) (by omega) (by omega) (by omega)
      obtain ⟨x, d3, w3, hx3, e3, pw3, pu3⟩ := v_one_of p _ q [0, rs[m], x1, x2] (q + 1) d2 pu2 (by omega) (by omega) (by omega) (by simp) (by simp)
      have e3' : q_l_one_of [d2, .lst q [.int 0, .int rs[m], .int x1, .int x2]] (q + 1) = .ok (.int x) (q + 1) w3 := e3
      refine ⟨.int rs[m], _, x, d3, comp (comp w1 w2) w3, q + 1, by rw [lst_at, hx]; rfl, rfl, fun r hr => ?_, by omega, ?_, (pw1.trans pw2).trans pw3, pu3.mono (by omega)⟩
      · rw [hx] at hr
        cases hr
        simp at hx3
        omega
      · simp -implicitDefEqProofs only [c_l_row_1, wipeE, e1, e2, e3', pw1.puts, pw2.puts, pw3.puts, (pw1.trans pw2).puts, pw1.free (has_hd hi hj hk), pw2.free (has_hd hi hj hk), pre_n, pre_o, of_s, r_var, var1_s, r_c, r_nil, r_cons, cons1_o, cons2_o, r_lst, lst1_o, r_tup, tup1_o, r_bin, bin1_o, bin2_o, r_un, un1_o, r_bits, r_tof, tof1_o, r_and, and1_t, and1_f, r_or, or1_t, or1_f, r_not, not1_o, r_eand, eand1_t, eand1_f, r_eor, eor1_t, eor1_f, r_enot, enot1_o, r_eif, eif1_t, eif1_f, r_call, call1_o, r_callD, r_callK, callK1_o, callK2_o, r_make, r_makeP, r_mth, mth1_o, mth2_o, r_b, r_m, m1_lst, m2_o, ofW_s, r_isi, isi1_o, isi3_s, r_fld, fld1_o, fld2_s, r_eqo, eqo1_o, eqo2_o, eqo3_o, r_osm, osm1_o, r_onone, r_sl, sl1_o, sl2_o, sl3_o, r_rev, rev1_o, r_seq, seq1_l, seq1_t, r_rng1, rng1_o, r_zip, zip1_o, r_enum, enum1_o, r_lc, lc1_o, put_0, put_c, setv_c, r_sseq, then1_n, then1_r, then1_c, then1_b, r_snil, r_sretn, r_scont, r_sbrk, r_sexpr, expr1_o, r_sret, ret1_o, r_sset, set1_o, r_sif, sif1_t, sif1_f, r_stg, stg1_o, tg1_s, r_spar, par1_o, r_spar3, par3_o, r_saug, aug0_s, aug1_o, aug2_s, r_ssub, sub0_o, sub1_o, sub2_o, sub3_s, r_sfld, sfld0_o, sfld1_o, r_sfor, for1_o, r_swhile, r_run, run1_n, run1_r, len_rng, len_li, len_lst, len_tup, len_zip, len_enum, puts, putsL, optmap_nil, get_comp, puts_comp, putsL_comp, put_comp', puts_nil, putsL_nil, putE_nil, putE_map, comp_nil, nil_comp, comp_one, cutW_nil, get_one, get_nil, puts_li, putsL_li, li_len, permL, D.has, hasL, hasL_li, isTyD, isClD, isi2, isD_non, isNone, cmpD_int, negD_int, addD_int, subD_int, eqD_int, neD_int, eqD_li, neD_li, listD_lst, listD_tup, tupleD_lst, lenD_lst, lenD_tup, intD1_int, ixD_0, ixD_1, ixD_2, ixD_3, bitsD_int, cutOk, List.map_cons, List.map_nil, List.length_cons, List.length_nil, List.getElem?_cons_zero, List.getElem?_cons_succ, List.set_cons_zero, List.set_cons_succ, List.replicate, List.cons_append, List.nil_append, Option.map_some, Option.map_none, Nat.reduceAdd, Nat.reduceSub, Nat.add_assoc, Nat.zero_add, Nat.add_zero, Bool.not_true, Bool.not_false, beq_self_eq_true, String.reduceBEq, Bool.true_or, Bool.false_or, Bool.or_true, Bool.or_false, Bool.true_and, Bool.false_and, Bool.and_true, Bool.and_false, decide_true, decide_false, Bool.false_eq_true, if_true, if_false, reduceCtorEq, Nat.reduceLeDiff]) h (len_li _ _)
  rw [len_li] at g2
  refine ⟨row, d', w, n', g1, ?_, g3, g4.mono (by omega), ⟨g5, fun m x y hx hy => g6 m x hx y hy⟩⟩
  unfold hd at g2 ⊢
  simp -implicitDefEqProofs only [q_l_row, b_l_row, g2, g3.cut hp, (PW.nil h).put g3 hp, pre_n, pre_o, of_s, r_var, var1_s, r_c, r_nil, r_cons, cons1_o, cons2_o, r_lst, lst1_o, r_tup, tup1_o, r_bin, bin1_o, bin2_o, r_un, un1_o, r_bits, r_tof, tof1_o, r_and, and1_t, and1_f, r_or, or1_t, or1_f, r_not, not1_o, r_eand, eand1_t, eand1_f, r_eor, eor1_t, eor1_f, r_enot, enot1_o, r_eif, eif1_t, eif1_f, r_call, call1_o, r_callD, r_callK, callK1_o, callK2_o, r_make, r_makeP, r_mth, mth1_o, mth2_o, r_b, r_m, m1_lst, m2_o, ofW_s, r_isi, isi1_o, isi3_s, r_fld, fld1_o, fld2_s, r_eqo, eqo1_o, eqo2_o, eqo3_o, r_osm, osm1_o, r_onone, r_sl, sl1_o, sl2_o, sl3_o, r_rev, rev1_o, r_seq, seq1_l, seq1_t, r_rng1, rng1_o, r_zip, zip1_o, r_enum, enum1_o, r_lc, lc1_o, put_0, put_c, setv_c, r_sseq, then1_n, then1_r, then1_c, then1_b, r_snil, r_sretn, r_scont, r_sbrk, r_sexpr, expr1_o, r_sret, ret1_o, r_sset, set1_o, r_sif, sif1_t, sif1_f, r_stg, stg1_o, tg1_s, r_spar, par1_o, r_spar3, par3_o, r_saug, aug0_s, aug1_o, aug2_s, r_ssub, sub0_o, sub1_o, sub2_o, sub3_s, r_sfld, sfld0_o, sfld1_o, r_sfor, for1_o, r_swhile, r_run, run1_n, run1_r, len_rng, len_li, len_lst, len_tup, len_zip, len_enum, puts, putsL, optmap_nil, get_comp, puts_comp, putsL_comp, put_comp', puts_nil, putsL_nil, putE_nil, putE_map, comp_nil, nil_comp, comp_one, cutW_nil, get_one, get_nil, puts_li, putsL_li, li_len, permL, D.has, hasL, hasL_li, isTyD, isClD, isi2, isD_non, isNone, cmpD_int, negD_int, addD_int, subD_int, eqD_int, neD_int, eqD_li, neD_li, listD_lst, listD_tup, tupleD_lst, lenD_lst, lenD_tup, intD1_int, ixD_0, ixD_1, ixD_2, ixD_3, bitsD_int, cutOk, List.map_cons, List.map_nil, List.length_cons, List.length_nil, List.getElem?_cons_zero, List.getElem?_cons_succ, List.set_cons_zero, List.set_cons_succ, List.replicate, List.cons_append, List.nil_append, Option.map_some, Option.map_none, Nat.reduceAdd, Nat.reduceSub, Nat.add_assoc, Nat.zero_add, Nat.add_zero, Bool.not_true, Bool.not_false, beq_self_eq_true, String.reduceBEq, Bool.true_or, Bool.false_or, Bool.or_true, Bool.or_false, Bool.true_and, Bool.false_and, Bool.and_true, Bool.and_false, decide_true, decide_false, Bool.false_eq_true, if_true, if_false, reduceCtorEq, Nat.reduceLeDiff]
end B
end
section
set_option Elab.async false
set_option linter.all false
set_option maxRecDepth 100000
set_option maxHeartbeats 1000000
namespace B
open PySem Sx
theorem small_one (p n m r : Nat) (N b : Int) (dk bl : D) (o4 o5 : Option D) (rs : List Int) (w : Wr) (d0 : D) (src : Src) (hsrc : ∀ d1 w d2, PW p d1 w d2 → src.puts w = src) (hsrc2 : ∀ x, src.puts [(r, x)] = src) (h : Pu p N dk) (hN : N ≤ 900000) (hp : p < n) (hr : n ≤ r) (hrm : r < m) (hb : 2 ≤ b) (hb2 : b ≤ 60) (hl : rs.length ≤ 100)
    (hbl : ∀ d1 w d2, PW p d1 w d2 → puts w bl = bl) (hbl2 : ∀ x, puts [(r, x)] bl = bl) (h0 : PW p d0 w dk) :
    ∃ x d' w' m', 0 ≤ x ∧ x ≤ 2 * b ∧ m ≤ m' ∧ PW p d0 w' d' ∧ Pu p (N + 12) d' ∧ ∃ o4' o5',
      b_l_small_house_2 n ⟨m, [some dk, some bl, some (.lst r (li rs)), some (.int b), o4, o5], w, [src]⟩ =
        .nx ⟨m', [some d', some bl, some (.lst r (li (rs ++ [x]))), some (.int b), o4', o5'], w', [src]⟩ := by
  obtain ⟨x1, d1, w1, a1, a2, e1, pw1, pu1⟩ := v_drawP p N (2 * b + 1) m dk h (by omega) (by omega) (by omega) (by omega)
  obtain ⟨x, d3, w3, hx, e3, pw3, pu3⟩ := v_one_of p _ m [b - 1, b, b, b + 1, 2 * b, x1] (m + 1) d1 pu1 (by omega) (by omega) (by omega) (by simp) (by simp)
  have m1 := mulD_sm (a := 2) (b := b) m (sm_of (by omega) (by omega)) (sm_of (by omega) (by omega))
  have hx' : 0 ≤ x ∧ x ≤ 2 * b := by simp at hx; omega
  have ap := appD_lst r (li rs) (.int x) (m + 1) (by rw [li_len]; omega) rfl
  have t1 := h0.trans pw1
  have t3 := t1.trans pw3
  have e3' : q_l_one_of [d1, .lst m [.int (b - 1), .int b, .int b, .int (b + 1), .int (2 * b), .int x1]] (m + 1) = .ok (.int x) (m + 1) w3 := e3
  refine ⟨x, d3, comp (comp w w1) w3, m + 1, hx'.1, hx'.2, by omega, t3, pu3.mono (by omega), ?_⟩
  simp -implicitDefEqProofs only [b_l_small_house_2, e1, e3', ap, m1, pw1.puts, pw3.puts, pw1.get (i := r) (by omega), pw3.get (i := r) (by omega), pw1.get (i := m) (by omega), pw3.get (i := m) (by omega),
    hbl _ _ _ pw1, hbl _ _ _ pw3, hbl2, hsrc _ _ _ pw1, hsrc _ _ _ pw3, hsrc2, h0.cut hp, t1.cut hp, t3.cut hp, h0.put pw1 hp, t1.put pw3 hp, t3.putL hp hr, t3.pu (i := r) (by omega), li_snoc, pre_n, pre_o, of_s, r_var, var1_s, r_c, r_nil, r_cons, cons1_o, cons2_o, r_lst, lst1_o, r_tup, tup1_o, r_bin, bin1_o, bin2_o, r_un, un1_o, r_bits, r_tof, tof1_o, r_and, and1_t, and1_f, r_or, or1_t, or1_f, r_not, not1_o, r_eand, eand1_t, eand1_f, r_eor, eor1_t, eor1_f, r_enot, enot1_o, r_eif, eif1_t, eif1_f, r_call, call1_o, r_callD, r_callK, callK1_o, callK2_o, r_make, r_makeP, r_mth, mth1_o, mth2_o, r_b, r_m, m1_lst, m2_o, ofW_s, r_isi, isi1_o, isi3_s, r_fld, fld1_o, fld2_s, r_eqo, eqo1_o, eqo2_o, eqo3_o, r_osm, osm1_o, r_onone, r_sl, sl1_o, sl2_o, sl3_o, r_rev, rev1_o, r_seq, seq1_l, seq1_t, r_rng1, rng1_o, r_zip, zip1_o, r_enum, enum1_o, r_lc, lc1_o, put_0, put_c, setv_c, r_sseq, then1_n, then1_r, then1_c, then1_b, r_snil, r_sretn, r_scont, r_sbrk, r_sexpr, expr1_o, r_sret, ret1_o, r_sset, set1_o, r_sif, sif1_t, sif1_f, r_stg, stg1_o, tg1_s, r_spar, par1_o, r_spar3, par3_o, r_saug, aug0_s, aug1_o, aug2_s, r_ssub, sub0_o, sub1_o, sub2_o, sub3_s, r_sfld, sfld0_o, sfld1_o, r_sfor, for1_o, r_swhile, r_run, run1_n, run1_r, len_rng, len_li, len_lst, len_tup, len_zip, len_enum, puts, putsL, optmap_nil, get_comp, puts_comp, putsL_comp, put_comp', puts_nil, putsL_nil, putE_nil, putE_map, comp_nil, nil_comp, comp_one, cutW_nil, get_one, get_nil, puts_li, putsL_li, li_len, permL, D.has, hasL, hasL_li, isTyD, isClD, isi2, isD_non, isNone, cmpD_int, negD_int, addD_int, subD_int, eqD_int, neD_int, eqD_li, neD_li, listD_lst, listD_tup, tupleD_lst, lenD_lst, lenD_tup, intD1_int, ixD_0, ixD_1, ixD_2, ixD_3, bitsD_int, cutOk, List.map_cons, List.map_nil, List.length_cons, List.length_nil, List.getElem?_cons_zero, List.getElem?_cons_succ, List.set_cons_zero, List.set_cons_succ, List.replicate, List.cons_append, List.nil_append, Option.map_some, Option.map_none, Nat.reduceAdd, Nat.reduceSub, Nat.add_assoc, Nat.zero_add, Nat.add_zero, Bool.not_true, Bool.not_false, beq_self_eq_true, String.reduceBEq, Bool.true_or, Bool.false_or, Bool.or_true, Bool.or_false, Bool.true_and, Bool.false_and, Bool.and_true, Bool.and_false, decide_true, decide_false, Bool.false_eq_true, if_true, if_false, reduceCtorEq, Nat.reduceLeDiff]
  exact ⟨_, _, rfl⟩
theorem small_loop (p n m r q i1 : Nat) (N : Int) (d0 d1 : D) (bs : List Int) (w : Wr) (h : Pu p N d1) (hN : N ≤ 800000) (hp : p < n) (hr : n ≤ r) (hrm : r < m) (hq : n ≤ q) (hqr : q ≠ r) (hi1 : n ≤ i1) (hir : i1 ≠ r) (hb : Btw 2 4 bs) (hl : bs.length ≤ 10) (h0 : PW p d0 w d1) :
    ∃ rs d' w' m' o3 o4 o5, m ≤ m' ∧ PW p d0 w' d' ∧ Pu p (N + 200) d' ∧ Btw 0 8 rs ∧ rs.length = bs.length + 1 ∧ (o3 = none ∨ ∃ b, o3 = some (.int b)) ∧
      forGo (tgN 3) b_l_small_house_2 n (bs.length + 1) 0 ⟨m, [some d1, some (.lst i1 (li bs)), some (.lst r []), none, none, none], w, [.lst (.lst q (li (bs ++ [2])))]⟩ =
        .nx ⟨m', [some d', some (.lst i1 (li bs)), some (.lst r (li rs)), o3, o4, o5], w', []⟩ := by
  have hb4 : Btw 2 4 (bs ++ [2]) := hb.snoc (by decide) (by decide)
  have hlen : (bs ++ [2]).length = bs.length + 1 := by simp
  obtain ⟨s', src, hh, e1, e2, dk, rs, m', w', o3, o4, o5, e3, a1, a2, a3, a4, a5, a6⟩ := forGo_inv (tg := tgN 3) (body := b_l_small_house_2) (n0 := n)
    (fun k s => ∃ dk rs m' w' o3 o4 o5, s = ⟨m', [some dk, some (.lst i1 (li bs)), some (.lst r (li rs)), o3, o4, o5], w', [.lst (.lst q (li (bs ++ [2])))]⟩ ∧ m ≤ m' ∧ PW p d0 w' dk ∧ Pu p (N + 12 * k) dk ∧ Btw 0 8 rs ∧ rs.length = k ∧ (o3 = none ∨ ∃ b, o3 = some (.int b))) (bs.length + 1)
    (fun k s hk hI => by
      obtain ⟨dk, rs, m', w', o3, o4, o5, rfl, a1, a2, a3, a4, a5, _⟩ := hI
      have hk2 : k < (bs ++ [2]).length := by omega
      obtain ⟨b1, b2⟩ := hb4.get (List.getElem?_eq_getElem hk2)
      obtain ⟨x, d', w2, m2, c1, c2, c3, c4, c5, o4', o5', c6⟩ := small_one p n m' r (N + 12 * k) (bs ++ [2])[k] dk (.lst i1 (li bs)) o4 o5 rs w' d0 (.lst (.lst q (li (bs ++ [2]))))
        (fun _ _ _ pw => lst_puts _ _ _ (pw.get (by omega))) (fun x => lst_puts _ _ _ (get_one_ne _ _ _ hqr)) a3 (by omega) hp hr (by omega) b1 (by omega) (by omega) (fun _ _ _ pw => pw.li (by omega)) (fun x => puts_li _ _ _ (get_one_ne _ _ _ hir)) a2
      refine ⟨_, _, .int (bs ++ [2])[k], _, _, rfl, ?_, rfl, .inl c6, d', rs ++ [x], m2, w2, _, o4', o5', rfl, by omega, c4, c5.mono (by omega), a4.snoc c1 (by omega), by rw [List.length_append, a5]; rfl, .inr ⟨_, rfl⟩⟩
      rw [lst_at, List.getElem?_eq_getElem hk2]; rfl)
    (fun s hI => by
      obtain ⟨dk, rs, m', w', o3, o4, o5, rfl, _⟩ := hI
      exact ⟨_, _, rfl, by rw [lst_at, List.getElem?_eq_none_iff.mpr (by omega)]; rfl⟩)
    (bs.length + 1) 0 ⟨m, [some d1, some (.lst i1 (li bs)), some (.lst r []), none, none, none], w, [.lst (.lst q (li (bs ++ [2])))]⟩ (by omega) ⟨d1, [], m, w, none, none, none, rfl, Nat.le_refl _, h0, by simpa using h, .nil, rfl, .inl rfl⟩
  subst e3
  refine ⟨rs, dk, w', m', o3, o4, o5, a1, a2, a3.mono (by omega), a4, a5, a6, ?_⟩
  rw [e1]
  cases e2
  rfl
end B
end
section
set_option Elab.async false
set_option linter.all false
set_option maxRecDepth 100000
set_option maxHeartbeats 1000000
namespace B
open PySem Sx
theorem while_t {c : TV} {body : SV} {n0 fuel n1 : Nat} {s s' : SS} (h : c s.n s.env = .ok true n1 []) (hb : body n0 { s with n := n1 } = .nx s') : whileGo c body n0 (fuel + 1) s = whileGo c body n0 fuel s' := by
  rw [whileGo.eq_def]
  simp only [h, if_true, putNil, hb]
theorem while_f {c : TV} {body : SV} {n0 fuel n1 : Nat} {s : SS} (h : c s.n s.env = .ok false n1 []) : whileGo c body n0 fuel s = .nx { s with n := n1 } := by
  rw [whileGo.eq_def]
  simp only [h, Bool.false_eq_true, if_false, putNil]
theorem mrows_zero (xs : List Int) : (∀ x ∈ xs, x = 0) → mrows xs = 1 := by
  refine snoc_ind (P := fun xs => (∀ x ∈ xs, x = 0) → mrows xs = 1) (fun _ => rfl) (fun xs x ih h => ?_) xs
  rw [mrows_snoc, ih fun y hy => h y (List.mem_append_left _ hy), h x (List.mem_append_right _ (List.mem_singleton_self x))]
  rfl
theorem sum_set : ∀ {xs : List Int} {k : Nat} {x y : Int}, xs[k]? = some x → (xs.set k y).sum = xs.sum - x + y
  | [], _, _, _, h => by simp at h
  | a :: xs, 0, x, y, h => by
    have e : a = x := by simpa using h
    subst e
    simp only [List.set_cons_zero, List.sum_cons]
    omega
  | a :: xs, k + 1, x, y, h => by
    have ih := sum_set (xs := xs) (k := k) (x := x) (y := y) (by simpa using h)
    simp only [List.set_cons_succ, List.sum_cons, ih]
    omega
theorem idxOf_mem {x : Int} : ∀ {xs : List Int}, x ∈ xs → ∃ k, idxOf x xs = some k
  | y :: r, h => by
    rw [idxOf]
    by_cases e : y = x
    · exact ⟨0, if_pos e⟩
    · rw [if_neg e]
      rcases List.mem_cons.mp h with h | h
      · exact absurd h.symm e
      · obtain ⟨k, hk⟩ := idxOf_mem h
        exact ⟨k + 1, by rw [hk]; rfl⟩
theorem maxD_li (i : Nat) (xs : List Int) (n : Nat) (h : xs ≠ []) : maxD [.lst i (li xs)] n = some (.int (maxL xs), n) := by
  show onInts (fun ns => if ns.isEmpty then none else some (.int (maxL ns))) [.lst i (li xs)] n = _
  unfold onInts
  simp only [asInts_li]
  cases xs with
  | nil => exact absurd rfl h
  | cons x r => rfl
theorem indexD_li (i : Nat) (xs : List Int) (x : Int) (k n : Nat) (h : idxOf x xs = some k) : indexD (.lst i (li xs)) [.int x] n = some (.int (k : Int), n, []) := by
  show (match asInts (li xs) with | some ns => (idxOf x ns).map fun j => (D.int (j : Nat), n, []) | none => none) = _
  rw [asInts_li]
  show (idxOf x xs).map _ = _
  rw [h]; rfl
theorem li_set (xs : List Int) (k : Nat) (y : Int) : (li xs).set k (.int y) = li (xs.set k y) := by
  unfold li
  rw [List.map_set]
theorem small_while (n r i1 hI m : Nat) (d' : D) (o3 : Option D) (bs : List Int) (w : Wr) (hr : n ≤ r) (hi1 : i1 ≠ r) (hhI : hI ≠ r) (hd' : ∀ x, puts [(r, x)] d' = d') (ho3 : ∀ x, o3.map (puts [(r, x)]) = o3) (hw : ∀ x, cutW n (comp w [(r, x)]) = w) :
    ∀ (fuel : Nat) (rs : List Int) (o5 : Option D), Btw 0 8 rs → rs.length ≤ 8 → rs ≠ [] → rs.sum < fuel → ∃ rs' o5', Btw 0 8 rs' ∧ rs'.length = rs.length ∧ mrows rs' ≤ 400 ∧
      whileGo (tOf (eBin gtD (eCall q_l_many_rows (aCons (eVar 4) aNil)) (eC (.int 400)))) b_l_small_house_3 n fuel ⟨m, [some d', some (.lst i1 (li bs)), some (.lst r (li rs)), o3, some (hd hI i1 r bs rs), o5], w, []⟩ =
        .nx ⟨m, [some d', some (.lst i1 (li bs)), some (.lst r (li rs')), o3, some (hd hI i1 r bs rs'), o5'], w, []⟩ := by
  intro fuel
  induction fuel with
  | zero =>
    intro rs o5 h hl hne hs
    exfalso
    have : ∀ xs : List Int, Btw 0 8 xs → 0 ≤ xs.sum := fun xs => by
      induction xs with
      | nil => intro _; decide
      | cons x t ih =>
        intro hx
        have h1 := (hx x List.mem_cons_self).1
        have h2 := ih fun y hy => hx y (List.mem_cons_of_mem _ hy)
        rw [List.sum_cons]; omega
    have := this rs h
    omega
  | succ fuel ih =>
    intro rs o5 h hl hne hs
    have hmr := v_many_rows hI i1 r bs rs m (h.mono (by omega) (by omega)) hl
    by_cases h400 : 400 < mrows rs
    · have hmem := maxL_mem hne
      have hpos : 1 ≤ maxL rs := by
        by_cases hz : 1 ≤ maxL rs
        · exact hz
        · exfalso
          rw [mrows_zero rs fun x hx => by
            have h1 := (h x hx).1
            have h2 := maxL_ge hx
            omega] at h400
          omega
      obtain ⟨k, hk⟩ := idxOf_mem hmem
      obtain ⟨hk1, _⟩ := idxOf_at hk
      have hklt : k < rs.length := (List.getElem?_eq_some_iff.mp hk1).1
      have hb := h (maxL rs) hmem
      have hset : Btw 0 8 (rs.set k (maxL rs - 1)) := fun x hx => by
        rcases List.mem_or_eq_of_mem_set hx with hx | rfl
        · exact h x hx
        · omega
      obtain ⟨rs', o5', a1, a2, a3, a4⟩ := ih (rs.set k (maxL rs - 1)) (some (.int (k : Int))) hset (by rw [List.length_set]; exact hl) (fun e => hne (by
        have := congrArg List.length e
        rw [List.length_set] at this
        exact List.length_eq_zero_iff.mp this)) (by rw [sum_set hk1]; omega)
      refine ⟨rs', o5', a1, by rw [a2, List.length_set], a3, ?_⟩
      rw [← a4]
      refine while_t (n1 := m) ?_ ?_
      · simp -implicitDefEqProofs only [hmr, h400, pre_n, pre_o, of_s, r_var, var1_s, r_c, r_nil, r_cons, cons1_o, cons2_o, r_lst, lst1_o, r_tup, tup1_o, r_bin, bin1_o, bin2_o, r_un, un1_o, r_bits, r_tof, tof1_o, r_and, and1_t, and1_f, r_or, or1_t, or1_f, r_not, not1_o, r_eand, eand1_t, eand1_f, r_eor, eor1_t, eor1_f, r_enot, enot1_o, r_eif, eif1_t, eif1_f, r_call, call1_o, r_callD, r_callK, callK1_o, callK2_o, r_make, r_makeP, r_mth, mth1_o, mth2_o, r_b, r_m, m1_lst, m2_o, ofW_s, r_isi, isi1_o, isi3_s, r_fld, fld1_o, fld2_s, r_eqo, eqo1_o, eqo2_o, eqo3_o, r_osm, osm1_o, r_onone, r_sl, sl1_o, sl2_o, sl3_o, r_rev, rev1_o, r_seq, seq1_l, seq1_t, r_rng1, rng1_o, r_zip, zip1_o, r_enum, enum1_o, r_lc, lc1_o, put_0, put_c, setv_c, r_sseq, then1_n, then1_r, then1_c, then1_b, r_snil, r_sretn, r_scont, r_sbrk, r_sexpr, expr1_o, r_sret, ret1_o, r_sset, set1_o, r_sif, sif1_t, sif1_f, r_stg, stg1_o, tg1_s, r_spar, par1_o, r_spar3, par3_o, r_saug, aug0_s, aug1_o, aug2_s, r_ssub, sub0_o, sub1_o, sub2_o, sub3_s, r_sfld, sfld0_o, sfld1_o, r_sfor, for1_o, r_swhile, r_run, run1_n, run1_r, len_rng, len_li, len_lst, len_tup, len_zip, len_enum, puts, putsL, optmap_nil, get_comp, puts_comp, putsL_comp, put_comp', puts_nil, putsL_nil, putE_nil, putE_map, comp_nil, nil_comp, comp_one, cutW_nil, get_one, get_nil, puts_li, putsL_li, li_len, permL, D.has, hasL, hasL_li, isTyD, isClD, isi2, isD_non, isNone, cmpD_int, negD_int, addD_int, subD_int, eqD_int, neD_int, eqD_li, neD_li, listD_lst, listD_tup, tupleD_lst, lenD_lst, lenD_tup, intD1_int, ixD_0, ixD_1, ixD_2, ixD_3, bitsD_int, cutOk, List.map_cons, List.map_nil, List.length_cons, List.length_nil, List.getElem?_cons_zero, List.getElem?_cons_succ, List.set_cons_zero, List.set_cons_succ, List.replicate, List.cons_append, List.nil_append, Option.map_some, Option.map_none, Nat.reduceAdd, Nat.reduceSub, Nat.add_assoc, Nat.zero_add, Nat.add_zero, Bool.not_true, Bool.not_false, beq_self_eq_true, String.reduceBEq, Bool.true_or, Bool.false_or, Bool.or_true, Bool.or_false, Bool.true_and, Bool.false_and, Bool.and_true, Bool.and_false, decide_true, decide_false, Bool.false_eq_true, if_true, if_false, reduceCtorEq, Nat.reduceLeDiff]
      · have e1 := maxD_li r rs m hne
        have e2 := indexD_li r rs (maxL rs) k m hk
        have e3 := ixD_li r rs k (maxL rs) m hk1
        have e4 := setD_lst r (li rs) k (.int (maxL rs - 1)) (by rw [li_len]; exact hklt) rfl
        rw [li_set] at e4
        unfold hd
        simp -implicitDefEqProofs only [b_l_small_house_3, e1, e2, e3, e4, hw, hd', ho3, get_one_ne _ _ _ hi1, get_one_ne _ _ _ hhI, put_c, pre_n, pre_o, of_s, r_var, var1_s, r_c, r_nil, r_cons, cons1_o, cons2_o, r_lst, lst1_o, r_tup, tup1_o, r_bin, bin1_o, bin2_o, r_un, un1_o, r_bits, r_tof, tof1_o, r_and, and1_t, and1_f, r_or, or1_t, or1_f, r_not, not1_o, r_eand, eand1_t, eand1_f, r_eor, eor1_t, eor1_f, r_enot, enot1_o, r_eif, eif1_t, eif1_f, r_call, call1_o, r_callD, r_callK, callK1_o, callK2_o, r_make, r_makeP, r_mth, mth1_o, mth2_o, r_b, r_m, m1_lst, m2_o, ofW_s, r_isi, isi1_o, isi3_s, r_fld, fld1_o, fld2_s, r_eqo, eqo1_o, eqo2_o, eqo3_o, r_osm, osm1_o, r_onone, r_sl, sl1_o, sl2_o, sl3_o, r_rev, rev1_o, r_seq, seq1_l, seq1_t, r_rng1, rng1_o, r_zip, zip1_o, r_enum, enum1_o, r_lc, lc1_o, put_0, put_c, setv_c, r_sseq, then1_n, then1_r, then1_c, then1_b, r_snil, r_sretn, r_scont, r_sbrk, r_sexpr, expr1_o, r_sret, ret1_o, r_sset, set1_o, r_sif, sif1_t, sif1_f, r_stg, stg1_o, tg1_s, r_spar, par1_o, r_spar3, par3_o, r_saug, aug0_s, aug1_o, aug2_s, r_ssub, sub0_o, sub1_o, sub2_o, sub3_s, r_sfld, sfld0_o, sfld1_o, r_sfor, for1_o, r_swhile, r_run, run1_n, run1_r, len_rng, len_li, len_lst, len_tup, len_zip, len_enum, puts, putsL, optmap_nil, get_comp, puts_comp, putsL_comp, put_comp', puts_nil, putsL_nil, putE_nil, putE_map, comp_nil, nil_comp, comp_one, cutW_nil, get_one, get_nil, puts_li, putsL_li, li_len, permL, D.has, hasL, hasL_li, isTyD, isClD, isi2, isD_non, isNone, cmpD_int, negD_int, addD_int, subD_int, eqD_int, neD_int, eqD_li, neD_li, listD_lst, listD_tup, tupleD_lst, lenD_lst, lenD_tup, intD1_int, ixD_0, ixD_1, ixD_2, ixD_3, bitsD_int, cutOk, List.map_cons, List.map_nil, List.length_cons, List.length_nil, List.getElem?_cons_zero, List.getElem?_cons_succ, List.set_cons_zero, List.set_cons_succ, List.replicate, List.cons_append, List.nil_append, Option.map_some, Option.map_none, Nat.reduceAdd, Nat.reduceSub, Nat.add_assoc, Nat.zero_add, Nat.add_zero, Bool.not_true, Bool.not_false, beq_self_eq_true, String.reduceBEq, Bool.true_or, Bool.false_or, Bool.or_true, Bool.or_false, Bool.true_and, Bool.false_and, Bool.and_true, Bool.and_false, decide_true, decide_false, Bool.false_eq_true, if_true, if_false, reduceCtorEq, Nat.reduceLeDiff]
    · refine ⟨rs, o5, h, rfl, by omega, ?_⟩
      rw [while_f (n1 := m)]
      simp -implicitDefEqProofs only [hmr, h400, pre_n, pre_o, of_s, r_var, var1_s, r_c, r_nil, r_cons, cons1_o, cons2_o, r_lst, lst1_o, r_tup, tup1_o, r_bin, bin1_o, bin2_o, r_un, un1_o, r_bits, r_tof, tof1_o, r_and, and1_t, and1_f, r_or, or1_t, or1_f, r_not, not1_o, r_eand, eand1_t, eand1_f, r_eor, eor1_t, eor1_f, r_enot, enot1_o, r_eif, eif1_t, eif1_f, r_call, call1_o, r_callD, r_callK, callK1_o, callK2_o, r_make, r_makeP, r_mth, mth1_o, mth2_o, r_b, r_m, m1_lst, m2_o, ofW_s, r_isi, isi1_o, isi3_s, r_fld, fld1_o, fld2_s, r_eqo, eqo1_o, eqo2_o, eqo3_o, r_osm, osm1_o, r_onone, r_sl, sl1_o, sl2_o, sl3_o, r_rev, rev1_o, r_seq, seq1_l, seq1_t, r_rng1, rng1_o, r_zip, zip1_o, r_enum, enum1_o, r_lc, lc1_o, put_0, put_c, setv_c, r_sseq, then1_n, then1_r, then1_c, then1_b, r_snil, r_sretn, r_scont, r_sbrk, r_sexpr, expr1_o, r_sret, ret1_o, r_sset, set1_o, r_sif, sif1_t, sif1_f, r_stg, stg1_o, tg1_s, r_spar, par1_o, r_spar3, par3_o, r_saug, aug0_s, aug1_o, aug2_s, r_ssub, sub0_o, sub1_o, sub2_o, sub3_s, r_sfld, sfld0_o, sfld1_o, r_sfor, for1_o, r_swhile, r_run, run1_n, run1_r, len_rng, len_li, len_lst, len_tup, len_zip, len_enum, puts, putsL, optmap_nil, get_comp, puts_comp, putsL_comp, put_comp', puts_nil, putsL_nil, putE_nil, putE_map, comp_nil, nil_comp, comp_one, cutW_nil, get_one, get_nil, puts_li, putsL_li, li_len, permL, D.has, hasL, hasL_li, isTyD, isClD, isi2, isD_non, isNone, cmpD_int, negD_int, addD_int, subD_int, eqD_int, neD_int, eqD_li, neD_li, listD_lst, listD_tup, tupleD_lst, lenD_lst, lenD_tup, intD1_int, ixD_0, ixD_1, ixD_2, ixD_3, bitsD_int, cutOk, List.map_cons, List.map_nil, List.length_cons, List.length_nil, List.getElem?_cons_zero, List.getElem?_cons_succ, List.set_cons_zero, List.set_cons_succ, List.replicate, List.cons_append, List.nil_append, Option.map_some, Option.map_none, Nat.reduceAdd, Nat.reduceSub, Nat.add_assoc, Nat.zero_add, Nat.add_zero, Bool.not_true, Bool.not_false, beq_self_eq_true, String.reduceBEq, Bool.true_or, Bool.false_or, Bool.or_true, Bool.or_false, Bool.true_and, Bool.false_and, Bool.and_true, Bool.and_false, decide_true, decide_false, Bool.false_eq_true, if_true, if_false, reduceCtorEq, Nat.reduceLeDiff]
end B
end
section
set_option Elab.async false
set_option linter.all false
set_option maxRecDepth 100000
set_option maxHeartbeats 1000000
namespace B
open PySem Sx
theorem v_small_house (p n : Nat) (N : Int) (d : D) (h : Pu p N d) (hN : N ≤ 700000) (hp : p < n) :
    ∃ i j k bs rs d' w n', n ≤ i ∧ n ≤ j ∧ n ≤ k ∧ i < n' ∧ j < n' ∧ k < n' ∧ i ≠ j ∧ i ≠ k ∧ j ≠ k ∧ q_l_small_house [d] n = .ok (hd i j k bs rs) n' w ∧ PW p d w d' ∧ Pu p (N + 300) d' ∧ Good bs rs ∧ bs.length ≤ 3 ∧ mrows rs ≤ 400 := by
  obtain ⟨K, d0, w0, K0, K1, e0, pw0, pu0⟩ := v_drawP p N 4 n d h (by omega) hp (by omega) (by omega)
  obtain ⟨k1, rfl⟩ : ∃ k : Nat, K = (k : Int) := ⟨K.toNat, by omega⟩
  have hT : ((k1 : Int)).toNat = k1 := by omega
  obtain ⟨bs, d1, w1, n1, g1, g2, g3, g4, g5, g6⟩ := v_bases p (N + 4) d0 n k1 [2, 2, 2, 3, 3, 4] none [none, none, none, none, none] [5] (tgN 5) c_l_small_house_1 pu0 (by omega) hp (by omega) (by simp) (by simp)
    (fun _ _ _ pw => putE_free pw (by simp)) (fun dk k m x d' w hm e => by
      refine ⟨_, rfl, ?_⟩
      have e' : q_l_one_of [dk, .lst m [.int 2, .int 2, .int 2, .int 3, .int 3, .int 4]] (m + 1) = .ok (.int x) (m + 1) w := e
      simp -implicitDefEqProofs only [c_l_small_house_1, wipeE, e', pre_n, pre_o, of_s, r_var, var1_s, r_c, r_nil, r_cons, cons1_o, cons2_o, r_lst, lst1_o, r_tup, tup1_o, r_bin, bin1_o, bin2_o, r_un, un1_o, r_bits, r_tof, tof1_o, r_and, and1_t, and1_f, r_or, or1_t, or1_f, r_not, not1_o, r_eand, eand1_t, eand1_f, r_eor, eor1_t, eor1_f, r_enot, enot1_o, r_eif, eif1_t, eif1_f, r_call, call1_o, r_callD, r_callK, callK1_o, callK2_o, r_make, r_makeP, r_mth, mth1_o, mth2_o, r_b, r_m, m1_lst, m2_o, ofW_s, r_isi, isi1_o, isi3_s, r_fld, fld1_o, fld2_s, r_eqo, eqo1_o, eqo2_o, eqo3_o, r_osm, osm1_o, r_onone, r_sl, sl1_o, sl2_o, sl3_o, r_rev, rev1_o, r_seq, seq1_l, seq1_t, r_rng1, rng1_o, r_zip, zip1_o, r_enum, enum1_o, r_lc, lc1_o, put_0, put_c, setv_c, r_sseq, then1_n, then1_r, then1_c, then1_b, r_snil, r_sretn, r_scont, r_sbrk, r_sexpr, expr1_o, r_sret, ret1_o, r_sset, set1_o, r_sif, sif1_t, sif1_f, r_stg, stg1_o, tg1_s, r_spar, par1_o, r_spar3, par3_o, r_saug, aug0_s, aug1_o, aug2_s, r_ssub, sub0_o, sub1_o, sub2_o, sub3_s, r_sfld, sfld0_o, sfld1_o, r_sfor, for1_o, r_swhile, r_run, run1_n, run1_r, len_rng, len_li, len_lst, len_tup, len_zip, len_enum, puts, putsL, optmap_nil, get_comp, puts_comp, putsL_comp, put_comp', puts_nil, putsL_nil, putE_nil, putE_map, comp_nil, nil_comp, comp_one, cutW_nil, get_one, get_nil, puts_li, putsL_li, li_len, permL, D.has, hasL, hasL_li, isTyD, isClD, isi2, isD_non, isNone, cmpD_int, negD_int, addD_int, subD_int, eqD_int, neD_int, eqD_li, neD_li, listD_lst, listD_tup, tupleD_lst, lenD_lst, lenD_tup, intD1_int, ixD_0, ixD_1, ixD_2, ixD_3, bitsD_int, cutOk, List.map_cons, List.map_nil, List.length_cons, List.length_nil, List.getElem?_cons_zero, List.getElem?_cons_succ, List.set_cons_zero, List.set_cons_succ, List.replicate, List.cons_append, List.nil_append, Option.map_some, Option.map_none, Nat.reduceAdd, Nat.reduceSub, Nat.add_assoc, Nat.zero_add, Nat.add_zero, Bool.not_true, Bool.not_false, beq_self_eq_true, String.reduceBEq, Bool.true_or, Bool.false_or, Bool.or_true, Bool.or_false, Bool.true_and, Bool.false_and, Bool.and_true, Bool.and_false, decide_true, decide_false, Bool.false_eq_true, if_true, if_false, reduceCtorEq, Nat.reduceLeDiff])
  have hbs : Btw 2 4 bs := fun x hx => by have := g6 x hx; simp at this; omega
  have t1 := pw0.trans g3
  obtain ⟨rs, d2, w2, n2, o3, o4, o5, l1, l2, l3, l4, l5, o3p, l6⟩ := small_loop p n (n1 + 4) (n1 + 1) (n1 + 3) n1 (N + 4 + 4 * k1) d d1 bs (comp w0 w1) g4 (by omega) hp (by omega) (by omega) (by omega) (by omega) (by omega) (by omega) hbs (by omega) t1
  have hsum : rs.sum < 1000 := by
    have : ∀ xs : List Int, Btw 0 8 xs → xs.sum ≤ 8 * xs.length := fun xs => by
      induction xs with
      | nil => intro _; decide
      | cons x t ih =>
        intro hx
        have h1 := (hx x List.mem_cons_self).2
        have h2 := ih fun y hy => hx y (List.mem_cons_of_mem _ hy)
        rw [List.sum_cons, List.length_cons]; omega
    have := this rs l4
    omega
  have l2p : ∀ x, puts [(n1 + 1, x)] d2 = d2 := fun x => l2.pu (by omega)
  obtain ⟨rs', o5', b1, b2, b3, b4⟩ := small_while n (n1 + 1) n1 n2 (n2 + 1) d2 o3 bs w2 (by omega) (by omega) (by omega) l2p (fun x => by
    rcases o3p with rfl | ⟨b, rfl⟩ <;> rfl) (fun x => l2.local_ hp (by omega)) 1000 rs o5 l4 (by omega) (fun e => by rw [e] at l5; simp at l5) hsum
  have ad : addD (.lst n1 (li bs)) (.lst (n1 + 2) [.int 2]) (n1 + 3) = some (.lst (n1 + 3) (li (bs ++ [2])), n1 + 4) := addD_li _ _ bs [2] _ (by simp; omega)
  have hlen : (bs ++ [2]).length = bs.length + 1 := by simp
  have pz0 := (PW.nil h).put pw0 hp (n := n) (n1 := n1 + 1) (env := [some d, none, none, none, none, none]) (hid := [])
  have pz1 := pw0.put g3 hp (n := n1 + 1) (n1 := n1 + 1) (env := [some d0, none, none, none, none, none]) (hid := [])
  refine ⟨n2, n1, n1 + 1, bs, rs', d2, w2, n2 + 1, by omega, by omega, by omega, by omega, by omega, by omega, by omega, by omega, by omega, ?_, l2, l3.mono (by omega), ⟨hbs.mono (by omega) (by omega), b1.mono (by omega) (by omega), by omega, by omega⟩, by omega, b3⟩
  unfold hd at b4 ⊢
  simp -implicitDefEqProofs only [q_l_small_house, b_l_small_house, e0, rng1_o _ _ _ (show (0 : Int) ≤ (k1 : Int) by omega) (show ((k1 : Int) : Int) ≤ 1000000000 by omega), hT, g2, pw0.puts, pz0, pw0.cut hp, pz1, g3.puts, ad, hlen, l6, b4, pre_n, pre_o, of_s, r_var, var1_s, r_c, r_nil, r_cons, cons1_o, cons2_o, r_lst, lst1_o, r_tup, tup1_o, r_bin, bin1_o, bin2_o, r_un, un1_o, r_bits, r_tof, tof1_o, r_and, and1_t, and1_f, r_or, or1_t, or1_f, r_not, not1_o, r_eand, eand1_t, eand1_f, r_eor, eor1_t, eor1_f, r_enot, enot1_o, r_eif, eif1_t, eif1_f, r_call, call1_o, r_callD, r_callK, callK1_o, callK2_o, r_make, r_makeP, r_mth, mth1_o, mth2_o, r_b, r_m, m1_lst, m2_o, ofW_s, r_isi, isi1_o, isi3_s, r_fld, fld1_o, fld2_s, r_eqo, eqo1_o, eqo2_o, eqo3_o, r_osm, osm1_o, r_onone, r_sl, sl1_o, sl2_o, sl3_o, r_rev, rev1_o, r_seq, seq1_l, seq1_t, r_rng1, rng1_o, r_zip, zip1_o, r_enum, enum1_o, r_lc, lc1_o, put_0, put_c, setv_c, r_sseq, then1_n, then1_r, then1_c, then1_b, r_snil, r_sretn, r_scont, r_sbrk, r_sexpr, expr1_o, r_sret, ret1_o, r_sset, set1_o, r_sif, sif1_t, sif1_f, r_stg, stg1_o, tg1_s, r_spar, par1_o, r_spar3, par3_o, r_saug, aug0_s, aug1_o, aug2_s, r_ssub, sub0_o, sub1_o, sub2_o, sub3_s, r_sfld, sfld0_o, sfld1_o, r_sfor, for1_o, r_swhile, r_run, run1_n, run1_r, len_rng, len_li, len_lst, len_tup, len_zip, len_enum, puts, putsL, optmap_nil, get_comp, puts_comp, putsL_comp, put_comp', puts_nil, putsL_nil, putE_nil, putE_map, comp_nil, nil_comp, comp_one, cutW_nil, get_one, get_nil, puts_li, putsL_li, li_len, permL, D.has, hasL, hasL_li, isTyD, isClD, isi2, isD_non, isNone, cmpD_int, negD_int, addD_int, subD_int, eqD_int, neD_int, eqD_li, neD_li, listD_lst, listD_tup, tupleD_lst, lenD_lst, lenD_tup, intD1_int, ixD_0, ixD_1, ixD_2, ixD_3, bitsD_int, cutOk, List.map_cons, List.map_nil, List.length_cons, List.length_nil, List.getElem?_cons_zero, List.getElem?_cons_succ, List.set_cons_zero, List.set_cons_succ, List.replicate, List.cons_append, List.nil_append, Option.map_some, Option.map_none, Nat.reduceAdd, Nat.reduceSub, Nat.add_assoc, Nat.zero_add, Nat.add_zero, Bool.not_true, Bool.not_false, beq_self_eq_true, String.reduceBEq, Bool.true_or, Bool.false_or, Bool.or_true, Bool.or_false, Bool.true_and, Bool.false_and, Bool.and_true, Bool.and_false, decide_true, decide_false, Bool.false_eq_true, if_true, if_false, reduceCtorEq, Nat.reduceLeDiff]
theorem great_one (p n m i j k a : Nat) (N b : Int) (dk : D) (o2 o3 : Option D) (bs rs : List Int) (w : Wr) (d0 : D) (src : Src) (hsrc : ∀ d1 w d2, PW p d1 w d2 → src.puts w = src) (hsrc2 : ∀ x, src.puts [(k, x)] = src) (h : Pu p N dk) (hN : N ≤ 900000) (hp : p < n) (hi : i ≠ p) (hj : j ≠ p) (hk : n ≤ k) (hik : i ≠ k) (hjk : j ≠ k) (hm : n ≤ m) (hb : 2 ≤ b) (hb2 : b ≤ 60) (hr : Btw 0 60 rs) (hl : a < rs.length) (h0 : PW p d0 w dk) :
    ∃ rs' d' w', Btw 0 60 rs' ∧ rs'.length = rs.length ∧ PW p d0 w' d' ∧ Pu p (N + 8) d' ∧
      b_l_great_house_1 n ⟨m, [some dk, some (hd i j k bs rs), some (.int (a : Int)), some (.int b)], w, [src]⟩ = .nx ⟨m, [some d', some (hd i j k bs rs'), some (.int (a : Int)), some (.int b)], w', [src]⟩ := by
  obtain ⟨x1, d1, w1, a1, a2, e1, pw1, pu1⟩ := v_drawP p N 3 m dk h (by omega) (by omega) (by omega) (by omega)
  have t1 := h0.trans pw1
  have hx : rs[a]? = some rs[a] := List.getElem?_eq_getElem hl
  have f1 := pw1.free (has_hd (bs := bs) (rs := rs) hi hj (show k ≠ p by omega))
  have ixr := ixD_li k rs a rs[a] m hx
  unfold hd at f1 ⊢
  by_cases h1 : 0 < x1
  · by_cases h2 : rs[a] < b
    · obtain ⟨x2, d2, w2, a3, a4, e2, pw2, pu2⟩ := v_drawP p _ 4 m d1 pu1 (by omega) (by omega) (by omega) (by omega)
      have t2 := t1.trans pw2
      have f2 := pw2.free (has_hd (bs := bs) (rs := rs) hi hj (show k ≠ p by omega))
      unfold hd at f2
      have st := setD_lst k (li rs) a (.int (min 60 (b + x2))) (by rw [li_len]; exact hl) rfl
      rw [li_set] at st
      refine ⟨rs.set a (min 60 (b + x2)), d2, comp (comp w w1) w2, fun y hy => ?_, by rw [List.length_set], t2, pu2.mono (by omega), ?_⟩
      · rcases List.mem_or_eq_of_mem_set hy with hy | rfl
        · exact hr y hy
        · omega
      · simp -implicitDefEqProofs only [b_l_great_house_1, e1, e2, h1, h2, pw1.puts, pw2.puts, pw1.get (i := i) hi, pw1.get (i := j) hj, pw1.get (i := k) (by omega), pw2.get (i := i) hi, pw2.get (i := j) hj, pw2.get (i := k) (by omega), h0.put pw1 hp, t1.put pw2 hp, h0.cut hp, t1.cut hp, t2.cut hp, t2.putL hp hk, hsrc _ _ _ pw1, hsrc _ _ _ pw2, hsrc2, ixr, st, minD_int, t2.pu (show k ≠ p by omega), get_one_ne _ _ _ hik, get_one_ne _ _ _ hjk, pre_n, pre_o, of_s, r_var, var1_s, r_c, r_nil, r_cons, cons1_o, cons2_o, r_lst, lst1_o, r_tup, tup1_o, r_bin, bin1_o, bin2_o, r_un, un1_o, r_bits, r_tof, tof1_o, r_and, and1_t, and1_f, r_or, or1_t, or1_f, r_not, not1_o, r_eand, eand1_t, eand1_f, r_eor, eor1_t, eor1_f, r_enot, enot1_o, r_eif, eif1_t, eif1_f, r_call, call1_o, r_callD, r_callK, callK1_o, callK2_o, r_make, r_makeP, r_mth, mth1_o, mth2_o, r_b, r_m, m1_lst, m2_o, ofW_s, r_isi, isi1_o, isi3_s, r_fld, fld1_o, fld2_s, r_eqo, eqo1_o, eqo2_o, eqo3_o, r_osm, osm1_o, r_onone, r_sl, sl1_o, sl2_o, sl3_o, r_rev, rev1_o, r_seq, seq1_l, seq1_t, r_rng1, rng1_o, r_zip, zip1_o, r_enum, enum1_o, r_lc, lc1_o, put_0, put_c, setv_c, r_sseq, then1_n, then1_r, then1_c, then1_b, r_snil, r_sretn, r_scont, r_sbrk, r_sexpr, expr1_o, r_sret, ret1_o, r_sset, set1_o, r_sif, sif1_t, sif1_f, r_stg, stg1_o, tg1_s, r_spar, par1_o, r_spar3, par3_o, r_saug, aug0_s, aug1_o, aug2_s, r_ssub, sub0_o, sub1_o, sub2_o, sub3_s, r_sfld, sfld0_o, sfld1_o, r_sfor, for1_o, r_swhile, r_run, run1_n, run1_r, len_rng, len_li, len_lst, len_tup, len_zip, len_enum, puts, putsL, optmap_nil, get_comp, puts_comp, putsL_comp, put_comp', puts_nil, putsL_nil, putE_nil, putE_map, comp_nil, nil_comp, comp_one, cutW_nil, get_one, get_nil, puts_li, putsL_li, li_len, permL, D.has, hasL, hasL_li, isTyD, isClD, isi2, isD_non, isNone, cmpD_int, negD_int, addD_int, subD_int, eqD_int, neD_int, eqD_li, neD_li, listD_lst, listD_tup, tupleD_lst, lenD_lst, lenD_tup, intD1_int, ixD_0, ixD_1, ixD_2, ixD_3, bitsD_int, cutOk, List.map_cons, List.map_nil, List.length_cons, List.length_nil, List.getElem?_cons_zero, List.getElem?_cons_succ, List.set_cons_zero, List.set_cons_succ, List.replicate, List.cons_append, List.nil_append, Option.map_some, Option.map_none, Nat.reduceAdd, Nat.reduceSub, Nat.add_assoc, Nat.zero_add, Nat.add_zero, Bool.not_true, Bool.not_false, beq_self_eq_true, String.reduceBEq, Bool.true_or, Bool.false_or, Bool.or_true, Bool.or_false, Bool.true_and, Bool.false_and, Bool.and_true, Bool.and_false, decide_true, decide_false, Bool.false_eq_true, if_true, if_false, reduceCtorEq, Nat.reduceLeDiff]
    · refine ⟨rs, d1, comp w w1, hr, rfl, t1, pu1.mono (by omega), ?_⟩
      simp -implicitDefEqProofs only [b_l_great_house_1, e1, h1, h2, pw1.puts, pw1.get (i := i) hi, pw1.get (i := j) hj, pw1.get (i := k) (by omega), h0.put pw1 hp, h0.cut hp, t1.cut hp, hsrc _ _ _ pw1, ixr, pre_n, pre_o, of_s, r_var, var1_s, r_c, r_nil, r_cons, cons1_o, cons2_o, r_lst, lst1_o, r_tup, tup1_o, r_bin, bin1_o, bin2_o, r_un, un1_o, r_bits, r_tof, tof1_o, r_and, and1_t, and1_f, r_or, or1_t, or1_f, r_not, not1_o, r_eand, eand1_t, eand1_f, r_eor, eor1_t, eor1_f, r_enot, enot1_o, r_eif, eif1_t, eif1_f, r_call, call1_o, r_callD, r_callK, callK1_o, callK2_o, r_make, r_makeP, r_mth, mth1_o, mth2_o, r_b, r_m, m1_lst, m2_o, ofW_s, r_isi, isi1_o, isi3_s, r_fld, fld1_o, fld2_s, r_eqo, eqo1_o, eqo2_o, eqo3_o, r_osm, osm1_o, r_onone, r_sl, sl1_o, sl2_o, sl3_o, r_rev, rev1_o, r_seq, seq1_l, seq1_t, r_rng1, rng1_o, r_zip, zip1_o, r_enum, enum1_o, r_lc, lc1_o, put_0, put_c, setv_c, r_sseq, then1_n, then1_r, then1_c, then1_b, r_snil, r_sretn, r_scont, r_sbrk, r_sexpr, expr1_o, r_sret, ret1_o, r_sset, set1_o, r_sif, sif1_t, sif1_f, r_stg, stg1_o, tg1_s, r_spar, par1_o, r_spar3, par3_o, r_saug, aug0_s, aug1_o, aug2_s, r_ssub, sub0_o, sub1_o, sub2_o, sub3_s, r_sfld, sfld0_o, sfld1_o, r_sfor, for1_o, r_swhile, r_run, run1_n, run1_r, len_rng, len_li, len_lst, len_tup, len_zip, len_enum, puts, putsL, optmap_nil, get_comp, puts_comp, putsL_comp, put_comp', puts_nil, putsL_nil, putE_nil, putE_map, comp_nil, nil_comp, comp_one, cutW_nil, get_one, get_nil, puts_li, putsL_li, li_len, permL, D.has, hasL, hasL_li, isTyD, isClD, isi2, isD_non, isNone, cmpD_int, negD_int, addD_int, subD_int, eqD_int, neD_int, eqD_li, neD_li, listD_lst, listD_tup, tupleD_lst, lenD_lst, lenD_tup, intD1_int, ixD_0, ixD_1, ixD_2, ixD_3, bitsD_int, cutOk, List.map_cons, List.map_nil, List.length_cons, List.length_nil, List.getElem?_cons_zero, List.getElem?_cons_succ, List.set_cons_zero, List.set_cons_succ, List.replicate, List.cons_append, List.nil_append, Option.map_some, Option.map_none, Nat.reduceAdd, Nat.reduceSub, Nat.add_assoc, Nat.zero_add, Nat.add_zero, Bool.not_true, Bool.not_false, beq_self_eq_true, String.reduceBEq, Bool.true_or, Bool.false_or, Bool.or_true, Bool.or_false, Bool.true_and, Bool.false_and, Bool.and_true, Bool.and_false, decide_true, decide_false, Bool.false_eq_true, if_true, if_false, reduceCtorEq, Nat.reduceLeDiff]
  · refine ⟨rs, d1, comp w w1, hr, rfl, t1, pu1.mono (by omega), ?_⟩
    simp -implicitDefEqProofs only [b_l_great_house_1, e1, h1, pw1.puts, pw1.get (i := i) hi, pw1.get (i := j) hj, pw1.get (i := k) (by omega), h0.put pw1 hp, h0.cut hp, t1.cut hp, hsrc _ _ _ pw1, ixr, pre_n, pre_o, of_s, r_var, var1_s, r_c, r_nil, r_cons, cons1_o, cons2_o, r_lst, lst1_o, r_tup, tup1_o, r_bin, bin1_o, bin2_o, r_un, un1_o, r_bits, r_tof, tof1_o, r_and, and1_t, and1_f, r_or, or1_t, or1_f, r_not, not1_o, r_eand, eand1_t, eand1_f, r_eor, eor1_t, eor1_f, r_enot, enot1_o, r_eif, eif1_t, eif1_f, r_call, call1_o, r_callD, r_callK, callK1_o, callK2_o, r_make, r_makeP, r_mth, mth1_o, mth2_o, r_b, r_m, m1_lst, m2_o, ofW_s, r_isi, isi1_o, isi3_s, r_fld, fld1_o, fld2_s, r_eqo, eqo1_o, eqo2_o, eqo3_o, r_osm, osm1_o, r_onone, r_sl, sl1_o, sl2_o, sl3_o, r_rev, rev1_o, r_seq, seq1_l, seq1_t, r_rng1, rng1_o, r_zip, zip1_o, r_enum, enum1_o, r_lc, lc1_o, put_0, put_c, setv_c, r_sseq, then1_n, then1_r, then1_c, then1_b, r_snil, r_sretn, r_scont, r_sbrk, r_sexpr, expr1_o, r_sret, ret1_o, r_sset, set1_o, r_sif, sif1_t, sif1_f, r_stg, stg1_o, tg1_s, r_spar, par1_o, r_spar3, par3_o, r_saug, aug0_s, aug1_o, aug2_s, r_ssub, sub0_o, sub1_o, sub2_o, sub3_s, r_sfld, sfld0_o, sfld1_o, r_sfor, for1_o, r_swhile, r_run, run1_n, run1_r, len_rng, len_li, len_lst, len_tup, len_zip, len_enum, puts, putsL, optmap_nil, get_comp, puts_comp, putsL_comp, put_comp', puts_nil, putsL_nil, putE_nil, putE_map, comp_nil, nil_comp, comp_one, cutW_nil, get_one, get_nil, puts_li, putsL_li, li_len, permL, D.has, hasL, hasL_li, isTyD, isClD, isi2, isD_non, isNone, cmpD_int, negD_int, addD_int, subD_int, eqD_int, neD_int, eqD_li, neD_li, listD_lst, listD_tup, tupleD_lst, lenD_lst, lenD_tup, intD1_int, ixD_0, ixD_1, ixD_2, ixD_3, bitsD_int, cutOk, List.map_cons, List.map_nil, List.length_cons, List.length_nil, List.getElem?_cons_zero, List.getElem?_cons_succ, List.set_cons_zero, List.set_cons_succ, List.replicate, List.cons_append, List.nil_append, Option.map_some, Option.map_none, Nat.reduceAdd, Nat.reduceSub, Nat.add_assoc, Nat.zero_add, Nat.add_zero, Bool.not_true, Bool.not_false, beq_self_eq_true, String.reduceBEq, Bool.true_or, Bool.false_or, Bool.or_true, Bool.or_false, Bool.true_and, Bool.false_and, Bool.and_true, Bool.and_false, decide_true, decide_false, Bool.false_eq_true, if_true, if_false, reduceCtorEq, Nat.reduceLeDiff]
end B
end
section
set_option Elab.async false
set_option linter.all false
set_option maxRecDepth 100000
set_option maxHeartbeats 1000000
namespace B
open PySem Sx
theorem enum_puts (q : Nat) (xs : List Int) (w : Wr) (h : Wr.get w q = none) : (Src.enum (.lst q (li xs))).puts w = .enum (.lst q (li xs)) := by
  show Src.enum (puts w _) = _
  rw [puts_li _ _ _ h]
theorem v_great_house (p n : Nat) (N : Int) (d : D) (h : Pu p N d) (hN : N ≤ 600000) (hp : p < n) :
    ∃ i j k bs rs d' w n', n ≤ i ∧ n ≤ j ∧ n ≤ k ∧ i < n' ∧ j < n' ∧ k < n' ∧ i ≠ j ∧ i ≠ k ∧ j ≠ k ∧ q_l_great_house [d] n = .ok (hd i j k bs rs) n' w ∧ PW p d w d' ∧ Pu p (N + 400) d' ∧ Good bs rs := by
  obtain ⟨x0, d0, w0, c0, c1, e0, pw0, pu0⟩ := v_drawP p N 4 n d h (by omega) hp (by omega) (by omega)
  obtain ⟨i, j, k, bs, rs, d1, w1, n1, h1, h2, h3, h4, h5, h6, h7, h8, h9, e1, pw1, pu1, hg, hK⟩ := v_house p n _ (5 + x0) d0 pu0 (by omega) hp (by omega) (by omega)
  have t1 := pw0.trans pw1
  have hlr := hg.l
  obtain ⟨s', q1, q2, rs', d', w', o2, o3, q3, a1, a2, a3, a4⟩ := for_src (tg := tgT [tgN 2, tgN 3]) (body := b_l_great_house_1) (n0 := n) (len := bs.length) (src := .enum (.lst j (li bs))) (h := [])
    (s0 := ⟨n1, [some d1, some (hd i j k bs rs), none, none], comp w0 w1, [.enum (.lst j (li bs))]⟩)
    (fun m s => ∃ rs' d' w' o2 o3, s = ⟨n1, [some d', some (hd i j k bs rs'), o2, o3], w', [.enum (.lst j (li bs))]⟩ ∧ Btw 0 60 rs' ∧ rs'.length = rs.length ∧ PW p d w' d' ∧ Pu p (N + 304 + 8 * m) d')
    ⟨rs, d1, comp w0 w1, none, none, rfl, hg.r, rfl, t1, pu1.mono (by omega)⟩ rfl (enum_end _ _)
    (fun m s hm _ hZ => by
      obtain ⟨rs', d', w', o2, o3, rfl, a1, a2, a3, a4⟩ := hZ
      have hx : bs[m]? = some bs[m] := List.getElem?_eq_getElem hm
      obtain ⟨b1, b2⟩ := hg.b.get hx
      have hmm := hg.m
      obtain ⟨rs2, d2, w2, g1, g2, g3, g4, g5⟩ := great_one p n n1 i j k m (N + 304 + 8 * m) bs[m] d' o2 o3 bs rs' w' d (.enum (.lst j (li bs))) (fun _ _ _ pw => enum_puts _ _ _ (pw.get (by omega))) (fun x => enum_puts _ _ _ (get_one_ne _ _ _ h9)) a4 (by omega) hp (by omega) (by omega) h3 h8 h9 (by omega) b1 b2 a1 (by omega) a3
      exact ⟨_, _, _, enum_at _ _ _ _ hx, rfl, g5, rfl, rs2, d2, w2, _, _, rfl, g1, by omega, g3, g4.mono (by omega)⟩)
  subst q3
  have hmm := hg.m
  refine ⟨i, j, k, bs, rs', d', w', n1, h1, h2, h3, h4, h5, h6, h7, h8, h9, ?_, a3, a4.mono (by omega), ⟨hg.b, a1, by omega, hg.m⟩⟩
  have pz0 := (PW.nil h).put pw0 hp (n := n) (n1 := n1) (env := [some d, none, none, none]) (hid := [])
  have pz1 := pw0.put pw1 hp (n := n1) (n1 := n1) (env := [some d0, none, none, none]) (hid := [])
  unfold hd at e1 q1 ⊢
  simp -implicitDefEqProofs only [q_l_great_house, b_l_great_house, e0, e1, pw0.puts, pw1.puts, pz0, pw0.cut hp, pz1, q1, pre_n, pre_o, of_s, r_var, var1_s, r_c, r_nil, r_cons, cons1_o, cons2_o, r_lst, lst1_o, r_tup, tup1_o, r_bin, bin1_o, bin2_o, r_un, un1_o, r_bits, r_tof, tof1_o, r_and, and1_t, and1_f, r_or, or1_t, or1_f, r_not, not1_o, r_eand, eand1_t, eand1_f, r_eor, eor1_t, eor1_f, r_enot, enot1_o, r_eif, eif1_t, eif1_f, r_call, call1_o, r_callD, r_callK, callK1_o, callK2_o, r_make, r_makeP, r_mth, mth1_o, mth2_o, r_b, r_m, m1_lst, m2_o, ofW_s, r_isi, isi1_o, isi3_s, r_fld, fld1_o, fld2_s, r_eqo, eqo1_o, eqo2_o, eqo3_o, r_osm, osm1_o, r_onone, r_sl, sl1_o, sl2_o, sl3_o, r_rev, rev1_o, r_seq, seq1_l, seq1_t, r_rng1, rng1_o, r_zip, zip1_o, r_enum, enum1_o, r_lc, lc1_o, put_0, put_c, setv_c, r_sseq, then1_n, then1_r, then1_c, then1_b, r_snil, r_sretn, r_scont, r_sbrk, r_sexpr, expr1_o, r_sret, ret1_o, r_sset, set1_o, r_sif, sif1_t, sif1_f, r_stg, stg1_o, tg1_s, r_spar, par1_o, r_spar3, par3_o, r_saug, aug0_s, aug1_o, aug2_s, r_ssub, sub0_o, sub1_o, sub2_o, sub3_s, r_sfld, sfld0_o, sfld1_o, r_sfor, for1_o, r_swhile, r_run, run1_n, run1_r, len_rng, len_li, len_lst, len_tup, len_zip, len_enum, puts, putsL, optmap_nil, get_comp, puts_comp, putsL_comp, put_comp', puts_nil, putsL_nil, putE_nil, putE_map, comp_nil, nil_comp, comp_one, cutW_nil, get_one, get_nil, puts_li, putsL_li, li_len, permL, D.has, hasL, hasL_li, isTyD, isClD, isi2, isD_non, isNone, cmpD_int, negD_int, addD_int, subD_int, eqD_int, neD_int, eqD_li, neD_li, listD_lst, listD_tup, tupleD_lst, lenD_lst, lenD_tup, intD1_int, ixD_0, ixD_1, ixD_2, ixD_3, bitsD_int, cutOk, List.map_cons, List.map_nil, List.length_cons, List.length_nil, List.getElem?_cons_zero, List.getElem?_cons_succ, List.set_cons_zero, List.set_cons_succ, List.replicate, List.cons_append, List.nil_append, Option.map_some, Option.map_none, Nat.reduceAdd, Nat.reduceSub, Nat.add_assoc, Nat.zero_add, Nat.add_zero, Bool.not_true, Bool.not_false, beq_self_eq_true, String.reduceBEq, Bool.true_or, Bool.false_or, Bool.or_true, Bool.or_false, Bool.true_and, Bool.false_and, Bool.and_true, Bool.and_false, decide_true, decide_false, Bool.false_eq_true, if_true, if_false, reduceCtorEq, Nat.reduceLeDiff]
theorem v_made (i j k n : Nat) (bs rs : List Int) (hg : Good bs rs) : q_l_made [hd i j k bs rs] n = .ok (ho (n + 2) (n + 5) (n + 6) bs rs) (n + 7) [] := by
  have hm := hg.m
  have vm := v_mk n (n + 1) bs rs (n + 2) (by omega) (by omega) (fun x hx => (hg.b x hx).1) (fun x hx => (hg.r x hx).1) hg.l (by omega)
  unfold hd
  simp -implicitDefEqProofs only [q_l_made, b_l_made, vm, pre_n, pre_o, of_s, r_var, var1_s, r_c, r_nil, r_cons, cons1_o, cons2_o, r_lst, lst1_o, r_tup, tup1_o, r_bin, bin1_o, bin2_o, r_un, un1_o, r_bits, r_tof, tof1_o, r_and, and1_t, and1_f, r_or, or1_t, or1_f, r_not, not1_o, r_eand, eand1_t, eand1_f, r_eor, eor1_t, eor1_f, r_enot, enot1_o, r_eif, eif1_t, eif1_f, r_call, call1_o, r_callD, r_callK, callK1_o, callK2_o, r_make, r_makeP, r_mth, mth1_o, mth2_o, r_b, r_m, m1_lst, m2_o, ofW_s, r_isi, isi1_o, isi3_s, r_fld, fld1_o, fld2_s, r_eqo, eqo1_o, eqo2_o, eqo3_o, r_osm, osm1_o, r_onone, r_sl, sl1_o, sl2_o, sl3_o, r_rev, rev1_o, r_seq, seq1_l, seq1_t, r_rng1, rng1_o, r_zip, zip1_o, r_enum, enum1_o, r_lc, lc1_o, put_0, put_c, setv_c, r_sseq, then1_n, then1_r, then1_c, then1_b, r_snil, r_sretn, r_scont, r_sbrk, r_sexpr, expr1_o, r_sret, ret1_o, r_sset, set1_o, r_sif, sif1_t, sif1_f, r_stg, stg1_o, tg1_s, r_spar, par1_o, r_spar3, par3_o, r_saug, aug0_s, aug1_o, aug2_s, r_ssub, sub0_o, sub1_o, sub2_o, sub3_s, r_sfld, sfld0_o, sfld1_o, r_sfor, for1_o, r_swhile, r_run, run1_n, run1_r, len_rng, len_li, len_lst, len_tup, len_zip, len_enum, puts, putsL, optmap_nil, get_comp, puts_comp, putsL_comp, put_comp', puts_nil, putsL_nil, putE_nil, putE_map, comp_nil, nil_comp, comp_one, cutW_nil, get_one, get_nil, puts_li, putsL_li, li_len, permL, D.has, hasL, hasL_li, isTyD, isClD, isi2, isD_non, isNone, cmpD_int, negD_int, addD_int, subD_int, eqD_int, neD_int, eqD_li, neD_li, listD_lst, listD_tup, tupleD_lst, lenD_lst, lenD_tup, intD1_int, ixD_0, ixD_1, ixD_2, ixD_3, bitsD_int, cutOk, List.map_cons, List.map_nil, List.length_cons, List.length_nil, List.getElem?_cons_zero, List.getElem?_cons_succ, List.set_cons_zero, List.set_cons_succ, List.replicate, List.cons_append, List.nil_append, Option.map_some, Option.map_none, Nat.reduceAdd, Nat.reduceSub, Nat.add_assoc, Nat.zero_add, Nat.add_zero, Bool.not_true, Bool.not_false, beq_self_eq_true, String.reduceBEq, Bool.true_or, Bool.false_or, Bool.or_true, Bool.or_false, Bool.true_and, Bool.false_and, Bool.and_true, Bool.and_false, decide_true, decide_false, Bool.false_eq_true, if_true, if_false, reduceCtorEq, Nat.reduceLeDiff]
end B
end
section
set_option Elab.async false
set_option linter.all false
set_option maxRecDepth 100000
set_option maxHeartbeats 1000000
namespace B
open PySem Sx
theorem v_eq_same (a b c a' b' c' : Nat) (bs rs bs' rs' : List Int) (n : Nat) : q_eq_House [ho a b c bs rs, ho a' b' c' bs' rs'] n = .ok (.bl (decide (bs = bs') && decide (rs = rs'))) n [] := by
  unfold ho
  by_cases h : bs = bs'
  · simp -implicitDefEqProofs only [q_eq_House, b_eq_House, h, pre_n, pre_o, of_s, r_var, var1_s, r_c, r_nil, r_cons, cons1_o, cons2_o, r_lst, lst1_o, r_tup, tup1_o, r_bin, bin1_o, bin2_o, r_un, un1_o, r_bits, r_tof, tof1_o, r_and, and1_t, and1_f, r_or, or1_t, or1_f, r_not, not1_o, r_eand, eand1_t, eand1_f, r_eor, eor1_t, eor1_f, r_enot, enot1_o, r_eif, eif1_t, eif1_f, r_call, call1_o, r_callD, r_callK, callK1_o, callK2_o, r_make, r_makeP, r_mth, mth1_o, mth2_o, r_b, r_m, m1_lst, m2_o, ofW_s, r_isi, isi1_o, isi3_s, r_fld, fld1_o, fld2_s, r_eqo, eqo1_o, eqo2_o, eqo3_o, r_osm, osm1_o, r_onone, r_sl, sl1_o, sl2_o, sl3_o, r_rev, rev1_o, r_seq, seq1_l, seq1_t, r_rng1, rng1_o, r_zip, zip1_o, r_enum, enum1_o, r_lc, lc1_o, put_0, put_c, setv_c, r_sseq, then1_n, then1_r, then1_c, then1_b, r_snil, r_sretn, r_scont, r_sbrk, r_sexpr, expr1_o, r_sret, ret1_o, r_sset, set1_o, r_sif, sif1_t, sif1_f, r_stg, stg1_o, tg1_s, r_spar, par1_o, r_spar3, par3_o, r_saug, aug0_s, aug1_o, aug2_s, r_ssub, sub0_o, sub1_o, sub2_o, sub3_s, r_sfld, sfld0_o, sfld1_o, r_sfor, for1_o, r_swhile, r_run, run1_n, run1_r, len_rng, len_li, len_lst, len_tup, len_zip, len_enum, puts, putsL, optmap_nil, get_comp, puts_comp, putsL_comp, put_comp', puts_nil, putsL_nil, putE_nil, putE_map, comp_nil, nil_comp, comp_one, cutW_nil, get_one, get_nil, puts_li, putsL_li, li_len, permL, D.has, hasL, hasL_li, isTyD, isClD, isi2, isD_non, isNone, cmpD_int, negD_int, addD_int, subD_int, eqD_int, neD_int, eqD_li, neD_li, listD_lst, listD_tup, tupleD_lst, lenD_lst, lenD_tup, intD1_int, ixD_0, ixD_1, ixD_2, ixD_3, bitsD_int, cutOk, List.map_cons, List.map_nil, List.length_cons, List.length_nil, List.getElem?_cons_zero, List.getElem?_cons_succ, List.set_cons_zero, List.set_cons_succ, List.replicate, List.cons_append, List.nil_append, Option.map_some, Option.map_none, Nat.reduceAdd, Nat.reduceSub, Nat.add_assoc, Nat.zero_add, Nat.add_zero, Bool.not_true, Bool.not_false, beq_self_eq_true, String.reduceBEq, Bool.true_or, Bool.false_or, Bool.or_true, Bool.or_false, Bool.true_and, Bool.false_and, Bool.and_true, Bool.and_false, decide_true, decide_false, Bool.false_eq_true, if_true, if_false, reduceCtorEq, Nat.reduceLeDiff]
  · simp -implicitDefEqProofs only [q_eq_House, b_eq_House, h, pre_n, pre_o, of_s, r_var, var1_s, r_c, r_nil, r_cons, cons1_o, cons2_o, r_lst, lst1_o, r_tup, tup1_o, r_bin, bin1_o, bin2_o, r_un, un1_o, r_bits, r_tof, tof1_o, r_and, and1_t, and1_f, r_or, or1_t, or1_f, r_not, not1_o, r_eand, eand1_t, eand1_f, r_eor, eor1_t, eor1_f, r_enot, enot1_o, r_eif, eif1_t, eif1_f, r_call, call1_o, r_callD, r_callK, callK1_o, callK2_o, r_make, r_makeP, r_mth, mth1_o, mth2_o, r_b, r_m, m1_lst, m2_o, ofW_s, r_isi, isi1_o, isi3_s, r_fld, fld1_o, fld2_s, r_eqo, eqo1_o, eqo2_o, eqo3_o, r_osm, osm1_o, r_onone, r_sl, sl1_o, sl2_o, sl3_o, r_rev, rev1_o, r_seq, seq1_l, seq1_t, r_rng1, rng1_o, r_zip, zip1_o, r_enum, enum1_o, r_lc, lc1_o, put_0, put_c, setv_c, r_sseq, then1_n, then1_r, then1_c, then1_b, r_snil, r_sretn, r_scont, r_sbrk, r_sexpr, expr1_o, r_sret, ret1_o, r_sset, set1_o, r_sif, sif1_t, sif1_f, r_stg, stg1_o, tg1_s, r_spar, par1_o, r_spar3, par3_o, r_saug, aug0_s, aug1_o, aug2_s, r_ssub, sub0_o, sub1_o, sub2_o, sub3_s, r_sfld, sfld0_o, sfld1_o, r_sfor, for1_o, r_swhile, r_run, run1_n, run1_r, len_rng, len_li, len_lst, len_tup, len_zip, len_enum, puts, putsL, optmap_nil, get_comp, puts_comp, putsL_comp, put_comp', puts_nil, putsL_nil, putE_nil, putE_map, comp_nil, nil_comp, comp_one, cutW_nil, get_one, get_nil, puts_li, putsL_li, li_len, permL, D.has, hasL, hasL_li, isTyD, isClD, isi2, isD_non, isNone, cmpD_int, negD_int, addD_int, subD_int, eqD_int, neD_int, eqD_li, neD_li, listD_lst, listD_tup, tupleD_lst, lenD_lst, lenD_tup, intD1_int, ixD_0, ixD_1, ixD_2, ixD_3, bitsD_int, cutOk, List.map_cons, List.map_nil, List.length_cons, List.length_nil, List.getElem?_cons_zero, List.getElem?_cons_succ, List.set_cons_zero, List.set_cons_succ, List.replicate, List.cons_append, List.nil_append, Option.map_some, Option.map_none, Nat.reduceAdd, Nat.reduceSub, Nat.add_assoc, Nat.zero_add, Nat.add_zero, Bool.not_true, Bool.not_false, beq_self_eq_true, String.reduceBEq, Bool.true_or, Bool.false_or, Bool.or_true, Bool.or_false, Bool.true_and, Bool.false_and, Bool.and_true, Bool.and_false, decide_true, decide_false, Bool.false_eq_true, if_true, if_false, reduceCtorEq, Nat.reduceLeDiff]
/-- nothing that equals the house -/
def Oth (bs rs : List Int) (x : D) : Prop := ∀ n a b c, q_eq_House [ho a b c bs rs, x] n = .ok (.bl false) n []
theorem oth_ho {a b c : Nat} {bs rs bs' rs' : List Int} (h : bs ≠ bs' ∨ rs ≠ rs') : Oth bs rs (ho a b c bs' rs') := fun n a' b' c' => by
  rw [v_eq_same]
  rcases h with h | h <;> simp [h]
theorem oth_non {bs rs : List Int} : Oth bs rs .non := fun n a b c => rfl
theorem oth_int {bs rs : List Int} {x : Int} : Oth bs rs (.int x) := fun n a b c => rfl
theorem oth_lst {bs rs : List Int} {i : Nat} {ds : List D} : Oth bs rs (.lst i ds) := fun n a b c => rfl
theorem oth_tup {bs rs : List Int} {ds : List D} : Oth bs rs (.tup ds) := fun n a b c => rfl
theorem anyD_rep (i m n : Nat) : anyD [.lst i (List.replicate m (.bl false))] n = some (.bl false, n) := by
  show (match asBls (List.replicate m (D.bl false)) with | some ns => some (D.bl (ns.any id), n) | none => none) = _
  rw [asBls_rep]
  show some (D.bl ((List.replicate m false).any id), n) = _
  have : ∀ m : Nat, (List.replicate m false).any id = false := fun m => by
    induction m with
    | zero => rfl
    | succ m ih => rw [List.replicate_succ, List.any_cons, ih]; rfl
  rw [this]
/-- a number made another one, within the bounds -/
def up (x : Int) : Int := if x < 60 then x + 1 else 59
theorem up_ne (x : Int) : up x ≠ x := by unfold up; split <;> omega
theorem up_b {x : Int} (h : 2 ≤ x ∧ x ≤ 60) : 2 ≤ up x := by unfold up; split <;> omega
theorem up_r {x : Int} (h : 0 ≤ x ∧ x ≤ 60) : 0 ≤ up x := by unfold up; split <;> omega
theorem eIf_up (t n : Nat) (env : Ev) (x : Int) (h : env[t]? = some (some (.int x))) : eIf (tOf (eBin ltD (eVar t) (eC (.int 60)))) (eBin addD (eVar t) (eC (.int 1))) (eC (.int 59)) n env = .ok (.int (up x)) n [] := by
  unfold up
  by_cases hx : x < 60
  · simp -implicitDefEqProofs only [h, hx, List.map_id_fun', id_eq, pre_n, pre_o, of_s, r_var, var1_s, r_c, r_nil, r_cons, cons1_o, cons2_o, r_lst, lst1_o, r_tup, tup1_o, r_bin, bin1_o, bin2_o, r_un, un1_o, r_bits, r_tof, tof1_o, r_and, and1_t, and1_f, r_or, or1_t, or1_f, r_not, not1_o, r_eand, eand1_t, eand1_f, r_eor, eor1_t, eor1_f, r_enot, enot1_o, r_eif, eif1_t, eif1_f, r_call, call1_o, r_callD, r_callK, callK1_o, callK2_o, r_make, r_makeP, r_mth, mth1_o, mth2_o, r_b, r_m, m1_lst, m2_o, ofW_s, r_isi, isi1_o, isi3_s, r_fld, fld1_o, fld2_s, r_eqo, eqo1_o, eqo2_o, eqo3_o, r_osm, osm1_o, r_onone, r_sl, sl1_o, sl2_o, sl3_o, r_rev, rev1_o, r_seq, seq1_l, seq1_t, r_rng1, rng1_o, r_zip, zip1_o, r_enum, enum1_o, r_lc, lc1_o, put_0, put_c, setv_c, r_sseq, then1_n, then1_r, then1_c, then1_b, r_snil, r_sretn, r_scont, r_sbrk, r_sexpr, expr1_o, r_sret, ret1_o, r_sset, set1_o, r_sif, sif1_t, sif1_f, r_stg, stg1_o, tg1_s, r_spar, par1_o, r_spar3, par3_o, r_saug, aug0_s, aug1_o, aug2_s, r_ssub, sub0_o, sub1_o, sub2_o, sub3_s, r_sfld, sfld0_o, sfld1_o, r_sfor, for1_o, r_swhile, r_run, run1_n, run1_r, len_rng, len_li, len_lst, len_tup, len_zip, len_enum, puts, putsL, optmap_nil, get_comp, puts_comp, putsL_comp, put_comp', puts_nil, putsL_nil, putE_nil, putE_map, comp_nil, nil_comp, comp_one, cutW_nil, get_one, get_nil, puts_li, putsL_li, li_len, permL, D.has, hasL, hasL_li, isTyD, isClD, isi2, isD_non, isNone, cmpD_int, negD_int, addD_int, subD_int, eqD_int, neD_int, eqD_li, neD_li, listD_lst, listD_tup, tupleD_lst, lenD_lst, lenD_tup, intD1_int, ixD_0, ixD_1, ixD_2, ixD_3, bitsD_int, cutOk, List.map_cons, List.map_nil, List.length_cons, List.length_nil, List.getElem?_cons_zero, List.getElem?_cons_succ, List.set_cons_zero, List.set_cons_succ, List.replicate, List.cons_append, List.nil_append, Option.map_some, Option.map_none, Nat.reduceAdd, Nat.reduceSub, Nat.add_assoc, Nat.zero_add, Nat.add_zero, Bool.not_true, Bool.not_false, beq_self_eq_true, String.reduceBEq, Bool.true_or, Bool.false_or, Bool.or_true, Bool.or_false, Bool.true_and, Bool.false_and, Bool.and_true, Bool.and_false, decide_true, decide_false, Bool.false_eq_true, if_true, if_false, reduceCtorEq, Nat.reduceLeDiff]
  · simp -implicitDefEqProofs only [h, hx, List.map_id_fun', id_eq, pre_n, pre_o, of_s, r_var, var1_s, r_c, r_nil, r_cons, cons1_o, cons2_o, r_lst, lst1_o, r_tup, tup1_o, r_bin, bin1_o, bin2_o, r_un, un1_o, r_bits, r_tof, tof1_o, r_and, and1_t, and1_f, r_or, or1_t, or1_f, r_not, not1_o, r_eand, eand1_t, eand1_f, r_eor, eor1_t, eor1_f, r_enot, enot1_o, r_eif, eif1_t, eif1_f, r_call, call1_o, r_callD, r_callK, callK1_o, callK2_o, r_make, r_makeP, r_mth, mth1_o, mth2_o, r_b, r_m, m1_lst, m2_o, ofW_s, r_isi, isi1_o, isi3_s, r_fld, fld1_o, fld2_s, r_eqo, eqo1_o, eqo2_o, eqo3_o, r_osm, osm1_o, r_onone, r_sl, sl1_o, sl2_o, sl3_o, r_rev, rev1_o, r_seq, seq1_l, seq1_t, r_rng1, rng1_o, r_zip, zip1_o, r_enum, enum1_o, r_lc, lc1_o, put_0, put_c, setv_c, r_sseq, then1_n, then1_r, then1_c, then1_b, r_snil, r_sretn, r_scont, r_sbrk, r_sexpr, expr1_o, r_sret, ret1_o, r_sset, set1_o, r_sif, sif1_t, sif1_f, r_stg, stg1_o, tg1_s, r_spar, par1_o, r_spar3, par3_o, r_saug, aug0_s, aug1_o, aug2_s, r_ssub, sub0_o, sub1_o, sub2_o, sub3_s, r_sfld, sfld0_o, sfld1_o, r_sfor, for1_o, r_swhile, r_run, run1_n, run1_r, len_rng, len_li, len_lst, len_tup, len_zip, len_enum, puts, putsL, optmap_nil, get_comp, puts_comp, putsL_comp, put_comp', puts_nil, putsL_nil, putE_nil, putE_map, comp_nil, nil_comp, comp_one, cutW_nil, get_one, get_nil, puts_li, putsL_li, li_len, permL, D.has, hasL, hasL_li, isTyD, isClD, isi2, isD_non, isNone, cmpD_int, negD_int, addD_int, subD_int, eqD_int, neD_int, eqD_li, neD_li, listD_lst, listD_tup, tupleD_lst, lenD_lst, lenD_tup, intD1_int, ixD_0, ixD_1, ixD_2, ixD_3, bitsD_int, cutOk, List.map_cons, List.map_nil, List.length_cons, List.length_nil, List.getElem?_cons_zero, List.getElem?_cons_succ, List.set_cons_zero, List.set_cons_succ, List.replicate, List.cons_append, List.nil_append, Option.map_some, Option.map_none, Nat.reduceAdd, Nat.reduceSub, Nat.add_assoc, Nat.zero_add, Nat.add_zero, Bool.not_true, Bool.not_false, beq_self_eq_true, String.reduceBEq, Bool.true_or, Bool.false_or, Bool.or_true, Bool.or_false, Bool.true_and, Bool.false_and, Bool.and_true, Bool.and_false, decide_true, decide_false, Bool.false_eq_true, if_true, if_false, reduceCtorEq, Nat.reduceLeDiff]
theorem lc_up (t u m : Nat) (own : List Nat) (xs : List Int) (env : Ev) (hz : xs.length ≤ 1000) (ht : t < env.length) (hw : (wipeE env own).length = env.length) :
    lcGo own (tgN t) tTrue (eIf (tOf (eBin ltD (eVar t) (eC (.int 60)))) (eBin addD (eVar t) (eC (.int 1))) (eC (.int 59))) xs.length 0 (.lst (.lst u (li xs))) [] m env = .ok (.lst m (li (xs.map up))) (m + 1) [] := by
  have hl := lcGo_pure (own := own) (tg := tgN t) (el := eIf (tOf (eBin ltD (eVar t) (eC (.int 60)))) (eBin addD (eVar t) (eC (.int 1))) (eC (.int 59))) (src := .lst (.lst u (li xs))) (ds := li xs) (fun d => match d with | .int x => .int (up x) | d => d) env m (fun j => rfl) rfl
    (fun d hd' => by
      obtain ⟨x, hx, rfl⟩ := List.mem_map.mp hd'
      exact ⟨_, rfl, eIf_up t m _ x (by rw [List.getElem?_set_self (by rw [hw]; exact ht)])⟩) (by rw [li_len]; exact Nat.le_trans hz (by decide))
  rw [len_li] at hl
  rw [hl]
  unfold li
  rw [List.map_map, List.map_map]
  rfl
theorem mulD_lst (i : Nat) (ds : List D) (k n : Nat) (h : ds.length * k ≤ 16777216) (hk : k ≤ 1000) : mulD (.lst i ds) (.int (k : Int)) n = some (.lst n (List.replicate k ds).flatten, n + 1) := by
  show (if ds.length * (k : Int).toNat ≤ sizeLine ∧ -(2 ^ 63) ≤ (k : Int) ∧ (k : Int) < 2 ^ 63 then some (D.lst n (List.replicate (k : Int).toNat ds).flatten, n + 1) else none) = _
  rw [if_pos ⟨by rw [Int.toNat_natCast, szEq]; exact h, by omega, by omega⟩, Int.toNat_natCast]
theorem slD_pre (i : Nat) (xs : List Int) (k n : Nat) (h : k ≤ xs.length) : slD (.lst i (li xs)) none (some (k : Int)) n = some (.lst n (li (xs.take k)), n + 1) := by
  have e : slD (.lst i (li xs)) none (some (k : Int)) n = some (.lst n (((li xs).drop (HT.sIx (li xs).length 0 none)).take (HT.sIx (li xs).length (li xs).length (some (k : Int)) - HT.sIx (li xs).length 0 none)), n + 1) := rfl
  rw [e, HT.sIx_none, HT.sIx_nat, li_len, List.drop_zero, Nat.sub_zero, Nat.min_eq_left h]
  unfold li
  rw [List.map_take]
theorem slD_suf (i : Nat) (xs : List Int) (k n : Nat) (h : k ≤ xs.length) : slD (.lst i (li xs)) (some (k : Int)) none n = some (.lst n (li (xs.drop k)), n + 1) := by
  have e : slD (.lst i (li xs)) (some (k : Int)) none n = some (.lst n (((li xs).drop (HT.sIx (li xs).length 0 (some (k : Int)))).take (HT.sIx (li xs).length (li xs).length none - HT.sIx (li xs).length 0 (some (k : Int)))), n + 1) := rfl
  rw [e, HT.sIx_none, HT.sIx_nat, li_len, Nat.min_eq_left h, List.take_of_length_le (by rw [List.length_drop, li_len]; omega)]
  unfold li
  rw [List.map_drop]
theorem set_up (xs : List Int) (k : Nat) (y : Int) (h : k < xs.length) : (xs.take k ++ [y]) ++ xs.drop (k + 1) = xs.set k y := by
  rw [List.set_eq_take_append_cons_drop, if_pos h, List.append_assoc]; rfl
theorem set_ne {xs : List Int} {k : Nat} {x y : Int} (h : xs[k]? = some x) (hy : y ≠ x) : xs ≠ xs.set k y := fun e => by
  have h2 : (xs.set k y)[k]? = some y := by rw [List.getElem?_set_self (List.getElem?_eq_some_iff.mp h).1]
  rw [← e, h] at h2
  exact hy (Option.some.inj h2).symm
theorem btw_set {a b y : Int} {xs : List Int} {k : Nat} (h : Btw a b xs) (h1 : a ≤ y) (h2 : y ≤ b) : Btw a b (xs.set k y) := fun x hx => by
  rcases List.mem_or_eq_of_mem_set hx with hx | rfl
  · exact h x hx
  · exact ⟨h1, h2⟩
theorem up_60 {x : Int} (h : x ≤ 60) : up x ≤ 60 := by unfold up; split <;> omega
theorem alk_li (m i j : Nat) (xs : List Int) (h : xs.length ≤ 1000) : Alk (m + 1) (.lst i (li xs)) (.lst j (li xs)) := by
  refine ⟨rfl, by rw [li_len]; exact h, fun k x y hx hy => ?_⟩
  rw [hx] at hy
  cases hy
  rw [li_get] at hx
  obtain ⟨v, _, rfl⟩ := Option.map_eq_some_iff.mp hx
  cases m <;> rfl
theorem v_m_bases (a b c n : Nat) (bs rs : List Int) : q_m_House_bases [ho a b c bs rs] n = .ok (.lst n (li bs)) (n + 1) [] := by
  unfold ho
  simp -implicitDefEqProofs only [q_m_House_bases, b_m_House_bases, pre_n, pre_o, of_s, r_var, var1_s, r_c, r_nil, r_cons, cons1_o, cons2_o, r_lst, lst1_o, r_tup, tup1_o, r_bin, bin1_o, bin2_o, r_un, un1_o, r_bits, r_tof, tof1_o, r_and, and1_t, and1_f, r_or, or1_t, or1_f, r_not, not1_o, r_eand, eand1_t, eand1_f, r_eor, eor1_t, eor1_f, r_enot, enot1_o, r_eif, eif1_t, eif1_f, r_call, call1_o, r_callD, r_callK, callK1_o, callK2_o, r_make, r_makeP, r_mth, mth1_o, mth2_o, r_b, r_m, m1_lst, m2_o, ofW_s, r_isi, isi1_o, isi3_s, r_fld, fld1_o, fld2_s, r_eqo, eqo1_o, eqo2_o, eqo3_o, r_osm, osm1_o, r_onone, r_sl, sl1_o, sl2_o, sl3_o, r_rev, rev1_o, r_seq, seq1_l, seq1_t, r_rng1, rng1_o, r_zip, zip1_o, r_enum, enum1_o, r_lc, lc1_o, put_0, put_c, setv_c, r_sseq, then1_n, then1_r, then1_c, then1_b, r_snil, r_sretn, r_scont, r_sbrk, r_sexpr, expr1_o, r_sret, ret1_o, r_sset, set1_o, r_sif, sif1_t, sif1_f, r_stg, stg1_o, tg1_s, r_spar, par1_o, r_spar3, par3_o, r_saug, aug0_s, aug1_o, aug2_s, r_ssub, sub0_o, sub1_o, sub2_o, sub3_s, r_sfld, sfld0_o, sfld1_o, r_sfor, for1_o, r_swhile, r_run, run1_n, run1_r, len_rng, len_li, len_lst, len_tup, len_zip, len_enum, puts, putsL, optmap_nil, get_comp, puts_comp, putsL_comp, put_comp', puts_nil, putsL_nil, putE_nil, putE_map, comp_nil, nil_comp, comp_one, cutW_nil, get_one, get_nil, puts_li, putsL_li, li_len, permL, D.has, hasL, hasL_li, isTyD, isClD, isi2, isD_non, isNone, cmpD_int, negD_int, addD_int, subD_int, eqD_int, neD_int, eqD_li, neD_li, listD_lst, listD_tup, tupleD_lst, lenD_lst, lenD_tup, intD1_int, ixD_0, ixD_1, ixD_2, ixD_3, bitsD_int, cutOk, List.map_cons, List.map_nil, List.length_cons, List.length_nil, List.getElem?_cons_zero, List.getElem?_cons_succ, List.set_cons_zero, List.set_cons_succ, List.replicate, List.cons_append, List.nil_append, Option.map_some, Option.map_none, Nat.reduceAdd, Nat.reduceSub, Nat.add_assoc, Nat.zero_add, Nat.add_zero, Bool.not_true, Bool.not_false, beq_self_eq_true, String.reduceBEq, Bool.true_or, Bool.false_or, Bool.or_true, Bool.or_false, Bool.true_and, Bool.false_and, Bool.and_true, Bool.and_false, decide_true, decide_false, Bool.false_eq_true, if_true, if_false, reduceCtorEq, Nat.reduceLeDiff]
theorem v_m_rooms (a b c n : Nat) (bs rs : List Int) : q_m_House_rooms [ho a b c bs rs] n = .ok (.lst n (li rs)) (n + 1) [] := by
  unfold ho
  simp -implicitDefEqProofs only [q_m_House_rooms, b_m_House_rooms, pre_n, pre_o, of_s, r_var, var1_s, r_c, r_nil, r_cons, cons1_o, cons2_o, r_lst, lst1_o, r_tup, tup1_o, r_bin, bin1_o, bin2_o, r_un, un1_o, r_bits, r_tof, tof1_o, r_and, and1_t, and1_f, r_or, or1_t, or1_f, r_not, not1_o, r_eand, eand1_t, eand1_f, r_eor, eor1_t, eor1_f, r_enot, enot1_o, r_eif, eif1_t, eif1_f, r_call, call1_o, r_callD, r_callK, callK1_o, callK2_o, r_make, r_makeP, r_mth, mth1_o, mth2_o, r_b, r_m, m1_lst, m2_o, ofW_s, r_isi, isi1_o, isi3_s, r_fld, fld1_o, fld2_s, r_eqo, eqo1_o, eqo2_o, eqo3_o, r_osm, osm1_o, r_onone, r_sl, sl1_o, sl2_o, sl3_o, r_rev, rev1_o, r_seq, seq1_l, seq1_t, r_rng1, rng1_o, r_zip, zip1_o, r_enum, enum1_o, r_lc, lc1_o, put_0, put_c, setv_c, r_sseq, then1_n, then1_r, then1_c, then1_b, r_snil, r_sretn, r_scont, r_sbrk, r_sexpr, expr1_o, r_sret, ret1_o, r_sset, set1_o, r_sif, sif1_t, sif1_f, r_stg, stg1_o, tg1_s, r_spar, par1_o, r_spar3, par3_o, r_saug, aug0_s, aug1_o, aug2_s, r_ssub, sub0_o, sub1_o, sub2_o, sub3_s, r_sfld, sfld0_o, sfld1_o, r_sfor, for1_o, r_swhile, r_run, run1_n, run1_r, len_rng, len_li, len_lst, len_tup, len_zip, len_enum, puts, putsL, optmap_nil, get_comp, puts_comp, putsL_comp, put_comp', puts_nil, putsL_nil, putE_nil, putE_map, comp_nil, nil_comp, comp_one, cutW_nil, get_one, get_nil, puts_li, putsL_li, li_len, permL, D.has, hasL, hasL_li, isTyD, isClD, isi2, isD_non, isNone, cmpD_int, negD_int, addD_int, subD_int, eqD_int, neD_int, eqD_li, neD_li, listD_lst, listD_tup, tupleD_lst, lenD_lst, lenD_tup, intD1_int, ixD_0, ixD_1, ixD_2, ixD_3, bitsD_int, cutOk, List.map_cons, List.map_nil, List.length_cons, List.length_nil, List.getElem?_cons_zero, List.getElem?_cons_succ, List.set_cons_zero, List.set_cons_succ, List.replicate, List.cons_append, List.nil_append, Option.map_some, Option.map_none, Nat.reduceAdd, Nat.reduceSub, Nat.add_assoc, Nat.zero_add, Nat.add_zero, Bool.not_true, Bool.not_false, beq_self_eq_true, String.reduceBEq, Bool.true_or, Bool.false_or, Bool.or_true, Bool.or_false, Bool.true_and, Bool.false_and, Bool.and_true, Bool.and_false, decide_true, decide_false, Bool.false_eq_true, if_true, if_false, reduceCtorEq, Nat.reduceLeDiff]
theorem v_m_places (a b c n : Nat) (bs rs : List Int) : q_m_House_places [ho a b c bs rs] n = .ok (.int rs.length) n [] := by
  unfold ho
  simp -implicitDefEqProofs only [q_m_House_places, b_m_House_places, pre_n, pre_o, of_s, r_var, var1_s, r_c, r_nil, r_cons, cons1_o, cons2_o, r_lst, lst1_o, r_tup, tup1_o, r_bin, bin1_o, bin2_o, r_un, un1_o, r_bits, r_tof, tof1_o, r_and, and1_t, and1_f, r_or, or1_t, or1_f, r_not, not1_o, r_eand, eand1_t, eand1_f, r_eor, eor1_t, eor1_f, r_enot, enot1_o, r_eif, eif1_t, eif1_f, r_call, call1_o, r_callD, r_callK, callK1_o, callK2_o, r_make, r_makeP, r_mth, mth1_o, mth2_o, r_b, r_m, m1_lst, m2_o, ofW_s, r_isi, isi1_o, isi3_s, r_fld, fld1_o, fld2_s, r_eqo, eqo1_o, eqo2_o, eqo3_o, r_osm, osm1_o, r_onone, r_sl, sl1_o, sl2_o, sl3_o, r_rev, rev1_o, r_seq, seq1_l, seq1_t, r_rng1, rng1_o, r_zip, zip1_o, r_enum, enum1_o, r_lc, lc1_o, put_0, put_c, setv_c, r_sseq, then1_n, then1_r, then1_c, then1_b, r_snil, r_sretn, r_scont, r_sbrk, r_sexpr, expr1_o, r_sret, ret1_o, r_sset, set1_o, r_sif, sif1_t, sif1_f, r_stg, stg1_o, tg1_s, r_spar, par1_o, r_spar3, par3_o, r_saug, aug0_s, aug1_o, aug2_s, r_ssub, sub0_o, sub1_o, sub2_o, sub3_s, r_sfld, sfld0_o, sfld1_o, r_sfor, for1_o, r_swhile, r_run, run1_n, run1_r, len_rng, len_li, len_lst, len_tup, len_zip, len_enum, puts, putsL, optmap_nil, get_comp, puts_comp, putsL_comp, put_comp', puts_nil, putsL_nil, putE_nil, putE_map, comp_nil, nil_comp, comp_one, cutW_nil, get_one, get_nil, puts_li, putsL_li, li_len, permL, D.has, hasL, hasL_li, isTyD, isClD, isi2, isD_non, isNone, cmpD_int, negD_int, addD_int, subD_int, eqD_int, neD_int, eqD_li, neD_li, listD_lst, listD_tup, tupleD_lst, lenD_lst, lenD_tup, intD1_int, ixD_0, ixD_1, ixD_2, ixD_3, bitsD_int, cutOk, List.map_cons, List.map_nil, List.length_cons, List.length_nil, List.getElem?_cons_zero, List.getElem?_cons_succ, List.set_cons_zero, List.set_cons_succ, List.replicate, List.cons_append, List.nil_append, Option.map_some, Option.map_none, Nat.reduceAdd, Nat.reduceSub, Nat.add_assoc, Nat.zero_add, Nat.add_zero, Bool.not_true, Bool.not_false, beq_self_eq_true, String.reduceBEq, Bool.true_or, Bool.false_or, Bool.or_true, Bool.or_false, Bool.true_and, Bool.false_and, Bool.and_true, Bool.and_false, decide_true, decide_false, Bool.false_eq_true, if_true, if_false, reduceCtorEq, Nat.reduceLeDiff]
theorem alk3 (u v i j i' j' : Nat) (bs rs : List Int) (h1 : bs.length ≤ 1000) (h2 : rs.length ≤ 1000) (x : Int) : Alk 2 (.lst u [.lst i (li bs), .lst j (li rs), .int x]) (.lst v [.lst i' (li bs), .lst j' (li rs), .int x]) := by
  refine ⟨rfl, by simp, fun k y z hy hz => ?_⟩
  match k with
  | 0 => cases hy; cases hz; exact alk_li 0 _ _ bs h1
  | 1 => cases hy; cases hz; exact alk_li 0 _ _ rs h2
  | 2 => cases hy; cases hz; rfl
  | k + 3 => simp at hy
theorem alk2 (u v i j i' j' : Nat) (bs rs : List Int) (h1 : bs.length ≤ 1000) (h2 : rs.length ≤ 1000) : Alk 2 (.lst u [.lst i (li bs), .lst j (li rs)]) (.lst v [.lst i' (li bs), .lst j' (li rs)]) := by
  refine ⟨rfl, by simp, fun k y z hy hz => ?_⟩
  match k with
  | 0 => cases hy; cases hz; exact alk_li 0 _ _ bs h1
  | 1 => cases hy; cases hz; exact alk_li 0 _ _ rs h2
  | k + 2 => simp at hy
theorem v_purse (ns : List Int) (t : Int) (n : Nat) : ∃ a b : Int, 0 ≤ a ∧ 0 ≤ b ∧ b < 2147483629 ∧ q_l_purse [.scr ns, .int t] n = .ok (.lst (n + 1) [.int a, .int b, .int 0, .int t]) (n + 2) [] := by
  obtain ⟨A, B, C, hC, pA, pB, pC⟩ := pow_ABC
  refine ⟨max ((cutI ns (some t) (some (t + 1))).sum - A) 0 % C, (cutI ns (some t) (some (t + 1))).sum % 2147483629, Int.emod_nonneg _ (by omega), by omega, by omega, ?_⟩
  have m1 := fun x n => modD_int x C n hC
  have m2 := fun x n => modD_int x 2147483629 n (by decide)
  have s1 := fun a b n => subD_int a b n
  simp -implicitDefEqProofs only [q_l_purse, b_l_purse, slD_scr, sumD_li, pA, pB, pC, m1, m2, maxD_2, s1, pre_n, pre_o, of_s, r_var, var1_s, r_c, r_nil, r_cons, cons1_o, cons2_o, r_lst, lst1_o, r_tup, tup1_o, r_bin, bin1_o, bin2_o, r_un, un1_o, r_bits, r_tof, tof1_o, r_and, and1_t, and1_f, r_or, or1_t, or1_f, r_not, not1_o, r_eand, eand1_t, eand1_f, r_eor, eor1_t, eor1_f, r_enot, enot1_o, r_eif, eif1_t, eif1_f, r_call, call1_o, r_callD, r_callK, callK1_o, callK2_o, r_make, r_makeP, r_mth, mth1_o, mth2_o, r_b, r_m, m1_lst, m2_o, ofW_s, r_isi, isi1_o, isi3_s, r_fld, fld1_o, fld2_s, r_eqo, eqo1_o, eqo2_o, eqo3_o, r_osm, osm1_o, r_onone, r_sl, sl1_o, sl2_o, sl3_o, r_rev, rev1_o, r_seq, seq1_l, seq1_t, r_rng1, rng1_o, r_zip, zip1_o, r_enum, enum1_o, r_lc, lc1_o, put_0, put_c, setv_c, r_sseq, then1_n, then1_r, then1_c, then1_b, r_snil, r_sretn, r_scont, r_sbrk, r_sexpr, expr1_o, r_sret, ret1_o, r_sset, set1_o, r_sif, sif1_t, sif1_f, r_stg, stg1_o, tg1_s, r_spar, par1_o, r_spar3, par3_o, r_saug, aug0_s, aug1_o, aug2_s, r_ssub, sub0_o, sub1_o, sub2_o, sub3_s, r_sfld, sfld0_o, sfld1_o, r_sfor, for1_o, r_swhile, r_run, run1_n, run1_r, len_rng, len_li, len_lst, len_tup, len_zip, len_enum, puts, putsL, optmap_nil, get_comp, puts_comp, putsL_comp, put_comp', puts_nil, putsL_nil, putE_nil, putE_map, comp_nil, nil_comp, comp_one, cutW_nil, get_one, get_nil, puts_li, putsL_li, li_len, permL, D.has, hasL, hasL_li, isTyD, isClD, isi2, isD_non, isNone, cmpD_int, negD_int, addD_int, subD_int, eqD_int, neD_int, eqD_li, neD_li, listD_lst, listD_tup, tupleD_lst, lenD_lst, lenD_tup, intD1_int, ixD_0, ixD_1, ixD_2, ixD_3, bitsD_int, cutOk, List.map_cons, List.map_nil, List.length_cons, List.length_nil, List.getElem?_cons_zero, List.getElem?_cons_succ, List.set_cons_zero, List.set_cons_succ, List.replicate, List.cons_append, List.nil_append, Option.map_some, Option.map_none, Nat.reduceAdd, Nat.reduceSub, Nat.add_assoc, Nat.zero_add, Nat.add_zero, Bool.not_true, Bool.not_false, beq_self_eq_true, String.reduceBEq, Bool.true_or, Bool.false_or, Bool.or_true, Bool.or_false, Bool.true_and, Bool.false_and, Bool.and_true, Bool.and_false, decide_true, decide_false, Bool.false_eq_true, if_true, if_false, reduceCtorEq, Nat.reduceLeDiff]
theorem v_purses (ns : List Int) (few : Int) (n : Nat) (hf : 1 ≤ few) (hf2 : few ≤ 60) : ∃ ds m, n ≤ m ∧ q_l_purses [.scr ns, .int few] n = .ok (.lst m ds) (m + 1) [] ∧ Ps n m ds := by
  obtain ⟨K, hK, hK2⟩ : ∃ K : Nat, (max 1 (min few (ns.length : Int))).toNat = K ∧ K ≤ 60 := ⟨_, rfl, by omega⟩
  obtain ⟨acc', n', w'', env', e1, e2, e3, e4, e5, e6⟩ := lcGo_inv (own := [2]) (tg := tgN 2) (el := c_l_purses_1) (src := .rng 0 K) (len := K)
    (fun k m w env acc => n ≤ m ∧ env = [some (.scr ns), some (.int few), none] ∧ w = [] ∧ acc.length = k ∧ Ps n m acc) (rng_end K)
    (fun k m w env acc hk hI => by
      obtain ⟨hm, rfl, rfl, hl, hp⟩ := hI
      obtain ⟨a, b, ha, hb, hb2, e⟩ := v_purse ns (k : Int) m
      have pu : Pu (m + 1) 0 (.lst (m + 1) [.int a, .int b, .int 0, .int (k : Int)]) := ⟨a, b, 0, k, rfl, ha, hb, hb2, Int.le_refl _, Int.le_refl _, by omega, by omega⟩
      refine ⟨_, _, .lst (m + 1) [.int a, .int b, .int 0, .int (k : Int)], m + 2, [], rng_at0 K k hk, rfl, ?_, rfl, by rw [hl]; exact Nat.lt_of_lt_of_le hk (Nat.le_trans hK2 (by decide)), by omega, putE_nil _, rfl, ?_, ?_⟩
      · simp -implicitDefEqProofs only [c_l_purses_1, wipeE, e, pre_n, pre_o, of_s, r_var, var1_s, r_c, r_nil, r_cons, cons1_o, cons2_o, r_lst, lst1_o, r_tup, tup1_o, r_bin, bin1_o, bin2_o, r_un, un1_o, r_bits, r_tof, tof1_o, r_and, and1_t, and1_f, r_or, or1_t, or1_f, r_not, not1_o, r_eand, eand1_t, eand1_f, r_eor, eor1_t, eor1_f, r_enot, enot1_o, r_eif, eif1_t, eif1_f, r_call, call1_o, r_callD, r_callK, callK1_o, callK2_o, r_make, r_makeP, r_mth, mth1_o, mth2_o, r_b, r_m, m1_lst, m2_o, ofW_s, r_isi, isi1_o, isi3_s, r_fld, fld1_o, fld2_s, r_eqo, eqo1_o, eqo2_o, eqo3_o, r_osm, osm1_o, r_onone, r_sl, sl1_o, sl2_o, sl3_o, r_rev, rev1_o, r_seq, seq1_l, seq1_t, r_rng1, rng1_o, r_zip, zip1_o, r_enum, enum1_o, r_lc, lc1_o, put_0, put_c, setv_c, r_sseq, then1_n, then1_r, then1_c, then1_b, r_snil, r_sretn, r_scont, r_sbrk, r_sexpr, expr1_o, r_sret, ret1_o, r_sset, set1_o, r_sif, sif1_t, sif1_f, r_stg, stg1_o, tg1_s, r_spar, par1_o, r_spar3, par3_o, r_saug, aug0_s, aug1_o, aug2_s, r_ssub, sub0_o, sub1_o, sub2_o, sub3_s, r_sfld, sfld0_o, sfld1_o, r_sfor, for1_o, r_swhile, r_run, run1_n, run1_r, len_rng, len_li, len_lst, len_tup, len_zip, len_enum, puts, putsL, optmap_nil, get_comp, puts_comp, putsL_comp, put_comp', puts_nil, putsL_nil, putE_nil, putE_map, comp_nil, nil_comp, comp_one, cutW_nil, get_one, get_nil, puts_li, putsL_li, li_len, permL, D.has, hasL, hasL_li, isTyD, isClD, isi2, isD_non, isNone, cmpD_int, negD_int, addD_int, subD_int, eqD_int, neD_int, eqD_li, neD_li, listD_lst, listD_tup, tupleD_lst, lenD_lst, lenD_tup, intD1_int, ixD_0, ixD_1, ixD_2, ixD_3, bitsD_int, cutOk, List.map_cons, List.map_nil, List.length_cons, List.length_nil, List.getElem?_cons_zero, List.getElem?_cons_succ, List.set_cons_zero, List.set_cons_succ, List.replicate, List.cons_append, List.nil_append, Option.map_some, Option.map_none, Nat.reduceAdd, Nat.reduceSub, Nat.add_assoc, Nat.zero_add, Nat.add_zero, Bool.not_true, Bool.not_false, beq_self_eq_true, String.reduceBEq, Bool.true_or, Bool.false_or, Bool.or_true, Bool.or_false, Bool.true_and, Bool.false_and, Bool.and_true, Bool.and_false, decide_true, decide_false, Bool.false_eq_true, if_true, if_false, reduceCtorEq, Nat.reduceLeDiff]
      · rw [putsL_nil, List.length_append, hl]; rfl
      · rw [putsL_nil]; exact hp.snoc (by omega) (by omega) (by omega) pu)
    K 0 n [] [some (.scr ns), some (.int few), none] [] (by omega) ⟨Nat.le_refl _, rfl, rfl, rfl, .nil⟩
  rw [nil_comp] at e4
  subst e4
  have r1 := fun (n1 : Nat) => rng1_o n1 [] (max 1 (min few (ns.length : Int))) (by omega) (by omega)
  refine ⟨acc', n', e2, ?_, e6⟩
  simp -implicitDefEqProofs only [q_l_purses, b_l_purses, maxD_2, minD_2, lenD_scr, r1, hK, e1, pre_n, pre_o, of_s, r_var, var1_s, r_c, r_nil, r_cons, cons1_o, cons2_o, r_lst, lst1_o, r_tup, tup1_o, r_bin, bin1_o, bin2_o, r_un, un1_o, r_bits, r_tof, tof1_o, r_and, and1_t, and1_f, r_or, or1_t, or1_f, r_not, not1_o, r_eand, eand1_t, eand1_f, r_eor, eor1_t, eor1_f, r_enot, enot1_o, r_eif, eif1_t, eif1_f, r_call, call1_o, r_callD, r_callK, callK1_o, callK2_o, r_make, r_makeP, r_mth, mth1_o, mth2_o, r_b, r_m, m1_lst, m2_o, ofW_s, r_isi, isi1_o, isi3_s, r_fld, fld1_o, fld2_s, r_eqo, eqo1_o, eqo2_o, eqo3_o, r_osm, osm1_o, r_onone, r_sl, sl1_o, sl2_o, sl3_o, r_rev, rev1_o, r_seq, seq1_l, seq1_t, r_rng1, rng1_o, r_zip, zip1_o, r_enum, enum1_o, r_lc, lc1_o, put_0, put_c, setv_c, r_sseq, then1_n, then1_r, then1_c, then1_b, r_snil, r_sretn, r_scont, r_sbrk, r_sexpr, expr1_o, r_sret, ret1_o, r_sset, set1_o, r_sif, sif1_t, sif1_f, r_stg, stg1_o, tg1_s, r_spar, par1_o, r_spar3, par3_o, r_saug, aug0_s, aug1_o, aug2_s, r_ssub, sub0_o, sub1_o, sub2_o, sub3_s, r_sfld, sfld0_o, sfld1_o, r_sfor, for1_o, r_swhile, r_run, run1_n, run1_r, len_rng, len_li, len_lst, len_tup, len_zip, len_enum, puts, putsL, optmap_nil, get_comp, puts_comp, putsL_comp, put_comp', puts_nil, putsL_nil, putE_nil, putE_map, comp_nil, nil_comp, comp_one, cutW_nil, get_one, get_nil, puts_li, putsL_li, li_len, permL, D.has, hasL, hasL_li, isTyD, isClD, isi2, isD_non, isNone, cmpD_int, negD_int, addD_int, subD_int, eqD_int, neD_int, eqD_li, neD_li, listD_lst, listD_tup, tupleD_lst, lenD_lst, lenD_tup, intD1_int, ixD_0, ixD_1, ixD_2, ixD_3, bitsD_int, cutOk, List.map_cons, List.map_nil, List.length_cons, List.length_nil, List.getElem?_cons_zero, List.getElem?_cons_succ, List.set_cons_zero, List.set_cons_succ, List.replicate, List.cons_append, List.nil_append, Option.map_some, Option.map_none, Nat.reduceAdd, Nat.reduceSub, Nat.add_assoc, Nat.zero_add, Nat.add_zero, Bool.not_true, Bool.not_false, beq_self_eq_true, String.reduceBEq, Bool.true_or, Bool.false_or, Bool.or_true, Bool.or_false, Bool.true_and, Bool.false_and, Bool.and_true, Bool.and_false, decide_true, decide_false, Bool.false_eq_true, if_true, if_false, reduceCtorEq, Nat.reduceLeDiff]
end B
end
section
set_option Elab.async false
set_option linter.all false
set_option maxRecDepth 100000
set_option maxHeartbeats 1000000
namespace B
open PySem Sx
/-- a comprehension over range(K) that gives the first K of some numbers -/
theorem lc_rng {own : List Nat} {tg : TgV} {el : EV} (ps : List Int) (K n : Nat) (env : Ev) (hK : K ≤ ps.length) (hz : K ≤ 1000)
    (h : ∀ (k : Nat) x, k < K → ps[k]? = some x → ∃ env1, tg (.int (k : Int)) (wipeE env own) = some env1 ∧ el n env1 = .ok (.int x) n []) :
    lcGo own tg tTrue el K 0 (.rng 0 K) [] n env = .ok (.lst n (li (ps.take K))) (n + 1) [] := by
  obtain ⟨acc', n', w'', env', e1, e2, e3, e4, e5⟩ := lcGo_inv (own := own) (tg := tg) (el := el) (src := .rng 0 K) (len := K) (fun k m w e acc => m = n ∧ e = env ∧ w = [] ∧ acc = li (ps.take k)) (rng_end K)
    (fun k m w e acc hk hI => by
      obtain ⟨rfl, rfl, rfl, rfl⟩ := hI
      have hx : ps[k]? = some ps[k] := List.getElem?_eq_getElem (by omega)
      obtain ⟨env1, h1, h2⟩ := h k _ hk hx
      refine ⟨_, env1, .int ps[k], m, [], rng_at0 K k hk, h1, h2, rfl, ?_, rfl, putE_nil _, rfl, ?_⟩
      · rw [li_len, List.length_take]; exact Nat.lt_of_le_of_lt (Nat.min_le_left _ _) (Nat.lt_of_lt_of_le hk (Nat.le_trans hz (by decide)))
      · rw [putsL_nil, li_snoc, take_snoc hx]) K 0 n [] env [] (by omega) ⟨rfl, rfl, rfl, rfl⟩
  rw [nil_comp] at e4
  subst e2 e4 e5
  exact e1
theorem sums_last {ps : List Int} (h : ps ≠ []) : ∃ l, sums ps = l ++ [ps.sum] := by
  refine ⟨sums ps.dropLast, ?_⟩
  have e := (List.dropLast_concat_getLast h).symm
  have := sums_snoc ps.dropLast (ps.getLast h)
  rw [← e] at this
  rw [this]
  congr 2
  have := sum_snoc ps.dropLast (ps.getLast h)
  rw [← e] at this
  exact this.symm
theorem alk4 (u v i j i' j' : Nat) (xs ys : List Int) (x y : Int) (h1 : xs.length ≤ 1000) (h2 : ys.length ≤ 1000) : Alk 2 (.lst u [.lst i (li xs), .lst j (li ys), .int x, .int y]) (.lst v [.lst i' (li xs), .lst j' (li ys), .int x, .int y]) := by
  refine ⟨rfl, by simp, fun k y z hy hz => ?_⟩
  match k with
  | 0 => cases hy; cases hz; exact alk_li 0 _ _ xs h1
  | 1 => cases hy; cases hz; exact alk_li 0 _ _ ys h2
  | 2 => cases hy; cases hz; rfl
  | 3 => cases hy; cases hz; rfl
  | k + 4 => simp at hy
theorem rowAt_len (rs : List Int) (h : Btw 0 60 rs) (N : Int) : (rowAt rs N).length = rs.length := (rowAt_row rs h N).l
theorem tupleD_hd (i j k : Nat) (bs rs : List Int) (n : Nat) : tupleD [.lst i [.lst j (li bs), .lst k (li rs)]] n = some (.tup [.lst j (li bs), .lst k (li rs)], n) := rfl
end B
end
section
set_option Elab.async false
set_option linter.all false
set_option maxRecDepth 100000
set_option maxHeartbeats 4000000
namespace K04
open PySem PySem.Spec PyProof.Rows L2 Sx
def topS (i : Nat) : Stmt := PySem.Challenge.pw_carryways_k04_whole_houses_made_of_house.main.body.getD i (.Pass ⟨0, 0, 0, 0⟩)
abbrev s_is_whole : Stmt := topS 9
theorem sc_is_whole : FnScope ["value"] ["value"] (defScope s_is_whole) := ⟨rfl, rfl, rfl, by decide +kernel, rfl, by decide +kernel, by decide +kernel⟩
abbrev s_is_count : Stmt := topS 10
theorem sc_is_count : FnScope ["value", "most"] ["value", "most"] (defScope s_is_count) := ⟨rfl, rfl, rfl, by decide +kernel, rfl, by decide +kernel, by decide +kernel⟩
abbrev s_are_counts : Stmt := topS 11
theorem sc_are_counts : FnScope ["value", "late"] ["value"] (defScope s_are_counts) := ⟨rfl, rfl, rfl, by decide +kernel, rfl, by decide +kernel, by decide +kernel⟩
abbrev s_is_base : Stmt := topS 13
theorem sc_is_base : FnScope ["value"] ["value"] (defScope s_is_base) := ⟨rfl, rfl, rfl, by decide +kernel, rfl, by decide +kernel, by decide +kernel⟩
abbrev s_init_House : Stmt := inClass (topS 14) 0
theorem sc_init_House : FnScope ["self", "bases", "rooms", "base"] ["self", "bases", "rooms"] (defScope s_init_House) := ⟨rfl, rfl, rfl, by decide +kernel, rfl, by decide +kernel, by decide +kernel⟩
abbrev s_m_House_bases : Stmt := inClass (topS 14) 1
theorem sc_m_House_bases : FnScope ["self"] ["self"] (defScope s_m_House_bases) := ⟨rfl, rfl, rfl, by decide +kernel, rfl, by decide +kernel, by decide +kernel⟩
abbrev s_m_House_rooms : Stmt := inClass (topS 14) 2
theorem sc_m_House_rooms : FnScope ["self"] ["self"] (defScope s_m_House_rooms) := ⟨rfl, rfl, rfl, by decide +kernel, rfl, by decide +kernel, by decide +kernel⟩
abbrev s_m_House_places : Stmt := inClass (topS 14) 3
theorem sc_m_House_places : FnScope ["self"] ["self"] (defScope s_m_House_places) := ⟨rfl, rfl, rfl, by decide +kernel, rfl, by decide +kernel, by decide +kernel⟩
abbrev s_eq_House : Stmt := inClass (topS 14) 4
theorem sc_eq_House : FnScope ["self", "other"] ["self", "other"] (defScope s_eq_House) := ⟨rfl, rfl, rfl, by decide +kernel, rfl, by decide +kernel, by decide +kernel⟩
abbrev s_check_house : Stmt := topS 15
theorem sc_check_house : FnScope ["value"] ["value"] (defScope s_check_house) := ⟨rfl, rfl, rfl, by decide +kernel, rfl, by decide +kernel, by decide +kernel⟩
abbrev s_check_place : Stmt := topS 16
theorem sc_check_place : FnScope ["house", "value"] ["house", "value"] (defScope s_check_place) := ⟨rfl, rfl, rfl, by decide +kernel, rfl, by decide +kernel, by decide +kernel⟩
def b_check_place : SV :=
  (sIf (tOr (tNot (tOf (eCallD B.q_is_count [.non] (aCons (eVar 1) aNil)))) (tOf (eBin geD (eVar 1) (eB lenD (aCons (eFld 0 1 (eVar 0)) aNil))))) sBad sNil)
def q_check_place : FV := runF 2 b_check_place
abbrev s_check_low_place : Stmt := topS 17
theorem sc_check_low_place : FnScope ["house", "value"] ["house", "value"] (defScope s_check_low_place) := ⟨rfl, rfl, rfl, by decide +kernel, rfl, by decide +kernel, by decide +kernel⟩
def b_check_low_place : SV :=
  (sIf (tOr (tNot (tOf (eCallD B.q_is_count [.non] (aCons (eVar 1) aNil)))) (tOf (eBin geD (eVar 1) (eB lenD (aCons (eFld 0 0 (eVar 0)) aNil))))) sBad sNil)
def q_check_low_place : FV := runF 2 b_check_low_place
abbrev s_weights_of : Stmt := topS 18
theorem sc_weights_of : FnScope ["house", "found", "base"] ["house"] (defScope s_weights_of) := ⟨rfl, rfl, rfl, by decide +kernel, rfl, by decide +kernel, by decide +kernel⟩
abbrev s_sums_up_to : Stmt := topS 19
theorem sc_sums_up_to : FnScope ["house", "row", "found", "much", "many", "weight"] ["house", "row"] (defScope s_sums_up_to) := ⟨rfl, rfl, rfl, by decide +kernel, rfl, by decide +kernel, by decide +kernel⟩
abbrev s_rows_in : Stmt := topS 20
theorem sc_rows_in : FnScope ["house", "many", "room"] ["house"] (defScope s_rows_in) := ⟨rfl, rfl, rfl, by decide +kernel, rfl, by decide +kernel, by decide +kernel⟩
abbrev s_weights : Stmt := topS 21
theorem sc_weights : FnScope ["house"] ["house"] (defScope s_weights) := ⟨rfl, rfl, rfl, by decide +kernel, rfl, by decide +kernel, by decide +kernel⟩
abbrev s_held_up_to : Stmt := topS 22
theorem sc_held_up_to : FnScope ["house"] ["house"] (defScope s_held_up_to) := ⟨rfl, rfl, rfl, by decide +kernel, rfl, by decide +kernel, by decide +kernel⟩
abbrev s_many_rows : Stmt := topS 23
theorem sc_many_rows : FnScope ["house"] ["house"] (defScope s_many_rows) := ⟨rfl, rfl, rfl, by decide +kernel, rfl, by decide +kernel, by decide +kernel⟩
def c_is_within_1 : EV :=
  (eBin leD (eVar 2) (eVar 3))
abbrev s_is_within : Stmt := topS 24
theorem sc_is_within : FnScope ["one", "other", "less", "more"] ["one", "other"] (defScope s_is_within) := ⟨rfl, rfl, rfl, by decide +kernel, rfl, by decide +kernel, by decide +kernel⟩
def b_is_within : SV :=
  (sSeq (sExpr (eCall B.q_check_house (aCons (eVar 0) aNil)))
  (sSeq (sExpr (eCall B.q_check_house (aCons (eVar 1) aNil)))
  (sRet (eAnd (eBin eqD (eFld 0 0 (eVar 0)) (eFld 0 0 (eVar 1))) (eB allD (aCons (eLc (iZip (aCons (eFld 0 1 (eVar 0)) (aCons (eFld 0 1 (eVar 1)) aNil))) [2, 3] (tgT [(tgN 2), (tgN 3)]) tTrue c_is_within_1) aNil))))))
def q_is_within : FV := runF 4 b_is_within
abbrev s_check_alike : Stmt := topS 25
theorem sc_check_alike : FnScope ["one", "other"] ["one", "other"] (defScope s_check_alike) := ⟨rfl, rfl, rfl, by decide +kernel, rfl, by decide +kernel, by decide +kernel⟩
def b_check_alike : SV :=
  (sSeq (sExpr (eCall B.q_check_house (aCons (eVar 0) aNil)))
  (sSeq (sExpr (eCall B.q_check_house (aCons (eVar 1) aNil)))
  (sIf (tOf (eBin neD (eFld 0 0 (eVar 0)) (eFld 0 0 (eVar 1)))) sBad sNil)))
def q_check_alike : FV := runF 2 b_check_alike
def c_lesser_house_1 : EV :=
  (eB minD (aCons (eVar 2) aNil))
abbrev s_lesser_house : Stmt := topS 26
theorem sc_lesser_house : FnScope ["one", "other", "pair"] ["one", "other"] (defScope s_lesser_house) := ⟨rfl, rfl, rfl, by decide +kernel, rfl, by decide +kernel, by decide +kernel⟩
def b_lesser_house : SV :=
  (sSeq (sExpr (eCall q_check_alike (aCons (eVar 0) (aCons (eVar 1) aNil))))
  (sRet (eMake 0 B.q_init_House (aCons (eFld 0 0 (eVar 0)) (aCons (eLc (iZipN (aCons (eFld 0 1 (eVar 0)) (aCons (eFld 0 1 (eVar 1)) aNil))) [2] (tgN 2) tTrue c_lesser_house_1) aNil)))))
def q_lesser_house : FV := runF 3 b_lesser_house
def c_greater_house_1 : EV :=
  (eB maxD (aCons (eVar 2) aNil))
abbrev s_greater_house : Stmt := topS 27
theorem sc_greater_house : FnScope ["one", "other", "pair"] ["one", "other"] (defScope s_greater_house) := ⟨rfl, rfl, rfl, by decide +kernel, rfl, by decide +kernel, by decide +kernel⟩
def b_greater_house : SV :=
  (sSeq (sExpr (eCall q_check_alike (aCons (eVar 0) (aCons (eVar 1) aNil))))
  (sRet (eMake 0 B.q_init_House (aCons (eFld 0 0 (eVar 0)) (aCons (eLc (iZipN (aCons (eFld 0 1 (eVar 0)) (aCons (eFld 0 1 (eVar 1)) aNil))) [2] (tgN 2) tTrue c_greater_house_1) aNil)))))
def q_greater_house : FV := runF 3 b_greater_house
abbrev s_roomed : Stmt := topS 28
theorem sc_roomed : FnScope ["house", "place", "room"] ["house", "place", "room"] (defScope s_roomed) := ⟨rfl, rfl, rfl, by decide +kernel, rfl, by decide +kernel, by decide +kernel⟩
def b_roomed : SV :=
  (sRet (eMake 0 B.q_init_House (aCons (eFld 0 0 (eVar 0)) (aCons (eLst (aStar (eSl slD (eFld 0 1 (eVar 0)) oNone (oSome (eVar 1))) (aCons (eVar 2) (aStar (eSl slD (eFld 0 1 (eVar 0)) (oSome (eBin addD (eVar 1) (eC (.int 1)))) oNone) aNil)))) aNil))))
def q_roomed : FV := runF 3 b_roomed
abbrev s_with_room : Stmt := topS 29
theorem sc_with_room : FnScope ["house", "place", "room"] ["house", "place", "room"] (defScope s_with_room) := ⟨rfl, rfl, rfl, by decide +kernel, rfl, by decide +kernel, by decide +kernel⟩
def b_with_room : SV :=
  (sSeq (sExpr (eCall B.q_check_house (aCons (eVar 0) aNil)))
  (sSeq (sExpr (eCall q_check_place (aCons (eVar 0) (aCons (eVar 1) aNil))))
  (sSeq (sIf (tNot (tOf (eCallD B.q_is_count [.non] (aCons (eVar 2) aNil)))) sBad sNil)
  (sRet (eCall q_roomed (aCons (eVar 0) (aCons (eVar 1) (aCons (eVar 2) aNil))))))))
def q_with_room : FV := runF 3 b_with_room
abbrev s_stretch : Stmt := topS 30
theorem sc_stretch : FnScope ["house", "first", "last"] ["house", "first", "last"] (defScope s_stretch) := ⟨rfl, rfl, rfl, by decide +kernel, rfl, by decide +kernel, by decide +kernel⟩
def b_stretch : SV :=
  (sSeq (sExpr (eCall B.q_check_house (aCons (eVar 0) aNil)))
  (sSeq (sExpr (eCall q_check_place (aCons (eVar 0) (aCons (eVar 1) aNil))))
  (sSeq (sExpr (eCall q_check_place (aCons (eVar 0) (aCons (eVar 2) aNil))))
  (sSeq (sIf (tOf (eBin ltD (eVar 2) (eVar 1))) sBad sNil)
  (sRet (eMake 0 B.q_init_House (aCons (eSl slD (eFld 0 0 (eVar 0)) (oSome (eVar 1)) (oSome (eVar 2))) (aCons (eSl slD (eFld 0 1 (eVar 0)) (oSome (eVar 1)) (oSome (eBin addD (eVar 2) (eC (.int 1))))) aNil))))))))
def q_stretch : FV := runF 3 b_stretch
abbrev s_set_behind : Stmt := topS 31
theorem sc_set_behind : FnScope ["one", "base", "other"] ["one", "base", "other"] (defScope s_set_behind) := ⟨rfl, rfl, rfl, by decide +kernel, rfl, by decide +kernel, by decide +kernel⟩
def b_set_behind : SV :=
  (sSeq (sExpr (eCall B.q_check_house (aCons (eVar 0) aNil)))
  (sSeq (sIf (tNot (tOf (eCall B.q_is_base (aCons (eVar 1) aNil)))) sBad sNil)
  (sSeq (sExpr (eCall B.q_check_house (aCons (eVar 2) aNil)))
  (sRet (eMake 0 B.q_init_House (aCons (eLst (aStar (eFld 0 0 (eVar 0)) (aCons (eVar 1) (aStar (eFld 0 0 (eVar 2)) aNil)))) (aCons (eLst (aStar (eFld 0 1 (eVar 0)) (aStar (eFld 0 1 (eVar 2)) aNil))) aNil)))))))
def q_set_behind : FV := runF 3 b_set_behind
abbrev s_tightened : Stmt := topS 32
theorem sc_tightened : FnScope ["house", "place"] ["house", "place"] (defScope s_tightened) := ⟨rfl, rfl, rfl, by decide +kernel, rfl, by decide +kernel, by decide +kernel⟩
def b_tightened : SV :=
  (sSeq (sExpr (eCall B.q_check_house (aCons (eVar 0) aNil)))
  (sSeq (sExpr (eCall q_check_low_place (aCons (eVar 0) (aCons (eVar 1) aNil))))
  (sRet (eCall q_roomed (aCons (eVar 0) (aCons (eVar 1) (aCons (eB minD (aCons (eBin ixD (eFld 0 1 (eVar 0)) (eVar 1)) (aCons (eBin subD (eBin ixD (eFld 0 0 (eVar 0)) (eVar 1)) (eC (.int 1))) aNil))) aNil)))))))
def q_tightened : FV := runF 2 b_tightened
abbrev s_l_purse : Stmt := topS 34
theorem sc_l_purse : FnScope ["_law_script", "_law_at", "_law_seed"] ["_law_script", "_law_at"] (defScope s_l_purse) := ⟨rfl, rfl, rfl, by decide +kernel, rfl, by decide +kernel, by decide +kernel⟩
abbrev s_l_mixed : Stmt := topS 35
theorem sc_l_mixed : FnScope ["_law_seed", "_law_spin", "_law_at", "_law_mixed_here"] ["_law_seed", "_law_spin", "_law_at"] (defScope s_l_mixed) := ⟨rfl, rfl, rfl, by decide +kernel, rfl, by decide +kernel, by decide +kernel⟩
abbrev s_l_draw : Stmt := topS 36
theorem sc_l_draw : FnScope ["_law_purse_here", "_law_many", "_law_drawn", "_law_found", "_law_piece"] ["_law_purse_here", "_law_many"] (defScope s_l_draw) := ⟨rfl, rfl, rfl, by decide +kernel, rfl, by decide +kernel, by decide +kernel⟩
abbrev s_l_purses : Stmt := topS 37
theorem sc_l_purses : FnScope ["_law_script", "_law_few", "_law_at"] ["_law_script", "_law_few"] (defScope s_l_purses) := ⟨rfl, rfl, rfl, by decide +kernel, rfl, by decide +kernel, by decide +kernel⟩
abbrev s_l_one_of : Stmt := topS 38
theorem sc_l_one_of : FnScope ["_law_purse_here", "_law_some"] ["_law_purse_here", "_law_some"] (defScope s_l_one_of) := ⟨rfl, rfl, rfl, by decide +kernel, rfl, by decide +kernel, by decide +kernel⟩
abbrev s_l_exact : Stmt := topS 39
theorem sc_l_exact : FnScope ["_law_mine", "_law_theirs", "_law_alike", "_law_a", "_law_b", "_law_key"] ["_law_mine", "_law_theirs"] (defScope s_l_exact) := ⟨rfl, rfl, rfl, by decide +kernel, rfl, by decide +kernel, by decide +kernel⟩
abbrev s_l_weights : Stmt := topS 40
theorem sc_l_weights : FnScope ["_law_house_here", "_law_found", "_law_base"] ["_law_house_here"] (defScope s_l_weights) := ⟨rfl, rfl, rfl, by decide +kernel, rfl, by decide +kernel, by decide +kernel⟩
abbrev s_l_many_rows : Stmt := topS 41
theorem sc_l_many_rows : FnScope ["_law_house_here", "_law_many", "_law_room"] ["_law_house_here"] (defScope s_l_many_rows) := ⟨rfl, rfl, rfl, by decide +kernel, rfl, by decide +kernel, by decide +kernel⟩
abbrev s_l_house : Stmt := topS 42
theorem sc_l_house : FnScope ["_law_purse_here", "_law_places", "_law_bases", "_law_rooms", "_law_base", "_law_some", "_law_at"] ["_law_purse_here", "_law_places"] (defScope s_l_house) := ⟨rfl, rfl, rfl, by decide +kernel, rfl, by decide +kernel, by decide +kernel⟩
abbrev s_l_great_house : Stmt := topS 43
theorem sc_l_great_house : FnScope ["_law_purse_here", "_law_house_here", "_law_at", "_law_base"] ["_law_purse_here"] (defScope s_l_great_house) := ⟨rfl, rfl, rfl, by decide +kernel, rfl, by decide +kernel, by decide +kernel⟩
abbrev s_l_made : Stmt := topS 44
theorem sc_l_made : FnScope ["_law_house_here"] ["_law_house_here"] (defScope s_l_made) := ⟨rfl, rfl, rfl, by decide +kernel, rfl, by decide +kernel, by decide +kernel⟩
def c_l_told_of_1 : EV :=
  (eBin mulD (eBin ixD (eBin ixD (eVar 1) (eC (.int 1))) (eVar 4)) (eBin ixD (eCall B.q_l_weights (aCons (eVar 1) aNil)) (eVar 4)))
def b_l_told_of_2 : SV :=
  (sExpr (eM "list" appD (eVar 2) (aCons (eB sumD (aCons (eLc (iRange1 (aCons (eBin addD (eVar 3) (eC (.int 1))) aNil)) [4] (tgN 4) tTrue c_l_told_of_1) aNil)) aNil)))
abbrev s_l_told_of : Stmt := topS 45
theorem sc_l_told_of : FnScope ["_law_made_here", "_law_house_here", "_law_held", "_law_at", "_law_late"] ["_law_made_here"] (defScope s_l_told_of) := ⟨rfl, rfl, rfl, by decide +kernel, rfl, by decide +kernel, by decide +kernel⟩
def b_l_told_of : SV :=
  (sSeq (sTg (tgT [(tgN 1), (tgN 2)]) (eTup (aCons (eLst (aCons (eMth 0 B.q_m_House_bases (eVar 0) aNil) (aCons (eMth 0 B.q_m_House_rooms (eVar 0) aNil) aNil))) (aCons (eLst aNil) aNil))))
  (sSeq (sFor (iRange1 (aCons (eB lenD (aCons (eBin ixD (eVar 1) (eC (.int 1))) aNil)) aNil)) (tgN 3) b_l_told_of_2)
  (sSeq (sIf (tNot (tOf (eCall (B.q_l_exact 8) (aCons (eLst (aCons (eCall B.q_weights (aCons (eVar 0) aNil)) (aCons (eCall B.q_held_up_to (aCons (eVar 0) aNil)) (aCons (eCall B.q_many_rows (aCons (eVar 0) aNil)) (aCons (eMth 0 B.q_m_House_places (eVar 0) aNil) aNil))))) (aCons (eLst (aCons (eCall B.q_l_weights (aCons (eVar 1) aNil)) (aCons (eVar 2) (aCons (eCall B.q_l_many_rows (aCons (eVar 1) aNil)) (aCons (eB lenD (aCons (eVar 2) aNil)) aNil))))) aNil))))) (sRet (eC .non)) sNil)
  (sRet (eVar 1)))))
def q_l_told_of : FV := runF 5 b_l_told_of
def c_l_two_right_1 : EV :=
  (eCall B.q_l_one_of (aCons (eVar 0) (aCons (eLst (aCons (eVar 12) (aCons (eB maxD (aCons (eC (.int 0)) (aCons (eBin subD (eVar 12) (eC (.int 1))) aNil))) (aCons (eBin addD (eVar 12) (eC (.int 1))) (aCons (eCall B.q_l_draw (aCons (eVar 0) (aCons (eC (.int 60)) aNil))) aNil))))) aNil)))
def c_l_two_right_2 : EV :=
  (eB minD (aCons (eC (.int 60)) (aCons (eVar 12) aNil)))
def c_l_two_right_3 : EV :=
  (eBin leD (eVar 13) (eVar 14))
def c_l_two_right_4 : EV :=
  (eBin leD (eVar 13) (eVar 14))
def c_l_two_right_5 : EV :=
  (eB maxD (aCons (eVar 15) aNil))
def c_l_two_right_6 : EV :=
  (eB minD (aCons (eVar 15) aNil))
def c_l_two_right_7 : EV :=
  (eCall q_l_told_of (aCons (eVar 16) aNil))
def b_l_two_right_8 : SV :=
  (sSeq (sSet 4 (eLc (iSeq (eBin ixD (eVar 1) (eC (.int 1)))) [12] (tgN 12) tTrue c_l_two_right_1))
  (sSeq (sSet 4 (eLc (iSeq (eVar 4)) [12] (tgN 12) tTrue c_l_two_right_2))
  (sSeq (sSet 5 (eMake 0 B.q_init_House (aCons (eB listD (aCons (eBin ixD (eVar 1) (eC (.int 0))) aNil)) (aCons (eB listD (aCons (eVar 4) aNil)) aNil))))
  (sSeq (sSet 6 (eB allD (aCons (eLc (iZip (aCons (eBin ixD (eVar 1) (eC (.int 1))) (aCons (eVar 4) aNil))) [13, 14] (tgT [(tgN 13), (tgN 14)]) tTrue c_l_two_right_3) aNil)))
  (sSeq (sSet 7 (eB allD (aCons (eLc (iZip (aCons (eVar 4) (aCons (eBin ixD (eVar 1) (eC (.int 1))) aNil))) [13, 14] (tgT [(tgN 13), (tgN 14)]) tTrue c_l_two_right_4) aNil)))
  (sSeq (sIf (tNot (tOf (eCall (B.q_l_exact 8) (aCons (eLst (aCons (eCallK q_is_within [1, 0] aNil (aCons (eVar 5) (aCons (eVar 2) aNil))) (aCons (eCall q_is_within (aCons (eVar 5) (aCons (eVar 2) aNil))) aNil))) (aCons (eLst (aCons (eVar 6) (aCons (eVar 7) aNil))) aNil))))) (sRet (eC (.bl false))) sNil)
  (sSeq (sSet 8 (eLst (aCons (eCallK q_lesser_house [1, 0] aNil (aCons (eVar 5) (aCons (eVar 2) aNil))) (aCons (eCallK q_greater_house [1, 0] aNil (aCons (eVar 5) (aCons (eVar 2) aNil))) (aCons (eCall q_lesser_house (aCons (eVar 5) (aCons (eVar 2) aNil))) aNil)))))
  (sSeq (sSet 9 (eLst (aCons (eLc (iZipN (aCons (eBin ixD (eVar 1) (eC (.int 1))) (aCons (eVar 4) aNil))) [15] (tgN 15) tTrue c_l_two_right_6) (aCons (eLc (iZipN (aCons (eBin ixD (eVar 1) (eC (.int 1))) (aCons (eVar 4) aNil))) [15] (tgN 15) tTrue c_l_two_right_5) aNil))))
  (sSeq (sIf (tNot (tOf (eCall (B.q_l_exact 8) (aCons (eLc (iSeq (eVar 8)) [16] (tgN 16) tTrue c_l_two_right_7) (aCons (eLst (aCons (eLst (aCons (eBin ixD (eVar 1) (eC (.int 0))) (aCons (eBin ixD (eVar 9) (eC (.int 0))) aNil))) (aCons (eLst (aCons (eBin ixD (eVar 1) (eC (.int 0))) (aCons (eBin ixD (eVar 9) (eC (.int 1))) aNil))) (aCons (eLst (aCons (eBin ixD (eVar 1) (eC (.int 0))) (aCons (eBin ixD (eVar 9) (eC (.int 0))) aNil))) aNil)))) aNil))))) (sRet (eC (.bl false))) sNil)
  (sIf (tOr (tNot (tOf (eCall q_is_within (aCons (eBin ixD (eVar 8) (eC (.int 0))) (aCons (eVar 2) aNil))))) (tOr (tNot (tOf (eCall q_is_within (aCons (eVar 5) (aCons (eBin ixD (eVar 8) (eC (.int 1))) aNil))))) (tNot (tOf (eCall (B.q_l_exact 8) (aCons (eCall q_l_told_of (aCons (eVar 2) aNil)) (aCons (eVar 1) aNil))))))) (sRet (eC (.bl false))) sNil))))))))))
def b_l_two_right_9 : SV :=
  (sSeq (sSet 5 (eMake 0 B.q_init_House (aCons (eBin addD (eBin addD (eSl slD (eBin ixD (eVar 1) (eC (.int 0))) oNone (oSome (eVar 10))) (eLst (aCons (eIf (tOf (eBin ltD (eVar 11) (eC (.int 60)))) (eBin addD (eVar 11) (eC (.int 1))) (eC (.int 59))) aNil))) (eSl slD (eBin ixD (eVar 1) (eC (.int 0))) (oSome (eBin addD (eVar 10) (eC (.int 1)))) oNone)) (aCons (eBin ixD (eVar 1) (eC (.int 1))) aNil))))
  (sIf (tNot (tOf (eCall (B.q_l_exact 8) (aCons (eLst (aCons (eCall q_is_within (aCons (eVar 2) (aCons (eVar 5) aNil))) (aCons (eCall q_is_within (aCons (eVar 5) (aCons (eVar 2) aNil))) aNil))) (aCons (eLst (aCons (eC (.bl false)) (aCons (eC (.bl false)) aNil))) aNil))))) (sRet (eC (.bl false))) sNil))
abbrev s_l_two_right : Stmt := topS 46
theorem sc_l_two_right : FnScope ["_law_purse_here", "_law_house_here", "_law_made_here", "_law_spin", "_law_rooms", "_law_other", "_law_due", "_law_back", "_law_told", "_law_dues", "_law_at", "_law_base", "_law_room", "_law_less", "_law_more", "_law_pair", "_law_late"] ["_law_purse_here", "_law_house_here"] (defScope s_l_two_right) := ⟨rfl, rfl, rfl, by decide +kernel, rfl, by decide +kernel, by decide +kernel⟩
def b_l_two_right : SV :=
  (sSeq (sSet 2 (eCall B.q_l_made (aCons (eVar 1) aNil)))
  (sSeq (sFor (iRange1 (aCons (eC (.int 4)) aNil)) (tgN 3) b_l_two_right_8)
  (sSeq (sFor (iEnum (aCons (eBin ixD (eVar 1) (eC (.int 0))) aNil)) (tgT [(tgN 10), (tgN 11)]) b_l_two_right_9)
  (sSeq (sIf (tAnd (tOf (eBin ltD (eB lenD (aCons (eBin ixD (eVar 1) (eC (.int 1))) aNil)) (eC (.int 8)))) (tOf (eBin isnotD (eCall q_is_within (aCons (eVar 2) (aCons (eMake 0 B.q_init_House (aCons (eBin addD (eBin ixD (eVar 1) (eC (.int 0))) (eLst (aCons (eC (.int 2)) aNil))) (aCons (eBin addD (eBin ixD (eVar 1) (eC (.int 1))) (eLst (aCons (eC (.int 60)) aNil))) aNil))) aNil))) (eC (.bl false))))) (sRet (eC (.bl false))) sNil)
  (sRet (eBin isD (eCall q_is_within (aCons (eVar 2) (aCons (eVar 2) aNil))) (eC (.bl true))))))))
def q_l_two_right : FV := runF 17 b_l_two_right
def b_l_places_right_1 : SV :=
  (sIf (tNot (tOf (eCall (B.q_l_exact 8) (aCons (eCall q_l_told_of (aCons (eCallK q_stretch [2, 1, 0] aNil (aCons (eVar 8) (aCons (eVar 4) (aCons (eVar 2) aNil)))) aNil)) (aCons (eLst (aCons (eSl slD (eBin ixD (eVar 1) (eC (.int 0))) (oSome (eVar 4)) (oSome (eVar 8))) (aCons (eSl slD (eBin ixD (eVar 1) (eC (.int 1))) (oSome (eVar 4)) (oSome (eBin addD (eVar 8) (eC (.int 1))))) aNil))) aNil))))) (sRet (eC (.bl false))) sNil)
def b_l_places_right_2 : SV :=
  (sSeq (sSet 5 (eCall B.q_l_draw (aCons (eVar 0) (aCons (eC (.int 61)) aNil))))
  (sSeq (sSet 6 (eCallK q_with_room [2, 1, 0] aNil (aCons (eVar 5) (aCons (eVar 4) (aCons (eVar 2) aNil)))))
  (sSeq (sIf (tNot (tOf (eCall (B.q_l_exact 8) (aCons (eCall q_l_told_of (aCons (eVar 6) aNil)) (aCons (eLst (aCons (eBin ixD (eVar 1) (eC (.int 0))) (aCons (eBin addD (eBin addD (eSl slD (eBin ixD (eVar 1) (eC (.int 1))) oNone (oSome (eVar 4))) (eLst (aCons (eVar 5) aNil))) (eSl slD (eBin ixD (eVar 1) (eC (.int 1))) (oSome (eBin addD (eVar 4) (eC (.int 1)))) oNone)) aNil))) aNil))))) (sRet (eC (.bl false))) sNil)
  (sSeq (sIf (tOf (eBin ltD (eVar 4) (eBin subD (eVar 3) (eC (.int 1))))) (sSeq (sSet 7 (eB minD (aCons (eBin ixD (eBin ixD (eVar 1) (eC (.int 1))) (eVar 4)) (aCons (eBin subD (eBin ixD (eBin ixD (eVar 1) (eC (.int 0))) (eVar 4)) (eC (.int 1))) aNil))))
  (sSeq (sSet 6 (eIf (tOf (eBin gtD (eVar 4) (eC (.int 0)))) (eCall q_tightened (aCons (eVar 2) (aCons (eVar 4) aNil))) (eCallK q_tightened [1, 0] aNil (aCons (eVar 4) (aCons (eVar 2) aNil)))))
  (sIf (tNot (tOf (eCall (B.q_l_exact 8) (aCons (eCall q_l_told_of (aCons (eVar 6) aNil)) (aCons (eLst (aCons (eBin ixD (eVar 1) (eC (.int 0))) (aCons (eBin addD (eBin addD (eSl slD (eBin ixD (eVar 1) (eC (.int 1))) oNone (oSome (eVar 4))) (eLst (aCons (eVar 7) aNil))) (eSl slD (eBin ixD (eVar 1) (eC (.int 1))) (oSome (eBin addD (eVar 4) (eC (.int 1)))) oNone)) aNil))) aNil))))) (sRet (eC (.bl false))) sNil))) sNil)
  (sFor (iRange2 (aCons (eVar 4) (aCons (eVar 3) aNil))) (tgN 8) b_l_places_right_1)))))
abbrev s_l_places_right : Stmt := topS 47
theorem sc_l_places_right : FnScope ["_law_purse_here", "_law_house_here", "_law_made_here", "_law_many", "_law_at", "_law_room", "_law_told", "_law_less", "_law_last"] ["_law_purse_here", "_law_house_here"] (defScope s_l_places_right) := ⟨rfl, rfl, rfl, by decide +kernel, rfl, by decide +kernel, by decide +kernel⟩
def b_l_places_right : SV :=
  (sSeq (sPar 2 3 (aCons (eCall B.q_l_made (aCons (eVar 1) aNil)) (aCons (eB lenD (aCons (eBin ixD (eVar 1) (eC (.int 1))) aNil)) aNil)))
  (sSeq (sFor (iRange1 (aCons (eVar 3) aNil)) (tgN 4) b_l_places_right_2)
  (sRet (eCall (B.q_l_exact 8) (aCons (eCall q_l_told_of (aCons (eVar 2) aNil)) (aCons (eVar 1) aNil))))))
def q_l_places_right : FV := runF 9 b_l_places_right
def c_l_behind_right_1 : EV :=
  (eBin mulD (eBin mulD (eBin ixD (eVar 8) (eUn negD (eC (.int 1)))) (eVar 5)) (eVar 10))
def t_l_behind_right_6 : SV :=
  (sSeq (sSet 9 (eBin addD (eVar 8) (eLc (iSeq (eCall B.q_l_weights (aCons (eVar 2) aNil))) [10] (tgN 10) tTrue c_l_behind_right_1)))
  (sRet (eAnd (eCall (B.q_l_exact 8) (aCons (eCall B.q_weights (aCons (eVar 6) aNil)) (aCons (eVar 9) aNil))) (eCall (B.q_l_exact 8) (aCons (eLst (aCons (eCall q_l_told_of (aCons (eVar 3) aNil)) (aCons (eCall q_l_told_of (aCons (eVar 4) aNil)) aNil))) (aCons (eLst (aCons (eVar 1) (aCons (eVar 2) aNil))) aNil))))))
def t_l_behind_right_5 : SV :=
  (sSeq (sSet 8 (eCall B.q_l_weights (aCons (eVar 1) aNil)))
  t_l_behind_right_6)
def t_l_behind_right_4 : SV :=
  (sSeq (sIf (tOr (tOf (eEqO true 0 B.q_eq_House (eCall q_stretch (aCons (eVar 6) (aCons (eC (.int 0)) (aCons (eBin subD (eVar 7) (eC (.int 1))) aNil)))) (eVar 3))) (tOf (eEqO true 0 B.q_eq_House (eCall q_stretch (aCons (eVar 6) (aCons (eVar 7) (aCons (eBin subD (eBin addD (eVar 7) (eB lenD (aCons (eBin ixD (eVar 2) (eC (.int 1))) aNil))) (eC (.int 1))) aNil)))) (eVar 4)))) (sRet (eC (.bl false))) sNil)
  t_l_behind_right_5)
def t_l_behind_right_3 : SV :=
  (sSeq (sSet 7 (eB lenD (aCons (eBin ixD (eVar 1) (eC (.int 1))) aNil)))
  t_l_behind_right_4)
def t_l_behind_right_2 : SV :=
  (sSeq (sIf (tNot (tOf (eCall (B.q_l_exact 8) (aCons (eCall q_l_told_of (aCons (eVar 6) aNil)) (aCons (eLst (aCons (eBin addD (eBin addD (eBin ixD (eVar 1) (eC (.int 0))) (eLst (aCons (eVar 5) aNil))) (eBin ixD (eVar 2) (eC (.int 0)))) (aCons (eBin addD (eBin ixD (eVar 1) (eC (.int 1))) (eBin ixD (eVar 2) (eC (.int 1)))) aNil))) aNil))))) (sRet (eC (.bl false))) sNil)
  t_l_behind_right_3)
def t_l_behind_right_1 : SV :=
  (sSeq (sSet 6 (eCallK q_set_behind [2, 1, 0] aNil (aCons (eVar 4) (aCons (eVar 5) (aCons (eVar 3) aNil)))))
  t_l_behind_right_2)
abbrev s_l_behind_right : Stmt := topS 48
theorem sc_l_behind_right : FnScope ["_law_purse_here", "_law_house_here", "_law_other", "_law_one", "_law_two", "_law_base", "_law_made_here", "_law_many", "_law_due", "_law_late", "_law_weight"] ["_law_purse_here", "_law_house_here", "_law_other"] (defScope s_l_behind_right) := ⟨rfl, rfl, rfl, by decide +kernel, rfl, by decide +kernel, by decide +kernel⟩
def b_l_behind_right : SV :=
  (sSeq (sTg (tgT [(tgN 3), (tgN 4), (tgN 5)]) (eTup (aCons (eCall B.q_l_made (aCons (eVar 1) aNil)) (aCons (eCall B.q_l_made (aCons (eVar 2) aNil)) (aCons (eBin addD (eC (.int 2)) (eCall B.q_l_draw (aCons (eVar 0) (aCons (eC (.int 59)) aNil)))) aNil)))))
  t_l_behind_right_1)
def q_l_behind_right : FV := runF 11 b_l_behind_right
def b_law_1 : SV :=
  (sIf (tOr (tNot (tOf (eCall q_l_two_right (aCons (eVar 1) (aCons (eVar 3) aNil))))) (tNot (tOf (eCall q_l_places_right (aCons (eVar 1) (aCons (eVar 3) aNil)))))) (sRet (eC (.bl false))) sNil)
def b_law_2 : SV :=
  (sSeq (sSet 2 (eLst (aCons (eCall B.q_l_house (aCons (eVar 1) (aCons (eBin addD (eC (.int 1)) (eCall B.q_l_draw (aCons (eVar 1) (aCons (eC (.int 4)) aNil)))) aNil))) (aCons (eCall B.q_l_house (aCons (eVar 1) (aCons (eBin addD (eC (.int 1)) (eCall B.q_l_draw (aCons (eVar 1) (aCons (eC (.int 4)) aNil)))) aNil))) aNil))))
  (sSeq (sFor (iSeq (eBin addD (eVar 2) (eLst (aCons (eCall B.q_l_great_house (aCons (eVar 1) aNil)) aNil)))) (tgN 3) b_law_1)
  (sIf (tOr (tNot (tOf (eCall q_l_behind_right (aCons (eVar 1) (aCons (eBin ixD (eVar 2) (eC (.int 0))) (aCons (eBin ixD (eVar 2) (eC (.int 1))) aNil)))))) (tNot (tOf (eCall q_l_behind_right (aCons (eVar 1) (aCons (eBin ixD (eVar 2) (eC (.int 1))) (aCons (eBin ixD (eVar 2) (eC (.int 0))) aNil))))))) (sRet (eC (.bl false))) sNil)))
abbrev s_law : Stmt := topS 49
theorem sc_law : FnScope ["_law_script", "_law_purse_here", "_law_houses", "_law_house_here"] ["_law_script"] (defScope s_law) := ⟨rfl, rfl, rfl, by decide +kernel, rfl, by decide +kernel, by decide +kernel⟩
def b_law : SV :=
  (sSeq (sFor (iSeq (eCall B.q_l_purses (aCons (eVar 0) (aCons (eC (.int 2)) aNil)))) (tgN 1) b_law_2)
  (sRet (eC (.bl true))))
def q_law : FV := runF 4 b_law
structure Lk (K : PySem.W.Frag) (mg : Str → Option Value) (T : Tab) : Prop where
  n_isinstance : mg "isinstance" = none
  n_int : mg "int" = none
  n_bool : mg "bool" = none
  n_list : mg "list" = none
  n_all : mg "all" = none
  n_len : mg "len" = none
  n_zip : mg "zip" = none
  n_min : mg "min" = none
  n_max : mg "max" = none
  n_sum : mg "sum" = none
  n_range : mg "range" = none
  n_tuple : mg "tuple" = none
  n_dict : mg "dict" = none
  n_enumerate : mg "enumerate" = none
  is_int : Isi T K (.type "int") (isTyD "int")
  is_bool : Isi T K (.type "bool") (isTyD "bool")
  is_list : Isi T K (.type "list") (isTyD "list")
  is_tuple : Isi T K (.type "tuple") (isTyD "tuple")
  is_dict : Isi T K (.type "dict") (isTyD "dict")
  ic_House : IsC K mg T "House" (isClD 0)
  fl_0_0 : Fld T K 0 0 "steps"
  fl_0_1 : Fld T K 0 1 "space"
  ln_0 : (T.flds 0).length < 1000
  it : InsTy T K
  d_is_whole : Df K mg "is_whole" "is_whole" s_is_whole ["value"] []
  d_is_count : DfD K mg T "is_count" "is_count" s_is_count ["value", "most"] [.non] []
  d_are_counts : Df K mg "are_counts" "are_counts" s_are_counts ["value"] []
  d_is_base : Df K mg "is_base" "is_base" s_is_base ["value"] []
  d_init_House : ClD K mg T "House" 0 "House.__init__" s_init_House ["self", "bases", "rooms"] []
  d_m_House_bases : MtD K T 0 "bases" "House.bases" s_m_House_bases ["self"]
  d_m_House_rooms : MtD K T 0 "rooms" "House.rooms" s_m_House_rooms ["self"]
  d_m_House_places : MtD K T 0 "places" "House.places" s_m_House_places ["self"]
  d_eq_House : EqDf K T 0 "House.__eq__" s_eq_House ["self", "other"]
  d_check_house : Df K mg "check_house" "check_house" s_check_house ["value"] []
  d_check_place : Df K mg "check_place" "check_place" s_check_place ["house", "value"] []
  d_check_low_place : Df K mg "check_low_place" "check_low_place" s_check_low_place ["house", "value"] []
  d_weights_of : Df K mg "weights_of" "weights_of" s_weights_of ["house"] []
  d_sums_up_to : Df K mg "sums_up_to" "sums_up_to" s_sums_up_to ["house", "row"] []
  d_rows_in : Df K mg "rows_in" "rows_in" s_rows_in ["house"] []
  d_weights : Df K mg "weights" "weights" s_weights ["house"] []
  d_held_up_to : Df K mg "held_up_to" "held_up_to" s_held_up_to ["house"] []
  d_many_rows : Df K mg "many_rows" "many_rows" s_many_rows ["house"] []
  d_is_within : Df K mg "is_within" "is_within" s_is_within ["one", "other"] [⟨0, ["other", "one"], [1, 0]⟩]
  d_check_alike : Df K mg "check_alike" "check_alike" s_check_alike ["one", "other"] []
  d_lesser_house : Df K mg "lesser_house" "lesser_house" s_lesser_house ["one", "other"] [⟨0, ["other", "one"], [1, 0]⟩]
  d_greater_house : Df K mg "greater_house" "greater_house" s_greater_house ["one", "other"] [⟨0, ["other", "one"], [1, 0]⟩]
  d_roomed : Df K mg "roomed" "roomed" s_roomed ["house", "place", "room"] []
  d_with_room : Df K mg "with_room" "with_room" s_with_room ["house", "place", "room"] [⟨0, ["room", "place", "house"], [2, 1, 0]⟩]
  d_stretch : Df K mg "stretch" "stretch" s_stretch ["house", "first", "last"] [⟨0, ["last", "first", "house"], [2, 1, 0]⟩]
  d_set_behind : Df K mg "set_behind" "set_behind" s_set_behind ["one", "base", "other"] [⟨0, ["other", "base", "one"], [2, 1, 0]⟩]
  d_tightened : Df K mg "tightened" "tightened" s_tightened ["house", "place"] [⟨0, ["place", "house"], [1, 0]⟩]
  d_l_purse : Df K mg "_law_purse" "_law_purse" s_l_purse ["_law_script", "_law_at"] []
  d_l_mixed : Df K mg "_law_mixed" "_law_mixed" s_l_mixed ["_law_seed", "_law_spin", "_law_at"] []
  d_l_draw : Df K mg "_law_draw" "_law_draw" s_l_draw ["_law_purse_here", "_law_many"] []
  d_l_purses : Df K mg "_law_purses" "_law_purses" s_l_purses ["_law_script", "_law_few"] []
  d_l_one_of : Df K mg "_law_one_of" "_law_one_of" s_l_one_of ["_law_purse_here", "_law_some"] []
  d_l_exact : Df K mg "_law_exact" "_law_exact" s_l_exact ["_law_mine", "_law_theirs"] []
  d_l_weights : Df K mg "_law_weights" "_law_weights" s_l_weights ["_law_house_here"] []
  d_l_many_rows : Df K mg "_law_many_rows" "_law_many_rows" s_l_many_rows ["_law_house_here"] []
  d_l_house : Df K mg "_law_house" "_law_house" s_l_house ["_law_purse_here", "_law_places"] []
  d_l_great_house : Df K mg "_law_great_house" "_law_great_house" s_l_great_house ["_law_purse_here"] []
  d_l_made : Df K mg "_law_made" "_law_made" s_l_made ["_law_house_here"] []
  d_l_told_of : Df K mg "_law_told_of" "_law_told_of" s_l_told_of ["_law_made_here"] []
  d_l_two_right : Df K mg "_law_two_right" "_law_two_right" s_l_two_right ["_law_purse_here", "_law_house_here"] []
  d_l_places_right : Df K mg "_law_places_right" "_law_places_right" s_l_places_right ["_law_purse_here", "_law_house_here"] []
  d_l_behind_right : Df K mg "_law_behind_right" "_law_behind_right" s_l_behind_right ["_law_purse_here", "_law_house_here", "_law_other"] []
  d_law : Df K mg "law" "law" s_law ["_law_script"] []
section
variable {P : Program} {w : World} {K : PySem.W.Frag} {mg : Str → Option Value} {base : Heap} {T : Tab}
theorem k_is_whole (L : Lk K mg T) : Fn P w K mg base CX0 T "is_whole" 1 ["value"] B.q_is_whole [] := L.d_is_whole.fn (k := 0) sc_is_whole fun f cdv A outer s H E hr => by
    have S := sc_is_whole
    unfold B.b_is_whole
    exact (xs_one (s_ret (x_and (y_isiTy L.is_int L.n_isinstance L.n_int bt_int (x_var (i := 0) rfl (.inl rfl))) (x_one (x_not (y_isiTy L.is_bool L.n_isinstance L.n_bool bt_bool (x_var (i := 0) rfl (.inl rfl))))))))
theorem k_is_count_ (L : Lk K mg T) : Fn P w K mg base CX0 T "is_count" 2 ["value", "most"] B.q_is_count [] ∧ FnD P w K mg base CX0 T "is_count" 2 ["value", "most"] B.q_is_count [.non] := L.d_is_count.ok (k := 1) sc_is_count fun f cdv A outer s H E hr => by
    have S := sc_is_count
    unfold B.b_is_count
    exact (xs_cons (s_if (PW.pt (xw_or (xt_not (xt_val (x_call ((k_is_whole L).mono (by decide)) hr (by rfl) pass0E (xa_cons (x_var (i := 0) rfl (.inl rfl)) xa_nil) rfl (LaA.nil.cons)))) (xw_or1 (xt_cmp op_lt cmpD_ok (x_var (i := 0) rfl (.inl rfl)) x_int (nomark _))))) (xs_one (s_ret x_bl)) xs_nil)
  (xs_one (s_ret (x_or (x_cmp op_isA isD_ok (x_var (i := 1) rfl (.inl rfl)) x_non (nomark _)) (x_one (x_cmp op_le cmpD_ok (x_var (i := 0) rfl (.inl rfl)) (x_var (i := 1) rfl (.inl rfl)) (nomark _)))))))
theorem k_is_count (L : Lk K mg T) : Fn P w K mg base CX0 T "is_count" 2 ["value", "most"] B.q_is_count [] := (k_is_count_ L).1
theorem k_is_countD (L : Lk K mg T) : FnD P w K mg base CX0 T "is_count" 2 ["value", "most"] B.q_is_count [.non] := (k_is_count_ L).2
theorem k_are_counts (L : Lk K mg T) : Fn P w K mg base CX0 T "are_counts" 3 ["value"] B.q_are_counts [] := L.d_are_counts.fn (k := 2) sc_are_counts fun f cdv A outer s H E hr => by
    have S := sc_are_counts
    unfold B.b_are_counts
    exact (xs_one (s_ret (x_and (y_isiTy L.is_list L.n_isinstance L.n_list bt_list (x_var (i := 0) rfl (.inl rfl))) (x_one (y_all L.n_all (xa_cons (x_lc (own := [("late", 1)]) rfl S.nd (xi_seq (x_var (i := 0) rfl (.inl rfl))) (blkOk_by (by kernel_rfl)) tgN_ok (by decide) (fun _ _ _ _ _ => (pg_name (i := 1) S.nd rfl (.inl rfl))) (fun _ _ _ _ _ => pts_yes) (fun _ _ _ _ _ => (x_callD ((k_is_countD L).mono (by decide)) hr (by rfl) pass0E (xa_cons (x_var (i := 1) rfl (.inl rfl)) xa_nil) rfl (LaA.nil.cons)))) xa_nil))))))
theorem k_is_base (L : Lk K mg T) : Fn P w K mg base CX0 T "is_base" 2 ["value"] B.q_is_base [] := L.d_is_base.fn (k := 1) sc_is_base fun f cdv A outer s H E hr => by
    have S := sc_is_base
    unfold B.b_is_base
    exact (xs_one (s_ret (x_and (x_call ((k_is_whole L).mono (by decide)) hr (by rfl) pass0E (xa_cons (x_var (i := 0) rfl (.inl rfl)) xa_nil) rfl (LaA.nil.cons)) (x_one (x_cmp op_gt cmpD_ok (x_var (i := 0) rfl (.inl rfl)) x_int (nomark _))))))
theorem k_init_House (L : Lk K mg T) : Mkr P w K mg base CX0 T "House" 0 4 ["self", "bases", "rooms"] B.q_init_House [] := L.d_init_House.mk' (k := 3) sc_init_House fun f cdv A outer s H E hr => by
    have S := sc_init_House
    unfold B.b_init_House
    exact (xs_cons (s_if (PW.pt (xw_or (xt_not (xt_val (y_isiTy L.is_list L.n_isinstance L.n_list bt_list (x_var (i := 1) rfl (.inl rfl))))) (xw_or1 (xt_not (xt_val (y_all L.n_all (xa_cons (x_lc (own := [("base", 3)]) rfl S.nd (xi_seq (x_var (i := 1) rfl (.inl rfl))) (blkOk_by (by kernel_rfl)) tgN_ok (by decide) (fun _ _ _ _ _ => (pg_name (i := 3) S.nd rfl (.inl rfl))) (fun _ _ _ _ _ => pts_yes) (fun _ _ _ _ _ => (x_call ((k_is_base L).mono (by decide)) hr (by rfl) pass0E (xa_cons (x_var (i := 3) rfl (.inl rfl)) xa_nil) rfl (LaA.nil.cons)))) xa_nil))))))) (xs_one xs_bad) xs_nil)
  (xs_cons (s_if (PW.pt (xw_or (xt_not (xt_val (x_call ((k_are_counts L).mono (by decide)) hr (by rfl) pass0E (xa_cons (x_var (i := 2) rfl (.inl rfl)) xa_nil) rfl (LaA.nil.cons)))) (xw_or1 (xt_cmp (op_neD hr.units) neD_ok (y_len L.n_len (xa_cons (x_var (i := 2) rfl (.inl rfl)) xa_nil)) (x_bin op_addA addD_ok (y_len L.n_len (xa_cons (x_var (i := 1) rfl (.inl rfl)) xa_nil)) x_int) (nomark _))))) (xs_one xs_bad) xs_nil)
  (xs_cons (s_fld L.fl_0_0 L.ln_0 (x_var (i := 0) rfl (.inl rfl)) (y_list L.n_list (xa_cons (x_var (i := 1) rfl (.inl rfl)) xa_nil)) (by rfl))
  (xs_one (s_fld L.fl_0_1 L.ln_0 (x_var (i := 0) rfl (.inl rfl)) (y_list L.n_list (xa_cons (x_var (i := 2) rfl (.inl rfl)) xa_nil)) (by rfl))))))
theorem k_m_House_bases (L : Lk K mg T) : Mth P w K mg base CX0 T 0 "bases" 1 ["self"] B.q_m_House_bases := L.d_m_House_bases.mth (k := 0) sc_m_House_bases fun f cdv A outer s H E hr => by
    have S := sc_m_House_bases
    unfold B.b_m_House_bases
    exact (xs_one (s_ret (y_list L.n_list (xa_cons (x_fld L.fl_0_0 (x_var (i := 0) rfl (.inl rfl)) (by rfl)) xa_nil))))
theorem k_m_House_rooms (L : Lk K mg T) : Mth P w K mg base CX0 T 0 "rooms" 1 ["self"] B.q_m_House_rooms := L.d_m_House_rooms.mth (k := 0) sc_m_House_rooms fun f cdv A outer s H E hr => by
    have S := sc_m_House_rooms
    unfold B.b_m_House_rooms
    exact (xs_one (s_ret (y_list L.n_list (xa_cons (x_fld L.fl_0_1 (x_var (i := 0) rfl (.inl rfl)) (by rfl)) xa_nil))))
theorem k_m_House_places (L : Lk K mg T) : Mth P w K mg base CX0 T 0 "places" 1 ["self"] B.q_m_House_places := L.d_m_House_places.mth (k := 0) sc_m_House_places fun f cdv A outer s H E hr => by
    have S := sc_m_House_places
    unfold B.b_m_House_places
    exact (xs_one (s_ret (y_len L.n_len (xa_cons (x_fld L.fl_0_1 (x_var (i := 0) rfl (.inl rfl)) (by rfl)) xa_nil))))
theorem k_eq_House (L : Lk K mg T) : EqC P w K mg base CX0 T 0 1 B.q_eq_House := L.d_eq_House.eqc (k := 0) sc_eq_House fun f cdv A outer s H E hr => by
    have S := sc_eq_House
    unfold B.b_eq_House
    exact (xs_one (s_ret (x_and (y_isiCl L.ic_House L.n_isinstance (x_var (i := 1) rfl (.inl rfl))) (x_and (x_cmp (op_eqD hr.units) eqD_ok (x_fld L.fl_0_0 (x_var (i := 0) rfl (.inl rfl)) (by rfl)) (x_fld L.fl_0_0 (x_var (i := 1) rfl (.inl rfl)) (by rfl)) (nomark _)) (x_one (x_cmp (op_eqD hr.units) eqD_ok (x_fld L.fl_0_1 (x_var (i := 0) rfl (.inl rfl)) (by rfl)) (x_fld L.fl_0_1 (x_var (i := 1) rfl (.inl rfl)) (by rfl)) (nomark _)))))))
theorem k_check_house (L : Lk K mg T) : Fn P w K mg base CX0 T "check_house" 1 ["value"] B.q_check_house [] := L.d_check_house.fn (k := 0) sc_check_house fun f cdv A outer s H E hr => by
    have S := sc_check_house
    unfold B.b_check_house
    exact (xs_one (s_if (xt_not (xt_val (y_isiCl L.ic_House L.n_isinstance (x_var (i := 0) rfl (.inl rfl))))) (xs_one xs_bad) xs_nil))
theorem k_check_place (L : Lk K mg T) : Fn P w K mg base CX0 T "check_place" 3 ["house", "value"] q_check_place [] := L.d_check_place.fn (k := 2) sc_check_place fun f cdv A outer s H E hr => by
    have S := sc_check_place
    unfold b_check_place
    exact (xs_one (s_if (PW.pt (xw_or (xt_not (xt_val (x_callD ((k_is_countD L).mono (by decide)) hr (by rfl) pass0E (xa_cons (x_var (i := 1) rfl (.inl rfl)) xa_nil) rfl (LaA.nil.cons)))) (xw_or1 (xt_cmp op_ge cmpD_ok (x_var (i := 1) rfl (.inl rfl)) (y_len L.n_len (xa_cons (x_fld L.fl_0_1 (x_var (i := 0) rfl (.inl rfl)) (by rfl)) xa_nil)) (nomark _))))) (xs_one xs_bad) xs_nil))
theorem k_check_low_place (L : Lk K mg T) : Fn P w K mg base CX0 T "check_low_place" 3 ["house", "value"] q_check_low_place [] := L.d_check_low_place.fn (k := 2) sc_check_low_place fun f cdv A outer s H E hr => by
    have S := sc_check_low_place
    unfold b_check_low_place
    exact (xs_one (s_if (PW.pt (xw_or (xt_not (xt_val (x_callD ((k_is_countD L).mono (by decide)) hr (by rfl) pass0E (xa_cons (x_var (i := 1) rfl (.inl rfl)) xa_nil) rfl (LaA.nil.cons)))) (xw_or1 (xt_cmp op_ge cmpD_ok (x_var (i := 1) rfl (.inl rfl)) (y_len L.n_len (xa_cons (x_fld L.fl_0_0 (x_var (i := 0) rfl (.inl rfl)) (by rfl)) xa_nil)) (nomark _))))) (xs_one xs_bad) xs_nil))
theorem k_weights_of (L : Lk K mg T) : Fn P w K mg base CX0 T "weights_of" 1 ["house"] B.q_weights_of [] := L.d_weights_of.fn (k := 0) sc_weights_of fun f cdv A outer s H E hr => by
    have S := sc_weights_of
    unfold B.b_weights_of
    exact (xs_cons (s_set (i := 1) S.nd rfl (.inl rfl) (x_lst (xa_cons x_int xa_nil)))
  (xs_cons (s_for PassesOwn.never rfl (xi_seq (x_fld L.fl_0_0 (x_var (i := 0) rfl (.inl rfl)) (by rfl))) (pg_name (i := 2) S.nd rfl (.inl rfl)) tgN_ok (xs_one (s_expr (y_append (x_var (i := 1) rfl (.inl rfl)) (xa_cons (x_bin op_mulA mulD_ok (x_ix (x_var (i := 1) rfl (.inl rfl)) (x_un un_neg negD_ok x_int) (fun _ _ => rfl)) (x_var (i := 2) rfl (.inl rfl))) xa_nil)))))
  (xs_one (s_ret (x_var (i := 1) rfl (.inl rfl))))))
theorem k_sums_up_to (L : Lk K mg T) : Fn P w K mg base CX0 T "sums_up_to" 2 ["house", "row"] B.q_sums_up_to [] := L.d_sums_up_to.fn (k := 1) sc_sums_up_to fun f cdv A outer s H E hr => by
    have S := sc_sums_up_to
    unfold B.b_sums_up_to
    exact (xs_cons (s_par (i := 2) (j := 3) rfl S.nd rfl rfl (by decide) rfl rfl (xa_cons (x_lst xa_nil) (xa_cons x_int xa_nil)) (by rfl))
  (xs_cons (s_for PassesOwn.never rfl (xi_zip (by rfl) L.n_zip (xa_cons (x_var (i := 1) rfl (.inl rfl)) (xa_cons (x_call ((k_weights_of L).mono (by decide)) hr (by rfl) pass0E (xa_cons (x_var (i := 0) rfl (.inl rfl)) xa_nil) rfl (LaA.nil.cons)) xa_nil))) (pg_tup rfl (pgs_cons (pg_name (i := 4) S.nd rfl (.inl rfl)) (pgs_cons (pg_name (i := 5) S.nd rfl (.inl rfl)) pgs_nil))) (tgT_ok (tgs_cons tgN_ok (tgs_cons tgN_ok tgs_nil)) rfl) (xs_cons (s_aug (i := 3) S.nd rfl (.inl rfl) (x_bin op_mulA mulD_ok (x_var (i := 4) rfl (.inl rfl)) (x_var (i := 5) rfl (.inl rfl))) iop_add iaddD_ok)
  (xs_one (s_expr (y_append (x_var (i := 2) rfl (.inl rfl)) (xa_cons (x_var (i := 3) rfl (.inl rfl)) xa_nil))))))
  (xs_one (s_ret (x_var (i := 2) rfl (.inl rfl))))))
theorem k_rows_in (L : Lk K mg T) : Fn P w K mg base CX0 T "rows_in" 1 ["house"] B.q_rows_in [] := L.d_rows_in.fn (k := 0) sc_rows_in fun f cdv A outer s H E hr => by
    have S := sc_rows_in
    unfold B.b_rows_in
    exact (xs_cons (s_set (i := 1) S.nd rfl (.inl rfl) x_int)
  (xs_cons (s_for PassesOwn.never rfl (xi_seq (x_fld L.fl_0_1 (x_var (i := 0) rfl (.inl rfl)) (by rfl))) (pg_name (i := 2) S.nd rfl (.inl rfl)) tgN_ok (xs_one (s_aug (i := 1) S.nd rfl (.inl rfl) (x_bin op_addA addD_ok (x_var (i := 2) rfl (.inl rfl)) x_int) iop_mulX imulD_ok)))
  (xs_one (s_ret (x_var (i := 1) rfl (.inl rfl))))))
theorem k_weights (L : Lk K mg T) : Fn P w K mg base CX0 T "weights" 2 ["house"] B.q_weights [] := L.d_weights.fn (k := 1) sc_weights fun f cdv A outer s H E hr => by
    have S := sc_weights
    unfold B.b_weights
    exact (xs_cons (s_expr (x_call ((k_check_house L).mono (by decide)) hr (by rfl) pass0E (xa_cons (x_var (i := 0) rfl (.inl rfl)) xa_nil) rfl (LaA.nil.cons)))
  (xs_one (s_ret (x_call ((k_weights_of L).mono (by decide)) hr (by rfl) pass0E (xa_cons (x_var (i := 0) rfl (.inl rfl)) xa_nil) rfl (LaA.nil.cons)))))
theorem k_held_up_to (L : Lk K mg T) : Fn P w K mg base CX0 T "held_up_to" 3 ["house"] B.q_held_up_to [] := L.d_held_up_to.fn (k := 2) sc_held_up_to fun f cdv A outer s H E hr => by
    have S := sc_held_up_to
    unfold B.b_held_up_to
    exact (xs_cons (s_expr (x_call ((k_check_house L).mono (by decide)) hr (by rfl) pass0E (xa_cons (x_var (i := 0) rfl (.inl rfl)) xa_nil) rfl (LaA.nil.cons)))
  (xs_one (s_ret (x_call ((k_sums_up_to L).mono (by decide)) hr (by rfl) pass0E (xa_cons (x_var (i := 0) rfl (.inl rfl)) (xa_cons (x_fld L.fl_0_1 (x_var (i := 0) rfl (.inl rfl)) (by rfl)) xa_nil)) rfl (LaA.nil.cons.cons)))))
theorem k_many_rows (L : Lk K mg T) : Fn P w K mg base CX0 T "many_rows" 2 ["house"] B.q_many_rows [] := L.d_many_rows.fn (k := 1) sc_many_rows fun f cdv A outer s H E hr => by
    have S := sc_many_rows
    unfold B.b_many_rows
    exact (xs_cons (s_expr (x_call ((k_check_house L).mono (by decide)) hr (by rfl) pass0E (xa_cons (x_var (i := 0) rfl (.inl rfl)) xa_nil) rfl (LaA.nil.cons)))
  (xs_one (s_ret (x_call ((k_rows_in L).mono (by decide)) hr (by rfl) pass0E (xa_cons (x_var (i := 0) rfl (.inl rfl)) xa_nil) rfl (LaA.nil.cons)))))
theorem k_is_within (L : Lk K mg T) : Fn P w K mg base CX0 T "is_within" 2 ["one", "other"] q_is_within [⟨0, ["other", "one"], [1, 0]⟩] := L.d_is_within.fn (k := 1) sc_is_within fun f cdv A outer s H E hr => by
    have S := sc_is_within
    unfold b_is_within
    exact (xs_cons (s_expr (x_call ((k_check_house L).mono (by decide)) hr (by rfl) pass0E (xa_cons (x_var (i := 0) rfl (.inl rfl)) xa_nil) rfl (LaA.nil.cons)))
  (xs_cons (s_expr (x_call ((k_check_house L).mono (by decide)) hr (by rfl) pass0E (xa_cons (x_var (i := 1) rfl (.inl rfl)) xa_nil) rfl (LaA.nil.cons)))
  (xs_one (s_ret (x_and (x_cmp (op_eqD hr.units) eqD_ok (x_fld L.fl_0_0 (x_var (i := 0) rfl (.inl rfl)) (by rfl)) (x_fld L.fl_0_0 (x_var (i := 1) rfl (.inl rfl)) (by rfl)) (nomark _)) (x_one (y_all L.n_all (xa_cons (x_lc (own := [("less", 2), ("more", 3)]) rfl S.nd (xi_zip (by rfl) L.n_zip (xa_cons (x_fld L.fl_0_1 (x_var (i := 0) rfl (.inl rfl)) (by rfl)) (xa_cons (x_fld L.fl_0_1 (x_var (i := 1) rfl (.inl rfl)) (by rfl)) xa_nil))) (blkOk_by (by kernel_rfl)) (tgT_ok (tgs_cons tgN_ok (tgs_cons tgN_ok tgs_nil)) rfl) (by decide) (fun _ _ _ _ _ => (pg_tup rfl (pgs_cons (pg_name (i := 2) S.nd rfl (.inl rfl)) (pgs_cons (pg_name (i := 3) S.nd rfl (.inl rfl)) pgs_nil)))) (fun _ _ _ _ _ => pts_yes) (fun _ _ _ _ _ => (x_cmp op_le cmpD_ok (x_var (i := 2) rfl (.inl rfl)) (x_var (i := 3) rfl (.inl rfl)) (nomark _)))) xa_nil))))))))
theorem k_check_alike (L : Lk K mg T) : Fn P w K mg base CX0 T "check_alike" 2 ["one", "other"] q_check_alike [] := L.d_check_alike.fn (k := 1) sc_check_alike fun f cdv A outer s H E hr => by
    have S := sc_check_alike
    unfold b_check_alike
    exact (xs_cons (s_expr (x_call ((k_check_house L).mono (by decide)) hr (by rfl) pass0E (xa_cons (x_var (i := 0) rfl (.inl rfl)) xa_nil) rfl (LaA.nil.cons)))
  (xs_cons (s_expr (x_call ((k_check_house L).mono (by decide)) hr (by rfl) pass0E (xa_cons (x_var (i := 1) rfl (.inl rfl)) xa_nil) rfl (LaA.nil.cons)))
  (xs_one (s_if (xt_cmp (op_neD hr.units) neD_ok (x_fld L.fl_0_0 (x_var (i := 0) rfl (.inl rfl)) (by rfl)) (x_fld L.fl_0_0 (x_var (i := 1) rfl (.inl rfl)) (by rfl)) (nomark _)) (xs_one xs_bad) xs_nil))))
theorem k_lesser_house (L : Lk K mg T) : Fn P w K mg base CX0 T "lesser_house" 6 ["one", "other"] q_lesser_house [⟨0, ["other", "one"], [1, 0]⟩] := L.d_lesser_house.fn (k := 5) sc_lesser_house fun f cdv A outer s H E hr => by
    have S := sc_lesser_house
    unfold b_lesser_house
    exact (xs_cons (s_expr (x_call ((k_check_alike L).mono (by decide)) hr (by rfl) pass0E (xa_cons (x_var (i := 0) rfl (.inl rfl)) (xa_cons (x_var (i := 1) rfl (.inl rfl)) xa_nil)) rfl (LaA.nil.cons.cons)))
  (xs_one (s_ret (x_make ((k_init_House L).mono (by decide)) hr (by rfl) pass0E (xa_cons (x_fld L.fl_0_0 (x_var (i := 0) rfl (.inl rfl)) (by rfl)) (xa_cons (x_lc (own := [("pair", 2)]) rfl S.nd (xi_zipN (by rfl) L.n_zip (xa_cons (x_fld L.fl_0_1 (x_var (i := 0) rfl (.inl rfl)) (by rfl)) (xa_cons (x_fld L.fl_0_1 (x_var (i := 1) rfl (.inl rfl)) (by rfl)) xa_nil))) (blkOk_by (by kernel_rfl)) tgN_ok (by decide) (fun _ _ _ _ _ => (pg_name (i := 2) S.nd rfl (.inl rfl))) (fun _ _ _ _ _ => pts_yes) (fun _ _ _ _ _ => (y_min L.n_min (xa_cons (x_var (i := 2) rfl (.inl rfl)) xa_nil)))) xa_nil)) rfl (LaA.nil.cons.cons)))))
theorem k_greater_house (L : Lk K mg T) : Fn P w K mg base CX0 T "greater_house" 6 ["one", "other"] q_greater_house [⟨0, ["other", "one"], [1, 0]⟩] := L.d_greater_house.fn (k := 5) sc_greater_house fun f cdv A outer s H E hr => by
    have S := sc_greater_house
    unfold b_greater_house
    exact (xs_cons (s_expr (x_call ((k_check_alike L).mono (by decide)) hr (by rfl) pass0E (xa_cons (x_var (i := 0) rfl (.inl rfl)) (xa_cons (x_var (i := 1) rfl (.inl rfl)) xa_nil)) rfl (LaA.nil.cons.cons)))
  (xs_one (s_ret (x_make ((k_init_House L).mono (by decide)) hr (by rfl) pass0E (xa_cons (x_fld L.fl_0_0 (x_var (i := 0) rfl (.inl rfl)) (by rfl)) (xa_cons (x_lc (own := [("pair", 2)]) rfl S.nd (xi_zipN (by rfl) L.n_zip (xa_cons (x_fld L.fl_0_1 (x_var (i := 0) rfl (.inl rfl)) (by rfl)) (xa_cons (x_fld L.fl_0_1 (x_var (i := 1) rfl (.inl rfl)) (by rfl)) xa_nil))) (blkOk_by (by kernel_rfl)) tgN_ok (by decide) (fun _ _ _ _ _ => (pg_name (i := 2) S.nd rfl (.inl rfl))) (fun _ _ _ _ _ => pts_yes) (fun _ _ _ _ _ => (y_max L.n_max (xa_cons (x_var (i := 2) rfl (.inl rfl)) xa_nil)))) xa_nil)) rfl (LaA.nil.cons.cons)))))
theorem k_roomed (L : Lk K mg T) : Fn P w K mg base CX0 T "roomed" 6 ["house", "place", "room"] q_roomed [] := L.d_roomed.fn (k := 5) sc_roomed fun f cdv A outer s H E hr => by
    have S := sc_roomed
    unfold b_roomed
    exact (xs_one (s_ret (x_make ((k_init_House L).mono (by decide)) hr (by rfl) pass0E (xa_cons (x_fld L.fl_0_0 (x_var (i := 0) rfl (.inl rfl)) (by rfl)) (xa_cons (x_lst (xa_star (x_sl (x_fld L.fl_0_1 (x_var (i := 0) rfl (.inl rfl)) (by rfl)) xo_none (xo_some (x_var (i := 1) rfl (.inl rfl)))) (xa_cons (x_var (i := 2) rfl (.inl rfl)) (xa_star (x_sl (x_fld L.fl_0_1 (x_var (i := 0) rfl (.inl rfl)) (by rfl)) (xo_some (x_bin op_addA addD_ok (x_var (i := 1) rfl (.inl rfl)) x_int)) xo_none) xa_nil)))) xa_nil)) rfl (LaA.nil.cons.cons))))
theorem k_with_room (L : Lk K mg T) : Fn P w K mg base CX0 T "with_room" 7 ["house", "place", "room"] q_with_room [⟨0, ["room", "place", "house"], [2, 1, 0]⟩] := L.d_with_room.fn (k := 6) sc_with_room fun f cdv A outer s H E hr => by
    have S := sc_with_room
    unfold b_with_room
    exact (xs_cons (s_expr (x_call ((k_check_house L).mono (by decide)) hr (by rfl) pass0E (xa_cons (x_var (i := 0) rfl (.inl rfl)) xa_nil) rfl (LaA.nil.cons)))
  (xs_cons (s_expr (x_call ((k_check_place L).mono (by decide)) hr (by rfl) pass0E (xa_cons (x_var (i := 0) rfl (.inl rfl)) (xa_cons (x_var (i := 1) rfl (.inl rfl)) xa_nil)) rfl (LaA.nil.cons.cons)))
  (xs_cons (s_if (xt_not (xt_val (x_callD ((k_is_countD L).mono (by decide)) hr (by rfl) pass0E (xa_cons (x_var (i := 2) rfl (.inl rfl)) xa_nil) rfl (LaA.nil.cons)))) (xs_one xs_bad) xs_nil)
  (xs_one (s_ret (x_call ((k_roomed L).mono (by decide)) hr (by rfl) pass0E (xa_cons (x_var (i := 0) rfl (.inl rfl)) (xa_cons (x_var (i := 1) rfl (.inl rfl)) (xa_cons (x_var (i := 2) rfl (.inl rfl)) xa_nil))) rfl (LaA.nil.cons.cons.cons)))))))
theorem k_stretch (L : Lk K mg T) : Fn P w K mg base CX0 T "stretch" 6 ["house", "first", "last"] q_stretch [⟨0, ["last", "first", "house"], [2, 1, 0]⟩] := L.d_stretch.fn (k := 5) sc_stretch fun f cdv A outer s H E hr => by
    have S := sc_stretch
    unfold b_stretch
    exact (xs_cons (s_expr (x_call ((k_check_house L).mono (by decide)) hr (by rfl) pass0E (xa_cons (x_var (i := 0) rfl (.inl rfl)) xa_nil) rfl (LaA.nil.cons)))
  (xs_cons (s_expr (x_call ((k_check_place L).mono (by decide)) hr (by rfl) pass0E (xa_cons (x_var (i := 0) rfl (.inl rfl)) (xa_cons (x_var (i := 1) rfl (.inl rfl)) xa_nil)) rfl (LaA.nil.cons.cons)))
  (xs_cons (s_expr (x_call ((k_check_place L).mono (by decide)) hr (by rfl) pass0E (xa_cons (x_var (i := 0) rfl (.inl rfl)) (xa_cons (x_var (i := 2) rfl (.inl rfl)) xa_nil)) rfl (LaA.nil.cons.cons)))
  (xs_cons (s_if (xt_cmp op_lt cmpD_ok (x_var (i := 2) rfl (.inl rfl)) (x_var (i := 1) rfl (.inl rfl)) (nomark _)) (xs_one xs_bad) xs_nil)
  (xs_one (s_ret (x_make ((k_init_House L).mono (by decide)) hr (by rfl) pass0E (xa_cons (x_sl (x_fld L.fl_0_0 (x_var (i := 0) rfl (.inl rfl)) (by rfl)) (xo_some (x_var (i := 1) rfl (.inl rfl))) (xo_some (x_var (i := 2) rfl (.inl rfl)))) (xa_cons (x_sl (x_fld L.fl_0_1 (x_var (i := 0) rfl (.inl rfl)) (by rfl)) (xo_some (x_var (i := 1) rfl (.inl rfl))) (xo_some (x_bin op_addA addD_ok (x_var (i := 2) rfl (.inl rfl)) x_int))) xa_nil)) rfl (LaA.nil.cons.cons))))))))
theorem k_set_behind (L : Lk K mg T) : Fn P w K mg base CX0 T "set_behind" 6 ["one", "base", "other"] q_set_behind [⟨0, ["other", "base", "one"], [2, 1, 0]⟩] := L.d_set_behind.fn (k := 5) sc_set_behind fun f cdv A outer s H E hr => by
    have S := sc_set_behind
    unfold b_set_behind
    exact (xs_cons (s_expr (x_call ((k_check_house L).mono (by decide)) hr (by rfl) pass0E (xa_cons (x_var (i := 0) rfl (.inl rfl)) xa_nil) rfl (LaA.nil.cons)))
  (xs_cons (s_if (xt_not (xt_val (x_call ((k_is_base L).mono (by decide)) hr (by rfl) pass0E (xa_cons (x_var (i := 1) rfl (.inl rfl)) xa_nil) rfl (LaA.nil.cons)))) (xs_one xs_bad) xs_nil)
  (xs_cons (s_expr (x_call ((k_check_house L).mono (by decide)) hr (by rfl) pass0E (xa_cons (x_var (i := 2) rfl (.inl rfl)) xa_nil) rfl (LaA.nil.cons)))
  (xs_one (s_ret (x_make ((k_init_House L).mono (by decide)) hr (by rfl) pass0E (xa_cons (x_lst (xa_star (x_fld L.fl_0_0 (x_var (i := 0) rfl (.inl rfl)) (by rfl)) (xa_cons (x_var (i := 1) rfl (.inl rfl)) (xa_star (x_fld L.fl_0_0 (x_var (i := 2) rfl (.inl rfl)) (by rfl)) xa_nil)))) (xa_cons (x_lst (xa_star (x_fld L.fl_0_1 (x_var (i := 0) rfl (.inl rfl)) (by rfl)) (xa_star (x_fld L.fl_0_1 (x_var (i := 2) rfl (.inl rfl)) (by rfl)) xa_nil))) xa_nil)) rfl (LaA.nil.cons.cons)))))))
theorem k_tightened (L : Lk K mg T) : Fn P w K mg base CX0 T "tightened" 7 ["house", "place"] q_tightened [⟨0, ["place", "house"], [1, 0]⟩] := L.d_tightened.fn (k := 6) sc_tightened fun f cdv A outer s H E hr => by
    have S := sc_tightened
    unfold b_tightened
    exact (xs_cons (s_expr (x_call ((k_check_house L).mono (by decide)) hr (by rfl) pass0E (xa_cons (x_var (i := 0) rfl (.inl rfl)) xa_nil) rfl (LaA.nil.cons)))
  (xs_cons (s_expr (x_call ((k_check_low_place L).mono (by decide)) hr (by rfl) pass0E (xa_cons (x_var (i := 0) rfl (.inl rfl)) (xa_cons (x_var (i := 1) rfl (.inl rfl)) xa_nil)) rfl (LaA.nil.cons.cons)))
  (xs_one (s_ret (x_call ((k_roomed L).mono (by decide)) hr (by rfl) pass0E (xa_cons (x_var (i := 0) rfl (.inl rfl)) (xa_cons (x_var (i := 1) rfl (.inl rfl)) (xa_cons (y_min L.n_min (xa_cons (x_ix (x_fld L.fl_0_1 (x_var (i := 0) rfl (.inl rfl)) (by rfl)) (x_var (i := 1) rfl (.inl rfl)) (fun _ _ => rfl)) (xa_cons (x_bin op_sub subD_ok (x_ix (x_fld L.fl_0_0 (x_var (i := 0) rfl (.inl rfl)) (by rfl)) (x_var (i := 1) rfl (.inl rfl)) (fun _ _ => rfl)) x_int) xa_nil))) xa_nil))) rfl (LaA.nil.cons.cons.cons))))))
theorem k_l_purse (L : Lk K mg T) : Fn P w K mg base CX0 T "_law_purse" 1 ["_law_script", "_law_at"] B.q_l_purse [] := L.d_l_purse.fn (k := 0) sc_l_purse fun f cdv A outer s H E hr => by
    have S := sc_l_purse
    unfold B.b_l_purse
    exact (xs_cons (s_set (i := 2) S.nd rfl (.inl rfl) (y_sum L.n_sum (xa_cons (x_sl (x_var (i := 0) rfl (.inl rfl)) (xo_some (x_var (i := 1) rfl (.inl rfl))) (xo_some (x_bin op_addA addD_ok (x_var (i := 1) rfl (.inl rfl)) x_int))) xa_nil)))
  (xs_one (s_ret (x_lst (xa_cons (x_bin op_mod modD_ok (y_int L.n_int (xa_cons (y_max L.n_max (xa_cons (x_bin op_sub subD_ok (x_var (i := 2) rfl (.inl rfl)) (x_bin op_powX powD_ok x_int x_int)) (xa_cons x_int xa_nil))) xa_nil)) (x_bin op_powX powD_ok (x_bin op_powX powD_ok x_int x_int) x_int)) (xa_cons (x_bin op_mod modD_ok (y_int L.n_int (xa_cons (x_var (i := 2) rfl (.inl rfl)) xa_nil)) x_int) (xa_cons x_int (xa_cons (x_var (i := 1) rfl (.inl rfl)) xa_nil))))))))
theorem k_l_mixed (L : Lk K mg T) : Fn P w K mg base CX0 T "_law_mixed" 1 ["_law_seed", "_law_spin", "_law_at"] B.q_l_mixed [] := L.d_l_mixed.fn (k := 0) sc_l_mixed fun f cdv A outer s H E hr => by
    have S := sc_l_mixed
    unfold B.b_l_mixed
    exact (xs_cons (s_set (i := 3) S.nd rfl (.inl rfl) (x_bin op_addA addD_ok (x_bin op_mulA mulD_ok (x_var (i := 0) rfl (.inl rfl)) x_int) (x_bin op_mulA mulD_ok (x_bin op_mulA mulD_ok x_int (x_var (i := 1) rfl (.inl rfl))) (x_var (i := 1) rfl (.inl rfl)))))
  (xs_cons (s_set (i := 3) S.nd rfl (.inl rfl) (x_bin op_mod modD_ok (y_int L.n_int (xa_cons (x_bin op_addA addD_ok (x_bin op_addA addD_ok (x_var (i := 3) rfl (.inl rfl)) (x_bin op_mulA mulD_ok x_int (x_var (i := 2) rfl (.inl rfl)))) (x_var (i := 1) rfl (.inl rfl))) xa_nil)) x_int))
  (xs_cons (s_set (i := 3) S.nd rfl (.inl rfl) (x_bin op_mod modD_ok (y_int L.n_int (xa_cons (x_bin op_addA addD_ok (x_bin op_mulA mulD_ok (x_var (i := 3) rfl (.inl rfl)) (x_var (i := 3) rfl (.inl rfl))) x_int) xa_nil)) x_int))
  (xs_one (s_ret (x_bin op_mod modD_ok (y_int L.n_int (xa_cons (x_bin op_mulA mulD_ok (x_var (i := 3) rfl (.inl rfl)) x_int) xa_nil)) x_int))))))
theorem k_l_draw (L : Lk K mg T) : Fn P w K mg base CX0 T "_law_draw" 2 ["_law_purse_here", "_law_many"] B.q_l_draw [] := L.d_l_draw.fn (k := 1) sc_l_draw fun f cdv A outer s H E hr => by
    have S := sc_l_draw
    unfold B.b_l_draw
    exact (xs_cons (s_if (xt_cmp op_gt cmpD_ok (x_ix (x_var (i := 0) rfl (.inl rfl)) x_int (fun _ _ => rfl)) x_int (nomark _)) (xs_cons (s_set (i := 2) S.nd rfl (.inl rfl) (x_bin op_mod modD_ok (y_int L.n_int (xa_cons (x_ix (x_var (i := 0) rfl (.inl rfl)) x_int (fun _ _ => rfl)) xa_nil)) (x_var (i := 1) rfl (.inl rfl))))
  (xs_cons (s_sub (x_bin op_fdivW fdivD_ok (x_ix (x_var (i := 0) rfl (.inl rfl)) x_int (fun _ _ => rfl)) (x_var (i := 1) rfl (.inl rfl))) (x_var (i := 0) rfl (.inl rfl)) x_int)
  (xs_one (s_ret (x_var (i := 2) rfl (.inl rfl)))))) xs_nil)
  (xs_cons (s_set (i := 3) S.nd rfl (.inl rfl) x_int)
  (xs_cons (s_for PassesOwn.never rfl (xi_range1 (by rfl) L.n_range (xa_cons (x_bin op_addA addD_ok x_int (x_bin op_fdivW fdivD_ok (x_bits (x_var (i := 1) rfl (.inl rfl))) x_int)) xa_nil)) (pg_name (i := 4) S.nd rfl (.inl rfl)) tgN_ok (xs_cons (s_sub (x_bin op_addA addD_ok (x_ix (x_var (i := 0) rfl (.inl rfl)) x_int (fun _ _ => rfl)) x_int) (x_var (i := 0) rfl (.inl rfl)) x_int)
  (xs_one (s_set (i := 3) S.nd rfl (.inl rfl) (x_bin op_addA addD_ok (x_bin op_mulA mulD_ok (x_var (i := 3) rfl (.inl rfl)) x_int) (x_call ((k_l_mixed L).mono (by decide)) hr (by rfl) pass0E (xa_cons (x_ix (x_var (i := 0) rfl (.inl rfl)) x_int (fun _ _ => rfl)) (xa_cons (x_ix (x_var (i := 0) rfl (.inl rfl)) x_int (fun _ _ => rfl)) (xa_cons (x_ix (x_var (i := 0) rfl (.inl rfl)) x_int (fun _ _ => rfl)) xa_nil))) rfl (LaA.nil.cons.cons.cons)))))))
  (xs_one (s_ret (x_bin op_mod modD_ok (y_int L.n_int (xa_cons (x_var (i := 3) rfl (.inl rfl)) xa_nil)) (x_var (i := 1) rfl (.inl rfl))))))))
theorem k_l_purses (L : Lk K mg T) : Fn P w K mg base CX0 T "_law_purses" 2 ["_law_script", "_law_few"] B.q_l_purses [] := L.d_l_purses.fn (k := 1) sc_l_purses fun f cdv A outer s H E hr => by
    have S := sc_l_purses
    unfold B.b_l_purses
    exact (xs_one (s_ret (x_lc (own := [("_law_at", 2)]) rfl S.nd (xi_range1 (by rfl) L.n_range (xa_cons (y_max L.n_max (xa_cons x_int (xa_cons (y_min L.n_min (xa_cons (x_var (i := 1) rfl (.inl rfl)) (xa_cons (y_len L.n_len (xa_cons (x_var (i := 0) rfl (.inr (.inl rfl))) xa_nil)) xa_nil))) xa_nil))) xa_nil)) (blkOk_by (by kernel_rfl)) tgN_ok (by decide) (fun _ _ _ _ _ => (pg_name (i := 2) S.nd rfl (.inl rfl))) (fun _ _ _ _ _ => pts_yes) (fun _ _ _ _ _ => (x_call ((k_l_purse L).mono (by decide)) hr (by rfl) pass0E (xa_cons (x_var (i := 0) rfl (.inr (.inl rfl))) (xa_cons (x_var (i := 2) rfl (.inl rfl)) xa_nil)) rfl (LaA.nil.cons.cons))))))
theorem k_l_one_of (L : Lk K mg T) : Fn P w K mg base CX0 T "_law_one_of" 3 ["_law_purse_here", "_law_some"] B.q_l_one_of [] := L.d_l_one_of.fn (k := 2) sc_l_one_of fun f cdv A outer s H E hr => by
    have S := sc_l_one_of
    unfold B.b_l_one_of
    exact (xs_one (s_ret (x_ix (x_var (i := 1) rfl (.inl rfl)) (x_call ((k_l_draw L).mono (by decide)) hr (by rfl) pass0E (xa_cons (x_var (i := 0) rfl (.inl rfl)) (xa_cons (y_len L.n_len (xa_cons (x_var (i := 1) rfl (.inl rfl)) xa_nil)) xa_nil)) rfl (LaA.nil.cons.cons)) (fun _ _ => rfl))))
theorem k_l_exact_ (L : Lk K mg T) : ∀ m : Nat, Fn P w K mg base CX0 T "_law_exact" (0 + m + 1) ["_law_mine", "_law_theirs"] (B.q_l_exact m) []
  | 0 => L.d_l_exact.fn (k := 0 + 0) sc_l_exact fun f cdv A outer s H E hr => xss_bad
  | m + 1 => L.d_l_exact.fn (k := 0 + m + 1) sc_l_exact fun f cdv A outer s H E hr => by
    have S := sc_l_exact
    have Rm := k_l_exact_ L m
    unfold B.b_l_exact
    exact (xs_cons (s_if (xt_val (y_isiTy2 L.is_list L.is_tuple L.n_isinstance L.n_list bt_list L.n_tuple bt_tuple (x_var (i := 0) rfl (.inr (.inl rfl))))) (xs_cons (s_set (i := 2) S.nd rfl (.inl rfl) (x_and (x_cmp (op_eqD hr.units) eqD_ok (y_isiTy L.is_list L.n_isinstance L.n_list bt_list (x_var (i := 1) rfl (.inr (.inl rfl)))) (y_isiTy L.is_list L.n_isinstance L.n_list bt_list (x_var (i := 0) rfl (.inr (.inl rfl)))) (nomark _)) (x_one (x_cmp (op_eqD hr.units) eqD_ok (y_isiTy L.is_tuple L.n_isinstance L.n_tuple bt_tuple (x_var (i := 1) rfl (.inr (.inl rfl)))) (y_isiTy L.is_tuple L.n_isinstance L.n_tuple bt_tuple (x_var (i := 0) rfl (.inr (.inl rfl)))) (nomark _)))))
  (xs_one (s_ret (x_and (x_var (i := 2) rfl (.inl rfl)) (x_and (x_cmp (op_eqD hr.units) eqD_ok (y_len L.n_len (xa_cons (x_var (i := 0) rfl (.inr (.inl rfl))) xa_nil)) (y_len L.n_len (xa_cons (x_var (i := 1) rfl (.inr (.inl rfl))) xa_nil)) (nomark _)) (x_one (y_all L.n_all (xa_cons (x_lc (own := [("_law_a", 3), ("_law_b", 4)]) rfl S.nd (xi_zip (by rfl) L.n_zip (xa_cons (x_var (i := 0) rfl (.inr (.inl rfl))) (xa_cons (x_var (i := 1) rfl (.inr (.inl rfl))) xa_nil))) (blkOk_by (by kernel_rfl)) (tgT_ok (tgs_cons tgN_ok (tgs_cons tgN_ok tgs_nil)) rfl) (by decide) (fun _ _ _ _ _ => (pg_tup rfl (pgs_cons (pg_name (i := 3) S.nd rfl (.inl rfl)) (pgs_cons (pg_name (i := 4) S.nd rfl (.inl rfl)) pgs_nil)))) (fun _ _ _ _ _ => pts_yes) (fun _ _ _ _ _ => (x_call Rm hr (by rfl) pass0E (xa_cons (x_var (i := 3) rfl (.inl rfl)) (xa_cons (x_var (i := 4) rfl (.inl rfl)) xa_nil)) rfl (LaA.nil.cons.cons)))) xa_nil)))))))) xs_nil)
  (xs_cons (s_if (xt_val (y_isiTy L.is_dict L.n_isinstance L.n_dict bt_dict (x_var (i := 0) rfl (.inr (.inl rfl))))) xss_bad xs_nil)
  (xs_cons (s_set (i := 2) S.nd rfl (.inl rfl) (x_cmp (op_eqD hr.units) eqD_ok (y_isiTy L.is_int L.n_isinstance L.n_int bt_int (x_var (i := 0) rfl (.inr (.inl rfl)))) (y_isiTy L.is_int L.n_isinstance L.n_int bt_int (x_var (i := 1) rfl (.inr (.inl rfl)))) (nomark _)))
  (xs_one (s_ret (x_and (x_var (i := 2) rfl (.inl rfl)) (x_and (x_cmp (op_eqD hr.units) eqD_ok (y_isiTy L.is_bool L.n_isinstance L.n_bool bt_bool (x_var (i := 0) rfl (.inr (.inl rfl)))) (y_isiTy L.is_bool L.n_isinstance L.n_bool bt_bool (x_var (i := 1) rfl (.inr (.inl rfl)))) (nomark _)) (x_one (x_cmp (op_eqD hr.units) eqD_ok (x_var (i := 0) rfl (.inr (.inl rfl))) (x_var (i := 1) rfl (.inr (.inl rfl))) (nomark _))))))))))
theorem k_l_exact (L : Lk K mg T) : Fn P w K mg base CX0 T "_law_exact" 9 ["_law_mine", "_law_theirs"] (B.q_l_exact 8) [] := k_l_exact_ L 8
theorem k_l_weights (L : Lk K mg T) : Fn P w K mg base CX0 T "_law_weights" 1 ["_law_house_here"] B.q_l_weights [] := L.d_l_weights.fn (k := 0) sc_l_weights fun f cdv A outer s H E hr => by
    have S := sc_l_weights
    unfold B.b_l_weights
    exact (xs_cons (s_set (i := 1) S.nd rfl (.inl rfl) (x_lst (xa_cons x_int xa_nil)))
  (xs_cons (s_for PassesOwn.never rfl (xi_seq (x_ix (x_var (i := 0) rfl (.inl rfl)) x_int (fun _ _ => rfl))) (pg_name (i := 2) S.nd rfl (.inl rfl)) tgN_ok (xs_one (s_expr (y_append (x_var (i := 1) rfl (.inl rfl)) (xa_cons (x_bin op_mulA mulD_ok (x_ix (x_var (i := 1) rfl (.inl rfl)) (x_un un_neg negD_ok x_int) (fun _ _ => rfl)) (x_var (i := 2) rfl (.inl rfl))) xa_nil)))))
  (xs_one (s_ret (x_var (i := 1) rfl (.inl rfl))))))
theorem k_l_many_rows (L : Lk K mg T) : Fn P w K mg base CX0 T "_law_many_rows" 1 ["_law_house_here"] B.q_l_many_rows [] := L.d_l_many_rows.fn (k := 0) sc_l_many_rows fun f cdv A outer s H E hr => by
    have S := sc_l_many_rows
    unfold B.b_l_many_rows
    exact (xs_cons (s_set (i := 1) S.nd rfl (.inl rfl) x_int)
  (xs_cons (s_for PassesOwn.never rfl (xi_seq (x_ix (x_var (i := 0) rfl (.inl rfl)) x_int (fun _ _ => rfl))) (pg_name (i := 2) S.nd rfl (.inl rfl)) tgN_ok (xs_one (s_set (i := 1) S.nd rfl (.inl rfl) (x_bin op_mulA mulD_ok (x_var (i := 1) rfl (.inl rfl)) (x_bin op_addA addD_ok (x_var (i := 2) rfl (.inl rfl)) x_int)))))
  (xs_one (s_ret (x_var (i := 1) rfl (.inl rfl))))))
theorem k_l_house (L : Lk K mg T) : Fn P w K mg base CX0 T "_law_house" 4 ["_law_purse_here", "_law_places"] B.q_l_house [] := L.d_l_house.fn (k := 3) sc_l_house fun f cdv A outer s H E hr => by
    have S := sc_l_house
    unfold B.b_l_house
    exact (xs_cons (s_setLc (i := 2) (own := [("_law_at", 6)]) rfl S.nd rfl rfl (by rfl) (xi_range1 (by rfl) L.n_range (xa_cons (x_bin op_sub subD_ok (x_var (i := 1) rfl (.inl rfl)) x_int) xa_nil)) (blkOk_by (by kernel_rfl)) tgN_ok (by decide) (fun _ _ _ _ _ => (pg_name (i := 6) S.nd rfl (.inl rfl))) (fun _ _ _ _ _ => pts_yes) (fun _ _ _ _ _ => (x_call ((k_l_one_of L).mono (by decide)) hr (by rfl) pass0E (xa_cons (x_var (i := 0) rfl (.inr (.inl rfl))) (xa_cons (x_lst (xa_cons x_int (xa_cons x_int (xa_cons x_int (xa_cons x_int (xa_cons x_int (xa_cons x_int (xa_cons x_int (xa_cons x_int (xa_cons x_int (xa_cons x_int xa_nil))))))))))) xa_nil)) rfl (LaA.nil.cons.cons))))
  (xs_cons (s_set (i := 3) S.nd rfl (.inl rfl) (x_lst xa_nil))
  (xs_cons (s_for PassesOwn.never rfl (xi_seq (x_bin op_addA addD_ok (x_var (i := 2) rfl (.inl rfl)) (x_lst (xa_cons x_int xa_nil)))) (pg_name (i := 4) S.nd rfl (.inl rfl)) tgN_ok (xs_cons (s_set (i := 5) S.nd rfl (.inl rfl) (x_lst (xa_cons x_int (xa_cons x_int (xa_cons (x_bin op_sub subD_ok (x_var (i := 4) rfl (.inl rfl)) x_int) (xa_cons (x_var (i := 4) rfl (.inl rfl)) (xa_cons (x_bin op_addA addD_ok (x_var (i := 4) rfl (.inl rfl)) x_int) (xa_cons (x_bin op_sub subD_ok (x_bin op_mulA mulD_ok x_int (x_var (i := 4) rfl (.inl rfl))) x_int) (xa_cons (x_bin op_mulA mulD_ok x_int (x_var (i := 4) rfl (.inl rfl))) xa_nil)))))))))
  (xs_one (s_expr (y_append (x_var (i := 3) rfl (.inl rfl)) (xa_cons (y_min L.n_min (xa_cons x_int (xa_cons (x_call ((k_l_one_of L).mono (by decide)) hr (by rfl) pass0E (xa_cons (x_var (i := 0) rfl (.inr (.inl rfl))) (xa_cons (x_bin op_addA addD_ok (x_var (i := 5) rfl (.inl rfl)) (x_lst (xa_cons (x_call ((k_l_draw L).mono (by decide)) hr (by rfl) pass0E (xa_cons (x_var (i := 0) rfl (.inr (.inl rfl))) (xa_cons (x_bin op_addA addD_ok (x_bin op_mulA mulD_ok x_int (x_var (i := 4) rfl (.inl rfl))) x_int) xa_nil)) rfl (LaA.nil.cons.cons)) (xa_cons (x_call ((k_l_draw L).mono (by decide)) hr (by rfl) pass0E (xa_cons (x_var (i := 0) rfl (.inr (.inl rfl))) (xa_cons (x_bin op_mulA mulD_ok x_int (x_var (i := 4) rfl (.inl rfl))) xa_nil)) rfl (LaA.nil.cons.cons)) xa_nil)))) xa_nil)) rfl (LaA.nil.cons.cons)) xa_nil))) xa_nil))))))
  (xs_one (s_ret (x_lst (xa_cons (x_var (i := 2) rfl (.inl rfl)) (xa_cons (x_var (i := 3) rfl (.inl rfl)) xa_nil))))))))
theorem k_l_great_house (L : Lk K mg T) : Fn P w K mg base CX0 T "_law_great_house" 5 ["_law_purse_here"] B.q_l_great_house [] := L.d_l_great_house.fn (k := 4) sc_l_great_house fun f cdv A outer s H E hr => by
    have S := sc_l_great_house
    unfold B.b_l_great_house
    exact (xs_cons (s_set (i := 1) S.nd rfl (.inl rfl) (x_call ((k_l_house L).mono (by decide)) hr (by rfl) pass0E (xa_cons (x_var (i := 0) rfl (.inl rfl)) (xa_cons (x_bin op_addA addD_ok x_int (x_call ((k_l_draw L).mono (by decide)) hr (by rfl) pass0E (xa_cons (x_var (i := 0) rfl (.inl rfl)) (xa_cons x_int xa_nil)) rfl (LaA.nil.cons.cons))) xa_nil)) rfl (LaA.nil.cons.cons)))
  (xs_cons (s_for PassesOwn.never rfl (xi_enum (by rfl) L.n_enumerate (xa_cons (x_ix (x_var (i := 1) rfl (.inl rfl)) x_int (fun _ _ => rfl)) xa_nil)) (pg_tup rfl (pgs_cons (pg_name (i := 2) S.nd rfl (.inl rfl)) (pgs_cons (pg_name (i := 3) S.nd rfl (.inl rfl)) pgs_nil))) (tgT_ok (tgs_cons tgN_ok (tgs_cons tgN_ok tgs_nil)) rfl) (xs_one (s_if (PW.pt (xw_and (xt_cmp op_gt cmpD_ok (x_call ((k_l_draw L).mono (by decide)) hr (by rfl) pass0E (xa_cons (x_var (i := 0) rfl (.inl rfl)) (xa_cons x_int xa_nil)) rfl (LaA.nil.cons.cons)) x_int (nomark _)) (xw_and1 (xt_cmp op_lt cmpD_ok (x_ix (x_ix (x_var (i := 1) rfl (.inl rfl)) x_int (fun _ _ => rfl)) (x_var (i := 2) rfl (.inl rfl)) (fun _ _ => rfl)) (x_var (i := 3) rfl (.inl rfl)) (nomark _))))) (xs_one (s_sub (y_min L.n_min (xa_cons x_int (xa_cons (x_bin op_addA addD_ok (x_var (i := 3) rfl (.inl rfl)) (x_call ((k_l_draw L).mono (by decide)) hr (by rfl) pass0E (xa_cons (x_var (i := 0) rfl (.inl rfl)) (xa_cons x_int xa_nil)) rfl (LaA.nil.cons.cons))) xa_nil))) (x_ix (x_var (i := 1) rfl (.inl rfl)) x_int (fun _ _ => rfl)) (x_var (i := 2) rfl (.inl rfl)))) xs_nil)))
  (xs_one (s_ret (x_var (i := 1) rfl (.inl rfl))))))
theorem k_l_made (L : Lk K mg T) : Fn P w K mg base CX0 T "_law_made" 6 ["_law_house_here"] B.q_l_made [] := L.d_l_made.fn (k := 5) sc_l_made fun f cdv A outer s H E hr => by
    have S := sc_l_made
    unfold B.b_l_made
    exact (xs_one (s_ret (x_make ((k_init_House L).mono (by decide)) hr (by rfl) pass0E (xa_cons (y_list L.n_list (xa_cons (x_ix (x_var (i := 0) rfl (.inl rfl)) x_int (fun _ _ => rfl)) xa_nil)) (xa_cons (y_list L.n_list (xa_cons (x_ix (x_var (i := 0) rfl (.inl rfl)) x_int (fun _ _ => rfl)) xa_nil)) xa_nil)) rfl (LaA.nil.cons.cons))))
theorem k_l_told_of (L : Lk K mg T) : Fn P w K mg base CX0 T "_law_told_of" 10 ["_law_made_here"] q_l_told_of [] := L.d_l_told_of.fn (k := 9) sc_l_told_of fun f cdv A outer s H E hr => by
    have S := sc_l_told_of
    unfold b_l_told_of
    exact (xs_cons (s_tg (x_tup (xa_cons (x_lst (xa_cons (x_mth0 ((k_m_House_bases L).mono (by decide)) hr pass0E (x_var (i := 0) rfl (.inl rfl)) rfl) (xa_cons (x_mth0 ((k_m_House_rooms L).mono (by decide)) hr pass0E (x_var (i := 0) rfl (.inl rfl)) rfl) xa_nil))) (xa_cons (x_lst xa_nil) xa_nil))) (pg_tup rfl (pgs_cons (pg_name (i := 1) S.nd rfl (.inr rfl)) (pgs_cons (pg_name (i := 2) S.nd rfl (.inl rfl)) pgs_nil))) (tgT_ok (tgs_cons tgN_ok (tgs_cons tgN_ok tgs_nil)) rfl))
  (xs_cons (s_for PassesOwn.never rfl (xi_range1 (by rfl) L.n_range (xa_cons (y_len L.n_len (xa_cons (x_ix (x_var (i := 1) rfl (.inr (.inl rfl))) x_int (fun _ _ => rfl)) xa_nil)) xa_nil)) (pg_name (i := 3) S.nd rfl (.inl rfl)) tgN_ok (xs_one (s_expr (y_append (x_var (i := 2) rfl (.inl rfl)) (xa_cons (y_sum L.n_sum (xa_cons (x_lc (own := [("_law_late", 4)]) rfl S.nd (xi_range1 (by rfl) L.n_range (xa_cons (x_bin op_addA addD_ok (x_var (i := 3) rfl (.inl rfl)) x_int) xa_nil)) (blkOk_by (by kernel_rfl)) tgN_ok (by decide) (fun _ _ _ _ _ => (pg_name (i := 4) S.nd rfl (.inl rfl))) (fun _ _ _ _ _ => pts_yes) (fun _ _ _ _ _ => (x_bin op_mulA mulD_ok (x_ix (x_ix (x_var (i := 1) rfl (.inr (.inl rfl))) x_int (fun _ _ => rfl)) (x_var (i := 4) rfl (.inl rfl)) (fun _ _ => rfl)) (x_ix (x_call ((k_l_weights L).mono (by decide)) hr (by rfl) pass0E (xa_cons (x_var (i := 1) rfl (.inr (.inl rfl))) xa_nil) rfl (LaA.nil.cons)) (x_var (i := 4) rfl (.inl rfl)) (fun _ _ => rfl))))) xa_nil)) xa_nil)))))
  (xs_cons (s_if (xt_not (xt_val (x_call ((k_l_exact L).mono (by decide)) hr (by rfl) pass0E (xa_cons (x_lst (xa_cons (x_call ((k_weights L).mono (by decide)) hr (by rfl) pass0E (xa_cons (x_var (i := 0) rfl (.inl rfl)) xa_nil) rfl (LaA.nil.cons)) (xa_cons (x_call ((k_held_up_to L).mono (by decide)) hr (by rfl) pass0E (xa_cons (x_var (i := 0) rfl (.inl rfl)) xa_nil) rfl (LaA.nil.cons)) (xa_cons (x_call ((k_many_rows L).mono (by decide)) hr (by rfl) pass0E (xa_cons (x_var (i := 0) rfl (.inl rfl)) xa_nil) rfl (LaA.nil.cons)) (xa_cons (x_mth0 ((k_m_House_places L).mono (by decide)) hr pass0E (x_var (i := 0) rfl (.inl rfl)) rfl) xa_nil))))) (xa_cons (x_lst (xa_cons (x_call ((k_l_weights L).mono (by decide)) hr (by rfl) pass0E (xa_cons (x_var (i := 1) rfl (.inr (.inl rfl))) xa_nil) rfl (LaA.nil.cons)) (xa_cons (x_var (i := 2) rfl (.inl rfl)) (xa_cons (x_call ((k_l_many_rows L).mono (by decide)) hr (by rfl) pass0E (xa_cons (x_var (i := 1) rfl (.inr (.inl rfl))) xa_nil) rfl (LaA.nil.cons)) (xa_cons (y_len L.n_len (xa_cons (x_var (i := 2) rfl (.inl rfl)) xa_nil)) xa_nil))))) xa_nil)) rfl (LaA.nil.cons.cons)))) (xs_one (s_ret x_non)) xs_nil)
  (xs_one (s_ret (x_var (i := 1) rfl (.inr (.inl rfl))))))))
theorem k_l_two_right (L : Lk K mg T) : Fn P w K mg base CX0 T "_law_two_right" 11 ["_law_purse_here", "_law_house_here"] q_l_two_right [] := L.d_l_two_right.fn (k := 10) sc_l_two_right fun f cdv A outer s H E hr => by
    have S := sc_l_two_right
    unfold b_l_two_right
    exact (xs_cons (s_set (i := 2) S.nd rfl (.inl rfl) (x_call ((k_l_made L).mono (by decide)) hr (by rfl) pass0E (xa_cons (x_var (i := 1) rfl (.inl rfl)) xa_nil) rfl (LaA.nil.cons)))
  (xs_cons (s_for PassesOwn.never rfl (xi_range1 (by rfl) L.n_range (xa_cons x_int xa_nil)) (pg_name (i := 3) S.nd rfl (.inl rfl)) tgN_ok (xs_cons (s_setLc (i := 4) (own := [("_law_room", 12)]) rfl S.nd rfl rfl (by rfl) (xi_seq (x_ix (x_var (i := 1) rfl (.inl rfl)) x_int (fun _ _ => rfl))) (blkOk_by (by kernel_rfl)) tgN_ok (by decide) (fun _ _ _ _ _ => (pg_name (i := 12) S.nd rfl (.inl rfl))) (fun _ _ _ _ _ => pts_yes) (fun _ _ _ _ _ => (x_call ((k_l_one_of L).mono (by decide)) hr (by rfl) pass0E (xa_cons (x_var (i := 0) rfl (.inr (.inl rfl))) (xa_cons (x_lst (xa_cons (x_var (i := 12) rfl (.inl rfl)) (xa_cons (y_max L.n_max (xa_cons x_int (xa_cons (x_bin op_sub subD_ok (x_var (i := 12) rfl (.inl rfl)) x_int) xa_nil))) (xa_cons (x_bin op_addA addD_ok (x_var (i := 12) rfl (.inl rfl)) x_int) (xa_cons (x_call ((k_l_draw L).mono (by decide)) hr (by rfl) pass0E (xa_cons (x_var (i := 0) rfl (.inr (.inl rfl))) (xa_cons x_int xa_nil)) rfl (LaA.nil.cons.cons)) xa_nil))))) xa_nil)) rfl (LaA.nil.cons.cons))))
  (xs_cons (s_setLc (i := 4) (own := [("_law_room", 12)]) rfl S.nd rfl rfl (by rfl) (xi_seq (x_var (i := 4) rfl (.inl rfl))) (blkOk_by (by kernel_rfl)) tgN_ok (by decide) (fun _ _ _ _ _ => (pg_name (i := 12) S.nd rfl (.inl rfl))) (fun _ _ _ _ _ => pts_yes) (fun _ _ _ _ _ => (y_min L.n_min (xa_cons x_int (xa_cons (x_var (i := 12) rfl (.inl rfl)) xa_nil)))))
  (xs_cons (s_set (i := 5) S.nd rfl (.inl rfl) (x_make ((k_init_House L).mono (by decide)) hr (by rfl) pass0E (xa_cons (y_list L.n_list (xa_cons (x_ix (x_var (i := 1) rfl (.inl rfl)) x_int (fun _ _ => rfl)) xa_nil)) (xa_cons (y_list L.n_list (xa_cons (x_var (i := 4) rfl (.inl rfl)) xa_nil)) xa_nil)) rfl (LaA.nil.cons.cons)))
  (xs_cons (s_set (i := 6) S.nd rfl (.inl rfl) (y_all L.n_all (xa_cons (x_lc (own := [("_law_less", 13), ("_law_more", 14)]) rfl S.nd (xi_zip (by rfl) L.n_zip (xa_cons (x_ix (x_var (i := 1) rfl (.inl rfl)) x_int (fun _ _ => rfl)) (xa_cons (x_var (i := 4) rfl (.inl rfl)) xa_nil))) (blkOk_by (by kernel_rfl)) (tgT_ok (tgs_cons tgN_ok (tgs_cons tgN_ok tgs_nil)) rfl) (by decide) (fun _ _ _ _ _ => (pg_tup rfl (pgs_cons (pg_name (i := 13) S.nd rfl (.inl rfl)) (pgs_cons (pg_name (i := 14) S.nd rfl (.inl rfl)) pgs_nil)))) (fun _ _ _ _ _ => pts_yes) (fun _ _ _ _ _ => (x_cmp op_le cmpD_ok (x_var (i := 13) rfl (.inl rfl)) (x_var (i := 14) rfl (.inl rfl)) (nomark _)))) xa_nil)))
  (xs_cons (s_set (i := 7) S.nd rfl (.inl rfl) (y_all L.n_all (xa_cons (x_lc (own := [("_law_less", 13), ("_law_more", 14)]) rfl S.nd (xi_zip (by rfl) L.n_zip (xa_cons (x_var (i := 4) rfl (.inl rfl)) (xa_cons (x_ix (x_var (i := 1) rfl (.inl rfl)) x_int (fun _ _ => rfl)) xa_nil))) (blkOk_by (by kernel_rfl)) (tgT_ok (tgs_cons tgN_ok (tgs_cons tgN_ok tgs_nil)) rfl) (by decide) (fun _ _ _ _ _ => (pg_tup rfl (pgs_cons (pg_name (i := 13) S.nd rfl (.inl rfl)) (pgs_cons (pg_name (i := 14) S.nd rfl (.inl rfl)) pgs_nil)))) (fun _ _ _ _ _ => pts_yes) (fun _ _ _ _ _ => (x_cmp op_le cmpD_ok (x_var (i := 13) rfl (.inl rfl)) (x_var (i := 14) rfl (.inl rfl)) (nomark _)))) xa_nil)))
  (xs_cons (s_if (xt_not (xt_val (x_call ((k_l_exact L).mono (by decide)) hr (by rfl) pass0E (xa_cons (x_lst (xa_cons (x_callK0 (pt := ⟨0, ["other", "one"], [1, 0]⟩) ((k_is_within L).mono (by decide)) (.head _) hr (by rfl) pass0E (xk_cons (x_var (i := 5) rfl (.inl rfl)) (xk_cons (x_var (i := 2) rfl (.inl rfl)) xk_nil)) rfl rfl rfl (by decide) (LaA.nil.cons.cons)) (xa_cons (x_call ((k_is_within L).mono (by decide)) hr (by rfl) pass0E (xa_cons (x_var (i := 5) rfl (.inl rfl)) (xa_cons (x_var (i := 2) rfl (.inl rfl)) xa_nil)) rfl (LaA.nil.cons.cons)) xa_nil))) (xa_cons (x_lst (xa_cons (x_var (i := 6) rfl (.inl rfl)) (xa_cons (x_var (i := 7) rfl (.inl rfl)) xa_nil))) xa_nil)) rfl (LaA.nil.cons.cons)))) (xs_one (s_ret x_bl)) xs_nil)
  (xs_cons (s_set (i := 8) S.nd rfl (.inl rfl) (x_lst (xa_cons (x_callK0 (pt := ⟨0, ["other", "one"], [1, 0]⟩) ((k_lesser_house L).mono (by decide)) (.head _) hr (by rfl) pass0E (xk_cons (x_var (i := 5) rfl (.inl rfl)) (xk_cons (x_var (i := 2) rfl (.inl rfl)) xk_nil)) rfl rfl rfl (by decide) (LaA.nil.cons.cons)) (xa_cons (x_callK0 (pt := ⟨0, ["other", "one"], [1, 0]⟩) ((k_greater_house L).mono (by decide)) (.head _) hr (by rfl) pass0E (xk_cons (x_var (i := 5) rfl (.inl rfl)) (xk_cons (x_var (i := 2) rfl (.inl rfl)) xk_nil)) rfl rfl rfl (by decide) (LaA.nil.cons.cons)) (xa_cons (x_call ((k_lesser_house L).mono (by decide)) hr (by rfl) pass0E (xa_cons (x_var (i := 5) rfl (.inl rfl)) (xa_cons (x_var (i := 2) rfl (.inl rfl)) xa_nil)) rfl (LaA.nil.cons.cons)) xa_nil)))))
  (xs_cons (s_set (i := 9) S.nd rfl (.inl rfl) (x_lst (xa_cons (x_lc (own := [("_law_pair", 15)]) rfl S.nd (xi_zipN (by rfl) L.n_zip (xa_cons (x_ix (x_var (i := 1) rfl (.inl rfl)) x_int (fun _ _ => rfl)) (xa_cons (x_var (i := 4) rfl (.inl rfl)) xa_nil))) (blkOk_by (by kernel_rfl)) tgN_ok (by decide) (fun _ _ _ _ _ => (pg_name (i := 15) S.nd rfl (.inl rfl))) (fun _ _ _ _ _ => pts_yes) (fun _ _ _ _ _ => (y_min L.n_min (xa_cons (x_var (i := 15) rfl (.inl rfl)) xa_nil)))) (xa_cons (x_lc (own := [("_law_pair", 15)]) rfl S.nd (xi_zipN (by rfl) L.n_zip (xa_cons (x_ix (x_var (i := 1) rfl (.inl rfl)) x_int (fun _ _ => rfl)) (xa_cons (x_var (i := 4) rfl (.inl rfl)) xa_nil))) (blkOk_by (by kernel_rfl)) tgN_ok (by decide) (fun _ _ _ _ _ => (pg_name (i := 15) S.nd rfl (.inl rfl))) (fun _ _ _ _ _ => pts_yes) (fun _ _ _ _ _ => (y_max L.n_max (xa_cons (x_var (i := 15) rfl (.inl rfl)) xa_nil)))) xa_nil))))
  (xs_cons (s_if (xt_not (xt_val (x_call ((k_l_exact L).mono (by decide)) hr (by rfl) pass0E (xa_cons (x_lc (own := [("_law_late", 16)]) rfl S.nd (xi_seq (x_var (i := 8) rfl (.inl rfl))) (blkOk_by (by kernel_rfl)) tgN_ok (by decide) (fun _ _ _ _ _ => (pg_name (i := 16) S.nd rfl (.inl rfl))) (fun _ _ _ _ _ => pts_yes) (fun _ _ _ _ _ => (x_call ((k_l_told_of L).mono (by decide)) hr (by rfl) pass0E (xa_cons (x_var (i := 16) rfl (.inl rfl)) xa_nil) rfl (LaA.nil.cons)))) (xa_cons (x_lst (xa_cons (x_lst (xa_cons (x_ix (x_var (i := 1) rfl (.inl rfl)) x_int (fun _ _ => rfl)) (xa_cons (x_ix (x_var (i := 9) rfl (.inl rfl)) x_int (fun _ _ => rfl)) xa_nil))) (xa_cons (x_lst (xa_cons (x_ix (x_var (i := 1) rfl (.inl rfl)) x_int (fun _ _ => rfl)) (xa_cons (x_ix (x_var (i := 9) rfl (.inl rfl)) x_int (fun _ _ => rfl)) xa_nil))) (xa_cons (x_lst (xa_cons (x_ix (x_var (i := 1) rfl (.inl rfl)) x_int (fun _ _ => rfl)) (xa_cons (x_ix (x_var (i := 9) rfl (.inl rfl)) x_int (fun _ _ => rfl)) xa_nil))) xa_nil)))) xa_nil)) rfl (LaA.nil.cons.cons)))) (xs_one (s_ret x_bl)) xs_nil)
  (xs_one (s_if (PW.pt (xw_or (xt_not (xt_val (x_call ((k_is_within L).mono (by decide)) hr (by rfl) pass0E (xa_cons (x_ix (x_var (i := 8) rfl (.inl rfl)) x_int (fun _ _ => rfl)) (xa_cons (x_var (i := 2) rfl (.inl rfl)) xa_nil)) rfl (LaA.nil.cons.cons)))) (xw_or (xt_not (xt_val (x_call ((k_is_within L).mono (by decide)) hr (by rfl) pass0E (xa_cons (x_var (i := 5) rfl (.inl rfl)) (xa_cons (x_ix (x_var (i := 8) rfl (.inl rfl)) x_int (fun _ _ => rfl)) xa_nil)) rfl (LaA.nil.cons.cons)))) (xw_or1 (xt_not (xt_val (x_call ((k_l_exact L).mono (by decide)) hr (by rfl) pass0E (xa_cons (x_call ((k_l_told_of L).mono (by decide)) hr (by rfl) pass0E (xa_cons (x_var (i := 2) rfl (.inl rfl)) xa_nil) rfl (LaA.nil.cons)) (xa_cons (x_var (i := 1) rfl (.inl rfl)) xa_nil)) rfl (LaA.nil.cons.cons)))))))) (xs_one (s_ret x_bl)) xs_nil))))))))))))
  (xs_cons (s_for PassesOwn.never rfl (xi_enum (by rfl) L.n_enumerate (xa_cons (x_ix (x_var (i := 1) rfl (.inl rfl)) x_int (fun _ _ => rfl)) xa_nil)) (pg_tup rfl (pgs_cons (pg_name (i := 10) S.nd rfl (.inl rfl)) (pgs_cons (pg_name (i := 11) S.nd rfl (.inl rfl)) pgs_nil))) (tgT_ok (tgs_cons tgN_ok (tgs_cons tgN_ok tgs_nil)) rfl) (xs_cons (s_set (i := 5) S.nd rfl (.inl rfl) (x_make ((k_init_House L).mono (by decide)) hr (by rfl) pass0E (xa_cons (x_bin op_addA addD_ok (x_bin op_addA addD_ok (x_sl (x_ix (x_var (i := 1) rfl (.inl rfl)) x_int (fun _ _ => rfl)) xo_none (xo_some (x_var (i := 10) rfl (.inl rfl)))) (x_lst (xa_cons (x_if (xt_cmp op_lt cmpD_ok (x_var (i := 11) rfl (.inl rfl)) x_int (nomark _)) (x_bin op_addA addD_ok (x_var (i := 11) rfl (.inl rfl)) x_int) x_int) xa_nil))) (x_sl (x_ix (x_var (i := 1) rfl (.inl rfl)) x_int (fun _ _ => rfl)) (xo_some (x_bin op_addA addD_ok (x_var (i := 10) rfl (.inl rfl)) x_int)) xo_none)) (xa_cons (x_ix (x_var (i := 1) rfl (.inl rfl)) x_int (fun _ _ => rfl)) xa_nil)) rfl (LaA.nil.cons.cons)))
  (xs_one (s_if (xt_not (xt_val (x_call ((k_l_exact L).mono (by decide)) hr (by rfl) pass0E (xa_cons (x_lst (xa_cons (x_call ((k_is_within L).mono (by decide)) hr (by rfl) pass0E (xa_cons (x_var (i := 2) rfl (.inl rfl)) (xa_cons (x_var (i := 5) rfl (.inl rfl)) xa_nil)) rfl (LaA.nil.cons.cons)) (xa_cons (x_call ((k_is_within L).mono (by decide)) hr (by rfl) pass0E (xa_cons (x_var (i := 5) rfl (.inl rfl)) (xa_cons (x_var (i := 2) rfl (.inl rfl)) xa_nil)) rfl (LaA.nil.cons.cons)) xa_nil))) (xa_cons (x_lst (xa_cons x_bl (xa_cons x_bl xa_nil))) xa_nil)) rfl (LaA.nil.cons.cons)))) (xs_one (s_ret x_bl)) xs_nil))))
  (xs_cons (s_if (PW.pt (xw_and (xt_cmp op_lt cmpD_ok (y_len L.n_len (xa_cons (x_ix (x_var (i := 1) rfl (.inl rfl)) x_int (fun _ _ => rfl)) xa_nil)) x_int (nomark _)) (xw_and1 (xt_cmp op_isnotA isnotD_ok (x_call ((k_is_within L).mono (by decide)) hr (by rfl) pass0E (xa_cons (x_var (i := 2) rfl (.inl rfl)) (xa_cons (x_make ((k_init_House L).mono (by decide)) hr (by rfl) pass0E (xa_cons (x_bin op_addA addD_ok (x_ix (x_var (i := 1) rfl (.inl rfl)) x_int (fun _ _ => rfl)) (x_lst (xa_cons x_int xa_nil))) (xa_cons (x_bin op_addA addD_ok (x_ix (x_var (i := 1) rfl (.inl rfl)) x_int (fun _ _ => rfl)) (x_lst (xa_cons x_int xa_nil))) xa_nil)) rfl (LaA.nil.cons.cons)) xa_nil)) rfl (LaA.nil.cons.cons)) x_bl (nomark _))))) (xs_one (s_ret x_bl)) xs_nil)
  (xs_one (s_ret (x_cmp op_isA isD_ok (x_call ((k_is_within L).mono (by decide)) hr (by rfl) pass0E (xa_cons (x_var (i := 2) rfl (.inl rfl)) (xa_cons (x_var (i := 2) rfl (.inl rfl)) xa_nil)) rfl (LaA.nil.cons.cons)) x_bl (nomark _))))))))
theorem k_l_places_right (L : Lk K mg T) : Fn P w K mg base CX0 T "_law_places_right" 11 ["_law_purse_here", "_law_house_here"] q_l_places_right [] := L.d_l_places_right.fn (k := 10) sc_l_places_right fun f cdv A outer s H E hr => by
    have S := sc_l_places_right
    unfold b_l_places_right
    exact (xs_cons (s_par (i := 2) (j := 3) rfl S.nd rfl rfl (by decide) rfl rfl (xa_cons (x_call ((k_l_made L).mono (by decide)) hr (by rfl) pass0E (xa_cons (x_var (i := 1) rfl (.inl rfl)) xa_nil) rfl (LaA.nil.cons)) (xa_cons (y_len L.n_len (xa_cons (x_ix (x_var (i := 1) rfl (.inl rfl)) x_int (fun _ _ => rfl)) xa_nil)) xa_nil)) (by rfl))
  (xs_cons (s_for PassesOwn.never rfl (xi_range1 (by rfl) L.n_range (xa_cons (x_var (i := 3) rfl (.inl rfl)) xa_nil)) (pg_name (i := 4) S.nd rfl (.inl rfl)) tgN_ok (xs_cons (s_set (i := 5) S.nd rfl (.inl rfl) (x_call ((k_l_draw L).mono (by decide)) hr (by rfl) pass0E (xa_cons (x_var (i := 0) rfl (.inl rfl)) (xa_cons x_int xa_nil)) rfl (LaA.nil.cons.cons)))
  (xs_cons (s_set (i := 6) S.nd rfl (.inl rfl) (x_callK0 (pt := ⟨0, ["room", "place", "house"], [2, 1, 0]⟩) ((k_with_room L).mono (by decide)) (.head _) hr (by rfl) pass0E (xk_cons (x_var (i := 5) rfl (.inl rfl)) (xk_cons (x_var (i := 4) rfl (.inl rfl)) (xk_cons (x_var (i := 2) rfl (.inl rfl)) xk_nil))) rfl rfl rfl (by decide) (LaA.nil.cons.cons.cons)))
  (xs_cons (s_if (xt_not (xt_val (x_call ((k_l_exact L).mono (by decide)) hr (by rfl) pass0E (xa_cons (x_call ((k_l_told_of L).mono (by decide)) hr (by rfl) pass0E (xa_cons (x_var (i := 6) rfl (.inl rfl)) xa_nil) rfl (LaA.nil.cons)) (xa_cons (x_lst (xa_cons (x_ix (x_var (i := 1) rfl (.inl rfl)) x_int (fun _ _ => rfl)) (xa_cons (x_bin op_addA addD_ok (x_bin op_addA addD_ok (x_sl (x_ix (x_var (i := 1) rfl (.inl rfl)) x_int (fun _ _ => rfl)) xo_none (xo_some (x_var (i := 4) rfl (.inl rfl)))) (x_lst (xa_cons (x_var (i := 5) rfl (.inl rfl)) xa_nil))) (x_sl (x_ix (x_var (i := 1) rfl (.inl rfl)) x_int (fun _ _ => rfl)) (xo_some (x_bin op_addA addD_ok (x_var (i := 4) rfl (.inl rfl)) x_int)) xo_none)) xa_nil))) xa_nil)) rfl (LaA.nil.cons.cons)))) (xs_one (s_ret x_bl)) xs_nil)
  (xs_cons (s_if (xt_cmp op_lt cmpD_ok (x_var (i := 4) rfl (.inl rfl)) (x_bin op_sub subD_ok (x_var (i := 3) rfl (.inl rfl)) x_int) (nomark _)) (xs_cons (s_set (i := 7) S.nd rfl (.inl rfl) (y_min L.n_min (xa_cons (x_ix (x_ix (x_var (i := 1) rfl (.inl rfl)) x_int (fun _ _ => rfl)) (x_var (i := 4) rfl (.inl rfl)) (fun _ _ => rfl)) (xa_cons (x_bin op_sub subD_ok (x_ix (x_ix (x_var (i := 1) rfl (.inl rfl)) x_int (fun _ _ => rfl)) (x_var (i := 4) rfl (.inl rfl)) (fun _ _ => rfl)) x_int) xa_nil))))
  (xs_cons (s_set (i := 6) S.nd rfl (.inl rfl) (x_if (xt_cmp op_gt cmpD_ok (x_var (i := 4) rfl (.inl rfl)) x_int (nomark _)) (x_call ((k_tightened L).mono (by decide)) hr (by rfl) pass0E (xa_cons (x_var (i := 2) rfl (.inl rfl)) (xa_cons (x_var (i := 4) rfl (.inl rfl)) xa_nil)) rfl (LaA.nil.cons.cons)) (x_callK0 (pt := ⟨0, ["place", "house"], [1, 0]⟩) ((k_tightened L).mono (by decide)) (.head _) hr (by rfl) pass0E (xk_cons (x_var (i := 4) rfl (.inl rfl)) (xk_cons (x_var (i := 2) rfl (.inl rfl)) xk_nil)) rfl rfl rfl (by decide) (LaA.nil.cons.cons))))
  (xs_one (s_if (xt_not (xt_val (x_call ((k_l_exact L).mono (by decide)) hr (by rfl) pass0E (xa_cons (x_call ((k_l_told_of L).mono (by decide)) hr (by rfl) pass0E (xa_cons (x_var (i := 6) rfl (.inl rfl)) xa_nil) rfl (LaA.nil.cons)) (xa_cons (x_lst (xa_cons (x_ix (x_var (i := 1) rfl (.inl rfl)) x_int (fun _ _ => rfl)) (xa_cons (x_bin op_addA addD_ok (x_bin op_addA addD_ok (x_sl (x_ix (x_var (i := 1) rfl (.inl rfl)) x_int (fun _ _ => rfl)) xo_none (xo_some (x_var (i := 4) rfl (.inl rfl)))) (x_lst (xa_cons (x_var (i := 7) rfl (.inl rfl)) xa_nil))) (x_sl (x_ix (x_var (i := 1) rfl (.inl rfl)) x_int (fun _ _ => rfl)) (xo_some (x_bin op_addA addD_ok (x_var (i := 4) rfl (.inl rfl)) x_int)) xo_none)) xa_nil))) xa_nil)) rfl (LaA.nil.cons.cons)))) (xs_one (s_ret x_bl)) xs_nil)))) xs_nil)
  (xs_one (s_for PassesOwn.never rfl (xi_range2 (by rfl) L.n_range (xa_cons (x_var (i := 4) rfl (.inl rfl)) (xa_cons (x_var (i := 3) rfl (.inl rfl)) xa_nil))) (pg_name (i := 8) S.nd rfl (.inl rfl)) tgN_ok (xs_one (s_if (xt_not (xt_val (x_call ((k_l_exact L).mono (by decide)) hr (by rfl) pass0E (xa_cons (x_call ((k_l_told_of L).mono (by decide)) hr (by rfl) pass0E (xa_cons (x_callK0 (pt := ⟨0, ["last", "first", "house"], [2, 1, 0]⟩) ((k_stretch L).mono (by decide)) (.head _) hr (by rfl) pass0E (xk_cons (x_var (i := 8) rfl (.inl rfl)) (xk_cons (x_var (i := 4) rfl (.inl rfl)) (xk_cons (x_var (i := 2) rfl (.inl rfl)) xk_nil))) rfl rfl rfl (by decide) (LaA.nil.cons.cons.cons)) xa_nil) rfl (LaA.nil.cons)) (xa_cons (x_lst (xa_cons (x_sl (x_ix (x_var (i := 1) rfl (.inl rfl)) x_int (fun _ _ => rfl)) (xo_some (x_var (i := 4) rfl (.inl rfl))) (xo_some (x_var (i := 8) rfl (.inl rfl)))) (xa_cons (x_sl (x_ix (x_var (i := 1) rfl (.inl rfl)) x_int (fun _ _ => rfl)) (xo_some (x_var (i := 4) rfl (.inl rfl))) (xo_some (x_bin op_addA addD_ok (x_var (i := 8) rfl (.inl rfl)) x_int))) xa_nil))) xa_nil)) rfl (LaA.nil.cons.cons)))) (xs_one (s_ret x_bl)) xs_nil)))))))))
  (xs_one (s_ret (x_call ((k_l_exact L).mono (by decide)) hr (by rfl) pass0E (xa_cons (x_call ((k_l_told_of L).mono (by decide)) hr (by rfl) pass0E (xa_cons (x_var (i := 2) rfl (.inl rfl)) xa_nil) rfl (LaA.nil.cons)) (xa_cons (x_var (i := 1) rfl (.inl rfl)) xa_nil)) rfl (LaA.nil.cons.cons))))))
theorem k_l_behind_right (L : Lk K mg T) : Fn P w K mg base CX0 T "_law_behind_right" 11 ["_law_purse_here", "_law_house_here", "_law_other"] q_l_behind_right [] := L.d_l_behind_right.fn (k := 10) sc_l_behind_right fun f cdv A outer s H E hr => by
    have S := sc_l_behind_right
    unfold b_l_behind_right
    exact (xs_cons (s_tg (x_tup (xa_cons (x_call ((k_l_made L).mono (by decide)) hr (by rfl) pass0E (xa_cons (x_var (i := 1) rfl (.inl rfl)) xa_nil) rfl (LaA.nil.cons)) (xa_cons (x_call ((k_l_made L).mono (by decide)) hr (by rfl) pass0E (xa_cons (x_var (i := 2) rfl (.inl rfl)) xa_nil) rfl (LaA.nil.cons)) (xa_cons (x_bin op_addA addD_ok x_int (x_call ((k_l_draw L).mono (by decide)) hr (by rfl) pass0E (xa_cons (x_var (i := 0) rfl (.inl rfl)) (xa_cons x_int xa_nil)) rfl (LaA.nil.cons.cons))) xa_nil)))) (pg_tup rfl (pgs_cons (pg_name (i := 3) S.nd rfl (.inl rfl)) (pgs_cons (pg_name (i := 4) S.nd rfl (.inl rfl)) (pgs_cons (pg_name (i := 5) S.nd rfl (.inr rfl)) pgs_nil)))) (tgT_ok (tgs_cons tgN_ok (tgs_cons tgN_ok (tgs_cons tgN_ok tgs_nil))) rfl))
  (xs_cons (s_set (i := 6) S.nd rfl (.inl rfl) (x_callK0 (pt := ⟨0, ["other", "base", "one"], [2, 1, 0]⟩) ((k_set_behind L).mono (by decide)) (.head _) hr (by rfl) pass0E (xk_cons (x_var (i := 4) rfl (.inl rfl)) (xk_cons (x_var (i := 5) rfl (.inr (.inl rfl))) (xk_cons (x_var (i := 3) rfl (.inl rfl)) xk_nil))) rfl rfl rfl (by decide) (LaA.nil.cons.cons.cons)))
  (xs_cons (s_if (xt_not (xt_val (x_call ((k_l_exact L).mono (by decide)) hr (by rfl) pass0E (xa_cons (x_call ((k_l_told_of L).mono (by decide)) hr (by rfl) pass0E (xa_cons (x_var (i := 6) rfl (.inl rfl)) xa_nil) rfl (LaA.nil.cons)) (xa_cons (x_lst (xa_cons (x_bin op_addA addD_ok (x_bin op_addA addD_ok (x_ix (x_var (i := 1) rfl (.inl rfl)) x_int (fun _ _ => rfl)) (x_lst (xa_cons (x_var (i := 5) rfl (.inr (.inl rfl))) xa_nil))) (x_ix (x_var (i := 2) rfl (.inl rfl)) x_int (fun _ _ => rfl))) (xa_cons (x_bin op_addA addD_ok (x_ix (x_var (i := 1) rfl (.inl rfl)) x_int (fun _ _ => rfl)) (x_ix (x_var (i := 2) rfl (.inl rfl)) x_int (fun _ _ => rfl))) xa_nil))) xa_nil)) rfl (LaA.nil.cons.cons)))) (xs_one (s_ret x_bl)) xs_nil)
  (xs_cons (s_set (i := 7) S.nd rfl (.inl rfl) (y_len L.n_len (xa_cons (x_ix (x_var (i := 1) rfl (.inl rfl)) x_int (fun _ _ => rfl)) xa_nil)))
  (xs_cons (s_if (PW.pt (xw_or (xt_neO L.it ((k_eq_House L).mono (by decide)) hr pass0E (op_neD hr.units) neD_ok (x_call ((k_stretch L).mono (by decide)) hr (by rfl) pass0E (xa_cons (x_var (i := 6) rfl (.inl rfl)) (xa_cons x_int (xa_cons (x_bin op_sub subD_ok (x_var (i := 7) rfl (.inl rfl)) x_int) xa_nil))) rfl (LaA.nil.cons.cons.cons)) (x_var (i := 3) rfl (.inl rfl))) (xw_or1 (xt_neO L.it ((k_eq_House L).mono (by decide)) hr pass0E (op_neD hr.units) neD_ok (x_call ((k_stretch L).mono (by decide)) hr (by rfl) pass0E (xa_cons (x_var (i := 6) rfl (.inl rfl)) (xa_cons (x_var (i := 7) rfl (.inl rfl)) (xa_cons (x_bin op_sub subD_ok (x_bin op_addA addD_ok (x_var (i := 7) rfl (.inl rfl)) (y_len L.n_len (xa_cons (x_ix (x_var (i := 2) rfl (.inl rfl)) x_int (fun _ _ => rfl)) xa_nil))) x_int) xa_nil))) rfl (LaA.nil.cons.cons.cons)) (x_var (i := 4) rfl (.inl rfl)))))) (xs_one (s_ret x_bl)) xs_nil)
  (xs_cons (s_set (i := 8) S.nd rfl (.inr rfl) (x_call ((k_l_weights L).mono (by decide)) hr (by rfl) pass0E (xa_cons (x_var (i := 1) rfl (.inl rfl)) xa_nil) rfl (LaA.nil.cons)))
  (xs_cons (s_set (i := 9) S.nd rfl (.inl rfl) (x_bin op_addA addD_ok (x_var (i := 8) rfl (.inr (.inl rfl))) (x_lc (own := [("_law_weight", 10)]) rfl S.nd (xi_seq (x_call ((k_l_weights L).mono (by decide)) hr (by rfl) pass0E (xa_cons (x_var (i := 2) rfl (.inl rfl)) xa_nil) rfl (LaA.nil.cons))) (blkOk_by (by kernel_rfl)) tgN_ok (by decide) (fun _ _ _ _ _ => (pg_name (i := 10) S.nd rfl (.inl rfl))) (fun _ _ _ _ _ => pts_yes) (fun _ _ _ _ _ => (x_bin op_mulA mulD_ok (x_bin op_mulA mulD_ok (x_ix (x_var (i := 8) rfl (.inr (.inl rfl))) (x_un un_neg negD_ok x_int) (fun _ _ => rfl)) (x_var (i := 5) rfl (.inr (.inl rfl)))) (x_var (i := 10) rfl (.inl rfl)))))))
  (xs_one (s_ret (x_and (x_call ((k_l_exact L).mono (by decide)) hr (by rfl) pass0E (xa_cons (x_call ((k_weights L).mono (by decide)) hr (by rfl) pass0E (xa_cons (x_var (i := 6) rfl (.inl rfl)) xa_nil) rfl (LaA.nil.cons)) (xa_cons (x_var (i := 9) rfl (.inl rfl)) xa_nil)) rfl (LaA.nil.cons.cons)) (x_one (x_call ((k_l_exact L).mono (by decide)) hr (by rfl) pass0E (xa_cons (x_lst (xa_cons (x_call ((k_l_told_of L).mono (by decide)) hr (by rfl) pass0E (xa_cons (x_var (i := 3) rfl (.inl rfl)) xa_nil) rfl (LaA.nil.cons)) (xa_cons (x_call ((k_l_told_of L).mono (by decide)) hr (by rfl) pass0E (xa_cons (x_var (i := 4) rfl (.inl rfl)) xa_nil) rfl (LaA.nil.cons)) xa_nil))) (xa_cons (x_lst (xa_cons (x_var (i := 1) rfl (.inl rfl)) (xa_cons (x_var (i := 2) rfl (.inl rfl)) xa_nil))) xa_nil)) rfl (LaA.nil.cons.cons)))))))))))))
theorem k_law (L : Lk K mg T) : ∃ (a : Addr) (fd : FuncData), Fun K "law" "law" s_law a fd ∧ mg "law" = some (.ref a) ∧ ∀ base : Heap, FnOk P w K mg base CX0 12 a fd ["_law_script"] (spF T 1 q_law) := L.d_law.law (k := 11) sc_law fun base f cdv A outer s H E hr => by
    have S := sc_law
    unfold b_law
    exact (xs_cons (s_for PassesOwn.never rfl (xi_seq (x_call ((k_l_purses L).mono (by decide)) hr (by rfl) pass0E (xa_cons (x_var (i := 0) rfl (.inl rfl)) (xa_cons x_int xa_nil)) rfl (LaA.nil.cons.cons))) (pg_name (i := 1) S.nd rfl (.inl rfl)) tgN_ok (xs_cons (s_set (i := 2) S.nd rfl (.inl rfl) (x_lst (xa_cons (x_call ((k_l_house L).mono (by decide)) hr (by rfl) pass0E (xa_cons (x_var (i := 1) rfl (.inl rfl)) (xa_cons (x_bin op_addA addD_ok x_int (x_call ((k_l_draw L).mono (by decide)) hr (by rfl) pass0E (xa_cons (x_var (i := 1) rfl (.inl rfl)) (xa_cons x_int xa_nil)) rfl (LaA.nil.cons.cons))) xa_nil)) rfl (LaA.nil.cons.cons)) (xa_cons (x_call ((k_l_house L).mono (by decide)) hr (by rfl) pass0E (xa_cons (x_var (i := 1) rfl (.inl rfl)) (xa_cons (x_bin op_addA addD_ok x_int (x_call ((k_l_draw L).mono (by decide)) hr (by rfl) pass0E (xa_cons (x_var (i := 1) rfl (.inl rfl)) (xa_cons x_int xa_nil)) rfl (LaA.nil.cons.cons))) xa_nil)) rfl (LaA.nil.cons.cons)) xa_nil))))
  (xs_cons (s_for PassesOwn.never rfl (xi_seq (x_bin op_addA addD_ok (x_var (i := 2) rfl (.inl rfl)) (x_lst (xa_cons (x_call ((k_l_great_house L).mono (by decide)) hr (by rfl) pass0E (xa_cons (x_var (i := 1) rfl (.inl rfl)) xa_nil) rfl (LaA.nil.cons)) xa_nil)))) (pg_name (i := 3) S.nd rfl (.inl rfl)) tgN_ok (xs_one (s_if (PW.pt (xw_or (xt_not (xt_val (x_call ((k_l_two_right L).mono (by decide)) hr (by rfl) pass0E (xa_cons (x_var (i := 1) rfl (.inl rfl)) (xa_cons (x_var (i := 3) rfl (.inl rfl)) xa_nil)) rfl (LaA.nil.cons.cons)))) (xw_or1 (xt_not (xt_val (x_call ((k_l_places_right L).mono (by decide)) hr (by rfl) pass0E (xa_cons (x_var (i := 1) rfl (.inl rfl)) (xa_cons (x_var (i := 3) rfl (.inl rfl)) xa_nil)) rfl (LaA.nil.cons.cons))))))) (xs_one (s_ret x_bl)) xs_nil)))
  (xs_one (s_if (PW.pt (xw_or (xt_not (xt_val (x_call ((k_l_behind_right L).mono (by decide)) hr (by rfl) pass0E (xa_cons (x_var (i := 1) rfl (.inl rfl)) (xa_cons (x_ix (x_var (i := 2) rfl (.inl rfl)) x_int (fun _ _ => rfl)) (xa_cons (x_ix (x_var (i := 2) rfl (.inl rfl)) x_int (fun _ _ => rfl)) xa_nil))) rfl (LaA.nil.cons.cons.cons)))) (xw_or1 (xt_not (xt_val (x_call ((k_l_behind_right L).mono (by decide)) hr (by rfl) pass0E (xa_cons (x_var (i := 1) rfl (.inl rfl)) (xa_cons (x_ix (x_var (i := 2) rfl (.inl rfl)) x_int (fun _ _ => rfl)) (xa_cons (x_ix (x_var (i := 2) rfl (.inl rfl)) x_int (fun _ _ => rfl)) xa_nil))) rfl (LaA.nil.cons.cons.cons))))))) (xs_one (s_ret x_bl)) xs_nil)))))
  (xs_one (s_ret x_bl)))
end
end K04
end
section
set_option Elab.async false
set_option linter.all false
set_option maxRecDepth 100000
set_option maxHeartbeats 1000000
namespace K04
open PySem Sx B
theorem v_within (a b c a' b' c' : Nat) (bs rs rs' : List Int) (n : Nat) (hz : rs.length ≤ 1000) (hl : rs.length = rs'.length) :
    q_is_within [ho a b c bs rs, ho a' b' c' bs rs'] n = .ok (.bl (lee rs rs')) (n + 1) [] := by
  have h1 := v_check_house a b c bs rs n
  have h2 := v_check_house a' b' c' bs rs' n
  have lz := lc_zipP (own := [2, 3]) (tg := tgT [tgN 2, tgN 3]) (el := c_is_within_1) c c' rs rs' (fun x y => .bl (decide (x ≤ y))) n [some (ho a b c bs rs), some (ho a' b' c' bs rs'), none, none] hl hz (fun x y => ⟨_, rfl, by simp -implicitDefEqProofs only [c_is_within_1, wipeE, pre_n, pre_o, of_s, r_var, var1_s, r_c, r_nil, r_cons, cons1_o, cons2_o, r_lst, lst1_o, r_tup, tup1_o, r_bin, bin1_o, bin2_o, r_un, un1_o, r_bits, r_tof, tof1_o, r_and, and1_t, and1_f, r_or, or1_t, or1_f, r_not, not1_o, r_eand, eand1_t, eand1_f, r_eor, eor1_t, eor1_f, r_enot, enot1_o, r_eif, eif1_t, eif1_f, r_call, call1_o, r_callD, r_callK, callK1_o, callK2_o, r_make, r_makeP, r_mth, mth1_o, mth2_o, r_b, r_m, m1_lst, m2_o, ofW_s, r_isi, isi1_o, isi3_s, r_fld, fld1_o, fld2_s, r_eqo, eqo1_o, eqo2_o, eqo3_o, r_osm, osm1_o, r_onone, r_sl, sl1_o, sl2_o, sl3_o, r_rev, rev1_o, r_seq, seq1_l, seq1_t, r_rng1, rng1_o, r_zip, zip1_o, r_enum, enum1_o, r_lc, lc1_o, put_0, put_c, setv_c, r_sseq, then1_n, then1_r, then1_c, then1_b, r_snil, r_sretn, r_scont, r_sbrk, r_sexpr, expr1_o, r_sret, ret1_o, r_sset, set1_o, r_sif, sif1_t, sif1_f, r_stg, stg1_o, tg1_s, r_spar, par1_o, r_spar3, par3_o, r_saug, aug0_s, aug1_o, aug2_s, r_ssub, sub0_o, sub1_o, sub2_o, sub3_s, r_sfld, sfld0_o, sfld1_o, r_sfor, for1_o, r_swhile, r_run, run1_n, run1_r, len_rng, len_li, len_lst, len_tup, len_zip, len_enum, puts, putsL, optmap_nil, get_comp, puts_comp, putsL_comp, put_comp', puts_nil, putsL_nil, putE_nil, putE_map, comp_nil, nil_comp, comp_one, cutW_nil, get_one, get_nil, puts_li, putsL_li, li_len, permL, D.has, hasL, hasL_li, isTyD, isClD, isi2, isD_non, isNone, cmpD_int, negD_int, addD_int, subD_int, eqD_int, neD_int, eqD_li, neD_li, listD_lst, listD_tup, tupleD_lst, lenD_lst, lenD_tup, intD1_int, ixD_0, ixD_1, ixD_2, ixD_3, bitsD_int, cutOk, List.map_cons, List.map_nil, List.length_cons, List.length_nil, List.getElem?_cons_zero, List.getElem?_cons_succ, List.set_cons_zero, List.set_cons_succ, List.replicate, List.cons_append, List.nil_append, Option.map_some, Option.map_none, Nat.reduceAdd, Nat.reduceSub, Nat.add_assoc, Nat.zero_add, Nat.add_zero, Bool.not_true, Bool.not_false, beq_self_eq_true, String.reduceBEq, Bool.true_or, Bool.false_or, Bool.or_true, Bool.or_false, Bool.true_and, Bool.false_and, Bool.and_true, Bool.and_false, decide_true, decide_false, Bool.false_eq_true, if_true, if_false, reduceCtorEq, Nat.reduceLeDiff, r_star, star1_l, star1_t, star2_o, r_rng2, r_zipN, zipN1_o, minD_pair, maxD_pair, tgT_2, tgT_3, tg1_s]⟩)
  rw [bl_zipWith] at lz
  unfold ho at *
  simp -implicitDefEqProofs only [q_is_within, b_is_within, h1, h2, lz, allD_bls, lee, pre_n, pre_o, of_s, r_var, var1_s, r_c, r_nil, r_cons, cons1_o, cons2_o, r_lst, lst1_o, r_tup, tup1_o, r_bin, bin1_o, bin2_o, r_un, un1_o, r_bits, r_tof, tof1_o, r_and, and1_t, and1_f, r_or, or1_t, or1_f, r_not, not1_o, r_eand, eand1_t, eand1_f, r_eor, eor1_t, eor1_f, r_enot, enot1_o, r_eif, eif1_t, eif1_f, r_call, call1_o, r_callD, r_callK, callK1_o, callK2_o, r_make, r_makeP, r_mth, mth1_o, mth2_o, r_b, r_m, m1_lst, m2_o, ofW_s, r_isi, isi1_o, isi3_s, r_fld, fld1_o, fld2_s, r_eqo, eqo1_o, eqo2_o, eqo3_o, r_osm, osm1_o, r_onone, r_sl, sl1_o, sl2_o, sl3_o, r_rev, rev1_o, r_seq, seq1_l, seq1_t, r_rng1, rng1_o, r_zip, zip1_o, r_enum, enum1_o, r_lc, lc1_o, put_0, put_c, setv_c, r_sseq, then1_n, then1_r, then1_c, then1_b, r_snil, r_sretn, r_scont, r_sbrk, r_sexpr, expr1_o, r_sret, ret1_o, r_sset, set1_o, r_sif, sif1_t, sif1_f, r_stg, stg1_o, tg1_s, r_spar, par1_o, r_spar3, par3_o, r_saug, aug0_s, aug1_o, aug2_s, r_ssub, sub0_o, sub1_o, sub2_o, sub3_s, r_sfld, sfld0_o, sfld1_o, r_sfor, for1_o, r_swhile, r_run, run1_n, run1_r, len_rng, len_li, len_lst, len_tup, len_zip, len_enum, puts, putsL, optmap_nil, get_comp, puts_comp, putsL_comp, put_comp', puts_nil, putsL_nil, putE_nil, putE_map, comp_nil, nil_comp, comp_one, cutW_nil, get_one, get_nil, puts_li, putsL_li, li_len, permL, D.has, hasL, hasL_li, isTyD, isClD, isi2, isD_non, isNone, cmpD_int, negD_int, addD_int, subD_int, eqD_int, neD_int, eqD_li, neD_li, listD_lst, listD_tup, tupleD_lst, lenD_lst, lenD_tup, intD1_int, ixD_0, ixD_1, ixD_2, ixD_3, bitsD_int, cutOk, List.map_cons, List.map_nil, List.length_cons, List.length_nil, List.getElem?_cons_zero, List.getElem?_cons_succ, List.set_cons_zero, List.set_cons_succ, List.replicate, List.cons_append, List.nil_append, Option.map_some, Option.map_none, Nat.reduceAdd, Nat.reduceSub, Nat.add_assoc, Nat.zero_add, Nat.add_zero, Bool.not_true, Bool.not_false, beq_self_eq_true, String.reduceBEq, Bool.true_or, Bool.false_or, Bool.or_true, Bool.or_false, Bool.true_and, Bool.false_and, Bool.and_true, Bool.and_false, decide_true, decide_false, Bool.false_eq_true, if_true, if_false, reduceCtorEq, Nat.reduceLeDiff, r_star, star1_l, star1_t, star2_o, r_rng2, r_zipN, zipN1_o, minD_pair, maxD_pair, tgT_2, tgT_3, tg1_s]
theorem v_without (a b c a' b' c' : Nat) (bs rs bs' rs' : List Int) (n : Nat) (h : bs ≠ bs') : q_is_within [ho a b c bs rs, ho a' b' c' bs' rs'] n = .ok (.bl false) n [] := by
  have h1 := v_check_house a b c bs rs n
  have h2 := v_check_house a' b' c' bs' rs' n
  unfold ho at *
  simp -implicitDefEqProofs only [q_is_within, b_is_within, h1, h2, h, pre_n, pre_o, of_s, r_var, var1_s, r_c, r_nil, r_cons, cons1_o, cons2_o, r_lst, lst1_o, r_tup, tup1_o, r_bin, bin1_o, bin2_o, r_un, un1_o, r_bits, r_tof, tof1_o, r_and, and1_t, and1_f, r_or, or1_t, or1_f, r_not, not1_o, r_eand, eand1_t, eand1_f, r_eor, eor1_t, eor1_f, r_enot, enot1_o, r_eif, eif1_t, eif1_f, r_call, call1_o, r_callD, r_callK, callK1_o, callK2_o, r_make, r_makeP, r_mth, mth1_o, mth2_o, r_b, r_m, m1_lst, m2_o, ofW_s, r_isi, isi1_o, isi3_s, r_fld, fld1_o, fld2_s, r_eqo, eqo1_o, eqo2_o, eqo3_o, r_osm, osm1_o, r_onone, r_sl, sl1_o, sl2_o, sl3_o, r_rev, rev1_o, r_seq, seq1_l, seq1_t, r_rng1, rng1_o, r_zip, zip1_o, r_enum, enum1_o, r_lc, lc1_o, put_0, put_c, setv_c, r_sseq, then1_n, then1_r, then1_c, then1_b, r_snil, r_sretn, r_scont, r_sbrk, r_sexpr, expr1_o, r_sret, ret1_o, r_sset, set1_o, r_sif, sif1_t, sif1_f, r_stg, stg1_o, tg1_s, r_spar, par1_o, r_spar3, par3_o, r_saug, aug0_s, aug1_o, aug2_s, r_ssub, sub0_o, sub1_o, sub2_o, sub3_s, r_sfld, sfld0_o, sfld1_o, r_sfor, for1_o, r_swhile, r_run, run1_n, run1_r, len_rng, len_li, len_lst, len_tup, len_zip, len_enum, puts, putsL, optmap_nil, get_comp, puts_comp, putsL_comp, put_comp', puts_nil, putsL_nil, putE_nil, putE_map, comp_nil, nil_comp, comp_one, cutW_nil, get_one, get_nil, puts_li, putsL_li, li_len, permL, D.has, hasL, hasL_li, isTyD, isClD, isi2, isD_non, isNone, cmpD_int, negD_int, addD_int, subD_int, eqD_int, neD_int, eqD_li, neD_li, listD_lst, listD_tup, tupleD_lst, lenD_lst, lenD_tup, intD1_int, ixD_0, ixD_1, ixD_2, ixD_3, bitsD_int, cutOk, List.map_cons, List.map_nil, List.length_cons, List.length_nil, List.getElem?_cons_zero, List.getElem?_cons_succ, List.set_cons_zero, List.set_cons_succ, List.replicate, List.cons_append, List.nil_append, Option.map_some, Option.map_none, Nat.reduceAdd, Nat.reduceSub, Nat.add_assoc, Nat.zero_add, Nat.add_zero, Bool.not_true, Bool.not_false, beq_self_eq_true, String.reduceBEq, Bool.true_or, Bool.false_or, Bool.or_true, Bool.or_false, Bool.true_and, Bool.false_and, Bool.and_true, Bool.and_false, decide_true, decide_false, Bool.false_eq_true, if_true, if_false, reduceCtorEq, Nat.reduceLeDiff, r_star, star1_l, star1_t, star2_o, r_rng2, r_zipN, zipN1_o, minD_pair, maxD_pair, tgT_2, tgT_3, tg1_s]
theorem v_check_alike (a b c a' b' c' : Nat) (bs rs rs' : List Int) (n : Nat) : q_check_alike [ho a b c bs rs, ho a' b' c' bs rs'] n = .ok .non n [] := by
  have h1 := v_check_house a b c bs rs n
  have h2 := v_check_house a' b' c' bs rs' n
  unfold ho at *
  simp -implicitDefEqProofs only [q_check_alike, b_check_alike, h1, h2, pre_n, pre_o, of_s, r_var, var1_s, r_c, r_nil, r_cons, cons1_o, cons2_o, r_lst, lst1_o, r_tup, tup1_o, r_bin, bin1_o, bin2_o, r_un, un1_o, r_bits, r_tof, tof1_o, r_and, and1_t, and1_f, r_or, or1_t, or1_f, r_not, not1_o, r_eand, eand1_t, eand1_f, r_eor, eor1_t, eor1_f, r_enot, enot1_o, r_eif, eif1_t, eif1_f, r_call, call1_o, r_callD, r_callK, callK1_o, callK2_o, r_make, r_makeP, r_mth, mth1_o, mth2_o, r_b, r_m, m1_lst, m2_o, ofW_s, r_isi, isi1_o, isi3_s, r_fld, fld1_o, fld2_s, r_eqo, eqo1_o, eqo2_o, eqo3_o, r_osm, osm1_o, r_onone, r_sl, sl1_o, sl2_o, sl3_o, r_rev, rev1_o, r_seq, seq1_l, seq1_t, r_rng1, rng1_o, r_zip, zip1_o, r_enum, enum1_o, r_lc, lc1_o, put_0, put_c, setv_c, r_sseq, then1_n, then1_r, then1_c, then1_b, r_snil, r_sretn, r_scont, r_sbrk, r_sexpr, expr1_o, r_sret, ret1_o, r_sset, set1_o, r_sif, sif1_t, sif1_f, r_stg, stg1_o, tg1_s, r_spar, par1_o, r_spar3, par3_o, r_saug, aug0_s, aug1_o, aug2_s, r_ssub, sub0_o, sub1_o, sub2_o, sub3_s, r_sfld, sfld0_o, sfld1_o, r_sfor, for1_o, r_swhile, r_run, run1_n, run1_r, len_rng, len_li, len_lst, len_tup, len_zip, len_enum, puts, putsL, optmap_nil, get_comp, puts_comp, putsL_comp, put_comp', puts_nil, putsL_nil, putE_nil, putE_map, comp_nil, nil_comp, comp_one, cutW_nil, get_one, get_nil, puts_li, putsL_li, li_len, permL, D.has, hasL, hasL_li, isTyD, isClD, isi2, isD_non, isNone, cmpD_int, negD_int, addD_int, subD_int, eqD_int, neD_int, eqD_li, neD_li, listD_lst, listD_tup, tupleD_lst, lenD_lst, lenD_tup, intD1_int, ixD_0, ixD_1, ixD_2, ixD_3, bitsD_int, cutOk, List.map_cons, List.map_nil, List.length_cons, List.length_nil, List.getElem?_cons_zero, List.getElem?_cons_succ, List.set_cons_zero, List.set_cons_succ, List.replicate, List.cons_append, List.nil_append, Option.map_some, Option.map_none, Nat.reduceAdd, Nat.reduceSub, Nat.add_assoc, Nat.zero_add, Nat.add_zero, Bool.not_true, Bool.not_false, beq_self_eq_true, String.reduceBEq, Bool.true_or, Bool.false_or, Bool.or_true, Bool.or_false, Bool.true_and, Bool.false_and, Bool.and_true, Bool.and_false, decide_true, decide_false, Bool.false_eq_true, if_true, if_false, reduceCtorEq, Nat.reduceLeDiff, r_star, star1_l, star1_t, star2_o, r_rng2, r_zipN, zipN1_o, minD_pair, maxD_pair, tgT_2, tgT_3, tg1_s]
theorem len_zw {g : Int → Int → Int} {xs ys : List Int} (h : xs.length = ys.length) : (List.zipWith g xs ys).length = xs.length := by rw [List.length_zipWith]; omega
theorem v_lesser (a b c a' b' c' : Nat) (bs rs rs' : List Int) (n : Nat) (hb : b < n) (hbs : ∀ x ∈ bs, 2 ≤ x) (hr : ∀ x ∈ List.zipWith min rs rs', 0 ≤ x) (hl : rs.length = bs.length + 1) (hl2 : rs.length = rs'.length) (hz : bs.length ≤ 900) :
    q_lesser_house [ho a b c bs rs, ho a' b' c' bs rs'] n = .ok (ho (n + 1) (n + 4) (n + 5) bs (List.zipWith min rs rs')) (n + 6) [] := by
  have h1 := v_check_alike a b c a' b' c' bs rs rs' n
  have lz := lc_zipP (own := [2]) (tg := tgN 2) (el := c_lesser_house_1) c c' rs rs' (fun x y => .int (min x y)) n [some (ho a b c bs rs), some (ho a' b' c' bs rs'), none] hl2 (by omega) (fun x y => ⟨_, rfl, by simp -implicitDefEqProofs only [c_lesser_house_1, wipeE, pre_n, pre_o, of_s, r_var, var1_s, r_c, r_nil, r_cons, cons1_o, cons2_o, r_lst, lst1_o, r_tup, tup1_o, r_bin, bin1_o, bin2_o, r_un, un1_o, r_bits, r_tof, tof1_o, r_and, and1_t, and1_f, r_or, or1_t, or1_f, r_not, not1_o, r_eand, eand1_t, eand1_f, r_eor, eor1_t, eor1_f, r_enot, enot1_o, r_eif, eif1_t, eif1_f, r_call, call1_o, r_callD, r_callK, callK1_o, callK2_o, r_make, r_makeP, r_mth, mth1_o, mth2_o, r_b, r_m, m1_lst, m2_o, ofW_s, r_isi, isi1_o, isi3_s, r_fld, fld1_o, fld2_s, r_eqo, eqo1_o, eqo2_o, eqo3_o, r_osm, osm1_o, r_onone, r_sl, sl1_o, sl2_o, sl3_o, r_rev, rev1_o, r_seq, seq1_l, seq1_t, r_rng1, rng1_o, r_zip, zip1_o, r_enum, enum1_o, r_lc, lc1_o, put_0, put_c, setv_c, r_sseq, then1_n, then1_r, then1_c, then1_b, r_snil, r_sretn, r_scont, r_sbrk, r_sexpr, expr1_o, r_sret, ret1_o, r_sset, set1_o, r_sif, sif1_t, sif1_f, r_stg, stg1_o, tg1_s, r_spar, par1_o, r_spar3, par3_o, r_saug, aug0_s, aug1_o, aug2_s, r_ssub, sub0_o, sub1_o, sub2_o, sub3_s, r_sfld, sfld0_o, sfld1_o, r_sfor, for1_o, r_swhile, r_run, run1_n, run1_r, len_rng, len_li, len_lst, len_tup, len_zip, len_enum, puts, putsL, optmap_nil, get_comp, puts_comp, putsL_comp, put_comp', puts_nil, putsL_nil, putE_nil, putE_map, comp_nil, nil_comp, comp_one, cutW_nil, get_one, get_nil, puts_li, putsL_li, li_len, permL, D.has, hasL, hasL_li, isTyD, isClD, isi2, isD_non, isNone, cmpD_int, negD_int, addD_int, subD_int, eqD_int, neD_int, eqD_li, neD_li, listD_lst, listD_tup, tupleD_lst, lenD_lst, lenD_tup, intD1_int, ixD_0, ixD_1, ixD_2, ixD_3, bitsD_int, cutOk, List.map_cons, List.map_nil, List.length_cons, List.length_nil, List.getElem?_cons_zero, List.getElem?_cons_succ, List.set_cons_zero, List.set_cons_succ, List.replicate, List.cons_append, List.nil_append, Option.map_some, Option.map_none, Nat.reduceAdd, Nat.reduceSub, Nat.add_assoc, Nat.zero_add, Nat.add_zero, Bool.not_true, Bool.not_false, beq_self_eq_true, String.reduceBEq, Bool.true_or, Bool.false_or, Bool.or_true, Bool.or_false, Bool.true_and, Bool.false_and, Bool.and_true, Bool.and_false, decide_true, decide_false, Bool.false_eq_true, if_true, if_false, reduceCtorEq, Nat.reduceLeDiff, r_star, star1_l, star1_t, star2_o, r_rng2, r_zipN, zipN1_o, minD_pair, maxD_pair, tgT_2, tgT_3, tg1_s]⟩)
  rw [li_zipWith] at lz
  have vm := v_mk b n bs (List.zipWith min rs rs') (n + 1) (by omega) (by omega) hbs hr (by rw [len_zw hl2]; exact hl) (by omega)
  unfold ho at *
  simp -implicitDefEqProofs only [q_lesser_house, b_lesser_house, h1, lz, vm, pre_n, pre_o, of_s, r_var, var1_s, r_c, r_nil, r_cons, cons1_o, cons2_o, r_lst, lst1_o, r_tup, tup1_o, r_bin, bin1_o, bin2_o, r_un, un1_o, r_bits, r_tof, tof1_o, r_and, and1_t, and1_f, r_or, or1_t, or1_f, r_not, not1_o, r_eand, eand1_t, eand1_f, r_eor, eor1_t, eor1_f, r_enot, enot1_o, r_eif, eif1_t, eif1_f, r_call, call1_o, r_callD, r_callK, callK1_o, callK2_o, r_make, r_makeP, r_mth, mth1_o, mth2_o, r_b, r_m, m1_lst, m2_o, ofW_s, r_isi, isi1_o, isi3_s, r_fld, fld1_o, fld2_s, r_eqo, eqo1_o, eqo2_o, eqo3_o, r_osm, osm1_o, r_onone, r_sl, sl1_o, sl2_o, sl3_o, r_rev, rev1_o, r_seq, seq1_l, seq1_t, r_rng1, rng1_o, r_zip, zip1_o, r_enum, enum1_o, r_lc, lc1_o, put_0, put_c, setv_c, r_sseq, then1_n, then1_r, then1_c, then1_b, r_snil, r_sretn, r_scont, r_sbrk, r_sexpr, expr1_o, r_sret, ret1_o, r_sset, set1_o, r_sif, sif1_t, sif1_f, r_stg, stg1_o, tg1_s, r_spar, par1_o, r_spar3, par3_o, r_saug, aug0_s, aug1_o, aug2_s, r_ssub, sub0_o, sub1_o, sub2_o, sub3_s, r_sfld, sfld0_o, sfld1_o, r_sfor, for1_o, r_swhile, r_run, run1_n, run1_r, len_rng, len_li, len_lst, len_tup, len_zip, len_enum, puts, putsL, optmap_nil, get_comp, puts_comp, putsL_comp, put_comp', puts_nil, putsL_nil, putE_nil, putE_map, comp_nil, nil_comp, comp_one, cutW_nil, get_one, get_nil, puts_li, putsL_li, li_len, permL, D.has, hasL, hasL_li, isTyD, isClD, isi2, isD_non, isNone, cmpD_int, negD_int, addD_int, subD_int, eqD_int, neD_int, eqD_li, neD_li, listD_lst, listD_tup, tupleD_lst, lenD_lst, lenD_tup, intD1_int, ixD_0, ixD_1, ixD_2, ixD_3, bitsD_int, cutOk, List.map_cons, List.map_nil, List.length_cons, List.length_nil, List.getElem?_cons_zero, List.getElem?_cons_succ, List.set_cons_zero, List.set_cons_succ, List.replicate, List.cons_append, List.nil_append, Option.map_some, Option.map_none, Nat.reduceAdd, Nat.reduceSub, Nat.add_assoc, Nat.zero_add, Nat.add_zero, Bool.not_true, Bool.not_false, beq_self_eq_true, String.reduceBEq, Bool.true_or, Bool.false_or, Bool.or_true, Bool.or_false, Bool.true_and, Bool.false_and, Bool.and_true, Bool.and_false, decide_true, decide_false, Bool.false_eq_true, if_true, if_false, reduceCtorEq, Nat.reduceLeDiff, r_star, star1_l, star1_t, star2_o, r_rng2, r_zipN, zipN1_o, minD_pair, maxD_pair, tgT_2, tgT_3, tg1_s]
theorem v_greater (a b c a' b' c' : Nat) (bs rs rs' : List Int) (n : Nat) (hb : b < n) (hbs : ∀ x ∈ bs, 2 ≤ x) (hr : ∀ x ∈ List.zipWith max rs rs', 0 ≤ x) (hl : rs.length = bs.length + 1) (hl2 : rs.length = rs'.length) (hz : bs.length ≤ 900) :
    q_greater_house [ho a b c bs rs, ho a' b' c' bs rs'] n = .ok (ho (n + 1) (n + 4) (n + 5) bs (List.zipWith max rs rs')) (n + 6) [] := by
  have h1 := v_check_alike a b c a' b' c' bs rs rs' n
  have lz := lc_zipP (own := [2]) (tg := tgN 2) (el := c_greater_house_1) c c' rs rs' (fun x y => .int (max x y)) n [some (ho a b c bs rs), some (ho a' b' c' bs rs'), none] hl2 (by omega) (fun x y => ⟨_, rfl, by simp -implicitDefEqProofs only [c_greater_house_1, wipeE, pre_n, pre_o, of_s, r_var, var1_s, r_c, r_nil, r_cons, cons1_o, cons2_o, r_lst, lst1_o, r_tup, tup1_o, r_bin, bin1_o, bin2_o, r_un, un1_o, r_bits, r_tof, tof1_o, r_and, and1_t, and1_f, r_or, or1_t, or1_f, r_not, not1_o, r_eand, eand1_t, eand1_f, r_eor, eor1_t, eor1_f, r_enot, enot1_o, r_eif, eif1_t, eif1_f, r_call, call1_o, r_callD, r_callK, callK1_o, callK2_o, r_make, r_makeP, r_mth, mth1_o, mth2_o, r_b, r_m, m1_lst, m2_o, ofW_s, r_isi, isi1_o, isi3_s, r_fld, fld1_o, fld2_s, r_eqo, eqo1_o, eqo2_o, eqo3_o, r_osm, osm1_o, r_onone, r_sl, sl1_o, sl2_o, sl3_o, r_rev, rev1_o, r_seq, seq1_l, seq1_t, r_rng1, rng1_o, r_zip, zip1_o, r_enum, enum1_o, r_lc, lc1_o, put_0, put_c, setv_c, r_sseq, then1_n, then1_r, then1_c, then1_b, r_snil, r_sretn, r_scont, r_sbrk, r_sexpr, expr1_o, r_sret, ret1_o, r_sset, set1_o, r_sif, sif1_t, sif1_f, r_stg, stg1_o, tg1_s, r_spar, par1_o, r_spar3, par3_o, r_saug, aug0_s, aug1_o, aug2_s, r_ssub, sub0_o, sub1_o, sub2_o, sub3_s, r_sfld, sfld0_o, sfld1_o, r_sfor, for1_o, r_swhile, r_run, run1_n, run1_r, len_rng, len_li, len_lst, len_tup, len_zip, len_enum, puts, putsL, optmap_nil, get_comp, puts_comp, putsL_comp, put_comp', puts_nil, putsL_nil, putE_nil, putE_map, comp_nil, nil_comp, comp_one, cutW_nil, get_one, get_nil, puts_li, putsL_li, li_len, permL, D.has, hasL, hasL_li, isTyD, isClD, isi2, isD_non, isNone, cmpD_int, negD_int, addD_int, subD_int, eqD_int, neD_int, eqD_li, neD_li, listD_lst, listD_tup, tupleD_lst, lenD_lst, lenD_tup, intD1_int, ixD_0, ixD_1, ixD_2, ixD_3, bitsD_int, cutOk, List.map_cons, List.map_nil, List.length_cons, List.length_nil, List.getElem?_cons_zero, List.getElem?_cons_succ, List.set_cons_zero, List.set_cons_succ, List.replicate, List.cons_append, List.nil_append, Option.map_some, Option.map_none, Nat.reduceAdd, Nat.reduceSub, Nat.add_assoc, Nat.zero_add, Nat.add_zero, Bool.not_true, Bool.not_false, beq_self_eq_true, String.reduceBEq, Bool.true_or, Bool.false_or, Bool.or_true, Bool.or_false, Bool.true_and, Bool.false_and, Bool.and_true, Bool.and_false, decide_true, decide_false, Bool.false_eq_true, if_true, if_false, reduceCtorEq, Nat.reduceLeDiff, r_star, star1_l, star1_t, star2_o, r_rng2, r_zipN, zipN1_o, minD_pair, maxD_pair, tgT_2, tgT_3, tg1_s]⟩)
  rw [li_zipWith] at lz
  have vm := v_mk b n bs (List.zipWith max rs rs') (n + 1) (by omega) (by omega) hbs hr (by rw [len_zw hl2]; exact hl) (by omega)
  unfold ho at *
  simp -implicitDefEqProofs only [q_greater_house, b_greater_house, h1, lz, vm, pre_n, pre_o, of_s, r_var, var1_s, r_c, r_nil, r_cons, cons1_o, cons2_o, r_lst, lst1_o, r_tup, tup1_o, r_bin, bin1_o, bin2_o, r_un, un1_o, r_bits, r_tof, tof1_o, r_and, and1_t, and1_f, r_or, or1_t, or1_f, r_not, not1_o, r_eand, eand1_t, eand1_f, r_eor, eor1_t, eor1_f, r_enot, enot1_o, r_eif, eif1_t, eif1_f, r_call, call1_o, r_callD, r_callK, callK1_o, callK2_o, r_make, r_makeP, r_mth, mth1_o, mth2_o, r_b, r_m, m1_lst, m2_o, ofW_s, r_isi, isi1_o, isi3_s, r_fld, fld1_o, fld2_s, r_eqo, eqo1_o, eqo2_o, eqo3_o, r_osm, osm1_o, r_onone, r_sl, sl1_o, sl2_o, sl3_o, r_rev, rev1_o, r_seq, seq1_l, seq1_t, r_rng1, rng1_o, r_zip, zip1_o, r_enum, enum1_o, r_lc, lc1_o, put_0, put_c, setv_c, r_sseq, then1_n, then1_r, then1_c, then1_b, r_snil, r_sretn, r_scont, r_sbrk, r_sexpr, expr1_o, r_sret, ret1_o, r_sset, set1_o, r_sif, sif1_t, sif1_f, r_stg, stg1_o, tg1_s, r_spar, par1_o, r_spar3, par3_o, r_saug, aug0_s, aug1_o, aug2_s, r_ssub, sub0_o, sub1_o, sub2_o, sub3_s, r_sfld, sfld0_o, sfld1_o, r_sfor, for1_o, r_swhile, r_run, run1_n, run1_r, len_rng, len_li, len_lst, len_tup, len_zip, len_enum, puts, putsL, optmap_nil, get_comp, puts_comp, putsL_comp, put_comp', puts_nil, putsL_nil, putE_nil, putE_map, comp_nil, nil_comp, comp_one, cutW_nil, get_one, get_nil, puts_li, putsL_li, li_len, permL, D.has, hasL, hasL_li, isTyD, isClD, isi2, isD_non, isNone, cmpD_int, negD_int, addD_int, subD_int, eqD_int, neD_int, eqD_li, neD_li, listD_lst, listD_tup, tupleD_lst, lenD_lst, lenD_tup, intD1_int, ixD_0, ixD_1, ixD_2, ixD_3, bitsD_int, cutOk, List.map_cons, List.map_nil, List.length_cons, List.length_nil, List.getElem?_cons_zero, List.getElem?_cons_succ, List.set_cons_zero, List.set_cons_succ, List.replicate, List.cons_append, List.nil_append, Option.map_some, Option.map_none, Nat.reduceAdd, Nat.reduceSub, Nat.add_assoc, Nat.zero_add, Nat.add_zero, Bool.not_true, Bool.not_false, beq_self_eq_true, String.reduceBEq, Bool.true_or, Bool.false_or, Bool.or_true, Bool.or_false, Bool.true_and, Bool.false_and, Bool.and_true, Bool.and_false, decide_true, decide_false, Bool.false_eq_true, if_true, if_false, reduceCtorEq, Nat.reduceLeDiff, r_star, star1_l, star1_t, star2_o, r_rng2, r_zipN, zipN1_o, minD_pair, maxD_pair, tgT_2, tgT_3, tg1_s]
theorem v_check_place (a b c n k : Nat) (bs rs : List Int) (h : k < rs.length) : q_check_place [ho a b c bs rs, .int (k : Int)] n = .ok .non n [] := by
  have h1 := v_is_count (k : Int) n (by omega)
  have h2 : ¬ (rs.length : Int) ≤ k := by omega
  unfold ho at *
  simp -implicitDefEqProofs only [q_check_place, b_check_place, h1, h2, pre_n, pre_o, of_s, r_var, var1_s, r_c, r_nil, r_cons, cons1_o, cons2_o, r_lst, lst1_o, r_tup, tup1_o, r_bin, bin1_o, bin2_o, r_un, un1_o, r_bits, r_tof, tof1_o, r_and, and1_t, and1_f, r_or, or1_t, or1_f, r_not, not1_o, r_eand, eand1_t, eand1_f, r_eor, eor1_t, eor1_f, r_enot, enot1_o, r_eif, eif1_t, eif1_f, r_call, call1_o, r_callD, r_callK, callK1_o, callK2_o, r_make, r_makeP, r_mth, mth1_o, mth2_o, r_b, r_m, m1_lst, m2_o, ofW_s, r_isi, isi1_o, isi3_s, r_fld, fld1_o, fld2_s, r_eqo, eqo1_o, eqo2_o, eqo3_o, r_osm, osm1_o, r_onone, r_sl, sl1_o, sl2_o, sl3_o, r_rev, rev1_o, r_seq, seq1_l, seq1_t, r_rng1, rng1_o, r_zip, zip1_o, r_enum, enum1_o, r_lc, lc1_o, put_0, put_c, setv_c, r_sseq, then1_n, then1_r, then1_c, then1_b, r_snil, r_sretn, r_scont, r_sbrk, r_sexpr, expr1_o, r_sret, ret1_o, r_sset, set1_o, r_sif, sif1_t, sif1_f, r_stg, stg1_o, tg1_s, r_spar, par1_o, r_spar3, par3_o, r_saug, aug0_s, aug1_o, aug2_s, r_ssub, sub0_o, sub1_o, sub2_o, sub3_s, r_sfld, sfld0_o, sfld1_o, r_sfor, for1_o, r_swhile, r_run, run1_n, run1_r, len_rng, len_li, len_lst, len_tup, len_zip, len_enum, puts, putsL, optmap_nil, get_comp, puts_comp, putsL_comp, put_comp', puts_nil, putsL_nil, putE_nil, putE_map, comp_nil, nil_comp, comp_one, cutW_nil, get_one, get_nil, puts_li, putsL_li, li_len, permL, D.has, hasL, hasL_li, isTyD, isClD, isi2, isD_non, isNone, cmpD_int, negD_int, addD_int, subD_int, eqD_int, neD_int, eqD_li, neD_li, listD_lst, listD_tup, tupleD_lst, lenD_lst, lenD_tup, intD1_int, ixD_0, ixD_1, ixD_2, ixD_3, bitsD_int, cutOk, List.map_cons, List.map_nil, List.length_cons, List.length_nil, List.getElem?_cons_zero, List.getElem?_cons_succ, List.set_cons_zero, List.set_cons_succ, List.replicate, List.cons_append, List.nil_append, Option.map_some, Option.map_none, Nat.reduceAdd, Nat.reduceSub, Nat.add_assoc, Nat.zero_add, Nat.add_zero, Bool.not_true, Bool.not_false, beq_self_eq_true, String.reduceBEq, Bool.true_or, Bool.false_or, Bool.or_true, Bool.or_false, Bool.true_and, Bool.false_and, Bool.and_true, Bool.and_false, decide_true, decide_false, Bool.false_eq_true, if_true, if_false, reduceCtorEq, Nat.reduceLeDiff, r_star, star1_l, star1_t, star2_o, r_rng2, r_zipN, zipN1_o, minD_pair, maxD_pair, tgT_2, tgT_3, tg1_s]
theorem v_check_low_place (a b c n k : Nat) (bs rs : List Int) (h : k < bs.length) : q_check_low_place [ho a b c bs rs, .int (k : Int)] n = .ok .non n [] := by
  have h1 := v_is_count (k : Int) n (by omega)
  have h2 : ¬ (bs.length : Int) ≤ k := by omega
  unfold ho at *
  simp -implicitDefEqProofs only [q_check_low_place, b_check_low_place, h1, h2, pre_n, pre_o, of_s, r_var, var1_s, r_c, r_nil, r_cons, cons1_o, cons2_o, r_lst, lst1_o, r_tup, tup1_o, r_bin, bin1_o, bin2_o, r_un, un1_o, r_bits, r_tof, tof1_o, r_and, and1_t, and1_f, r_or, or1_t, or1_f, r_not, not1_o, r_eand, eand1_t, eand1_f, r_eor, eor1_t, eor1_f, r_enot, enot1_o, r_eif, eif1_t, eif1_f, r_call, call1_o, r_callD, r_callK, callK1_o, callK2_o, r_make, r_makeP, r_mth, mth1_o, mth2_o, r_b, r_m, m1_lst, m2_o, ofW_s, r_isi, isi1_o, isi3_s, r_fld, fld1_o, fld2_s, r_eqo, eqo1_o, eqo2_o, eqo3_o, r_osm, osm1_o, r_onone, r_sl, sl1_o, sl2_o, sl3_o, r_rev, rev1_o, r_seq, seq1_l, seq1_t, r_rng1, rng1_o, r_zip, zip1_o, r_enum, enum1_o, r_lc, lc1_o, put_0, put_c, setv_c, r_sseq, then1_n, then1_r, then1_c, then1_b, r_snil, r_sretn, r_scont, r_sbrk, r_sexpr, expr1_o, r_sret, ret1_o, r_sset, set1_o, r_sif, sif1_t, sif1_f, r_stg, stg1_o, tg1_s, r_spar, par1_o, r_spar3, par3_o, r_saug, aug0_s, aug1_o, aug2_s, r_ssub, sub0_o, sub1_o, sub2_o, sub3_s, r_sfld, sfld0_o, sfld1_o, r_sfor, for1_o, r_swhile, r_run, run1_n, run1_r, len_rng, len_li, len_lst, len_tup, len_zip, len_enum, puts, putsL, optmap_nil, get_comp, puts_comp, putsL_comp, put_comp', puts_nil, putsL_nil, putE_nil, putE_map, comp_nil, nil_comp, comp_one, cutW_nil, get_one, get_nil, puts_li, putsL_li, li_len, permL, D.has, hasL, hasL_li, isTyD, isClD, isi2, isD_non, isNone, cmpD_int, negD_int, addD_int, subD_int, eqD_int, neD_int, eqD_li, neD_li, listD_lst, listD_tup, tupleD_lst, lenD_lst, lenD_tup, intD1_int, ixD_0, ixD_1, ixD_2, ixD_3, bitsD_int, cutOk, List.map_cons, List.map_nil, List.length_cons, List.length_nil, List.getElem?_cons_zero, List.getElem?_cons_succ, List.set_cons_zero, List.set_cons_succ, List.replicate, List.cons_append, List.nil_append, Option.map_some, Option.map_none, Nat.reduceAdd, Nat.reduceSub, Nat.add_assoc, Nat.zero_add, Nat.add_zero, Bool.not_true, Bool.not_false, beq_self_eq_true, String.reduceBEq, Bool.true_or, Bool.false_or, Bool.or_true, Bool.or_false, Bool.true_and, Bool.false_and, Bool.and_true, Bool.and_false, decide_true, decide_false, Bool.false_eq_true, if_true, if_false, reduceCtorEq, Nat.reduceLeDiff, r_star, star1_l, star1_t, star2_o, r_rng2, r_zipN, zipN1_o, minD_pair, maxD_pair, tgT_2, tgT_3, tg1_s]
theorem v_roomed (a b c n k : Nat) (r : Int) (bs rs : List Int) (hb : b < n) (hk : k < rs.length) (h0 : 0 ≤ r) (hbs : ∀ x ∈ bs, 2 ≤ x) (hr : ∀ x ∈ rs, 0 ≤ x) (hl : rs.length = bs.length + 1) (hz : bs.length ≤ 900) :
    q_roomed [ho a b c bs rs, .int (k : Int), .int r] n = .ok (ho (n + 3) (n + 6) (n + 7) bs (rs.set k r)) (n + 8) [] := by
  have s1 := slD_pre c rs k n (by omega)
  have s2 := slD_suf c rs (k + 1) (n + 1) (by omega)
  have e1 : ((k : Int) + 1) = ((k + 1 : Nat) : Int) := by omega
  have e2 : li (rs.take k) ++ D.int r :: li (rs.drop (k + 1)) = li (rs.set k r) := by
    rw [← set_up rs k r hk]
    unfold li
    simp
  have hs : (rs.set k r).length = rs.length := List.length_set
  have vm := v_mk b (n + 2) bs (rs.set k r) (n + 3) (by omega) (by omega) hbs (fun x hx => by
    rcases List.mem_or_eq_of_mem_set hx with h | h
    · exact hr x h
    · omega) (by omega) (by omega)
  have hc' : (rs.set k r).length ≤ 16777216 := by omega
  unfold ho at *
  simp -implicitDefEqProofs only [q_roomed, b_roomed, s1, s2, e1, List.append_nil, e2, hc', vm, pre_n, pre_o, of_s, r_var, var1_s, r_c, r_nil, r_cons, cons1_o, cons2_o, r_lst, lst1_o, r_tup, tup1_o, r_bin, bin1_o, bin2_o, r_un, un1_o, r_bits, r_tof, tof1_o, r_and, and1_t, and1_f, r_or, or1_t, or1_f, r_not, not1_o, r_eand, eand1_t, eand1_f, r_eor, eor1_t, eor1_f, r_enot, enot1_o, r_eif, eif1_t, eif1_f, r_call, call1_o, r_callD, r_callK, callK1_o, callK2_o, r_make, r_makeP, r_mth, mth1_o, mth2_o, r_b, r_m, m1_lst, m2_o, ofW_s, r_isi, isi1_o, isi3_s, r_fld, fld1_o, fld2_s, r_eqo, eqo1_o, eqo2_o, eqo3_o, r_osm, osm1_o, r_onone, r_sl, sl1_o, sl2_o, sl3_o, r_rev, rev1_o, r_seq, seq1_l, seq1_t, r_rng1, rng1_o, r_zip, zip1_o, r_enum, enum1_o, r_lc, lc1_o, put_0, put_c, setv_c, r_sseq, then1_n, then1_r, then1_c, then1_b, r_snil, r_sretn, r_scont, r_sbrk, r_sexpr, expr1_o, r_sret, ret1_o, r_sset, set1_o, r_sif, sif1_t, sif1_f, r_stg, stg1_o, tg1_s, r_spar, par1_o, r_spar3, par3_o, r_saug, aug0_s, aug1_o, aug2_s, r_ssub, sub0_o, sub1_o, sub2_o, sub3_s, r_sfld, sfld0_o, sfld1_o, r_sfor, for1_o, r_swhile, r_run, run1_n, run1_r, len_rng, len_li, len_lst, len_tup, len_zip, len_enum, puts, putsL, optmap_nil, get_comp, puts_comp, putsL_comp, put_comp', puts_nil, putsL_nil, putE_nil, putE_map, comp_nil, nil_comp, comp_one, cutW_nil, get_one, get_nil, puts_li, putsL_li, li_len, permL, D.has, hasL, hasL_li, isTyD, isClD, isi2, isD_non, isNone, cmpD_int, negD_int, addD_int, subD_int, eqD_int, neD_int, eqD_li, neD_li, listD_lst, listD_tup, tupleD_lst, lenD_lst, lenD_tup, intD1_int, ixD_0, ixD_1, ixD_2, ixD_3, bitsD_int, cutOk, List.map_cons, List.map_nil, List.length_cons, List.length_nil, List.getElem?_cons_zero, List.getElem?_cons_succ, List.set_cons_zero, List.set_cons_succ, List.replicate, List.cons_append, List.nil_append, Option.map_some, Option.map_none, Nat.reduceAdd, Nat.reduceSub, Nat.add_assoc, Nat.zero_add, Nat.add_zero, Bool.not_true, Bool.not_false, beq_self_eq_true, String.reduceBEq, Bool.true_or, Bool.false_or, Bool.or_true, Bool.or_false, Bool.true_and, Bool.false_and, Bool.and_true, Bool.and_false, decide_true, decide_false, Bool.false_eq_true, if_true, if_false, reduceCtorEq, Nat.reduceLeDiff, r_star, star1_l, star1_t, star2_o, r_rng2, r_zipN, zipN1_o, minD_pair, maxD_pair, tgT_2, tgT_3, tg1_s]
theorem v_with_room (a b c n k : Nat) (r : Int) (bs rs : List Int) (hb : b < n) (hk : k < rs.length) (h0 : 0 ≤ r) (hbs : ∀ x ∈ bs, 2 ≤ x) (hr : ∀ x ∈ rs, 0 ≤ x) (hl : rs.length = bs.length + 1) (hz : bs.length ≤ 900) :
    q_with_room [ho a b c bs rs, .int (k : Int), .int r] n = .ok (ho (n + 3) (n + 6) (n + 7) bs (rs.set k r)) (n + 8) [] := by
  have h1 := v_check_house a b c bs rs n
  have h2 := v_check_place a b c n k bs rs hk
  have h3 := v_is_count r n h0
  have h4 := v_roomed a b c n k r bs rs hb hk h0 hbs hr hl hz
  unfold ho at *
  simp -implicitDefEqProofs only [q_with_room, b_with_room, h1, h2, h3, h4, pre_n, pre_o, of_s, r_var, var1_s, r_c, r_nil, r_cons, cons1_o, cons2_o, r_lst, lst1_o, r_tup, tup1_o, r_bin, bin1_o, bin2_o, r_un, un1_o, r_bits, r_tof, tof1_o, r_and, and1_t, and1_f, r_or, or1_t, or1_f, r_not, not1_o, r_eand, eand1_t, eand1_f, r_eor, eor1_t, eor1_f, r_enot, enot1_o, r_eif, eif1_t, eif1_f, r_call, call1_o, r_callD, r_callK, callK1_o, callK2_o, r_make, r_makeP, r_mth, mth1_o, mth2_o, r_b, r_m, m1_lst, m2_o, ofW_s, r_isi, isi1_o, isi3_s, r_fld, fld1_o, fld2_s, r_eqo, eqo1_o, eqo2_o, eqo3_o, r_osm, osm1_o, r_onone, r_sl, sl1_o, sl2_o, sl3_o, r_rev, rev1_o, r_seq, seq1_l, seq1_t, r_rng1, rng1_o, r_zip, zip1_o, r_enum, enum1_o, r_lc, lc1_o, put_0, put_c, setv_c, r_sseq, then1_n, then1_r, then1_c, then1_b, r_snil, r_sretn, r_scont, r_sbrk, r_sexpr, expr1_o, r_sret, ret1_o, r_sset, set1_o, r_sif, sif1_t, sif1_f, r_stg, stg1_o, tg1_s, r_spar, par1_o, r_spar3, par3_o, r_saug, aug0_s, aug1_o, aug2_s, r_ssub, sub0_o, sub1_o, sub2_o, sub3_s, r_sfld, sfld0_o, sfld1_o, r_sfor, for1_o, r_swhile, r_run, run1_n, run1_r, len_rng, len_li, len_lst, len_tup, len_zip, len_enum, puts, putsL, optmap_nil, get_comp, puts_comp, putsL_comp, put_comp', puts_nil, putsL_nil, putE_nil, putE_map, comp_nil, nil_comp, comp_one, cutW_nil, get_one, get_nil, puts_li, putsL_li, li_len, permL, D.has, hasL, hasL_li, isTyD, isClD, isi2, isD_non, isNone, cmpD_int, negD_int, addD_int, subD_int, eqD_int, neD_int, eqD_li, neD_li, listD_lst, listD_tup, tupleD_lst, lenD_lst, lenD_tup, intD1_int, ixD_0, ixD_1, ixD_2, ixD_3, bitsD_int, cutOk, List.map_cons, List.map_nil, List.length_cons, List.length_nil, List.getElem?_cons_zero, List.getElem?_cons_succ, List.set_cons_zero, List.set_cons_succ, List.replicate, List.cons_append, List.nil_append, Option.map_some, Option.map_none, Nat.reduceAdd, Nat.reduceSub, Nat.add_assoc, Nat.zero_add, Nat.add_zero, Bool.not_true, Bool.not_false, beq_self_eq_true, String.reduceBEq, Bool.true_or, Bool.false_or, Bool.or_true, Bool.or_false, Bool.true_and, Bool.false_and, Bool.and_true, Bool.and_false, decide_true, decide_false, Bool.false_eq_true, if_true, if_false, reduceCtorEq, Nat.reduceLeDiff, r_star, star1_l, star1_t, star2_o, r_rng2, r_zipN, zipN1_o, minD_pair, maxD_pair, tgT_2, tgT_3, tg1_s]
theorem v_tightened (a b c n k : Nat) (x y : Int) (bs rs : List Int) (hb : b < n) (hx : rs[k]? = some x) (hy : bs[k]? = some y) (hbs : ∀ x ∈ bs, 2 ≤ x) (hr : ∀ x ∈ rs, 0 ≤ x) (hl : rs.length = bs.length + 1) (hz : bs.length ≤ 900) :
    q_tightened [ho a b c bs rs, .int (k : Int)] n = .ok (ho (n + 3) (n + 6) (n + 7) bs (rs.set k (min x (y - 1)))) (n + 8) [] := by
  have hk := (List.getElem?_eq_some_iff.mp hy).1
  have hx0 := hr x (List.mem_of_getElem? hx)
  have hy0 := hbs y (List.mem_of_getElem? hy)
  have h1 := v_check_house a b c bs rs n
  have h2 := v_check_low_place a b c n k bs rs hk
  have i1 := ixD_li c rs k x n hx
  have i2 := ixD_li b bs k y n hy
  have h4 := v_roomed a b c n k (min x (y - 1)) bs rs hb (by omega) (by omega) hbs hr hl hz
  unfold ho at *
  simp -implicitDefEqProofs only [q_tightened, b_tightened, h1, h2, i1, i2, minD_2, h4, pre_n, pre_o, of_s, r_var, var1_s, r_c, r_nil, r_cons, cons1_o, cons2_o, r_lst, lst1_o, r_tup, tup1_o, r_bin, bin1_o, bin2_o, r_un, un1_o, r_bits, r_tof, tof1_o, r_and, and1_t, and1_f, r_or, or1_t, or1_f, r_not, not1_o, r_eand, eand1_t, eand1_f, r_eor, eor1_t, eor1_f, r_enot, enot1_o, r_eif, eif1_t, eif1_f, r_call, call1_o, r_callD, r_callK, callK1_o, callK2_o, r_make, r_makeP, r_mth, mth1_o, mth2_o, r_b, r_m, m1_lst, m2_o, ofW_s, r_isi, isi1_o, isi3_s, r_fld, fld1_o, fld2_s, r_eqo, eqo1_o, eqo2_o, eqo3_o, r_osm, osm1_o, r_onone, r_sl, sl1_o, sl2_o, sl3_o, r_rev, rev1_o, r_seq, seq1_l, seq1_t, r_rng1, rng1_o, r_zip, zip1_o, r_enum, enum1_o, r_lc, lc1_o, put_0, put_c, setv_c, r_sseq, then1_n, then1_r, then1_c, then1_b, r_snil, r_sretn, r_scont, r_sbrk, r_sexpr, expr1_o, r_sret, ret1_o, r_sset, set1_o, r_sif, sif1_t, sif1_f, r_stg, stg1_o, tg1_s, r_spar, par1_o, r_spar3, par3_o, r_saug, aug0_s, aug1_o, aug2_s, r_ssub, sub0_o, sub1_o, sub2_o, sub3_s, r_sfld, sfld0_o, sfld1_o, r_sfor, for1_o, r_swhile, r_run, run1_n, run1_r, len_rng, len_li, len_lst, len_tup, len_zip, len_enum, puts, putsL, optmap_nil, get_comp, puts_comp, putsL_comp, put_comp', puts_nil, putsL_nil, putE_nil, putE_map, comp_nil, nil_comp, comp_one, cutW_nil, get_one, get_nil, puts_li, putsL_li, li_len, permL, D.has, hasL, hasL_li, isTyD, isClD, isi2, isD_non, isNone, cmpD_int, negD_int, addD_int, subD_int, eqD_int, neD_int, eqD_li, neD_li, listD_lst, listD_tup, tupleD_lst, lenD_lst, lenD_tup, intD1_int, ixD_0, ixD_1, ixD_2, ixD_3, bitsD_int, cutOk, List.map_cons, List.map_nil, List.length_cons, List.length_nil, List.getElem?_cons_zero, List.getElem?_cons_succ, List.set_cons_zero, List.set_cons_succ, List.replicate, List.cons_append, List.nil_append, Option.map_some, Option.map_none, Nat.reduceAdd, Nat.reduceSub, Nat.add_assoc, Nat.zero_add, Nat.add_zero, Bool.not_true, Bool.not_false, beq_self_eq_true, String.reduceBEq, Bool.true_or, Bool.false_or, Bool.or_true, Bool.or_false, Bool.true_and, Bool.false_and, Bool.and_true, Bool.and_false, decide_true, decide_false, Bool.false_eq_true, if_true, if_false, reduceCtorEq, Nat.reduceLeDiff, r_star, star1_l, star1_t, star2_o, r_rng2, r_zipN, zipN1_o, minD_pair, maxD_pair, tgT_2, tgT_3, tg1_s]
/-- xs[lo:hi] -/
def cut (xs : List Int) (lo hi : Nat) : List Int := (xs.drop lo).take (hi - lo)
theorem slD_mid (i : Nat) (xs : List Int) (lo hi n : Nat) (h : lo ≤ hi) (h2 : hi ≤ xs.length) : slD (.lst i (li xs)) (some (lo : Int)) (some (hi : Int)) n = some (.lst n (li (cut xs lo hi)), n + 1) := by
  unfold slD
  dsimp only
  rw [HT.sIx_nat, HT.sIx_nat, li_len, Nat.min_eq_left (Nat.le_trans h h2), Nat.min_eq_left h2]
  unfold li cut
  rw [List.map_take, List.map_drop]
theorem cut_len (xs : List Int) (lo hi : Nat) (h : lo ≤ hi) (h2 : hi ≤ xs.length) : (cut xs lo hi).length = hi - lo := by
  unfold cut
  rw [List.length_take, List.length_drop]; omega
theorem cut_mem {xs : List Int} {lo hi : Nat} {x : Int} (h : x ∈ cut xs lo hi) : x ∈ xs := List.mem_of_mem_drop (List.mem_of_mem_take h)
theorem v_stretch (a b c n f l : Nat) (bs rs : List Int) (hfl : f ≤ l) (hk : l < rs.length) (hbs : ∀ x ∈ bs, 2 ≤ x) (hr : ∀ x ∈ rs, 0 ≤ x) (hl : rs.length = bs.length + 1) (hz : bs.length ≤ 900) :
    q_stretch [ho a b c bs rs, .int (f : Int), .int (l : Int)] n = .ok (ho (n + 2) (n + 5) (n + 6) (cut bs f l) (cut rs f (l + 1))) (n + 7) [] := by
  have h1 := v_check_house a b c bs rs n
  have h2 := v_check_place a b c n f bs rs (by omega)
  have h3 := v_check_place a b c n l bs rs hk
  have h4 : ¬ (l : Int) < f := by omega
  have e1 : ((l : Int) + 1) = ((l + 1 : Nat) : Int) := by omega
  have s1 := slD_mid b bs f l n hfl (by omega)
  have s2 := slD_mid c rs f (l + 1) (n + 1) (by omega) (by omega)
  have g1 := cut_len bs f l hfl (by omega)
  have g2 := cut_len rs f (l + 1) (by omega) (by omega)
  have vm := v_mk n (n + 1) (cut bs f l) (cut rs f (l + 1)) (n + 2) (by omega) (by omega) (fun x hx => hbs x (cut_mem hx)) (fun x hx => hr x (cut_mem hx)) (by omega) (by omega)
  unfold ho at *
  simp -implicitDefEqProofs only [q_stretch, b_stretch, h1, h2, h3, h4, e1, s1, s2, vm, pre_n, pre_o, of_s, r_var, var1_s, r_c, r_nil, r_cons, cons1_o, cons2_o, r_lst, lst1_o, r_tup, tup1_o, r_bin, bin1_o, bin2_o, r_un, un1_o, r_bits, r_tof, tof1_o, r_and, and1_t, and1_f, r_or, or1_t, or1_f, r_not, not1_o, r_eand, eand1_t, eand1_f, r_eor, eor1_t, eor1_f, r_enot, enot1_o, r_eif, eif1_t, eif1_f, r_call, call1_o, r_callD, r_callK, callK1_o, callK2_o, r_make, r_makeP, r_mth, mth1_o, mth2_o, r_b, r_m, m1_lst, m2_o, ofW_s, r_isi, isi1_o, isi3_s, r_fld, fld1_o, fld2_s, r_eqo, eqo1_o, eqo2_o, eqo3_o, r_osm, osm1_o, r_onone, r_sl, sl1_o, sl2_o, sl3_o, r_rev, rev1_o, r_seq, seq1_l, seq1_t, r_rng1, rng1_o, r_zip, zip1_o, r_enum, enum1_o, r_lc, lc1_o, put_0, put_c, setv_c, r_sseq, then1_n, then1_r, then1_c, then1_b, r_snil, r_sretn, r_scont, r_sbrk, r_sexpr, expr1_o, r_sret, ret1_o, r_sset, set1_o, r_sif, sif1_t, sif1_f, r_stg, stg1_o, tg1_s, r_spar, par1_o, r_spar3, par3_o, r_saug, aug0_s, aug1_o, aug2_s, r_ssub, sub0_o, sub1_o, sub2_o, sub3_s, r_sfld, sfld0_o, sfld1_o, r_sfor, for1_o, r_swhile, r_run, run1_n, run1_r, len_rng, len_li, len_lst, len_tup, len_zip, len_enum, puts, putsL, optmap_nil, get_comp, puts_comp, putsL_comp, put_comp', puts_nil, putsL_nil, putE_nil, putE_map, comp_nil, nil_comp, comp_one, cutW_nil, get_one, get_nil, puts_li, putsL_li, li_len, permL, D.has, hasL, hasL_li, isTyD, isClD, isi2, isD_non, isNone, cmpD_int, negD_int, addD_int, subD_int, eqD_int, neD_int, eqD_li, neD_li, listD_lst, listD_tup, tupleD_lst, lenD_lst, lenD_tup, intD1_int, ixD_0, ixD_1, ixD_2, ixD_3, bitsD_int, cutOk, List.map_cons, List.map_nil, List.length_cons, List.length_nil, List.getElem?_cons_zero, List.getElem?_cons_succ, List.set_cons_zero, List.set_cons_succ, List.replicate, List.cons_append, List.nil_append, Option.map_some, Option.map_none, Nat.reduceAdd, Nat.reduceSub, Nat.add_assoc, Nat.zero_add, Nat.add_zero, Bool.not_true, Bool.not_false, beq_self_eq_true, String.reduceBEq, Bool.true_or, Bool.false_or, Bool.or_true, Bool.or_false, Bool.true_and, Bool.false_and, Bool.and_true, Bool.and_false, decide_true, decide_false, Bool.false_eq_true, if_true, if_false, reduceCtorEq, Nat.reduceLeDiff, r_star, star1_l, star1_t, star2_o, r_rng2, r_zipN, zipN1_o, minD_pair, maxD_pair, tgT_2, tgT_3, tg1_s]
theorem li_cons (x : Int) (xs : List Int) : D.int x :: li xs = li (x :: xs) := rfl
theorem li_append (xs ys : List Int) : li xs ++ li ys = li (xs ++ ys) := by unfold li; rw [List.map_append]
theorem v_set_behind (a b c a' b' c' n : Nat) (z : Int) (bs rs bs' rs' : List Int) (hz2 : 2 ≤ z) (hbs : ∀ x ∈ bs, 2 ≤ x) (hr : ∀ x ∈ rs, 0 ≤ x) (hbs' : ∀ x ∈ bs', 2 ≤ x) (hr' : ∀ x ∈ rs', 0 ≤ x) (hl : rs.length = bs.length + 1) (hl' : rs'.length = bs'.length + 1) (hz : bs.length ≤ 400) (hz' : bs'.length ≤ 400) :
    q_set_behind [ho a b c bs rs, .int z, ho a' b' c' bs' rs'] n = .ok (ho (n + 2) (n + 5) (n + 6) (bs ++ z :: bs') (rs ++ rs')) (n + 7) [] := by
  have h1 := v_check_house a b c bs rs n
  have h2 := v_is_base z n hz2
  have h3 := v_check_house a' b' c' bs' rs' n
  have g1 : (bs ++ z :: bs').length ≤ 16777216 := by rw [List.length_append, List.length_cons]; omega
  have g2 : (rs ++ rs').length ≤ 16777216 := by rw [List.length_append]; omega
  have vm := v_mk n (n + 1) (bs ++ z :: bs') (rs ++ rs') (n + 2) (by omega) (by omega) (fun x hx => by
    rcases List.mem_append.mp hx with h | h
    · exact hbs x h
    · rcases List.mem_cons.mp h with h | h
      · omega
      · exact hbs' x h) (fun x hx => (List.mem_append.mp hx).elim (hr x) (hr' x)) (by simp; omega) (by simp; omega)
  unfold ho at *
  simp -implicitDefEqProofs only [q_set_behind, b_set_behind, h1, h2, h3, List.append_nil, li_cons, li_append, g1, g2, vm, pre_n, pre_o, of_s, r_var, var1_s, r_c, r_nil, r_cons, cons1_o, cons2_o, r_lst, lst1_o, r_tup, tup1_o, r_bin, bin1_o, bin2_o, r_un, un1_o, r_bits, r_tof, tof1_o, r_and, and1_t, and1_f, r_or, or1_t, or1_f, r_not, not1_o, r_eand, eand1_t, eand1_f, r_eor, eor1_t, eor1_f, r_enot, enot1_o, r_eif, eif1_t, eif1_f, r_call, call1_o, r_callD, r_callK, callK1_o, callK2_o, r_make, r_makeP, r_mth, mth1_o, mth2_o, r_b, r_m, m1_lst, m2_o, ofW_s, r_isi, isi1_o, isi3_s, r_fld, fld1_o, fld2_s, r_eqo, eqo1_o, eqo2_o, eqo3_o, r_osm, osm1_o, r_onone, r_sl, sl1_o, sl2_o, sl3_o, r_rev, rev1_o, r_seq, seq1_l, seq1_t, r_rng1, rng1_o, r_zip, zip1_o, r_enum, enum1_o, r_lc, lc1_o, put_0, put_c, setv_c, r_sseq, then1_n, then1_r, then1_c, then1_b, r_snil, r_sretn, r_scont, r_sbrk, r_sexpr, expr1_o, r_sret, ret1_o, r_sset, set1_o, r_sif, sif1_t, sif1_f, r_stg, stg1_o, tg1_s, r_spar, par1_o, r_spar3, par3_o, r_saug, aug0_s, aug1_o, aug2_s, r_ssub, sub0_o, sub1_o, sub2_o, sub3_s, r_sfld, sfld0_o, sfld1_o, r_sfor, for1_o, r_swhile, r_run, run1_n, run1_r, len_rng, len_li, len_lst, len_tup, len_zip, len_enum, puts, putsL, optmap_nil, get_comp, puts_comp, putsL_comp, put_comp', puts_nil, putsL_nil, putE_nil, putE_map, comp_nil, nil_comp, comp_one, cutW_nil, get_one, get_nil, puts_li, putsL_li, li_len, permL, D.has, hasL, hasL_li, isTyD, isClD, isi2, isD_non, isNone, cmpD_int, negD_int, addD_int, subD_int, eqD_int, neD_int, eqD_li, neD_li, listD_lst, listD_tup, tupleD_lst, lenD_lst, lenD_tup, intD1_int, ixD_0, ixD_1, ixD_2, ixD_3, bitsD_int, cutOk, List.map_cons, List.map_nil, List.length_cons, List.length_nil, List.getElem?_cons_zero, List.getElem?_cons_succ, List.set_cons_zero, List.set_cons_succ, List.replicate, List.cons_append, List.nil_append, Option.map_some, Option.map_none, Nat.reduceAdd, Nat.reduceSub, Nat.add_assoc, Nat.zero_add, Nat.add_zero, Bool.not_true, Bool.not_false, beq_self_eq_true, String.reduceBEq, Bool.true_or, Bool.false_or, Bool.or_true, Bool.or_false, Bool.true_and, Bool.false_and, Bool.and_true, Bool.and_false, decide_true, decide_false, Bool.false_eq_true, if_true, if_false, reduceCtorEq, Nat.reduceLeDiff, r_star, star1_l, star1_t, star2_o, r_rng2, r_zipN, zipN1_o, minD_pair, maxD_pair, tgT_2, tgT_3, tg1_s]
end K04
end
section
set_option Elab.async false
set_option linter.all false
set_option maxRecDepth 100000
set_option maxHeartbeats 1000000
namespace K04
open PySem Sx B
/-- the same, the elements may make new objects -/
theorem lc_rngV {own : List Nat} {tg : TgV} {el : EV} (ps : List Int) (K n : Nat) (env : Ev) (hK : K ≤ ps.length) (hz : K ≤ 1000)
    (h : ∀ (k m : Nat) x, k < K → n ≤ m → ps[k]? = some x → ∃ env1 m', tg (.int (k : Int)) (wipeE env own) = some env1 ∧ m ≤ m' ∧ el m env1 = .ok (.int x) m' []) :
    ∃ n', n ≤ n' ∧ lcGo own tg tTrue el K 0 (.rng 0 K) [] n env = .ok (.lst n' (li (ps.take K))) (n' + 1) [] := by
  obtain ⟨acc', n', w'', env', e1, e2, e3, e4, e5⟩ := lcGo_inv (own := own) (tg := tg) (el := el) (src := .rng 0 K) (len := K) (fun k m w e acc => n ≤ m ∧ e = env ∧ w = [] ∧ acc = li (ps.take k)) (rng_end K)
    (fun k m w e acc hk hI => by
      obtain ⟨hm, rfl, rfl, rfl⟩ := hI
      have hx : ps[k]? = some ps[k] := List.getElem?_eq_getElem (by omega)
      obtain ⟨env1, m', h1, h3, h2⟩ := h k m _ hk hm hx
      refine ⟨_, env1, .int ps[k], m', [], rng_at0 K k hk, h1, h2, rfl, ?_, by omega, putE_nil _, rfl, ?_⟩
      · rw [li_len, List.length_take]; exact Nat.lt_of_le_of_lt (Nat.min_le_left _ _) (Nat.lt_of_lt_of_le hk (Nat.le_trans hz (by decide)))
      · rw [putsL_nil, li_snoc, take_snoc hx]) K 0 n [] env [] (by omega) ⟨Nat.le_refl _, rfl, rfl, rfl⟩
  rw [nil_comp] at e4
  subst e4 e5
  exact ⟨n', e2, e1⟩
theorem told_2 (n m i j k v t : Nat) (bs rs : List Int) (md : D) (o4 : Option D) (src : Src) (hsrc : ∀ y, src.puts [(v, y)] = src) (hmd : ∀ y, puts [(v, y)] md = md) (hg : Good bs rs) (ht : t < rs.length) (hv : n ≤ v) (hvm : v < m) (hi : i ≠ v) (hj : j ≠ v) (hk : k ≠ v) (him : i < m) (hjm : j < m) (hkm : k < m) :
    ∃ m' o4', m ≤ m' ∧ b_l_told_of_2 n ⟨m, [some md, some (hd i j k bs rs), some (.lst v (li (sums ((muls rs (wts bs)).take t)))), some (.int (t : Int)), o4], [], [src]⟩ =
      .nx ⟨m', [some md, some (hd i j k bs rs), some (.lst v (li (sums ((muls rs (wts bs)).take (t + 1))))), some (.int (t : Int)), o4'], [], [src]⟩ := by
  have hm := hg.m
  have hlr := hg.l
  have hwl := wts_len bs
  have hw := wts_btw hg.b (by omega)
  have hml : (muls rs (wts bs)).length = rs.length := muls_len (by omega)
  obtain ⟨m', hm', lr⟩ := lc_rngV (own := [4]) (tg := tgN 4) (el := c_l_told_of_1) (muls rs (wts bs)) (t + 1) m [some md, some (hd i j k bs rs), some (.lst v (li (sums ((muls rs (wts bs)).take t)))), some (.int (t : Int)), o4] (by omega) (by omega)
    (fun q r y hq hr hy => by
      have hx1 : rs[q]? = some rs[q] := List.getElem?_eq_getElem (by omega)
      have hx2 : (wts bs)[q]? = some (wts bs)[q] := List.getElem?_eq_getElem (by omega)
      have hmu := muls_get hx1 hx2
      rw [hmu] at hy
      cases hy
      obtain ⟨b1, b2⟩ := hg.r.get hx1
      obtain ⟨c1, c2⟩ := hw.get hx2
      have m1 := mulD_sm (a := rs[q]) (b := (wts bs)[q]) (r + 1) (sm_of (by omega) (by omega)) (sm_of (by omega) (by omega))
      have i1 := ixD_li k rs q _ r hx1
      have vw := v_l_weights i j k bs rs r (by omega) (by omega) (by omega) hg.b hg.m
      have i2 := ixD_li r (wts bs) q _ (r + 1) hx2
      refine ⟨_, r + 1, rfl, by omega, ?_⟩
      unfold hd at *
      simp -implicitDefEqProofs only [c_l_told_of_1, wipeE, m1, i1, vw, i2, pre_n, pre_o, of_s, r_var, var1_s, r_c, r_nil, r_cons, cons1_o, cons2_o, r_lst, lst1_o, r_tup, tup1_o, r_bin, bin1_o, bin2_o, r_un, un1_o, r_bits, r_tof, tof1_o, r_and, and1_t, and1_f, r_or, or1_t, or1_f, r_not, not1_o, r_eand, eand1_t, eand1_f, r_eor, eor1_t, eor1_f, r_enot, enot1_o, r_eif, eif1_t, eif1_f, r_call, call1_o, r_callD, r_callK, callK1_o, callK2_o, r_make, r_makeP, r_mth, mth1_o, mth2_o, r_b, r_m, m1_lst, m2_o, ofW_s, r_isi, isi1_o, isi3_s, r_fld, fld1_o, fld2_s, r_eqo, eqo1_o, eqo2_o, eqo3_o, r_osm, osm1_o, r_onone, r_sl, sl1_o, sl2_o, sl3_o, r_rev, rev1_o, r_seq, seq1_l, seq1_t, r_rng1, rng1_o, r_zip, zip1_o, r_enum, enum1_o, r_lc, lc1_o, put_0, put_c, setv_c, r_sseq, then1_n, then1_r, then1_c, then1_b, r_snil, r_sretn, r_scont, r_sbrk, r_sexpr, expr1_o, r_sret, ret1_o, r_sset, set1_o, r_sif, sif1_t, sif1_f, r_stg, stg1_o, tg1_s, r_spar, par1_o, r_spar3, par3_o, r_saug, aug0_s, aug1_o, aug2_s, r_ssub, sub0_o, sub1_o, sub2_o, sub3_s, r_sfld, sfld0_o, sfld1_o, r_sfor, for1_o, r_swhile, r_run, run1_n, run1_r, len_rng, len_li, len_lst, len_tup, len_zip, len_enum, puts, putsL, optmap_nil, get_comp, puts_comp, putsL_comp, put_comp', puts_nil, putsL_nil, putE_nil, putE_map, comp_nil, nil_comp, comp_one, cutW_nil, get_one, get_nil, puts_li, putsL_li, li_len, permL, D.has, hasL, hasL_li, isTyD, isClD, isi2, isD_non, isNone, cmpD_int, negD_int, addD_int, subD_int, eqD_int, neD_int, eqD_li, neD_li, listD_lst, listD_tup, tupleD_lst, lenD_lst, lenD_tup, intD1_int, ixD_0, ixD_1, ixD_2, ixD_3, bitsD_int, cutOk, List.map_cons, List.map_nil, List.length_cons, List.length_nil, List.getElem?_cons_zero, List.getElem?_cons_succ, List.set_cons_zero, List.set_cons_succ, List.replicate, List.cons_append, List.nil_append, Option.map_some, Option.map_none, Nat.reduceAdd, Nat.reduceSub, Nat.add_assoc, Nat.zero_add, Nat.add_zero, Bool.not_true, Bool.not_false, beq_self_eq_true, String.reduceBEq, Bool.true_or, Bool.false_or, Bool.or_true, Bool.or_false, Bool.true_and, Bool.false_and, Bool.and_true, Bool.and_false, decide_true, decide_false, Bool.false_eq_true, if_true, if_false, reduceCtorEq, Nat.reduceLeDiff, r_star, star1_l, star1_t, star2_o, r_rng2, r_zipN, zipN1_o, minD_pair, maxD_pair, tgT_2, tgT_3, tg1_s])
  have hz : (muls rs (wts bs))[t]? = some (muls rs (wts bs))[t] := List.getElem?_eq_getElem (by omega)
  have es : sums ((muls rs (wts bs)).take (t + 1)) = sums ((muls rs (wts bs)).take t) ++ [((muls rs (wts bs)).take (t + 1)).sum] := by
    rw [take_snoc hz, sums_snoc, sum_snoc]
  have ap := appD_lst v (li (sums ((muls rs (wts bs)).take t))) (.int ((muls rs (wts bs)).take (t + 1)).sum) (m' + 1) (by rw [li_len, sums_len, List.length_take]; omega) rfl
  rw [li_snoc, ← es] at ap
  have r1 := rng1_o m [] ((t : Int) + 1) (by omega) (by omega)
  have t1 : ((t : Int) + 1).toNat = t + 1 := by omega
  refine ⟨m' + 1, ?_⟩
  unfold hd at *
  simp -implicitDefEqProofs only [b_l_told_of_2, r1, t1, lr, sumD_li, ap, hmd, hsrc, get_one_ne _ _ _ hi, get_one_ne _ _ _ hj, get_one_ne _ _ _ hk, cutW_ge _ _ _ hv, put_c, pre_n, pre_o, of_s, r_var, var1_s, r_c, r_nil, r_cons, cons1_o, cons2_o, r_lst, lst1_o, r_tup, tup1_o, r_bin, bin1_o, bin2_o, r_un, un1_o, r_bits, r_tof, tof1_o, r_and, and1_t, and1_f, r_or, or1_t, or1_f, r_not, not1_o, r_eand, eand1_t, eand1_f, r_eor, eor1_t, eor1_f, r_enot, enot1_o, r_eif, eif1_t, eif1_f, r_call, call1_o, r_callD, r_callK, callK1_o, callK2_o, r_make, r_makeP, r_mth, mth1_o, mth2_o, r_b, r_m, m1_lst, m2_o, ofW_s, r_isi, isi1_o, isi3_s, r_fld, fld1_o, fld2_s, r_eqo, eqo1_o, eqo2_o, eqo3_o, r_osm, osm1_o, r_onone, r_sl, sl1_o, sl2_o, sl3_o, r_rev, rev1_o, r_seq, seq1_l, seq1_t, r_rng1, rng1_o, r_zip, zip1_o, r_enum, enum1_o, r_lc, lc1_o, put_0, put_c, setv_c, r_sseq, then1_n, then1_r, then1_c, then1_b, r_snil, r_sretn, r_scont, r_sbrk, r_sexpr, expr1_o, r_sret, ret1_o, r_sset, set1_o, r_sif, sif1_t, sif1_f, r_stg, stg1_o, tg1_s, r_spar, par1_o, r_spar3, par3_o, r_saug, aug0_s, aug1_o, aug2_s, r_ssub, sub0_o, sub1_o, sub2_o, sub3_s, r_sfld, sfld0_o, sfld1_o, r_sfor, for1_o, r_swhile, r_run, run1_n, run1_r, len_rng, len_li, len_lst, len_tup, len_zip, len_enum, puts, putsL, optmap_nil, get_comp, puts_comp, putsL_comp, put_comp', puts_nil, putsL_nil, putE_nil, putE_map, comp_nil, nil_comp, comp_one, cutW_nil, get_one, get_nil, puts_li, putsL_li, li_len, permL, D.has, hasL, hasL_li, isTyD, isClD, isi2, isD_non, isNone, cmpD_int, negD_int, addD_int, subD_int, eqD_int, neD_int, eqD_li, neD_li, listD_lst, listD_tup, tupleD_lst, lenD_lst, lenD_tup, intD1_int, ixD_0, ixD_1, ixD_2, ixD_3, bitsD_int, cutOk, List.map_cons, List.map_nil, List.length_cons, List.length_nil, List.getElem?_cons_zero, List.getElem?_cons_succ, List.set_cons_zero, List.set_cons_succ, List.replicate, List.cons_append, List.nil_append, Option.map_some, Option.map_none, Nat.reduceAdd, Nat.reduceSub, Nat.add_assoc, Nat.zero_add, Nat.add_zero, Bool.not_true, Bool.not_false, beq_self_eq_true, String.reduceBEq, Bool.true_or, Bool.false_or, Bool.or_true, Bool.or_false, Bool.true_and, Bool.false_and, Bool.and_true, Bool.and_false, decide_true, decide_false, Bool.false_eq_true, if_true, if_false, reduceCtorEq, Nat.reduceLeDiff, r_star, star1_l, star1_t, star2_o, r_rng2, r_zipN, zipN1_o, minD_pair, maxD_pair, tgT_2, tgT_3, tg1_s]
  exact ⟨_, by omega, rfl⟩
theorem v_told_of (a b c n : Nat) (bs rs : List Int) (hg : Good bs rs) (ha : a < n) (hb : b < n) (hc : c < n) : ∃ n', n + 4 ≤ n' ∧ q_l_told_of [ho a b c bs rs] n = .ok (hd (n + 2) n (n + 1) bs rs) n' [] := by
  have hm := hg.m
  have hlr := hg.l
  have hwl := wts_len bs
  have hml : (muls rs (wts bs)).length = rs.length := muls_len (by omega)
  have v1 := v_m_bases a b c n bs rs
  have v2 := v_m_rooms a b c (n + 1) bs rs
  have hmd : ∀ y, puts [(n + 3, y)] (ho a b c bs rs) = ho a b c bs rs := fun y => by
    unfold ho
    simp [puts, putsL, putsL_li, get_one_ne _ _ _ (show a ≠ n + 3 by omega), get_one_ne _ _ _ (show b ≠ n + 3 by omega), get_one_ne _ _ _ (show c ≠ n + 3 by omega)]
  obtain ⟨s', q1, q2, m', o3, o4, q3, hm1⟩ := for_src (tg := tgN 3) (body := b_l_told_of_2) (n0 := n) (len := rs.length) (src := .rng 0 rs.length) (h := [])
    (s0 := ⟨n + 4, [some (ho a b c bs rs), some (hd (n + 2) n (n + 1) bs rs), some (.lst (n + 3) (li [])), none, none], [], [.rng 0 rs.length]⟩)
    (fun t s => ∃ m' o3 o4, s = ⟨m', [some (ho a b c bs rs), some (hd (n + 2) n (n + 1) bs rs), some (.lst (n + 3) (li (sums ((muls rs (wts bs)).take t)))), o3, o4], [], [.rng 0 rs.length]⟩ ∧ n + 4 ≤ m')
    ⟨n + 4, none, none, rfl, Nat.le_refl _⟩ rfl (rng_end _)
    (fun t s ht _ hZ => by
      obtain ⟨m', o3, o4, rfl, hm1⟩ := hZ
      obtain ⟨m2, o4', hm2, e⟩ := told_2 n m' (n + 2) n (n + 1) (n + 3) t bs rs (ho a b c bs rs) o4 (.rng 0 rs.length) (fun _ => rfl) hmd hg ht (by omega) (by omega) (by omega) (by omega) (by omega) (by omega) (by omega) (by omega)
      exact ⟨_, _, _, rng_at0 _ t ht, rfl, e, rfl, m2, _, o4', rfl, by omega⟩)
  subst q3
  rw [← hml, List.take_length] at q1
  have hsl := sums_len (muls rs (wts bs))
  have w1 := v_weights a b c bs rs m' (by omega) (by omega) (by omega) hg
  have w2 := v_held_up_to a b c bs rs (m' + 1) (by omega) (by omega) (by omega) hg
  have w3 := v_many_rowsP a b c bs rs (m' + 3) hg
  have w4 := v_m_places a b c (m' + 3) bs rs
  have w5 := v_l_weights (n + 2) n (n + 1) bs rs (m' + 4) (by omega) (by omega) (by omega) hg.b hg.m
  have w6 := v_many_rows (n + 2) n (n + 1) bs rs (m' + 5) hg.r (by omega)
  obtain ⟨m2, hm2, ve⟩ := v_exact 8 2 _ _ (m' + 6) (by omega) (alk4 (m' + 3) (m' + 5) m' (m' + 1) (m' + 4) (n + 3) (wts bs) (sums (muls rs (wts bs))) (mrows rs) rs.length (by omega) (by omega))
  have r1 := rng1_o (n + 4) [] (rs.length : Int) (by omega) (by omega)
  have t1 : ((rs.length : Int)).toNat = (muls rs (wts bs)).length := by omega
  have e1 : (((sums (muls rs (wts bs))).length : Nat) : Int) = rs.length := by omega
  refine ⟨m2, by omega, ?_⟩
  unfold hd ho at *
  simp -implicitDefEqProofs only [q_l_told_of, b_l_told_of, v1, v2, r1, t1, show D.lst (n + 3) [] = .lst (n + 3) (li []) from rfl, q1, w1, w2, w3, w4, w5, w6, e1, ve, pre_n, pre_o, of_s, r_var, var1_s, r_c, r_nil, r_cons, cons1_o, cons2_o, r_lst, lst1_o, r_tup, tup1_o, r_bin, bin1_o, bin2_o, r_un, un1_o, r_bits, r_tof, tof1_o, r_and, and1_t, and1_f, r_or, or1_t, or1_f, r_not, not1_o, r_eand, eand1_t, eand1_f, r_eor, eor1_t, eor1_f, r_enot, enot1_o, r_eif, eif1_t, eif1_f, r_call, call1_o, r_callD, r_callK, callK1_o, callK2_o, r_make, r_makeP, r_mth, mth1_o, mth2_o, r_b, r_m, m1_lst, m2_o, ofW_s, r_isi, isi1_o, isi3_s, r_fld, fld1_o, fld2_s, r_eqo, eqo1_o, eqo2_o, eqo3_o, r_osm, osm1_o, r_onone, r_sl, sl1_o, sl2_o, sl3_o, r_rev, rev1_o, r_seq, seq1_l, seq1_t, r_rng1, rng1_o, r_zip, zip1_o, r_enum, enum1_o, r_lc, lc1_o, put_0, put_c, setv_c, r_sseq, then1_n, then1_r, then1_c, then1_b, r_snil, r_sretn, r_scont, r_sbrk, r_sexpr, expr1_o, r_sret, ret1_o, r_sset, set1_o, r_sif, sif1_t, sif1_f, r_stg, stg1_o, tg1_s, r_spar, par1_o, r_spar3, par3_o, r_saug, aug0_s, aug1_o, aug2_s, r_ssub, sub0_o, sub1_o, sub2_o, sub3_s, r_sfld, sfld0_o, sfld1_o, r_sfor, for1_o, r_swhile, r_run, run1_n, run1_r, len_rng, len_li, len_lst, len_tup, len_zip, len_enum, puts, putsL, optmap_nil, get_comp, puts_comp, putsL_comp, put_comp', puts_nil, putsL_nil, putE_nil, putE_map, comp_nil, nil_comp, comp_one, cutW_nil, get_one, get_nil, puts_li, putsL_li, li_len, permL, D.has, hasL, hasL_li, isTyD, isClD, isi2, isD_non, isNone, cmpD_int, negD_int, addD_int, subD_int, eqD_int, neD_int, eqD_li, neD_li, listD_lst, listD_tup, tupleD_lst, lenD_lst, lenD_tup, intD1_int, ixD_0, ixD_1, ixD_2, ixD_3, bitsD_int, cutOk, List.map_cons, List.map_nil, List.length_cons, List.length_nil, List.getElem?_cons_zero, List.getElem?_cons_succ, List.set_cons_zero, List.set_cons_succ, List.replicate, List.cons_append, List.nil_append, Option.map_some, Option.map_none, Nat.reduceAdd, Nat.reduceSub, Nat.add_assoc, Nat.zero_add, Nat.add_zero, Bool.not_true, Bool.not_false, beq_self_eq_true, String.reduceBEq, Bool.true_or, Bool.false_or, Bool.or_true, Bool.or_false, Bool.true_and, Bool.false_and, Bool.and_true, Bool.and_false, decide_true, decide_false, Bool.false_eq_true, if_true, if_false, reduceCtorEq, Nat.reduceLeDiff, r_star, star1_l, star1_t, star2_o, r_rng2, r_zipN, zipN1_o, minD_pair, maxD_pair, tgT_2, tgT_3, tg1_s]
end K04
end
section
set_option Elab.async false
set_option linter.all false
set_option maxRecDepth 100000
set_option maxHeartbeats 1000000
namespace K04
open PySem Sx B
theorem lc_cons {own : List Nat} {tg : TgV} {el : EV} {fuel k n n2 : Nat} {s : Src} {acc : List D} {env env1 : Ev} {d x : D} (h1 : s.at k = some (some d)) (h2 : tg d (wipeE env own) = some env1) (h3 : el n env1 = .ok x n2 []) (hz : acc.length < 1000) :
    lcGo own tg tTrue el (fuel + 1) k s acc n env = lcGo own tg tTrue el fuel (k + 1) s (acc ++ [x]) n2 env := by
  rw [lcGo.eq_def]
  have hz' : acc.length < sizeLine := Nat.lt_of_lt_of_le hz (by decide)
  simp only [h1, h2, tTrue, bindOk, preNil, putE_nil, if_true, h3, hz', Src.puts_nil, putsL_nil]
theorem lc_end {own : List Nat} {tg : TgV} {tt : TV} {el : EV} {fuel k n : Nat} {s : Src} {acc : List D} {env : Ev} (h1 : s.at k = some none) : lcGo own tg tt el fuel k s acc n env = .ok (.lst n acc) (n + 1) [] := by
  rw [lcGo.eq_def]
  simp only [h1]
/-- three items, one behind another -/
theorem lc_3 {own : List Nat} {tg : TgV} {el : EV} {q n n1 n2 n3 : Nat} {x0 x1 x2 y0 y1 y2 : D} {env e0 e1 e2 : Ev} (t0 : tg x0 (wipeE env own) = some e0) (t1 : tg x1 (wipeE env own) = some e1) (t2 : tg x2 (wipeE env own) = some e2)
    (h0 : el n e0 = .ok y0 n1 []) (h1 : el n1 e1 = .ok y1 n2 []) (h2 : el n2 e2 = .ok y2 n3 []) : lcGo own tg tTrue el 3 0 (.lst (.lst q [x0, x1, x2])) [] n env = .ok (.lst n3 [y0, y1, y2]) (n3 + 1) [] := by
  rw [lc_cons (d := x0) rfl t0 h0 (by decide), lc_cons (d := x1) rfl t1 h1 (by simp), lc_cons (d := x2) rfl t2 h2 (by simp), lc_end rfl]
  rfl
theorem allD_lee (i n : Nat) (xs ys : List Int) : allD [.lst i (List.map D.bl (List.zipWith (fun x y => decide (x ≤ y)) xs ys))] n = some (.bl (lee xs ys), n) := allD_bls _ _ _
theorem perm_10 (x y : D) : List.filterMap (fun i => [x, y][i]?) [1, 0] = [y, x] := rfl
theorem perm_210 (x y z : D) : List.filterMap (fun i => [x, y, z][i]?) [2, 1, 0] = [z, y, x] := rfl
theorem lee_min : ∀ xs ys : List Int, lee (List.zipWith min xs ys) xs = true
  | [], _ => rfl
  | _ :: _, [] => rfl
  | x :: xs, y :: ys => by
    have ih := lee_min xs ys
    unfold lee at ih ⊢
    rw [List.zipWith_cons_cons, List.zipWith_cons_cons, List.all_cons, ih]
    simp; omega
theorem lee_max : ∀ xs ys : List Int, lee ys (List.zipWith max xs ys) = true
  | [], ys => by cases ys <;> rfl
  | _ :: _, [] => rfl
  | x :: xs, y :: ys => by
    have ih := lee_max xs ys
    unfold lee at ih ⊢
    rw [List.zipWith_cons_cons, List.zipWith_cons_cons, List.all_cons, ih]
    simp; omega
theorem lee_refl : ∀ xs : List Int, lee xs xs = true
  | [] => rfl
  | x :: xs => by
    have ih := lee_refl xs
    unfold lee at ih ⊢
    rw [List.zipWith_cons_cons, List.all_cons, ih]
    simp
theorem min_comm' : ∀ xs ys : List Int, List.zipWith min xs ys = List.zipWith min ys xs
  | [], ys => by cases ys <;> rfl
  | _ :: _, [] => rfl
  | x :: xs, y :: ys => by rw [List.zipWith_cons_cons, List.zipWith_cons_cons, min_comm' xs ys, Int.min_comm]
theorem btw_zw {g : Int → Int → Int} (hg : ∀ x y, 0 ≤ x → x ≤ 60 → 0 ≤ y → y ≤ 60 → 0 ≤ g x y ∧ g x y ≤ 60) : ∀ {xs ys : List Int}, Btw 0 60 xs → Btw 0 60 ys → Btw 0 60 (List.zipWith g xs ys)
  | [], _, _, _ => by intro x hx; simp at hx
  | _ :: _, [], _, _ => by intro x hx; simp at hx
  | x :: xs, y :: ys, h1, h2 => by
    intro z hz
    rw [List.zipWith_cons_cons] at hz
    rcases List.mem_cons.mp hz with rfl | hz
    · have a := h1 x List.mem_cons_self
      have b := h2 y List.mem_cons_self
      exact hg x y a.1 a.2 b.1 b.2
    · exact btw_zw hg (fun w hw => h1 w (List.mem_cons_of_mem _ hw)) (fun w hw => h2 w (List.mem_cons_of_mem _ hw)) z hz
theorem good_zw {g : Int → Int → Int} (hg : ∀ x y, 0 ≤ x → x ≤ 60 → 0 ≤ y → y ≤ 60 → 0 ≤ g x y ∧ g x y ≤ 60) {bs rs ys : List Int} (h : Good bs rs) (hy : Btw 0 60 ys) (hl : rs.length = ys.length) : Good bs (List.zipWith g rs ys) :=
  ⟨h.b, btw_zw hg h.r hy, by rw [len_zw hl]; exact h.l, h.m⟩
theorem min_ok : ∀ x y : Int, 0 ≤ x → x ≤ 60 → 0 ≤ y → y ≤ 60 → 0 ≤ min x y ∧ min x y ≤ 60 := by intros; omega
theorem max_ok : ∀ x y : Int, 0 ≤ x → x ≤ 60 → 0 ≤ y → y ≤ 60 → 0 ≤ max x y ∧ max x y ≤ 60 := by intros; omega
/-- the rooms of the other house -/
theorem two_rooms (p m i j k : Nat) (N : Int) (d md : D) (bs rs : List Int) (o3 o4 o5 o6 o7 o8 o9 : Option D) (hrest : ∀ d1 w d2, PW p d1 w d2 → putE w [some (hd i j k bs rs), some md, o3, o4, o5, o6, o7, o8, o9, none, none, none, none, none, none, none] = [some (hd i j k bs rs), some md, o3, o4, o5, o6, o7, o8, o9, none, none, none, none, none, none, none])
    (h : Pu p N d) (hN : N ≤ 700000) (hp : p < m) (hkp : k ≠ p) (hg : Good bs rs) :
    ∃ rs1 d' w n', m ≤ n' ∧ lcGo [12] (tgN 12) tTrue c_l_two_right_1 rs.length 0 (.lst (.lst k (li rs))) [] m [some d, some (hd i j k bs rs), some md, o3, o4, o5, o6, o7, o8, o9, none, none, none, none, none, none, none] = .ok (.lst n' (li rs1)) (n' + 1) w ∧ PW p d w d' ∧ Pu p (N + 100) d' ∧ rs1.length = rs.length ∧ Btw 0 61 rs1 := by
  have hm := hg.m
  have hlr := hg.l
  obtain ⟨xs, d', w, n', g1, g2, g3, g4, g5, g6⟩ := lc_draws (own := [12]) (tg := tgN 12) (el := c_l_two_right_1) (src := .lst (.lst k (li rs))) (p := p) (n := m) (len := rs.length) (N := N) (c := 8) (d := d) (rest := [some (hd i j k bs rs), some md, o3, o4, o5, o6, o7, o8, o9, none, none, none, none, none, none, none])
    (fun t x => 0 ≤ x ∧ x ≤ 61) hrest (fun _ _ _ pw => lst_puts _ _ _ (pw.get hkp)) (by rw [lst_at, List.getElem?_eq_none_iff.mpr (Nat.le_refl _)]; rfl) (by omega)
    (fun t dk q ht hq hpu => by
      have hx : rs[t]? = some rs[t] := List.getElem?_eq_getElem ht
      obtain ⟨r0, r1⟩ := hg.r.get hx
      obtain ⟨x1, d1, w1, a1, a2, e1, pw1, pu1⟩ := v_drawP p _ 60 q dk hpu (by omega) (by omega) (by omega) (by omega)
      obtain ⟨x, d2, w2, hx2, e2, pw2, pu2⟩ := v_one_of p _ q [rs[t], max 0 (rs[t] - 1), rs[t] + 1, x1] (q + 1) d1 pu1 (by omega) (by omega) (by omega) (by simp) (by simp)
      have e2' : q_l_one_of [d1, .lst q [.int rs[t], .int (max 0 (rs[t] - 1)), .int (rs[t] + 1), .int x1]] (q + 1) = .ok (.int x) (q + 1) w2 := e2
      refine ⟨.int rs[t], _, x, d2, comp w1 w2, q + 1, by rw [lst_at, hx]; rfl, rfl, ?_, by omega, ?_, pw1.trans pw2, pu2.mono (by omega)⟩
      · simp at hx2; omega
      · simp -implicitDefEqProofs only [c_l_two_right_1, wipeE, e1, e2', pw1.puts, maxD_2, pre_n, pre_o, of_s, r_var, var1_s, r_c, r_nil, r_cons, cons1_o, cons2_o, r_lst, lst1_o, r_tup, tup1_o, r_bin, bin1_o, bin2_o, r_un, un1_o, r_bits, r_tof, tof1_o, r_and, and1_t, and1_f, r_or, or1_t, or1_f, r_not, not1_o, r_eand, eand1_t, eand1_f, r_eor, eor1_t, eor1_f, r_enot, enot1_o, r_eif, eif1_t, eif1_f, r_call, call1_o, r_callD, r_callK, callK1_o, callK2_o, r_make, r_makeP, r_mth, mth1_o, mth2_o, r_b, r_m, m1_lst, m2_o, ofW_s, r_isi, isi1_o, isi3_s, r_fld, fld1_o, fld2_s, r_eqo, eqo1_o, eqo2_o, eqo3_o, r_osm, osm1_o, r_onone, r_sl, sl1_o, sl2_o, sl3_o, r_rev, rev1_o, r_seq, seq1_l, seq1_t, r_rng1, rng1_o, r_zip, zip1_o, r_enum, enum1_o, r_lc, lc1_o, put_0, put_c, setv_c, r_sseq, then1_n, then1_r, then1_c, then1_b, r_snil, r_sretn, r_scont, r_sbrk, r_sexpr, expr1_o, r_sret, ret1_o, r_sset, set1_o, r_sif, sif1_t, sif1_f, r_stg, stg1_o, tg1_s, r_spar, par1_o, r_spar3, par3_o, r_saug, aug0_s, aug1_o, aug2_s, r_ssub, sub0_o, sub1_o, sub2_o, sub3_s, r_sfld, sfld0_o, sfld1_o, r_sfor, for1_o, r_swhile, r_run, run1_n, run1_r, len_rng, len_li, len_lst, len_tup, len_zip, len_enum, puts, putsL, optmap_nil, get_comp, puts_comp, putsL_comp, put_comp', puts_nil, putsL_nil, putE_nil, putE_map, comp_nil, nil_comp, comp_one, cutW_nil, get_one, get_nil, puts_li, putsL_li, li_len, permL, D.has, hasL, hasL_li, isTyD, isClD, isi2, isD_non, isNone, cmpD_int, negD_int, addD_int, subD_int, eqD_int, neD_int, eqD_li, neD_li, listD_lst, listD_tup, tupleD_lst, lenD_lst, lenD_tup, intD1_int, ixD_0, ixD_1, ixD_2, ixD_3, bitsD_int, cutOk, List.map_cons, List.map_nil, List.length_cons, List.length_nil, List.getElem?_cons_zero, List.getElem?_cons_succ, List.set_cons_zero, List.set_cons_succ, List.replicate, List.cons_append, List.nil_append, Option.map_some, Option.map_none, Nat.reduceAdd, Nat.reduceSub, Nat.add_assoc, Nat.zero_add, Nat.add_zero, Bool.not_true, Bool.not_false, beq_self_eq_true, String.reduceBEq, Bool.true_or, Bool.false_or, Bool.or_true, Bool.or_false, Bool.true_and, Bool.false_and, Bool.and_true, Bool.and_false, decide_true, decide_false, Bool.false_eq_true, if_true, if_false, reduceCtorEq, Nat.reduceLeDiff, r_star, star1_l, star1_t, star2_o, r_rng2, r_zipN, zipN1_o, minD_pair, maxD_pair, tgT_2, tgT_3, tg1_s]) h (len_li _ _)
  rw [len_li] at g2
  exact ⟨xs, d', w, n', g1, g2, g3, g4.mono (by omega), g5, fun x hx => by
    obtain ⟨t, ht, rfl⟩ := List.getElem_of_mem hx
    exact g6 t _ (List.getElem?_eq_getElem ht)⟩
theorem two_cap (m q : Nat) (xs : List Int) (env : Ev) (hz : xs.length ≤ 1000) (he : 12 < env.length) : lcGo [12] (tgN 12) tTrue c_l_two_right_2 xs.length 0 (.lst (.lst q (li xs))) [] m env = .ok (.lst m (li (xs.map (min 60)))) (m + 1) [] := by
  have hl := lcGo_pure (own := [12]) (tg := tgN 12) (el := c_l_two_right_2) (src := .lst (.lst q (li xs))) (ds := li xs) (fun d => match d with | .int x => .int (min 60 x) | d => d) env m (fun j => rfl) rfl
    (fun d hd' => by
      obtain ⟨x, hx, rfl⟩ := List.mem_map.mp hd'
      have hv : ((wipeE env [12]).set 12 (some (.int x)))[12]? = some (some (.int x)) := by rw [List.getElem?_set_self (by simpa [wipeE] using he)]
      refine ⟨_, rfl, ?_⟩
      simp -implicitDefEqProofs only [c_l_two_right_2, hv, minD_2, List.map_id_fun', id_eq, pre_n, pre_o, of_s, r_var, var1_s, r_c, r_nil, r_cons, cons1_o, cons2_o, r_lst, lst1_o, r_tup, tup1_o, r_bin, bin1_o, bin2_o, r_un, un1_o, r_bits, r_tof, tof1_o, r_and, and1_t, and1_f, r_or, or1_t, or1_f, r_not, not1_o, r_eand, eand1_t, eand1_f, r_eor, eor1_t, eor1_f, r_enot, enot1_o, r_eif, eif1_t, eif1_f, r_call, call1_o, r_callD, r_callK, callK1_o, callK2_o, r_make, r_makeP, r_mth, mth1_o, mth2_o, r_b, r_m, m1_lst, m2_o, ofW_s, r_isi, isi1_o, isi3_s, r_fld, fld1_o, fld2_s, r_eqo, eqo1_o, eqo2_o, eqo3_o, r_osm, osm1_o, r_onone, r_sl, sl1_o, sl2_o, sl3_o, r_rev, rev1_o, r_seq, seq1_l, seq1_t, r_rng1, rng1_o, r_zip, zip1_o, r_enum, enum1_o, r_lc, lc1_o, put_0, put_c, setv_c, r_sseq, then1_n, then1_r, then1_c, then1_b, r_snil, r_sretn, r_scont, r_sbrk, r_sexpr, expr1_o, r_sret, ret1_o, r_sset, set1_o, r_sif, sif1_t, sif1_f, r_stg, stg1_o, tg1_s, r_spar, par1_o, r_spar3, par3_o, r_saug, aug0_s, aug1_o, aug2_s, r_ssub, sub0_o, sub1_o, sub2_o, sub3_s, r_sfld, sfld0_o, sfld1_o, r_sfor, for1_o, r_swhile, r_run, run1_n, run1_r, len_rng, len_li, len_lst, len_tup, len_zip, len_enum, puts, putsL, optmap_nil, get_comp, puts_comp, putsL_comp, put_comp', puts_nil, putsL_nil, putE_nil, putE_map, comp_nil, nil_comp, comp_one, cutW_nil, get_one, get_nil, puts_li, putsL_li, li_len, permL, D.has, hasL, hasL_li, isTyD, isClD, isi2, isD_non, isNone, cmpD_int, negD_int, addD_int, subD_int, eqD_int, neD_int, eqD_li, neD_li, listD_lst, listD_tup, tupleD_lst, lenD_lst, lenD_tup, intD1_int, ixD_0, ixD_1, ixD_2, ixD_3, bitsD_int, cutOk, List.map_cons, List.map_nil, List.length_cons, List.length_nil, List.getElem?_cons_zero, List.getElem?_cons_succ, List.set_cons_zero, List.set_cons_succ, List.replicate, List.cons_append, List.nil_append, Option.map_some, Option.map_none, Nat.reduceAdd, Nat.reduceSub, Nat.add_assoc, Nat.zero_add, Nat.add_zero, Bool.not_true, Bool.not_false, beq_self_eq_true, String.reduceBEq, Bool.true_or, Bool.false_or, Bool.or_true, Bool.or_false, Bool.true_and, Bool.false_and, Bool.and_true, Bool.and_false, decide_true, decide_false, Bool.false_eq_true, if_true, if_false, reduceCtorEq, Nat.reduceLeDiff, r_star, star1_l, star1_t, star2_o, r_rng2, r_zipN, zipN1_o, minD_pair, maxD_pair, tgT_2, tgT_3, tg1_s]) (by rw [li_len]; exact Nat.le_trans hz (by decide))
  rw [len_li] at hl
  rw [hl]
  unfold li
  rw [List.map_map, List.map_map]
  rfl
theorem alk_ll {m u v : Nat} {xs ys : List D} (hl : xs.length = ys.length) (hz : xs.length ≤ 1000) (h : ∀ (k : Nat) x y, xs[k]? = some x → ys[k]? = some y → Alk m x y) : Alk (m + 1) (.lst u xs) (.lst v ys) := ⟨hl, hz, h⟩
theorem alk_b2 (u v : Nat) (a b : Bool) : Alk 1 (.lst u [.bl a, .bl b]) (.lst v [.bl a, .bl b]) := alk_ll rfl (by simp) fun k x y hx hy => by
  match k with
  | 0 => cases hx; cases hy; rfl
  | 1 => cases hx; cases hy; rfl
  | k + 2 => simp at hx
theorem alk_3 {m u v : Nat} {x0 x1 x2 y0 y1 y2 : D} (h0 : Alk m x0 y0) (h1 : Alk m x1 y1) (h2 : Alk m x2 y2) : Alk (m + 1) (.lst u [x0, x1, x2]) (.lst v [y0, y1, y2]) := alk_ll rfl (by simp) fun k x y hx hy => by
  match k with
  | 0 => cases hx; cases hy; exact h0
  | 1 => cases hx; cases hy; exact h1
  | 2 => cases hx; cases hy; exact h2
  | k + 3 => simp at hx
theorem alk_2 {m u v : Nat} {x0 x1 y0 y1 : D} (h0 : Alk m x0 y0) (h1 : Alk m x1 y1) : Alk (m + 1) (.lst u [x0, x1]) (.lst v [y0, y1]) := alk_ll rfl (by simp) fun k x y hx hy => by
  match k with
  | 0 => cases hx; cases hy; exact h0
  | 1 => cases hx; cases hy; exact h1
  | k + 2 => simp at hx
end K04
end
section
set_option Elab.async false
set_option linter.all false
set_option maxRecDepth 100000
set_option maxHeartbeats 1000000
namespace K04
open PySem Sx B
theorem two_8 (p n m i j k a b c : Nat) (N : Int) (dk d0 : D) (bs rs : List Int) (t : Int) (o4 o5 o6 o7 o8 o9 : Option D) (w : Wr) (src : Src) (hsrc : ∀ w, src.puts w = src)
    (hrest : ∀ d1 w d2, PW p d1 w d2 → putE w [some (hd i j k bs rs), some (ho a b c bs rs), some (.int t), o4, o5, o6, o7, o8, o9, none, none, none, none, none, none, none] = [some (hd i j k bs rs), some (ho a b c bs rs), some (.int t), o4, o5, o6, o7, o8, o9, none, none, none, none, none, none, none])
    (h : Pu p N dk) (hN : N ≤ 700000) (hp : p < n) (hn : n ≤ m) (hip : i ≠ p) (hjp : j ≠ p) (hkp : k ≠ p) (hi : i < m) (hj : j < m) (hk : k < m) (hap : a ≠ p) (hbp : b ≠ p) (hcp : c ≠ p) (ha : a < m) (hb : b < m) (hc : c < m) (hg : Good bs rs) (h0 : PW p d0 w dk) :
    ∃ d' w' m' o4' o5' o6' o7' o8' o9', m ≤ m' ∧ PW p d0 w' d' ∧ Pu p (N + 100) d' ∧ (∀ x ∈ [o4', o5', o6', o7', o8', o9'], ∀ y, x = some y → D.has p y = false) ∧
      b_l_two_right_8 n ⟨m, [some dk, some (hd i j k bs rs), some (ho a b c bs rs), some (.int t), o4, o5, o6, o7, o8, o9, none, none, none, none, none, none, none], w, [src]⟩ =
      .nx ⟨m', [some d', some (hd i j k bs rs), some (ho a b c bs rs), some (.int t), o4', o5', o6', o7', o8', o9', none, none, none, none, none, none, none], w', [src]⟩ := by
  have hm := hg.m
  have hlr := hg.l
  obtain ⟨rs1, d1, w1, m1, hm1, e1, pw1, pu1, hl1, hb1⟩ := two_rooms p m i j k N dk (ho a b c bs rs) bs rs (some (.int t)) o4 o5 o6 o7 o8 o9 hrest h hN (by omega) hkp hg
  have t1 := h0.trans pw1
  have hE := hrest _ _ _ pw1
  obtain ⟨rs2, hrs2⟩ : ∃ rs2, rs1.map (min 60) = rs2 := ⟨_, rfl⟩
  have hl2 : rs.length = rs2.length := by rw [← hrs2, List.length_map, hl1]
  have hb2 : Btw 0 60 rs2 := by
    rw [← hrs2]
    intro x hx
    obtain ⟨y, hy, rfl⟩ := List.mem_map.mp hx
    have := hb1 y hy
    omega
  have g2 : Good bs rs2 := ⟨hg.b, hb2, by omega, hg.m⟩
  have gl := good_zw min_ok hg hb2 hl2
  have gg := good_zw max_ok hg hb2 hl2
  have e2 := two_cap (m1 + 1) m1 rs1 [some d1, some (hd i j k bs rs), some (ho a b c bs rs), some (.int t), some (.lst m1 (li rs1)), o5, o6, o7, o8, o9, none, none, none, none, none, none, none] (by omega) (by simp)
  rw [hl1, hrs2] at e2
  have vm := v_mk (m1 + 2) (m1 + 3) bs rs2 (m1 + 4) (by omega) (by omega) (fun x hx => (hg.b x hx).1) (fun x hx => (hb2 x hx).1) g2.l (by omega)
  have z1 := lc_zipP (own := [13, 14]) (tg := tgT [tgN 13, tgN 14]) (el := c_l_two_right_3) k (m1 + 1) rs rs2 (fun x y => .bl (decide (x ≤ y))) (m1 + 9) [some d1, some (hd i j k bs rs), some (ho a b c bs rs), some (.int t), some (.lst (m1 + 1) (li rs2)), some (ho (m1 + 4) (m1 + 7) (m1 + 8) bs rs2), o6, o7, o8, o9, none, none, none, none, none, none, none] hl2 (by omega) (fun x y => ⟨_, rfl, by simp -implicitDefEqProofs only [c_l_two_right_3, wipeE, pre_n, pre_o, of_s, r_var, var1_s, r_c, r_nil, r_cons, cons1_o, cons2_o, r_lst, lst1_o, r_tup, tup1_o, r_bin, bin1_o, bin2_o, r_un, un1_o, r_bits, r_tof, tof1_o, r_and, and1_t, and1_f, r_or, or1_t, or1_f, r_not, not1_o, r_eand, eand1_t, eand1_f, r_eor, eor1_t, eor1_f, r_enot, enot1_o, r_eif, eif1_t, eif1_f, r_call, call1_o, r_callD, r_callK, callK1_o, callK2_o, r_make, r_makeP, r_mth, mth1_o, mth2_o, r_b, r_m, m1_lst, m2_o, ofW_s, r_isi, isi1_o, isi3_s, r_fld, fld1_o, fld2_s, r_eqo, eqo1_o, eqo2_o, eqo3_o, r_osm, osm1_o, r_onone, r_sl, sl1_o, sl2_o, sl3_o, r_rev, rev1_o, r_seq, seq1_l, seq1_t, r_rng1, rng1_o, r_zip, zip1_o, r_enum, enum1_o, r_lc, lc1_o, put_0, put_c, setv_c, r_sseq, then1_n, then1_r, then1_c, then1_b, r_snil, r_sretn, r_scont, r_sbrk, r_sexpr, expr1_o, r_sret, ret1_o, r_sset, set1_o, r_sif, sif1_t, sif1_f, r_stg, stg1_o, tg1_s, r_spar, par1_o, r_spar3, par3_o, r_saug, aug0_s, aug1_o, aug2_s, r_ssub, sub0_o, sub1_o, sub2_o, sub3_s, r_sfld, sfld0_o, sfld1_o, r_sfor, for1_o, r_swhile, r_run, run1_n, run1_r, len_rng, len_li, len_lst, len_tup, len_zip, len_enum, puts, putsL, optmap_nil, get_comp, puts_comp, putsL_comp, put_comp', puts_nil, putsL_nil, putE_nil, putE_map, comp_nil, nil_comp, comp_one, cutW_nil, get_one, get_nil, puts_li, putsL_li, li_len, permL, D.has, hasL, hasL_li, isTyD, isClD, isi2, isD_non, isNone, cmpD_int, negD_int, addD_int, subD_int, eqD_int, neD_int, eqD_li, neD_li, listD_lst, listD_tup, tupleD_lst, lenD_lst, lenD_tup, intD1_int, ixD_0, ixD_1, ixD_2, ixD_3, bitsD_int, cutOk, List.map_cons, List.map_nil, List.length_cons, List.length_nil, List.getElem?_cons_zero, List.getElem?_cons_succ, List.set_cons_zero, List.set_cons_succ, List.replicate, List.cons_append, List.nil_append, Option.map_some, Option.map_none, Nat.reduceAdd, Nat.reduceSub, Nat.add_assoc, Nat.zero_add, Nat.add_zero, Bool.not_true, Bool.not_false, beq_self_eq_true, String.reduceBEq, Bool.true_or, Bool.false_or, Bool.or_true, Bool.or_false, Bool.true_and, Bool.false_and, Bool.and_true, Bool.and_false, decide_true, decide_false, Bool.false_eq_true, if_true, if_false, reduceCtorEq, Nat.reduceLeDiff, r_star, star1_l, star1_t, star2_o, r_rng2, r_zipN, zipN1_o, minD_pair, maxD_pair, tgT_2, tgT_3, tg1_s]⟩)
  have z2 := fun o6 => lc_zipP (own := [13, 14]) (tg := tgT [tgN 13, tgN 14]) (el := c_l_two_right_4) (m1 + 1) k rs2 rs (fun x y => .bl (decide (x ≤ y))) (m1 + 10) [some d1, some (hd i j k bs rs), some (ho a b c bs rs), some (.int t), some (.lst (m1 + 1) (li rs2)), some (ho (m1 + 4) (m1 + 7) (m1 + 8) bs rs2), o6, o7, o8, o9, none, none, none, none, none, none, none] hl2.symm (by omega) (fun x y => ⟨_, rfl, by simp -implicitDefEqProofs only [c_l_two_right_4, wipeE, pre_n, pre_o, of_s, r_var, var1_s, r_c, r_nil, r_cons, cons1_o, cons2_o, r_lst, lst1_o, r_tup, tup1_o, r_bin, bin1_o, bin2_o, r_un, un1_o, r_bits, r_tof, tof1_o, r_and, and1_t, and1_f, r_or, or1_t, or1_f, r_not, not1_o, r_eand, eand1_t, eand1_f, r_eor, eor1_t, eor1_f, r_enot, enot1_o, r_eif, eif1_t, eif1_f, r_call, call1_o, r_callD, r_callK, callK1_o, callK2_o, r_make, r_makeP, r_mth, mth1_o, mth2_o, r_b, r_m, m1_lst, m2_o, ofW_s, r_isi, isi1_o, isi3_s, r_fld, fld1_o, fld2_s, r_eqo, eqo1_o, eqo2_o, eqo3_o, r_osm, osm1_o, r_onone, r_sl, sl1_o, sl2_o, sl3_o, r_rev, rev1_o, r_seq, seq1_l, seq1_t, r_rng1, rng1_o, r_zip, zip1_o, r_enum, enum1_o, r_lc, lc1_o, put_0, put_c, setv_c, r_sseq, then1_n, then1_r, then1_c, then1_b, r_snil, r_sretn, r_scont, r_sbrk, r_sexpr, expr1_o, r_sret, ret1_o, r_sset, set1_o, r_sif, sif1_t, sif1_f, r_stg, stg1_o, tg1_s, r_spar, par1_o, r_spar3, par3_o, r_saug, aug0_s, aug1_o, aug2_s, r_ssub, sub0_o, sub1_o, sub2_o, sub3_s, r_sfld, sfld0_o, sfld1_o, r_sfor, for1_o, r_swhile, r_run, run1_n, run1_r, len_rng, len_li, len_lst, len_tup, len_zip, len_enum, puts, putsL, optmap_nil, get_comp, puts_comp, putsL_comp, put_comp', puts_nil, putsL_nil, putE_nil, putE_map, comp_nil, nil_comp, comp_one, cutW_nil, get_one, get_nil, puts_li, putsL_li, li_len, permL, D.has, hasL, hasL_li, isTyD, isClD, isi2, isD_non, isNone, cmpD_int, negD_int, addD_int, subD_int, eqD_int, neD_int, eqD_li, neD_li, listD_lst, listD_tup, tupleD_lst, lenD_lst, lenD_tup, intD1_int, ixD_0, ixD_1, ixD_2, ixD_3, bitsD_int, cutOk, List.map_cons, List.map_nil, List.length_cons, List.length_nil, List.getElem?_cons_zero, List.getElem?_cons_succ, List.set_cons_zero, List.set_cons_succ, List.replicate, List.cons_append, List.nil_append, Option.map_some, Option.map_none, Nat.reduceAdd, Nat.reduceSub, Nat.add_assoc, Nat.zero_add, Nat.add_zero, Bool.not_true, Bool.not_false, beq_self_eq_true, String.reduceBEq, Bool.true_or, Bool.false_or, Bool.or_true, Bool.or_false, Bool.true_and, Bool.false_and, Bool.and_true, Bool.and_false, decide_true, decide_false, Bool.false_eq_true, if_true, if_false, reduceCtorEq, Nat.reduceLeDiff, r_star, star1_l, star1_t, star2_o, r_rng2, r_zipN, zipN1_o, minD_pair, maxD_pair, tgT_2, tgT_3, tg1_s]⟩)
  rw [bl_zipWith] at z1
  simp only [bl_zipWith] at z2
  have i1 := v_within a b c (m1 + 4) (m1 + 7) (m1 + 8) bs rs rs2 (m1 + 11) (by omega) hl2
  have i2 := v_within (m1 + 4) (m1 + 7) (m1 + 8) a b c bs rs2 rs (m1 + 12) (by omega) hl2.symm
  obtain ⟨n2, hn2, x1⟩ := v_exact 8 1 _ _ (m1 + 15) (by omega) (alk_b2 (m1 + 13) (m1 + 14) (lee rs rs2) (lee rs2 rs))
  have l1 := v_lesser a b c (m1 + 4) (m1 + 7) (m1 + 8) bs rs rs2 n2 (by omega) (fun x hx => (hg.b x hx).1) (fun x hx => (gl.r x hx).1) hlr hl2 (by omega)
  have l2 := v_greater a b c (m1 + 4) (m1 + 7) (m1 + 8) bs rs rs2 (n2 + 6) (by omega) (fun x hx => (hg.b x hx).1) (fun x hx => (gg.r x hx).1) hlr hl2 (by omega)
  have l3 := v_lesser (m1 + 4) (m1 + 7) (m1 + 8) a b c bs rs2 rs (n2 + 12) (by omega) (fun x hx => (hg.b x hx).1) (fun x hx => by rw [min_comm'] at hx; exact (gl.r x hx).1) g2.l hl2.symm (by omega)
  rw [min_comm' rs2 rs] at l3
  have z3 := fun o6 o7 o8 => lc_zipP (own := [15]) (tg := tgN 15) (el := c_l_two_right_6) k (m1 + 1) rs rs2 (fun x y => .int (min x y)) (n2 + 19) [some d1, some (hd i j k bs rs), some (ho a b c bs rs), some (.int t), some (.lst (m1 + 1) (li rs2)), some (ho (m1 + 4) (m1 + 7) (m1 + 8) bs rs2), o6, o7, o8, o9, none, none, none, none, none, none, none] hl2 (by omega) (fun x y => ⟨_, rfl, by simp -implicitDefEqProofs only [c_l_two_right_6, wipeE, pre_n, pre_o, of_s, r_var, var1_s, r_c, r_nil, r_cons, cons1_o, cons2_o, r_lst, lst1_o, r_tup, tup1_o, r_bin, bin1_o, bin2_o, r_un, un1_o, r_bits, r_tof, tof1_o, r_and, and1_t, and1_f, r_or, or1_t, or1_f, r_not, not1_o, r_eand, eand1_t, eand1_f, r_eor, eor1_t, eor1_f, r_enot, enot1_o, r_eif, eif1_t, eif1_f, r_call, call1_o, r_callD, r_callK, callK1_o, callK2_o, r_make, r_makeP, r_mth, mth1_o, mth2_o, r_b, r_m, m1_lst, m2_o, ofW_s, r_isi, isi1_o, isi3_s, r_fld, fld1_o, fld2_s, r_eqo, eqo1_o, eqo2_o, eqo3_o, r_osm, osm1_o, r_onone, r_sl, sl1_o, sl2_o, sl3_o, r_rev, rev1_o, r_seq, seq1_l, seq1_t, r_rng1, rng1_o, r_zip, zip1_o, r_enum, enum1_o, r_lc, lc1_o, put_0, put_c, setv_c, r_sseq, then1_n, then1_r, then1_c, then1_b, r_snil, r_sretn, r_scont, r_sbrk, r_sexpr, expr1_o, r_sret, ret1_o, r_sset, set1_o, r_sif, sif1_t, sif1_f, r_stg, stg1_o, tg1_s, r_spar, par1_o, r_spar3, par3_o, r_saug, aug0_s, aug1_o, aug2_s, r_ssub, sub0_o, sub1_o, sub2_o, sub3_s, r_sfld, sfld0_o, sfld1_o, r_sfor, for1_o, r_swhile, r_run, run1_n, run1_r, len_rng, len_li, len_lst, len_tup, len_zip, len_enum, puts, putsL, optmap_nil, get_comp, puts_comp, putsL_comp, put_comp', puts_nil, putsL_nil, putE_nil, putE_map, comp_nil, nil_comp, comp_one, cutW_nil, get_one, get_nil, puts_li, putsL_li, li_len, permL, D.has, hasL, hasL_li, isTyD, isClD, isi2, isD_non, isNone, cmpD_int, negD_int, addD_int, subD_int, eqD_int, neD_int, eqD_li, neD_li, listD_lst, listD_tup, tupleD_lst, lenD_lst, lenD_tup, intD1_int, ixD_0, ixD_1, ixD_2, ixD_3, bitsD_int, cutOk, List.map_cons, List.map_nil, List.length_cons, List.length_nil, List.getElem?_cons_zero, List.getElem?_cons_succ, List.set_cons_zero, List.set_cons_succ, List.replicate, List.cons_append, List.nil_append, Option.map_some, Option.map_none, Nat.reduceAdd, Nat.reduceSub, Nat.add_assoc, Nat.zero_add, Nat.add_zero, Bool.not_true, Bool.not_false, beq_self_eq_true, String.reduceBEq, Bool.true_or, Bool.false_or, Bool.or_true, Bool.or_false, Bool.true_and, Bool.false_and, Bool.and_true, Bool.and_false, decide_true, decide_false, Bool.false_eq_true, if_true, if_false, reduceCtorEq, Nat.reduceLeDiff, r_star, star1_l, star1_t, star2_o, r_rng2, r_zipN, zipN1_o, minD_pair, maxD_pair, tgT_2, tgT_3, tg1_s]⟩)
  have z4 := fun o6 o7 o8 => lc_zipP (own := [15]) (tg := tgN 15) (el := c_l_two_right_5) k (m1 + 1) rs rs2 (fun x y => .int (max x y)) (n2 + 20) [some d1, some (hd i j k bs rs), some (ho a b c bs rs), some (.int t), some (.lst (m1 + 1) (li rs2)), some (ho (m1 + 4) (m1 + 7) (m1 + 8) bs rs2), o6, o7, o8, o9, none, none, none, none, none, none, none] hl2 (by omega) (fun x y => ⟨_, rfl, by simp -implicitDefEqProofs only [c_l_two_right_5, wipeE, pre_n, pre_o, of_s, r_var, var1_s, r_c, r_nil, r_cons, cons1_o, cons2_o, r_lst, lst1_o, r_tup, tup1_o, r_bin, bin1_o, bin2_o, r_un, un1_o, r_bits, r_tof, tof1_o, r_and, and1_t, and1_f, r_or, or1_t, or1_f, r_not, not1_o, r_eand, eand1_t, eand1_f, r_eor, eor1_t, eor1_f, r_enot, enot1_o, r_eif, eif1_t, eif1_f, r_call, call1_o, r_callD, r_callK, callK1_o, callK2_o, r_make, r_makeP, r_mth, mth1_o, mth2_o, r_b, r_m, m1_lst, m2_o, ofW_s, r_isi, isi1_o, isi3_s, r_fld, fld1_o, fld2_s, r_eqo, eqo1_o, eqo2_o, eqo3_o, r_osm, osm1_o, r_onone, r_sl, sl1_o, sl2_o, sl3_o, r_rev, rev1_o, r_seq, seq1_l, seq1_t, r_rng1, rng1_o, r_zip, zip1_o, r_enum, enum1_o, r_lc, lc1_o, put_0, put_c, setv_c, r_sseq, then1_n, then1_r, then1_c, then1_b, r_snil, r_sretn, r_scont, r_sbrk, r_sexpr, expr1_o, r_sret, ret1_o, r_sset, set1_o, r_sif, sif1_t, sif1_f, r_stg, stg1_o, tg1_s, r_spar, par1_o, r_spar3, par3_o, r_saug, aug0_s, aug1_o, aug2_s, r_ssub, sub0_o, sub1_o, sub2_o, sub3_s, r_sfld, sfld0_o, sfld1_o, r_sfor, for1_o, r_swhile, r_run, run1_n, run1_r, len_rng, len_li, len_lst, len_tup, len_zip, len_enum, puts, putsL, optmap_nil, get_comp, puts_comp, putsL_comp, put_comp', puts_nil, putsL_nil, putE_nil, putE_map, comp_nil, nil_comp, comp_one, cutW_nil, get_one, get_nil, puts_li, putsL_li, li_len, permL, D.has, hasL, hasL_li, isTyD, isClD, isi2, isD_non, isNone, cmpD_int, negD_int, addD_int, subD_int, eqD_int, neD_int, eqD_li, neD_li, listD_lst, listD_tup, tupleD_lst, lenD_lst, lenD_tup, intD1_int, ixD_0, ixD_1, ixD_2, ixD_3, bitsD_int, cutOk, List.map_cons, List.map_nil, List.length_cons, List.length_nil, List.getElem?_cons_zero, List.getElem?_cons_succ, List.set_cons_zero, List.set_cons_succ, List.replicate, List.cons_append, List.nil_append, Option.map_some, Option.map_none, Nat.reduceAdd, Nat.reduceSub, Nat.add_assoc, Nat.zero_add, Nat.add_zero, Bool.not_true, Bool.not_false, beq_self_eq_true, String.reduceBEq, Bool.true_or, Bool.false_or, Bool.or_true, Bool.or_false, Bool.true_and, Bool.false_and, Bool.and_true, Bool.and_false, decide_true, decide_false, Bool.false_eq_true, if_true, if_false, reduceCtorEq, Nat.reduceLeDiff, r_star, star1_l, star1_t, star2_o, r_rng2, r_zipN, zipN1_o, minD_pair, maxD_pair, tgT_2, tgT_3, tg1_s]⟩)
  simp only [li_zipWith] at z3 z4
  generalize hmn : List.zipWith min rs rs2 = mn at *
  generalize hmx : List.zipWith max rs rs2 = mx at *
  obtain ⟨s1, hs1, y1⟩ := v_told_of (n2 + 1) (n2 + 4) (n2 + 5) (n2 + 22) bs mn gl (by omega) (by omega) (by omega)
  obtain ⟨s2, hs2, y2⟩ := v_told_of (n2 + 7) (n2 + 10) (n2 + 11) s1 bs mx gg (by omega) (by omega) (by omega)
  obtain ⟨s3, hs3, y3⟩ := v_told_of (n2 + 13) (n2 + 16) (n2 + 17) s2 bs mn gl (by omega) (by omega) (by omega)
  have ll : ∀ env : Ev, env.length = 17 → ∀ x, ((wipeE env [16]).set 16 (some x))[16]? = some (some x) := fun env he x => by rw [List.getElem?_set_self (by simp [wipeE, he])]
  have z5 := fun (env : Ev) (he : env.length = 17) => lc_3 (own := [16]) (tg := tgN 16) (el := c_l_two_right_7) (q := n2 + 18) (n := n2 + 22) (n1 := s1) (n2 := s2) (n3 := s3) (x0 := ho (n2 + 1) (n2 + 4) (n2 + 5) bs mn) (x1 := ho (n2 + 7) (n2 + 10) (n2 + 11) bs mx) (x2 := ho (n2 + 13) (n2 + 16) (n2 + 17) bs mn) (y0 := hd (n2 + 24) (n2 + 22) (n2 + 23) bs mn) (y1 := hd (s1 + 2) s1 (s1 + 1) bs mx) (y2 := hd (s2 + 2) s2 (s2 + 1) bs mn) (env := env) rfl rfl rfl
    (by simp -implicitDefEqProofs only [c_l_two_right_7, ll env he, y1, List.map_id_fun', id_eq, pre_n, pre_o, of_s, r_var, var1_s, r_c, r_nil, r_cons, cons1_o, cons2_o, r_lst, lst1_o, r_tup, tup1_o, r_bin, bin1_o, bin2_o, r_un, un1_o, r_bits, r_tof, tof1_o, r_and, and1_t, and1_f, r_or, or1_t, or1_f, r_not, not1_o, r_eand, eand1_t, eand1_f, r_eor, eor1_t, eor1_f, r_enot, enot1_o, r_eif, eif1_t, eif1_f, r_call, call1_o, r_callD, r_callK, callK1_o, callK2_o, r_make, r_makeP, r_mth, mth1_o, mth2_o, r_b, r_m, m1_lst, m2_o, ofW_s, r_isi, isi1_o, isi3_s, r_fld, fld1_o, fld2_s, r_eqo, eqo1_o, eqo2_o, eqo3_o, r_osm, osm1_o, r_onone, r_sl, sl1_o, sl2_o, sl3_o, r_rev, rev1_o, r_seq, seq1_l, seq1_t, r_rng1, rng1_o, r_zip, zip1_o, r_enum, enum1_o, r_lc, lc1_o, put_0, put_c, setv_c, r_sseq, then1_n, then1_r, then1_c, then1_b, r_snil, r_sretn, r_scont, r_sbrk, r_sexpr, expr1_o, r_sret, ret1_o, r_sset, set1_o, r_sif, sif1_t, sif1_f, r_stg, stg1_o, tg1_s, r_spar, par1_o, r_spar3, par3_o, r_saug, aug0_s, aug1_o, aug2_s, r_ssub, sub0_o, sub1_o, sub2_o, sub3_s, r_sfld, sfld0_o, sfld1_o, r_sfor, for1_o, r_swhile, r_run, run1_n, run1_r, len_rng, len_li, len_lst, len_tup, len_zip, len_enum, puts, putsL, optmap_nil, get_comp, puts_comp, putsL_comp, put_comp', puts_nil, putsL_nil, putE_nil, putE_map, comp_nil, nil_comp, comp_one, cutW_nil, get_one, get_nil, puts_li, putsL_li, li_len, permL, D.has, hasL, hasL_li, isTyD, isClD, isi2, isD_non, isNone, cmpD_int, negD_int, addD_int, subD_int, eqD_int, neD_int, eqD_li, neD_li, listD_lst, listD_tup, tupleD_lst, lenD_lst, lenD_tup, intD1_int, ixD_0, ixD_1, ixD_2, ixD_3, bitsD_int, cutOk, List.map_cons, List.map_nil, List.length_cons, List.length_nil, List.getElem?_cons_zero, List.getElem?_cons_succ, List.set_cons_zero, List.set_cons_succ, List.replicate, List.cons_append, List.nil_append, Option.map_some, Option.map_none, Nat.reduceAdd, Nat.reduceSub, Nat.add_assoc, Nat.zero_add, Nat.add_zero, Bool.not_true, Bool.not_false, beq_self_eq_true, String.reduceBEq, Bool.true_or, Bool.false_or, Bool.or_true, Bool.or_false, Bool.true_and, Bool.false_and, Bool.and_true, Bool.and_false, decide_true, decide_false, Bool.false_eq_true, if_true, if_false, reduceCtorEq, Nat.reduceLeDiff, r_star, star1_l, star1_t, star2_o, r_rng2, r_zipN, zipN1_o, minD_pair, maxD_pair, tgT_2, tgT_3, tg1_s]) (by simp -implicitDefEqProofs only [c_l_two_right_7, ll env he, y2, List.map_id_fun', id_eq, pre_n, pre_o, of_s, r_var, var1_s, r_c, r_nil, r_cons, cons1_o, cons2_o, r_lst, lst1_o, r_tup, tup1_o, r_bin, bin1_o, bin2_o, r_un, un1_o, r_bits, r_tof, tof1_o, r_and, and1_t, and1_f, r_or, or1_t, or1_f, r_not, not1_o, r_eand, eand1_t, eand1_f, r_eor, eor1_t, eor1_f, r_enot, enot1_o, r_eif, eif1_t, eif1_f, r_call, call1_o, r_callD, r_callK, callK1_o, callK2_o, r_make, r_makeP, r_mth, mth1_o, mth2_o, r_b, r_m, m1_lst, m2_o, ofW_s, r_isi, isi1_o, isi3_s, r_fld, fld1_o, fld2_s, r_eqo, eqo1_o, eqo2_o, eqo3_o, r_osm, osm1_o, r_onone, r_sl, sl1_o, sl2_o, sl3_o, r_rev, rev1_o, r_seq, seq1_l, seq1_t, r_rng1, rng1_o, r_zip, zip1_o, r_enum, enum1_o, r_lc, lc1_o, put_0, put_c, setv_c, r_sseq, then1_n, then1_r, then1_c, then1_b, r_snil, r_sretn, r_scont, r_sbrk, r_sexpr, expr1_o, r_sret, ret1_o, r_sset, set1_o, r_sif, sif1_t, sif1_f, r_stg, stg1_o, tg1_s, r_spar, par1_o, r_spar3, par3_o, r_saug, aug0_s, aug1_o, aug2_s, r_ssub, sub0_o, sub1_o, sub2_o, sub3_s, r_sfld, sfld0_o, sfld1_o, r_sfor, for1_o, r_swhile, r_run, run1_n, run1_r, len_rng, len_li, len_lst, len_tup, len_zip, len_enum, puts, putsL, optmap_nil, get_comp, puts_comp, putsL_comp, put_comp', puts_nil, putsL_nil, putE_nil, putE_map, comp_nil, nil_comp, comp_one, cutW_nil, get_one, get_nil, puts_li, putsL_li, li_len, permL, D.has, hasL, hasL_li, isTyD, isClD, isi2, isD_non, isNone, cmpD_int, negD_int, addD_int, subD_int, eqD_int, neD_int, eqD_li, neD_li, listD_lst, listD_tup, tupleD_lst, lenD_lst, lenD_tup, intD1_int, ixD_0, ixD_1, ixD_2, ixD_3, bitsD_int, cutOk, List.map_cons, List.map_nil, List.length_cons, List.length_nil, List.getElem?_cons_zero, List.getElem?_cons_succ, List.set_cons_zero, List.set_cons_succ, List.replicate, List.cons_append, List.nil_append, Option.map_some, Option.map_none, Nat.reduceAdd, Nat.reduceSub, Nat.add_assoc, Nat.zero_add, Nat.add_zero, Bool.not_true, Bool.not_false, beq_self_eq_true, String.reduceBEq, Bool.true_or, Bool.false_or, Bool.or_true, Bool.or_false, Bool.true_and, Bool.false_and, Bool.and_true, Bool.and_false, decide_true, decide_false, Bool.false_eq_true, if_true, if_false, reduceCtorEq, Nat.reduceLeDiff, r_star, star1_l, star1_t, star2_o, r_rng2, r_zipN, zipN1_o, minD_pair, maxD_pair, tgT_2, tgT_3, tg1_s]) (by simp -implicitDefEqProofs only [c_l_two_right_7, ll env he, y3, List.map_id_fun', id_eq, pre_n, pre_o, of_s, r_var, var1_s, r_c, r_nil, r_cons, cons1_o, cons2_o, r_lst, lst1_o, r_tup, tup1_o, r_bin, bin1_o, bin2_o, r_un, un1_o, r_bits, r_tof, tof1_o, r_and, and1_t, and1_f, r_or, or1_t, or1_f, r_not, not1_o, r_eand, eand1_t, eand1_f, r_eor, eor1_t, eor1_f, r_enot, enot1_o, r_eif, eif1_t, eif1_f, r_call, call1_o, r_callD, r_callK, callK1_o, callK2_o, r_make, r_makeP, r_mth, mth1_o, mth2_o, r_b, r_m, m1_lst, m2_o, ofW_s, r_isi, isi1_o, isi3_s, r_fld, fld1_o, fld2_s, r_eqo, eqo1_o, eqo2_o, eqo3_o, r_osm, osm1_o, r_onone, r_sl, sl1_o, sl2_o, sl3_o, r_rev, rev1_o, r_seq, seq1_l, seq1_t, r_rng1, rng1_o, r_zip, zip1_o, r_enum, enum1_o, r_lc, lc1_o, put_0, put_c, setv_c, r_sseq, then1_n, then1_r, then1_c, then1_b, r_snil, r_sretn, r_scont, r_sbrk, r_sexpr, expr1_o, r_sret, ret1_o, r_sset, set1_o, r_sif, sif1_t, sif1_f, r_stg, stg1_o, tg1_s, r_spar, par1_o, r_spar3, par3_o, r_saug, aug0_s, aug1_o, aug2_s, r_ssub, sub0_o, sub1_o, sub2_o, sub3_s, r_sfld, sfld0_o, sfld1_o, r_sfor, for1_o, r_swhile, r_run, run1_n, run1_r, len_rng, len_li, len_lst, len_tup, len_zip, len_enum, puts, putsL, optmap_nil, get_comp, puts_comp, putsL_comp, put_comp', puts_nil, putsL_nil, putE_nil, putE_map, comp_nil, nil_comp, comp_one, cutW_nil, get_one, get_nil, puts_li, putsL_li, li_len, permL, D.has, hasL, hasL_li, isTyD, isClD, isi2, isD_non, isNone, cmpD_int, negD_int, addD_int, subD_int, eqD_int, neD_int, eqD_li, neD_li, listD_lst, listD_tup, tupleD_lst, lenD_lst, lenD_tup, intD1_int, ixD_0, ixD_1, ixD_2, ixD_3, bitsD_int, cutOk, List.map_cons, List.map_nil, List.length_cons, List.length_nil, List.getElem?_cons_zero, List.getElem?_cons_succ, List.set_cons_zero, List.set_cons_succ, List.replicate, List.cons_append, List.nil_append, Option.map_some, Option.map_none, Nat.reduceAdd, Nat.reduceSub, Nat.add_assoc, Nat.zero_add, Nat.add_zero, Bool.not_true, Bool.not_false, beq_self_eq_true, String.reduceBEq, Bool.true_or, Bool.false_or, Bool.or_true, Bool.or_false, Bool.true_and, Bool.false_and, Bool.and_true, Bool.and_false, decide_true, decide_false, Bool.false_eq_true, if_true, if_false, reduceCtorEq, Nat.reduceLeDiff, r_star, star1_l, star1_t, star2_o, r_rng2, r_zipN, zipN1_o, minD_pair, maxD_pair, tgT_2, tgT_3, tg1_s])
  have bl := hg.m
  have ml := gl.l
  have xl := gg.l
  obtain ⟨s4, hs4, x2⟩ := v_exact 8 3 _ _ (s3 + 5) (by omega) (alk_3 (u := s3) (v := s3 + 4) (alk2 (n2 + 24) (s3 + 1) (n2 + 22) (n2 + 23) j (n2 + 19) bs mn (by omega) (by omega)) (alk2 (s1 + 2) (s3 + 2) s1 (s1 + 1) j (n2 + 20) bs mx (by omega) (by omega)) (alk2 (s2 + 2) (s3 + 3) s2 (s2 + 1) j (n2 + 19) bs mn (by omega) (by omega)))
  have i3 := v_within (n2 + 1) (n2 + 4) (n2 + 5) a b c bs mn rs s4 (by omega) (by omega)
  have i4 := v_within (m1 + 4) (m1 + 7) (m1 + 8) (n2 + 7) (n2 + 10) (n2 + 11) bs rs2 mx (s4 + 1) (by omega) (by omega)
  rw [show lee mn rs = true by rw [← hmn]; exact lee_min rs rs2] at i3
  rw [show lee rs2 mx = true by rw [← hmx]; exact lee_max rs rs2] at i4
  obtain ⟨s5, hs5, y4⟩ := v_told_of a b c (s4 + 2) bs rs hg (by omega) (by omega) (by omega)
  obtain ⟨s6, hs6, x3⟩ := v_exact 8 2 _ _ s5 (by omega) (alk2 (s4 + 4) i (s4 + 2) (s4 + 3) j k bs rs (by omega) (by omega))
  refine ⟨d1, comp w w1, s6, some (.lst (m1 + 1) (li rs2)), some (ho (m1 + 4) (m1 + 7) (m1 + 8) bs rs2), some (.bl (lee rs rs2)), some (.bl (lee rs2 rs)), some (.lst (n2 + 18) [ho (n2 + 1) (n2 + 4) (n2 + 5) bs mn, ho (n2 + 7) (n2 + 10) (n2 + 11) bs mx, ho (n2 + 13) (n2 + 16) (n2 + 17) bs mn]), some (.lst (n2 + 21) [.lst (n2 + 19) (li mn), .lst (n2 + 20) (li mx)]), by omega, t1, pu1, ?_, ?_⟩
  · intro x hx y hy
    simp only [List.mem_cons, List.not_mem_nil, or_false] at hx
    rcases hx with rfl | rfl | rfl | rfl | rfl | rfl <;> cases hy <;> simp [D.has, hasL, hasL_li, ho] <;> omega
  · have pz : SS.put ⟨m, [some dk, some (hd i j k bs rs), some (ho a b c bs rs), some (.int t), o4, o5, o6, o7, o8, o9, none, none, none, none, none, none, none], w, [src]⟩ n (m1 + 1) w1 = ⟨m1 + 1, [some d1, some (hd i j k bs rs), some (ho a b c bs rs), some (.int t), o4, o5, o6, o7, o8, o9, none, none, none, none, none, none, none], comp w w1, [src]⟩ := by
      rw [h0.put pw1 hp, List.map_cons, ← putE_map, hE, Option.map_some, pw1.puts, List.map_cons, List.map_nil, hsrc]
    have ln : ∀ (q : Nat) (x0 x1 x2 : D), (Src.lst (.lst q [x0, x1, x2])).len = 3 := fun _ _ _ _ => rfl
    have z5' := fun o6 o7 o8 o9 => z5 [some d1, some (hd i j k bs rs), some (ho a b c bs rs), some (.int t), some (.lst (m1 + 1) (li rs2)), some (ho (m1 + 4) (m1 + 7) (m1 + 8) bs rs2), o6, o7, o8, o9, none, none, none, none, none, none, none] rfl
    unfold hd ho at *
    simp -implicitDefEqProofs only [b_l_two_right_8, e1, e2, pz, pw1.puts, vm, z1, z2, allD_lee, perm_10, i1, i2, x1, l1, l2, l3, z3, z4, z5', ln, x2, i3, i4, y4, x3, hl1, pre_n, pre_o, of_s, r_var, var1_s, r_c, r_nil, r_cons, cons1_o, cons2_o, r_lst, lst1_o, r_tup, tup1_o, r_bin, bin1_o, bin2_o, r_un, un1_o, r_bits, r_tof, tof1_o, r_and, and1_t, and1_f, r_or, or1_t, or1_f, r_not, not1_o, r_eand, eand1_t, eand1_f, r_eor, eor1_t, eor1_f, r_enot, enot1_o, r_eif, eif1_t, eif1_f, r_call, call1_o, r_callD, r_callK, callK1_o, callK2_o, r_make, r_makeP, r_mth, mth1_o, mth2_o, r_b, r_m, m1_lst, m2_o, ofW_s, r_isi, isi1_o, isi3_s, r_fld, fld1_o, fld2_s, r_eqo, eqo1_o, eqo2_o, eqo3_o, r_osm, osm1_o, r_onone, r_sl, sl1_o, sl2_o, sl3_o, r_rev, rev1_o, r_seq, seq1_l, seq1_t, r_rng1, rng1_o, r_zip, zip1_o, r_enum, enum1_o, r_lc, lc1_o, put_0, put_c, setv_c, r_sseq, then1_n, then1_r, then1_c, then1_b, r_snil, r_sretn, r_scont, r_sbrk, r_sexpr, expr1_o, r_sret, ret1_o, r_sset, set1_o, r_sif, sif1_t, sif1_f, r_stg, stg1_o, tg1_s, r_spar, par1_o, r_spar3, par3_o, r_saug, aug0_s, aug1_o, aug2_s, r_ssub, sub0_o, sub1_o, sub2_o, sub3_s, r_sfld, sfld0_o, sfld1_o, r_sfor, for1_o, r_swhile, r_run, run1_n, run1_r, len_rng, len_li, len_lst, len_tup, len_zip, len_enum, puts, putsL, optmap_nil, get_comp, puts_comp, putsL_comp, put_comp', puts_nil, putsL_nil, putE_nil, putE_map, comp_nil, nil_comp, comp_one, cutW_nil, get_one, get_nil, puts_li, putsL_li, li_len, permL, D.has, hasL, hasL_li, isTyD, isClD, isi2, isD_non, isNone, cmpD_int, negD_int, addD_int, subD_int, eqD_int, neD_int, eqD_li, neD_li, listD_lst, listD_tup, tupleD_lst, lenD_lst, lenD_tup, intD1_int, ixD_0, ixD_1, ixD_2, ixD_3, bitsD_int, cutOk, List.map_cons, List.map_nil, List.length_cons, List.length_nil, List.getElem?_cons_zero, List.getElem?_cons_succ, List.set_cons_zero, List.set_cons_succ, List.replicate, List.cons_append, List.nil_append, Option.map_some, Option.map_none, Nat.reduceAdd, Nat.reduceSub, Nat.add_assoc, Nat.zero_add, Nat.add_zero, Bool.not_true, Bool.not_false, beq_self_eq_true, String.reduceBEq, Bool.true_or, Bool.false_or, Bool.or_true, Bool.or_false, Bool.true_and, Bool.false_and, Bool.and_true, Bool.and_false, decide_true, decide_false, Bool.false_eq_true, if_true, if_false, reduceCtorEq, Nat.reduceLeDiff, r_star, star1_l, star1_t, star2_o, r_rng2, r_zipN, zipN1_o, minD_pair, maxD_pair, tgT_2, tgT_3, tg1_s]
end K04
end
section
set_option Elab.async false
set_option linter.all false
set_option maxRecDepth 100000
set_option maxHeartbeats 1000000
namespace K04
open PySem Sx B
theorem two_9 (n m i j k a b c t : Nat) (x : Int) (bs rs : List Int) (d : D) (o3 o4 o5 o6 o7 o8 o9 : Option D) (w : Wr) (src : Src) (hg : Good bs rs) (hx : bs[t]? = some x) (hk : k < m) :
    ∃ m' o5', m ≤ m' ∧ b_l_two_right_9 n ⟨m, [some d, some (hd i j k bs rs), some (ho a b c bs rs), o3, o4, o5, o6, o7, o8, o9, some (.int (t : Int)), some (.int x), none, none, none, none, none], w, [src]⟩ =
      .nx ⟨m', [some d, some (hd i j k bs rs), some (ho a b c bs rs), o3, o4, o5', o6, o7, o8, o9, some (.int (t : Int)), some (.int x), none, none, none, none, none], w, [src]⟩ := by
  have hm := hg.m
  have hlr := hg.l
  have htl : t < bs.length := (List.getElem?_eq_some_iff.mp hx).1
  obtain ⟨b1, b2⟩ := hg.b.get hx
  have hbt := btw_set (k := t) hg.b (up_b ⟨b1, b2⟩) (up_60 b2)
  have s1 := slD_pre j bs t m (by omega)
  have s2 := slD_suf j bs (t + 1) (m + 3) (by omega)
  have e1 : ((t : Int) + 1) = ((t + 1 : Nat) : Int) := by omega
  have a1 := addD_li m (m + 1) (bs.take t) [up x] (m + 2) (by simp; omega)
  have a2 := addD_li (m + 2) (m + 3) (bs.take t ++ [up x]) (bs.drop (t + 1)) (m + 4) (by simp; omega)
  rw [set_up bs t (up x) htl] at a2
  have hsl : (bs.set t (up x)).length = bs.length := List.length_set
  have vm := v_mk (m + 4) k (bs.set t (up x)) rs (m + 5) (by omega) (by omega) (fun y hy => (hbt y hy).1) (fun y hy => (hg.r y hy).1) (by omega) (by omega)
  have eu := fun q => eIf_up 11 q [some d, some (hd i j k bs rs), some (ho a b c bs rs), o3, o4, o5, o6, o7, o8, o9, some (.int (t : Int)), some (.int x), none, none, none, none, none] x rfl
  have hne := set_ne hx (up_ne x)
  have i1 := v_without a b c (m + 5) (m + 8) (m + 9) bs rs _ rs (m + 10) hne
  have i2 := v_without (m + 5) (m + 8) (m + 9) a b c _ rs bs rs (m + 10) (Ne.symm hne)
  obtain ⟨m2, hm2, ve⟩ := v_exact 8 1 _ _ (m + 12) (by omega) (alk_b2 (m + 10) (m + 11) false false)
  refine ⟨m2, ?_⟩
  unfold hd ho at *
  simp -implicitDefEqProofs only [b_l_two_right_9, s1, s2, e1, eu, show [D.int (up x)] = li [up x] from rfl, a1, a2, vm, i1, i2, ve, pre_n, pre_o, of_s, r_var, var1_s, r_c, r_nil, r_cons, cons1_o, cons2_o, r_lst, lst1_o, r_tup, tup1_o, r_bin, bin1_o, bin2_o, r_un, un1_o, r_bits, r_tof, tof1_o, r_and, and1_t, and1_f, r_or, or1_t, or1_f, r_not, not1_o, r_eand, eand1_t, eand1_f, r_eor, eor1_t, eor1_f, r_enot, enot1_o, r_eif, eif1_t, eif1_f, r_call, call1_o, r_callD, r_callK, callK1_o, callK2_o, r_make, r_makeP, r_mth, mth1_o, mth2_o, r_b, r_m, m1_lst, m2_o, ofW_s, r_isi, isi1_o, isi3_s, r_fld, fld1_o, fld2_s, r_eqo, eqo1_o, eqo2_o, eqo3_o, r_osm, osm1_o, r_onone, r_sl, sl1_o, sl2_o, sl3_o, r_rev, rev1_o, r_seq, seq1_l, seq1_t, r_rng1, rng1_o, r_zip, zip1_o, r_enum, enum1_o, r_lc, lc1_o, put_0, put_c, setv_c, r_sseq, then1_n, then1_r, then1_c, then1_b, r_snil, r_sretn, r_scont, r_sbrk, r_sexpr, expr1_o, r_sret, ret1_o, r_sset, set1_o, r_sif, sif1_t, sif1_f, r_stg, stg1_o, tg1_s, r_spar, par1_o, r_spar3, par3_o, r_saug, aug0_s, aug1_o, aug2_s, r_ssub, sub0_o, sub1_o, sub2_o, sub3_s, r_sfld, sfld0_o, sfld1_o, r_sfor, for1_o, r_swhile, r_run, run1_n, run1_r, len_rng, len_li, len_lst, len_tup, len_zip, len_enum, puts, putsL, optmap_nil, get_comp, puts_comp, putsL_comp, put_comp', puts_nil, putsL_nil, putE_nil, putE_map, comp_nil, nil_comp, comp_one, cutW_nil, get_one, get_nil, puts_li, putsL_li, li_len, permL, D.has, hasL, hasL_li, isTyD, isClD, isi2, isD_non, isNone, cmpD_int, negD_int, addD_int, subD_int, eqD_int, neD_int, eqD_li, neD_li, listD_lst, listD_tup, tupleD_lst, lenD_lst, lenD_tup, intD1_int, ixD_0, ixD_1, ixD_2, ixD_3, bitsD_int, cutOk, List.map_cons, List.map_nil, List.length_cons, List.length_nil, List.getElem?_cons_zero, List.getElem?_cons_succ, List.set_cons_zero, List.set_cons_succ, List.replicate, List.cons_append, List.nil_append, Option.map_some, Option.map_none, Nat.reduceAdd, Nat.reduceSub, Nat.add_assoc, Nat.zero_add, Nat.add_zero, Bool.not_true, Bool.not_false, beq_self_eq_true, String.reduceBEq, Bool.true_or, Bool.false_or, Bool.or_true, Bool.or_false, Bool.true_and, Bool.false_and, Bool.and_true, Bool.and_false, decide_true, decide_false, Bool.false_eq_true, if_true, if_false, reduceCtorEq, Nat.reduceLeDiff, r_star, star1_l, star1_t, star2_o, r_rng2, r_zipN, zipN1_o, minD_pair, maxD_pair, tgT_2, tgT_3, tg1_s]
  exact ⟨_, by omega, rfl⟩
theorem isnotD_bl (a b : Bool) (n : Nat) : isnotD (.bl a) (.bl b) n = some (.bl (!decide (a = b)), n) := rfl
theorem isD_bl (a b : Bool) (n : Nat) : isD (.bl a) (.bl b) n = some (.bl (decide (a = b)), n) := rfl
end K04
end
section
set_option Elab.async false
set_option linter.all false
set_option maxRecDepth 100000
set_option maxHeartbeats 1000000
namespace K04
open PySem Sx B
theorem has_ho {p a b c : Nat} {bs rs : List Int} (ha : a ≠ p) (hb : b ≠ p) (hc : c ≠ p) : D.has p (ho a b c bs rs) = false := by
  simp [ho, D.has, hasL, hasL_li, ha, hb, hc]
theorem v_two_right (p n i j k : Nat) (N : Int) (d : D) (bs rs : List Int) (h : Pu p N d) (hN : N ≤ 600000) (hp : p < n) (hip : i ≠ p) (hjp : j ≠ p) (hkp : k ≠ p) (hi : i < n) (hj : j < n) (hk : k < n) (hg : Good bs rs) :
    ∃ n' d' w, n ≤ n' ∧ q_l_two_right [d, hd i j k bs rs] n = .ok (.bl true) n' w ∧ PW p d w d' ∧ Pu p (N + 400) d' := by
  have hm := hg.m
  have hlr := hg.l
  have v1 := v_made i j k n bs rs hg
  obtain ⟨s', q1, q2, m', dk, w, o3, o4, o5, o6, o7, o8, o9, q3, hm1, pw, pu, _⟩ := for_src (tg := tgN 3) (body := b_l_two_right_8) (n0 := n) (len := 4) (src := .rng 0 4) (h := [])
    (s0 := ⟨n + 7, [some d, some (hd i j k bs rs), some (ho (n + 2) (n + 5) (n + 6) bs rs), none, none, none, none, none, none, none, none, none, none, none, none, none, none], [], [.rng 0 4]⟩)
    (fun t s => ∃ m' dk w o3 o4 o5 o6 o7 o8 o9, s = ⟨m', [some dk, some (hd i j k bs rs), some (ho (n + 2) (n + 5) (n + 6) bs rs), o3, o4, o5, o6, o7, o8, o9, none, none, none, none, none, none, none], w, [.rng 0 4]⟩ ∧ n + 7 ≤ m' ∧ PW p d w dk ∧ Pu p (N + 100 * t) dk ∧ ∀ x ∈ [o4, o5, o6, o7, o8, o9], ∀ y, x = some y → D.has p y = false)
    ⟨n + 7, d, [], none, none, none, none, none, none, none, rfl, Nat.le_refl _, .nil h, by simpa using h, fun x hx y hy => by simp at hx; rw [hx] at hy; cases hy⟩ rfl (rng_end 4)
    (fun t s ht _ hZ => by
      obtain ⟨m', dk, w, o3, o4, o5, o6, o7, o8, o9, rfl, hm1, pw, pu, hf⟩ := hZ
      obtain ⟨d', w', m2, p4, p5, p6, p7, p8, p9, hm2, pw', pu', hf', e⟩ := two_8 p n m' i j k (n + 2) (n + 5) (n + 6) (N + 100 * t) dk d bs rs (t : Int) o4 o5 o6 o7 o8 o9 w (.rng 0 4) (fun _ => rfl)
        (fun d1 w1 d2 pw1 => putE_free pw1 (fun x hx => by
          simp only [List.mem_cons, List.not_mem_nil, or_false, Option.some.injEq, reduceCtorEq] at hx
          rcases hx with rfl | rfl | rfl | e | e | e | e | e | e
          · exact has_hd hip hjp hkp
          · exact has_ho (by omega) (by omega) (by omega)
          · rfl
          · exact hf o4 (by simp) x e.symm
          · exact hf o5 (by simp) x e.symm
          · exact hf o6 (by simp) x e.symm
          · exact hf o7 (by simp) x e.symm
          · exact hf o8 (by simp) x e.symm
          · exact hf o9 (by simp) x e.symm)) pu (by omega) hp (by omega) hip hjp hkp (by omega) (by omega) (by omega) (by omega) (by omega) (by omega) (by omega) (by omega) (by omega) hg pw
      exact ⟨_, _, _, rng_at0 4 t ht, rfl, e, rfl, m2, d', w', _, _, _, _, _, _, _, rfl, by omega, pw', pu'.mono (by omega), hf'⟩)
  subst q3
  obtain ⟨s', r1, r2, m2, o5', o10, o11, r3, hm2⟩ := for_src (tg := tgT [tgN 10, tgN 11]) (body := b_l_two_right_9) (n0 := n) (len := bs.length) (src := .enum (.lst j (li bs))) (h := [])
    (s0 := ⟨m', [some dk, some (hd i j k bs rs), some (ho (n + 2) (n + 5) (n + 6) bs rs), o3, o4, o5, o6, o7, o8, o9, none, none, none, none, none, none, none], w, [.enum (.lst j (li bs))]⟩)
    (fun t s => ∃ m2 o5 o10 o11, s = ⟨m2, [some dk, some (hd i j k bs rs), some (ho (n + 2) (n + 5) (n + 6) bs rs), o3, o4, o5, o6, o7, o8, o9, o10, o11, none, none, none, none, none], w, [.enum (.lst j (li bs))]⟩ ∧ m' ≤ m2)
    ⟨m', o5, none, none, rfl, Nat.le_refl _⟩ rfl (enum_end _ _)
    (fun t s ht _ hZ => by
      obtain ⟨m2, o5, o10, o11, rfl, hm2⟩ := hZ
      have hx : bs[t]? = some bs[t] := List.getElem?_eq_getElem ht
      obtain ⟨m3, o5', hm3, e⟩ := two_9 n m2 i j k (n + 2) (n + 5) (n + 6) t bs[t] bs rs dk o3 o4 o5 o6 o7 o8 o9 w (.enum (.lst j (li bs))) hg hx (by omega)
      exact ⟨_, _, _, enum_at _ _ _ _ hx, rfl, e, rfl, m3, o5', _, _, rfl, by omega⟩)
  subst r3
  have r4 := fun (n1 : Nat) => rng1_o n1 [] 4 (by omega) (by omega)
  have t4 : (4 : Int).toNat = 4 := rfl
  by_cases h8 : (rs.length : Int) < 8
  · have a1 := addD_li j m2 bs [2] (m2 + 1) (by simp; omega)
    have a2 := addD_li k (m2 + 2) rs [60] (m2 + 3) (by simp; omega)
    have vm := v_mk (m2 + 1) (m2 + 3) (bs ++ [2]) (rs ++ [60]) (m2 + 4) (by omega) (by omega) (fun x hx => by
      rcases List.mem_append.mp hx with hx | hx
      · exact (hg.b x hx).1
      · simp at hx; omega) (fun x hx => by
      rcases List.mem_append.mp hx with hx | hx
      · exact (hg.r x hx).1
      · simp at hx; omega) (by simp; omega) (by simp; omega)
    have i1 := v_without (n + 2) (n + 5) (n + 6) (m2 + 4) (m2 + 7) (m2 + 8) bs rs (bs ++ [2]) (rs ++ [60]) (m2 + 9) (by simp)
    have i2 := v_within (n + 2) (n + 5) (n + 6) (n + 2) (n + 5) (n + 6) bs rs rs (m2 + 9) (by omega) rfl
    rw [lee_refl] at i2
    refine ⟨m2 + 10, dk, w, by omega, ?_, pw, pu.mono (by omega)⟩
    unfold hd ho at *
    simp -implicitDefEqProofs only [q_l_two_right, b_l_two_right, v1, r4, t4, q1, r1, h8, show [D.int 2] = li [2] from rfl, show [D.int 60] = li [60] from rfl, a1, a2, vm, i1, i2, isnotD_bl, isD_bl, pre_n, pre_o, of_s, r_var, var1_s, r_c, r_nil, r_cons, cons1_o, cons2_o, r_lst, lst1_o, r_tup, tup1_o, r_bin, bin1_o, bin2_o, r_un, un1_o, r_bits, r_tof, tof1_o, r_and, and1_t, and1_f, r_or, or1_t, or1_f, r_not, not1_o, r_eand, eand1_t, eand1_f, r_eor, eor1_t, eor1_f, r_enot, enot1_o, r_eif, eif1_t, eif1_f, r_call, call1_o, r_callD, r_callK, callK1_o, callK2_o, r_make, r_makeP, r_mth, mth1_o, mth2_o, r_b, r_m, m1_lst, m2_o, ofW_s, r_isi, isi1_o, isi3_s, r_fld, fld1_o, fld2_s, r_eqo, eqo1_o, eqo2_o, eqo3_o, r_osm, osm1_o, r_onone, r_sl, sl1_o, sl2_o, sl3_o, r_rev, rev1_o, r_seq, seq1_l, seq1_t, r_rng1, rng1_o, r_zip, zip1_o, r_enum, enum1_o, r_lc, lc1_o, put_0, put_c, setv_c, r_sseq, then1_n, then1_r, then1_c, then1_b, r_snil, r_sretn, r_scont, r_sbrk, r_sexpr, expr1_o, r_sret, ret1_o, r_sset, set1_o, r_sif, sif1_t, sif1_f, r_stg, stg1_o, tg1_s, r_spar, par1_o, r_spar3, par3_o, r_saug, aug0_s, aug1_o, aug2_s, r_ssub, sub0_o, sub1_o, sub2_o, sub3_s, r_sfld, sfld0_o, sfld1_o, r_sfor, for1_o, r_swhile, r_run, run1_n, run1_r, len_rng, len_li, len_lst, len_tup, len_zip, len_enum, puts, putsL, optmap_nil, get_comp, puts_comp, putsL_comp, put_comp', puts_nil, putsL_nil, putE_nil, putE_map, comp_nil, nil_comp, comp_one, cutW_nil, get_one, get_nil, puts_li, putsL_li, li_len, permL, D.has, hasL, hasL_li, isTyD, isClD, isi2, isD_non, isNone, cmpD_int, negD_int, addD_int, subD_int, eqD_int, neD_int, eqD_li, neD_li, listD_lst, listD_tup, tupleD_lst, lenD_lst, lenD_tup, intD1_int, ixD_0, ixD_1, ixD_2, ixD_3, bitsD_int, cutOk, List.map_cons, List.map_nil, List.length_cons, List.length_nil, List.getElem?_cons_zero, List.getElem?_cons_succ, List.set_cons_zero, List.set_cons_succ, List.replicate, List.cons_append, List.nil_append, Option.map_some, Option.map_none, Nat.reduceAdd, Nat.reduceSub, Nat.add_assoc, Nat.zero_add, Nat.add_zero, Bool.not_true, Bool.not_false, beq_self_eq_true, String.reduceBEq, Bool.true_or, Bool.false_or, Bool.or_true, Bool.or_false, Bool.true_and, Bool.false_and, Bool.and_true, Bool.and_false, decide_true, decide_false, Bool.false_eq_true, if_true, if_false, reduceCtorEq, Nat.reduceLeDiff, r_star, star1_l, star1_t, star2_o, r_rng2, r_zipN, zipN1_o, minD_pair, maxD_pair, tgT_2, tgT_3, tg1_s]
  · have i2 := v_within (n + 2) (n + 5) (n + 6) (n + 2) (n + 5) (n + 6) bs rs rs m2 (by omega) rfl
    rw [lee_refl] at i2
    refine ⟨m2 + 1, dk, w, by omega, ?_, pw, pu.mono (by omega)⟩
    unfold hd ho at *
    simp -implicitDefEqProofs only [q_l_two_right, b_l_two_right, v1, r4, t4, q1, r1, h8, i2, isnotD_bl, isD_bl, pre_n, pre_o, of_s, r_var, var1_s, r_c, r_nil, r_cons, cons1_o, cons2_o, r_lst, lst1_o, r_tup, tup1_o, r_bin, bin1_o, bin2_o, r_un, un1_o, r_bits, r_tof, tof1_o, r_and, and1_t, and1_f, r_or, or1_t, or1_f, r_not, not1_o, r_eand, eand1_t, eand1_f, r_eor, eor1_t, eor1_f, r_enot, enot1_o, r_eif, eif1_t, eif1_f, r_call, call1_o, r_callD, r_callK, callK1_o, callK2_o, r_make, r_makeP, r_mth, mth1_o, mth2_o, r_b, r_m, m1_lst, m2_o, ofW_s, r_isi, isi1_o, isi3_s, r_fld, fld1_o, fld2_s, r_eqo, eqo1_o, eqo2_o, eqo3_o, r_osm, osm1_o, r_onone, r_sl, sl1_o, sl2_o, sl3_o, r_rev, rev1_o, r_seq, seq1_l, seq1_t, r_rng1, rng1_o, r_zip, zip1_o, r_enum, enum1_o, r_lc, lc1_o, put_0, put_c, setv_c, r_sseq, then1_n, then1_r, then1_c, then1_b, r_snil, r_sretn, r_scont, r_sbrk, r_sexpr, expr1_o, r_sret, ret1_o, r_sset, set1_o, r_sif, sif1_t, sif1_f, r_stg, stg1_o, tg1_s, r_spar, par1_o, r_spar3, par3_o, r_saug, aug0_s, aug1_o, aug2_s, r_ssub, sub0_o, sub1_o, sub2_o, sub3_s, r_sfld, sfld0_o, sfld1_o, r_sfor, for1_o, r_swhile, r_run, run1_n, run1_r, len_rng, len_li, len_lst, len_tup, len_zip, len_enum, puts, putsL, optmap_nil, get_comp, puts_comp, putsL_comp, put_comp', puts_nil, putsL_nil, putE_nil, putE_map, comp_nil, nil_comp, comp_one, cutW_nil, get_one, get_nil, puts_li, putsL_li, li_len, permL, D.has, hasL, hasL_li, isTyD, isClD, isi2, isD_non, isNone, cmpD_int, negD_int, addD_int, subD_int, eqD_int, neD_int, eqD_li, neD_li, listD_lst, listD_tup, tupleD_lst, lenD_lst, lenD_tup, intD1_int, ixD_0, ixD_1, ixD_2, ixD_3, bitsD_int, cutOk, List.map_cons, List.map_nil, List.length_cons, List.length_nil, List.getElem?_cons_zero, List.getElem?_cons_succ, List.set_cons_zero, List.set_cons_succ, List.replicate, List.cons_append, List.nil_append, Option.map_some, Option.map_none, Nat.reduceAdd, Nat.reduceSub, Nat.add_assoc, Nat.zero_add, Nat.add_zero, Bool.not_true, Bool.not_false, beq_self_eq_true, String.reduceBEq, Bool.true_or, Bool.false_or, Bool.or_true, Bool.or_false, Bool.true_and, Bool.false_and, Bool.and_true, Bool.and_false, decide_true, decide_false, Bool.false_eq_true, if_true, if_false, reduceCtorEq, Nat.reduceLeDiff, r_star, star1_l, star1_t, star2_o, r_rng2, r_zipN, zipN1_o, minD_pair, maxD_pair, tgT_2, tgT_3, tg1_s]
end K04
end
section
set_option Elab.async false
set_option linter.all false
set_option maxRecDepth 100000
set_option maxHeartbeats 1000000
namespace K04
open PySem Sx B
theorem good_set {bs rs : List Int} (hg : Good bs rs) (t : Nat) (x : Int) (h0 : 0 ≤ x) (h1 : x ≤ 60) : Good bs (rs.set t x) := ⟨hg.b, btw_set hg.r h0 h1, by rw [List.length_set]; exact hg.l, hg.m⟩
theorem good_cut {bs rs : List Int} (hg : Good bs rs) (f l : Nat) (hf : f ≤ l) (hl : l < rs.length) : Good (cut bs f l) (cut rs f (l + 1)) := by
  have hm := hg.m
  have hlr := hg.l
  have g1 := cut_len bs f l hf (by omega)
  have g2 := cut_len rs f (l + 1) (by omega) (by omega)
  exact ⟨fun x hx => hg.b x (cut_mem hx), fun x hx => hg.r x (cut_mem hx), by omega, by omega⟩
theorem places_1 (n m i j k a b c t l : Nat) (K : Int) (bs rs : List Int) (d : D) (o5 o6 o7 : Option D) (w : Wr) (hid : List Src) (hg : Good bs rs) (htl : t ≤ l) (hl : l < rs.length) (ha : a < m) (hb : b < m) (hc : c < m) :
    ∃ m', m ≤ m' ∧ b_l_places_right_1 n ⟨m, [some d, some (hd i j k bs rs), some (ho a b c bs rs), some (.int K), some (.int (t : Int)), o5, o6, o7, some (.int (l : Int))], w, hid⟩ =
      .nx ⟨m', [some d, some (hd i j k bs rs), some (ho a b c bs rs), some (.int K), some (.int (t : Int)), o5, o6, o7, some (.int (l : Int))], w, hid⟩ := by
  have hm := hg.m
  have hlr := hg.l
  have gc := good_cut hg t l htl hl
  have v1 := v_stretch a b c m t l bs rs htl hl (fun x hx => (hg.b x hx).1) (fun x hx => (hg.r x hx).1) hlr (by omega)
  obtain ⟨s1, hs1, y1⟩ := v_told_of (m + 2) (m + 5) (m + 6) (m + 7) _ _ gc (by omega) (by omega) (by omega)
  have e1 : ((l : Int) + 1) = ((l + 1 : Nat) : Int) := by omega
  have s2 := slD_mid j bs t l s1 htl (by omega)
  have s3 := slD_mid k rs t (l + 1) (s1 + 1) (by omega) (by omega)
  have c1 := gc.m
  have c2 := gc.l
  obtain ⟨m2, hm2, ve⟩ := v_exact 8 2 _ _ (s1 + 3) (by omega) (alk2 (m + 9) (s1 + 2) (m + 7) (m + 8) s1 (s1 + 1) (cut bs t l) (cut rs t (l + 1)) (by omega) (by omega))
  refine ⟨m2, by omega, ?_⟩
  unfold hd ho at *
  simp -implicitDefEqProofs only [b_l_places_right_1, perm_210, v1, y1, e1, s2, s3, ve, pre_n, pre_o, of_s, r_var, var1_s, r_c, r_nil, r_cons, cons1_o, cons2_o, r_lst, lst1_o, r_tup, tup1_o, r_bin, bin1_o, bin2_o, r_un, un1_o, r_bits, r_tof, tof1_o, r_and, and1_t, and1_f, r_or, or1_t, or1_f, r_not, not1_o, r_eand, eand1_t, eand1_f, r_eor, eor1_t, eor1_f, r_enot, enot1_o, r_eif, eif1_t, eif1_f, r_call, call1_o, r_callD, r_callK, callK1_o, callK2_o, r_make, r_makeP, r_mth, mth1_o, mth2_o, r_b, r_m, m1_lst, m2_o, ofW_s, r_isi, isi1_o, isi3_s, r_fld, fld1_o, fld2_s, r_eqo, eqo1_o, eqo2_o, eqo3_o, r_osm, osm1_o, r_onone, r_sl, sl1_o, sl2_o, sl3_o, r_rev, rev1_o, r_seq, seq1_l, seq1_t, r_rng1, rng1_o, r_zip, zip1_o, r_enum, enum1_o, r_lc, lc1_o, put_0, put_c, setv_c, r_sseq, then1_n, then1_r, then1_c, then1_b, r_snil, r_sretn, r_scont, r_sbrk, r_sexpr, expr1_o, r_sret, ret1_o, r_sset, set1_o, r_sif, sif1_t, sif1_f, r_stg, stg1_o, tg1_s, r_spar, par1_o, r_spar3, par3_o, r_saug, aug0_s, aug1_o, aug2_s, r_ssub, sub0_o, sub1_o, sub2_o, sub3_s, r_sfld, sfld0_o, sfld1_o, r_sfor, for1_o, r_swhile, r_run, run1_n, run1_r, len_rng, len_li, len_lst, len_tup, len_zip, len_enum, puts, putsL, optmap_nil, get_comp, puts_comp, putsL_comp, put_comp', puts_nil, putsL_nil, putE_nil, putE_map, comp_nil, nil_comp, comp_one, cutW_nil, get_one, get_nil, puts_li, putsL_li, li_len, permL, D.has, hasL, hasL_li, isTyD, isClD, isi2, isD_non, isNone, cmpD_int, negD_int, addD_int, subD_int, eqD_int, neD_int, eqD_li, neD_li, listD_lst, listD_tup, tupleD_lst, lenD_lst, lenD_tup, intD1_int, ixD_0, ixD_1, ixD_2, ixD_3, bitsD_int, cutOk, List.map_cons, List.map_nil, List.length_cons, List.length_nil, List.getElem?_cons_zero, List.getElem?_cons_succ, List.set_cons_zero, List.set_cons_succ, List.replicate, List.cons_append, List.nil_append, Option.map_some, Option.map_none, Nat.reduceAdd, Nat.reduceSub, Nat.add_assoc, Nat.zero_add, Nat.add_zero, Bool.not_true, Bool.not_false, beq_self_eq_true, String.reduceBEq, Bool.true_or, Bool.false_or, Bool.or_true, Bool.or_false, Bool.true_and, Bool.false_and, Bool.and_true, Bool.and_false, decide_true, decide_false, Bool.false_eq_true, if_true, if_false, reduceCtorEq, Nat.reduceLeDiff, r_star, star1_l, star1_t, star2_o, r_rng2, r_zipN, zipN1_o, minD_pair, maxD_pair, tgT_2, tgT_3, tg1_s]
theorem rngA_at (a : Int) (n k : Nat) (h : k < n) : (Src.rng a n).at k = some (some (.int (a + k))) := by
  show some (if k < n then some (D.int (a + k)) else none) = _
  rw [if_pos h]
theorem rngA_end (a : Int) (n : Nat) : (Src.rng a n).at n = some none := by
  show some (if n < n then some (D.int (a + n)) else none) = _
  rw [if_neg (Nat.lt_irrefl _)]
/-- the list with another number at one place, as the law puts it together -/
theorem law_set (n i j k t s : Nat) (x : Int) (bs rs : List Int) (hg : Good bs rs) (ht : t < rs.length) :
    slD (.lst k (li rs)) none (some (t : Int)) s = some (.lst s (li (rs.take t)), s + 1) ∧ addD (.lst s (li (rs.take t))) (.lst (s + 1) [.int x]) (s + 2) = some (.lst (s + 2) (li (rs.take t ++ [x])), s + 3) ∧
    slD (.lst k (li rs)) (some ((t + 1 : Nat) : Int)) none (s + 3) = some (.lst (s + 3) (li (rs.drop (t + 1))), s + 4) ∧ addD (.lst (s + 2) (li (rs.take t ++ [x]))) (.lst (s + 3) (li (rs.drop (t + 1)))) (s + 4) = some (.lst (s + 4) (li (rs.set t x)), s + 5) := by
  have hm := hg.m
  have hlr := hg.l
  have a1 := addD_li s (s + 1) (rs.take t) [x] (s + 2) (by simp; omega)
  have a2 := addD_li (s + 2) (s + 3) (rs.take t ++ [x]) (rs.drop (t + 1)) (s + 4) (by simp; omega)
  rw [set_up rs t x ht] at a2
  exact ⟨slD_pre k rs t s (by omega), a1, slD_suf k rs (t + 1) (s + 3) (by omega), a2⟩
theorem places_in (n m i j k a b c t : Nat) (bs rs : List Int) (d : D) (o5 o6 o7 o8 : Option D) (w : Wr) (src : Src) (hg : Good bs rs) (ht : t < rs.length) (ha : a < m) (hb : b < m) (hc : c < m) :
    ∃ m' o8', m ≤ m' ∧ sFor (iRange2 (aCons (eVar 4) (aCons (eVar 3) aNil))) (tgN 8) b_l_places_right_1 n ⟨m, [some d, some (hd i j k bs rs), some (ho a b c bs rs), some (.int rs.length), some (.int (t : Int)), o5, o6, o7, o8], w, [src]⟩ =
      .nx ⟨m', [some d, some (hd i j k bs rs), some (ho a b c bs rs), some (.int rs.length), some (.int (t : Int)), o5, o6, o7, o8'], w, [src]⟩ := by
  have hm := hg.m
  have hlr := hg.l
  obtain ⟨s', q1, q2, m', o8', q3, hm1⟩ := for_src (tg := tgN 8) (body := b_l_places_right_1) (n0 := n) (len := rs.length - t) (src := .rng (t : Int) (rs.length - t)) (h := [src])
    (s0 := ⟨m, [some d, some (hd i j k bs rs), some (ho a b c bs rs), some (.int rs.length), some (.int (t : Int)), o5, o6, o7, o8], w, [.rng (t : Int) (rs.length - t), src]⟩)
    (fun q s => ∃ m' o8, s = ⟨m', [some d, some (hd i j k bs rs), some (ho a b c bs rs), some (.int rs.length), some (.int (t : Int)), o5, o6, o7, o8], w, [.rng (t : Int) (rs.length - t), src]⟩ ∧ m ≤ m')
    ⟨m, o8, rfl, Nat.le_refl _⟩ rfl (rngA_end _ _)
    (fun q s hq _ hZ => by
      obtain ⟨m', o8, rfl, hm1⟩ := hZ
      have ec : ((t : Int) + (q : Int)) = ((t + q : Nat) : Int) := by omega
      obtain ⟨m2, hm2, e⟩ := places_1 n m' i j k a b c t (t + q) rs.length bs rs d o5 o6 o7 w [.rng (t : Int) (rs.length - t), src] hg (by omega) (by omega) (by omega) (by omega) (by omega)
      exact ⟨.int ((t + q : Nat) : Int), _, _, by rw [rngA_at _ _ _ hq, ec], rfl, e, rfl, m2, _, rfl, by omega⟩)
  subst q3
  have r1 := rng2_o (n1 := m) (w1 := []) (t : Int) (rs.length : Int) (by omega) (by omega) (by omega) (by omega)
  have t1 : ((rs.length : Int) - (t : Int)).toNat = rs.length - t := by omega
  refine ⟨m', o8', by omega, ?_⟩
  simp -implicitDefEqProofs only [r1, t1, q1, pre_n, pre_o, of_s, r_var, var1_s, r_c, r_nil, r_cons, cons1_o, cons2_o, r_lst, lst1_o, r_tup, tup1_o, r_bin, bin1_o, bin2_o, r_un, un1_o, r_bits, r_tof, tof1_o, r_and, and1_t, and1_f, r_or, or1_t, or1_f, r_not, not1_o, r_eand, eand1_t, eand1_f, r_eor, eor1_t, eor1_f, r_enot, enot1_o, r_eif, eif1_t, eif1_f, r_call, call1_o, r_callD, r_callK, callK1_o, callK2_o, r_make, r_makeP, r_mth, mth1_o, mth2_o, r_b, r_m, m1_lst, m2_o, ofW_s, r_isi, isi1_o, isi3_s, r_fld, fld1_o, fld2_s, r_eqo, eqo1_o, eqo2_o, eqo3_o, r_osm, osm1_o, r_onone, r_sl, sl1_o, sl2_o, sl3_o, r_rev, rev1_o, r_seq, seq1_l, seq1_t, r_rng1, rng1_o, r_zip, zip1_o, r_enum, enum1_o, r_lc, lc1_o, put_0, put_c, setv_c, r_sseq, then1_n, then1_r, then1_c, then1_b, r_snil, r_sretn, r_scont, r_sbrk, r_sexpr, expr1_o, r_sret, ret1_o, r_sset, set1_o, r_sif, sif1_t, sif1_f, r_stg, stg1_o, tg1_s, r_spar, par1_o, r_spar3, par3_o, r_saug, aug0_s, aug1_o, aug2_s, r_ssub, sub0_o, sub1_o, sub2_o, sub3_s, r_sfld, sfld0_o, sfld1_o, r_sfor, for1_o, r_swhile, r_run, run1_n, run1_r, len_rng, len_li, len_lst, len_tup, len_zip, len_enum, puts, putsL, optmap_nil, get_comp, puts_comp, putsL_comp, put_comp', puts_nil, putsL_nil, putE_nil, putE_map, comp_nil, nil_comp, comp_one, cutW_nil, get_one, get_nil, puts_li, putsL_li, li_len, permL, D.has, hasL, hasL_li, isTyD, isClD, isi2, isD_non, isNone, cmpD_int, negD_int, addD_int, subD_int, eqD_int, neD_int, eqD_li, neD_li, listD_lst, listD_tup, tupleD_lst, lenD_lst, lenD_tup, intD1_int, ixD_0, ixD_1, ixD_2, ixD_3, bitsD_int, cutOk, List.map_cons, List.map_nil, List.length_cons, List.length_nil, List.getElem?_cons_zero, List.getElem?_cons_succ, List.set_cons_zero, List.set_cons_succ, List.replicate, List.cons_append, List.nil_append, Option.map_some, Option.map_none, Nat.reduceAdd, Nat.reduceSub, Nat.add_assoc, Nat.zero_add, Nat.add_zero, Bool.not_true, Bool.not_false, beq_self_eq_true, String.reduceBEq, Bool.true_or, Bool.false_or, Bool.or_true, Bool.or_false, Bool.true_and, Bool.false_and, Bool.and_true, Bool.and_false, decide_true, decide_false, Bool.false_eq_true, if_true, if_false, reduceCtorEq, Nat.reduceLeDiff, r_star, star1_l, star1_t, star2_o, r_rng2, r_zipN, zipN1_o, minD_pair, maxD_pair, tgT_2, tgT_3, tg1_s]
theorem places_2 (p n m i j k a b c t : Nat) (N : Int) (dk d0 : D) (bs rs : List Int) (o5 o6 o7 o8 : Option D) (w : Wr) (src : Src) (hsrc : ∀ w, src.puts w = src)
    (h : Pu p N dk) (hN : N ≤ 700000) (hp : p < n) (hn : n ≤ m) (hip : i ≠ p) (hjp : j ≠ p) (hkp : k ≠ p) (hap : a ≠ p) (hbp : b ≠ p) (hcp : c ≠ p) (ha : a < m) (hb : b < m) (hc : c < m) (hg : Good bs rs) (ht : t < rs.length) (h0 : PW p d0 w dk) :
    ∃ d' w' m' o5' o6' o7' o8', m ≤ m' ∧ PW p d0 w' d' ∧ Pu p (N + 4) d' ∧ b_l_places_right_2 n ⟨m, [some dk, some (hd i j k bs rs), some (ho a b c bs rs), some (.int rs.length), some (.int (t : Int)), o5, o6, o7, o8], w, [src]⟩ =
      .nx ⟨m', [some d', some (hd i j k bs rs), some (ho a b c bs rs), some (.int rs.length), some (.int (t : Int)), o5', o6', o7', o8'], w', [src]⟩ := by
  have hm := hg.m
  have hlr := hg.l
  obtain ⟨x, d1, w1, x0, x1, e1, pw1, pu1⟩ := v_drawP p N 61 m dk h (by omega) (by omega) (by omega) (by omega)
  have t1 := h0.trans pw1
  have pz : SS.put ⟨m, [some dk, some (hd i j k bs rs), some (ho a b c bs rs), some (.int rs.length), some (.int (t : Int)), o5, o6, o7, o8], w, [src]⟩ n m w1 = ⟨m, [some d1, some (hd i j k bs rs), some (ho a b c bs rs), some (.int rs.length), some (.int (t : Int)), o5.map (puts w1), o6.map (puts w1), o7.map (puts w1), o8.map (puts w1)], comp w w1, [src]⟩ := by
    rw [h0.put pw1 hp]
    simp only [List.map_cons, List.map_nil, Option.map_some, pw1.puts, pw1.free (has_hd hip hjp hkp), pw1.free (has_ho hap hbp hcp), hsrc, puts]
  have g1 := good_set hg t x x0 (by omega)
  have v1 := v_with_room a b c m t x bs rs hb ht x0 (fun x hx => (hg.b x hx).1) (fun x hx => (hg.r x hx).1) hlr (by omega)
  obtain ⟨s1, hs1, y1⟩ := v_told_of (m + 3) (m + 6) (m + 7) (m + 8) _ _ g1 (by omega) (by omega) (by omega)
  obtain ⟨b1, b2, b3, b4⟩ := law_set n i j k t s1 x bs rs hg ht
  have ec : ((t : Int) + 1) = ((t + 1 : Nat) : Int) := by omega
  have gl := g1.l
  obtain ⟨s2, hs2, ve⟩ := v_exact 8 2 _ _ (s1 + 6) (by omega) (alk2 (m + 10) (s1 + 5) (m + 8) (m + 9) j (s1 + 4) bs (rs.set t x) (by omega) (by omega))
  by_cases hlt : (t : Int) < rs.length - 1
  · have hx : rs[t]? = some rs[t] := List.getElem?_eq_getElem ht
    have hy : bs[t]? = some bs[t] := List.getElem?_eq_getElem (by omega)
    obtain ⟨r0, r1⟩ := hg.r.get hx
    obtain ⟨q0, q1⟩ := hg.b.get hy
    have g2 := good_set hg t (min rs[t] (bs[t] - 1)) (by omega) (by omega)
    have v2 := v_tightened a b c s2 t rs[t] bs[t] bs rs (by omega) hx hy (fun x hx => (hg.b x hx).1) (fun x hx => (hg.r x hx).1) hlr (by omega)
    obtain ⟨s3, hs3, y3⟩ := v_told_of (s2 + 3) (s2 + 6) (s2 + 7) (s2 + 8) _ _ g2 (by omega) (by omega) (by omega)
    obtain ⟨c1, c2, c3, c4⟩ := law_set n i j k t s3 (min rs[t] (bs[t] - 1)) bs rs hg ht
    have gl2 := g2.l
    obtain ⟨s4, hs4, vf⟩ := v_exact 8 2 _ _ (s3 + 6) (by omega) (alk2 (s2 + 10) (s3 + 5) (s2 + 8) (s2 + 9) j (s3 + 4) bs (rs.set t (min rs[t] (bs[t] - 1))) (by omega) (by omega))
    have i1 := ixD_li k rs t _ s2 hx
    have i2 := ixD_li j bs t _ s2 hy
    obtain ⟨m2, o8', hm2, pin⟩ := places_in n s4 i j k a b c t bs rs d1 (some (.int x)) (some (ho (s2 + 3) (s2 + 6) (s2 + 7) bs (rs.set t (min rs[t] (bs[t] - 1))))) (some (.int (min rs[t] (bs[t] - 1)))) (o8.map (puts w1)) (comp w w1) src hg ht (by omega) (by omega) (by omega)
    refine ⟨d1, comp w w1, m2, some (.int x), some (ho (s2 + 3) (s2 + 6) (s2 + 7) bs (rs.set t (min rs[t] (bs[t] - 1)))), some (.int (min rs[t] (bs[t] - 1))), o8', by omega, t1, pu1, ?_⟩
    by_cases h0t : 0 < (t : Int)
    · unfold hd ho at *
      simp -implicitDefEqProofs only [b_l_places_right_2, e1, pw1.puts, pz, perm_210, v1, y1, b1, b2, b3, b4, ec, ve, hlt, i1, i2, minD_2, h0t, v2, y3, c1, c2, c3, c4, vf, pin, pre_n, pre_o, of_s, r_var, var1_s, r_c, r_nil, r_cons, cons1_o, cons2_o, r_lst, lst1_o, r_tup, tup1_o, r_bin, bin1_o, bin2_o, r_un, un1_o, r_bits, r_tof, tof1_o, r_and, and1_t, and1_f, r_or, or1_t, or1_f, r_not, not1_o, r_eand, eand1_t, eand1_f, r_eor, eor1_t, eor1_f, r_enot, enot1_o, r_eif, eif1_t, eif1_f, r_call, call1_o, r_callD, r_callK, callK1_o, callK2_o, r_make, r_makeP, r_mth, mth1_o, mth2_o, r_b, r_m, m1_lst, m2_o, ofW_s, r_isi, isi1_o, isi3_s, r_fld, fld1_o, fld2_s, r_eqo, eqo1_o, eqo2_o, eqo3_o, r_osm, osm1_o, r_onone, r_sl, sl1_o, sl2_o, sl3_o, r_rev, rev1_o, r_seq, seq1_l, seq1_t, r_rng1, rng1_o, r_zip, zip1_o, r_enum, enum1_o, r_lc, lc1_o, put_0, put_c, setv_c, r_sseq, then1_n, then1_r, then1_c, then1_b, r_snil, r_sretn, r_scont, r_sbrk, r_sexpr, expr1_o, r_sret, ret1_o, r_sset, set1_o, r_sif, sif1_t, sif1_f, r_stg, stg1_o, tg1_s, r_spar, par1_o, r_spar3, par3_o, r_saug, aug0_s, aug1_o, aug2_s, r_ssub, sub0_o, sub1_o, sub2_o, sub3_s, r_sfld, sfld0_o, sfld1_o, r_sfor, for1_o, r_swhile, r_run, run1_n, run1_r, len_rng, len_li, len_lst, len_tup, len_zip, len_enum, puts, putsL, optmap_nil, get_comp, puts_comp, putsL_comp, put_comp', puts_nil, putsL_nil, putE_nil, putE_map, comp_nil, nil_comp, comp_one, cutW_nil, get_one, get_nil, puts_li, putsL_li, li_len, permL, D.has, hasL, hasL_li, isTyD, isClD, isi2, isD_non, isNone, cmpD_int, negD_int, addD_int, subD_int, eqD_int, neD_int, eqD_li, neD_li, listD_lst, listD_tup, tupleD_lst, lenD_lst, lenD_tup, intD1_int, ixD_0, ixD_1, ixD_2, ixD_3, bitsD_int, cutOk, List.map_cons, List.map_nil, List.length_cons, List.length_nil, List.getElem?_cons_zero, List.getElem?_cons_succ, List.set_cons_zero, List.set_cons_succ, List.replicate, List.cons_append, List.nil_append, Option.map_some, Option.map_none, Nat.reduceAdd, Nat.reduceSub, Nat.add_assoc, Nat.zero_add, Nat.add_zero, Bool.not_true, Bool.not_false, beq_self_eq_true, String.reduceBEq, Bool.true_or, Bool.false_or, Bool.or_true, Bool.or_false, Bool.true_and, Bool.false_and, Bool.and_true, Bool.and_false, decide_true, decide_false, Bool.false_eq_true, if_true, if_false, reduceCtorEq, Nat.reduceLeDiff, r_star, star1_l, star1_t, star2_o, r_rng2, r_zipN, zipN1_o, minD_pair, maxD_pair, tgT_2, tgT_3, tg1_s]
    · unfold hd ho at *
      simp -implicitDefEqProofs only [b_l_places_right_2, e1, pw1.puts, pz, perm_210, perm_10, v1, y1, b1, b2, b3, b4, ec, ve, hlt, i1, i2, minD_2, h0t, v2, y3, c1, c2, c3, c4, vf, pin, pre_n, pre_o, of_s, r_var, var1_s, r_c, r_nil, r_cons, cons1_o, cons2_o, r_lst, lst1_o, r_tup, tup1_o, r_bin, bin1_o, bin2_o, r_un, un1_o, r_bits, r_tof, tof1_o, r_and, and1_t, and1_f, r_or, or1_t, or1_f, r_not, not1_o, r_eand, eand1_t, eand1_f, r_eor, eor1_t, eor1_f, r_enot, enot1_o, r_eif, eif1_t, eif1_f, r_call, call1_o, r_callD, r_callK, callK1_o, callK2_o, r_make, r_makeP, r_mth, mth1_o, mth2_o, r_b, r_m, m1_lst, m2_o, ofW_s, r_isi, isi1_o, isi3_s, r_fld, fld1_o, fld2_s, r_eqo, eqo1_o, eqo2_o, eqo3_o, r_osm, osm1_o, r_onone, r_sl, sl1_o, sl2_o, sl3_o, r_rev, rev1_o, r_seq, seq1_l, seq1_t, r_rng1, rng1_o, r_zip, zip1_o, r_enum, enum1_o, r_lc, lc1_o, put_0, put_c, setv_c, r_sseq, then1_n, then1_r, then1_c, then1_b, r_snil, r_sretn, r_scont, r_sbrk, r_sexpr, expr1_o, r_sret, ret1_o, r_sset, set1_o, r_sif, sif1_t, sif1_f, r_stg, stg1_o, tg1_s, r_spar, par1_o, r_spar3, par3_o, r_saug, aug0_s, aug1_o, aug2_s, r_ssub, sub0_o, sub1_o, sub2_o, sub3_s, r_sfld, sfld0_o, sfld1_o, r_sfor, for1_o, r_swhile, r_run, run1_n, run1_r, len_rng, len_li, len_lst, len_tup, len_zip, len_enum, puts, putsL, optmap_nil, get_comp, puts_comp, putsL_comp, put_comp', puts_nil, putsL_nil, putE_nil, putE_map, comp_nil, nil_comp, comp_one, cutW_nil, get_one, get_nil, puts_li, putsL_li, li_len, permL, D.has, hasL, hasL_li, isTyD, isClD, isi2, isD_non, isNone, cmpD_int, negD_int, addD_int, subD_int, eqD_int, neD_int, eqD_li, neD_li, listD_lst, listD_tup, tupleD_lst, lenD_lst, lenD_tup, intD1_int, ixD_0, ixD_1, ixD_2, ixD_3, bitsD_int, cutOk, List.map_cons, List.map_nil, List.length_cons, List.length_nil, List.getElem?_cons_zero, List.getElem?_cons_succ, List.set_cons_zero, List.set_cons_succ, List.replicate, List.cons_append, List.nil_append, Option.map_some, Option.map_none, Nat.reduceAdd, Nat.reduceSub, Nat.add_assoc, Nat.zero_add, Nat.add_zero, Bool.not_true, Bool.not_false, beq_self_eq_true, String.reduceBEq, Bool.true_or, Bool.false_or, Bool.or_true, Bool.or_false, Bool.true_and, Bool.false_and, Bool.and_true, Bool.and_false, decide_true, decide_false, Bool.false_eq_true, if_true, if_false, reduceCtorEq, Nat.reduceLeDiff, r_star, star1_l, star1_t, star2_o, r_rng2, r_zipN, zipN1_o, minD_pair, maxD_pair, tgT_2, tgT_3, tg1_s]
  · obtain ⟨m2, o8', hm2, pin⟩ := places_in n s2 i j k a b c t bs rs d1 (some (.int x)) (some (ho (m + 3) (m + 6) (m + 7) bs (rs.set t x))) (o7.map (puts w1)) (o8.map (puts w1)) (comp w w1) src hg ht (by omega) (by omega) (by omega)
    refine ⟨d1, comp w w1, m2, some (.int x), some (ho (m + 3) (m + 6) (m + 7) bs (rs.set t x)), o7.map (puts w1), o8', by omega, t1, pu1, ?_⟩
    unfold hd ho at *
    simp -implicitDefEqProofs only [b_l_places_right_2, e1, pw1.puts, pz, perm_210, v1, y1, b1, b2, b3, b4, ec, ve, hlt, pin, pre_n, pre_o, of_s, r_var, var1_s, r_c, r_nil, r_cons, cons1_o, cons2_o, r_lst, lst1_o, r_tup, tup1_o, r_bin, bin1_o, bin2_o, r_un, un1_o, r_bits, r_tof, tof1_o, r_and, and1_t, and1_f, r_or, or1_t, or1_f, r_not, not1_o, r_eand, eand1_t, eand1_f, r_eor, eor1_t, eor1_f, r_enot, enot1_o, r_eif, eif1_t, eif1_f, r_call, call1_o, r_callD, r_callK, callK1_o, callK2_o, r_make, r_makeP, r_mth, mth1_o, mth2_o, r_b, r_m, m1_lst, m2_o, ofW_s, r_isi, isi1_o, isi3_s, r_fld, fld1_o, fld2_s, r_eqo, eqo1_o, eqo2_o, eqo3_o, r_osm, osm1_o, r_onone, r_sl, sl1_o, sl2_o, sl3_o, r_rev, rev1_o, r_seq, seq1_l, seq1_t, r_rng1, rng1_o, r_zip, zip1_o, r_enum, enum1_o, r_lc, lc1_o, put_0, put_c, setv_c, r_sseq, then1_n, then1_r, then1_c, then1_b, r_snil, r_sretn, r_scont, r_sbrk, r_sexpr, expr1_o, r_sret, ret1_o, r_sset, set1_o, r_sif, sif1_t, sif1_f, r_stg, stg1_o, tg1_s, r_spar, par1_o, r_spar3, par3_o, r_saug, aug0_s, aug1_o, aug2_s, r_ssub, sub0_o, sub1_o, sub2_o, sub3_s, r_sfld, sfld0_o, sfld1_o, r_sfor, for1_o, r_swhile, r_run, run1_n, run1_r, len_rng, len_li, len_lst, len_tup, len_zip, len_enum, puts, putsL, optmap_nil, get_comp, puts_comp, putsL_comp, put_comp', puts_nil, putsL_nil, putE_nil, putE_map, comp_nil, nil_comp, comp_one, cutW_nil, get_one, get_nil, puts_li, putsL_li, li_len, permL, D.has, hasL, hasL_li, isTyD, isClD, isi2, isD_non, isNone, cmpD_int, negD_int, addD_int, subD_int, eqD_int, neD_int, eqD_li, neD_li, listD_lst, listD_tup, tupleD_lst, lenD_lst, lenD_tup, intD1_int, ixD_0, ixD_1, ixD_2, ixD_3, bitsD_int, cutOk, List.map_cons, List.map_nil, List.length_cons, List.length_nil, List.getElem?_cons_zero, List.getElem?_cons_succ, List.set_cons_zero, List.set_cons_succ, List.replicate, List.cons_append, List.nil_append, Option.map_some, Option.map_none, Nat.reduceAdd, Nat.reduceSub, Nat.add_assoc, Nat.zero_add, Nat.add_zero, Bool.not_true, Bool.not_false, beq_self_eq_true, String.reduceBEq, Bool.true_or, Bool.false_or, Bool.or_true, Bool.or_false, Bool.true_and, Bool.false_and, Bool.and_true, Bool.and_false, decide_true, decide_false, Bool.false_eq_true, if_true, if_false, reduceCtorEq, Nat.reduceLeDiff, r_star, star1_l, star1_t, star2_o, r_rng2, r_zipN, zipN1_o, minD_pair, maxD_pair, tgT_2, tgT_3, tg1_s]
theorem v_places_right (p n i j k : Nat) (N : Int) (d : D) (bs rs : List Int) (h : Pu p N d) (hN : N ≤ 600000) (hp : p < n) (hip : i ≠ p) (hjp : j ≠ p) (hkp : k ≠ p) (hi : i < n) (hj : j < n) (hk : k < n) (hg : Good bs rs) :
    ∃ n' d' w, n ≤ n' ∧ q_l_places_right [d, hd i j k bs rs] n = .ok (.bl true) n' w ∧ PW p d w d' ∧ Pu p (N + 400) d' := by
  have hm := hg.m
  have hlr := hg.l
  have v1 := v_made i j k n bs rs hg
  obtain ⟨s', q1, q2, m', dk, w, o4, o5, o6, o7, o8, q3, hm1, pw, pu⟩ := for_src (tg := tgN 4) (body := b_l_places_right_2) (n0 := n) (len := rs.length) (src := .rng 0 rs.length) (h := [])
    (s0 := ⟨n + 7, [some d, some (hd i j k bs rs), some (ho (n + 2) (n + 5) (n + 6) bs rs), some (.int rs.length), none, none, none, none, none], [], [.rng 0 rs.length]⟩)
    (fun t s => ∃ m' dk w o4 o5 o6 o7 o8, s = ⟨m', [some dk, some (hd i j k bs rs), some (ho (n + 2) (n + 5) (n + 6) bs rs), some (.int rs.length), o4, o5, o6, o7, o8], w, [.rng 0 rs.length]⟩ ∧ n + 7 ≤ m' ∧ PW p d w dk ∧ Pu p (N + 4 * t) dk)
    ⟨n + 7, d, [], none, none, none, none, none, rfl, Nat.le_refl _, .nil h, by simpa using h⟩ rfl (rng_end _)
    (fun t s ht _ hZ => by
      obtain ⟨m', dk, w, o4, o5, o6, o7, o8, rfl, hm1, pw, pu⟩ := hZ
      obtain ⟨d', w', m2, p5, p6, p7, p8, hm2, pw', pu', e⟩ := places_2 p n m' i j k (n + 2) (n + 5) (n + 6) t (N + 4 * t) dk d bs rs o5 o6 o7 o8 w (.rng 0 rs.length) (fun _ => rfl) pu (by omega) hp (by omega) hip hjp hkp (by omega) (by omega) (by omega) (by omega) (by omega) (by omega) hg ht pw
      exact ⟨_, _, _, rng_at0 _ t ht, rfl, e, rfl, m2, d', w', _, _, _, _, _, rfl, by omega, pw', pu'.mono (by omega)⟩)
  subst q3
  obtain ⟨s1, hs1, y1⟩ := v_told_of (n + 2) (n + 5) (n + 6) m' bs rs hg (by omega) (by omega) (by omega)
  obtain ⟨s2, hs2, ve⟩ := v_exact 8 2 _ _ s1 (by omega) (alk2 (m' + 2) i m' (m' + 1) j k bs rs (by omega) (by omega))
  have r1 := rng1_o (n + 7) [] (rs.length : Int) (by omega) (by omega)
  have t1 : ((rs.length : Int)).toNat = rs.length := by omega
  refine ⟨s2, dk, w, by omega, ?_, pw, pu.mono (by omega)⟩
  unfold hd ho at *
  simp -implicitDefEqProofs only [q_l_places_right, b_l_places_right, v1, r1, t1, q1, y1, ve, pre_n, pre_o, of_s, r_var, var1_s, r_c, r_nil, r_cons, cons1_o, cons2_o, r_lst, lst1_o, r_tup, tup1_o, r_bin, bin1_o, bin2_o, r_un, un1_o, r_bits, r_tof, tof1_o, r_and, and1_t, and1_f, r_or, or1_t, or1_f, r_not, not1_o, r_eand, eand1_t, eand1_f, r_eor, eor1_t, eor1_f, r_enot, enot1_o, r_eif, eif1_t, eif1_f, r_call, call1_o, r_callD, r_callK, callK1_o, callK2_o, r_make, r_makeP, r_mth, mth1_o, mth2_o, r_b, r_m, m1_lst, m2_o, ofW_s, r_isi, isi1_o, isi3_s, r_fld, fld1_o, fld2_s, r_eqo, eqo1_o, eqo2_o, eqo3_o, r_osm, osm1_o, r_onone, r_sl, sl1_o, sl2_o, sl3_o, r_rev, rev1_o, r_seq, seq1_l, seq1_t, r_rng1, rng1_o, r_zip, zip1_o, r_enum, enum1_o, r_lc, lc1_o, put_0, put_c, setv_c, r_sseq, then1_n, then1_r, then1_c, then1_b, r_snil, r_sretn, r_scont, r_sbrk, r_sexpr, expr1_o, r_sret, ret1_o, r_sset, set1_o, r_sif, sif1_t, sif1_f, r_stg, stg1_o, tg1_s, r_spar, par1_o, r_spar3, par3_o, r_saug, aug0_s, aug1_o, aug2_s, r_ssub, sub0_o, sub1_o, sub2_o, sub3_s, r_sfld, sfld0_o, sfld1_o, r_sfor, for1_o, r_swhile, r_run, run1_n, run1_r, len_rng, len_li, len_lst, len_tup, len_zip, len_enum, puts, putsL, optmap_nil, get_comp, puts_comp, putsL_comp, put_comp', puts_nil, putsL_nil, putE_nil, putE_map, comp_nil, nil_comp, comp_one, cutW_nil, get_one, get_nil, puts_li, putsL_li, li_len, permL, D.has, hasL, hasL_li, isTyD, isClD, isi2, isD_non, isNone, cmpD_int, negD_int, addD_int, subD_int, eqD_int, neD_int, eqD_li, neD_li, listD_lst, listD_tup, tupleD_lst, lenD_lst, lenD_tup, intD1_int, ixD_0, ixD_1, ixD_2, ixD_3, bitsD_int, cutOk, List.map_cons, List.map_nil, List.length_cons, List.length_nil, List.getElem?_cons_zero, List.getElem?_cons_succ, List.set_cons_zero, List.set_cons_succ, List.replicate, List.cons_append, List.nil_append, Option.map_some, Option.map_none, Nat.reduceAdd, Nat.reduceSub, Nat.add_assoc, Nat.zero_add, Nat.add_zero, Bool.not_true, Bool.not_false, beq_self_eq_true, String.reduceBEq, Bool.true_or, Bool.false_or, Bool.or_true, Bool.or_false, Bool.true_and, Bool.false_and, Bool.and_true, Bool.and_false, decide_true, decide_false, Bool.false_eq_true, if_true, if_false, reduceCtorEq, Nat.reduceLeDiff, r_star, star1_l, star1_t, star2_o, r_rng2, r_zipN, zipN1_o, minD_pair, maxD_pair, tgT_2, tgT_3, tg1_s]
end K04
end
section
set_option Elab.async false
set_option linter.all false
set_option maxRecDepth 100000
set_option maxHeartbeats 1000000
namespace K04
open PySem Sx B
def wtail (q : Int) : List Int → List Int
  | [] => []
  | y :: ys => q * y :: wtail (q * y) ys
theorem wts2_fold : ∀ (ys l : List Int) (q : Int), ys.foldl (fun p b => (p.1 ++ [p.2 * b], p.2 * b)) (l, q) = (l ++ wtail q ys, ys.foldl (· * ·) q)
  | [], l, q => by simp [wtail]
  | y :: ys, l, q => by
    rw [List.foldl_cons, wts2_fold ys, List.foldl_cons, wtail, List.append_assoc]
    rfl
theorem wts_eq (xs : List Int) : wts xs = 1 :: wtail 1 xs := by
  show (xs.foldl (fun p b => (p.1 ++ [p.2 * b], p.2 * b)) ([1], 1)).1 = _
  rw [wts2_fold]
  rfl
theorem wtail_app : ∀ (xs ys : List Int) (q : Int), wtail q (xs ++ ys) = wtail q xs ++ wtail (xs.foldl (· * ·) q) ys
  | [], ys, q => rfl
  | x :: xs, ys, q => by rw [List.cons_append, wtail, wtail_app xs ys, wtail, List.foldl_cons, List.cons_append]
theorem wtail_mul : ∀ (ys : List Int) (q r : Int), wtail (q * r) ys = (wtail r ys).map (q * ·)
  | [], q, r => rfl
  | y :: ys, q, r => by rw [wtail, wtail, List.map_cons, Int.mul_assoc, wtail_mul ys]
theorem wts_behind (bs bs' : List Int) (z : Int) : wts (bs ++ z :: bs') = wts bs ++ (wts bs').map (prd bs * z * ·) := by
  rw [wts_eq, wts_eq, wts_eq, wtail_app, wtail, List.cons_append, List.map_cons, Int.mul_one]
  have := wtail_mul bs' (prd bs * z) 1
  rw [Int.mul_one] at this
  rw [← this]
  rfl
theorem cut_left (xs ys : List Int) (K : Nat) (h : xs.length = K) : cut (xs ++ ys) 0 K = xs := by
  unfold cut
  rw [List.drop_zero, Nat.sub_zero, ← h, List.take_left']
  rfl
theorem cut_right (xs ys : List Int) (K L : Nat) (h : xs.length = K) (h2 : ys.length = L) : cut (xs ++ ys) K (K + L) = ys := by
  unfold cut
  rw [← h, List.drop_left', Nat.add_sub_cancel_left, ← h2, List.take_length]
  rfl
theorem lc_map {own : List Nat} {el : EV} {t : Nat} (i : Nat) (xs : List Int) (g : Int → Int) (n : Nat) (env : Ev) (hz : xs.length ≤ 1000) (hf : ∀ x ∈ xs, el n ((wipeE env own).set t (some (.int x))) = .ok (.int (g x)) n []) :
    lcGo own (tgN t) tTrue el xs.length 0 (.lst (.lst i (li xs))) [] n env = .ok (.lst n (li (xs.map g))) (n + 1) [] := by
  have := lcGo_pure (own := own) (tg := tgN t) (el := el) (src := .lst (.lst i (li xs))) (ds := li xs) (fun d => match d with | .int x => .int (g x) | d => d) env n (fun j => rfl) rfl
    (fun d hd => by
      obtain ⟨x, hx, rfl⟩ := List.mem_map.mp hd
      exact ⟨_, rfl, hf x hx⟩) (by rw [li_len]; exact Nat.le_trans hz (by decide))
  rw [len_li] at this
  rw [this]
  unfold li
  rw [List.map_map, List.map_map]
  rfl
theorem good_behind {bs rs bs' rs' : List Int} {z : Int} (hg : Good bs rs) (hg' : Good bs' rs') (h0 : 2 ≤ z) (h1 : z ≤ 60) (hl : bs.length + bs'.length ≤ 6) : Good (bs ++ z :: bs') (rs ++ rs') := by
  have a := hg.l
  have b := hg'.l
  refine ⟨fun x hx => ?_, fun x hx => ?_, by simp; omega, by simp; omega⟩
  · rcases List.mem_append.mp hx with h | h
    · exact hg.b x h
    · rcases List.mem_cons.mp h with rfl | h
      · exact ⟨h0, h1⟩
      · exact hg'.b x h
  · exact (List.mem_append.mp hx).elim (hg.r x) (hg'.r x)
theorem v_behind_right (p n i j k i' j' k' : Nat) (N : Int) (d : D) (bs rs bs' rs' : List Int) (h : Pu p N d) (hN : N ≤ 600000) (hp : p < n) (hip : i ≠ p) (hjp : j ≠ p) (hkp : k ≠ p) (hi : i < n) (hj : j < n) (hk : k < n) (hg : Good bs rs)
    (hip' : i' ≠ p) (hjp' : j' ≠ p) (hkp' : k' ≠ p) (hi' : i' < n) (hj' : j' < n) (hk' : k' < n) (hg' : Good bs' rs') (hll : bs.length + bs'.length ≤ 6) :
    ∃ n' d' w, n ≤ n' ∧ q_l_behind_right [d, hd i j k bs rs, hd i' j' k' bs' rs'] n = .ok (.bl true) n' w ∧ PW p d w d' ∧ Pu p (N + 4) d' := by
  have hm := hg.m
  have hlr := hg.l
  have hm' := hg'.m
  have hlr' := hg'.l
  have v1 := v_made i j k n bs rs hg
  have v2 := v_made i' j' k' (n + 7) bs' rs' hg'
  obtain ⟨x, d1, w1, x0, x1, e1, pw1, pu1⟩ := v_drawP p N 59 (n + 14) d h (by omega) (by omega) (by omega) (by omega)
  obtain ⟨z, hz⟩ : ∃ z, 2 + x = z := ⟨_, rfl⟩
  have gb := good_behind hg hg' (z := z) (by omega) (by omega) hll
  have v3 := v_set_behind (n + 2) (n + 5) (n + 6) (n + 9) (n + 12) (n + 13) (n + 14) z bs rs bs' rs' (by omega) (fun x hx => (hg.b x hx).1) (fun x hx => (hg.r x hx).1) (fun x hx => (hg'.b x hx).1) (fun x hx => (hg'.r x hx).1) hlr hlr' (by omega) (by omega)
  obtain ⟨s1, hs1, y1⟩ := v_told_of (n + 16) (n + 19) (n + 20) (n + 21) _ _ gb (by omega) (by omega) (by omega)
  have a1 : addD (.lst j (li bs)) (.lst s1 [.int z]) (s1 + 1) = some (.lst (s1 + 1) (li (bs ++ [z])), s1 + 2) := addD_li j s1 bs [z] (s1 + 1) (by simp; omega)
  have a2 := addD_li (s1 + 1) j' (bs ++ [z]) bs' (s1 + 2) (by simp; omega)
  have a3 := addD_li k k' rs rs' (s1 + 3) (by omega)
  rw [show (bs ++ [z]) ++ bs' = bs ++ z :: bs' by simp] at a2
  have hBl : (bs ++ z :: bs').length = bs.length + bs'.length + 1 := by simp; omega
  have hRl : (rs ++ rs').length = rs.length + rs'.length := by simp
  obtain ⟨s2, hs2, ve⟩ := v_exact 8 2 _ _ (s1 + 5) (by omega) (alk2 (n + 23) (s1 + 4) (n + 21) (n + 22) (s1 + 2) (s1 + 3) (bs ++ z :: bs') (rs ++ rs') (by omega) (by omega))
  have u1 := v_stretch (n + 16) (n + 19) (n + 20) s2 0 (rs.length - 1) _ _ (by omega) (by omega) (fun x hx => (gb.b x hx).1) (fun x hx => (gb.r x hx).1) gb.l (by omega)
  have u2 := v_stretch (n + 16) (n + 19) (n + 20) (s2 + 7) rs.length (rs.length + rs'.length - 1) _ _ (by omega) (by omega) (fun x hx => (gb.b x hx).1) (fun x hx => (gb.r x hx).1) gb.l (by omega)
  rw [show rs.length - 1 + 1 = rs.length by omega, cut_left rs rs' _ rfl, show rs.length - 1 = bs.length by omega, cut_left bs (z :: bs') _ rfl, show ((bs.length : Nat) : Int) = (rs.length : Int) - 1 by omega, show ((0 : Nat) : Int) = 0 from rfl] at u1
  rw [show rs.length + rs'.length - 1 + 1 = rs.length + rs'.length by omega, cut_right rs rs' _ _ rfl rfl, show rs.length + rs'.length - 1 = rs.length + bs'.length by omega] at u2
  rw [show bs ++ z :: bs' = (bs ++ [z]) ++ bs' by simp, cut_right (bs ++ [z]) bs' rs.length bs'.length (by simp; omega) rfl, show ((rs.length + bs'.length : Nat) : Int) = (rs.length : Int) + rs'.length - 1 by omega] at u2
  rw [show (bs ++ [z]) ++ bs' = bs ++ z :: bs' by simp] at u2
  have q1 := v_eq_same (s2 + 2) (s2 + 5) (s2 + 6) (n + 2) (n + 5) (n + 6) bs rs bs rs (s2 + 7)
  have q2 := v_eq_same (s2 + 9) (s2 + 12) (s2 + 13) (n + 9) (n + 12) (n + 13) bs' rs' bs' rs' (s2 + 14)
  have t1 := v_l_weights i j k bs rs (s2 + 14) (by omega) (by omega) (by omega) hg.b hm
  have t2 := v_l_weights i' j' k' bs' rs' (s2 + 15) (by omega) (by omega) (by omega) hg'.b hm'
  obtain ⟨pr1, pr2⟩ := prd_sm hg.b (by omega)
  have hwb := wts_btw hg'.b (by omega)
  have hwl := wts_len bs
  have hwl' := wts_len bs'
  have pz2 : 0 ≤ prd bs * z ∧ prd bs * z ≤ 10 ^ 15 * 60 := mul_bd (by omega) pr2 (by omega) (by omega)
  have lm := lc_map (own := [10]) (el := c_l_behind_right_1) (t := 10) (s2 + 15) (wts bs') (prd bs * z * ·) (s2 + 16) [some d1, some (hd i j k bs rs), some (hd i' j' k' bs' rs'), some (ho (n + 2) (n + 5) (n + 6) bs rs), some (ho (n + 9) (n + 12) (n + 13) bs' rs'), some (.int z), some (ho (n + 16) (n + 19) (n + 20) (bs ++ z :: bs') (rs ++ rs')), some (.int rs.length), some (.lst (s2 + 14) (li (wts bs))), none, none] (by omega)
    (fun y hy => by
      have hy2 := hwb y hy
      have m1 := mulD_sm (a := prd bs) (b := z) (s2 + 16) (sm_of (by omega) (by omega)) (sm_of (by omega) (by omega))
      have m2 := mulD_sm (a := prd bs * z) (b := y) (s2 + 16) (sm_of (by omega) (by omega)) (sm_of (by omega) (by omega))
      simp -implicitDefEqProofs only [c_l_behind_right_1, wipeE, ixD_wts, m1, m2, pre_n, pre_o, of_s, r_var, var1_s, r_c, r_nil, r_cons, cons1_o, cons2_o, r_lst, lst1_o, r_tup, tup1_o, r_bin, bin1_o, bin2_o, r_un, un1_o, r_bits, r_tof, tof1_o, r_and, and1_t, and1_f, r_or, or1_t, or1_f, r_not, not1_o, r_eand, eand1_t, eand1_f, r_eor, eor1_t, eor1_f, r_enot, enot1_o, r_eif, eif1_t, eif1_f, r_call, call1_o, r_callD, r_callK, callK1_o, callK2_o, r_make, r_makeP, r_mth, mth1_o, mth2_o, r_b, r_m, m1_lst, m2_o, ofW_s, r_isi, isi1_o, isi3_s, r_fld, fld1_o, fld2_s, r_eqo, eqo1_o, eqo2_o, eqo3_o, r_osm, osm1_o, r_onone, r_sl, sl1_o, sl2_o, sl3_o, r_rev, rev1_o, r_seq, seq1_l, seq1_t, r_rng1, rng1_o, r_zip, zip1_o, r_enum, enum1_o, r_lc, lc1_o, put_0, put_c, setv_c, r_sseq, then1_n, then1_r, then1_c, then1_b, r_snil, r_sretn, r_scont, r_sbrk, r_sexpr, expr1_o, r_sret, ret1_o, r_sset, set1_o, r_sif, sif1_t, sif1_f, r_stg, stg1_o, tg1_s, r_spar, par1_o, r_spar3, par3_o, r_saug, aug0_s, aug1_o, aug2_s, r_ssub, sub0_o, sub1_o, sub2_o, sub3_s, r_sfld, sfld0_o, sfld1_o, r_sfor, for1_o, r_swhile, r_run, run1_n, run1_r, len_rng, len_li, len_lst, len_tup, len_zip, len_enum, puts, putsL, optmap_nil, get_comp, puts_comp, putsL_comp, put_comp', puts_nil, putsL_nil, putE_nil, putE_map, comp_nil, nil_comp, comp_one, cutW_nil, get_one, get_nil, puts_li, putsL_li, li_len, permL, D.has, hasL, hasL_li, isTyD, isClD, isi2, isD_non, isNone, cmpD_int, negD_int, addD_int, subD_int, eqD_int, neD_int, eqD_li, neD_li, listD_lst, listD_tup, tupleD_lst, lenD_lst, lenD_tup, intD1_int, ixD_0, ixD_1, ixD_2, ixD_3, bitsD_int, cutOk, List.map_cons, List.map_nil, List.length_cons, List.length_nil, List.getElem?_cons_zero, List.getElem?_cons_succ, List.set_cons_zero, List.set_cons_succ, List.replicate, List.cons_append, List.nil_append, Option.map_some, Option.map_none, Nat.reduceAdd, Nat.reduceSub, Nat.add_assoc, Nat.zero_add, Nat.add_zero, Bool.not_true, Bool.not_false, beq_self_eq_true, String.reduceBEq, Bool.true_or, Bool.false_or, Bool.or_true, Bool.or_false, Bool.true_and, Bool.false_and, Bool.and_true, Bool.and_false, decide_true, decide_false, Bool.false_eq_true, if_true, if_false, reduceCtorEq, Nat.reduceLeDiff, r_star, star1_l, star1_t, star2_o, r_rng2, r_zipN, zipN1_o, minD_pair, maxD_pair, tgT_2, tgT_3, tg1_s])
  have a4 := addD_li (s2 + 14) (s2 + 16) (wts bs) ((wts bs').map (prd bs * z * ·)) (s2 + 17) (by simp; omega)
  rw [← wts_behind] at a4
  have w1' := v_weights (n + 16) (n + 19) (n + 20) _ _ (s2 + 18) (by omega) (by omega) (by omega) gb
  have hWl := wts_len (bs ++ z :: bs')
  obtain ⟨s3, hs3, vf⟩ := v_exact 8 1 _ _ (s2 + 19) (by omega) (alk_li 0 (s2 + 18) (s2 + 17) (wts (bs ++ z :: bs')) (by omega))
  obtain ⟨s4, hs4, y3⟩ := v_told_of (n + 2) (n + 5) (n + 6) s3 bs rs hg (by omega) (by omega) (by omega)
  obtain ⟨s5, hs5, y4⟩ := v_told_of (n + 9) (n + 12) (n + 13) s4 bs' rs' hg' (by omega) (by omega) (by omega)
  obtain ⟨s6, hs6, vg⟩ := v_exact 8 3 _ _ (s5 + 2) (by omega) (alk_2 (u := s5) (v := s5 + 1) (alk2 (s3 + 2) i s3 (s3 + 1) j k bs rs (by omega) (by omega)) (alk2 (s4 + 2) i' s4 (s4 + 1) j' k' bs' rs' (by omega) (by omega)))
  have f0 : ∀ q, q ≠ p → Wr.get w1 q = none := fun q hq => pw1.get hq
  have pz : ∀ env hid, SS.put ⟨n, env, [], hid⟩ n (n + 14) w1 = ⟨n + 14, env.map fun o => o.map (Sx.puts w1), w1, hid.map (Src.puts w1)⟩ := fun env hid => by
    have := (PW.nil h).put pw1 hp (n := n) (n1 := n + 14) (env := env) (hid := hid)
    rw [nil_comp] at this
    exact this
  refine ⟨s6, d1, w1, by omega, ?_, pw1, pu1⟩
  have k1 := f0 i hip
  have k2 := f0 j hjp
  have k3 := f0 k hkp
  have k4 := f0 i' hip'
  have k5 := f0 j' hjp'
  have k6 := f0 k' hkp'
  have k7 := f0 (n + 2) (by omega)
  have k8 := f0 (n + 5) (by omega)
  have k9 := f0 (n + 6) (by omega)
  have k10 := f0 (n + 9) (by omega)
  have k11 := f0 (n + 12) (by omega)
  have k12 := f0 (n + 13) (by omega)
  unfold hd ho at *
  simp -implicitDefEqProofs only [q_l_behind_right, b_l_behind_right, t_l_behind_right_1, t_l_behind_right_2, t_l_behind_right_3, t_l_behind_right_4, t_l_behind_right_5, t_l_behind_right_6, v1, v2, e1, pw1.puts, hz, k1, k2, k3, k4, k5, k6, k7, k8, k9, k10, k11, k12, pz, perm_210, v3, y1, a1, a2, a3, ve, u1, u2, q1, q2, t1, t2, lm, a4, w1', vf, y3, y4, vg, Bool.true_xor, Bool.false_xor, Bool.xor_true, Bool.xor_false, pre_n, pre_o, of_s, r_var, var1_s, r_c, r_nil, r_cons, cons1_o, cons2_o, r_lst, lst1_o, r_tup, tup1_o, r_bin, bin1_o, bin2_o, r_un, un1_o, r_bits, r_tof, tof1_o, r_and, and1_t, and1_f, r_or, or1_t, or1_f, r_not, not1_o, r_eand, eand1_t, eand1_f, r_eor, eor1_t, eor1_f, r_enot, enot1_o, r_eif, eif1_t, eif1_f, r_call, call1_o, r_callD, r_callK, callK1_o, callK2_o, r_make, r_makeP, r_mth, mth1_o, mth2_o, r_b, r_m, m1_lst, m2_o, ofW_s, r_isi, isi1_o, isi3_s, r_fld, fld1_o, fld2_s, r_eqo, eqo1_o, eqo2_o, eqo3_o, r_osm, osm1_o, r_onone, r_sl, sl1_o, sl2_o, sl3_o, r_rev, rev1_o, r_seq, seq1_l, seq1_t, r_rng1, rng1_o, r_zip, zip1_o, r_enum, enum1_o, r_lc, lc1_o, put_0, put_c, setv_c, r_sseq, then1_n, then1_r, then1_c, then1_b, r_snil, r_sretn, r_scont, r_sbrk, r_sexpr, expr1_o, r_sret, ret1_o, r_sset, set1_o, r_sif, sif1_t, sif1_f, r_stg, stg1_o, tg1_s, r_spar, par1_o, r_spar3, par3_o, r_saug, aug0_s, aug1_o, aug2_s, r_ssub, sub0_o, sub1_o, sub2_o, sub3_s, r_sfld, sfld0_o, sfld1_o, r_sfor, for1_o, r_swhile, r_run, run1_n, run1_r, len_rng, len_li, len_lst, len_tup, len_zip, len_enum, puts, putsL, optmap_nil, get_comp, puts_comp, putsL_comp, put_comp', puts_nil, putsL_nil, putE_nil, putE_map, comp_nil, nil_comp, comp_one, cutW_nil, get_one, get_nil, puts_li, putsL_li, li_len, permL, D.has, hasL, hasL_li, isTyD, isClD, isi2, isD_non, isNone, cmpD_int, negD_int, addD_int, subD_int, eqD_int, neD_int, eqD_li, neD_li, listD_lst, listD_tup, tupleD_lst, lenD_lst, lenD_tup, intD1_int, ixD_0, ixD_1, ixD_2, ixD_3, bitsD_int, cutOk, List.map_cons, List.map_nil, List.length_cons, List.length_nil, List.getElem?_cons_zero, List.getElem?_cons_succ, List.set_cons_zero, List.set_cons_succ, List.replicate, List.cons_append, List.nil_append, Option.map_some, Option.map_none, Nat.reduceAdd, Nat.reduceSub, Nat.add_assoc, Nat.zero_add, Nat.add_zero, Bool.not_true, Bool.not_false, beq_self_eq_true, String.reduceBEq, Bool.true_or, Bool.false_or, Bool.or_true, Bool.or_false, Bool.true_and, Bool.false_and, Bool.and_true, Bool.and_false, decide_true, decide_false, Bool.false_eq_true, if_true, if_false, reduceCtorEq, Nat.reduceLeDiff, r_star, star1_l, star1_t, star2_o, r_rng2, r_zipN, zipN1_o, minD_pair, maxD_pair, tgT_2, tgT_3, tg1_s]
end K04
end
section
set_option Elab.async false
set_option linter.all false
set_option maxRecDepth 100000
set_option maxHeartbeats 1000000
namespace K04
open PySem Sx B
theorem law_1 (p n i j k : Nat) (N : Int) (d o0 o2 : D) (bs rs : List Int) (hid : List Src) (ho0 : D.has p o0 = false) (ho2 : D.has p o2 = false) (h : Pu p N d) (hN : N ≤ 500000) (hp : p < n) (hip : i ≠ p) (hjp : j ≠ p) (hkp : k ≠ p) (hi : i < n) (hj : j < n) (hk : k < n) (hg : Good bs rs) :
    ∃ n' d' w, n ≤ n' ∧ b_law_1 0 ⟨n, [some o0, some d, some o2, some (hd i j k bs rs)], [], hid⟩ = .nx ⟨n', [some o0, some d', some o2, some (hd i j k bs rs)], [], hid.map (Src.puts w)⟩ ∧ PW p d w d' ∧ Pu p (N + 800) d' := by
  obtain ⟨n1, d1, w1, h1, e1, pw1, pu1⟩ := v_two_right p n i j k N d bs rs h (by omega) hp hip hjp hkp hi hj hk hg
  obtain ⟨n2, d2, w2, h2, e2, pw2, pu2⟩ := v_places_right p n1 i j k _ d1 bs rs pu1 (by omega) (by omega) hip hjp hkp (by omega) (by omega) (by omega) hg
  refine ⟨n2, d2, comp w1 w2, by omega, ?_, pw1.trans pw2, pu2.mono (by omega)⟩
  have z := fun a b e h => pw1.put0 (n := a) (n1 := b) (env := e) (hid := h)
  have z2 := fun a b e h => pw2.put0 (n := a) (n1 := b) (env := e) (hid := h)
  simp -implicitDefEqProofs only [b_law_1, e1, e2, z, z2, pw1.puts, pw2.puts, pw1.free (has_hd hip hjp hkp), pw1.free ho0, pw1.free ho2, pw2.free (has_hd hip hjp hkp), pw2.free ho0, pw2.free ho2, hid_comp, pre_n, pre_o, of_s, r_var, var1_s, r_c, r_nil, r_cons, cons1_o, cons2_o, r_lst, lst1_o, r_tup, tup1_o, r_bin, bin1_o, bin2_o, r_un, un1_o, r_bits, r_tof, tof1_o, r_and, and1_t, and1_f, r_or, or1_t, or1_f, r_not, not1_o, r_eand, eand1_t, eand1_f, r_eor, eor1_t, eor1_f, r_enot, enot1_o, r_eif, eif1_t, eif1_f, r_call, call1_o, r_callD, r_callK, callK1_o, callK2_o, r_make, r_makeP, r_mth, mth1_o, mth2_o, r_b, r_m, m1_lst, m2_o, ofW_s, r_isi, isi1_o, isi3_s, r_fld, fld1_o, fld2_s, r_eqo, eqo1_o, eqo2_o, eqo3_o, r_osm, osm1_o, r_onone, r_sl, sl1_o, sl2_o, sl3_o, r_rev, rev1_o, r_seq, seq1_l, seq1_t, r_rng1, rng1_o, r_zip, zip1_o, r_enum, enum1_o, r_lc, lc1_o, put_0, put_c, setv_c, r_sseq, then1_n, then1_r, then1_c, then1_b, r_snil, r_sretn, r_scont, r_sbrk, r_sexpr, expr1_o, r_sret, ret1_o, r_sset, set1_o, r_sif, sif1_t, sif1_f, r_stg, stg1_o, tg1_s, r_spar, par1_o, r_spar3, par3_o, r_saug, aug0_s, aug1_o, aug2_s, r_ssub, sub0_o, sub1_o, sub2_o, sub3_s, r_sfld, sfld0_o, sfld1_o, r_sfor, for1_o, r_swhile, r_run, run1_n, run1_r, len_rng, len_li, len_lst, len_tup, len_zip, len_enum, puts, putsL, optmap_nil, get_comp, puts_comp, putsL_comp, put_comp', puts_nil, putsL_nil, putE_nil, putE_map, comp_nil, nil_comp, comp_one, cutW_nil, get_one, get_nil, puts_li, putsL_li, li_len, permL, D.has, hasL, hasL_li, isTyD, isClD, isi2, isD_non, isNone, cmpD_int, negD_int, addD_int, subD_int, eqD_int, neD_int, eqD_li, neD_li, listD_lst, listD_tup, tupleD_lst, lenD_lst, lenD_tup, intD1_int, ixD_0, ixD_1, ixD_2, ixD_3, bitsD_int, cutOk, List.map_cons, List.map_nil, List.length_cons, List.length_nil, List.getElem?_cons_zero, List.getElem?_cons_succ, List.set_cons_zero, List.set_cons_succ, List.replicate, List.cons_append, List.nil_append, Option.map_some, Option.map_none, Nat.reduceAdd, Nat.reduceSub, Nat.add_assoc, Nat.zero_add, Nat.add_zero, Bool.not_true, Bool.not_false, beq_self_eq_true, String.reduceBEq, Bool.true_or, Bool.false_or, Bool.or_true, Bool.or_false, Bool.true_and, Bool.false_and, Bool.and_true, Bool.and_false, decide_true, decide_false, Bool.false_eq_true, if_true, if_false, reduceCtorEq, Nat.reduceLeDiff, r_star, star1_l, star1_t, star2_o, r_rng2, r_zipN, zipN1_o, minD_pair, maxD_pair, tgT_2, tgT_3, tg1_s]
theorem has_list {p : Nat} {hs : List D} (h : ∀ x ∈ hs, D.has p x = false) : hasL p hs = false := by
  induction hs with
  | nil => rfl
  | cons x r ih => rw [hasL, h x List.mem_cons_self, ih fun y hy => h y (List.mem_cons_of_mem _ hy)]; rfl
theorem law_loop (p n q : Nat) (ns : List Int) (N : Int) (d o2 : D) (hs : List D) (o3 : Option D) (hid : List Src) (hh : ∀ x ∈ hs, ∃ i j k bs rs, x = hd i j k bs rs ∧ i ≠ p ∧ j ≠ p ∧ k ≠ p ∧ i < n ∧ j < n ∧ k < n ∧ Good bs rs) (hq : q ≠ p)
    (hs0 : D.has p o2 = false) (h : Pu p N d) (hp : p < n) (hN : N + 800 * hs.length ≤ 500000) :
    ∃ n' d' w o3', n ≤ n' ∧ forGo (tgN 3) b_law_1 0 hs.length 0 ⟨n, [some (.scr ns), some d, some o2, o3], [], .lst (.lst q hs) :: hid⟩ = .nx ⟨n', [some (.scr ns), some d', some o2, o3'], [], hid.map (Src.puts w)⟩ ∧ PW p d w d' ∧ Pu p (N + 800 * hs.length) d' := by
  have hf : hasL p hs = false := has_list fun x hx => by
    obtain ⟨i, j, k, bs, rs, rfl, h1, h2, h3, _⟩ := hh x hx
    exact has_hd h1 h2 h3
  have hf2 : D.has p (.lst q hs) = false := by
    rw [D.has, hf]; simp [hq]
  obtain ⟨s', src, h', e1, e2, m, d', w, o3', e3, e4, e5, e6⟩ := forGo_inv (tg := tgN 3) (body := b_law_1) (n0 := 0)
    (fun k s => ∃ m d' w o3, s = ⟨m, [some (.scr ns), some d', some o2, o3], [], .lst (.lst q hs) :: hid.map (Src.puts w)⟩ ∧ n ≤ m ∧ PW p d w d' ∧ Pu p (N + 800 * k) d') hs.length
    (fun k s hk hI => by
      obtain ⟨m, d', w, o3, rfl, hm, pw, pu⟩ := hI
      have hx : hs[k]? = some hs[k] := List.getElem?_eq_getElem hk
      obtain ⟨i, j, kk, bs, rs, hx2, h1, h2, h3, h4, h5, h6, hg⟩ := hh hs[k] (List.getElem_mem hk)
      obtain ⟨m2, d2, w2, hm2, eb, pw2, pu2⟩ := law_1 p m i j kk (N + 800 * k) d' (.scr ns) o2 bs rs (.lst (.lst q hs) :: hid.map (Src.puts w)) rfl hs0 pu (by omega) (by omega) h1 h2 h3 (by omega) (by omega) (by omega) hg
      refine ⟨_, _, hs[k], _, _, rfl, by show some hs[k]? = _; rw [hx], rfl, .inl (by rw [hx2]; exact eb), m2, d2, comp w w2, some (hd i j kk bs rs), ?_, by omega, pw.trans pw2, pu2.mono (by omega)⟩
      rw [List.map_cons, hid_comp]
      show SS.mk _ _ _ (Src.lst (Sx.puts w2 (.lst q hs)) :: _) = _
      rw [pw2.free hf2])
    (fun s hI => by
      obtain ⟨m, d', w, o3, rfl, _⟩ := hI
      exact ⟨_, _, rfl, by show some hs[hs.length]? = _; rw [List.getElem?_eq_none_iff.mpr (Nat.le_refl _)]⟩)
    hs.length 0 ⟨n, [some (.scr ns), some d, some o2, o3], [], .lst (.lst q hs) :: hid⟩ (by omega) ⟨n, d, [], o3, by rw [hid_nil], Nat.le_refl _, .nil h, by simpa using h⟩
  subst e3
  injection e2 with e7 e8
  subst e8
  exact ⟨m, d', w, o3', e4, e1, e5, e6⟩
theorem law_2 (p n : Nat) (ns : List Int) (d : D) (o2 o3 : Option D) (hid : List Src) (h : Pu p 0 d) (hp : p < n) :
    ∃ n' d' w o2' o3', n ≤ n' ∧ b_law_2 0 ⟨n, [some (.scr ns), some d, o2, o3], [], hid⟩ = .nx ⟨n', [some (.scr ns), some d', o2', o3'], [], hid.map (Src.puts w)⟩ ∧ PW p d w d' := by
  obtain ⟨x1, d1, w1, c0, c1, e1, pw1, pu1⟩ := v_drawP p _ 4 n d h (by omega) (by omega) (by omega) (by omega)
  obtain ⟨i1, j1, k1, bs1, rs1, d2, w2, n2, a1, a2, a3, a4, a5, a6, a7, a8, a9, e2, pw2, pu2, hg1, hl1⟩ := v_house p n _ (1 + x1) d1 pu1 (by omega) (by omega) (by omega) (by omega)
  obtain ⟨x3, d3, w3, c2, c3, e3, pw3, pu3⟩ := v_drawP p _ 4 n2 d2 pu2 (by omega) (by omega) (by omega) (by omega)
  obtain ⟨i4, j4, k4, bs4, rs4, d4, w4, n4, b1, b2, b3, b4, b5, b6, b7, b8, b9, e4, pw4, pu4, hg4, hl4⟩ := v_house p n2 _ (1 + x3) d3 pu3 (by omega) (by omega) (by omega) (by omega)
  obtain ⟨i5, j5, k5, bs5, rs5, d5, w5, n5, f1, f2, f3, f4, f5, f6, f7, f8, f9, e5, pw5, pu5, hg5⟩ := v_great_house p (n4 + 1) _ d4 pu4 (by omega) (by omega)
  have s1 := has_hd (p := p) (i := i1) (j := j1) (k := k1) (bs := bs1) (rs := rs1) (by omega) (by omega) (by omega)
  have s2 := has_hd (p := p) (i := i4) (j := j4) (k := k4) (bs := bs4) (rs := rs4) (by omega) (by omega) (by omega)
  have s3 : D.has p (.lst n4 [hd i1 j1 k1 bs1 rs1, hd i4 j4 k4 bs4 rs4]) = false := by
    rw [D.has, has_list (fun x hx => by simp at hx; rcases hx with rfl | rfl <;> assumption)]
    simp; omega
  have ad := addD_lst n4 n5 [hd i1 j1 k1 bs1 rs1, hd i4 j4 k4 bs4 rs4] [hd i5 j5 k5 bs5 rs5] (n5 + 1) (by simp)
  have z1 := fun a b e h => pw1.put0 (n := a) (n1 := b) (env := e) (hid := h)
  have z2 := fun a b e h => pw2.put0 (n := a) (n1 := b) (env := e) (hid := h)
  have z3 := fun a b e h => pw3.put0 (n := a) (n1 := b) (env := e) (hid := h)
  have z4 := fun a b e h => pw4.put0 (n := a) (n1 := b) (env := e) (hid := h)
  have z34 := fun a b e h => (pw3.trans pw4).put0 (n := a) (n1 := b) (env := e) (hid := h)
  have z5 := fun a b e h => pw5.put0 (n := a) (n1 := b) (env := e) (hid := h)
  have g5 : Wr.get w5 n4 = none := pw5.get (by omega)
  obtain ⟨n6, d6, w6, o3', hn6, e6, pw6, pu6⟩ := law_loop p (n5 + 2) (n5 + 1) ns _ d5 (.lst n4 [hd i1 j1 k1 bs1 rs1, hd i4 j4 k4 bs4 rs4]) [hd i1 j1 k1 bs1 rs1, hd i4 j4 k4 bs4 rs4, hd i5 j5 k5 bs5 rs5] (Option.map (puts w5) (Option.map (puts (comp w3 w4)) (Option.map (puts w2) (Option.map (puts w1) o3)))) (List.map (Src.puts (comp (comp (comp w1 w2) (comp w3 w4)) w5)) hid) (fun x hx => by
      simp only [List.mem_cons, List.not_mem_nil, or_false] at hx
      rcases hx with rfl | rfl | rfl
      · exact ⟨_, _, _, _, _, rfl, by omega, by omega, by omega, by omega, by omega, by omega, hg1⟩
      · exact ⟨_, _, _, _, _, rfl, by omega, by omega, by omega, by omega, by omega, by omega, hg4⟩
      · exact ⟨_, _, _, _, _, rfl, by omega, by omega, by omega, by omega, by omega, by omega, hg5⟩) (by omega) s3 pu5 (by omega) (by simp)
  have e6' : forGo (tgN 3) b_law_1 0 3 0 ⟨n5 + 2, [some (.scr ns), some d5, some (.lst n4 [hd i1 j1 k1 bs1 rs1, hd i4 j4 k4 bs4 rs4]), Option.map (puts w5) (Option.map (puts (comp w3 w4)) (Option.map (puts w2) (Option.map (puts w1) o3)))], [], .lst (.lst (n5 + 1) [hd i1 j1 k1 bs1 rs1, hd i4 j4 k4 bs4 rs4, hd i5 j5 k5 bs5 rs5]) :: List.map (Src.puts (comp (comp (comp w1 w2) (comp w3 w4)) w5)) hid⟩ = _ := e6
  have hN6 : (([hd i1 j1 k1 bs1 rs1, hd i4 j4 k4 bs4 rs4, hd i5 j5 k5 bs5 rs5].length : Nat) : Int) = 3 := rfl
  rw [hN6] at pu6
  obtain ⟨n7, d7, w7, hn7, e7, pw7, pu7⟩ := v_behind_right p n6 i1 j1 k1 i4 j4 k4 _ d6 bs1 rs1 bs4 rs4 pu6 (by omega) (by omega) (by omega) (by omega) (by omega) (by omega) (by omega) (by omega) hg1 (by omega) (by omega) (by omega) (by omega) (by omega) (by omega) hg4 (by omega)
  obtain ⟨n8, d8, w8, hn8, e8, pw8, pu8⟩ := v_behind_right p n7 i4 j4 k4 i1 j1 k1 _ d7 bs4 rs4 bs1 rs1 pu7 (by omega) (by omega) (by omega) (by omega) (by omega) (by omega) (by omega) (by omega) hg4 (by omega) (by omega) (by omega) (by omega) (by omega) (by omega) hg1 (by omega)
  have z7 := fun a b e h => pw7.put0 (n := a) (n1 := b) (env := e) (hid := h)
  have z8 := fun a b e h => pw8.put0 (n := a) (n1 := b) (env := e) (hid := h)
  have z78 := fun a b e h => (pw7.trans pw8).put0 (n := a) (n1 := b) (env := e) (hid := h)
  have g7 : Wr.get w7 n4 = none := pw7.get (by omega)
  have g8 : Wr.get w8 n4 = none := pw8.get (by omega)
  have ln : ∀ (q : Nat) (x0 x1 x2 : D), (Src.lst (.lst q [x0, x1, x2])).len = 3 := fun _ _ _ _ => rfl
  refine ⟨n8, d8, comp (comp (comp (comp (comp w1 w2) (comp w3 w4)) w5) w6) (comp w7 w8), some (.lst n4 [hd i1 j1 k1 bs1 rs1, hd i4 j4 k4 bs4 rs4]), Option.map (puts (comp w7 w8)) o3', by omega, ?_, ((((pw1.trans pw2).trans (pw3.trans pw4)).trans pw5).trans pw6).trans (pw7.trans pw8)⟩
  simp -implicitDefEqProofs only [b_law_2, e1, e2, e3, e4, e5, e6', e7, e8, z1, z2, z3, z4, z34, z5, z7, z8, z78, g5, g7, g8, ad, ln, pw1.puts, pw2.puts, pw3.puts, pw4.puts, pw5.puts, pw7.puts, pw8.puts, pw3.free s1, pw4.free s1, pw5.free s1, pw5.free s2, pw7.free s1, pw7.free s2, pw8.free s1, pw8.free s2, pw5.free s3, pw7.free s3, pw8.free s3, puts_scr, hid_comp, pre_n, pre_o, of_s, r_var, var1_s, r_c, r_nil, r_cons, cons1_o, cons2_o, r_lst, lst1_o, r_tup, tup1_o, r_bin, bin1_o, bin2_o, r_un, un1_o, r_bits, r_tof, tof1_o, r_and, and1_t, and1_f, r_or, or1_t, or1_f, r_not, not1_o, r_eand, eand1_t, eand1_f, r_eor, eor1_t, eor1_f, r_enot, enot1_o, r_eif, eif1_t, eif1_f, r_call, call1_o, r_callD, r_callK, callK1_o, callK2_o, r_make, r_makeP, r_mth, mth1_o, mth2_o, r_b, r_m, m1_lst, m2_o, ofW_s, r_isi, isi1_o, isi3_s, r_fld, fld1_o, fld2_s, r_eqo, eqo1_o, eqo2_o, eqo3_o, r_osm, osm1_o, r_onone, r_sl, sl1_o, sl2_o, sl3_o, r_rev, rev1_o, r_seq, seq1_l, seq1_t, r_rng1, rng1_o, r_zip, zip1_o, r_enum, enum1_o, r_lc, lc1_o, put_0, put_c, setv_c, r_sseq, then1_n, then1_r, then1_c, then1_b, r_snil, r_sretn, r_scont, r_sbrk, r_sexpr, expr1_o, r_sret, ret1_o, r_sset, set1_o, r_sif, sif1_t, sif1_f, r_stg, stg1_o, tg1_s, r_spar, par1_o, r_spar3, par3_o, r_saug, aug0_s, aug1_o, aug2_s, r_ssub, sub0_o, sub1_o, sub2_o, sub3_s, r_sfld, sfld0_o, sfld1_o, r_sfor, for1_o, r_swhile, r_run, run1_n, run1_r, len_rng, len_li, len_lst, len_tup, len_zip, len_enum, puts, putsL, optmap_nil, get_comp, puts_comp, putsL_comp, put_comp', puts_nil, putsL_nil, putE_nil, putE_map, comp_nil, nil_comp, comp_one, cutW_nil, get_one, get_nil, puts_li, putsL_li, li_len, permL, D.has, hasL, hasL_li, isTyD, isClD, isi2, isD_non, isNone, cmpD_int, negD_int, addD_int, subD_int, eqD_int, neD_int, eqD_li, neD_li, listD_lst, listD_tup, tupleD_lst, lenD_lst, lenD_tup, intD1_int, ixD_0, ixD_1, ixD_2, ixD_3, bitsD_int, cutOk, List.map_cons, List.map_nil, List.length_cons, List.length_nil, List.getElem?_cons_zero, List.getElem?_cons_succ, List.set_cons_zero, List.set_cons_succ, List.replicate, List.cons_append, List.nil_append, Option.map_some, Option.map_none, Nat.reduceAdd, Nat.reduceSub, Nat.add_assoc, Nat.zero_add, Nat.add_zero, Bool.not_true, Bool.not_false, beq_self_eq_true, String.reduceBEq, Bool.true_or, Bool.false_or, Bool.or_true, Bool.or_false, Bool.true_and, Bool.false_and, Bool.and_true, Bool.and_false, decide_true, decide_false, Bool.false_eq_true, if_true, if_false, reduceCtorEq, Nat.reduceLeDiff, r_star, star1_l, star1_t, star2_o, r_rng2, r_zipN, zipN1_o, minD_pair, maxD_pair, tgT_2, tgT_3, tg1_s]
theorem v_law (ns : List Int) (h : ns.length ≤ 63) : ∃ n' w, q_law [.scr ns] 0 = .ok (.bl true) n' w := by
  obtain ⟨ds, m, hm, e1, hP⟩ := v_purses ns 2 0 (by omega) (by omega)
  obtain ⟨n', env', e2, hz, o1, o2, o3, rfl⟩ := for_purses (tg := tgN 1) (body := b_law_2) (n := m + 1) (env := [some (.scr ns), none, none, none]) hP (Nat.le_refl m) (fun n env => m < n ∧ ∃ o1 o2 o3, env = [some (.scr ns), o1, o2, o3]) ⟨by omega, none, none, none, rfl⟩
    (fun n env p d hid hz hp pu => by
      obtain ⟨hn, o1, o2, o3, rfl⟩ := hz
      obtain ⟨n', d', w, o2', o3', hn', e, pw⟩ := law_2 p n ns d o2 o3 hid pu (by omega)
      exact ⟨_, n', _, w, d', rfl, e, pw, by omega, _, _, _, rfl⟩)
  refine ⟨n', [], ?_⟩
  simp -implicitDefEqProofs only [q_law, b_law, e1, e2, pre_n, pre_o, of_s, r_var, var1_s, r_c, r_nil, r_cons, cons1_o, cons2_o, r_lst, lst1_o, r_tup, tup1_o, r_bin, bin1_o, bin2_o, r_un, un1_o, r_bits, r_tof, tof1_o, r_and, and1_t, and1_f, r_or, or1_t, or1_f, r_not, not1_o, r_eand, eand1_t, eand1_f, r_eor, eor1_t, eor1_f, r_enot, enot1_o, r_eif, eif1_t, eif1_f, r_call, call1_o, r_callD, r_callK, callK1_o, callK2_o, r_make, r_makeP, r_mth, mth1_o, mth2_o, r_b, r_m, m1_lst, m2_o, ofW_s, r_isi, isi1_o, isi3_s, r_fld, fld1_o, fld2_s, r_eqo, eqo1_o, eqo2_o, eqo3_o, r_osm, osm1_o, r_onone, r_sl, sl1_o, sl2_o, sl3_o, r_rev, rev1_o, r_seq, seq1_l, seq1_t, r_rng1, rng1_o, r_zip, zip1_o, r_enum, enum1_o, r_lc, lc1_o, put_0, put_c, setv_c, r_sseq, then1_n, then1_r, then1_c, then1_b, r_snil, r_sretn, r_scont, r_sbrk, r_sexpr, expr1_o, r_sret, ret1_o, r_sset, set1_o, r_sif, sif1_t, sif1_f, r_stg, stg1_o, tg1_s, r_spar, par1_o, r_spar3, par3_o, r_saug, aug0_s, aug1_o, aug2_s, r_ssub, sub0_o, sub1_o, sub2_o, sub3_s, r_sfld, sfld0_o, sfld1_o, r_sfor, for1_o, r_swhile, r_run, run1_n, run1_r, len_rng, len_li, len_lst, len_tup, len_zip, len_enum, puts, putsL, optmap_nil, get_comp, puts_comp, putsL_comp, put_comp', puts_nil, putsL_nil, putE_nil, putE_map, comp_nil, nil_comp, comp_one, cutW_nil, get_one, get_nil, puts_li, putsL_li, li_len, permL, D.has, hasL, hasL_li, isTyD, isClD, isi2, isD_non, isNone, cmpD_int, negD_int, addD_int, subD_int, eqD_int, neD_int, eqD_li, neD_li, listD_lst, listD_tup, tupleD_lst, lenD_lst, lenD_tup, intD1_int, ixD_0, ixD_1, ixD_2, ixD_3, bitsD_int, cutOk, List.map_cons, List.map_nil, List.length_cons, List.length_nil, List.getElem?_cons_zero, List.getElem?_cons_succ, List.set_cons_zero, List.set_cons_succ, List.replicate, List.cons_append, List.nil_append, Option.map_some, Option.map_none, Nat.reduceAdd, Nat.reduceSub, Nat.add_assoc, Nat.zero_add, Nat.add_zero, Bool.not_true, Bool.not_false, beq_self_eq_true, String.reduceBEq, Bool.true_or, Bool.false_or, Bool.or_true, Bool.or_false, Bool.true_and, Bool.false_and, Bool.and_true, Bool.and_false, decide_true, decide_false, Bool.false_eq_true, if_true, if_false, reduceCtorEq, Nat.reduceLeDiff, r_star, star1_l, star1_t, star2_o, r_rng2, r_zipN, zipN1_o, minD_pair, maxD_pair, tgT_2, tgT_3, tg1_s]
end K04
end
section
set_option Elab.async false
set_option linter.all false
set_option maxRecDepth 100000
set_option maxHeartbeats 4000000
namespace K04
open PySem PySem.Spec PyProof.Rows L2 Sx
def flds : List (List Str) := [["steps", "space"]]
theorem df_is_whole {K : PySem.W.Frag} {mg : Str → Option Value} {h : Heap} {f : Addr} {oc kV dc pm cd ct : Value} {od an : Option Addr} {sl : Array (Option Value)} (X : K.In h) (G : h.Ns mainGlobals mg) (a : PySem.W.nsIn K mainGlobals "is_whole" = some (some (.ref f))) (l : K.lookup f = some ⟨oc, od, .func (PySem.W.fnOf "is_whole" "is_whole" (defArgs s_is_whole) (defBody s_is_whole) (defScope s_is_whole) .none kV dc pm an cd ct), sl⟩) (c : PySem.W.codeIn K cd "is_whole" = true) (k : PySem.W.keepIn K (.ref f) = true) : Df K mg "is_whole" "is_whole" s_is_whole ["value"] [] :=
  ⟨f, _, fun_mk l c k, PySem.W.mg_of X G a, ((fun_mk l c k).binds fun _ _ _ _ _ _ us hl => match us, hl with | [_], _ => rfl), (fun _ h => nomatch h)⟩
theorem df_is_count {K : PySem.W.Frag} {mg : Str → Option Value} {h : Heap} {f : Addr} {oc kV dc pm cd ct : Value} {od an : Option Addr} {sl : Array (Option Value)} {TT : Addr} {oc2 : Value} {od2 : Option Addr} {sl2 : Array (Option Value)} {nn : Nat} {T : Tab} (X : K.In h) (G : h.Ns mainGlobals mg) (a : PySem.W.nsIn K mainGlobals "is_count" = some (some (.ref f))) (l : K.lookup f = some ⟨oc, od, .func (PySem.W.fnOf "is_count" "is_count" (defArgs s_is_count) (defBody s_is_count) (defScope s_is_count) (.ref TT) kV dc pm an cd ct), sl⟩) (l2 : K.lookup TT = some ⟨oc2, od2, .seq (List.toArray [Value.none]) nn, sl2⟩) (c : PySem.W.codeIn K cd "is_count" = true) (k : PySem.W.keepIn K (.ref f) = true) :
    DfD K mg T "is_count" "is_count" s_is_count ["value", "most"] [.non] [] :=
  dfD_mk (dvs := [V.non]) ⟨⟨oc, od, _, kV, dc, pm, an, cd, ct, sl, rfl, l, c, .inr ⟨by simp, TT, _, [Value.none], nn, rfl, l2, rfl, (.cons rfl .nil)⟩, .inl rfl⟩, k⟩ (PySem.W.mg_of X G a) 1 0 (by simp) rfl
    (fun _ _ _ _ _ _ _ us its hu hi => match us, its, hu, hi with | [_, _], [_], _, _ => ⟨_, rfl, rfl⟩) (fun _ _ _ _ _ _ _ us its hu hi => match us, its, hu, hi with | [_], [_], _, _ => ⟨_, rfl, rfl⟩)
    (fun φ H => (Reps.cons (by rw [Rep]) Reps.nil)) (fun _ h => nomatch h)
theorem df_are_counts {K : PySem.W.Frag} {mg : Str → Option Value} {h : Heap} {f : Addr} {oc kV dc pm cd ct : Value} {od an : Option Addr} {sl : Array (Option Value)} (X : K.In h) (G : h.Ns mainGlobals mg) (a : PySem.W.nsIn K mainGlobals "are_counts" = some (some (.ref f))) (l : K.lookup f = some ⟨oc, od, .func (PySem.W.fnOf "are_counts" "are_counts" (defArgs s_are_counts) (defBody s_are_counts) (defScope s_are_counts) .none kV dc pm an cd ct), sl⟩) (c : PySem.W.codeIn K cd "are_counts" = true) (k : PySem.W.keepIn K (.ref f) = true) : Df K mg "are_counts" "are_counts" s_are_counts ["value"] [] :=
  ⟨f, _, fun_mk l c k, PySem.W.mg_of X G a, ((fun_mk l c k).binds fun _ _ _ _ _ _ us hl => match us, hl with | [_], _ => rfl), (fun _ h => nomatch h)⟩
theorem df_is_base {K : PySem.W.Frag} {mg : Str → Option Value} {h : Heap} {f : Addr} {oc kV dc pm cd ct : Value} {od an : Option Addr} {sl : Array (Option Value)} (X : K.In h) (G : h.Ns mainGlobals mg) (a : PySem.W.nsIn K mainGlobals "is_base" = some (some (.ref f))) (l : K.lookup f = some ⟨oc, od, .func (PySem.W.fnOf "is_base" "is_base" (defArgs s_is_base) (defBody s_is_base) (defScope s_is_base) .none kV dc pm an cd ct), sl⟩) (c : PySem.W.codeIn K cd "is_base" = true) (k : PySem.W.keepIn K (.ref f) = true) : Df K mg "is_base" "is_base" s_is_base ["value"] [] :=
  ⟨f, _, fun_mk l c k, PySem.W.mg_of X G a, ((fun_mk l c k).binds fun _ _ _ _ _ _ us hl => match us, hl with | [_], _ => rfl), (fun _ h => nomatch h)⟩
theorem df_init_House {K : PySem.W.Frag} {mg : Str → Option Value} {h : Heap} {f : Addr} {oc kV dc pm cd ct : Value} {od an : Option Addr} {sl : Array (Option Value)} {C0 : Addr} (X : K.In h) (G : h.Ns mainGlobals mg) (n0 : PySem.W.nsIn K mainGlobals "House" = some (some (.ref C0))) (nd : [C0].Nodup) (mk : PySem.W.makesIn K C0 = true) (a : PySem.W.findIn K (.ref C0) "__init__" = some (some (.ref f))) (i : PySem.W.isFn K (.ref f) = true) (kc : PySem.W.keepIn K (.ref C0) = true) (l : K.lookup f = some ⟨oc, od, .func (PySem.W.fnOf "__init__" "House.__init__" (defArgs s_init_House) (defBody s_init_House) (defScope s_init_House) .none kV dc pm an cd ct), sl⟩) (c : PySem.W.codeIn K cd "House.__init__" = true) (k : PySem.W.keepIn K (.ref f) = true) : ClD K mg (tabOf [C0] flds nd) "House" 0 "House.__init__" s_init_House ["self", "bases", "rooms"] [] :=
  ⟨C0, f, _, rfl, PySem.W.mg_of X G n0, ⟨mk, a, i, kc⟩, fun_mk l c k, ((fun_mk l c k).binds fun _ _ _ _ _ _ us hl => match us, hl with | [_, _, _], _ => rfl), (fun _ h => nomatch h)⟩
theorem df_m_House_bases {K : PySem.W.Frag} {f : Addr} {oc kV dc pm cd ct : Value} {od an : Option Addr} {sl : Array (Option Value)} {C0 : Addr} (n0 : PySem.W.nsIn K mainGlobals "House" = some (some (.ref C0))) (nd : [C0].Nodup) (b : clsOk K C0 = true) (a : PySem.W.findIn K (.ref C0) "bases" = some (some (.ref f))) (i : PySem.W.isFn K (.ref f) = true) (l : K.lookup f = some ⟨oc, od, .func (PySem.W.fnOf "bases" "House.bases" (defArgs s_m_House_bases) (defBody s_m_House_bases) (defScope s_m_House_bases) .none kV dc pm an cd ct), sl⟩) (c : PySem.W.codeIn K cd "House.bases" = true) (k : PySem.W.keepIn K (.ref f) = true) : MtD K (tabOf [C0] flds nd) 0 "bases" "House.bases" s_m_House_bases ["self"] :=
  ⟨C0, f, _, rfl, clsOk_cls b, ⟨a, i, k⟩, fun_mk l c k, ((fun_mk l c k).binds fun _ _ _ _ _ _ us hl => match us, hl with | [_], _ => rfl), by show ¬ _ ∈ (flds.getD 0 []); decide⟩
theorem df_m_House_rooms {K : PySem.W.Frag} {f : Addr} {oc kV dc pm cd ct : Value} {od an : Option Addr} {sl : Array (Option Value)} {C0 : Addr} (n0 : PySem.W.nsIn K mainGlobals "House" = some (some (.ref C0))) (nd : [C0].Nodup) (b : clsOk K C0 = true) (a : PySem.W.findIn K (.ref C0) "rooms" = some (some (.ref f))) (i : PySem.W.isFn K (.ref f) = true) (l : K.lookup f = some ⟨oc, od, .func (PySem.W.fnOf "rooms" "House.rooms" (defArgs s_m_House_rooms) (defBody s_m_House_rooms) (defScope s_m_House_rooms) .none kV dc pm an cd ct), sl⟩) (c : PySem.W.codeIn K cd "House.rooms" = true) (k : PySem.W.keepIn K (.ref f) = true) : MtD K (tabOf [C0] flds nd) 0 "rooms" "House.rooms" s_m_House_rooms ["self"] :=
  ⟨C0, f, _, rfl, clsOk_cls b, ⟨a, i, k⟩, fun_mk l c k, ((fun_mk l c k).binds fun _ _ _ _ _ _ us hl => match us, hl with | [_], _ => rfl), by show ¬ _ ∈ (flds.getD 0 []); decide⟩
theorem df_m_House_places {K : PySem.W.Frag} {f : Addr} {oc kV dc pm cd ct : Value} {od an : Option Addr} {sl : Array (Option Value)} {C0 : Addr} (n0 : PySem.W.nsIn K mainGlobals "House" = some (some (.ref C0))) (nd : [C0].Nodup) (b : clsOk K C0 = true) (a : PySem.W.findIn K (.ref C0) "places" = some (some (.ref f))) (i : PySem.W.isFn K (.ref f) = true) (l : K.lookup f = some ⟨oc, od, .func (PySem.W.fnOf "places" "House.places" (defArgs s_m_House_places) (defBody s_m_House_places) (defScope s_m_House_places) .none kV dc pm an cd ct), sl⟩) (c : PySem.W.codeIn K cd "House.places" = true) (k : PySem.W.keepIn K (.ref f) = true) : MtD K (tabOf [C0] flds nd) 0 "places" "House.places" s_m_House_places ["self"] :=
  ⟨C0, f, _, rfl, clsOk_cls b, ⟨a, i, k⟩, fun_mk l c k, ((fun_mk l c k).binds fun _ _ _ _ _ _ us hl => match us, hl with | [_], _ => rfl), by show ¬ _ ∈ (flds.getD 0 []); decide⟩
theorem df_eq_House {K : PySem.W.Frag} {f : Addr} {oc kV dc pm cd ct : Value} {od an : Option Addr} {sl : Array (Option Value)} {C0 : Addr} (n0 : PySem.W.nsIn K mainGlobals "House" = some (some (.ref C0))) (nd : [C0].Nodup) (a : PySem.W.findIn K (.ref C0) "__eq__" = some (some (.ref f))) (i : PySem.W.isFn K (.ref f) = true) (l : K.lookup f = some ⟨oc, od, .func (PySem.W.fnOf "__eq__" "House.__eq__" (defArgs s_eq_House) (defBody s_eq_House) (defScope s_eq_House) .none kV dc pm an cd ct), sl⟩) (c : PySem.W.codeIn K cd "House.__eq__" = true) (k : PySem.W.keepIn K (.ref f) = true) (b : eqOk K [C0] C0 = true) : EqDf K (tabOf [C0] flds nd) 0 "House.__eq__" s_eq_House ["self", "other"] :=
  eqDf_mk rfl (fun_mk l c k) ((fun_mk l c k).binds fun _ _ _ _ _ _ us hl => match us, hl with | [_, _], _ => rfl) rfl a i b
theorem df_check_house {K : PySem.W.Frag} {mg : Str → Option Value} {h : Heap} {f : Addr} {oc kV dc pm cd ct : Value} {od an : Option Addr} {sl : Array (Option Value)} (X : K.In h) (G : h.Ns mainGlobals mg) (a : PySem.W.nsIn K mainGlobals "check_house" = some (some (.ref f))) (l : K.lookup f = some ⟨oc, od, .func (PySem.W.fnOf "check_house" "check_house" (defArgs s_check_house) (defBody s_check_house) (defScope s_check_house) .none kV dc pm an cd ct), sl⟩) (c : PySem.W.codeIn K cd "check_house" = true) (k : PySem.W.keepIn K (.ref f) = true) : Df K mg "check_house" "check_house" s_check_house ["value"] [] :=
  ⟨f, _, fun_mk l c k, PySem.W.mg_of X G a, ((fun_mk l c k).binds fun _ _ _ _ _ _ us hl => match us, hl with | [_], _ => rfl), (fun _ h => nomatch h)⟩
theorem df_check_place {K : PySem.W.Frag} {mg : Str → Option Value} {h : Heap} {f : Addr} {oc kV dc pm cd ct : Value} {od an : Option Addr} {sl : Array (Option Value)} (X : K.In h) (G : h.Ns mainGlobals mg) (a : PySem.W.nsIn K mainGlobals "check_place" = some (some (.ref f))) (l : K.lookup f = some ⟨oc, od, .func (PySem.W.fnOf "check_place" "check_place" (defArgs s_check_place) (defBody s_check_place) (defScope s_check_place) .none kV dc pm an cd ct), sl⟩) (c : PySem.W.codeIn K cd "check_place" = true) (k : PySem.W.keepIn K (.ref f) = true) : Df K mg "check_place" "check_place" s_check_place ["house", "value"] [] :=
  ⟨f, _, fun_mk l c k, PySem.W.mg_of X G a, ((fun_mk l c k).binds fun _ _ _ _ _ _ us hl => match us, hl with | [_, _], _ => rfl), (fun _ h => nomatch h)⟩
theorem df_check_low_place {K : PySem.W.Frag} {mg : Str → Option Value} {h : Heap} {f : Addr} {oc kV dc pm cd ct : Value} {od an : Option Addr} {sl : Array (Option Value)} (X : K.In h) (G : h.Ns mainGlobals mg) (a : PySem.W.nsIn K mainGlobals "check_low_place" = some (some (.ref f))) (l : K.lookup f = some ⟨oc, od, .func (PySem.W.fnOf "check_low_place" "check_low_place" (defArgs s_check_low_place) (defBody s_check_low_place) (defScope s_check_low_place) .none kV dc pm an cd ct), sl⟩) (c : PySem.W.codeIn K cd "check_low_place" = true) (k : PySem.W.keepIn K (.ref f) = true) : Df K mg "check_low_place" "check_low_place" s_check_low_place ["house", "value"] [] :=
  ⟨f, _, fun_mk l c k, PySem.W.mg_of X G a, ((fun_mk l c k).binds fun _ _ _ _ _ _ us hl => match us, hl with | [_, _], _ => rfl), (fun _ h => nomatch h)⟩
theorem df_weights_of {K : PySem.W.Frag} {mg : Str → Option Value} {h : Heap} {f : Addr} {oc kV dc pm cd ct : Value} {od an : Option Addr} {sl : Array (Option Value)} (X : K.In h) (G : h.Ns mainGlobals mg) (a : PySem.W.nsIn K mainGlobals "weights_of" = some (some (.ref f))) (l : K.lookup f = some ⟨oc, od, .func (PySem.W.fnOf "weights_of" "weights_of" (defArgs s_weights_of) (defBody s_weights_of) (defScope s_weights_of) .none kV dc pm an cd ct), sl⟩) (c : PySem.W.codeIn K cd "weights_of" = true) (k : PySem.W.keepIn K (.ref f) = true) : Df K mg "weights_of" "weights_of" s_weights_of ["house"] [] :=
  ⟨f, _, fun_mk l c k, PySem.W.mg_of X G a, ((fun_mk l c k).binds fun _ _ _ _ _ _ us hl => match us, hl with | [_], _ => rfl), (fun _ h => nomatch h)⟩
theorem df_sums_up_to {K : PySem.W.Frag} {mg : Str → Option Value} {h : Heap} {f : Addr} {oc kV dc pm cd ct : Value} {od an : Option Addr} {sl : Array (Option Value)} (X : K.In h) (G : h.Ns mainGlobals mg) (a : PySem.W.nsIn K mainGlobals "sums_up_to" = some (some (.ref f))) (l : K.lookup f = some ⟨oc, od, .func (PySem.W.fnOf "sums_up_to" "sums_up_to" (defArgs s_sums_up_to) (defBody s_sums_up_to) (defScope s_sums_up_to) .none kV dc pm an cd ct), sl⟩) (c : PySem.W.codeIn K cd "sums_up_to" = true) (k : PySem.W.keepIn K (.ref f) = true) : Df K mg "sums_up_to" "sums_up_to" s_sums_up_to ["house", "row"] [] :=
  ⟨f, _, fun_mk l c k, PySem.W.mg_of X G a, ((fun_mk l c k).binds fun _ _ _ _ _ _ us hl => match us, hl with | [_, _], _ => rfl), (fun _ h => nomatch h)⟩
theorem df_rows_in {K : PySem.W.Frag} {mg : Str → Option Value} {h : Heap} {f : Addr} {oc kV dc pm cd ct : Value} {od an : Option Addr} {sl : Array (Option Value)} (X : K.In h) (G : h.Ns mainGlobals mg) (a : PySem.W.nsIn K mainGlobals "rows_in" = some (some (.ref f))) (l : K.lookup f = some ⟨oc, od, .func (PySem.W.fnOf "rows_in" "rows_in" (defArgs s_rows_in) (defBody s_rows_in) (defScope s_rows_in) .none kV dc pm an cd ct), sl⟩) (c : PySem.W.codeIn K cd "rows_in" = true) (k : PySem.W.keepIn K (.ref f) = true) : Df K mg "rows_in" "rows_in" s_rows_in ["house"] [] :=
  ⟨f, _, fun_mk l c k, PySem.W.mg_of X G a, ((fun_mk l c k).binds fun _ _ _ _ _ _ us hl => match us, hl with | [_], _ => rfl), (fun _ h => nomatch h)⟩
theorem df_weights {K : PySem.W.Frag} {mg : Str → Option Value} {h : Heap} {f : Addr} {oc kV dc pm cd ct : Value} {od an : Option Addr} {sl : Array (Option Value)} (X : K.In h) (G : h.Ns mainGlobals mg) (a : PySem.W.nsIn K mainGlobals "weights" = some (some (.ref f))) (l : K.lookup f = some ⟨oc, od, .func (PySem.W.fnOf "weights" "weights" (defArgs s_weights) (defBody s_weights) (defScope s_weights) .none kV dc pm an cd ct), sl⟩) (c : PySem.W.codeIn K cd "weights" = true) (k : PySem.W.keepIn K (.ref f) = true) : Df K mg "weights" "weights" s_weights ["house"] [] :=
  ⟨f, _, fun_mk l c k, PySem.W.mg_of X G a, ((fun_mk l c k).binds fun _ _ _ _ _ _ us hl => match us, hl with | [_], _ => rfl), (fun _ h => nomatch h)⟩
theorem df_held_up_to {K : PySem.W.Frag} {mg : Str → Option Value} {h : Heap} {f : Addr} {oc kV dc pm cd ct : Value} {od an : Option Addr} {sl : Array (Option Value)} (X : K.In h) (G : h.Ns mainGlobals mg) (a : PySem.W.nsIn K mainGlobals "held_up_to" = some (some (.ref f))) (l : K.lookup f = some ⟨oc, od, .func (PySem.W.fnOf "held_up_to" "held_up_to" (defArgs s_held_up_to) (defBody s_held_up_to) (defScope s_held_up_to) .none kV dc pm an cd ct), sl⟩) (c : PySem.W.codeIn K cd "held_up_to" = true) (k : PySem.W.keepIn K (.ref f) = true) : Df K mg "held_up_to" "held_up_to" s_held_up_to ["house"] [] :=
  ⟨f, _, fun_mk l c k, PySem.W.mg_of X G a, ((fun_mk l c k).binds fun _ _ _ _ _ _ us hl => match us, hl with | [_], _ => rfl), (fun _ h => nomatch h)⟩
theorem df_many_rows {K : PySem.W.Frag} {mg : Str → Option Value} {h : Heap} {f : Addr} {oc kV dc pm cd ct : Value} {od an : Option Addr} {sl : Array (Option Value)} (X : K.In h) (G : h.Ns mainGlobals mg) (a : PySem.W.nsIn K mainGlobals "many_rows" = some (some (.ref f))) (l : K.lookup f = some ⟨oc, od, .func (PySem.W.fnOf "many_rows" "many_rows" (defArgs s_many_rows) (defBody s_many_rows) (defScope s_many_rows) .none kV dc pm an cd ct), sl⟩) (c : PySem.W.codeIn K cd "many_rows" = true) (k : PySem.W.keepIn K (.ref f) = true) : Df K mg "many_rows" "many_rows" s_many_rows ["house"] [] :=
  ⟨f, _, fun_mk l c k, PySem.W.mg_of X G a, ((fun_mk l c k).binds fun _ _ _ _ _ _ us hl => match us, hl with | [_], _ => rfl), (fun _ h => nomatch h)⟩
theorem df_is_within {K : PySem.W.Frag} {mg : Str → Option Value} {h : Heap} {f : Addr} {oc kV dc pm cd ct : Value} {od an : Option Addr} {sl : Array (Option Value)} (X : K.In h) (G : h.Ns mainGlobals mg) (a : PySem.W.nsIn K mainGlobals "is_within" = some (some (.ref f))) (l : K.lookup f = some ⟨oc, od, .func (PySem.W.fnOf "is_within" "is_within" (defArgs s_is_within) (defBody s_is_within) (defScope s_is_within) .none kV dc pm an cd ct), sl⟩) (c : PySem.W.codeIn K cd "is_within" = true) (k : PySem.W.keepIn K (.ref f) = true) : Df K mg "is_within" "is_within" s_is_within ["one", "other"] [⟨0, ["other", "one"], [1, 0]⟩] :=
  ⟨f, _, fun_mk l c k, PySem.W.mg_of X G a, ((fun_mk l c k).binds fun _ _ _ _ _ _ us hl => match us, hl with | [_, _], _ => rfl), (fun p hp => match p, hp with | _, (.head _) => (fun s us ws _ h1 h2 => match us, ws, h1, h2 with | [], [_, _], _, _ => .of_eq rfl))⟩
theorem df_check_alike {K : PySem.W.Frag} {mg : Str → Option Value} {h : Heap} {f : Addr} {oc kV dc pm cd ct : Value} {od an : Option Addr} {sl : Array (Option Value)} (X : K.In h) (G : h.Ns mainGlobals mg) (a : PySem.W.nsIn K mainGlobals "check_alike" = some (some (.ref f))) (l : K.lookup f = some ⟨oc, od, .func (PySem.W.fnOf "check_alike" "check_alike" (defArgs s_check_alike) (defBody s_check_alike) (defScope s_check_alike) .none kV dc pm an cd ct), sl⟩) (c : PySem.W.codeIn K cd "check_alike" = true) (k : PySem.W.keepIn K (.ref f) = true) : Df K mg "check_alike" "check_alike" s_check_alike ["one", "other"] [] :=
  ⟨f, _, fun_mk l c k, PySem.W.mg_of X G a, ((fun_mk l c k).binds fun _ _ _ _ _ _ us hl => match us, hl with | [_, _], _ => rfl), (fun _ h => nomatch h)⟩
theorem df_lesser_house {K : PySem.W.Frag} {mg : Str → Option Value} {h : Heap} {f : Addr} {oc kV dc pm cd ct : Value} {od an : Option Addr} {sl : Array (Option Value)} (X : K.In h) (G : h.Ns mainGlobals mg) (a : PySem.W.nsIn K mainGlobals "lesser_house" = some (some (.ref f))) (l : K.lookup f = some ⟨oc, od, .func (PySem.W.fnOf "lesser_house" "lesser_house" (defArgs s_lesser_house) (defBody s_lesser_house) (defScope s_lesser_house) .none kV dc pm an cd ct), sl⟩) (c : PySem.W.codeIn K cd "lesser_house" = true) (k : PySem.W.keepIn K (.ref f) = true) : Df K mg "lesser_house" "lesser_house" s_lesser_house ["one", "other"] [⟨0, ["other", "one"], [1, 0]⟩] :=
  ⟨f, _, fun_mk l c k, PySem.W.mg_of X G a, ((fun_mk l c k).binds fun _ _ _ _ _ _ us hl => match us, hl with | [_, _], _ => rfl), (fun p hp => match p, hp with | _, (.head _) => (fun s us ws _ h1 h2 => match us, ws, h1, h2 with | [], [_, _], _, _ => .of_eq rfl))⟩
theorem df_greater_house {K : PySem.W.Frag} {mg : Str → Option Value} {h : Heap} {f : Addr} {oc kV dc pm cd ct : Value} {od an : Option Addr} {sl : Array (Option Value)} (X : K.In h) (G : h.Ns mainGlobals mg) (a : PySem.W.nsIn K mainGlobals "greater_house" = some (some (.ref f))) (l : K.lookup f = some ⟨oc, od, .func (PySem.W.fnOf "greater_house" "greater_house" (defArgs s_greater_house) (defBody s_greater_house) (defScope s_greater_house) .none kV dc pm an cd ct), sl⟩) (c : PySem.W.codeIn K cd "greater_house" = true) (k : PySem.W.keepIn K (.ref f) = true) : Df K mg "greater_house" "greater_house" s_greater_house ["one", "other"] [⟨0, ["other", "one"], [1, 0]⟩] :=
  ⟨f, _, fun_mk l c k, PySem.W.mg_of X G a, ((fun_mk l c k).binds fun _ _ _ _ _ _ us hl => match us, hl with | [_, _], _ => rfl), (fun p hp => match p, hp with | _, (.head _) => (fun s us ws _ h1 h2 => match us, ws, h1, h2 with | [], [_, _], _, _ => .of_eq rfl))⟩
theorem df_roomed {K : PySem.W.Frag} {mg : Str → Option Value} {h : Heap} {f : Addr} {oc kV dc pm cd ct : Value} {od an : Option Addr} {sl : Array (Option Value)} (X : K.In h) (G : h.Ns mainGlobals mg) (a : PySem.W.nsIn K mainGlobals "roomed" = some (some (.ref f))) (l : K.lookup f = some ⟨oc, od, .func (PySem.W.fnOf "roomed" "roomed" (defArgs s_roomed) (defBody s_roomed) (defScope s_roomed) .none kV dc pm an cd ct), sl⟩) (c : PySem.W.codeIn K cd "roomed" = true) (k : PySem.W.keepIn K (.ref f) = true) : Df K mg "roomed" "roomed" s_roomed ["house", "place", "room"] [] :=
  ⟨f, _, fun_mk l c k, PySem.W.mg_of X G a, ((fun_mk l c k).binds fun _ _ _ _ _ _ us hl => match us, hl with | [_, _, _], _ => rfl), (fun _ h => nomatch h)⟩
theorem df_with_room {K : PySem.W.Frag} {mg : Str → Option Value} {h : Heap} {f : Addr} {oc kV dc pm cd ct : Value} {od an : Option Addr} {sl : Array (Option Value)} (X : K.In h) (G : h.Ns mainGlobals mg) (a : PySem.W.nsIn K mainGlobals "with_room" = some (some (.ref f))) (l : K.lookup f = some ⟨oc, od, .func (PySem.W.fnOf "with_room" "with_room" (defArgs s_with_room) (defBody s_with_room) (defScope s_with_room) .none kV dc pm an cd ct), sl⟩) (c : PySem.W.codeIn K cd "with_room" = true) (k : PySem.W.keepIn K (.ref f) = true) : Df K mg "with_room" "with_room" s_with_room ["house", "place", "room"] [⟨0, ["room", "place", "house"], [2, 1, 0]⟩] :=
  ⟨f, _, fun_mk l c k, PySem.W.mg_of X G a, ((fun_mk l c k).binds fun _ _ _ _ _ _ us hl => match us, hl with | [_, _, _], _ => rfl), (fun p hp => match p, hp with | _, (.head _) => (fun s us ws _ h1 h2 => match us, ws, h1, h2 with | [], [_, _, _], _, _ => .of_eq rfl))⟩
theorem df_stretch {K : PySem.W.Frag} {mg : Str → Option Value} {h : Heap} {f : Addr} {oc kV dc pm cd ct : Value} {od an : Option Addr} {sl : Array (Option Value)} (X : K.In h) (G : h.Ns mainGlobals mg) (a : PySem.W.nsIn K mainGlobals "stretch" = some (some (.ref f))) (l : K.lookup f = some ⟨oc, od, .func (PySem.W.fnOf "stretch" "stretch" (defArgs s_stretch) (defBody s_stretch) (defScope s_stretch) .none kV dc pm an cd ct), sl⟩) (c : PySem.W.codeIn K cd "stretch" = true) (k : PySem.W.keepIn K (.ref f) = true) : Df K mg "stretch" "stretch" s_stretch ["house", "first", "last"] [⟨0, ["last", "first", "house"], [2, 1, 0]⟩] :=
  ⟨f, _, fun_mk l c k, PySem.W.mg_of X G a, ((fun_mk l c k).binds fun _ _ _ _ _ _ us hl => match us, hl with | [_, _, _], _ => rfl), (fun p hp => match p, hp with | _, (.head _) => (fun s us ws _ h1 h2 => match us, ws, h1, h2 with | [], [_, _, _], _, _ => .of_eq rfl))⟩
theorem df_set_behind {K : PySem.W.Frag} {mg : Str → Option Value} {h : Heap} {f : Addr} {oc kV dc pm cd ct : Value} {od an : Option Addr} {sl : Array (Option Value)} (X : K.In h) (G : h.Ns mainGlobals mg) (a : PySem.W.nsIn K mainGlobals "set_behind" = some (some (.ref f))) (l : K.lookup f = some ⟨oc, od, .func (PySem.W.fnOf "set_behind" "set_behind" (defArgs s_set_behind) (defBody s_set_behind) (defScope s_set_behind) .none kV dc pm an cd ct), sl⟩) (c : PySem.W.codeIn K cd "set_behind" = true) (k : PySem.W.keepIn K (.ref f) = true) : Df K mg "set_behind" "set_behind" s_set_behind ["one", "base", "other"] [⟨0, ["other", "base", "one"], [2, 1, 0]⟩] :=
  ⟨f, _, fun_mk l c k, PySem.W.mg_of X G a, ((fun_mk l c k).binds fun _ _ _ _ _ _ us hl => match us, hl with | [_, _, _], _ => rfl), (fun p hp => match p, hp with | _, (.head _) => (fun s us ws _ h1 h2 => match us, ws, h1, h2 with | [], [_, _, _], _, _ => .of_eq rfl))⟩
theorem df_tightened {K : PySem.W.Frag} {mg : Str → Option Value} {h : Heap} {f : Addr} {oc kV dc pm cd ct : Value} {od an : Option Addr} {sl : Array (Option Value)} (X : K.In h) (G : h.Ns mainGlobals mg) (a : PySem.W.nsIn K mainGlobals "tightened" = some (some (.ref f))) (l : K.lookup f = some ⟨oc, od, .func (PySem.W.fnOf "tightened" "tightened" (defArgs s_tightened) (defBody s_tightened) (defScope s_tightened) .none kV dc pm an cd ct), sl⟩) (c : PySem.W.codeIn K cd "tightened" = true) (k : PySem.W.keepIn K (.ref f) = true) : Df K mg "tightened" "tightened" s_tightened ["house", "place"] [⟨0, ["place", "house"], [1, 0]⟩] :=
  ⟨f, _, fun_mk l c k, PySem.W.mg_of X G a, ((fun_mk l c k).binds fun _ _ _ _ _ _ us hl => match us, hl with | [_, _], _ => rfl), (fun p hp => match p, hp with | _, (.head _) => (fun s us ws _ h1 h2 => match us, ws, h1, h2 with | [], [_, _], _, _ => .of_eq rfl))⟩
theorem df_l_purse {K : PySem.W.Frag} {mg : Str → Option Value} {h : Heap} {f : Addr} {oc kV dc pm cd ct : Value} {od an : Option Addr} {sl : Array (Option Value)} (X : K.In h) (G : h.Ns mainGlobals mg) (a : PySem.W.nsIn K mainGlobals "_law_purse" = some (some (.ref f))) (l : K.lookup f = some ⟨oc, od, .func (PySem.W.fnOf "_law_purse" "_law_purse" (defArgs s_l_purse) (defBody s_l_purse) (defScope s_l_purse) .none kV dc pm an cd ct), sl⟩) (c : PySem.W.codeIn K cd "_law_purse" = true) (k : PySem.W.keepIn K (.ref f) = true) : Df K mg "_law_purse" "_law_purse" s_l_purse ["_law_script", "_law_at"] [] :=
  ⟨f, _, fun_mk l c k, PySem.W.mg_of X G a, ((fun_mk l c k).binds fun _ _ _ _ _ _ us hl => match us, hl with | [_, _], _ => rfl), (fun _ h => nomatch h)⟩
theorem df_l_mixed {K : PySem.W.Frag} {mg : Str → Option Value} {h : Heap} {f : Addr} {oc kV dc pm cd ct : Value} {od an : Option Addr} {sl : Array (Option Value)} (X : K.In h) (G : h.Ns mainGlobals mg) (a : PySem.W.nsIn K mainGlobals "_law_mixed" = some (some (.ref f))) (l : K.lookup f = some ⟨oc, od, .func (PySem.W.fnOf "_law_mixed" "_law_mixed" (defArgs s_l_mixed) (defBody s_l_mixed) (defScope s_l_mixed) .none kV dc pm an cd ct), sl⟩) (c : PySem.W.codeIn K cd "_law_mixed" = true) (k : PySem.W.keepIn K (.ref f) = true) : Df K mg "_law_mixed" "_law_mixed" s_l_mixed ["_law_seed", "_law_spin", "_law_at"] [] :=
  ⟨f, _, fun_mk l c k, PySem.W.mg_of X G a, ((fun_mk l c k).binds fun _ _ _ _ _ _ us hl => match us, hl with | [_, _, _], _ => rfl), (fun _ h => nomatch h)⟩
theorem df_l_draw {K : PySem.W.Frag} {mg : Str → Option Value} {h : Heap} {f : Addr} {oc kV dc pm cd ct : Value} {od an : Option Addr} {sl : Array (Option Value)} (X : K.In h) (G : h.Ns mainGlobals mg) (a : PySem.W.nsIn K mainGlobals "_law_draw" = some (some (.ref f))) (l : K.lookup f = some ⟨oc, od, .func (PySem.W.fnOf "_law_draw" "_law_draw" (defArgs s_l_draw) (defBody s_l_draw) (defScope s_l_draw) .none kV dc pm an cd ct), sl⟩) (c : PySem.W.codeIn K cd "_law_draw" = true) (k : PySem.W.keepIn K (.ref f) = true) : Df K mg "_law_draw" "_law_draw" s_l_draw ["_law_purse_here", "_law_many"] [] :=
  ⟨f, _, fun_mk l c k, PySem.W.mg_of X G a, ((fun_mk l c k).binds fun _ _ _ _ _ _ us hl => match us, hl with | [_, _], _ => rfl), (fun _ h => nomatch h)⟩
theorem df_l_purses {K : PySem.W.Frag} {mg : Str → Option Value} {h : Heap} {f : Addr} {oc kV dc pm cd ct : Value} {od an : Option Addr} {sl : Array (Option Value)} (X : K.In h) (G : h.Ns mainGlobals mg) (a : PySem.W.nsIn K mainGlobals "_law_purses" = some (some (.ref f))) (l : K.lookup f = some ⟨oc, od, .func (PySem.W.fnOf "_law_purses" "_law_purses" (defArgs s_l_purses) (defBody s_l_purses) (defScope s_l_purses) .none kV dc pm an cd ct), sl⟩) (c : PySem.W.codeIn K cd "_law_purses" = true) (k : PySem.W.keepIn K (.ref f) = true) : Df K mg "_law_purses" "_law_purses" s_l_purses ["_law_script", "_law_few"] [] :=
  ⟨f, _, fun_mk l c k, PySem.W.mg_of X G a, ((fun_mk l c k).binds fun _ _ _ _ _ _ us hl => match us, hl with | [_, _], _ => rfl), (fun _ h => nomatch h)⟩
theorem df_l_one_of {K : PySem.W.Frag} {mg : Str → Option Value} {h : Heap} {f : Addr} {oc kV dc pm cd ct : Value} {od an : Option Addr} {sl : Array (Option Value)} (X : K.In h) (G : h.Ns mainGlobals mg) (a : PySem.W.nsIn K mainGlobals "_law_one_of" = some (some (.ref f))) (l : K.lookup f = some ⟨oc, od, .func (PySem.W.fnOf "_law_one_of" "_law_one_of" (defArgs s_l_one_of) (defBody s_l_one_of) (defScope s_l_one_of) .none kV dc pm an cd ct), sl⟩) (c : PySem.W.codeIn K cd "_law_one_of" = true) (k : PySem.W.keepIn K (.ref f) = true) : Df K mg "_law_one_of" "_law_one_of" s_l_one_of ["_law_purse_here", "_law_some"] [] :=
  ⟨f, _, fun_mk l c k, PySem.W.mg_of X G a, ((fun_mk l c k).binds fun _ _ _ _ _ _ us hl => match us, hl with | [_, _], _ => rfl), (fun _ h => nomatch h)⟩
theorem df_l_exact {K : PySem.W.Frag} {mg : Str → Option Value} {h : Heap} {f : Addr} {oc kV dc pm cd ct : Value} {od an : Option Addr} {sl : Array (Option Value)} (X : K.In h) (G : h.Ns mainGlobals mg) (a : PySem.W.nsIn K mainGlobals "_law_exact" = some (some (.ref f))) (l : K.lookup f = some ⟨oc, od, .func (PySem.W.fnOf "_law_exact" "_law_exact" (defArgs s_l_exact) (defBody s_l_exact) (defScope s_l_exact) .none kV dc pm an cd ct), sl⟩) (c : PySem.W.codeIn K cd "_law_exact" = true) (k : PySem.W.keepIn K (.ref f) = true) : Df K mg "_law_exact" "_law_exact" s_l_exact ["_law_mine", "_law_theirs"] [] :=
  ⟨f, _, fun_mk l c k, PySem.W.mg_of X G a, ((fun_mk l c k).binds fun _ _ _ _ _ _ us hl => match us, hl with | [_, _], _ => rfl), (fun _ h => nomatch h)⟩
theorem df_l_weights {K : PySem.W.Frag} {mg : Str → Option Value} {h : Heap} {f : Addr} {oc kV dc pm cd ct : Value} {od an : Option Addr} {sl : Array (Option Value)} (X : K.In h) (G : h.Ns mainGlobals mg) (a : PySem.W.nsIn K mainGlobals "_law_weights" = some (some (.ref f))) (l : K.lookup f = some ⟨oc, od, .func (PySem.W.fnOf "_law_weights" "_law_weights" (defArgs s_l_weights) (defBody s_l_weights) (defScope s_l_weights) .none kV dc pm an cd ct), sl⟩) (c : PySem.W.codeIn K cd "_law_weights" = true) (k : PySem.W.keepIn K (.ref f) = true) : Df K mg "_law_weights" "_law_weights" s_l_weights ["_law_house_here"] [] :=
  ⟨f, _, fun_mk l c k, PySem.W.mg_of X G a, ((fun_mk l c k).binds fun _ _ _ _ _ _ us hl => match us, hl with | [_], _ => rfl), (fun _ h => nomatch h)⟩
theorem df_l_many_rows {K : PySem.W.Frag} {mg : Str → Option Value} {h : Heap} {f : Addr} {oc kV dc pm cd ct : Value} {od an : Option Addr} {sl : Array (Option Value)} (X : K.In h) (G : h.Ns mainGlobals mg) (a : PySem.W.nsIn K mainGlobals "_law_many_rows" = some (some (.ref f))) (l : K.lookup f = some ⟨oc, od, .func (PySem.W.fnOf "_law_many_rows" "_law_many_rows" (defArgs s_l_many_rows) (defBody s_l_many_rows) (defScope s_l_many_rows) .none kV dc pm an cd ct), sl⟩) (c : PySem.W.codeIn K cd "_law_many_rows" = true) (k : PySem.W.keepIn K (.ref f) = true) : Df K mg "_law_many_rows" "_law_many_rows" s_l_many_rows ["_law_house_here"] [] :=
  ⟨f, _, fun_mk l c k, PySem.W.mg_of X G a, ((fun_mk l c k).binds fun _ _ _ _ _ _ us hl => match us, hl with | [_], _ => rfl), (fun _ h => nomatch h)⟩
theorem df_l_house {K : PySem.W.Frag} {mg : Str → Option Value} {h : Heap} {f : Addr} {oc kV dc pm cd ct : Value} {od an : Option Addr} {sl : Array (Option Value)} (X : K.In h) (G : h.Ns mainGlobals mg) (a : PySem.W.nsIn K mainGlobals "_law_house" = some (some (.ref f))) (l : K.lookup f = some ⟨oc, od, .func (PySem.W.fnOf "_law_house" "_law_house" (defArgs s_l_house) (defBody s_l_house) (defScope s_l_house) .none kV dc pm an cd ct), sl⟩) (c : PySem.W.codeIn K cd "_law_house" = true) (k : PySem.W.keepIn K (.ref f) = true) : Df K mg "_law_house" "_law_house" s_l_house ["_law_purse_here", "_law_places"] [] :=
  ⟨f, _, fun_mk l c k, PySem.W.mg_of X G a, ((fun_mk l c k).binds fun _ _ _ _ _ _ us hl => match us, hl with | [_, _], _ => rfl), (fun _ h => nomatch h)⟩
theorem df_l_great_house {K : PySem.W.Frag} {mg : Str → Option Value} {h : Heap} {f : Addr} {oc kV dc pm cd ct : Value} {od an : Option Addr} {sl : Array (Option Value)} (X : K.In h) (G : h.Ns mainGlobals mg) (a : PySem.W.nsIn K mainGlobals "_law_great_house" = some (some (.ref f))) (l : K.lookup f = some ⟨oc, od, .func (PySem.W.fnOf "_law_great_house" "_law_great_house" (defArgs s_l_great_house) (defBody s_l_great_house) (defScope s_l_great_house) .none kV dc pm an cd ct), sl⟩) (c : PySem.W.codeIn K cd "_law_great_house" = true) (k : PySem.W.keepIn K (.ref f) = true) : Df K mg "_law_great_house" "_law_great_house" s_l_great_house ["_law_purse_here"] [] :=
  ⟨f, _, fun_mk l c k, PySem.W.mg_of X G a, ((fun_mk l c k).binds fun _ _ _ _ _ _ us hl => match us, hl with | [_], _ => rfl), (fun _ h => nomatch h)⟩
theorem df_l_made {K : PySem.W.Frag} {mg : Str → Option Value} {h : Heap} {f : Addr} {oc kV dc pm cd ct : Value} {od an : Option Addr} {sl : Array (Option Value)} (X : K.In h) (G : h.Ns mainGlobals mg) (a : PySem.W.nsIn K mainGlobals "_law_made" = some (some (.ref f))) (l : K.lookup f = some ⟨oc, od, .func (PySem.W.fnOf "_law_made" "_law_made" (defArgs s_l_made) (defBody s_l_made) (defScope s_l_made) .none kV dc pm an cd ct), sl⟩) (c : PySem.W.codeIn K cd "_law_made" = true) (k : PySem.W.keepIn K (.ref f) = true) : Df K mg "_law_made" "_law_made" s_l_made ["_law_house_here"] [] :=
  ⟨f, _, fun_mk l c k, PySem.W.mg_of X G a, ((fun_mk l c k).binds fun _ _ _ _ _ _ us hl => match us, hl with | [_], _ => rfl), (fun _ h => nomatch h)⟩
theorem df_l_told_of {K : PySem.W.Frag} {mg : Str → Option Value} {h : Heap} {f : Addr} {oc kV dc pm cd ct : Value} {od an : Option Addr} {sl : Array (Option Value)} (X : K.In h) (G : h.Ns mainGlobals mg) (a : PySem.W.nsIn K mainGlobals "_law_told_of" = some (some (.ref f))) (l : K.lookup f = some ⟨oc, od, .func (PySem.W.fnOf "_law_told_of" "_law_told_of" (defArgs s_l_told_of) (defBody s_l_told_of) (defScope s_l_told_of) .none kV dc pm an cd ct), sl⟩) (c : PySem.W.codeIn K cd "_law_told_of" = true) (k : PySem.W.keepIn K (.ref f) = true) : Df K mg "_law_told_of" "_law_told_of" s_l_told_of ["_law_made_here"] [] :=
  ⟨f, _, fun_mk l c k, PySem.W.mg_of X G a, ((fun_mk l c k).binds fun _ _ _ _ _ _ us hl => match us, hl with | [_], _ => rfl), (fun _ h => nomatch h)⟩
theorem df_l_two_right {K : PySem.W.Frag} {mg : Str → Option Value} {h : Heap} {f : Addr} {oc kV dc pm cd ct : Value} {od an : Option Addr} {sl : Array (Option Value)} (X : K.In h) (G : h.Ns mainGlobals mg) (a : PySem.W.nsIn K mainGlobals "_law_two_right" = some (some (.ref f))) (l : K.lookup f = some ⟨oc, od, .func (PySem.W.fnOf "_law_two_right" "_law_two_right" (defArgs s_l_two_right) (defBody s_l_two_right) (defScope s_l_two_right) .none kV dc pm an cd ct), sl⟩) (c : PySem.W.codeIn K cd "_law_two_right" = true) (k : PySem.W.keepIn K (.ref f) = true) : Df K mg "_law_two_right" "_law_two_right" s_l_two_right ["_law_purse_here", "_law_house_here"] [] :=
  ⟨f, _, fun_mk l c k, PySem.W.mg_of X G a, ((fun_mk l c k).binds fun _ _ _ _ _ _ us hl => match us, hl with | [_, _], _ => rfl), (fun _ h => nomatch h)⟩
theorem df_l_places_right {K : PySem.W.Frag} {mg : Str → Option Value} {h : Heap} {f : Addr} {oc kV dc pm cd ct : Value} {od an : Option Addr} {sl : Array (Option Value)} (X : K.In h) (G : h.Ns mainGlobals mg) (a : PySem.W.nsIn K mainGlobals "_law_places_right" = some (some (.ref f))) (l : K.lookup f = some ⟨oc, od, .func (PySem.W.fnOf "_law_places_right" "_law_places_right" (defArgs s_l_places_right) (defBody s_l_places_right) (defScope s_l_places_right) .none kV dc pm an cd ct), sl⟩) (c : PySem.W.codeIn K cd "_law_places_right" = true) (k : PySem.W.keepIn K (.ref f) = true) : Df K mg "_law_places_right" "_law_places_right" s_l_places_right ["_law_purse_here", "_law_house_here"] [] :=
  ⟨f, _, fun_mk l c k, PySem.W.mg_of X G a, ((fun_mk l c k).binds fun _ _ _ _ _ _ us hl => match us, hl with | [_, _], _ => rfl), (fun _ h => nomatch h)⟩
theorem df_l_behind_right {K : PySem.W.Frag} {mg : Str → Option Value} {h : Heap} {f : Addr} {oc kV dc pm cd ct : Value} {od an : Option Addr} {sl : Array (Option Value)} (X : K.In h) (G : h.Ns mainGlobals mg) (a : PySem.W.nsIn K mainGlobals "_law_behind_right" = some (some (.ref f))) (l : K.lookup f = some ⟨oc, od, .func (PySem.W.fnOf "_law_behind_right" "_law_behind_right" (defArgs s_l_behind_right) (defBody s_l_behind_right) (defScope s_l_behind_right) .none kV dc pm an cd ct), sl⟩) (c : PySem.W.codeIn K cd "_law_behind_right" = true) (k : PySem.W.keepIn K (.ref f) = true) : Df K mg "_law_behind_right" "_law_behind_right" s_l_behind_right ["_law_purse_here", "_law_house_here", "_law_other"] [] :=
  ⟨f, _, fun_mk l c k, PySem.W.mg_of X G a, ((fun_mk l c k).binds fun _ _ _ _ _ _ us hl => match us, hl with | [_, _, _], _ => rfl), (fun _ h => nomatch h)⟩
theorem df_law {K : PySem.W.Frag} {mg : Str → Option Value} {h : Heap} {f : Addr} {oc kV dc pm cd ct : Value} {od an : Option Addr} {sl : Array (Option Value)} (X : K.In h) (G : h.Ns mainGlobals mg) (a : PySem.W.nsIn K mainGlobals "law" = some (some (.ref f))) (l : K.lookup f = some ⟨oc, od, .func (PySem.W.fnOf "law" "law" (defArgs s_law) (defBody s_law) (defScope s_law) .none kV dc pm an cd ct), sl⟩) (c : PySem.W.codeIn K cd "law" = true) (k : PySem.W.keepIn K (.ref f) = true) : Df K mg "law" "law" s_law ["_law_script"] [] :=
  ⟨f, _, fun_mk l c k, PySem.W.mg_of X G a, ((fun_mk l c k).binds fun _ _ _ _ _ _ us hl => match us, hl with | [_], _ => rfl), (fun _ h => nomatch h)⟩
def bools (K : PySem.W.Frag) (C0 : Addr) : List Bool := [(PySem.W.nsIn K mainGlobals "isinstance" == some none), (PySem.W.nsIn K mainGlobals "int" == some none), (PySem.W.nsIn K mainGlobals "bool" == some none), (PySem.W.nsIn K mainGlobals "list" == some none), (PySem.W.nsIn K mainGlobals "all" == some none), (PySem.W.nsIn K mainGlobals "len" == some none), (PySem.W.nsIn K mainGlobals "zip" == some none), (PySem.W.nsIn K mainGlobals "min" == some none), (PySem.W.nsIn K mainGlobals "max" == some none), (PySem.W.nsIn K mainGlobals "sum" == some none), (PySem.W.nsIn K mainGlobals "range" == some none), (PySem.W.nsIn K mainGlobals "tuple" == some none), (PySem.W.nsIn K mainGlobals "dict" == some none), (PySem.W.nsIn K mainGlobals "enumerate" == some none), noList K, objOk K, [C0].all (clsOk K), [C0].all (fun C => PySem.W.kitOne K (.ref C) (.type "int") == some false), [C0].all (fun C => PySem.W.kitOne K (.ref C) (.type "bool") == some false), [C0].all (fun C => PySem.W.kitOne K (.ref C) (.type "list") == some false), [C0].all (fun C => PySem.W.kitOne K (.ref C) (.type "tuple") == some false), [C0].all (fun C => PySem.W.kitOne K (.ref C) (.type "dict") == some false), isClOk K [C0] 0 C0, (PySem.W.findIn K (.ref C0) "steps" == some none), (PySem.W.findIn K (.ref C0) "space" == some none)]
theorem lk_fin {K : PySem.W.Frag} {mg : Str → Option Value} {h : Heap} {C0 : Addr} (X : K.In h) (G : h.Ns mainGlobals mg) (n0 : PySem.W.nsIn K mainGlobals "House" = some (some (.ref C0))) (nd : [C0].Nodup) (b : (bools K C0).all id = true) (d_is_whole : Df K mg "is_whole" "is_whole" s_is_whole ["value"] []) (d_is_count : DfD K mg (tabOf [C0] flds nd) "is_count" "is_count" s_is_count ["value", "most"] [.non] []) (d_are_counts : Df K mg "are_counts" "are_counts" s_are_counts ["value"] []) (d_is_base : Df K mg "is_base" "is_base" s_is_base ["value"] []) (d_init_House : ClD K mg (tabOf [C0] flds nd) "House" 0 "House.__init__" s_init_House ["self", "bases", "rooms"] []) (d_m_House_bases : MtD K (tabOf [C0] flds nd) 0 "bases" "House.bases" s_m_House_bases ["self"]) (d_m_House_rooms : MtD K (tabOf [C0] flds nd) 0 "rooms" "House.rooms" s_m_House_rooms ["self"]) (d_m_House_places : MtD K (tabOf [C0] flds nd) 0 "places" "House.places" s_m_House_places ["self"]) (d_eq_House : EqDf K (tabOf [C0] flds nd) 0 "House.__eq__" s_eq_House ["self", "other"]) (d_check_house : Df K mg "check_house" "check_house" s_check_house ["value"] []) (d_check_place : Df K mg "check_place" "check_place" s_check_place ["house", "value"] []) (d_check_low_place : Df K mg "check_low_place" "check_low_place" s_check_low_place ["house", "value"] []) (d_weights_of : Df K mg "weights_of" "weights_of" s_weights_of ["house"] []) (d_sums_up_to : Df K mg "sums_up_to" "sums_up_to" s_sums_up_to ["house", "row"] []) (d_rows_in : Df K mg "rows_in" "rows_in" s_rows_in ["house"] []) (d_weights : Df K mg "weights" "weights" s_weights ["house"] []) (d_held_up_to : Df K mg "held_up_to" "held_up_to" s_held_up_to ["house"] []) (d_many_rows : Df K mg "many_rows" "many_rows" s_many_rows ["house"] []) (d_is_within : Df K mg "is_within" "is_within" s_is_within ["one", "other"] [⟨0, ["other", "one"], [1, 0]⟩]) (d_check_alike : Df K mg "check_alike" "check_alike" s_check_alike ["one", "other"] []) (d_lesser_house : Df K mg "lesser_house" "lesser_house" s_lesser_house ["one", "other"] [⟨0, ["other", "one"], [1, 0]⟩]) (d_greater_house : Df K mg "greater_house" "greater_house" s_greater_house ["one", "other"] [⟨0, ["other", "one"], [1, 0]⟩]) (d_roomed : Df K mg "roomed" "roomed" s_roomed ["house", "place", "room"] []) (d_with_room : Df K mg "with_room" "with_room" s_with_room ["house", "place", "room"] [⟨0, ["room", "place", "house"], [2, 1, 0]⟩]) (d_stretch : Df K mg "stretch" "stretch" s_stretch ["house", "first", "last"] [⟨0, ["last", "first", "house"], [2, 1, 0]⟩]) (d_set_behind : Df K mg "set_behind" "set_behind" s_set_behind ["one", "base", "other"] [⟨0, ["other", "base", "one"], [2, 1, 0]⟩]) (d_tightened : Df K mg "tightened" "tightened" s_tightened ["house", "place"] [⟨0, ["place", "house"], [1, 0]⟩]) (d_l_purse : Df K mg "_law_purse" "_law_purse" s_l_purse ["_law_script", "_law_at"] []) (d_l_mixed : Df K mg "_law_mixed" "_law_mixed" s_l_mixed ["_law_seed", "_law_spin", "_law_at"] []) (d_l_draw : Df K mg "_law_draw" "_law_draw" s_l_draw ["_law_purse_here", "_law_many"] []) (d_l_purses : Df K mg "_law_purses" "_law_purses" s_l_purses ["_law_script", "_law_few"] []) (d_l_one_of : Df K mg "_law_one_of" "_law_one_of" s_l_one_of ["_law_purse_here", "_law_some"] []) (d_l_exact : Df K mg "_law_exact" "_law_exact" s_l_exact ["_law_mine", "_law_theirs"] []) (d_l_weights : Df K mg "_law_weights" "_law_weights" s_l_weights ["_law_house_here"] []) (d_l_many_rows : Df K mg "_law_many_rows" "_law_many_rows" s_l_many_rows ["_law_house_here"] []) (d_l_house : Df K mg "_law_house" "_law_house" s_l_house ["_law_purse_here", "_law_places"] []) (d_l_great_house : Df K mg "_law_great_house" "_law_great_house" s_l_great_house ["_law_purse_here"] []) (d_l_made : Df K mg "_law_made" "_law_made" s_l_made ["_law_house_here"] []) (d_l_told_of : Df K mg "_law_told_of" "_law_told_of" s_l_told_of ["_law_made_here"] []) (d_l_two_right : Df K mg "_law_two_right" "_law_two_right" s_l_two_right ["_law_purse_here", "_law_house_here"] []) (d_l_places_right : Df K mg "_law_places_right" "_law_places_right" s_l_places_right ["_law_purse_here", "_law_house_here"] []) (d_l_behind_right : Df K mg "_law_behind_right" "_law_behind_right" s_l_behind_right ["_law_purse_here", "_law_house_here", "_law_other"] []) (d_law : Df K mg "law" "law" s_law ["_law_script"] []) : Lk K mg (tabOf [C0] flds nd) := by
  have hb : ∀ i x, (bools K C0)[i]? = some x → x = true := fun i x e => List.all_eq_true.mp b x (List.mem_of_getElem? e)
  have it : InsTy (tabOf [C0] flds nd) K := insTy_mk (hb 15 _ rfl) (hb 16 _ rfl)
  exact { n_isinstance := PySem.W.mg_none_of X G (eq_of_beq (hb 0 _ rfl)), n_int := PySem.W.mg_none_of X G (eq_of_beq (hb 1 _ rfl)), n_bool := PySem.W.mg_none_of X G (eq_of_beq (hb 2 _ rfl)), n_list := PySem.W.mg_none_of X G (eq_of_beq (hb 3 _ rfl)), n_all := PySem.W.mg_none_of X G (eq_of_beq (hb 4 _ rfl)), n_len := PySem.W.mg_none_of X G (eq_of_beq (hb 5 _ rfl)), n_zip := PySem.W.mg_none_of X G (eq_of_beq (hb 6 _ rfl)), n_min := PySem.W.mg_none_of X G (eq_of_beq (hb 7 _ rfl)), n_max := PySem.W.mg_none_of X G (eq_of_beq (hb 8 _ rfl)), n_sum := PySem.W.mg_none_of X G (eq_of_beq (hb 9 _ rfl)), n_range := PySem.W.mg_none_of X G (eq_of_beq (hb 10 _ rfl)), n_tuple := PySem.W.mg_none_of X G (eq_of_beq (hb 11 _ rfl)), n_dict := PySem.W.mg_none_of X G (eq_of_beq (hb 12 _ rfl)), n_enumerate := PySem.W.mg_none_of X G (eq_of_beq (hb 13 _ rfl)), is_int := isTy_mk it (by decide +kernel) (hb 17 _ rfl), is_bool := isTy_mk it (by decide +kernel) (hb 18 _ rfl), is_list := isTy_mk it (by decide +kernel) (hb 19 _ rfl), is_tuple := isTy_mk it (by decide +kernel) (hb 20 _ rfl), is_dict := isTy_mk it (by decide +kernel) (hb 21 _ rfl), ic_House := isC_mk it (PySem.W.mg_of X G n0) rfl (hb 22 _ rfl), fl_0_0 := fld_mk it (C := C0) rfl rfl (by decide) (hb 23 _ rfl), fl_0_1 := fld_mk it (C := C0) rfl rfl (by decide) (hb 24 _ rfl), ln_0 := (by show ((K04.flds).getD 0 []).length < 1000; decide), it := it, d_is_whole := d_is_whole, d_is_count := d_is_count, d_are_counts := d_are_counts, d_is_base := d_is_base, d_init_House := d_init_House, d_m_House_bases := d_m_House_bases, d_m_House_rooms := d_m_House_rooms, d_m_House_places := d_m_House_places, d_eq_House := d_eq_House, d_check_house := d_check_house, d_check_place := d_check_place, d_check_low_place := d_check_low_place, d_weights_of := d_weights_of, d_sums_up_to := d_sums_up_to, d_rows_in := d_rows_in, d_weights := d_weights, d_held_up_to := d_held_up_to, d_many_rows := d_many_rows, d_is_within := d_is_within, d_check_alike := d_check_alike, d_lesser_house := d_lesser_house, d_greater_house := d_greater_house, d_roomed := d_roomed, d_with_room := d_with_room, d_stretch := d_stretch, d_set_behind := d_set_behind, d_tightened := d_tightened, d_l_purse := d_l_purse, d_l_mixed := d_l_mixed, d_l_draw := d_l_draw, d_l_purses := d_l_purses, d_l_one_of := d_l_one_of, d_l_exact := d_l_exact, d_l_weights := d_l_weights, d_l_many_rows := d_l_many_rows, d_l_house := d_l_house, d_l_great_house := d_l_great_house, d_l_made := d_l_made, d_l_told_of := d_l_told_of, d_l_two_right := d_l_two_right, d_l_places_right := d_l_places_right, d_l_behind_right := d_l_behind_right, d_law := d_law }
theorem nl_fin {K : PySem.W.Frag} {C0 : Addr} (b : (bools K C0).all id = true) : noList K = true := List.all_eq_true.mp b _ (List.mem_of_getElem? (i := 14) rfl)
theorem fin {K : PySem.W.Frag} {mg : Str → Option Value} {h : Heap} {w : World} {C0 : Addr} (X : K.In h) (G : h.Ns mainGlobals mg) (n0 : PySem.W.nsIn K mainGlobals "House" = some (some (.ref C0))) (nd : [C0].Nodup) (b : (bools K C0).all id = true) (d_is_whole : Df K mg "is_whole" "is_whole" s_is_whole ["value"] []) (d_is_count : DfD K mg (tabOf [C0] flds nd) "is_count" "is_count" s_is_count ["value", "most"] [.non] []) (d_are_counts : Df K mg "are_counts" "are_counts" s_are_counts ["value"] []) (d_is_base : Df K mg "is_base" "is_base" s_is_base ["value"] []) (d_init_House : ClD K mg (tabOf [C0] flds nd) "House" 0 "House.__init__" s_init_House ["self", "bases", "rooms"] []) (d_m_House_bases : MtD K (tabOf [C0] flds nd) 0 "bases" "House.bases" s_m_House_bases ["self"]) (d_m_House_rooms : MtD K (tabOf [C0] flds nd) 0 "rooms" "House.rooms" s_m_House_rooms ["self"]) (d_m_House_places : MtD K (tabOf [C0] flds nd) 0 "places" "House.places" s_m_House_places ["self"]) (d_eq_House : EqDf K (tabOf [C0] flds nd) 0 "House.__eq__" s_eq_House ["self", "other"]) (d_check_house : Df K mg "check_house" "check_house" s_check_house ["value"] []) (d_check_place : Df K mg "check_place" "check_place" s_check_place ["house", "value"] []) (d_check_low_place : Df K mg "check_low_place" "check_low_place" s_check_low_place ["house", "value"] []) (d_weights_of : Df K mg "weights_of" "weights_of" s_weights_of ["house"] []) (d_sums_up_to : Df K mg "sums_up_to" "sums_up_to" s_sums_up_to ["house", "row"] []) (d_rows_in : Df K mg "rows_in" "rows_in" s_rows_in ["house"] []) (d_weights : Df K mg "weights" "weights" s_weights ["house"] []) (d_held_up_to : Df K mg "held_up_to" "held_up_to" s_held_up_to ["house"] []) (d_many_rows : Df K mg "many_rows" "many_rows" s_many_rows ["house"] []) (d_is_within : Df K mg "is_within" "is_within" s_is_within ["one", "other"] [⟨0, ["other", "one"], [1, 0]⟩]) (d_check_alike : Df K mg "check_alike" "check_alike" s_check_alike ["one", "other"] []) (d_lesser_house : Df K mg "lesser_house" "lesser_house" s_lesser_house ["one", "other"] [⟨0, ["other", "one"], [1, 0]⟩]) (d_greater_house : Df K mg "greater_house" "greater_house" s_greater_house ["one", "other"] [⟨0, ["other", "one"], [1, 0]⟩]) (d_roomed : Df K mg "roomed" "roomed" s_roomed ["house", "place", "room"] []) (d_with_room : Df K mg "with_room" "with_room" s_with_room ["house", "place", "room"] [⟨0, ["room", "place", "house"], [2, 1, 0]⟩]) (d_stretch : Df K mg "stretch" "stretch" s_stretch ["house", "first", "last"] [⟨0, ["last", "first", "house"], [2, 1, 0]⟩]) (d_set_behind : Df K mg "set_behind" "set_behind" s_set_behind ["one", "base", "other"] [⟨0, ["other", "base", "one"], [2, 1, 0]⟩]) (d_tightened : Df K mg "tightened" "tightened" s_tightened ["house", "place"] [⟨0, ["place", "house"], [1, 0]⟩]) (d_l_purse : Df K mg "_law_purse" "_law_purse" s_l_purse ["_law_script", "_law_at"] []) (d_l_mixed : Df K mg "_law_mixed" "_law_mixed" s_l_mixed ["_law_seed", "_law_spin", "_law_at"] []) (d_l_draw : Df K mg "_law_draw" "_law_draw" s_l_draw ["_law_purse_here", "_law_many"] []) (d_l_purses : Df K mg "_law_purses" "_law_purses" s_l_purses ["_law_script", "_law_few"] []) (d_l_one_of : Df K mg "_law_one_of" "_law_one_of" s_l_one_of ["_law_purse_here", "_law_some"] []) (d_l_exact : Df K mg "_law_exact" "_law_exact" s_l_exact ["_law_mine", "_law_theirs"] []) (d_l_weights : Df K mg "_law_weights" "_law_weights" s_l_weights ["_law_house_here"] []) (d_l_many_rows : Df K mg "_law_many_rows" "_law_many_rows" s_l_many_rows ["_law_house_here"] []) (d_l_house : Df K mg "_law_house" "_law_house" s_l_house ["_law_purse_here", "_law_places"] []) (d_l_great_house : Df K mg "_law_great_house" "_law_great_house" s_l_great_house ["_law_purse_here"] []) (d_l_made : Df K mg "_law_made" "_law_made" s_l_made ["_law_house_here"] []) (d_l_told_of : Df K mg "_law_told_of" "_law_told_of" s_l_told_of ["_law_made_here"] []) (d_l_two_right : Df K mg "_law_two_right" "_law_two_right" s_l_two_right ["_law_purse_here", "_law_house_here"] []) (d_l_places_right : Df K mg "_law_places_right" "_law_places_right" s_l_places_right ["_law_purse_here", "_law_house_here"] []) (d_l_behind_right : Df K mg "_law_behind_right" "_law_behind_right" s_l_behind_right ["_law_purse_here", "_law_house_here", "_law_other"] []) (d_law : Df K mg "law" "law" s_law ["_law_script"] []) {fa : Addr} (hfa : mg "law" = some (.ref fa)) (hq : ∀ ns : List Int, ns.length ≤ 63 → ∃ n' w, q_law [.scr ns] 0 = .ok (.bl true) n' w) :
    ∃ (K : PySem.W.Frag) (fd : FuncData) (sp : Sp), K.In h ∧ (∀ (s : Shared) (u : Value), BindsTo s fd ⟨[u], []⟩ [("_law_script", u)]) ∧
      (∀ (H : Hp) (a : Addr) (ns : List Int), ns.length ≤ 63 → Only H → SqL K H a (ns.map V.int) → sp [.ref a] H (fun v _ => v = .bl true) fun _ _ _ => False) ∧
      ∀ base : Heap, K.In base → base.Ns mainGlobals mg → FnOk PySem.Challenge.rw_carryways_k04_whole_houses_made_of_house.prog w K mg base CX0 12 fa fd ["_law_script"] sp := by
  have L : Lk K mg (tabOf [C0] flds nd) := lk_fin X G n0 nd b d_is_whole d_is_count d_are_counts d_is_base d_init_House d_m_House_bases d_m_House_rooms d_m_House_places d_eq_House d_check_house d_check_place d_check_low_place d_weights_of d_sums_up_to d_rows_in d_weights d_held_up_to d_many_rows d_is_within d_check_alike d_lesser_house d_greater_house d_roomed d_with_room d_stretch d_set_behind d_tightened d_l_purse d_l_mixed d_l_draw d_l_purses d_l_one_of d_l_exact d_l_weights d_l_many_rows d_l_house d_l_great_house d_l_made d_l_told_of d_l_two_right d_l_places_right d_l_behind_right d_law
  obtain ⟨a1, fd1, hF1, e1, F1⟩ := k_law (P := PySem.Challenge.rw_carryways_k04_whole_houses_made_of_house.prog) (w := w) L
  have e := hfa.symm.trans e1
  cases e
  refine ⟨K, fd1, _, X, fun s u => ?_, hsp_of (nl_fin b) hq, fun base _ _ => F1 base⟩
  obtain ⟨oc, od, kV, doc, pm, an, cdv, ct, osl, rfl, lk, hcd⟩ := hF1.ex
  exact .of_eq rfl
theorem nd_of {K : PySem.W.Frag} {C0 : Addr} (n0 : PySem.W.nsIn K mainGlobals "House" = some (some (.ref C0))) (d : decide ([C0].Nodup) = true) : [C0].Nodup := of_decide_eq_true d
theorem cb_of0 {K : PySem.W.Frag} {C : Addr} (n : PySem.W.nsIn K mainGlobals "House" = some (some (.ref C))) (d : clsOk K C = true) : clsOk K C = true := d
end K04
end
set_option Elab.async false
set_option linter.all false
set_option maxRecDepth 100000
open PySem PySem.W PyProof.Rows
set_option maxHeartbeats 0 in
theorem PySem.Challenge.cw_carryways_k04_whole_houses_made_of_house_holds : PySem.Challenge.rw_carryways_k04_whole_houses_made_of_house.Holds := by
  w_on; o_law; k_head; (case hw => w_witness2)
  k_fill
  refine L2.walk_ofE (l := PySem.Challenge.rw_carryways_k04_whole_houses_made_of_house) (n := 63) (k := 12) (CX := L2.CX0) (x := "_law_script") rfl (by decide) rfl ⟨rfl, by decide, by decide⟩ ?F (fun _ _ _ _ h => h)
  case F =>
    intro w mg fa h Y G hmg
    have KX := PySem.W.kIn_of Y
    refine' Sx.with_cls KX "House" ?n ?r; (case n => k_is)
    case r =>
    intro n0
    refine' Sx.then_ (K04.nd_of n0 ?a) ?r; (case a => decide)
    case r =>
    intro nd
    refine' Sx.then_ (K04.cb_of0 n0 ?a) ?r; (case a => kernel_rfl)
    case r =>
    intro b0
    refine' Sx.then_ (K04.df_is_whole KX G ?a ?l ?c ?k) ?r; (case a => k_is); (case l => k_is); (case c => k_is); (case k => k_is);
    case r =>
    intro d_is_whole
    refine' Sx.then_ (K04.df_is_count KX G ?a ?l ?l2 ?c ?k) ?r; (case a => k_is); (case l => k_is); (case l2 => k_is); (case c => k_is); (case k => k_is);
    case r =>
    intro d_is_count
    refine' Sx.then_ (K04.df_are_counts KX G ?a ?l ?c ?k) ?r; (case a => k_is); (case l => k_is); (case c => k_is); (case k => k_is);
    case r =>
    intro d_are_counts
    refine' Sx.then_ (K04.df_is_base KX G ?a ?l ?c ?k) ?r; (case a => k_is); (case l => k_is); (case c => k_is); (case k => k_is);
    case r =>
    intro d_is_base
    refine' Sx.then_ (K04.df_init_House KX G n0 nd ?mk ?a ?i ?kc ?l ?c ?k) ?r; (case mk => k_is); (case a => k_is); (case i => k_is); (case kc => k_is); (case l => k_is); (case c => k_is); (case k => k_is);
    case r =>
    intro d_init_House
    refine' Sx.then_ (K04.df_m_House_bases n0 nd b0 ?a ?i ?l ?c ?k) ?r; (case a => k_is); (case i => k_is); (case l => k_is); (case c => k_is); (case k => k_is);
    case r =>
    intro d_m_House_bases
    refine' Sx.then_ (K04.df_m_House_rooms n0 nd b0 ?a ?i ?l ?c ?k) ?r; (case a => k_is); (case i => k_is); (case l => k_is); (case c => k_is); (case k => k_is);
    case r =>
    intro d_m_House_rooms
    refine' Sx.then_ (K04.df_m_House_places n0 nd b0 ?a ?i ?l ?c ?k) ?r; (case a => k_is); (case i => k_is); (case l => k_is); (case c => k_is); (case k => k_is);
    case r =>
    intro d_m_House_places
    refine' Sx.then_ (K04.df_eq_House n0 nd ?a ?i ?l ?c ?k ?b) ?r; (case a => k_is); (case i => k_is); (case l => k_is); (case c => k_is); (case k => k_is); (case b => kernel_rfl);
    case r =>
    intro d_eq_House
    refine' Sx.then_ (K04.df_check_house KX G ?a ?l ?c ?k) ?r; (case a => k_is); (case l => k_is); (case c => k_is); (case k => k_is);
    case r =>
    intro d_check_house
    refine' Sx.then_ (K04.df_check_place KX G ?a ?l ?c ?k) ?r; (case a => k_is); (case l => k_is); (case c => k_is); (case k => k_is);
    case r =>
    intro d_check_place
    refine' Sx.then_ (K04.df_check_low_place KX G ?a ?l ?c ?k) ?r; (case a => k_is); (case l => k_is); (case c => k_is); (case k => k_is);
    case r =>
    intro d_check_low_place
    refine' Sx.then_ (K04.df_weights_of KX G ?a ?l ?c ?k) ?r; (case a => k_is); (case l => k_is); (case c => k_is); (case k => k_is);
    case r =>
    intro d_weights_of
    refine' Sx.then_ (K04.df_sums_up_to KX G ?a ?l ?c ?k) ?r; (case a => k_is); (case l => k_is); (case c => k_is); (case k => k_is);
    case r =>
    intro d_sums_up_to
    refine' Sx.then_ (K04.df_rows_in KX G ?a ?l ?c ?k) ?r; (case a => k_is); (case l => k_is); (case c => k_is); (case k => k_is);
    case r =>
    intro d_rows_in
    refine' Sx.then_ (K04.df_weights KX G ?a ?l ?c ?k) ?r; (case a => k_is); (case l => k_is); (case c => k_is); (case k => k_is);
    case r =>
    intro d_weights
    refine' Sx.then_ (K04.df_held_up_to KX G ?a ?l ?c ?k) ?r; (case a => k_is); (case l => k_is); (case c => k_is); (case k => k_is);
    case r =>
    intro d_held_up_to
    refine' Sx.then_ (K04.df_many_rows KX G ?a ?l ?c ?k) ?r; (case a => k_is); (case l => k_is); (case c => k_is); (case k => k_is);
    case r =>
    intro d_many_rows
    refine' Sx.then_ (K04.df_is_within KX G ?a ?l ?c ?k) ?r; (case a => k_is); (case l => k_is); (case c => k_is); (case k => k_is);
    case r =>
    intro d_is_within
    refine' Sx.then_ (K04.df_check_alike KX G ?a ?l ?c ?k) ?r; (case a => k_is); (case l => k_is); (case c => k_is); (case k => k_is);
    case r =>
    intro d_check_alike
    refine' Sx.then_ (K04.df_lesser_house KX G ?a ?l ?c ?k) ?r; (case a => k_is); (case l => k_is); (case c => k_is); (case k => k_is);
    case r =>
    intro d_lesser_house
    refine' Sx.then_ (K04.df_greater_house KX G ?a ?l ?c ?k) ?r; (case a => k_is); (case l => k_is); (case c => k_is); (case k => k_is);
    case r =>
    intro d_greater_house
    refine' Sx.then_ (K04.df_roomed KX G ?a ?l ?c ?k) ?r; (case a => k_is); (case l => k_is); (case c => k_is); (case k => k_is);
    case r =>
    intro d_roomed
    refine' Sx.then_ (K04.df_with_room KX G ?a ?l ?c ?k) ?r; (case a => k_is); (case l => k_is); (case c => k_is); (case k => k_is);
    case r =>
    intro d_with_room
    refine' Sx.then_ (K04.df_stretch KX G ?a ?l ?c ?k) ?r; (case a => k_is); (case l => k_is); (case c => k_is); (case k => k_is);
    case r =>
    intro d_stretch
    refine' Sx.then_ (K04.df_set_behind KX G ?a ?l ?c ?k) ?r; (case a => k_is); (case l => k_is); (case c => k_is); (case k => k_is);
    case r =>
    intro d_set_behind
    refine' Sx.then_ (K04.df_tightened KX G ?a ?l ?c ?k) ?r; (case a => k_is); (case l => k_is); (case c => k_is); (case k => k_is);
    case r =>
    intro d_tightened
    refine' Sx.then_ (K04.df_l_purse KX G ?a ?l ?c ?k) ?r; (case a => k_is); (case l => k_is); (case c => k_is); (case k => k_is);
    case r =>
    intro d_l_purse
    refine' Sx.then_ (K04.df_l_mixed KX G ?a ?l ?c ?k) ?r; (case a => k_is); (case l => k_is); (case c => k_is); (case k => k_is);
    case r =>
    intro d_l_mixed
    refine' Sx.then_ (K04.df_l_draw KX G ?a ?l ?c ?k) ?r; (case a => k_is); (case l => k_is); (case c => k_is); (case k => k_is);
    case r =>
    intro d_l_draw
    refine' Sx.then_ (K04.df_l_purses KX G ?a ?l ?c ?k) ?r; (case a => k_is); (case l => k_is); (case c => k_is); (case k => k_is);
    case r =>
    intro d_l_purses
    refine' Sx.then_ (K04.df_l_one_of KX G ?a ?l ?c ?k) ?r; (case a => k_is); (case l => k_is); (case c => k_is); (case k => k_is);
    case r =>
    intro d_l_one_of
    refine' Sx.then_ (K04.df_l_exact KX G ?a ?l ?c ?k) ?r; (case a => k_is); (case l => k_is); (case c => k_is); (case k => k_is);
    case r =>
    intro d_l_exact
    refine' Sx.then_ (K04.df_l_weights KX G ?a ?l ?c ?k) ?r; (case a => k_is); (case l => k_is); (case c => k_is); (case k => k_is);
    case r =>
    intro d_l_weights
    refine' Sx.then_ (K04.df_l_many_rows KX G ?a ?l ?c ?k) ?r; (case a => k_is); (case l => k_is); (case c => k_is); (case k => k_is);
    case r =>
    intro d_l_many_rows
    refine' Sx.then_ (K04.df_l_house KX G ?a ?l ?c ?k) ?r; (case a => k_is); (case l => k_is); (case c => k_is); (case k => k_is);
    case r =>
    intro d_l_house
    refine' Sx.then_ (K04.df_l_great_house KX G ?a ?l ?c ?k) ?r; (case a => k_is); (case l => k_is); (case c => k_is); (case k => k_is);
    case r =>
    intro d_l_great_house
    refine' Sx.then_ (K04.df_l_made KX G ?a ?l ?c ?k) ?r; (case a => k_is); (case l => k_is); (case c => k_is); (case k => k_is);
    case r =>
    intro d_l_made
    refine' Sx.then_ (K04.df_l_told_of KX G ?a ?l ?c ?k) ?r; (case a => k_is); (case l => k_is); (case c => k_is); (case k => k_is);
    case r =>
    intro d_l_told_of
    refine' Sx.then_ (K04.df_l_two_right KX G ?a ?l ?c ?k) ?r; (case a => k_is); (case l => k_is); (case c => k_is); (case k => k_is);
    case r =>
    intro d_l_two_right
    refine' Sx.then_ (K04.df_l_places_right KX G ?a ?l ?c ?k) ?r; (case a => k_is); (case l => k_is); (case c => k_is); (case k => k_is);
    case r =>
    intro d_l_places_right
    refine' Sx.then_ (K04.df_l_behind_right KX G ?a ?l ?c ?k) ?r; (case a => k_is); (case l => k_is); (case c => k_is); (case k => k_is);
    case r =>
    intro d_l_behind_right
    refine' Sx.then_ (K04.df_law KX G ?a ?l ?c ?k) ?r; (case a => k_is); (case l => k_is); (case c => k_is); (case k => k_is);
    case r =>
    intro d_law
    refine K04.fin KX G n0 nd ?b d_is_whole d_is_count d_are_counts d_is_base d_init_House d_m_House_bases d_m_House_rooms d_m_House_places d_eq_House d_check_house d_check_place d_check_low_place d_weights_of d_sums_up_to d_rows_in d_weights d_held_up_to d_many_rows d_is_within d_check_alike d_lesser_house d_greater_house d_roomed d_with_room d_stretch d_set_behind d_tightened d_l_purse d_l_mixed d_l_draw d_l_purses d_l_one_of d_l_exact d_l_weights d_l_many_rows d_l_house d_l_great_house d_l_made d_l_told_of d_l_two_right d_l_places_right d_l_behind_right d_law hmg K04.v_law
    case b => kernel_rfl
