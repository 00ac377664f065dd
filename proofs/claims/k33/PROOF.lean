import PyProof.Rows.All
import Wide.All
import OpenK.AllK
import Wide.FinOn
import HandS.Base
import HandS.Call
import HandS.List
import HandS.Comp
import HandS.Ends
import HandS.Dict
import HandS.Iter
import HandS.More
import HandS.Words
import HandS.WordsList
import HandS.WordsDict
import HandS.Defaults
import HandS.TupAny
import HandS.SortInts
import HandS.IsInst
import HandS.DictComp
import HandS.Style
import HandS.WordsExc
import HandS.Head0
import HandS.Head1
import HandS.Head2
import HandS.HeadEnd
import HandS.HeadHook1
import HandS.HeadHook2
import PySem.Challenge.RW_espalier_k33_whole_plans_of_old_paths
import HandS.EndOwn
set_option Elab.async false
set_option linter.all false
set_option maxRecDepth 100000
set_option maxHeartbeats 0
/-! D-logic, part 1: data, what shows data in a heap, states. -/
namespace Esp
open PySem L2 PyProof.Rows PySem.Spec

/-- Python data of this program -/
inductive D where
  | non | bl (b : Bool) | int (i : Int) | str (s : Str)
  | tup (l : List D) | lst (l : List D) | dct (l : List (Int × D)) | scr (l : List Int)

/-! ### tables: ints to anything -/
section
variable {α β : Type}
def look (l : List (Int × α)) (k : Int) : Option α := (l.find? fun p => decide (p.1 = k)).map (·.2)
def put (l : List (Int × α)) (k : Int) (v : α) : List (Int × α) :=
  if (l.any fun p => decide (p.1 = k)) = true then l.map (fun p => if p.1 = k then (p.1, v) else p) else l ++ [(k, v)]
def drop (l : List (Int × α)) (k : Int) : List (Int × α) := l.filter fun p => decide (p.1 ≠ k)
theorem look_nil {k : Int} : look ([] : List (Int × α)) k = none := rfl
theorem look_pos {p : Int × α} {r : List (Int × α)} {k : Int} (e : p.1 = k) : look (p :: r) k = some p.2 := by simp [look, List.find?_cons, e]
theorem look_neg {p : Int × α} {r : List (Int × α)} {k : Int} (e : ¬ p.1 = k) : look (p :: r) k = look r k := by simp [look, List.find?_cons, e]
theorem look_cons {p : Int × α} {r : List (Int × α)} {k : Int} : look (p :: r) k = if p.1 = k then some p.2 else look r k := by
  by_cases e : p.1 = k
  · rw [if_pos e, look_pos e]
  · rw [if_neg e, look_neg e]
theorem look_any (k : Int) : ∀ l : List (Int × α), (l.any fun p => decide (p.1 = k)) = (look l k).isSome
  | [] => rfl
  | p :: r => by
    rw [List.any_cons]
    by_cases e : p.1 = k
    · simp only [look_pos e, decide_eq_true e, Bool.true_or, Option.isSome_some]
    · rw [look_neg e, decide_eq_false e, Bool.false_or]; exact look_any k r
theorem look_map (k j : Int) (y : α) : ∀ l : List (Int × α), look (l.map fun p => if p.1 = k then (p.1, y) else p) j = (look l j).map fun x => if j = k then y else x
  | [] => rfl
  | p :: r => by
    have ih := look_map k j y r
    rw [List.map_cons]
    by_cases h : p.1 = k
    · rw [if_pos h]
      by_cases e : p.1 = j
      · rw [look_pos (p := (p.1, y)) e, look_pos e, Option.map_some, if_pos (e.symm.trans h)]
      · rw [look_neg (p := (p.1, y)) e, look_neg e, ih]
    · rw [if_neg h]
      by_cases e : p.1 = j
      · rw [look_pos (p := p) e, look_pos e, Option.map_some, if_neg (fun z => h (e.trans z))]
      · rw [look_neg (p := p) e, look_neg e, ih]
theorem look_append {l r : List (Int × α)} {k : Int} : look (l ++ r) k = (look l k).or (look r k) := by
  induction l with
  | nil => rfl
  | cons p t ih =>
    rw [List.cons_append, look_cons, look_cons, ih]
    by_cases e : p.1 = k
    · rw [if_pos e, if_pos e]; rfl
    · rw [if_neg e, if_neg e]
theorem look_put (l : List (Int × α)) (k j : Int) (y : α) : look (put l k y) j = if j = k then some y else look l j := by
  unfold put
  rw [look_any]
  cases h : look l k with
  | some x =>
    rw [if_pos (by rfl), look_map]
    by_cases e : j = k
    · subst e; rw [h, if_pos rfl]; simp
    · rw [if_neg e]
      cases look l j with
      | none => rfl
      | some z => simp [e]
  | none =>
    rw [if_neg (by simp), look_append, look_cons, look_nil]
    by_cases e : j = k
    · subst e; rw [h]; simp
    · rw [if_neg e, if_neg (fun z => e z.symm)]; simp
theorem look_drop (l : List (Int × α)) (k j : Int) : look (drop l k) j = if j = k then none else look l j := by
  induction l with
  | nil => by_cases e : j = k <;> simp [drop, look, e]
  | cons p r ih =>
    unfold drop at ih ⊢
    rw [List.filter_cons]
    by_cases h : p.1 = k
    · rw [if_neg (by simp [h]), ih, look_cons]
      by_cases e : j = k
      · rw [if_pos e, if_pos e]
      · rw [if_neg e, if_neg e, if_neg (fun z => e (z.symm.trans h))]
    · rw [if_pos (by simp [h]), look_cons, look_cons, ih]
      by_cases e : p.1 = j
      · rw [if_pos e, if_pos e, if_neg (fun z => h (e.trans z))]
      · rw [if_neg e, if_neg e]
def mapV (f : α → β) (l : List (Int × α)) : List (Int × β) := l.map fun p => (p.1, f p.2)
theorem look_mapV (f : α → β) (l : List (Int × α)) (k : Int) : look (mapV f l) k = (look l k).map f := by
  induction l with
  | nil => rfl
  | cons p r ih =>
    show look ((p.1, f p.2) :: mapV f r) k = _
    rw [look_cons, look_cons, ih]
    by_cases e : p.1 = k
    · rw [if_pos e, if_pos e]; rfl
    · rw [if_neg e, if_neg e]
theorem put_mapV (f : α → β) (l : List (Int × α)) (k : Int) (v : α) : put (mapV f l) k (f v) = mapV f (put l k v) := by
  unfold put
  rw [look_any, look_any, look_mapV, Option.isSome_map]
  by_cases h : (look l k).isSome = true
  · rw [if_pos h, if_pos h]
    unfold mapV
    rw [List.map_map, List.map_map]
    refine List.map_congr_left fun p _ => ?_
    show (if p.1 = k then _ else _) = (let q := (if p.1 = k then (p.1, v) else p); (q.1, f q.2))
    by_cases e : p.1 = k
    · rw [if_pos e, if_pos e]
    · rw [if_neg e, if_neg e]
  · rw [if_neg h, if_neg h]
    unfold mapV
    rw [List.map_append]
    rfl
theorem drop_mapV (f : α → β) (l : List (Int × α)) (k : Int) : drop (mapV f l) k = mapV f (drop l k) := by
  unfold drop mapV
  rw [List.filter_map]
  rfl
end

/-! ### what shows data -/
mutual
inductive Rep (K : PySem.W.Frag) (H : Hp) : D → V → Prop
  | non : Rep K H .non .non
  | bl (b : Bool) : Rep K H (.bl b) (.bl b)
  | int (i : Int) : Rep K H (.int i) (.int i)
  | str (s : Str) : Rep K H (.str s) (.str s)
  | tup {p : Addr} {xs : List V} {l : List D} : SqT K H p xs → RepL K H l xs → Rep K H (.tup l) (.ref p)
  | lst {p : Addr} {xs : List V} {l : List D} : H p = some (.lst xs) → RepL K H l xs → Rep K H (.lst l) (.ref p)
  | scr {p : Addr} {l : List Int} : SqL K H p (l.map V.int) → Rep K H (.scr l) (.ref p)
  | dct {p : Addr} {kvs : List (Key × V)} {l : List (Int × D)} : H p = some (.dK kvs) → RepK K H l kvs → Rep K H (.dct l) (.ref p)
inductive RepL (K : PySem.W.Frag) (H : Hp) : List D → List V → Prop
  | nil : RepL K H [] []
  | cons {d : D} {v : V} {ds : List D} {vs : List V} : Rep K H d v → RepL K H ds vs → RepL K H (d :: ds) (v :: vs)
inductive RepK (K : PySem.W.Frag) (H : Hp) : List (Int × D) → List (Key × V) → Prop
  | nil : RepK K H [] []
  | cons {k : Int} {d : D} {v : V} {r : List (Int × D)} {q : List (Key × V)} : Rep K H d v → RepK K H r q → RepK K H ((k, d) :: r) ((Sum.inl k, v) :: q)
end

/-- all that was tracked is as it was -/
abbrev Ex (H H' : Hp) : Prop := Same H H'
theorem Ex.new {B : Hp} {p : Addr} {o : HO} (h : B p = none) : Ex B (upd B p o) := fun a u e => by
  rw [upd_ne (ne_of_none e h)]
  exact e
theorem ex_rd {B B' : Hp} {a : Addr} {u : HO} (e : Ex B B') (h : Rd B a u) : Rd B' a u := by
  rcases h with h | ⟨o, h⟩
  · exact Or.inl (e a _ h)
  · exact Or.inr ⟨o, e a _ h⟩
theorem ex_l {K : PySem.W.Frag} {H H' : Hp} {a : Addr} {xs : List V} (e : Ex H H') (h : SqL K H a xs) : SqL K H' a xs := h.imp (ex_rd e) id
theorem ex_t {K : PySem.W.Frag} {H H' : Hp} {a : Addr} {xs : List V} (e : Ex H H') (h : SqT K H a xs) : SqT K H' a xs := h.imp (ex_rd e) id
theorem sl_of {K : PySem.W.Frag} {H : Hp} {a : Addr} {xs : List V} (h : H a = some (.lst xs)) : SqL K H a xs := Or.inl (Or.inl h)
theorem st_of {K : PySem.W.Frag} {B : Hp} {a : Addr} {xs : List V} (h : B a = some (.tup xs)) : SqT K B a xs := Or.inl (Or.inl h)

section
variable {K : PySem.W.Frag} {H H' : Hp}
mutual
theorem Rep.mono (e : Ex H H') : ∀ {d : D} {v : V}, Rep K H d v → Rep K H' d v
  | _, _, .non => .non
  | _, _, .bl b => .bl b
  | _, _, .int i => .int i
  | _, _, .str s => .str s
  | _, _, .tup h r => .tup (ex_t e h) (RepL.mono e r)
  | _, _, .lst h r => .lst (e _ _ h) (RepL.mono e r)
  | _, _, .scr h => .scr (ex_l e h)
  | _, _, .dct h r => .dct (e _ _ h) (RepK.mono e r)
theorem RepL.mono (e : Ex H H') : ∀ {d : List D} {v : List V}, RepL K H d v → RepL K H' d v
  | _, _, .nil => .nil
  | _, _, .cons h r => .cons (Rep.mono e h) (RepL.mono e r)
theorem RepK.mono (e : Ex H H') : ∀ {d : List (Int × D)} {v : List (Key × V)}, RepK K H d v → RepK K H' d v
  | _, _, .nil => .nil
  | _, _, .cons h r => .cons (Rep.mono e h) (RepK.mono e r)
end

theorem RepL.length {l : List D} {xs : List V} (r : RepL K H l xs) : xs.length = l.length := by
  induction l generalizing xs with
  | nil => cases r; rfl
  | cons d l ih => cases r with | cons a b => rw [List.length_cons, List.length_cons, ih b]
theorem RepL.get {l : List D} {xs : List V} (r : RepL K H l xs) {i : Nat} {d : D} (h : l[i]? = some d) : ∃ v, xs[i]? = some v ∧ Rep K H d v := by
  induction l generalizing xs i with
  | nil => simp at h
  | cons a l ih =>
    cases r with
    | cons p q =>
      cases i with
      | zero => simp at h; subst h; exact ⟨_, rfl, p⟩
      | succ i => simpa using ih q (i := i) (by simpa using h)
theorem RepL.get' {l : List D} {xs : List V} (r : RepL K H l xs) {i : Nat} {v : V} (h : xs[i]? = some v) : ∃ d, l[i]? = some d ∧ Rep K H d v := by
  have hi : i < xs.length := (List.getElem?_eq_some_iff.mp h).1
  rw [r.length] at hi
  obtain ⟨w, h1, h2⟩ := r.get (List.getElem?_eq_getElem hi)
  rw [h] at h1
  cases h1
  exact ⟨_, List.getElem?_eq_getElem hi, h2⟩
theorem RepL.append {l m : List D} {xs ys : List V} (r : RepL K H l xs) (s : RepL K H m ys) : RepL K H (l ++ m) (xs ++ ys) := by
  induction l generalizing xs with
  | nil => cases r; exact s
  | cons d l ih => cases r with | cons a b => exact .cons a (ih b)
theorem RepL.take {l : List D} {xs : List V} (r : RepL K H l xs) (n : Nat) : RepL K H (l.take n) (xs.take n) := by
  induction l generalizing xs n with
  | nil => cases r; simpa using .nil
  | cons d l ih =>
    cases r with
    | cons a b =>
      cases n with
      | zero => exact .nil
      | succ n => exact .cons a (ih b n)
theorem RepL.drop {l : List D} {xs : List V} (r : RepL K H l xs) (n : Nat) : RepL K H (l.drop n) (xs.drop n) := by
  induction l generalizing xs n with
  | nil => cases r; simpa using .nil
  | cons d l ih =>
    cases r with
    | cons a b =>
      cases n with
      | zero => exact .cons a b
      | succ n => exact ih b n
theorem RepL.ints (ns : List Int) : RepL K H (ns.map D.int) (ns.map V.int) := by
  induction ns with
  | nil => exact .nil
  | cons n ns ih => exact .cons (.int n) ih
theorem RepL.of_ints {ns : List Int} {xs : List V} (r : RepL K H (ns.map D.int) xs) : xs = ns.map V.int := by
  induction ns generalizing xs with
  | nil => cases r; rfl
  | cons n ns ih =>
    cases r with
    | cons a b =>
      cases a
      rw [ih b]; rfl
theorem RepL.of_bls {ns : List Bool} {xs : List V} (r : RepL K H (ns.map D.bl) xs) : xs = ns.map V.bl := by
  induction ns generalizing xs with
  | nil => cases r; rfl
  | cons n ns ih =>
    cases r with
    | cons a b =>
      cases a
      rw [ih b]; rfl
theorem RepL.set {l : List D} {xs : List V} (r : RepL K H l xs) {d : D} {v : V} (s : Rep K H d v) (i : Nat) : RepL K H (l.set i d) (xs.set i v) := by
  induction l generalizing xs i with
  | nil => cases r; exact .nil
  | cons a l ih =>
    cases r with
    | cons p q =>
      cases i with
      | zero => exact .cons s q
      | succ i => exact .cons p (ih q i)
theorem RepK.length {l : List (Int × D)} {kvs : List (Key × V)} (r : RepK K H l kvs) : kvs.length = l.length := by
  induction l generalizing kvs with
  | nil => cases r; rfl
  | cons d l ih => cases r with | cons a b => rw [List.length_cons, List.length_cons, ih b]
/-- what both hold at a key -/
def RepO (K : PySem.W.Frag) (H : Hp) : Option D → Option V → Prop
  | some d, some v => Rep K H d v
  | none, none => True
  | _, _ => False
theorem RepK.val {l : List (Int × D)} {kvs : List (Key × V)} (r : RepK K H l kvs) (k : Int) : RepO K H (look l k) (valV kvs (Sum.inl k : Key)) := by
  induction l generalizing kvs with
  | nil => cases r; trivial
  | cons p l ih =>
    cases r with
    | cons a b =>
      rename_i k' d v q
      rw [look_cons]
      by_cases e : k' = k
      · subst e
        rw [if_pos rfl, valV_pos (p := ((Sum.inl k' : Key), v)) rfl]
        exact a
      · rw [if_neg e, valV_neg (p := ((Sum.inl k' : Key), v)) (fun z => e (Sum.inl.inj z))]
        exact ih b
theorem RepK.some_of {l : List (Int × D)} {kvs : List (Key × V)} (r : RepK K H l kvs) {k : Int} {d : D} (h : look l k = some d) : ∃ v, valV kvs (Sum.inl k : Key) = some v ∧ Rep K H d v := by
  have q := r.val k
  rw [h] at q
  cases e : valV kvs (Sum.inl k : Key) with
  | none => rw [e] at q; exact q.elim
  | some v => rw [e] at q; exact ⟨v, rfl, q⟩
theorem RepK.none_of {l : List (Int × D)} {kvs : List (Key × V)} (r : RepK K H l kvs) {k : Int} (h : look l k = none) : valV kvs (Sum.inl k : Key) = none := by
  have q := r.val k
  rw [h] at q
  cases e : valV kvs (Sum.inl k : Key) with
  | none => rfl
  | some v => rw [e] at q; exact q.elim
theorem RepK.isSome {l : List (Int × D)} {kvs : List (Key × V)} (r : RepK K H l kvs) (k : Int) : (valV kvs (Sum.inl k : Key)).isSome = (look l k).isSome := by
  cases h : look l k with
  | none => rw [r.none_of h]; rfl
  | some d => obtain ⟨v, e, _⟩ := r.some_of h; rw [e]; rfl
theorem RepK.append {l m : List (Int × D)} {kvs q : List (Key × V)} (r : RepK K H l kvs) (s : RepK K H m q) : RepK K H (l ++ m) (kvs ++ q) := by
  induction l generalizing kvs with
  | nil => cases r; exact s
  | cons d l ih => cases r with | cons a b => exact .cons a (ih b)
theorem RepK.put {l : List (Int × D)} {kvs : List (Key × V)} (r : RepK K H l kvs) {k : Int} {d : D} {v : V} (h : Rep K H d v) : RepK K H (put l k d) (putK kvs (Sum.inl k : Key) v) := by
  unfold Esp.put putK
  rw [look_any, valV_any, r.isSome]
  by_cases e : (look l k).isSome = true
  · rw [if_pos e, if_pos e]
    clear e
    induction l generalizing kvs with
    | nil => cases r; exact .nil
    | cons p l ih =>
      cases r with
      | cons a b =>
        rename_i k' d' v' q
        rw [List.map_cons, List.map_cons]
        by_cases e : k' = k
        · subst e
          rw [if_pos rfl, if_pos rfl]
          exact .cons h (ih b)
        · rw [if_neg e, if_neg (fun z => e (Sum.inl.inj z))]
          exact .cons a (ih b)
  · rw [if_neg e, if_neg e]
    exact r.append (.cons h .nil)
theorem RepK.drop {l : List (Int × D)} {kvs : List (Key × V)} (r : RepK K H l kvs) (k : Int) : RepK K H (drop l k) (dropK kvs (Sum.inl k : Key)) := by
  unfold Esp.drop dropK
  induction l generalizing kvs with
  | nil => cases r; exact .nil
  | cons p l ih =>
    cases r with
    | cons a b =>
      rename_i k' d' v' q
      rw [List.filter_cons, List.filter_cons]
      by_cases e : k' = k
      · subst e
        rw [if_neg (by simp), if_neg (by simp)]
        exact ih b
      · rw [if_pos (by simp [e]), if_pos (by simp [e])]
        exact .cons a (ih b)
theorem RepK.keys {l : List (Int × D)} {kvs : List (Key × V)} (r : RepK K H l kvs) : kvs.map (·.1) = (l.map (·.1)).map Sum.inl := by
  induction l generalizing kvs with
  | nil => cases r; rfl
  | cons p l ih => cases r with | cons a b => rw [List.map_cons, List.map_cons, List.map_cons, ih b]
end
end Esp

/-! D-logic, part 2: states, judgements. -/
namespace Esp
open PySem L2 PyProof.Rows PySem.Spec

/-- from (B, H) to (B', H'): B the part that is shown for good, A what may change -/
structure Gr (A : List Addr) (B H B' H' : Hp) : Prop where
  b : Ex B B'
  bh : Ex B' H'
  h : ∀ a o, a ∉ A → H a = some o → H' a = some o
  k : ∀ a, H a ≠ none → H' a ≠ none
  nw : ∀ a, B a = none → B' a ≠ none → H a = none
section
variable {A : List Addr} {B H B' H' B1 H1 B2 H2 : Hp}
theorem Gr.refl (e : Ex B H) : Gr A B H B H := ⟨Same.refl B, e, fun _ _ _ h => h, fun _ h => h, fun _ h1 h2 => (h2 h1).elim⟩
theorem Gr.trans (g : Gr A B H B1 H1) (g' : Gr A B1 H1 B2 H2) : Gr A B H B2 H2 where
  b := g.b.trans g'.b
  bh := g'.bh
  h := fun a o n e => g'.h a o n (g.h a o n e)
  k := fun a n => g'.k a (g.k a n)
  nw := fun a n m => by
    by_cases q : B1 a = none
    · have r := g'.nw a q m
      by_cases z : H a = none
      · exact z
      · exact (g.k a z r).elim
    · exact g.nw a n q
theorem Gr.ex (g : Gr [] B H B' H') : Ex H H' := fun a o e => g.h a o (fun z => nomatch z) e
theorem Gr.any (g : Gr [] B H B' H') : Gr A B H B' H' := ⟨g.b, g.bh, fun a o _ e => g.h a o (fun z => nomatch z) e, g.k, g.nw⟩
theorem k_upd {p : Addr} {o : HO} (a : Addr) (h : H a ≠ none) : upd H p o a ≠ none := by
  unfold upd
  split
  · simp
  · exact h
theorem Ex.upd2 {p : Addr} {o : HO} (e : Ex B H) : Ex (upd B p o) (upd H p o) := fun a u q => by
  unfold upd at q ⊢
  split at q
  · rename_i z; rw [if_pos z]; exact q
  · rename_i z; rw [if_neg z]; exact e a u q
/-- a new object, shown for good -/
theorem Gr.new {p : Addr} {o : HO} (e : Ex B H) (hp : H p = none) : Gr A B H (upd B p o) (upd H p o) where
  b := Ex.new (by
    cases q : B p with
    | none => rfl
    | some u => rw [e p u q] at hp; cases hp)
  bh := e.upd2
  h := fun a u _ q => Ex.new hp a u q
  k := fun a => k_upd a
  nw := fun a h1 h2 => by
    by_cases z : a = p
    · rw [z]; exact hp
    · rw [upd_ne z] at h2; exact (h2 h1).elim
/-- a new object of one's own -/
theorem Gr.newH {p : Addr} {o : HO} (e : Ex B H) (hp : H p = none) : Gr A B H B (upd H p o) where
  b := Same.refl B
  bh := e.trans (Ex.new hp)
  h := fun a u _ q => Ex.new hp a u q
  k := fun a => k_upd a
  nw := fun a h1 h2 => (h2 h1).elim
theorem none_back {p : Addr} (g : Gr [] B H B' H') (h : H' p = none) : H p = none := by
  by_cases z : H p = none
  · exact z
  · exact (g.k p z h).elim
theorem none_b {p : Addr} (e : Ex B H) (h : H p = none) : B p = none := e.free h
theorem Gr.still {p : Addr} (g : Gr [] B H B' H') (h : B p = none) (h' : H p ≠ none) : B' p = none := by
  by_cases z : B' p = none
  · exact z
  · exact (h' (g.nw p h z)).elim
end

/-! ### the Draft -/
structure DSt where
  path : D
  sib : D
  recs : List (Int × D)
  adrs : List (Int × D)
  fresh : Int
def dflds (vp vs : V) (pr pa : Addr) (n : Int) : List (Str × V) := [("path", vp), ("siblings", vs), ("records", .ref pr), ("addresses", .ref pa), ("fresh", .int n)]
structure DraftAt (K : PySem.W.Frag) (C : Addr) (B H : Hp) (x : Addr) (fp : List Addr) (s : DSt) : Prop where
  all : ∃ (dx pr pa : Addr) (vp vs : V) (kr ka : List (Key × V)), fp = [x, pr, pa] ∧ H x = some (.ins C dx (dflds vp vs pr pa s.fresh)) ∧ H pr = some (.dK kr) ∧ H pa = some (.dK ka) ∧
    RepK K B s.recs kr ∧ RepK K B s.adrs ka ∧ Rep K B s.path vp ∧ Rep K B s.sib vs ∧ pr ≠ pa
/-! ### slots -/
inductive Sl where
  | no | val (d : D) | own (d : D) | drf (x : Addr) (f : List Addr) (s : DSt)
/-- an object of one's own: what it holds is shown for good -/
inductive Own (K : PySem.W.Frag) (B H : Hp) (p : Addr) : D → Prop
  | lst {l : List D} {xs : List V} : H p = some (.lst xs) → RepL K B l xs → Own K B H p (.lst l)
  | dct {l : List (Int × D)} {kvs : List (Key × V)} : H p = some (.dK kvs) → RepK K B l kvs → Own K B H p (.dct l)
def SlOk (K : PySem.W.Frag) (C : Addr) (A : List Addr) (H0 B H : Hp) (o : Option (Option V)) (fp : List Addr) : Sl → Prop
  | .no => fp = []
  | .val d => fp = [] ∧ ∃ v, o = some (some v) ∧ Rep K B d v
  | .own d => ∃ p, o = some (some (.ref p)) ∧ fp = [p] ∧ H0 p = none ∧ Own K B H p d
  | .drf x f s => fp = f ∧ o = some (some (.ref x)) ∧ DraftAt K C B H x f s
structure OkF (K : PySem.W.Frag) (C : Addr) (A : List Addr) (B0 H0 B H : Hp) (σ : L2.St) (ss : List Sl) (fp : Nat → List Addr) : Prop where
  gr : Gr A B0 H0 B H
  len : σ.length = ss.length
  sl : ∀ i, SlOk K C A H0 B H (σ[i]?) (fp i) (ss.getD i .no)
  dj : ∀ i j a, a ∈ fp i → a ∈ fp j → i = j
  fr : ∀ i a, a ∈ fp i → B a = none ∧ H a ≠ none ∧ (a ∈ A ∨ H0 a = none)
def Ok (K : PySem.W.Frag) (C : Addr) (A : List Addr) (B0 H0 B H : Hp) (σ : L2.St) (ss : List Sl) : Prop := ∃ fp, OkF K C A B0 H0 B H σ ss fp
section
variable {K : PySem.W.Frag} {C : Addr} {A : List Addr} {B0 H0 B H B' H' : Hp} {σ : L2.St} {ss : List Sl} {fp : Nat → List Addr}
theorem Own.mono {p : Addr} {d : D} (h : Own K B H p d) (e : Ex B B') (k : ∀ o, H p = some o → H' p = some o) : Own K B' H' p d := by
  cases h with
  | lst a b => exact .lst (k _ a) (b.mono e)
  | dct a b => exact .dct (k _ a) (b.mono e)
theorem DraftAt.mono {x : Addr} {f : List Addr} {s : DSt} (h : DraftAt K C B H x f s) (e : Ex B B') (k : ∀ a o, a ∈ f → H a = some o → H' a = some o) : DraftAt K C B' H' x f s := by
  obtain ⟨dx, pr, pa, vp, vs, kr, ka, rfl, h1, h2, h3, h4, h5, h6, h7, h8⟩ := h.all
  exact ⟨dx, pr, pa, vp, vs, kr, ka, rfl, k _ _ (by simp) h1, k _ _ (by simp) h2, k _ _ (by simp) h3, h4.mono e, h5.mono e, h6.mono e, h7.mono e, h8⟩
theorem SlOk.mono {o : Option (Option V)} {f : List Addr} : ∀ {s : Sl}, SlOk K C A H0 B H o f s → Ex B B' → (∀ a u, a ∈ f → H a = some u → H' a = some u) → SlOk K C A H0 B' H' o f s
  | .no, h, _, _ => h
  | .val d, ⟨h1, v, h2, h3⟩, e, _ => ⟨h1, v, h2, h3.mono e⟩
  | .own d, ⟨p, h1, h2, h3, h4⟩, e, k => ⟨p, h1, h2, h3, h4.mono e fun u q => k p u (by rw [h2]; simp) q⟩
  | .drf x f s, ⟨h1, h2, h4⟩, e, k => ⟨h1, h2, h4.mono e fun a u ha q => k a u (by rw [h1]; exact ha) q⟩
theorem getD_of {i : Nat} {s : Sl} (h : ss[i]? = some s) : ss.getD i .no = s := by
  rw [List.getD_eq_getElem?_getD, h]; rfl
theorem OkF.at (O : OkF K C A B0 H0 B H σ ss fp) {i : Nat} {s : Sl} (h : ss[i]? = some s) : SlOk K C A H0 B H (σ[i]?) (fp i) s := by
  have q := O.sl i
  rw [getD_of h] at q
  exact q
theorem OkF.grow (O : OkF K C A B0 H0 B H σ ss fp) (g : Gr [] B H B' H') : OkF K C A B0 H0 B' H' σ ss fp where
  gr := O.gr.trans g.any
  len := O.len
  sl := fun i => (O.sl i).mono g.b fun a u _ q => g.ex a u q
  dj := O.dj
  fr := fun i a h => let ⟨h1, h2, h3⟩ := O.fr i a h; ⟨g.still h1 h2, g.k a h2, h3⟩
theorem Ok.grow (O : Ok K C A B0 H0 B H σ ss) (g : Gr [] B H B' H') : Ok K C A B0 H0 B' H' σ ss := let ⟨fp, O⟩ := O; ⟨fp, O.grow g⟩
theorem Ok.ex (O : Ok K C A B0 H0 B H σ ss) : Ex B H := let ⟨_, O⟩ := O; O.gr.bh
theorem Ok.gr (O : Ok K C A B0 H0 B H σ ss) : Gr A B0 H0 B H := let ⟨_, O⟩ := O; O.gr
theorem Ok.len (O : Ok K C A B0 H0 B H σ ss) : σ.length = ss.length := let ⟨_, O⟩ := O; O.len
theorem OkF.of_len {i : Nat} {s : Sl} (h : ss[i]? = some s) : i < ss.length := (List.getElem?_eq_some_iff.mp h).1
/-- the slot i gets another value, its objects may change -/
theorem OkF.change (O : OkF K C A B0 H0 B H σ ss fp) {i : Nat} (hi : i < ss.length) (F : List Addr) (s' : Sl) (v : V) (eb : Ex B B') (ebh : Ex B' H') (keep : ∀ a o, a ∉ fp i → H a = some o → H' a = some o) (kn : ∀ a, H a ≠ none → H' a ≠ none)
    (nw : ∀ a, B a = none → B' a ≠ none → H a = none ∨ (a ∈ fp i ∧ H0 a = none)) (hs : SlOk K C A H0 B' H' (some (some v)) F s')
    (hF : ∀ a ∈ F, B' a = none ∧ H' a ≠ none ∧ (a ∈ A ∨ H0 a = none) ∧ (a ∈ fp i ∨ H a = none)) :
    OkF K C A B0 H0 B' H' (σ.set i (some v)) (ss.set i s') (fun j => if j = i then F else fp j) := by
  have other : ∀ j a, j ≠ i → a ∈ fp j → a ∉ fp i := fun j a hj h1 h2 => hj (O.dj j i a h1 h2)
  refine ⟨⟨O.gr.b.trans eb, ebh, fun a o n e => ?_, fun a n => kn a (O.gr.k a n), fun a n m => ?_⟩, by rw [List.length_set, List.length_set, O.len], fun j => ?_, fun j l a h1 h2 => ?_, fun j a h => ?_⟩
  · refine keep a o (fun z => ?_) (O.gr.h a o n e)
    rcases (O.fr i a z).2.2 with q | q
    · exact n q
    · rw [e] at q; cases q
  · by_cases q : B a = none
    · rcases nw a q m with r | ⟨_, r⟩
      · by_cases z : H0 a = none
        · exact z
        · exact (O.gr.k a z r).elim
      · exact r
    · exact O.gr.nw a n q
  · by_cases hj : j = i
    · subst hj
      have h1 : (ss.set j s').getD j .no = s' := getD_of (List.getElem?_set_self hi)
      rw [h1, if_pos rfl, List.getElem?_set_self (by rw [O.len]; exact hi)]
      exact hs
    · have h1 : (ss.set i s').getD j .no = ss.getD j .no := by
        rw [List.getD_eq_getElem?_getD, List.getElem?_set_ne (Ne.symm hj), List.getD_eq_getElem?_getD]
      rw [h1, if_neg hj, List.getElem?_set_ne (Ne.symm hj)]
      exact (O.sl j).mono eb fun a u ha q => keep a u (other j a hj ha) q
  · by_cases hj : j = i
    · by_cases hl : l = i
      · rw [hj, hl]
      · rw [if_pos hj] at h1
        rw [if_neg hl] at h2
        rcases (hF a h1).2.2.2 with q | q
        · exact (hl (O.dj l i a h2 q)).elim
        · exact ((O.fr l a h2).2.1 q).elim
    · rw [if_neg hj] at h1
      by_cases hl : l = i
      · rw [if_pos hl] at h2
        rcases (hF a h2).2.2.2 with q | q
        · exact (hj (O.dj j i a h1 q)).elim
        · exact ((O.fr j a h1).2.1 q).elim
      · rw [if_neg hl] at h2
        exact O.dj j l a h1 h2
  · by_cases hj : j = i
    · rw [if_pos hj] at h
      obtain ⟨h1, h2, h3, _⟩ := hF a h
      exact ⟨h1, h2, h3⟩
    · rw [if_neg hj] at h
      obtain ⟨h1, h2, h3⟩ := O.fr j a h
      refine ⟨?_, kn a h2, h3⟩
      by_cases z : B' a = none
      · exact z
      · rcases nw a h1 z with q | ⟨q, _⟩
        · exact (h2 q).elim
        · exact (other j a hj h q).elim
/-- the slot i gets a value that is shown for good -/
theorem Ok.setVal (O : Ok K C A B0 H0 B H σ ss) {i : Nat} (hi : i < ss.length) {d : D} {v : V} (r : Rep K B d v) : Ok K C A B0 H0 B H (σ.set i (some v)) (ss.set i (.val d)) := by
  obtain ⟨fp, O⟩ := O
  exact ⟨_, O.change hi [] (.val d) v (Same.refl B) O.gr.bh (fun _ _ _ e => e) (fun _ n => n) (fun a h1 h2 => (h2 h1).elim) ⟨rfl, v, rfl, r⟩ fun a h => nomatch h⟩
/-- the slot i gets a new object of one's own -/
theorem Ok.setOwn (O : Ok K C A B0 H0 B H σ ss) {i : Nat} (hi : i < ss.length) {d : D} {p : Addr} (g : Gr [] B H B' H') (n : H p = none) (nb : B' p = none) (r : Own K B' H' p d) :
    Ok K C A B0 H0 B' H' (σ.set i (some (.ref p))) (ss.set i (.own d)) := by
  obtain ⟨fp, O⟩ := O
  have n0 : H0 p = none := by
    by_cases z : H0 p = none
    · exact z
    · exact (O.gr.k p z n).elim
  have hp : H' p ≠ none := by
    cases r with
    | lst a b => rw [a]; simp
    | dct a b => rw [a]; simp
  refine ⟨_, O.change hi [p] (.own d) (.ref p) g.b g.bh (fun a u _ e => g.ex a u e) g.k (fun a h1 h2 => .inl (g.nw a h1 h2)) ⟨p, rfl, rfl, n0, r⟩ fun a h => ?_⟩
  have e : a = p := by simpa using h
  subst e
  exact ⟨nb, hp, .inr n0, .inr n⟩
/-- an object of one's own changes -/
theorem Ok.write (O : Ok K C A B0 H0 B H σ ss) {i : Nat} {d d' : D} {p : Addr} {o : HO} (hi : ss[i]? = some (.own d)) (hp : σ[i]? = some (some (.ref p))) (r : Own K B (upd H p o) p d') :
    Ok K C A B0 H0 B (upd H p o) σ (ss.set i (.own d')) := by
  obtain ⟨fp, O⟩ := O
  obtain ⟨q, h1, h2, h3, h4⟩ := O.at hi
  rw [hp] at h1
  cases h1
  have hl := OkF.of_len hi
  have hb : B p = none := (O.fr i p (by rw [h2]; simp)).1
  have hs : σ.set i (some (.ref p)) = σ := by
    refine List.ext_getElem? fun j => ?_
    by_cases e : i = j
    · subst e; rw [List.getElem?_set_self (by rw [O.len]; exact hl), hp]
    · rw [List.getElem?_set_ne e]
  have z := O.change hl [p] (.own d') (.ref p) (Same.refl B) (B' := B) (H' := upd H p o)
    (fun a u q => by
      have hne : a ≠ p := fun e => by rw [e, hb] at q; cases q
      rw [upd_ne hne]; exact O.gr.bh a u q)
    (fun a u n q => by
      have hne : a ≠ p := fun e => n (by rw [h2, e]; simp)
      rw [upd_ne hne]; exact q)
    (fun a => k_upd a) (fun a h1 h2 => (h2 h1).elim) ⟨p, rfl, rfl, h3, r⟩
    (fun a h => by
      have e : a = p := by simpa using h
      subst e
      exact ⟨hb, by rw [upd_same]; simp, .inr h3, .inl (by rw [h2]; simp)⟩)
  rw [hs] at z
  exact ⟨_, z⟩
/-- an object of one's own is shown for good from here on -/
theorem Ok.freeze (O : Ok K C A B0 H0 B H σ ss) {i : Nat} {d : D} (hi : ss[i]? = some (.own d)) : ∃ B', Ex B B' ∧ Ok K C A B0 H0 B' H σ (ss.set i (.val d)) := by
  obtain ⟨fp, O⟩ := O
  obtain ⟨p, h1, h2, h3, h4⟩ := O.at hi
  have hl := OkF.of_len hi
  have hb : B p = none := (O.fr i p (by rw [h2]; simp)).1
  have hs : σ.set i (some (.ref p)) = σ := by
    refine List.ext_getElem? fun j => ?_
    by_cases e : i = j
    · subst e; rw [List.getElem?_set_self (by rw [O.len]; exact hl), h1]
    · rw [List.getElem?_set_ne e]
  have main : ∀ o, H p = some o → Rep K (upd B p o) d (.ref p) → ∃ B', Ex B B' ∧ Ok K C A B0 H0 B' H σ (ss.set i (.val d)) := fun o ho hr => by
    have z := O.change hl [] (.val d) (.ref p) (B' := upd B p o) (H' := H) (Ex.new hb) (fun a u q => by
        by_cases e : a = p
        · rw [e, upd_same] at q; cases q; rw [e]; exact ho
        · rw [upd_ne e] at q; exact O.gr.bh a u q)
      (fun _ _ _ q => q) (fun _ n => n) (fun a q1 q2 => by
        by_cases e : a = p
        · exact .inr ⟨by rw [h2, e]; simp, by rw [e]; exact h3⟩
        · rw [upd_ne e] at q2; exact (q2 q1).elim) ⟨rfl, _, rfl, hr⟩ (fun a h => nomatch h)
    rw [hs] at z
    exact ⟨_, Ex.new hb, _, z⟩
  cases h4 with
  | lst a b => exact main _ a (.lst upd_same (b.mono (Ex.new hb)))
  | dct a b => exact main _ a (.dct upd_same (b.mono (Ex.new hb)))
/-- forgetting a slot -/
theorem Ok.forget (O : Ok K C A B0 H0 B H σ ss) (i : Nat) : Ok K C A B0 H0 B H σ (ss.set i .no) := by
  obtain ⟨fp, O⟩ := O
  refine ⟨fun j => if j = i then [] else fp j, O.gr, by rw [List.length_set, O.len], fun j => ?_, fun j l a h1 h2 => ?_, fun j a h => ?_⟩
  · by_cases hj : j = i
    · subst hj
      have h1 : (ss.set j .no).getD j .no = .no := by
        rw [List.getD_eq_getElem?_getD, List.getElem?_set]
        simp only [if_pos]
        split <;> rfl
      rw [h1, if_pos rfl]
      rfl
    · have h1 : (ss.set i .no).getD j .no = ss.getD j .no := by
        rw [List.getD_eq_getElem?_getD, List.getElem?_set_ne (Ne.symm hj), List.getD_eq_getElem?_getD]
      rw [h1, if_neg hj]
      exact O.sl j
  · by_cases hj : j = i
    · rw [if_pos hj] at h1; cases h1
    · by_cases hl : l = i
      · rw [if_pos hl] at h2; cases h2
      · rw [if_neg hj] at h1
        rw [if_neg hl] at h2
        exact O.dj j l a h1 h2
  · by_cases hj : j = i
    · rw [if_pos hj] at h; cases h
    · rw [if_neg hj] at h
      exact O.fr j a h
/-- a slot that holds nothing told gets nothing told -/
theorem Ok.setNo (O : Ok K C A B0 H0 B H σ ss) (i : Nat) (u : Option V) : Ok K C A B0 H0 B H (σ.set i u) (ss.set i .no) := by
  obtain ⟨fp, O⟩ := O.forget i
  refine ⟨fp, O.gr, by rw [List.length_set, O.len], fun j => ?_, O.dj, O.fr⟩
  by_cases hj : j = i
  · subst hj
    have h1 : (ss.set j .no).getD j .no = .no := by
      rw [List.getD_eq_getElem?_getD, List.getElem?_set]
      simp only [if_pos]
      split <;> rfl
    have q := O.sl j
    rw [h1] at q ⊢
    exact q
  · rw [List.getElem?_set_ne (Ne.symm hj)]
    exact O.sl j
end
end Esp

/-! D-logic, part 3: what expressions evaluate to. -/
namespace Esp
open PySem L2 PyProof.Rows PySem.Spec

/-- shown, its own object perhaps not for good -/
def RepX (K : PySem.W.Frag) (B H : Hp) : D → V → Prop
  | .lst l, v => ∃ p xs, v = .ref p ∧ H p = some (.lst xs) ∧ RepL K B l xs
  | .dct l, v => ∃ p kvs, v = .ref p ∧ H p = some (.dK kvs) ∧ RepK K B l kvs
  | d, v => Rep K B d v
def Ev (K : PySem.W.Frag) (C : Addr) (te : TE) (ss : List Sl) (d : D) : Prop := ∀ (A : List Addr) (B0 H0 B H : Hp) (σ : L2.St), Ok K C A B0 H0 B H σ ss → ∀ Q : VK, (∀ v B' H', Gr [] B H B' H' → Rep K B' d v → Q v H') → te σ H Q
def EvX (K : PySem.W.Frag) (C : Addr) (te : TE) (ss : List Sl) (d : D) : Prop := ∀ (A : List Addr) (B0 H0 B H : Hp) (σ : L2.St), Ok K C A B0 H0 B H σ ss → ∀ Q : VK, (∀ v B' H', Gr [] B H B' H' → RepX K B' H' d v → Q v H') → te σ H Q
/-- a new list or dict -/
def EvN (K : PySem.W.Frag) (C : Addr) (te : TE) (ss : List Sl) (d : D) : Prop := ∀ (A : List Addr) (B0 H0 B H : Hp) (σ : L2.St), Ok K C A B0 H0 B H σ ss → ∀ Q : VK, (∀ p B' H', Gr [] B H B' H' → H p = none → B' p = none → Own K B' H' p d → Q (.ref p) H') → te σ H Q
def EvT (K : PySem.W.Frag) (C : Addr) (tt : TT) (ss : List Sl) (b : Bool) : Prop := ∀ (A : List Addr) (B0 H0 B H : Hp) (σ : L2.St), Ok K C A B0 H0 B H σ ss → ∀ Q : Bool → Hp → Prop, (∀ B' H', Gr [] B H B' H' → Q b H') → tt σ H Q
def EvA (K : PySem.W.Frag) (C : Addr) (ta : TA) (ss : List Sl) (ds : List D) : Prop := ∀ (A : List Addr) (B0 H0 B H : Hp) (σ : L2.St), Ok K C A B0 H0 B H σ ss → ∀ Q : List V → Hp → Prop, (∀ vs B' H', Gr [] B H B' H' → RepL K B' ds vs → Q vs H') → ta σ H Q
def EvO (K : PySem.W.Frag) (C : Addr) (to : TO) (ss : List Sl) (o : Option Int) : Prop := ∀ (A : List Addr) (B0 H0 B H : Hp) (σ : L2.St), Ok K C A B0 H0 B H σ ss → ∀ Q : Option Int → Hp → Prop, (∀ B' H', Gr [] B H B' H' → Q o H') → to σ H Q
/-- an operation on values -/
def RV (K : PySem.W.Frag) (r : R2) (d e z : D) : Prop := ∀ (B H : Hp) (x y : V), Ex B H → RepX K B H d x → RepX K B H e y → ∀ Q : VK, (∀ v B' H', Gr [] B H B' H' → Rep K B' z v → Q v H') → r x y H Q
def RVN (K : PySem.W.Frag) (r : R2) (d e z : D) : Prop := ∀ (B H : Hp) (x y : V), Ex B H → RepX K B H d x → RepX K B H e y → ∀ Q : VK, (∀ p B' H', Gr [] B H B' H' → H p = none → B' p = none → Own K B' H' p z → Q (.ref p) H') → r x y H Q
/-- a call of a built-in of one argument -/
def RC (K : PySem.W.Frag) (r : List V → Hp → VK → Prop) (d z : D) : Prop := ∀ (B H : Hp) (x : V), Ex B H → RepX K B H d x → ∀ Q : VK, (∀ v B' H', Gr [] B H B' H' → Rep K B' z v → Q v H') → r [x] H Q
def RCN (K : PySem.W.Frag) (r : List V → Hp → VK → Prop) (d z : D) : Prop := ∀ (B H : Hp) (x : V), Ex B H → RepX K B H d x → ∀ Q : VK, (∀ p B' H', Gr [] B H B' H' → H p = none → B' p = none → Own K B' H' p z → Q (.ref p) H') → r [x] H Q

section
variable {K : PySem.W.Frag} {C : Addr} {ss : List Sl} {B H B' H' : Hp} {d e z : D} {te ta tb tc tx : TE} {t u : TT} {r r' : R2}
theorem Rep.x {x : V} (h : Rep K B d x) (e : Ex B H) : RepX K B H d x := by
  cases h with
  | lst a b => exact ⟨_, _, rfl, e _ _ a, b⟩
  | dct a b => exact ⟨_, _, rfl, e _ _ a, b⟩
  | tup a b => exact .tup a b
  | scr a => exact .scr a
  | non => exact .non
  | bl b => exact .bl b
  | int i => exact .int i
  | str s => exact .str s
theorem RepX.grow {x : V} (h : RepX K B H d x) (g : Gr [] B H B' H') : RepX K B' H' d x := by
  cases d with
  | lst l => obtain ⟨p, xs, rfl, a, b⟩ := h; exact ⟨p, xs, rfl, g.ex _ _ a, b.mono g.b⟩
  | dct l => obtain ⟨p, xs, rfl, a, b⟩ := h; exact ⟨p, xs, rfl, g.ex _ _ a, b.mono g.b⟩
  | _ => exact Rep.mono g.b h
theorem own_x {p : Addr} (h : Own K B H p d) : RepX K B H d (.ref p) := by
  cases h with
  | lst a b => exact ⟨p, _, rfl, a, b⟩
  | dct a b => exact ⟨p, _, rfl, a, b⟩
theorem Ev.x (h : Ev K C te ss d) : EvX K C te ss d := fun A B0 H0 B H σ O Q q => h A B0 H0 B H σ O Q fun v B' H' g r => q v B' H' g (r.x g.bh)
theorem EvN.x (h : EvN K C te ss d) : EvX K C te ss d := fun A B0 H0 B H σ O Q q => h A B0 H0 B H σ O Q fun v B' H' g _ _ r => q _ B' H' g (own_x r)
/-- a new object, shown for good from now on -/
theorem own_show {p : Addr} (hp : H p = none) (g : Gr [] B H B' H') (hb : B' p = none) (o : Own K B' H' p d) : ∃ B2, Gr [] B H B2 H' ∧ Rep K B2 d (.ref p) := by
  have main : ∀ w, H' p = some w → Rep K (upd B' p w) d (.ref p) → ∃ B2, Gr [] B H B2 H' ∧ Rep K B2 d (.ref p) := fun w hw r => by
    refine ⟨upd B' p w, ⟨g.b.trans (Ex.new hb), fun a u q => ?_, g.h, g.k, fun a h1 h2 => ?_⟩, r⟩
    · by_cases e : a = p
      · rw [e, upd_same] at q; cases q; rw [e]; exact hw
      · rw [upd_ne e] at q; exact g.bh a u q
    · by_cases e : a = p
      · rw [e]; exact hp
      · rw [upd_ne e] at h2; exact g.nw a h1 h2
  cases o with
  | lst a b => exact main _ a (.lst upd_same (b.mono (Ex.new hb)))
  | dct a b => exact main _ a (.dct upd_same (b.mono (Ex.new hb)))
theorem EvN.ev (h : EvN K C te ss d) : Ev K C te ss d := fun A B0 H0 B H σ O Q q => h A B0 H0 B H σ O Q fun p B' H' g h1 h2 o => by
  obtain ⟨B2, g2, r⟩ := own_show h1 g h2 o
  exact q _ _ _ g2 r
theorem RVN.rv (h : RVN K r d e z) : RV K r d e z := fun B H x y E a b Q q => h B H x y E a b Q fun p B' H' g h1 h2 o => by
  obtain ⟨B2, g2, r⟩ := own_show h1 g h2 o
  exact q _ _ _ g2 r
theorem Ev.is (h : Ev K C te ss d) (e : d = z) : Ev K C te ss z := e ▸ h
theorem EvT.is {b c : Bool} (h : EvT K C t ss b) (e : b = c) : EvT K C t ss c := e ▸ h

theorem tup_new {l : List D} {xs : List V} {Q : VK} {p : Addr} (q : ∀ v B' H', Gr [] B H B' H' → Rep K B' (.tup l) v → Q v H') (r : RepL K B l xs) (E : Ex B H) (hp : H p = none) : Q (.ref p) (upd H p (.tup xs)) := by
  have g : Gr [] B H (upd B p (.tup xs)) (upd H p (.tup xs)) := Gr.new E hp
  exact q _ _ _ g (.tup (st_of upd_same) (r.mono g.b))

/-! ### names, constants -/
theorem ev_var {i : Nat} (h : ss[i]? = some (.val d)) : Ev K C (tVar i) ss d := fun A B0 H0 B H σ O Q q => by
  obtain ⟨fp, O⟩ := O
  obtain ⟨_, v, e, r⟩ := O.at h
  exact ⟨v, e, q v B H (Gr.refl O.gr.bh) r⟩
theorem evx_own {i : Nat} (h : ss[i]? = some (.own d)) : EvX K C (tVar i) ss d := fun A B0 H0 B H σ O Q q => by
  obtain ⟨fp, O⟩ := O
  obtain ⟨p, e, _, _, o⟩ := O.at h
  exact ⟨_, e, q _ B H (Gr.refl O.gr.bh) (own_x o)⟩
theorem ev_int {i : Int} : Ev K C (tC (.int i)) ss (.int i) := fun A B0 H0 B H σ O Q q => q _ B H (Gr.refl O.ex) (.int i)
theorem ev_str {i : Str} : Ev K C (tC (.str i)) ss (.str i) := fun A B0 H0 B H σ O Q q => q _ B H (Gr.refl O.ex) (.str i)
theorem ev_bl {i : Bool} : Ev K C (tC (.bl i)) ss (.bl i) := fun A B0 H0 B H σ O Q q => q _ B H (Gr.refl O.ex) (.bl i)
theorem ev_non : Ev K C (tC .non) ss .non := fun A B0 H0 B H σ O Q q => q _ B H (Gr.refl O.ex) .non

/-! ### operations -/
theorem ev_op (ha : EvX K C ta ss d) (hb : EvX K C tb ss e) (hr : RV K r d e z) : Ev K C (tOp r ta tb) ss z := fun A B0 H0 B H σ O Q q =>
  ha A B0 H0 B H σ O _ fun x B1 H1 g1 r1 => hb A B0 H0 B1 H1 σ (O.grow g1) _ fun y B2 H2 g2 r2 => hr B2 H2 x y g2.bh (r1.grow g2) r2 Q fun v B3 H3 g3 r3 => q v B3 H3 ((g1.trans g2).trans g3) r3
theorem evn_op (ha : EvX K C ta ss d) (hb : EvX K C tb ss e) (hr : RVN K r d e z) : EvN K C (tOp r ta tb) ss z := fun A B0 H0 B H σ O Q q =>
  ha A B0 H0 B H σ O _ fun x B1 H1 g1 r1 => hb A B0 H0 B1 H1 σ (O.grow g1) _ fun y B2 H2 g2 r2 => hr B2 H2 x y g2.bh (r1.grow g2) r2 Q fun v B3 H3 g3 n nb r3 => q v B3 H3 ((g1.trans g2).trans g3) (none_back (g1.trans g2) n) nb r3
theorem rv_i {f : Int → Int → Int} {i j : Int} : RV K (rI0 fun i j => .int (f i j)) (.int i) (.int j) (.int (f i j)) := fun B H x y E a b Q q => by
  cases a
  cases b
  exact ⟨i, j, rfl, rfl, q _ B H (Gr.refl E) (.int _)⟩
theorem rv_b {f : Int → Int → Bool} {i j : Int} : RV K (rI0 fun i j => .bl (f i j)) (.int i) (.int j) (.bl (f i j)) := fun B H x y E a b Q q => by
  cases a
  cases b
  exact ⟨i, j, rfl, rfl, q _ B H (Gr.refl E) (.bl _)⟩
theorem rv_ic {c : Int → Int → Prop} {f : Int → Int → Int} {i j : Int} (h : c i j) : RV K (rI c fun i j => .int (f i j)) (.int i) (.int j) (.int (f i j)) := fun B H x y E a b Q q => by
  cases a
  cases b
  exact ⟨i, j, rfl, rfl, h, q _ B H (Gr.refl E) (.int _)⟩
/-- flat data as a value -/
def dV : D → V
  | .bl b => .bl b
  | .int i => .int i
  | .str s => .str s
  | _ => .non
def flatD : D → Bool
  | .non => true
  | .bl _ => true
  | .int _ => true
  | .str _ => true
  | _ => false
theorem flat_v {x : V} (f : flatD d = true) (h : RepX K B H d x) : x = dV d := by
  cases d with
  | non => cases h; rfl
  | bl b => cases h; rfl
  | int b => cases h; rfl
  | str b => cases h; rfl
  | _ => cases f
theorem flat_rep (f : flatD d = true) : Rep K B d (dV d) := by
  cases d with
  | non => exact .non
  | bl b => exact .bl b
  | int b => exact .int b
  | str b => exact .str b
  | _ => cases f
theorem rv_eq (f : flatD d = true) (g : flatD e = true) (s : scal (dV d) (dV e) = true) : RV K rEq d e (.bl (decide (dV d = dV e))) := fun B H x y E a b Q q => by
  rw [flat_v f a, flat_v g b]
  exact ⟨s, q _ B H (Gr.refl E) (.bl _)⟩
theorem rv_ne (f : flatD d = true) (g : flatD e = true) (s : scal (dV d) (dV e) = true) : RV K rNe d e (.bl (!decide (dV d = dV e))) := fun B H x y E a b Q q => by
  rw [flat_v f a, flat_v g b]
  exact ⟨s, q _ B H (Gr.refl E) (.bl _)⟩
theorem rv_eqi {i j : Int} : RV K rEq (.int i) (.int j) (.bl (decide (i = j))) := fun B H x y E a b Q q => by
  cases a
  cases b
  refine ⟨rfl, ?_⟩
  rw [show decide (V.int i = V.int j) = decide (i = j) from by simp]
  exact q _ B H (Gr.refl E) (.bl _)
theorem rv_nei {i j : Int} : RV K rNe (.int i) (.int j) (.bl (decide (i ≠ j))) := fun B H x y E a b Q q => by
  cases a
  cases b
  refine ⟨rfl, ?_⟩
  rw [show (!decide (V.int i = V.int j)) = decide (i ≠ j) from by simp]
  exact q _ B H (Gr.refl E) (.bl _)
theorem rv_eqs {i j : Str} : RV K rEq (.str i) (.str j) (.bl (decide (i = j))) := fun B H x y E a b Q q => by
  cases a
  cases b
  refine ⟨rfl, ?_⟩
  rw [show decide (V.str i = V.str j) = decide (i = j) from by simp]
  exact q _ B H (Gr.refl E) (.bl _)
theorem rv_nes {i j : Str} : RV K rNe (.str i) (.str j) (.bl (decide (i ≠ j))) := fun B H x y E a b Q q => by
  cases a
  cases b
  refine ⟨rfl, ?_⟩
  rw [show (!decide (V.str i = V.str j)) = decide (i ≠ j) from by simp]
  exact q _ B H (Gr.refl E) (.bl _)
def isNon : D → Bool
  | .non => true
  | _ => false
theorem non_v {x : V} (h : RepX K B H d x) : decide (x = .non) = isNon d := by
  cases d with
  | non => cases h; rfl
  | bl b => cases h; rfl
  | int b => cases h; rfl
  | str b => cases h; rfl
  | tup l => cases h; simp [isNon]
  | scr l => cases h; simp [isNon]
  | lst l => obtain ⟨p, xs, rfl, _⟩ := h; simp [isNon]
  | dct l => obtain ⟨p, xs, rfl, _⟩ := h; simp [isNon]
theorem rv_isN : RV K (fun x y H Q => y = .non ∧ Q (.bl (decide (x = .non))) H) d .non (.bl (isNon d)) := fun B H x y E a b Q q => by
  cases b
  rw [non_v a]
  exact ⟨rfl, q _ B H (Gr.refl E) (.bl _)⟩
theorem rv_notN : RV K (fun x y H Q => y = .non ∧ Q (.bl (!decide (x = .non))) H) d .non (.bl (!isNon d)) := fun B H x y E a b Q q => by
  cases b
  rw [non_v a]
  exact ⟨rfl, q _ B H (Gr.refl E) (.bl _)⟩
/-! ### == at any depth -/
mutual
def pyD : D → PyData
  | .non => .none
  | .bl b => .bool b
  | .int i => .int i
  | .str s => .str s
  | .tup l => .tuple (pyL l)
  | .lst l => .list (pyL l)
  | .dct _ => .none
  | .scr _ => .none
def pyL : List D → List PyData
  | [] => []
  | d :: r => pyD d :: pyL r
end
mutual
def plainD : D → Bool
  | .tup l => plainL l
  | .lst l => plainL l
  | .dct _ => false
  | .scr _ => false
  | _ => true
def plainL : List D → Bool
  | [] => true
  | d :: r => plainD d && plainL r
end
mutual
theorem Rep.dp (E : Ex B H) : ∀ {d : D} {x : V}, plainD d = true → Rep K B d x → Dp K H x (pyD d)
  | _, _, _, .non => .non
  | _, _, _, .bl b => .bl b
  | _, _, _, .int i => .int i
  | _, _, _, .str s => .str s
  | _, _, p, .tup h r => .tup (ex_t E h) (RepL.dp E p r)
  | _, _, p, .lst h r => .lst (sl_of (E _ _ h)) (RepL.dp E p r)
  | _, _, p, .dct h r => by cases p
  | _, _, p, .scr h => by cases p
theorem RepL.dp (E : Ex B H) : ∀ {d : List D} {x : List V}, plainL d = true → RepL K B d x → DpAll K H x (pyL d)
  | _, _, _, .nil => .nil
  | _, _, p, .cons h r => .cons (Rep.dp E (Bool.and_eq_true_iff.mp p).1 h) (RepL.dp E (Bool.and_eq_true_iff.mp p).2 r)
end
theorem RepX.dp {x : V} (E : Ex B H) (p : plainD d = true) (h : RepX K B H d x) : Dp K H x (pyD d) := by
  cases d with
  | lst l => obtain ⟨q, xs, rfl, a, b⟩ := h; exact .lst (sl_of a) (b.dp E p)
  | dct l => cases p
  | scr l => cases p
  | _ => exact Rep.dp E p h
theorem rv_eqD (p : plainD d = true) (p' : plainD e = true) (s : SeqAt.shaped (pyD d) = true) (s' : SeqAt.shaped (pyD e) = true) : RV K (rEqD K) d e (.bl (PyData.eqv (pyD d) (pyD e))) := fun B H x y E a b Q q =>
  ⟨_, _, a.dp E p, b.dp E p', s, s', q _ B H (Gr.refl E) (.bl _)⟩
theorem rv_neD (p : plainD d = true) (p' : plainD e = true) (s : SeqAt.shaped (pyD d) = true) (s' : SeqAt.shaped (pyD e) = true) : RV K (rNeD K) d e (.bl (!PyData.eqv (pyD d) (pyD e))) := fun B H x y E a b Q q =>
  ⟨_, _, a.dp E p, b.dp E p', s, s', q _ B H (Gr.refl E) (.bl _)⟩

/-! ### subscripts, in, + -/
theorem rv_ixT {l : List D} {i : Int} (h : atI l i = some z) : RV K (rIxT K) (.tup l) (.int i) z := fun B H x y E a b Q q => by
  cases a with
  | tup a c =>
    cases b
    obtain ⟨j, h1, h2, h3⟩ := atI_get h
    obtain ⟨v, e1, e2⟩ := c.get h2
    refine ⟨_, _, i, v, rfl, rfl, ex_t E a, ?_, q v B H (Gr.refl E) e2⟩
    unfold atI at h ⊢
    rw [c.length]
    cases e : ixN l.length i with
    | none => rw [e] at h; cases h
    | some k =>
      have := (ixN_seq e).1
      rw [h1] at this
      cases this
      exact e1
theorem rv_ixL {l : List D} {i : Int} (h : atI l i = some z) : RV K (rIxL K) (.lst l) (.int i) z := fun B H x y E a b Q q => by
  obtain ⟨p, xs, rfl, a, c⟩ := a
  cases b
  obtain ⟨j, h1, h2, h3⟩ := atI_get h
  obtain ⟨v, e1, e2⟩ := c.get h2
  refine ⟨_, _, i, v, rfl, rfl, sl_of a, ?_, q v B H (Gr.refl E) e2⟩
  unfold atI at h ⊢
  rw [c.length]
  cases e : ixN l.length i with
  | none => rw [e] at h; cases h
  | some k =>
    have := (ixN_seq e).1
    rw [h1] at this
    cases this
    exact e1
theorem atI_map {α β : Type} {f : α → β} {l : List α} {i : Int} {x : α} (h : atI l i = some x) : atI (l.map f) i = some (f x) := by
  obtain ⟨j, h1, h2, h3⟩ := atI_get h
  unfold atI at h ⊢
  rw [List.length_map]
  cases e : ixN l.length i with
  | none => rw [e] at h; cases h
  | some k =>
    rw [e] at h
    show (l.map f)[k]? = some (f x)
    rw [List.getElem?_map, show l[k]? = some x from h]
    rfl
theorem rv_ixS {l : List Int} {i j : Int} (h : atI l i = some j) : RV K (rIxL K) (.scr l) (.int i) (.int j) := fun B H x y E a b Q q => by
  cases a with
  | scr a =>
    cases b
    exact ⟨_, _, i, .int j, rfl, rfl, ex_l E a, atI_map h, q _ B H (Gr.refl E) (.int j)⟩
theorem inV_ints (k : Int) (ns : List Int) : inV (.int k) (ns.map V.int) = decide (k ∈ ns) := by
  unfold inV
  rw [List.any_map, Bool.eq_iff_iff, List.any_eq_true, decide_eq_true_iff]
  constructor
  · rintro ⟨x, h1, h2⟩
    have : (x == k) = true := h2
    rw [eq_of_beq this] at h1
    exact h1
  · intro h
    exact ⟨k, h, by show (k == k) = true; simp⟩
theorem inV_non (ns : List Int) : inV .non (ns.map V.int) = false := by
  unfold inV
  rw [List.any_map, List.any_eq_false]
  intro x _ h
  exact absurd (show false = true from h) Bool.false_ne_true
theorem flat_ints (ns : List Int) : (ns.map V.int).all flatV = true := by
  rw [List.all_map, List.all_eq_true]
  intro x _
  rfl
theorem rv_inL {k : Int} {ns : List Int} : RV K (rIn K false) (.int k) (.lst (ns.map D.int)) (.bl (decide (k ∈ ns))) := fun B H x y E a b Q q => by
  obtain ⟨p, xs, rfl, b, c⟩ := b
  cases a
  rw [c.of_ints] at b
  refine ⟨p, _, rfl, .inl (sl_of b), rfl, flat_ints ns, ?_⟩
  rw [if_neg Bool.false_ne_true, inV_ints]
  exact q _ B H (Gr.refl E) (.bl _)
theorem rv_ninT {k : Int} {ns : List Int} : RV K (rIn K true) (.int k) (.tup (ns.map D.int)) (.bl (!decide (k ∈ ns))) := fun B H x y E a b Q q => by
  cases b with
  | tup b c =>
    cases a
    rw [c.of_ints] at b
    refine ⟨_, _, rfl, .inr (ex_t E b), rfl, flat_ints ns, ?_⟩
    rw [if_pos rfl, inV_ints]
    exact q _ B H (Gr.refl E) (.bl _)
theorem rv_ninT0 {ns : List Int} : RV K (rIn K true) .non (.tup (ns.map D.int)) (.bl true) := fun B H x y E a b Q q => by
  cases b with
  | tup b c =>
    cases a
    rw [c.of_ints] at b
    refine ⟨_, _, rfl, .inr (ex_t E b), rfl, flat_ints ns, ?_⟩
    rw [if_pos rfl, inV_non]
    exact q _ B H (Gr.refl E) (.bl _)
theorem inV_strs (k : Str) (ns : List Str) : inV (.str k) (ns.map V.str) = decide (k ∈ ns) := by
  unfold inV
  rw [List.any_map, Bool.eq_iff_iff, List.any_eq_true, decide_eq_true_iff]
  constructor
  · rintro ⟨x, h1, h2⟩
    have : (x == k) = true := h2
    rw [eq_of_beq this] at h1
    exact h1
  · intro h
    exact ⟨k, h, by show (k == k) = true; simp⟩
theorem RepL.of_strs {ns : List Str} {xs : List V} (r : RepL K H (ns.map D.str) xs) : xs = ns.map V.str := by
  induction ns generalizing xs with
  | nil => cases r; rfl
  | cons n ns ih =>
    cases r with
    | cons a b =>
      cases a
      rw [ih b]; rfl
theorem rv_inTs {k : Str} {ns : List Str} : RV K (rIn K false) (.str k) (.tup (ns.map D.str)) (.bl (decide (k ∈ ns))) := fun B H x y E a b Q q => by
  cases b with
  | tup b c =>
    cases a
    rw [c.of_strs] at b
    refine ⟨_, _, rfl, .inr (ex_t E b), rfl, ?_, ?_⟩
    · rw [List.all_map, List.all_eq_true]
      intro x _
      rfl
    rw [if_neg Bool.false_ne_true, inV_strs]
    exact q _ B H (Gr.refl E) (.bl _)
theorem rv_catT {l m : List D} (h : l.length + m.length ≤ sizeLine) : RV K (rCatA K) (.tup l) (.tup m) (.tup (l ++ m)) := fun B H x y E a b Q q => by
  cases a with
  | tup a c =>
    cases b with
    | tup b e =>
      refine ⟨_, _, _, _, rfl, rfl, ex_t E a, ex_t E b, by rw [c.length, e.length]; exact h, fun z => ?_, fun z z' => ?_, fun z z' p hp => ?_⟩
      · subst z
        have : l = [] := List.length_eq_zero_iff.mp c.length.symm
        rw [this] at q
        exact q _ B H (Gr.refl E) (.tup b e)
      · subst z'
        have : m = [] := List.length_eq_zero_iff.mp e.length.symm
        rw [this, List.append_nil] at q
        exact q _ B H (Gr.refl E) (.tup a c)
      · exact tup_new q (c.append e) E hp
theorem rvn_cat {l m : List D} (h : l.length + m.length ≤ sizeLine) : RVN K rCat (.lst l) (.lst m) (.lst (l ++ m)) := fun B H x y E a b Q q => by
  obtain ⟨p, xs, rfl, a, c⟩ := a
  obtain ⟨p', ys, rfl, b, e⟩ := b
  refine ⟨_, _, _, _, rfl, rfl, a, b, by rw [c.length, e.length]; exact h, fun p hp => ?_⟩
  exact q p B _ (Gr.newH E hp) hp (none_b E hp) (.lst upd_same (c.append e))
/-- a ? b ? c -/
theorem ev_chain {b1 b2 : Bool} {f : D} (ha : EvX K C ta ss d) (hb : EvX K C tb ss e) (hc : EvX K C tc ss f) (h1 : RV K r d e (.bl b1)) (h2 : RV K r' e f (.bl b2)) : Ev K C (tChain r r' ta tb tc) ss (.bl (b1 && b2)) := fun A B0 H0 B H σ O Q q =>
  ha A B0 H0 B H σ O _ fun x B1 H1 g1 r1 => hb A B0 H0 B1 H1 σ (O.grow g1) _ fun y B2 H2 g2 r2 => h1 B2 H2 x y g2.bh (r1.grow g2) r2 _ fun v B3 H3 g3 r3 => by
    cases r3
    refine ⟨b1, rfl, ?_⟩
    cases b1 with
    | false => exact q _ B3 H3 ((g1.trans g2).trans g3) (.bl false)
    | true =>
      refine hc A B0 H0 B3 H3 σ (O.grow ((g1.trans g2).trans g3)) _ fun w B4 H4 g4 r4 => h2 B4 H4 y w g4.bh ((r2.grow g3).grow g4) r4 Q fun v B5 H5 g5 r5 => ?_
      exact q v B5 H5 ((((g1.trans g2).trans g3).trans g4).trans g5) r5

/-! ### tests -/
theorem et_test {b : Bool} (h : Ev K C te ss (.bl b)) : EvT K C (tTest te) ss b := fun A B0 H0 B H σ O Q q => h A B0 H0 B H σ O _ fun v B' H' g r => by
  cases r
  exact ⟨b, rfl, q B' H' g⟩
theorem et_B {b : Bool} (h : Ev K C te ss (.bl b)) : EvT K C (tB te) ss b := fun A B0 H0 B H σ O Q q => h A B0 H0 B H σ O _ fun v B' H' g r => by
  cases r
  exact ⟨b, rfl, q B' H' g⟩
theorem et_and {a b : Bool} (h1 : EvT K C t ss a) (h2 : a = true → EvT K C u ss b) : EvT K C (tAnd t u) ss (a && b) := fun A B0 H0 B H σ O Q q => h1 A B0 H0 B H σ O _ fun B' H' g => by
  cases a with
  | false => exact q B' H' g
  | true => exact h2 rfl A B0 H0 B' H' σ (O.grow g) Q fun B2 H2 g2 => q B2 H2 (g.trans g2)
theorem et_or {a b : Bool} (h1 : EvT K C t ss a) (h2 : a = false → EvT K C u ss b) : EvT K C (tOr t u) ss (a || b) := fun A B0 H0 B H σ O Q q => h1 A B0 H0 B H σ O _ fun B' H' g => by
  cases a with
  | true => exact q B' H' g
  | false => exact h2 rfl A B0 H0 B' H' σ (O.grow g) Q fun B2 H2 g2 => q B2 H2 (g.trans g2)
theorem et_not {a : Bool} (h : EvT K C t ss a) : EvT K C (tNot t) ss (!a) := fun A B0 H0 B H σ O Q q => h A B0 H0 B H σ O _ fun B' H' g => q B' H' g
theorem ev_andV {a b : Bool} (h1 : Ev K C ta ss (.bl a)) (h2 : a = true → Ev K C tb ss (.bl b)) : Ev K C (tAndV ta tb) ss (.bl (a && b)) := fun A B0 H0 B H σ O Q q => h1 A B0 H0 B H σ O _ fun v B' H' g r => by
  cases r
  refine ⟨a, rfl, ?_⟩
  cases a with
  | false => exact q _ B' H' g (.bl false)
  | true => exact h2 rfl A B0 H0 B' H' σ (O.grow g) Q fun v B2 H2 g2 r2 => q v B2 H2 (g.trans g2) r2
theorem ev_orV {a b : Bool} (h1 : Ev K C ta ss (.bl a)) (h2 : a = false → Ev K C tb ss (.bl b)) : Ev K C (tOrV ta tb) ss (.bl (a || b)) := fun A B0 H0 B H σ O Q q => h1 A B0 H0 B H σ O _ fun v B' H' g r => by
  cases r
  refine ⟨a, rfl, ?_⟩
  cases a with
  | true => exact q _ B' H' g (.bl true)
  | false => exact h2 rfl A B0 H0 B' H' σ (O.grow g) Q fun v B2 H2 g2 r2 => q v B2 H2 (g.trans g2) r2
theorem ev_notV {a : Bool} (h1 : Ev K C ta ss (.bl a)) : Ev K C (tNotV ta) ss (.bl (!a)) := fun A B0 H0 B H σ O Q q => h1 A B0 H0 B H σ O _ fun v B' H' g r => by
  cases r
  exact ⟨a, rfl, q _ B' H' g (.bl _)⟩

/-! ### arguments, displays, calls -/
theorem ea_nil : EvA K C tNil ss [] := fun A B0 H0 B H σ O Q q => q [] B H (Gr.refl O.ex) .nil
theorem ea_cons {tr : TA} {ds : List D} (h : Ev K C te ss d) (hr : EvA K C tr ss ds) : EvA K C (tCons te tr) ss (d :: ds) := fun A B0 H0 B H σ O Q q =>
  h A B0 H0 B H σ O _ fun v B1 H1 g1 r1 => hr A B0 H0 B1 H1 σ (O.grow g1) _ fun vs B2 H2 g2 r2 => q _ B2 H2 (g1.trans g2) (.cons (r1.mono g2.b) r2)
theorem ev_tup {ta : TA} {ds : List D} (h : EvA K C ta ss ds) (hl : ds.length ≤ 100000) : Ev K C (tTup ta) ss (.tup ds) := fun A B0 H0 B H σ O Q q =>
  h A B0 H0 B H σ O _ fun vs B1 H1 g1 r1 => ⟨by rw [r1.length]; exact Nat.le_trans hl (by decide), fun p hp => by
    have g : Gr [] B1 H1 (upd B1 p (.tup vs)) (upd H1 p (.tup vs)) := Gr.new g1.bh hp
    exact q _ _ _ (g1.trans g) (.tup (st_of upd_same) (r1.mono g.b))⟩
theorem evn_lst {ta : TA} {ds : List D} (h : EvA K C ta ss ds) (hl : ds.length ≤ 100000) : EvN K C (tLst ta) ss (.lst ds) := fun A B0 H0 B H σ O Q q =>
  h A B0 H0 B H σ O _ fun vs B1 H1 g1 r1 => ⟨by rw [r1.length]; exact Nat.le_trans hl (by decide), fun p hp => by
    exact q p B1 _ (g1.trans (Gr.newH g1.bh hp)) (none_back g1 hp) (none_b g1.bh hp) (.lst upd_same r1)⟩
theorem evn_dict : EvN K C tDNewK ss (.dct []) := fun A B0 H0 B H σ O Q q => fun p hp => q p B _ (Gr.newH O.ex hp) hp (none_b O.ex hp) (.dct upd_same .nil)
/-- what a def without effect promises -/
def spD {α : Type} (K : PySem.W.Frag) (enc : α → List D) (dom : α → Prop) (f : α → D) : Sp := fun vs H Q _ => ∃ (B : Hp) (a : α), Ex B H ∧ RepL K B (enc a) vs ∧ dom a ∧ ∀ v B' H', Gr [] B H B' H' → Rep K B' (f a) v → Q v H'
theorem ev_call {α : Type} {enc : α → List D} {dom : α → Prop} {f : α → D} {E : XK} {ta : TA} (a : α) (h : EvA K C ta ss (enc a)) (hd : dom a) : Ev K C (tCall (spD K enc dom f) [] E ta) ss (f a) := fun A B0 H0 B H σ O Q q =>
  h A B0 H0 B H σ O _ fun vs B1 H1 g1 r1 => ⟨B1, a, g1.bh, by rw [List.append_nil]; exact r1, hd, fun v B2 H2 g2 r2 => q v B2 H2 (g1.trans g2) r2⟩
theorem ev_cb {r : List V → Hp → VK → Prop} (h : EvX K C te ss d) (hr : RC K r d z) : Ev K C (tCB r (tCons te tNil)) ss z := fun A B0 H0 B H σ O Q q =>
  h A B0 H0 B H σ O _ fun v B1 H1 g1 r1 => hr B1 H1 v g1.bh r1 Q fun w B2 H2 g2 r2 => q w B2 H2 (g1.trans g2) r2
theorem evn_cb {r : List V → Hp → VK → Prop} (h : EvX K C te ss d) (hr : RCN K r d z) : EvN K C (tCB r (tCons te tNil)) ss z := fun A B0 H0 B H σ O Q q =>
  h A B0 H0 B H σ O _ fun v B1 H1 g1 r1 => hr B1 H1 v g1.bh r1 Q fun w B2 H2 g2 n nb r2 => q w B2 H2 (g1.trans g2) (none_back g1 n) nb r2
/-- len -/
def rLenS (K : PySem.W.Frag) : List V → Hp → VK → Prop := fun args hp Q => ∃ (at_ : Addr) (its : List V), args = [.ref at_] ∧ (SqL K hp at_ its ∨ SqT K hp at_ its) ∧ Q (.int its.length) hp
theorem rc_lenL {l : List D} : RC K (rLenS K) (.lst l) (.int l.length) := fun B H x E h Q q => by
  obtain ⟨p, xs, rfl, a, c⟩ := h
  refine ⟨p, xs, rfl, .inl (sl_of a), ?_⟩
  rw [c.length]
  exact q _ B H (Gr.refl E) (.int _)
theorem rc_lenT {l : List D} : RC K (rLenS K) (.tup l) (.int l.length) := fun B H x E h Q q => by
  cases h with
  | tup a c =>
    refine ⟨_, _, rfl, .inr (ex_t E a), ?_⟩
    rw [c.length]
    exact q _ B H (Gr.refl E) (.int _)
theorem rc_lenS {l : List Int} : RC K (rLenS K) (.scr l) (.int l.length) := fun B H x E h Q q => by
  cases h with
  | scr a =>
    refine ⟨_, _, rfl, .inl (ex_l E a), ?_⟩
    rw [List.length_map]
    exact q _ B H (Gr.refl E) (.int _)
/-- int -/
def rIntB : List V → Hp → VK → Prop := fun xs H Q => (∃ i, xs = [.int i] ∧ Q (.int i) H) ∨ ∃ k, xs = [.bl k] ∧ Q (.int (if k then 1 else 0)) H
theorem rc_int {i : Int} : RC K rIntB (.int i) (.int i) := fun B H x E h Q q => by
  cases h
  exact .inl ⟨i, rfl, q _ B H (Gr.refl E) (.int i)⟩
theorem rc_intb {k : Bool} : RC K rIntB (.bl k) (.int (if k then 1 else 0)) := fun B H x E h Q q => by
  cases h
  exact .inr ⟨k, rfl, q _ B H (Gr.refl E) (.int _)⟩
/-- list(..), tuple(..), dict(..) -/
def rListS (K : PySem.W.Frag) : List V → Hp → VK → Prop := fun args hp Q => ∃ (at_ : Addr) (its : List V), args = [.ref at_] ∧ (SqL K hp at_ its ∨ SqT K hp at_ its) ∧ ∀ to, hp to = none → Q (.ref to) (upd hp to (.lst its))
theorem rcn_list {l : List D} : RCN K (rListS K) (.lst l) (.lst l) := fun B H x E h Q q => by
  obtain ⟨p, xs, rfl, a, c⟩ := h
  exact ⟨p, xs, rfl, .inl (sl_of a), fun m hm => q m B _ (Gr.newH E hm) hm (none_b E hm) (.lst upd_same c)⟩
def rTupS (K : PySem.W.Frag) : List V → Hp → VK → Prop := fun xs H Q => ∃ p ys, xs = [.ref p] ∧ ((SqL K H p ys ∧ ∀ l, H l = none → Q (.ref l) (upd H l (.tup ys))) ∨ (SqT K H p ys ∧ Q (.ref p) H))
theorem rc_tupT {l : List D} : RC K (rTupS K) (.tup l) (.tup l) := fun B H x E h Q q => by
  cases h with
  | tup a c => exact ⟨_, _, rfl, .inr ⟨ex_t E a, q _ B H (Gr.refl E) (.tup a c)⟩⟩
theorem rc_tupL {l : List D} : RC K (rTupS K) (.lst l) (.tup l) := fun B H x E h Q q => by
  obtain ⟨p, xs, rfl, a, c⟩ := h
  refine ⟨p, xs, rfl, .inl ⟨sl_of a, fun m hm => ?_⟩⟩
  have g : Gr [] B H (upd B m (.tup xs)) (upd H m (.tup xs)) := Gr.new E hm
  exact q _ _ _ g (.tup (st_of upd_same) (c.mono g.b))
def rDictS : List V → Hp → VK → Prop := fun xs H Q => ∃ (a : Addr) (kvs : List (Key × V)), xs = [.ref a] ∧ Rd H a (.dK kvs) ∧ ∀ p, H p = none → Q (.ref p) (upd H p (.dK kvs))
theorem rcn_dict {l : List (Int × D)} : RCN K rDictS (.dct l) (.dct l) := fun B H x E h Q q => by
  obtain ⟨p, kvs, rfl, a, c⟩ := h
  exact ⟨p, kvs, rfl, .inl a, fun m hm => q m B _ (Gr.newH E hm) hm (none_b E hm) (.dct upd_same c)⟩
/-- all, max -/
theorem rc_all {bs : List Bool} : RC K (rAll K) (.lst (bs.map D.bl)) (.bl (bs.all id)) := fun B H x E h Q q => by
  obtain ⟨p, xs, rfl, a, c⟩ := h
  rw [c.of_bls] at a
  exact ⟨p, bs, rfl, sl_of a, q _ B H (Gr.refl E) (.bl _)⟩
theorem rc_max {ns : List Int} {m : Int} (h1 : m ∈ ns) (h2 : ∀ y ∈ ns, y ≤ m) : RC K (rMax K) (.lst (ns.map D.int)) (.int m) := fun B H x E h Q q => by
  obtain ⟨p, xs, rfl, a, c⟩ := h
  rw [c.of_ints] at a
  refine ⟨p, ns, rfl, sl_of a, List.length_pos_of_mem h1, fun m' h1' h2' => ?_⟩
  have e : m' = m := Int.le_antisymm (h2 _ h1') (h2' _ h1)
  rw [e]
  exact q _ B H (Gr.refl E) (.int _)
def rMin2 : List V → Hp → VK → Prop := fun xs H Q => ∃ i j, xs = [.int i, .int j] ∧ Q (.int (if j < i then j else i)) H
theorem ev_min2 {i j : Int} (ha : Ev K C ta ss (.int i)) (hb : Ev K C tb ss (.int j)) : Ev K C (tCB rMin2 (tCons ta (tCons tb tNil))) ss (.int (if j < i then j else i)) := fun A B0 H0 B H σ O Q q =>
  ha A B0 H0 B H σ O _ fun x B1 H1 g1 r1 => hb A B0 H0 B1 H1 σ (O.grow g1) _ fun y B2 H2 g2 r2 => by
    cases r1
    cases r2
    exact ⟨i, j, rfl, q _ B2 H2 (g1.trans g2) (.int _)⟩
/-! ### slices -/
def cutD (l : List D) (lo hi : Option Int) : List D := (l.drop (HT.sIx l.length 0 lo)).take (HT.sIx l.length l.length hi - HT.sIx l.length 0 lo)
theorem eo_none : EvO K C tNoPart ss none := fun A B0 H0 B H σ O Q q => q B H (Gr.refl O.ex)
theorem eo_some {i : Int} (h : Ev K C te ss (.int i)) : EvO K C (tPart te) ss (some i) := fun A B0 H0 B H σ O Q q => h A B0 H0 B H σ O _ fun v B1 H1 g r => by
  cases r
  exact ⟨i, rfl, q B1 H1 g⟩
theorem ev_sl {l : List D} {tl th : TO} {lo hi : Option Int} (h : EvX K C te ss (.tup l)) (hl : EvO K C tl ss lo) (hh : EvO K C th ss hi) : Ev K C (tSl (rSlA K) te tl th) ss (.tup (cutD l lo hi)) := fun A B0 H0 B H σ O Q q =>
  h A B0 H0 B H σ O _ fun v B1 H1 g1 r1 => hl A B0 H0 B1 H1 σ (O.grow g1) _ fun B2 H2 g2 => hh A B0 H0 B2 H2 σ (O.grow (g1.trans g2)) _ fun B3 H3 g3 => by
    have g := (g1.trans g2).trans g3
    cases r1 with
    | tup a c =>
      have a' := ex_t (g3.bh) (ex_t (g2.trans g3).b a)
      have c' := c.mono (g2.trans g3).b
      refine ⟨_, _, rfl, a', fun z => ?_, fun z p hp => ?_⟩
      · have e : cutD l lo hi = l := by
          unfold cutD
          rw [← c.length, z.1, z.2, List.drop_zero, Nat.sub_zero, c.length]
          exact List.take_length
        rw [e] at q
        exact q _ B3 H3 g (.tup (ex_t (g2.trans g3).b a) c')
      · refine tup_new (fun v B' H' gg r => q v B' H' (g.trans gg) r) ?_ g.bh hp
        unfold cutV cutD
        rw [← c.length]
        exact (c'.drop _).take _
/-! ### dicts -/
theorem ev_dget {l : List (Int × D)} {k : Int} (ha : EvX K C ta ss (.dct l)) (hb : Ev K C tb ss (.int k)) (h : look l k = some z) : Ev K C (tDGet ta tb) ss z := fun A B0 H0 B H σ O Q q =>
  ha A B0 H0 B H σ O _ fun x B1 H1 g1 r1 => hb A B0 H0 B1 H1 σ (O.grow g1) _ fun y B2 H2 g2 r2 => by
    obtain ⟨p, kvs, rfl, a, c⟩ := r1.grow g2
    cases r2
    obtain ⟨v, e1, e2⟩ := c.some_of h
    have z1 := DGet.k (k := (Sum.inl k : Key)) a
    rw [e1] at z1
    exact ⟨p, v, rfl, z1, q _ B2 H2 (g1.trans g2) e2⟩
theorem ev_din {l : List (Int × D)} {k : Int} (ha : Ev K C ta ss (.int k)) (hb : EvX K C tb ss (.dct l)) : Ev K C (tDIn ta tb) ss (.bl (look l k).isSome) := fun A B0 H0 B H σ O Q q =>
  ha A B0 H0 B H σ O _ fun x B1 H1 g1 r1 => hb A B0 H0 B1 H1 σ (O.grow g1) _ fun y B2 H2 g2 r2 => by
    obtain ⟨p, kvs, rfl, a, c⟩ := r2
    cases r1
    refine ⟨p, _, rfl, DGet.k (k := (Sum.inl k : Key)) a, ?_⟩
    rw [c.isSome]
    exact q _ B2 H2 (g1.trans g2) (.bl _)
theorem ev_dnin {l : List (Int × D)} {k : Int} (ha : Ev K C ta ss (.int k)) (hb : EvX K C tb ss (.dct l)) : Ev K C (tDNotIn ta tb) ss (.bl (!(look l k).isSome)) := fun A B0 H0 B H σ O Q q =>
  ha A B0 H0 B H σ O _ fun x B1 H1 g1 r1 => hb A B0 H0 B1 H1 σ (O.grow g1) _ fun y B2 H2 g2 r2 => by
    obtain ⟨p, kvs, rfl, a, c⟩ := r2
    cases r1
    refine ⟨p, _, rfl, DGet.k (k := (Sum.inl k : Key)) a, ?_⟩
    rw [c.isSome]
    exact q _ B2 H2 (g1.trans g2) (.bl _)
theorem RepK.getD {l : List (Int × D)} {kvs : List (Key × V)} (r : RepK K B l kvs) {k : Int} {d : D} {v : V} (h : Rep K B d v) : Rep K B ((look l k).getD d) ((valV kvs (Sum.inl k : Key)).getD v) := by
  cases e : look l k with
  | none => rw [r.none_of e]; exact h
  | some z => obtain ⟨w, e1, e2⟩ := r.some_of e; rw [e1]; exact e2
theorem ev_dget1 {l : List (Int × D)} {k : Int} (ha : EvX K C ta ss (.dct l)) (hb : Ev K C tb ss (.int k)) : Ev K C (tDGet1 ta tb) ss ((look l k).getD .non) := fun A B0 H0 B H σ O Q q =>
  ha A B0 H0 B H σ O _ fun x B1 H1 g1 r1 => by
    obtain ⟨p, kvs, rfl, a, c⟩ := r1
    refine ⟨p, rfl, .inl ⟨kvs, .inl a⟩, hb A B0 H0 B1 H1 σ (O.grow g1) _ fun y B2 H2 g2 r2 => ?_⟩
    cases r2
    exact ⟨_, DGet.k (k := (Sum.inl k : Key)) (g2.ex _ _ a), q _ B2 H2 (g1.trans g2) ((c.mono g2.b).getD .non)⟩
theorem ev_dget2 {l : List (Int × D)} {k : Int} (ha : EvX K C ta ss (.dct l)) (hb : Ev K C tb ss (.int k)) (hc : Ev K C tc ss d) : Ev K C (tDGet2 ta tb tc) ss ((look l k).getD d) := fun A B0 H0 B H σ O Q q =>
  ha A B0 H0 B H σ O _ fun x B1 H1 g1 r1 => by
    obtain ⟨p, kvs, rfl, a, c⟩ := r1
    refine ⟨p, rfl, .inl ⟨kvs, .inl a⟩, hb A B0 H0 B1 H1 σ (O.grow g1) _ fun y B2 H2 g2 r2 => hc A B0 H0 B2 H2 σ (O.grow (g1.trans g2)) _ fun w B3 H3 g3 r3 => ?_⟩
    cases r2
    exact ⟨_, DGet.k (k := (Sum.inl k : Key)) ((g2.trans g3).ex _ _ a), q _ B3 H3 ((g1.trans g2).trans g3) ((c.mono (g2.trans g3).b).getD r3)⟩
end
end Esp

/-! D-logic, part 4: statements, loops, comprehensions, a def's body. -/
namespace Esp
open PySem L2 PyProof.Rows PySem.Spec

def Do (K : PySem.W.Frag) (C : Addr) (A : List Addr) (B0 H0 : Hp) (t : TS) (ss : List Sl) (nx bk ct : List Sl → Prop) (rt : D → List Sl → Prop) : Prop :=
  ∀ (E : Ends) (B H : Hp) (σ : L2.St), Ok K C A B0 H0 B H σ ss → (∀ B' H' σ' ss', Ex B B' → Ok K C A B0 H0 B' H' σ' ss' → nx ss' → E.nx σ' H') → (∀ B' H' σ' ss', Ex B B' → Ok K C A B0 H0 B' H' σ' ss' → bk ss' → E.bk σ' H') →
    (∀ B' H' σ' ss', Ex B B' → Ok K C A B0 H0 B' H' σ' ss' → ct ss' → E.ct σ' H') → (∀ B' H' σ' ss' d v, Ex B B' → Ok K C A B0 H0 B' H' σ' ss' → Rep K B' d v → rt d ss' → E.rt v H') → t E σ H
section
variable {K : PySem.W.Frag} {C : Addr} {A : List Addr} {B0 H0 : Hp} {t u : TS} {ss : List Sl} {nx bk ct nx' bk' ct' : List Sl → Prop} {rt rt' : D → List Sl → Prop} {te ta tb ti ty tv : TE} {tt : TT} {d e : D}
theorem do_imp (h : Do K C A B0 H0 t ss nx bk ct rt) (h1 : ∀ s, nx s → nx' s) (h2 : ∀ s, bk s → bk' s) (h3 : ∀ s, ct s → ct' s) (h4 : ∀ d s, rt d s → rt' d s) : Do K C A B0 H0 t ss nx' bk' ct' rt' :=
  fun E B H σ O a b c r => h E B H σ O (fun B' H' σ' s x y z => a B' H' σ' s x y (h1 s z)) (fun B' H' σ' s x y z => b B' H' σ' s x y (h2 s z)) (fun B' H' σ' s x y z => c B' H' σ' s x y (h3 s z)) (fun B' H' σ' s d v x y w z => r B' H' σ' s d v x y w (h4 d s z))
theorem do_seq (h : Do K C A B0 H0 t ss (fun s => Do K C A B0 H0 u s nx bk ct rt) bk ct rt) : Do K C A B0 H0 (tSeq t u) ss nx bk ct rt :=
  fun E B H σ O a b c r => h { E with nx := u E } B H σ O (fun B' H' σ' s x y z => z E B' H' σ' y (fun B2 H2 σ2 s2 x2 => a B2 H2 σ2 s2 (x.trans x2)) (fun B2 H2 σ2 s2 x2 => b B2 H2 σ2 s2 (x.trans x2)) (fun B2 H2 σ2 s2 x2 => c B2 H2 σ2 s2 (x.trans x2)) (fun B2 H2 σ2 s2 d v x2 => r B2 H2 σ2 s2 d v (x.trans x2))) b c r
theorem do_next (h : nx ss) : Do K C A B0 H0 tNext ss nx bk ct rt := fun E B H σ O a b c r => a B H σ ss (Same.refl B) O h
theorem do_break (h : bk ss) : Do K C A B0 H0 tBreak ss nx bk ct rt := fun E B H σ O a b c r => b B H σ ss (Same.refl B) O h
theorem do_ret (h : Ev K C te ss d) (hr : rt d ss) : Do K C A B0 H0 (tRet te) ss nx bk ct rt := fun E B H σ O a b c r => h A B0 H0 B H σ O _ fun v B' H' g q => r B' H' σ ss d v g.b (O.grow g) q hr
theorem do_asg {i : Nat} (h : Ev K C te ss d) (hn : nx (ss.set i (.val d))) (hi : i < ss.length) : Do K C A B0 H0 (tAsg te (gName i)) ss nx bk ct rt := fun E B H σ O a b c r =>
  h A B0 H0 B H σ O _ fun v B' H' g q => a B' H' _ _ g.b ((O.grow g).setVal hi q) hn
theorem do_asgN {i : Nat} (h : EvN K C te ss d) (hn : nx (ss.set i (.own d))) (hi : i < ss.length) : Do K C A B0 H0 (tAsg te (gName i)) ss nx bk ct rt := fun E B H σ O a b c r =>
  h A B0 H0 B H σ O _ fun v B' H' g n nb q => a B' H' _ _ g.b (O.setOwn hi g n nb q) hn
theorem do_drop (h : Ev K C te ss d) (hn : nx ss) : Do K C A B0 H0 (tDrop te) ss nx bk ct rt := fun E B H σ O a b c r => h A B0 H0 B H σ O _ fun v B' H' g q => a B' H' σ ss g.b (O.grow g) hn
theorem do_if {b' : Bool} {c' : TT} (h : EvT K C c' ss b') (h1 : b' = true → Do K C A B0 H0 t ss nx bk ct rt) (h2 : b' = false → Do K C A B0 H0 u ss nx bk ct rt) : Do K C A B0 H0 (tIfS c' t u) ss nx bk ct rt := fun E B H σ O a b c r =>
  h A B0 H0 B H σ O _ fun B' H' g => by
    have a' := fun B2 H2 σ2 s2 (x2 : Ex B' B2) => a B2 H2 σ2 s2 (g.b.trans x2)
    have b2 := fun B2 H2 σ2 s2 (x2 : Ex B' B2) => b B2 H2 σ2 s2 (g.b.trans x2)
    have c2 := fun B2 H2 σ2 s2 (x2 : Ex B' B2) => c B2 H2 σ2 s2 (g.b.trans x2)
    have r2 := fun B2 H2 σ2 s2 d v (x2 : Ex B' B2) => r B2 H2 σ2 s2 d v (g.b.trans x2)
    cases b' with
    | true => exact h1 rfl E B' H' σ (O.grow g) a' b2 c2 r2
    | false => exact h2 rfl E B' H' σ (O.grow g) a' b2 c2 r2
/-- an object of one's own is shown for good from here on -/
theorem do_freeze (i : Nat) {d : D} (hi : ss[i]? = some (.own d)) (h : Do K C A B0 H0 t (ss.set i (.val d)) nx bk ct rt) : Do K C A B0 H0 t ss nx bk ct rt := fun E B H σ O a b c r => by
  obtain ⟨B', g, O'⟩ := O.freeze hi
  exact h E B' H σ O' (fun B2 H2 σ2 s2 x2 => a B2 H2 σ2 s2 (g.trans x2)) (fun B2 H2 σ2 s2 x2 => b B2 H2 σ2 s2 (g.trans x2)) (fun B2 H2 σ2 s2 x2 => c B2 H2 σ2 s2 (g.trans x2)) (fun B2 H2 σ2 s2 d v x2 => r B2 H2 σ2 s2 d v (g.trans x2))
theorem set_set (l : List Sl) (i : Nat) (x y : Sl) : (l.set i x).set i y = l.set i y := by simp
/-- xs.append(e), a list of one's own -/
theorem do_app {i : Nat} {l : List D} (hi : ss[i]? = some (.own (.lst l))) (h : Ev K C te ss d) (hl : l.length < 100000) (hn : nx (ss.set i (.own (.lst (l ++ [d]))))) :
    Do K C A B0 H0 (tDrop (tBM K "list" rAppend (tVar i) (tCons te tNil))) ss nx bk ct rt := fun E B H σ O a b c r => by
  obtain ⟨fp, O'⟩ := id O
  obtain ⟨p, e, _, _, o⟩ := O'.at hi
  cases o with
  | lst o1 o2 =>
    refine ⟨_, e, .inl ⟨rfl, _, sl_of o1⟩, h A B0 H0 B H σ O _ fun v B' H' g q => ?_⟩
    refine ⟨p, _, v, rfl, rfl, g.ex _ _ o1, by rw [o2.length]; exact Nat.lt_of_lt_of_le hl (by decide), ?_⟩
    exact a B' _ σ _ g.b ((O.grow g).write hi e (.lst upd_same ((o2.mono g.b).append (.cons q .nil)))) hn
/-- d[k] = e, a dict of one's own -/
theorem do_dput {i : Nat} {l : List (Int × D)} {k : Int} (hi : ss[i]? = some (.own (.dct l))) (h : Ev K C tv ss d) (hk : Ev K C ty ss (.int k)) (hl : l.length < 100000) (hn : nx (ss.set i (.own (.dct (put l k d))))) :
    Do K C A B0 H0 (sDPut (tVar i) ty tv) ss nx bk ct rt := fun E B H σ O a b c r => by
  obtain ⟨fp, O'⟩ := id O
  obtain ⟨p, e, _, _, o⟩ := O'.at hi
  cases o with
  | dct o1 o2 =>
    refine h A B0 H0 B H σ O _ fun v B' H' g q => ⟨_, e, hk A B0 H0 B' H' σ (O.grow g) _ fun w B2 H2 g2 q2 => ?_⟩
    cases q2
    have g3 := g.trans g2
    refine ⟨p, _, rfl, DPut.k (k := (Sum.inl k : Key)) (g3.ex _ _ o1) (by rw [o2.length]; exact Nat.lt_of_lt_of_le hl (by decide)), ?_⟩
    exact a B2 _ σ _ g3.b ((O.grow g3).write hi e (.dct upd_same ((o2.mono g3.b).put (q.mono g2.b)))) hn
/-- d.pop(k) -/
theorem do_dpop {i : Nat} {l : List (Int × D)} {k : Int} (hi : ss[i]? = some (.own (.dct l))) (hk : Ev K C ty ss (.int k)) (hh : (look l k).isSome = true) (hn : nx (ss.set i (.own (.dct (drop l k))))) :
    Do K C A B0 H0 (tDrop (tDPop1 (tVar i) ty)) ss nx bk ct rt := fun E B H σ O a b c r => by
  obtain ⟨fp, O'⟩ := id O
  obtain ⟨p, e, _, _, o⟩ := O'.at hi
  cases o with
  | dct o1 o2 =>
    refine ⟨_, e, p, rfl, .inl ⟨_, .inl o1⟩, hk A B0 H0 B H σ O _ fun w B2 H2 g2 q2 => ?_⟩
    cases q2
    obtain ⟨z, hz⟩ := Option.isSome_iff_exists.mp hh
    obtain ⟨v, e1, e2⟩ := o2.some_of hz
    refine ⟨_, (Sum.inl k : Key), v, g2.ex _ _ o1, rfl, e1, ?_⟩
    exact a B2 _ σ _ g2.b ((O.grow g2).write hi e (.dct upd_same ((o2.mono g2.b).drop k))) hn
/-- xs[k] = e -/
theorem do_setL {i : Nat} {l : List D} {k : Int} {j : Nat} (hi : ss[i]? = some (.own (.lst l))) (h : Ev K C te ss d) (hk : Ev K C ti ss (.int k)) (hj : ixN l.length k = some j) (hn : nx (ss.set i (.own (.lst (l.set j d))))) :
    Do K C A B0 H0 (tAsg te (gSub (tVar i) ti rSetL)) ss nx bk ct rt := fun E B H σ O a b c r => by
  obtain ⟨fp, O'⟩ := id O
  obtain ⟨p, e, _, _, o⟩ := O'.at hi
  cases o with
  | lst o1 o2 =>
    refine h A B0 H0 B H σ O _ fun v B' H' g q => ⟨_, e, hk A B0 H0 B' H' σ (O.grow g) _ fun w B2 H2 g2 q2 => ?_⟩
    cases q2
    have g3 := g.trans g2
    refine ⟨p, _, k, j, rfl, rfl, g3.ex _ _ o1, by rw [o2.length]; exact hj, ?_⟩
    exact a B2 _ σ _ g3.b ((O.grow g3).write hi e (.lst upd_same ((o2.mono g3.b).set (q.mono g2.b) j))) hn
/-- a, b = e1, e2 -/
theorem do_par {i j : Nat} {ta : TA} (h : EvA K C ta ss [d, e]) (hn : nx ((ss.set i (.val d)).set j (.val e))) (hi : i < ss.length) (hj : j < ss.length) : Do K C A B0 H0 (tPar i j ta) ss nx bk ct rt := fun E B H σ O a b c r =>
  h A B0 H0 B H σ O _ fun vs B' H' g q => by
    cases q with
    | cons q1 q2 =>
      cases q2 with
      | cons q2 q3 =>
        cases q3
        exact ⟨_, _, rfl, a B' H' _ _ g.b (((O.grow g).setVal hi q1).setVal (by rw [List.length_set]; exact hj) q2) hn⟩
theorem do_par3 {i j l : Nat} {ta : TA} {f : D} (h : EvA K C ta ss [d, e, f]) (hn : nx (((ss.set i (.val d)).set j (.val e)).set l (.val f))) (hi : i < ss.length) (hj : j < ss.length) (hl : l < ss.length) :
    Do K C A B0 H0 (tPar3 i j l ta) ss nx bk ct rt := fun E B H σ O a b c r =>
  h A B0 H0 B H σ O _ fun vs B' H' g q => by
    cases q with
    | cons q1 q2 =>
      cases q2 with
      | cons q2 q3 =>
        cases q3 with
        | cons q3 q4 =>
          cases q4
          exact ⟨_, _, _, rfl, a B' H' _ _ g.b ((((O.grow g).setVal hi q1).setVal (by rw [List.length_set]; exact hj) q2).setVal (by rw [List.length_set, List.length_set]; exact hl) q3) hn⟩
/-! ### targets -/
def GOk (K : PySem.W.Frag) (C : Addr) (A : List Addr) (B0 H0 : Hp) (g : TG) (d : D) (ss ss' : List Sl) : Prop := ∀ (B H : Hp) (σ : L2.St) (v : V), Ok K C A B0 H0 B H σ ss → Rep K B d v → ∀ Q : L2.St → Hp → Prop, (∀ σ', Ok K C A B0 H0 B H σ' ss' → Q σ' H) → g v σ H Q
def GsOk (K : PySem.W.Frag) (C : Addr) (A : List Addr) (B0 H0 : Hp) (g : TGs) (ds : List D) (ss ss' : List Sl) : Prop := ∀ (B H : Hp) (σ : L2.St) (vs : List V), Ok K C A B0 H0 B H σ ss → RepL K B ds vs → ∀ Q : L2.St → Hp → Prop, (∀ σ', Ok K C A B0 H0 B H σ' ss' → Q σ' H) → g vs σ H Q
theorem g_name {i : Nat} (hi : i < ss.length) : GOk K C A B0 H0 (gName i) d ss (ss.set i (.val d)) := fun B H σ v O r Q q => q _ (O.setVal hi r)
theorem gs_nil : GsOk K C A B0 H0 gNil [] ss ss := fun B H σ vs O r Q q => by
  cases r
  exact ⟨rfl, q _ O⟩
theorem gs_cons {g : TG} {gs : TGs} {ds : List D} {s1 s2 : List Sl} (h : GOk K C A B0 H0 g d ss s1) (hs : GsOk K C A B0 H0 gs ds s1 s2) : GsOk K C A B0 H0 (gCons g gs) (d :: ds) ss s2 := fun B H σ vs O r Q q => by
  cases r with
  | cons a b => exact ⟨_, _, rfl, h B H σ _ O a _ fun σ' O' => hs B H σ' _ O' b Q q⟩
theorem g_tup {gs : TGs} {ds : List D} {s1 : List Sl} {n : Nat} (h : GsOk K C A B0 H0 gs ds ss s1) (hn : ds.length = n) : GOk K C A B0 H0 (gTup K n gs) (.tup ds) ss s1 := fun B H σ v O r Q q => by
  cases r with
  | tup a b => exact ⟨_, _, rfl, ex_t O.ex a, by rw [b.length]; exact hn, h B H σ _ O b Q q⟩
theorem do_asgG {g : TG} {s1 : List Sl} (h : Ev K C te ss d) (hg : GOk K C A B0 H0 g d ss s1) (hn : nx s1) : Do K C A B0 H0 (tAsg te g) ss nx bk ct rt := fun E B H σ O a b c r =>
  h A B0 H0 B H σ O _ fun v B' H' g' q => hg B' H' σ v (O.grow g') q _ fun σ' O' => a B' H' σ' s1 g'.b O' hn
/-! ### loops -/
theorem do_range {lo : Int} {n : Nat} {g : TG} {wi : TI} {B H : Hp} {σ : L2.St} {E : Ends} (O : Ok K C A B0 H0 B H σ ss) (a : ∀ B' H' σ' ss', Ex B B' → Ok K C A B0 H0 B' H' σ' ss' → nx ss' → E.nx σ' H') (r : ∀ B' H' σ' ss' d v, Ex B B' → Ok K C A B0 H0 B' H' σ' ss' → Rep K B' d v → rt d ss' → E.rt v H')
    (I : Nat → List Sl → Prop) (h0 : I 0 ss) (hs : ∀ i ss', i < n → I i ss' → ∃ s2, GOk K C A B0 H0 g (.int (lo + i)) ss' s2 ∧ Do K C A B0 H0 t s2 (I (i + 1)) nx (I (i + 1)) rt) (hd : ∀ ss', I n ss' → nx ss') :
    ∃ W : Nat → Nat → L2.St → Hp → Prop, (∃ m, W 0 m σ H) ∧ ∀ i m σ H, W i m σ H →
      ((Itr lo n).stop i H ∧ E.nx σ H) ∨ ((Itr lo n).go i H ∧ ∃ N : L2.St → Hp → Prop, (∀ σ' H', N σ' H' → ∃ m', m' < m ∧ W (i + 1) m' σ' H') ∧ ∀ x H', (Itr lo n).yld i H x H' → g x σ H' fun σ2 H2 => t { E with nx := N, ct := N, bk := E.nx } σ2 H2) := by
  refine for_range (fun i σ' H' => ∃ B' ss', Ex B B' ∧ Ok K C A B0 H0 B' H' σ' ss' ∧ I i ss') ⟨B, ss, Same.refl B, O, h0⟩ (fun i σ' H' hi ⟨B', ss', x, O', w⟩ => ?_) (fun σ' H' ⟨B', ss', x, O', w⟩ => a B' H' σ' ss' x O' (hd ss' w))
  obtain ⟨s2, hg, hb⟩ := hs i ss' hi w
  refine hg B' H' σ' _ O' (.int _) _ fun σ2 O2 => hb _ B' H' σ2 O2 ?_ ?_ ?_ ?_
  · exact fun B2 H2 σ2 s2 x2 O2 w2 => ⟨B2, s2, x.trans x2, O2, w2⟩
  · exact fun B2 H2 σ2 s2 x2 O2 w2 => a B2 H2 σ2 s2 (x.trans x2) O2 w2
  · exact fun B2 H2 σ2 s2 x2 O2 w2 => ⟨B2, s2, x.trans x2, O2, w2⟩
  · exact fun B2 H2 σ2 s2 d v x2 O2 w2 w3 => r B2 H2 σ2 s2 d v (x.trans x2) O2 w2 w3
theorem do_forR1 {g : TG} {ta : TA} {n : Int} (h : EvA K C ta ss [.int n]) (hn : -(2 ^ 62) ≤ n ∧ n < 2 ^ 62) (I : Nat → List Sl → Prop) (h0 : I 0 ss)
    (hs : ∀ i ss', i < n.toNat → I i ss' → ∃ s2, GOk K C A B0 H0 g (.int (0 + i)) ss' s2 ∧ Do K C A B0 H0 t s2 (I (i + 1)) nx (I (i + 1)) rt) (hd : ∀ ss', I n.toNat ss' → nx ss') : Do K C A B0 H0 (tFor (iRng1 ta) g t) ss nx bk ct rt := fun E B H σ O a b c r =>
  h A B0 H0 B H σ O _ fun vs B' H' g' q => by
    cases q with
    | cons q1 q2 =>
      cases q1
      cases q2
      exact ⟨n, rfl, hn.1, hn.2, do_range (wi := iRng1 ta) (O.grow g') (fun B2 H2 σ2 s2 x2 => a B2 H2 σ2 s2 (g'.b.trans x2)) (fun B2 H2 σ2 s2 d v x2 => r B2 H2 σ2 s2 d v (g'.b.trans x2)) I h0 hs hd⟩
theorem do_forR2 {g : TG} {ta : TA} {lo hi : Int} (h : EvA K C ta ss [.int lo, .int hi]) (hn : (-(2 ^ 62) ≤ lo ∧ lo < 2 ^ 62) ∧ -(2 ^ 62) ≤ hi ∧ hi < 2 ^ 62) (I : Nat → List Sl → Prop) (h0 : I 0 ss)
    (hs : ∀ i ss', i < (hi - lo).toNat → I i ss' → ∃ s2, GOk K C A B0 H0 g (.int (lo + i)) ss' s2 ∧ Do K C A B0 H0 t s2 (I (i + 1)) nx (I (i + 1)) rt) (hd : ∀ ss', I (hi - lo).toNat ss' → nx ss') : Do K C A B0 H0 (tFor (iRng2 ta) g t) ss nx bk ct rt := fun E B H σ O a b c r =>
  h A B0 H0 B H σ O _ fun vs B' H' g' q => by
    cases q with
    | cons q1 q2 =>
      cases q1
      cases q2 with
      | cons q2 q3 =>
        cases q2
        cases q3
        exact ⟨lo, hi, rfl, ⟨hn.1.1, hn.1.2, hn.2.1, hn.2.2⟩, do_range (wi := iRng2 ta) (O.grow g') (fun B2 H2 σ2 s2 x2 => a B2 H2 σ2 s2 (g'.b.trans x2)) (fun B2 H2 σ2 s2 d v x2 => r B2 H2 σ2 s2 d v (g'.b.trans x2)) I h0 hs hd⟩
/-- range(a, b, -1) -/
theorem do_forR3 {g : TG} {ta : TA} {lo hi c' : Int} {n : Nat} (h : EvA K C ta ss [.int lo, .int hi, .int c']) (hn : RgC lo hi c' n) (I : Nat → List Sl → Prop) (h0 : I 0 ss)
    (hs : ∀ (i : Nat) ss', i < n → I i ss' → ∃ s2, GOk K C A B0 H0 g (.int (lo + (i : Nat) * c')) ss' s2 ∧ Do K C A B0 H0 t s2 (I (i + 1)) nx (I (i + 1)) rt) (hd : ∀ ss', I n ss' → nx ss') : Do K C A B0 H0 (tFor (iRng3 ta) g t) ss nx bk ct rt := fun E B H σ O a b c r =>
  h A B0 H0 B H σ O _ fun vs B' H' g' q => by
    cases q with
    | cons q1 q2 =>
      cases q1
      cases q2 with
      | cons q2 q3 =>
        cases q2
        cases q3 with
        | cons q3 q4 =>
          cases q3
          cases q4
          refine ⟨lo, hi, c', n, rfl, hn, ?_⟩
          refine for_rangeC (fun i σ' H' => ∃ B' ss', Ex B B' ∧ Ok K C A B0 H0 B' H' σ' ss' ∧ I i ss') ⟨B', ss, g'.b, O.grow g', h0⟩ (fun i σ' H' hi ⟨B', ss', x, O', w⟩ => ?_) (fun σ' H' ⟨B', ss', x, O', w⟩ => a B' H' σ' ss' x O' (hd ss' w))
          obtain ⟨s2, hg, hb⟩ := hs i ss' hi w
          refine hg B' H' σ' _ O' (.int _) _ fun σ2 O2 => hb _ B' H' σ2 O2 ?_ ?_ ?_ ?_
          · exact fun B2 H2 σ2 s2 x2 O2 w2 => ⟨B2, s2, x.trans x2, O2, w2⟩
          · exact fun B2 H2 σ2 s2 x2 O2 w2 => a B2 H2 σ2 s2 (x.trans x2) O2 w2
          · exact fun B2 H2 σ2 s2 x2 O2 w2 => ⟨B2, s2, x.trans x2, O2, w2⟩
          · exact fun B2 H2 σ2 s2 d v x2 O2 w2 w3 => r B2 H2 σ2 s2 d v (x.trans x2) O2 w2 w3
theorem do_forL {g : TG} {tl : TE} {l : List D} (h : Ev K C tl ss (.lst l)) (I : Nat → List Sl → Prop) (h0 : I 0 ss)
    (hs : ∀ i d ss', l[i]? = some d → I i ss' → ∃ s2, GOk K C A B0 H0 g d ss' s2 ∧ Do K C A B0 H0 t s2 (I (i + 1)) nx (I (i + 1)) rt) (hd : ∀ ss', I l.length ss' → nx ss') : Do K C A B0 H0 (tFor (iList K tl) g t) ss nx bk ct rt := fun E B H σ O a b c r =>
  h A B0 H0 B H σ O _ fun v B1 H1 g1 q => by
    cases q with
    | lst q1 q2 =>
      rename_i p xs
      refine ⟨p, rfl, ⟨xs, sl_of (g1.bh _ _ q1)⟩, for_list (K := K) (a := p) (xs := xs) (fun i σ' H' => ∃ B' ss', Ex B1 B' ∧ Ok K C A B0 H0 B' H' σ' ss' ∧ I i ss') ⟨B1, ss, Same.refl B1, O.grow g1, h0⟩
        (fun i σ' H' _ ⟨B', ss', x, O', w⟩ => sl_of (O'.ex _ _ (x _ _ q1))) (fun i y σ' H' hi ⟨B', ss', x, O', w⟩ => ?_) (fun σ' H' ⟨B', ss', x, O', w⟩ => a B' H' σ' ss' (g1.b.trans x) O' (hd ss' (by rw [← q2.length]; exact w)))⟩
      obtain ⟨d, e1, e2⟩ := q2.get' hi
      obtain ⟨s2, hg, hb⟩ := hs i d ss' e1 w
      refine hg B' H' σ' _ O' (e2.mono x) _ fun σ2 O2 => hb _ B' H' σ2 O2 ?_ ?_ ?_ ?_
      · exact fun B2 H2 σ2 s2 x2 O2 w2 => ⟨B2, s2, x.trans x2, O2, w2⟩
      · exact fun B2 H2 σ2 s2 x2 O2 w2 => a B2 H2 σ2 s2 (g1.b.trans (x.trans x2)) O2 w2
      · exact fun B2 H2 σ2 s2 x2 O2 w2 => ⟨B2, s2, x.trans x2, O2, w2⟩
      · exact fun B2 H2 σ2 s2 d v x2 O2 w2 w3 => r B2 H2 σ2 s2 d v (g1.b.trans (x.trans x2)) O2 w2 w3
/-! ### comprehensions -/
theorem take_snoc {l : List D} {i : Nat} {d : D} (h : l[i]? = some d) : l.take (i + 1) = l.take i ++ [d] := by
  rw [List.take_add_one, h]; rfl
theorem lc_step {p : D → Bool} {g : D → D} {B1 H1 : Hp} {σ : L2.St} {j : Nat} {D' : Addr} {l : List D} {i : Nat} {d : D} {x : V} {B' H' : Hp} (O : Ok K C A B0 H0 B1 H1 σ ss) (hj : j < ss.length) (hD : H1 D' = none) (gr : Gr [] B1 H1 B' H') (nb : B' D' = none) (o : Own K B' H' D' (.lst (((l.take i).filter p).map g)))
    (hd : l[i]? = some d) (hx : Rep K B1 d x) (ht : EvT K C tt (ss.set j (.val d)) (p d)) (he : p d = true → Ev K C te (ss.set j (.val d)) (g d)) (hl : l.length < 100000) {Pv : Nat → Hp → Prop}
    (hP : ∀ i H', (∃ B', Gr [] B1 H1 B' H' ∧ B' D' = none ∧ Own K B' H' D' (.lst (((l.take i).filter p).map g))) → Pv i H') :
    gName j x (wipe σ [j]) H' fun σ2 H2 => wipe σ2 [j] = wipe σ [j] ∧ tt σ2 H2 fun b H3 => if b = true then te σ2 H3 fun y H4 => ∃ acc, H4 D' = some (.lst acc) ∧ acc.length < sizeLine ∧ Pv (i + 1) (upd H4 D' (.lst (acc ++ [y]))) else Pv (i + 1) H3 := by
  have O2 : Ok K C A B0 H0 B' H' ((wipe σ [j]).set j (some x)) (ss.set j (.val d)) := by
    have z := ((O.grow gr).setNo j none).setVal (i := j) (by rw [List.length_set]; exact hj) (hx.mono gr.b)
    rw [set_set] at z
    exact z
  have hne : H' D' ≠ none := by
    cases o with
    | lst o1 o2 => rw [o1]; simp
  refine ⟨?_, ht A B0 H0 B' H' _ O2 _ fun B2 H2 g2 => ?_⟩
  · show ((σ.set j none).set j (some x)).set j none = σ.set j none
    simp
  · have nb2 := g2.still nb hne
    have o2 : Own K B2 H2 D' (.lst (((l.take i).filter p).map g)) := o.mono g2.b fun u q => g2.ex _ _ q
    cases hp : p d with
    | false =>
      rw [if_neg Bool.false_ne_true]
      refine hP _ _ ⟨B2, gr.trans g2, nb2, ?_⟩
      rw [take_snoc hd, List.filter_append, show [d].filter p = [] by simp [hp], List.append_nil]
      exact o2
    | true =>
      rw [if_pos rfl]
      refine he hp A B0 H0 B2 H2 _ (O2.grow g2) _ fun y B3 H3 g3 r3 => ?_
      have nb3 := g3.still nb2 (g2.k _ hne)
      have gg := (gr.trans g2).trans g3
      cases o2 with
      | lst o1 o2 =>
        rename_i acc
        refine ⟨acc, g3.ex _ _ o1, ?_, hP _ _ ⟨B3, ⟨gg.b, fun a u q => ?_, fun a u n q => ?_, fun a n => k_upd a (gg.k a n), gg.nw⟩, nb3, ?_⟩⟩
        · rw [o2.length, List.length_map]
          have h1 : ((l.take i).filter p).length ≤ (l.take i).length := List.length_filter_le _ _
          have h2 : (l.take i).length ≤ l.length := by rw [List.length_take]; exact Nat.min_le_right _ _
          exact Nat.lt_of_lt_of_le (Nat.lt_of_le_of_lt (Nat.le_trans h1 h2) hl) (by decide)
        · rw [upd_ne (fun z => by rw [z, nb3] at q; cases q)]
          exact gg.bh a u q
        · rw [upd_ne (ne_of_none q hD)]
          exact gg.ex a u q
        · refine .lst upd_same ?_
          rw [take_snoc hd, List.filter_append, List.map_append, show [d].filter p = [d] by simp [hp]]
          exact (o2.mono g3.b).append (.cons r3 .nil)
/-- [e for x in t if c], t a tuple -/
theorem evn_lcT {tl : TE} {j : Nat} {l : List D} {p : D → Bool} {g : D → D} (h : Ev K C tl ss (.tup l)) (hj : j < ss.length) (ht : ∀ d ∈ l, EvT K C tt (ss.set j (.val d)) (p d)) (he : ∀ d ∈ l, p d = true → Ev K C te (ss.set j (.val d)) (g d)) (hl : l.length < 100000) :
    EvN K C (tLc (iTup K tl) (gName j) tt te [j]) ss (.lst ((l.filter p).map g)) := fun A B0 H0 B H σ O Q q =>
  h A B0 H0 B H σ O _ fun v B1 H1 g1 r1 => by
    cases r1 with
    | tup a c =>
      rename_i q1 xs
      refine ⟨q1, rfl, ⟨xs, ex_t g1.bh a⟩, fun D' hD => lc_tup (K := K) (a := q1) (xs := xs) (fun i H' => ∃ B', Gr [] B1 H1 B' H' ∧ B' D' = none ∧ Own K B' H' D' (.lst (((l.take i).filter p).map g)))
        ⟨B1, Gr.newH g1.bh hD, none_b g1.bh hD, .lst upd_same .nil⟩ (fun i H' _ ⟨B', g', _, _⟩ => ex_t (g1.bh.trans g'.ex) a) (fun i x H' hx ⟨B', g', nb, o⟩ => ?_) (fun H' ⟨B', g', nb, o⟩ => ?_)⟩
      · obtain ⟨d, e1, e2⟩ := c.get' hx
        have hm : d ∈ l := List.mem_of_getElem? e1
        exact lc_step (O.grow g1) hj hD g' nb o e1 e2 (ht d hm) (he d hm) hl fun _ _ z => z
      · rw [c.length, List.take_length] at o
        exact q D' B' H' (g1.trans g') (none_back g1 hD) nb o
/-- .., a list -/
theorem evn_lcL {tl : TE} {j : Nat} {l : List D} {p : D → Bool} {g : D → D} (h : Ev K C tl ss (.lst l)) (hj : j < ss.length) (ht : ∀ d ∈ l, EvT K C tt (ss.set j (.val d)) (p d)) (he : ∀ d ∈ l, p d = true → Ev K C te (ss.set j (.val d)) (g d)) (hl : l.length < 100000) :
    EvN K C (tLc (iList K tl) (gName j) tt te [j]) ss (.lst ((l.filter p).map g)) := fun A B0 H0 B H σ O Q q =>
  h A B0 H0 B H σ O _ fun v B1 H1 g1 r1 => by
    cases r1 with
    | lst a c =>
      rename_i q1 xs
      refine ⟨q1, rfl, ⟨xs, sl_of (g1.bh _ _ a)⟩, fun D' hD => lc_list (K := K) (a := q1) (xs := xs) (fun i H' => ∃ B', Gr [] B1 H1 B' H' ∧ B' D' = none ∧ Own K B' H' D' (.lst (((l.take i).filter p).map g)))
        ⟨B1, Gr.newH g1.bh hD, none_b g1.bh hD, .lst upd_same .nil⟩ (fun i H' _ ⟨B', g', _, _⟩ => sl_of ((g1.bh.trans g'.ex) _ _ a)) (fun i x H' hx ⟨B', g', nb, o⟩ => ?_) (fun H' ⟨B', g', nb, o⟩ => ?_)⟩
      · obtain ⟨d, e1, e2⟩ := c.get' hx
        have hm : d ∈ l := List.mem_of_getElem? e1
        exact lc_step (O.grow g1) hj hD g' nb o e1 e2 (ht d hm) (he d hm) hl fun _ _ z => z
      · rw [c.length, List.take_length] at o
        exact q D' B' H' (g1.trans g') (none_back g1 hD) nb o
/-- .., range(n) -/
theorem evn_lcR {ta : TA} {j : Nat} {n : Int} {g : D → D} (h : EvA K C ta ss [.int n]) (hn : -(2 ^ 62) ≤ n ∧ n < 100000) (hj : j < ss.length) (he : ∀ i : Nat, (i : Int) < n → Ev K C te (ss.set j (.val (.int i))) (g (.int i))) :
    EvN K C (tLc (iRng1 ta) (gName j) tYes te [j]) ss (.lst ((List.range n.toNat).map fun (i : Nat) => g (.int i))) := fun A B0 H0 B H σ O Q q =>
  h A B0 H0 B H σ O _ fun v B1 H1 g1 r1 => by
    cases r1 with
    | cons r1 r2 =>
      cases r1
      cases r2
      have hl : (((List.range n.toNat).map fun (i : Nat) => D.int i) : List D).length = n.toNat := by simp
      have hg : ∀ i : Nat, i < n.toNat → (((List.range n.toNat).map fun (i : Nat) => D.int i) : List D)[i]? = some (.int i) := fun i hi => by
        rw [List.getElem?_map, List.getElem?_range hi]; rfl
      refine ⟨n, rfl, hn.1, by omega, fun D' hD => lc_range (lo := 0) (n := n.toNat) (fun i H' => ∃ B', Gr [] B1 H1 B' H' ∧ B' D' = none ∧ Own K B' H' D' (.lst (((((List.range n.toNat).map fun (i : Nat) => D.int i).take i).filter fun _ => true).map g)))
        ⟨B1, Gr.newH g1.bh hD, none_b g1.bh hD, .lst upd_same .nil⟩ (fun i H' hi ⟨B', g', nb, o⟩ => ?_) (fun H' ⟨B', g', nb, o⟩ => ?_)⟩
      · rw [show (0 : Int) + (i : Int) = (i : Int) by omega]
        refine lc_step (O.grow g1) hj hD g' nb o (hg i hi) (.int _) (fun A B0 H0 B H σ O Q q => q B H (Gr.refl O.ex)) (fun _ => he i (by omega)) (by rw [hl]; omega) fun _ _ z => z
      · have e : (List.range n.toNat).map (fun (i : Nat) => g (.int i)) = ((((List.range n.toNat).map fun (i : Nat) => D.int i).take n.toNat).filter fun _ => true).map g := by
          rw [List.take_of_length_le (by rw [hl]; exact Nat.le_refl _), List.filter_eq_self.mpr (fun _ _ => rfl), List.map_map]
          rfl
        rw [e] at q
        exact q D' B' H' (g1.trans g') (none_back g1 hD) nb o
theorem et_yes : EvT K C tYes ss true := fun A B0 H0 B H σ O Q q => q B H (Gr.refl O.ex)

/-! ### a def's body -/
theorem start_get (N : List Str) {ds : List D} {vs : List V} {B : Hp} (r : RepL K B ds vs) (hN : vs.length ≤ N.length) : Ok K C [] B H0 B H0 (L2.start N vs) (ds.map Sl.val ++ List.replicate (N.length - ds.length) Sl.no) ↔ Ex B H0 := by
  constructor
  · exact fun O => O.ex
  · intro e
    refine ⟨fun _ => [], Gr.refl e, ?_, fun i => ?_, fun _ _ _ h => (nomatch h), fun _ _ h => (nomatch h)⟩
    · unfold L2.start
      rw [List.length_append, List.length_append, List.length_map, List.length_map, List.length_replicate, List.length_replicate, r.length]
    · by_cases hi : i < ds.length
      · have hv : i < vs.length := by rw [r.length]; exact hi
        obtain ⟨v, e1, e2⟩ := r.get (List.getElem?_eq_getElem hi)
        have h1 : (ds.map Sl.val ++ List.replicate (N.length - ds.length) Sl.no)[i]? = some (.val ds[i]) := by
          rw [List.getElem?_append_left (by rw [List.length_map]; exact hi), List.getElem?_map, List.getElem?_eq_getElem hi]; rfl
        have h2 : (L2.start N vs)[i]? = some (some v) := by
          unfold L2.start
          rw [List.getElem?_append_left (by rw [List.length_map]; exact hv), List.getElem?_map, e1]; rfl
        rw [getD_of h1, h2]
        exact ⟨rfl, v, rfl, e2⟩
      · have h1 : (ds.map Sl.val ++ List.replicate (N.length - ds.length) Sl.no).getD i .no = .no := by
          rw [List.getD_eq_getElem?_getD, List.getElem?_append_right (by rw [List.length_map]; omega), List.getElem?_replicate]
          split <;> rfl
        rw [h1]
        rfl
theorem start_ok (N : List Str) {ds : List D} {vs : List V} {B : Hp} (r : RepL K B ds vs) (hN : vs.length ≤ N.length) (e : Ex B H0) : Ok K C [] B H0 B H0 (L2.start N vs) (ds.map Sl.val ++ List.replicate (N.length - ds.length) Sl.no) := (start_get N r hN).mpr e
end
section
variable {P : Program} {w : World} {K : PySem.W.Frag} {mg : Str → Option Value} {base : Heap} {C : Addr}
/-- THE RULE for a def without effect: its body as a term of rules, and what that does -/
theorem fn_D {α : Type} {enc : α → List D} {dom : α → Prop} {f : α → D} {x qual : Str} {params : Arguments} {body : List Stmt} {scope : Scope} {a : Addr} {fd : FuncData} {N ps : List Str} {k : Nat} (F : FunD K x qual params body scope [] [] a fd) (S : FnScope N ps scope)
    (hl : ∀ z, dom z → (enc z).length = ps.length) (hb : ∀ (cdv : Value) (A : Around) (outer : List Env) (s : Shared) (H : Hp) (E : XK) (z : α), Room k (A.deeper (envOfC qual scope s.heap.objs.size a cdv)) → dom z →
      ∃ t, PSs (cxOf CX0 P w K mg base N qual scope a cdv A outer s H E).nox body t ∧ ∀ B, Do K C [] B H t ((enc z).map Sl.val ++ List.replicate (N.length - (enc z).length) Sl.no) (fun _ => f z = .non) (fun _ => False) (fun _ => False) (fun d _ => d = f z)) :
    FnOk P w K mg base CX0 (k + 1) a fd ps (spD K enc dom f) := by
  have hps : ps.length ≤ N.length := by
    have q := congrArg List.length S.pre
    rw [List.length_take] at q
    omega
  refine F.ok S (fun vs H Q E h => ?_) (fun cdv A outer s H vs Q E hr h => ?_)
  · obtain ⟨B, z, e, r, d, _⟩ := h
    rw [r.length, hl z d]
  · obtain ⟨B, z, e, r, d, q⟩ := h
    obtain ⟨t, ht, hd⟩ := hb cdv A outer s H E z hr d
    refine ⟨t, ht.nox, hd B _ B H _ (start_ok N r (by rw [r.length, hl z d]; exact hps) e) (fun B' H' σ' ss' x O z => ?_) (fun _ _ _ _ _ _ z => z.elim) (fun _ _ _ _ _ _ z => z.elim) (fun B' H' σ' ss' d' v x O r' z => ?_)⟩
    · exact q _ B' H' O.gr (by rw [z]; exact .non)
    · exact q v B' H' O.gr (by rw [← z]; exact r')
end
end Esp

/-! D-logic, part 5: names of relations, callees, isinstance, sorted, dict ==, locked walks. -/
namespace Esp
open PySem L2 PyProof.Rows PySem.Spec

abbrev rAddI : R2 := rI0 fun i j => .int (i + j)
abbrev rSubI : R2 := rI0 fun i j => .int (i - j)
abbrev rMulI : R2 := rI CMul fun i j => .int (i * j)
abbrev rDivI : R2 := rI CDiv fun i j => .int (i / j)
abbrev rModI : R2 := rI (fun _ j => 0 < j) fun i j => .int (i % j)
abbrev rPowI : R2 := rI CPow fun i j => .int (i ^ j.toNat)
abbrev rLtI : R2 := rI0 fun i j => .bl (decide (i < j))
abbrev rLeI : R2 := rI0 fun i j => .bl (decide (i ≤ j))
abbrev rGtI : R2 := rI0 fun i j => .bl (decide (j < i))
abbrev rGeI : R2 := rI0 fun i j => .bl (decide (j ≤ i))
abbrev rNeg : V → Hp → VK → Prop := rU fun i => .int (-i)
abbrev rIsNo : R2 := fun x y H Q => y = .non ∧ Q (.bl (decide (x = .non))) H
abbrev rNotNo : R2 := fun x y H Q => y = .non ∧ Q (.bl (!decide (x = .non))) H
/-- sorted(d) of a dict of int keys, however many -/
def rSortedDN : List V → Hp → VK → Prop := fun args hp Q => ∃ (at_ : Addr) (items : List (Key × V)) (nums : List Int), args = [.ref at_] ∧ Rd hp at_ (.dK items) ∧ items.map (·.1) = nums.map Sum.inl ∧
    ∀ (up : List Int) (to : Addr), up.Perm nums → up.Pairwise (· ≤ ·) → hp to = none → Q (.ref to) (upd hp to (.lst (up.map V.int)))
theorem bt_all : bootBuiltins "all" = some (.builtin "all") := by decide +kernel
theorem bt_max : bootBuiltins "max" = some (.builtin "max") := by decide +kernel
theorem bt_min : bootBuiltins "min" = some (.builtin "min") := by decide +kernel

section
variable {X : Cx}
/-- the built-in does that -/
theorem call_sortedDN (calm_ : X.calm = true) : CallR X (.builtin "sorted") rSortedDN := by
  intro pn s σ H args uz Q I r q
  obtain ⟨a, items, nums, eArgs, rdAt, keyInts, q⟩ := q
  subst eArgs
  obtain ⟨u, eUz, rAt⟩ := vals1 r
  subst eUz
  cases rAt
  obtain ⟨z, loc, els, rl, dct_⟩ := dk_rd I.hok rdAt
  obtain ⟨epo, dAt⟩ := dct_.dictAt
  have keyEls : els.map (·.1) = nums.map Sum.inl := rl.keys.symm.trans keyInts
  have lenEls : els.length = nums.length := by
    have e := congrArg List.length keyEls
    rw [List.length_map, List.length_map] at e
    exact e
  have fitEls : els.length ≤ sizeLine := by
    have e := rl.length
    rw [← e]; exact z
  refine Calls.call_function_entry PyProof.Rows.kind_sorted PyProof.Rows.plain_sorted
    PyProof.Rows.entry_sorted (PyProof.Rows.args_sorted1 _) ?_
  unfold Builtin.«sorted»
  refine wpAny_bind (m := checkCount "sorted" 1 1 _) <| wpAny_pure ?_
  refine wpAny_bind (PySem.W.kdu_collect (A := X.A.in1) (PySem.W.kdl_dict (knd := mixKind X.prog X.w) (kvs := els) (ep := epo) loc) (I.ok.hd calm_) dAt fitEls fun h' tok got kept_ gotEach => ?_)
  have lenGot : got.toList.length = nums.length := by rw [Array.length_toList, gotEach.1, lenEls]
  have intGot : IntsAre got.toList nums := ints_each lenGot fun j v e => by
    obtain ⟨k, x, m1, m2⟩ := gotEach.2 j v (by rw [← Array.getElem?_toList]; exact e)
    have m3 : (els.map (·.1))[j]? = some k := by rw [List.getElem?_map, m1]; rfl
    rw [keyEls, List.getElem?_map] at m3
    cases m4 : nums[j]? with
    | none => rw [m4] at m3; cases m3
    | some y =>
      rw [m4] at m3
      have m5 : Sum.inl y = k := Option.some.inj m3
      subst m5
      rcases keyIs_shape (show keyIs (Sum.inl y) v = true from m2) with ⟨i, t, mk, mv⟩ | ⟨z, t, mk, mv⟩
      · cases mk
        exact ⟨y, t, rfl, mv⟩
      · cases mk
  have J : Inv X pn σ H { s with heap := h', toks := tok } := I.kept kept_
  have fitGot : got.toList.length ≤ sizeLine := by rw [lenGot, ← lenEls]; exact fitEls
  refine wpAny_bind (wpAny_newList ?_ fitGot)
  have newL : (h'.push (seqObj "list" got.toList.toArray 0)).get? h'.objs.size = some (seqObj "list" got.toList.toArray 0) := Heap.get?_push_size _ rfl
  show wpAny _ _ _ _ _ { s with heap := h'.push (seqObj "list" got.toList.toArray 0), toks := tok }
  refine wpAny_bind (wpAny_holding (wpAny_call_entry PyProof.Rows.slot_list_sort ⟨_, newL, rfl⟩ PyProof.Rows.entry_list_sort
    (SrtO.list_sort_ord (s := { s with heap := h'.push (seqObj "list" got.toList.toArray 0), toks := tok }) SrtO.swo_int newL fitGot (fun h2 => SrtO.ints_sortable intGot h2) fun res g1 g2 => ⟨_, rfl, ?_⟩) (PyProof.Rows.args_list_sort _)))
  obtain ⟨o1, o2, o3⟩ := SrtO.ints_out intGot g1 g2
  obtain ⟨entry_, heapE⟩ := PyProof.Rows.sortedHeap_at (vs := got.toList) (out := res.toArray) newL
  have fitOut : ((res.map SrtO.iv).map V.int).length ≤ sizeLine := by
    rw [List.length_map, o2.length_eq, ← lenGot]
    exact fitGot
  refine wpAny_pure ⟨_, rfl, .ref h'.objs.size, upd H h'.objs.size (.lst ((res.map SrtO.iv).map V.int)), J.laid (t' := tok) (fun b u e => ?_) (Nat.le_refl _)
    (show ObjOk X.prog X.w _ _ _ (.lst ((res.map SrtO.iv).map V.int)) from ⟨fitOut, res, entry_, vals_of_ints o1, heapE⟩), rfl, q _ _ o2 o3 (J.hok.fresh (Nat.le_refl _))⟩
  have below : b < h'.objs.size := Heap.lt_size e
  rw [PyProof.Rows.sortedHeap_old (Nat.ne_of_lt below) (by rw [size_push']; exact Nat.lt_succ_of_lt below)]
  exact Heap.get?_push_of_some _ e
theorem pe_gint {i : Int} {x : Str} {pos : Pos} (hg : Gl X x) (h : ∃ t, X.mg x = some (.int i t)) (hd : (x == ("__debug__" : Str)) = false := by decide) : PE X (.Name x pos) (tC (.int i)) := by
  obtain ⟨t, h⟩ := h
  exact pe_glob hg h ⟨t, rfl⟩ hd
end

/-! ### callees -/
section
variable (P : Program) (w : World) (K : PySem.W.Frag) (mg : Str → Option Value) (base : Heap)
def Cal (x : Str) (k : Nat) (ps : List Str) (sp : Sp) : Prop := ∃ (f : Addr) (fd : FuncData), mg x = some (.ref f) ∧ PySem.W.keepIn K (.ref f) = true ∧ Binds K fd ps [] ∧ FnOk P w K mg base CX0 k f fd ps sp
def CalM (C : Addr) (m : Str) (k : Nat) (ps : List Str) (sp : Sp) : Prop := ∃ (f : Addr) (fd : FuncData), Meth K C m f ∧ Binds K fd ps [] ∧ FnOk P w K mg base CX0 k f fd ps sp
def CalI (C : Addr) (k : Nat) (ps : List Str) (sp : Sp) : Prop := ∃ (f : Addr) (fd : FuncData), Mk K C f ∧ Binds K fd ps [] ∧ FnOk P w K mg base CX0 k f fd ps sp
end
section
variable {X : Cx} {x m : Str} {k : Nat} {ps : List Str} {sp : Sp} {p pos apos : Pos} {e o : Expr} {es : List Expr} {t : TA} {ta : TE} {C : Addr}
theorem pe_cal (c : Cal X.prog X.w X.K X.mg X.base x k ps sp) (hr : Room k X.A) (hg : Gl X x) (ha : PA X (e :: es) t) (hdb : (x == ("__debug__" : Str)) = false := by decide) (he : starEach (e :: es) X.env = (false, eval e X.env) :: starEach es X.env := by rfl)
    (hpl : (backTo pos (starEach es X.env)).any (·.1) = false := by rfl) : PE X (.Call (.Name x p) (e :: es) [] pos) (tCall sp [] E0 t) := by
  obtain ⟨f, fd, g, kp, b, F⟩ := c
  exact pe_call F hr hg g kp b .nil pass0 ha hdb he hpl
theorem pe_cal0 (c : Cal X.prog X.w X.K X.mg X.base x k ps sp) (hr : Room k X.A) (hg : Gl X x) (hdb : (x == ("__debug__" : Str)) = false := by decide) : PE X (.Call (.Name x p) [] [] pos) (tCall sp [] E0 tNil) := by
  obtain ⟨f, fd, g, kp, b, F⟩ := c
  exact pe_call0 F hr hg g kp b .nil pass0 hdb
theorem pe_mth {plain_ : Sem Bool} (cl : Cls X.K C) (c : CalM X.prog X.w X.K X.mg X.base C m k ps sp) (hr : Room k X.A) (he : PE X o ta) (ha : PA X (e :: es) t) (hst : starEach (e :: es) X.env = (false, eval e X.env) :: starEach es X.env := by rfl)
    (hpl : (backTo pos (starEach es X.env)).any (·.1) = false := by rfl)
    (ht : eval (.Call (.Attribute o m apos) (e :: es) [] pos) X.env = (do let ov ← eval o X.env; standAt apos.atName; let (f, first) ← holding [ov] (getMethod ov m plain_); callWith pos f first (backTo pos (starEach (e :: es) X.env)) (backToKw pos (keywordEach [] X.env))) := by rfl) :
    PE X (.Call (.Attribute o m apos) (e :: es) [] pos) (tMeth C m sp [] E0 ta t) := by
  obtain ⟨f, fd, M, b, F⟩ := c
  exact pe_meth he cl M F hr b .nil pass0 ha hst hpl ht
theorem pe_mth0 {plain_ : Sem Bool} (cl : Cls X.K C) (c : CalM X.prog X.w X.K X.mg X.base C m k ps sp) (hr : Room k X.A) (he : PE X o ta)
    (ht : eval (.Call (.Attribute o m apos) [] [] pos) X.env = (do let ov ← eval o X.env; standAt apos.atName; let (f, first) ← holding [ov] (getMethod ov m plain_); callWith pos f first (backTo pos (starEach [] X.env)) (backToKw pos (keywordEach [] X.env))) := by rfl) :
    PE X (.Call (.Attribute o m apos) [] [] pos) (tMeth C m sp [] E0 ta tNil) := by
  obtain ⟨f, fd, M, b, F⟩ := c
  exact pe_meth0 he cl M F hr b .nil pass0 ht
theorem pe_mk (hm : X.mg x = some (.ref C)) (c : CalI X.prog X.w X.K X.mg X.base C k ps sp) (hr : Room (k + 1) X.A) (hg : Gl X x) (ha : PA X (e :: es) t) (hdb : (x == ("__debug__" : Str)) = false := by decide) (he : starEach (e :: es) X.env = (false, eval e X.env) :: starEach es X.env := by rfl)
    (hpl : (backTo pos (starEach es X.env)).any (·.1) = false := by rfl) : PE X (.Call (.Name x p) (e :: es) [] pos) (tMake C sp [] E0 t) := by
  obtain ⟨f, fd, M, b, F⟩ := c
  exact pe_make M F hr hg hm b .nil pass0 ha hdb he hpl
end
/-- what the walk asks of the module and the class -/
structure Tx (K : PySem.W.Frag) (mg : Str → Option Value) (C : Addr) : Prop where
  isinstance : mg "isinstance" = none
  int : mg "int" = none
  bool : mg "bool" = none
  tuple : mg "tuple" = none
  all : mg "all" = none
  range : mg "range" = none
  len : mg "len" = none
  sorted : mg "sorted" = none
  max : mg "max" = none
  dict : mg "dict" = none
  list : mg "list" = none
  min : mg "min" = none
  LEAF_MOST : ∃ t, mg "LEAF_MOST" = some (.int 4 t)
  INNER_MOST : ∃ t, mg "INNER_MOST" = some (.int 5 t)
  LEAST : ∃ t, mg "LEAST" = some (.int 2 t)
  cls : Cls K C
  gC : mg "Draft" = some (.ref C)
  a1 : NoAttr K C "path"
  a2 : NoAttr K C "siblings"
  a3 : NoAttr K C "records"
  a4 : NoAttr K C "addresses"
  a5 : NoAttr K C "fresh"

section
variable {K : PySem.W.Frag} {C : Addr} {ss : List Sl} {B H B' H' : Hp} {d e z : D} {te ta tb tc : TE} {t u : TT} {r r' : R2}
theorem ev_neg {i : Int} (h : Ev K C te ss (.int i)) : Ev K C (tUn rNeg te) ss (.int (-i)) := fun A B0 H0 B H σ O Q q => h A B0 H0 B H σ O _ fun v B1 H1 g r => by
  cases r
  exact ⟨i, rfl, q _ B1 H1 g (.int _)⟩
theorem ev_isi_int {i : Int} {c : String} {b : Bool} (h : Ev K C ta ss (.int i)) (hk : kitB "int" c = some b) : Ev K C (tCB (rIsi K) (tCons ta (tCons (tC (.ty c)) tNil))) ss (.bl b) := fun A B0 H0 B H σ O Q q =>
  h A B0 H0 B H σ O _ fun v B1 H1 g r => by
    cases r
    exact ⟨.int i, .ty c, _, _, b, rfl, .ty c, .base (.int i), kit_ty hk, q _ B1 H1 g (.bl b)⟩
theorem ev_isi_tup {l : List D} {c : String} {b : Bool} (h : Ev K C ta ss (.tup l)) (hk : kitB "tuple" c = some b) : Ev K C (tCB (rIsi K) (tCons ta (tCons (tC (.ty c)) tNil))) ss (.bl b) := fun A B0 H0 B H σ O Q q =>
  h A B0 H0 B H σ O _ fun v B1 H1 g r => by
    cases r with
    | tup a c' =>
      rename_i p xs
      have main : TyX K H1 (.ref p) (.type "tuple") := by
        rcases ex_t g.bh a with (a | ⟨o, a⟩) | ⟨o, its, n, a1, a2, _⟩
        · exact .base (.tup a)
        · exact .fTuple a
        · exact .kTuple a1 a2
      exact ⟨.ref p, .ty c, _, _, b, rfl, .ty c, main, kit_ty hk, q _ B1 H1 g (.bl b)⟩
theorem rep_int {i : Int} {v : V} (h : Rep K B (.int i) v) : v = .int i := by
  cases h
  rfl
/-! ### sorted, == of dicts -/
def srt (l : List Int) : List Int := l.mergeSort fun a b => decide (a ≤ b)
theorem srt_perm (l : List Int) : (srt l).Perm l := List.mergeSort_perm l _
theorem srt_pw (l : List Int) : (srt l).Pairwise (· ≤ ·) := by
  have h := List.pairwise_mergeSort (le := fun (a b : Int) => decide (a ≤ b)) (fun a b c h1 h2 => by simp only [decide_eq_true_eq] at *; omega) (fun a b => by simp only [Bool.or_eq_true, decide_eq_true_eq]; omega) l
  exact h.imp fun h => of_decide_eq_true h
theorem srt_eq {l ys : List Int} (h1 : ys.Perm l) (h2 : ys.Pairwise (· ≤ ·)) : ys = srt l :=
  (h1.trans (srt_perm l).symm).eq_of_pairwise (fun x y _ _ h1 h2 => Int.le_antisymm h1 h2) h2 (srt_pw l)
theorem rcn_sorted {ns : List Int} : RCN K (rSortedI K) (.lst (ns.map D.int)) (.lst ((srt ns).map D.int)) := fun B H x E h Q q => by
  obtain ⟨p, xs, rfl, a, c⟩ := h
  rw [c.of_ints] at a
  refine ⟨p, ns, rfl, sl_of a, fun ys l h1 h2 hl => ?_⟩
  rw [srt_eq h1 h2]
  exact q l B _ (Gr.newH E hl) hl (none_b E hl) (.lst upd_same (RepL.ints _))
theorem rcn_sortedD {l : List (Int × D)} : RCN K rSortedDN (.dct l) (.lst ((srt (l.map (·.1))).map D.int)) := fun B H x E h Q q => by
  obtain ⟨p, kvs, rfl, a, c⟩ := h
  refine ⟨p, kvs, _, rfl, .inl a, c.keys, fun ys m h1 h2 hm => ?_⟩
  rw [srt_eq h1 h2]
  exact q m B _ (Gr.newH E hm) hm (none_b E hm) (.lst upd_same (RepL.ints _))
theorem RepK.mem {l : List (Int × D)} {kvs : List (Key × V)} (c : RepK K B l kvs) : ∀ p ∈ kvs, ∃ k d, p.1 = Sum.inl k ∧ (k, d) ∈ l ∧ Rep K B d p.2 := by
  induction l generalizing kvs with
  | nil => cases c; exact fun p h => nomatch h
  | cons a l ih =>
    cases c with
    | cons h1 h2 =>
      intro p hp
      rcases List.mem_cons.mp hp with rfl | hp
      · exact ⟨_, _, rfl, List.mem_cons_self, h1⟩
      · obtain ⟨k, d, e1, e2, e3⟩ := ih h2 p hp
        exact ⟨k, d, e1, List.mem_cons_of_mem _ e2, e3⟩
theorem rv_eqDct {l m : List (Int × Int)} (hl : l.length = m.length) (h : ∀ p ∈ l, look m p.1 = some p.2) : RV K rEqDA (.dct (mapV D.int l)) (.dct (mapV D.int m)) (.bl true) := fun B H x y E a b Q q => by
  obtain ⟨p, ks, rfl, a, c⟩ := a
  obtain ⟨p', ls, rfl, b, e⟩ := b
  refine ⟨p, p', ks, ls, rfl, rfl, a, b, ?_, fun kv hkv => ?_, q _ B H (Gr.refl E) (.bl _)⟩
  · rw [c.length, e.length]
    unfold mapV
    rw [List.length_map, List.length_map, hl]
  · obtain ⟨k, d, e1, e2, e3⟩ := c.mem kv hkv
    unfold mapV at e2
    obtain ⟨q', h1, h2⟩ := List.mem_map.mp e2
    cases h2
    have h3 := h q' h1
    have h4 : look (mapV D.int m) q'.1 = some (.int q'.2) := by rw [look_mapV, h3]; rfl
    obtain ⟨v, e4, e5⟩ := e.some_of h4
    have e6 := rep_int e3
    have e7 := rep_int e5
    rw [e1, e4, e6, e7]
    exact ⟨rfl, rfl⟩
/-! ### walks over a locked dict -/
/-- inside the lock: d's own object is frozen -/
theorem lock_ex {p : Addr} {u : HO} {o : Obj} (nt : ∀ xs, u ≠ .tup xs) {a : Addr} {xs : List V} (hp : H p = some u) (h : H a = some (.tup xs)) : (upd H p (.frz o u)) a = some (.tup xs) := by
  rw [upd_ne (fun z => by rw [z, hp] at h; cases h; exact nt _ rfl)]
  exact h
/-- [k for k in d if c(k)], [e(k) for k in d]: test and element by what they do in every heap in which the dict is locked and all else is kept -/
theorem lc_keys {l : List (Int × D)} {kvs : List (Key × V)} {p : Addr} {σ : L2.St} {j : Nat} {od : Obj} {tl : TE} {H2 : Hp} {pr : Int → Bool} {g : Int → Int} {Q : VK} (c : RepK K B l kvs) (hl : l.length < 100000)
    (hp : H2 p = some (.frz od (.dK kvs))) (hs : ∀ R : It → Hp → Prop, R (Itk p od kvs) H2 → iKeys tl σ H2 R)
    (ht : ∀ k, k ∈ l.map (·.1) → ∀ (H' : Hp) (R : Bool → Hp → Prop), Ex H2 H' → R (pr k) H' → t ((σ.set j none).set j (some (.int k))) H' R)
    (he : ∀ k, k ∈ l.map (·.1) → pr k = true → ∀ (H' : Hp) (R : VK), Ex H2 H' → R (.int (g k)) H' → te ((σ.set j none).set j (some (.int k))) H' R)
    (hq : ∀ D', H2 D' = none → ∀ H', (∀ a o, a ≠ D' → H' a = some o → H2 a = some o) → (∀ a o, H2 a = some o → H' a = some o) → H' D' = some (.lst ((((l.map (·.1)).filter pr).map g).map V.int)) → Q (.ref D') H') :
    tLc (iKeys tl) (gName j) t te [j] σ H2 Q := by
  have hk : ∀ (i : Nat) k v, kvs[i]? = some (k, v) → ∃ n, k = Sum.inl n ∧ (l.map (·.1))[i]? = some n := fun i k v h => by
    have e := congrArg (fun z => z[i]?) c.keys
    simp only [List.getElem?_map] at e
    rw [h] at e
    cases e2 : l[i]? with
    | none => rw [e2] at e; simp at e
    | some q =>
      rw [e2] at e
      simp only [Option.map_some, Option.some.injEq] at e
      exact ⟨q.1, e, by rw [List.getElem?_map, e2]; rfl⟩
  refine hs _ fun D' hD => ?_
  have hne : p ≠ D' := ne_of_none hp hD
  refine ⟨fun i m H' => m = kvs.length - i ∧ i ≤ kvs.length ∧ (∀ a o, a ≠ D' → H' a = some o → H2 a = some o) ∧ (∀ a o, H2 a = some o → H' a = some o) ∧ H' D' = some (.lst (((((l.map (·.1)).take i).filter pr).map g).map V.int)), ⟨kvs.length, by simp, Nat.zero_le _, ?_, ?_, ?_⟩, ?_⟩
  · intro a o h1 h2; rw [upd_ne h1] at h2; exact h2
  · intro a o h; rw [upd_ne (ne_of_none h hD)]; exact h
  · rw [upd_same]; rfl
  · rintro i m H' ⟨rfl, hi, w1, w2, w3⟩
    by_cases hlt : i < kvs.length
    · refine .inr ⟨⟨w2 _ _ hp, hlt⟩, fun H' => i + 1 ≤ kvs.length ∧ (∀ a o, a ≠ D' → H' a = some o → H2 a = some o) ∧ (∀ a o, H2 a = some o → H' a = some o) ∧ H' D' = some (.lst (((((l.map (·.1)).take (i + 1)).filter pr).map g).map V.int)), fun H3 ⟨z1, z2, z3, z4⟩ => ⟨_, by omega, rfl, z1, z2, z3, z4⟩, ?_⟩
      rintro x H3 ⟨rfl, k, v, e1, rfl⟩
      obtain ⟨n, rfl, e2⟩ := hk i k v e1
      have hm : n ∈ l.map (·.1) := List.mem_of_getElem? e2
      have tk : (l.map (·.1)).take (i + 1) = (l.map (·.1)).take i ++ [n] := by rw [List.take_add_one, e2]; rfl
      refine ⟨?_, ht n hm H3 _ w2 ?_⟩
      · show ((σ.set j none).set j _).set j none = σ.set j none
        simp
      · cases hp' : pr n with
        | false =>
          rw [if_neg Bool.false_ne_true]
          refine ⟨hlt, w1, w2, ?_⟩
          rw [tk, List.filter_append, show [n].filter pr = [] by simp [hp'], List.append_nil]
          exact w3
        | true =>
          rw [if_pos rfl]
          refine he n hm hp' H3 _ w2 ⟨_, w3, ?_, hlt, fun a o h1 h2 => ?_, fun a o h => ?_, ?_⟩
          · rw [List.length_map, List.length_map]
            have h1 : (((l.map (·.1)).take i).filter pr).length ≤ ((l.map (·.1)).take i).length := List.length_filter_le _ _
            have h2 : ((l.map (·.1)).take i).length ≤ l.length := by rw [List.length_take, List.length_map]; exact Nat.min_le_right _ _
            exact Nat.lt_of_lt_of_le (Nat.lt_of_le_of_lt (Nat.le_trans h1 h2) hl) (by decide)
          · rw [upd_ne h1] at h2; exact w1 a o h1 h2
          · rw [upd_ne (ne_of_none h hD)]; exact w2 a o h
          · rw [upd_same, tk, List.filter_append, List.map_append, List.map_append, show [n].filter pr = [n] by simp [hp']]
            rfl
    · have e : i = kvs.length := by omega
      subst e
      refine .inl ⟨⟨w2 _ _ hp, Nat.le_refl _⟩, hq D' hD H' w1 w2 ?_⟩
      rw [c.length] at w3
      rw [List.take_of_length_le (by rw [List.length_map]; exact Nat.le_refl _)] at w3
      exact w3
/-- the whole comprehension under the lock, the dict at p with the content l -/
theorem lockE_keys {l : List (Int × D)} {kvs : List (Key × V)} {p : Addr} {σ : L2.St} {j : Nat} {tl : TE} {pr : Int → Bool} {g : Int → Int} {Q : VK} (c : RepK K B l kvs) (hl : l.length < 100000)
    (hp : H p = some (.dK kvs)) (htl : ∀ (H' : Hp) (R : VK), (∃ od, H' = upd H p (.frz od (.dK kvs))) → R (.ref p) H' → tl σ H' R)
    (ht : ∀ k, k ∈ l.map (·.1) → ∀ (H' : Hp) (R : Bool → Hp → Prop), (∃ od, Ex (upd H p (.frz od (.dK kvs))) H') → R (pr k) H' → t ((σ.set j none).set j (some (.int k))) H' R)
    (he : ∀ k, k ∈ l.map (·.1) → pr k = true → ∀ (H' : Hp) (R : VK), (∃ od, Ex (upd H p (.frz od (.dK kvs))) H') → R (.int (g k)) H' → te ((σ.set j none).set j (some (.int k))) H' R)
    (hq : ∀ D', H D' = none → Q (.ref D') (upd H D' (.lst ((((l.map (·.1)).filter pr).map g).map V.int)))) : tLockE (tLc (iKeys tl) (gName j) t te [j]) σ H Q := by
  refine ⟨p, _, hp, trivial, fun od => ?_⟩
  refine lc_keys (od := od) c hl (upd_same) (fun R hR => htl _ _ ⟨od, rfl⟩ ⟨p, od, rfl, .inl ⟨kvs, upd_same, hR⟩⟩) (fun k hk H' R e hR => ht k hk H' R ⟨od, e⟩ hR) (fun k hk hk2 H' R e hR => he k hk hk2 H' R ⟨od, e⟩ hR) fun D' hD H' w1 w2 w3 => ?_
  have hpD : p ≠ D' := fun z => by rw [← z, upd_same] at hD; cases hD
  have hD0 : H D' = none := by rw [upd_ne hpD.symm] at hD; exact hD
  refine ⟨w2 _ _ upd_same, ?_⟩
  have e : upd H' p (.dK kvs) = upd H D' (.lst ((((l.map (·.1)).filter pr).map g).map V.int)) := by
    funext a
    by_cases ha : a = p
    · rw [ha, upd_same, upd_ne hpD]; exact hp.symm
    · rw [upd_ne ha]
      by_cases hb : a = D'
      · rw [hb, upd_same]; exact w3
      · rw [upd_ne hb]
        cases z : H' a with
        | none =>
          cases z2 : H a with
          | none => rfl
          | some o =>
            have := w2 a o (by rw [upd_ne ha]; exact z2)
            rw [z] at this; cases this
        | some o =>
          have := w1 a o hb z
          rw [upd_ne ha] at this
          exact this.symm
  rw [e]
  exact hq D' hD0
end
end Esp

/-! The mirror, part 1: records and what nodes.py does with them; the promises. -/
namespace Esp
open PySem L2 PyProof.Rows PySem.Spec

inductive Rec where
  | leaf (lo hi : Option Int) (ks vs : List Int)
  | inner (lv : Int) (lo hi : Option Int) (ks ps : List Int)
  | free (n : Int)
  deriving DecidableEq
def oD : Option Int → D
  | none => .non
  | some i => .int i
abbrev iL (l : List Int) : D := .tup (l.map D.int)
def Rec.d : Rec → D
  | .leaf lo hi ks vs => .tup [.str "leaf", oD lo, oD hi, iL ks, iL vs]
  | .inner lv lo hi ks ps => .tup [.str "inner", .int lv, oD lo, oD hi, iL ks, iL ps]
  | .free n => .tup [.str "free", .int n]
def aboveB (k : Int) : Option Int → Bool
  | none => true
  | some l => decide (l ≤ k)
def gtB (k : Int) : Option Int → Bool
  | none => true
  | some l => decide (l < k)
def belowB (k : Int) : Option Int → Bool
  | none => true
  | some h => decide (k < h)
def ascB : List Int → Bool
  | a :: b :: r => decide (a < b) && ascB (b :: r)
  | _ => true
def lohi : Option Int → Option Int → Bool
  | none, _ => true
  | some l, h => belowB l h
def Rec.okB : Rec → Bool
  | .leaf lo hi ks vs => decide (ks.length = vs.length) && (decide (ks.length ≤ 50) && (lohi lo hi && (ascB ks && ks.all fun k => aboveB k lo && belowB k hi)))
  | .inner lv lo hi ks ps => decide (1 ≤ lv) && (decide (ps.length = ks.length + 1) && (decide (ks.length ≤ 50) && (lohi lo hi && (ascB ks && ks.all fun k => gtB k lo && belowB k hi))))
  | .free _ => true
def Rec.lv : Rec → Int
  | .leaf .. => 0
  | .inner lv .. => lv
  | .free _ => -1
def Rec.bd : Rec → Option Int × Option Int
  | .leaf lo hi .. => (lo, hi)
  | .inner _ lo hi .. => (lo, hi)
  | .free _ => (none, none)
def Rec.size : Rec → Nat
  | .leaf _ _ _ vs => vs.length
  | .inner _ _ _ _ ps => ps.length
  | .free _ => 0
def Rec.live : Rec → Bool
  | .free _ => false
  | _ => true
def Rec.isLeaf : Rec → Bool
  | .leaf .. => true
  | _ => false
def pD (p : Option Int × Option Int) : D := .tup [oD p.1, oD p.2]
def valIn : List Int → List Int → Int → Option Int
  | k' :: ks, v :: vs, k => if k' = k then some v else valIn ks vs k
  | _, _, _ => none
def placeOf (l : List Int) (k : Int) : Nat := (l.filter fun x => decide (x < k)).length
def childB (lo hi : Option Int) (ks : List Int) (i : Nat) : Option Int × Option Int := (if 0 < i then ks[i - 1]? else lo, if i < ks.length then ks[i]? else hi)
def behindOf (ks : List Int) (k : Int) : Nat := if ks[placeOf ks k]? = some k then placeOf ks k + 1 else placeOf ks k
def wValue (lo hi : Option Int) (ks vs : List Int) (k v : Int) : Rec := .leaf lo hi (ks.take (placeOf ks k) ++ [k] ++ ks.drop (behindOf ks k)) (vs.take (placeOf ks k) ++ [v] ++ vs.drop (behindOf ks k))
def woKey (lo hi : Option Int) (ks vs : List Int) (k : Int) : Rec := .leaf lo hi (ks.take (placeOf ks k) ++ ks.drop (placeOf ks k + 1)) (vs.take (placeOf ks k) ++ vs.drop (placeOf ks k + 1))
def wChild (lv : Int) (lo hi : Option Int) (ks ps : List Int) (i : Nat) (s p : Int) : Rec := .inner lv lo hi (ks.take i ++ [s] ++ ks.drop i) (ps.take (i + 1) ++ [p] ++ ps.drop (i + 1))
def woChild (lv : Int) (lo hi : Option Int) (ks ps : List Int) (i : Nat) : Rec := .inner lv lo hi (ks.take (i - 1) ++ ks.drop i) (ps.take i ++ ps.drop (i + 1))
def wSep (lv : Int) (lo hi : Option Int) (ks ps : List Int) (i : Nat) (s : Int) : Rec := .inner lv lo hi (ks.take (i - 1) ++ [s] ++ ks.drop i) ps
/-- cut: the first part, the separator, the second part -/
def cutR : Rec → Option (Rec × Int × Rec)
  | .leaf lo hi ks vs => match ks[(vs.length + 1) / 2]? with
    | some s => some (.leaf lo (some s) (ks.take ((vs.length + 1) / 2)) (vs.take ((vs.length + 1) / 2)), s, .leaf (some s) hi (ks.drop ((vs.length + 1) / 2)) (vs.drop ((vs.length + 1) / 2)))
    | none => none
  | .inner lv lo hi ks ps => match ks[(ps.length + 1) / 2 - 1]? with
    | some s => some (.inner lv lo (some s) (ks.take ((ps.length + 1) / 2 - 1)) (ps.take ((ps.length + 1) / 2)), s, .inner lv (some s) hi (ks.drop ((ps.length + 1) / 2)) (ps.drop ((ps.length + 1) / 2)))
    | none => none
  | .free _ => none
def joinR (a : Rec) (s : Int) (b : Rec) : Rec := match a, b with
  | .leaf lo _ ks vs, .leaf _ hi ks' vs' => .leaf lo hi (ks ++ ks') (vs ++ vs')
  | .inner lv lo _ ks ps, .inner _ _ hi ks' ps' => .inner lv lo hi (ks ++ [s] ++ ks') (ps ++ ps')
  | a, _ => a
/-! ### promises -/
abbrev sp_is_integer (K : PySem.W.Frag) : Sp := spD K (fun i : Int => [D.int i]) (fun _ => True) (fun _ => D.bl true)
abbrev sp_is_bound (K : PySem.W.Frag) : Sp := spD K (fun o : Option Int => [oD o]) (fun _ => True) (fun _ => D.bl true)
abbrev sp_are_integers (K : PySem.W.Frag) : Sp := spD K (fun l : List Int => [iL l]) (fun l => l.length ≤ 60) (fun _ => D.bl true)
abbrev sp_are_ascending (K : PySem.W.Frag) : Sp := spD K (fun l : List Int => [iL l]) (fun l => l.length ≤ 60) (fun l => D.bl (ascB l))
abbrev sp_is_above (K : PySem.W.Frag) : Sp := spD K (fun p : Int × Option Int => [D.int p.1, oD p.2]) (fun _ => True) (fun p => D.bl (aboveB p.1 p.2))
abbrev sp_is_below (K : PySem.W.Frag) : Sp := spD K (fun p : Int × Option Int => [D.int p.1, oD p.2]) (fun _ => True) (fun p => D.bl (belowB p.1 p.2))
abbrev sp_is_leaf (K : PySem.W.Frag) : Sp := spD K (fun r : Rec => [r.d]) (fun r => r.okB = true ∧ r.isLeaf = true) (fun _ => D.bl true)
abbrev sp_is_inner (K : PySem.W.Frag) : Sp := spD K (fun r : Rec => [r.d]) (fun r => r.okB = true ∧ r.isLeaf = false ∧ r.live = true) (fun _ => D.bl true)
abbrev sp_is_record (K : PySem.W.Frag) : Sp := spD K (fun r : Rec => [r.d]) (fun r => r.okB = true) (fun _ => D.bl true)
abbrev sp_checked (K : PySem.W.Frag) : Sp := spD K (fun r : Rec => [r.d]) (fun r => r.okB = true) (fun r => r.d)
abbrev sp_leaf (K : PySem.W.Frag) : Sp := spD K (fun p : Option Int × Option Int × List Int × List Int => [oD p.1, oD p.2.1, iL p.2.2.1, iL p.2.2.2]) (fun p => (Rec.leaf p.1 p.2.1 p.2.2.1 p.2.2.2).okB = true) (fun p => (Rec.leaf p.1 p.2.1 p.2.2.1 p.2.2.2).d)
abbrev sp_inner (K : PySem.W.Frag) : Sp := spD K (fun p : Int × Option Int × Option Int × List Int × List Int => [D.int p.1, oD p.2.1, oD p.2.2.1, iL p.2.2.2.1, iL p.2.2.2.2]) (fun p => (Rec.inner p.1 p.2.1 p.2.2.1 p.2.2.2.1 p.2.2.2.2).okB = true) (fun p => (Rec.inner p.1 p.2.1 p.2.2.1 p.2.2.2.1 p.2.2.2.2).d)
abbrev sp_level_of (K : PySem.W.Frag) : Sp := spD K (fun r : Rec => [r.d]) (fun _ => True) (fun r => D.int r.lv)
abbrev sp_bounds_of (K : PySem.W.Frag) : Sp := spD K (fun r : Rec => [r.d]) (fun r => r.live = true) (fun r => pD r.bd)
abbrev sp_size_of (K : PySem.W.Frag) : Sp := spD K (fun r : Rec => [r.d]) (fun r => r.live = true) (fun r => D.int r.size)
abbrev sp_value_in (K : PySem.W.Frag) : Sp := spD K (fun p : Rec × Int => [p.1.d, D.int p.2]) (fun p => p.1.okB = true ∧ p.1.isLeaf = true) (fun p => match p.1 with | .leaf _ _ ks vs => oD (valIn ks vs p.2) | _ => .non)
abbrev sp_place_of (K : PySem.W.Frag) : Sp := spD K (fun p : List Int × Int => [iL p.1, D.int p.2]) (fun p => p.1.length ≤ 60) (fun p => D.int (placeOf p.1 p.2))
abbrev sp_child_bounds (K : PySem.W.Frag) : Sp := spD K (fun p : Rec × Nat => [p.1.d, D.int p.2]) (fun p => match p.1 with | .inner _ _ _ ks _ => p.2 ≤ ks.length | _ => False) (fun p => match p.1 with | .inner _ lo hi ks _ => pD (childB lo hi ks p.2) | _ => .non)
abbrev sp_with_value (K : PySem.W.Frag) : Sp := spD K (fun p : Rec × Int × Int => [p.1.d, D.int p.2.1, D.int p.2.2]) (fun p => match p.1 with | .leaf lo hi ks vs => (Rec.leaf lo hi ks vs).okB = true ∧ (wValue lo hi ks vs p.2.1 p.2.2).okB = true | _ => False) (fun p => match p.1 with | .leaf lo hi ks vs => (wValue lo hi ks vs p.2.1 p.2.2).d | _ => .non)
abbrev sp_without_key (K : PySem.W.Frag) : Sp := spD K (fun p : Rec × Int => [p.1.d, D.int p.2]) (fun p => match p.1 with | .leaf lo hi ks vs => (Rec.leaf lo hi ks vs).okB = true ∧ (woKey lo hi ks vs p.2).okB = true | _ => False) (fun p => match p.1 with | .leaf lo hi ks vs => (woKey lo hi ks vs p.2).d | _ => .non)
abbrev sp_with_child (K : PySem.W.Frag) : Sp := spD K (fun p : Rec × Nat × Int × Int => [p.1.d, D.int p.2.1, D.int p.2.2.1, D.int p.2.2.2]) (fun p => match p.1 with | .inner lv lo hi ks ps => (Rec.inner lv lo hi ks ps).okB = true ∧ (wChild lv lo hi ks ps p.2.1 p.2.2.1 p.2.2.2).okB = true | _ => False) (fun p => match p.1 with | .inner lv lo hi ks ps => (wChild lv lo hi ks ps p.2.1 p.2.2.1 p.2.2.2).d | _ => .non)
abbrev sp_without_child (K : PySem.W.Frag) : Sp := spD K (fun p : Rec × Nat => [p.1.d, D.int p.2]) (fun p => match p.1 with | .inner lv lo hi ks ps => (Rec.inner lv lo hi ks ps).okB = true ∧ 1 ≤ p.2 ∧ (woChild lv lo hi ks ps p.2).okB = true | _ => False) (fun p => match p.1 with | .inner lv lo hi ks ps => (woChild lv lo hi ks ps p.2).d | _ => .non)
abbrev sp_with_separator (K : PySem.W.Frag) : Sp := spD K (fun p : Rec × Nat × Int => [p.1.d, D.int p.2.1, D.int p.2.2]) (fun p => match p.1 with | .inner lv lo hi ks ps => (Rec.inner lv lo hi ks ps).okB = true ∧ 1 ≤ p.2.1 ∧ (wSep lv lo hi ks ps p.2.1 p.2.2).okB = true | _ => False) (fun p => match p.1 with | .inner lv lo hi ks ps => (wSep lv lo hi ks ps p.2.1 p.2.2).d | _ => .non)
def cutD3 : Rec × Int × Rec → D := fun p => .tup [p.1.d, .int p.2.1, p.2.2.d]
abbrev sp_cut (K : PySem.W.Frag) : Sp := spD K (fun p : Rec × Rec × Int × Rec => [p.1.d]) (fun p => p.1.okB = true ∧ p.1.live = true ∧ cutR p.1 = some p.2 ∧ p.2.1.okB = true ∧ p.2.2.2.okB = true) (fun p => cutD3 p.2)
abbrev sp_joined (K : PySem.W.Frag) : Sp := spD K (fun p : Rec × Int × Rec => [p.1.d, D.int p.2.1, p.2.2.d]) (fun p => p.1.okB = true ∧ p.2.2.okB = true ∧ p.1.live = true ∧ p.2.2.live = true ∧ p.1.isLeaf = p.2.2.isLeaf ∧ (joinR p.1 p.2.1 p.2.2).okB = true) (fun p => (joinR p.1 p.2.1 p.2.2).d)
end Esp

/-! Printed by gen.py: readings of nodes.py -/
namespace Esp
open PySem L2 PyProof.Rows PySem.Spec
def t_is_integer (K : PySem.W.Frag) : TS := (tRet (tAndV (tCB (rIsi K) (tCons (tVar 0) (tCons (tC (.ty "int")) tNil))) (tNotV (tCB (rIsi K) (tCons (tVar 0) (tCons (tC (.ty "bool")) tNil))))))
def t_is_bound (K : PySem.W.Frag) : TS := (tRet (tOrV (tOp rIsNo (tVar 0) (tC .non)) (tCall (sp_is_integer K) [] E0 (tCons (tVar 0) tNil))))
def t_are_integers (K : PySem.W.Frag) : TS := (tRet (tAndV (tCB (rIsi K) (tCons (tVar 0) (tCons (tC (.ty "tuple")) tNil))) (tCB (rAll K) (tCons (tLc (iTup K (tVar 0)) (gName 1) tYes (tCall (sp_is_integer K) [] E0 (tCons (tVar 1) tNil)) [1]) tNil))))
def t_are_ascending (K : PySem.W.Frag) : TS := (tSeq (tFor (iRng2 (tCons (tC (.int 1)) (tCons (tCB (rLenS K) (tCons (tVar 0) tNil)) tNil))) (gName 1) (tIfS (tTest (tOp rGeI (tOp (rIxT K) (tVar 0) (tOp rSubI (tVar 1) (tC (.int 1)))) (tOp (rIxT K) (tVar 0) (tVar 1)))) (tRet (tC (.bl false))) tNext)) (tRet (tC (.bl true))))
def t_is_above (K : PySem.W.Frag) : TS := (tRet (tOrV (tOp rIsNo (tVar 1) (tC .non)) (tOp rGeI (tVar 0) (tVar 1))))
def t_is_below (K : PySem.W.Frag) : TS := (tRet (tOrV (tOp rIsNo (tVar 1) (tC .non)) (tOp rLtI (tVar 0) (tVar 1))))
def t_is_leaf (K : PySem.W.Frag) : TS := (tSeq (tIfS (tOr (tTest (tOp rNe (tCB (rLenS K) (tCons (tVar 0) tNil)) (tC (.int 5)))) (tOr (tNot (tB (tCall (sp_is_bound K) [] E0 (tCons (tOp (rIxT K) (tVar 0) (tC (.int 1))) tNil)))) (tNot (tB (tCall (sp_is_bound K) [] E0 (tCons (tOp (rIxT K) (tVar 0) (tC (.int 2))) tNil)))))) (tRet (tC (.bl false))) tNext) (tSeq (tAsg (tSl (rSlA K) (tVar 0) (tPart (tC (.int 1))) tNoPart) (gTup K 4 (gCons (gName 1) (gCons (gName 2) (gCons (gName 3) (gCons (gName 4) gNil)))))) (tSeq (tIfS (tOr (tNot (tB (tCall (sp_are_integers K) [] E0 (tCons (tVar 3) tNil)))) (tOr (tNot (tB (tCall (sp_are_integers K) [] E0 (tCons (tVar 4) tNil)))) (tTest (tOp rNe (tCB (rLenS K) (tCons (tVar 3) tNil)) (tCB (rLenS K) (tCons (tVar 4) tNil)))))) (tRet (tC (.bl false))) tNext) (tSeq (tIfS (tOr (tAnd (tTest (tOp rNotNo (tVar 1) (tC .non))) (tNot (tB (tCall (sp_is_below K) [] E0 (tCons (tVar 1) (tCons (tVar 2) tNil)))))) (tNot (tB (tCall (sp_are_ascending K) [] E0 (tCons (tVar 3) tNil))))) (tRet (tC (.bl false))) tNext) (tRet (tCB (rAll K) (tCons (tLc (iTup K (tVar 3)) (gName 5) tYes (tAndV (tCall (sp_is_above K) [] E0 (tCons (tVar 5) (tCons (tVar 1) tNil))) (tCall (sp_is_below K) [] E0 (tCons (tVar 5) (tCons (tVar 2) tNil)))) [5]) tNil)))))))
def t_is_inner (K : PySem.W.Frag) : TS := (tSeq (tIfS (tOr (tTest (tOp rNe (tCB (rLenS K) (tCons (tVar 0) tNil)) (tC (.int 6)))) (tOr (tNot (tB (tCall (sp_is_integer K) [] E0 (tCons (tOp (rIxT K) (tVar 0) (tC (.int 1))) tNil)))) (tTest (tOp rLtI (tOp (rIxT K) (tVar 0) (tC (.int 1))) (tC (.int 1)))))) (tRet (tC (.bl false))) tNext) (tSeq (tAsg (tSl (rSlA K) (tVar 0) (tPart (tC (.int 2))) tNoPart) (gTup K 4 (gCons (gName 1) (gCons (gName 2) (gCons (gName 3) (gCons (gName 4) gNil)))))) (tSeq (tIfS (tOr (tNot (tB (tCall (sp_is_bound K) [] E0 (tCons (tVar 1) tNil)))) (tOr (tNot (tB (tCall (sp_is_bound K) [] E0 (tCons (tVar 2) tNil)))) (tOr (tNot (tB (tCall (sp_are_integers K) [] E0 (tCons (tVar 3) tNil)))) (tNot (tB (tCall (sp_are_integers K) [] E0 (tCons (tVar 4) tNil))))))) (tRet (tC (.bl false))) tNext) (tSeq (tIfS (tAnd (tTest (tOp rNotNo (tVar 1) (tC .non))) (tNot (tB (tCall (sp_is_below K) [] E0 (tCons (tVar 1) (tCons (tVar 2) tNil)))))) (tRet (tC (.bl false))) tNext) (tSeq (tIfS (tOr (tTest (tOp rNe (tCB (rLenS K) (tCons (tVar 4) tNil)) (tOp rAddI (tCB (rLenS K) (tCons (tVar 3) tNil)) (tC (.int 1))))) (tNot (tB (tCall (sp_are_ascending K) [] E0 (tCons (tVar 3) tNil))))) (tRet (tC (.bl false))) tNext) (tRet (tCB (rAll K) (tCons (tLc (iTup K (tVar 3)) (gName 5) tYes (tAndV (tOrV (tOp rIsNo (tVar 1) (tC .non)) (tOp rGtI (tVar 5) (tVar 1))) (tCall (sp_is_below K) [] E0 (tCons (tVar 5) (tCons (tVar 2) tNil)))) [5]) tNil))))))))
def t_is_record (K : PySem.W.Frag) : TS := (tSeq (tIfS (tOr (tNot (tB (tCB (rIsi K) (tCons (tVar 0) (tCons (tC (.ty "tuple")) tNil))))) (tTest (tOp rLtI (tCB (rLenS K) (tCons (tVar 0) tNil)) (tC (.int 2))))) (tRet (tC (.bl false))) tNext) (tSeq (tIfS (tTest (tOp rEq (tOp (rIxT K) (tVar 0) (tC (.int 0))) (tC (.str "leaf")))) (tRet (tCall (sp_is_leaf K) [] E0 (tCons (tVar 0) tNil))) tNext) (tSeq (tIfS (tTest (tOp rEq (tOp (rIxT K) (tVar 0) (tC (.int 0))) (tC (.str "inner")))) (tRet (tCall (sp_is_inner K) [] E0 (tCons (tVar 0) tNil))) tNext) (tRet (tAndV (tOp rEq (tOp (rIxT K) (tVar 0) (tC (.int 0))) (tC (.str "free"))) (tAndV (tOp rEq (tCB (rLenS K) (tCons (tVar 0) tNil)) (tC (.int 2))) (tCall (sp_is_integer K) [] E0 (tCons (tOp (rIxT K) (tVar 0) (tC (.int 1))) tNil))))))))
def t_checked (K : PySem.W.Frag) : TS := (tSeq (tIfS (tNot (tB (tCall (sp_is_record K) [] E0 (tCons (tVar 0) tNil)))) tNever tNext) (tRet (tVar 0)))
def t_leaf (K : PySem.W.Frag) : TS := (tRet (tCall (sp_checked K) [] E0 (tCons (tTup (tCons (tC (.str "leaf")) (tCons (tVar 0) (tCons (tVar 1) (tCons (tCB (rTupS K) (tCons (tVar 2) tNil)) (tCons (tCB (rTupS K) (tCons (tVar 3) tNil)) tNil)))))) tNil)))
def t_inner (K : PySem.W.Frag) : TS := (tRet (tCall (sp_checked K) [] E0 (tCons (tTup (tCons (tC (.str "inner")) (tCons (tVar 0) (tCons (tVar 1) (tCons (tVar 2) (tCons (tCB (rTupS K) (tCons (tVar 3) tNil)) (tCons (tCB (rTupS K) (tCons (tVar 4) tNil)) tNil))))))) tNil)))
def t_level_of (K : PySem.W.Frag) : TS := (tSeq (tIfS (tTest (tOp rEq (tOp (rIxT K) (tVar 0) (tC (.int 0))) (tC (.str "leaf")))) (tRet (tC (.int 0))) tNext) (tSeq (tIfS (tTest (tOp rEq (tOp (rIxT K) (tVar 0) (tC (.int 0))) (tC (.str "inner")))) (tRet (tOp (rIxT K) (tVar 0) (tC (.int 1)))) tNext) (tRet (tUn rNeg (tC (.int 1))))))
def t_bounds_of (K : PySem.W.Frag) : TS := (tSeq (tIfS (tTest (tOp rEq (tOp (rIxT K) (tVar 0) (tC (.int 0))) (tC (.str "leaf")))) (tRet (tTup (tCons (tOp (rIxT K) (tVar 0) (tC (.int 1))) (tCons (tOp (rIxT K) (tVar 0) (tC (.int 2))) tNil)))) tNext) (tRet (tTup (tCons (tOp (rIxT K) (tVar 0) (tC (.int 2))) (tCons (tOp (rIxT K) (tVar 0) (tC (.int 3))) tNil)))))
def t_size_of (K : PySem.W.Frag) : TS := (tRet (tCB (rLenS K) (tCons (tOp (rIxT K) (tVar 0) (tUn rNeg (tC (.int 1)))) tNil)))
def t_value_in (K : PySem.W.Frag) : TS := (tSeq (tFor (iRng1 (tCons (tCB (rLenS K) (tCons (tOp (rIxT K) (tVar 0) (tC (.int 3))) tNil)) tNil)) (gName 2) (tIfS (tTest (tOp rEq (tOp (rIxT K) (tOp (rIxT K) (tVar 0) (tC (.int 3))) (tVar 2)) (tVar 1))) (tRet (tOp (rIxT K) (tOp (rIxT K) (tVar 0) (tC (.int 4))) (tVar 2))) tNext)) (tRet (tC .non)))
def t_place_of (K : PySem.W.Frag) : TS := (tRet (tCB (rLenS K) (tCons (tLc (iTup K (tVar 0)) (gName 2) (tTest (tOp rLtI (tVar 2) (tVar 1))) (tVar 2) [2]) tNil)))
def t_child_bounds (K : PySem.W.Frag) : TS := (tSeq (tPar3 2 3 4 (tCons (tOp (rIxT K) (tVar 0) (tC (.int 2))) (tCons (tOp (rIxT K) (tVar 0) (tC (.int 3))) (tCons (tOp (rIxT K) (tVar 0) (tC (.int 4))) tNil)))) (tSeq (tIfS (tTest (tOp rGtI (tVar 1) (tC (.int 0)))) (tAsg (tOp (rIxT K) (tVar 4) (tOp rSubI (tVar 1) (tC (.int 1)))) (gName 2)) tNext) (tSeq (tIfS (tTest (tOp rLtI (tVar 1) (tCB (rLenS K) (tCons (tVar 4) tNil)))) (tAsg (tOp (rIxT K) (tVar 4) (tVar 1)) (gName 3)) tNext) (tRet (tTup (tCons (tVar 2) (tCons (tVar 3) tNil)))))))
def t_with_value (K : PySem.W.Frag) : TS := (tSeq (tAsg (tSl (rSlA K) (tVar 0) (tPart (tC (.int 1))) tNoPart) (gTup K 4 (gCons (gName 3) (gCons (gName 4) (gCons (gName 5) (gCons (gName 6) gNil)))))) (tSeq (tAsg (tCall (sp_place_of K) [] E0 (tCons (tVar 5) (tCons (tVar 1) tNil))) (gName 7)) (tSeq (tAsg (tVar 7) (gName 8)) (tSeq (tIfS (tAnd (tTest (tOp rLtI (tVar 7) (tCB (rLenS K) (tCons (tVar 5) tNil)))) (tTest (tOp rEq (tOp (rIxT K) (tVar 5) (tVar 7)) (tVar 1)))) (tAsg (tOp rAddI (tVar 7) (tC (.int 1))) (gName 8)) tNext) (tSeq (tAsg (tOp (rCatA K) (tOp (rCatA K) (tSl (rSlA K) (tVar 5) tNoPart (tPart (tVar 7))) (tTup (tCons (tVar 1) tNil))) (tSl (rSlA K) (tVar 5) (tPart (tVar 8)) tNoPart)) (gName 5)) (tSeq (tAsg (tOp (rCatA K) (tOp (rCatA K) (tSl (rSlA K) (tVar 6) tNoPart (tPart (tVar 7))) (tTup (tCons (tVar 2) tNil))) (tSl (rSlA K) (tVar 6) (tPart (tVar 8)) tNoPart)) (gName 6)) (tRet (tCall (sp_leaf K) [] E0 (tCons (tVar 3) (tCons (tVar 4) (tCons (tVar 5) (tCons (tVar 6) tNil))))))))))))
def t_without_key (K : PySem.W.Frag) : TS := (tSeq (tAsg (tSl (rSlA K) (tVar 0) (tPart (tC (.int 1))) tNoPart) (gTup K 4 (gCons (gName 2) (gCons (gName 3) (gCons (gName 4) (gCons (gName 5) gNil)))))) (tSeq (tAsg (tCall (sp_place_of K) [] E0 (tCons (tVar 4) (tCons (tVar 1) tNil))) (gName 6)) (tRet (tCall (sp_leaf K) [] E0 (tCons (tVar 2) (tCons (tVar 3) (tCons (tOp (rCatA K) (tSl (rSlA K) (tVar 4) tNoPart (tPart (tVar 6))) (tSl (rSlA K) (tVar 4) (tPart (tOp rAddI (tVar 6) (tC (.int 1)))) tNoPart)) (tCons (tOp (rCatA K) (tSl (rSlA K) (tVar 5) tNoPart (tPart (tVar 6))) (tSl (rSlA K) (tVar 5) (tPart (tOp rAddI (tVar 6) (tC (.int 1)))) tNoPart)) tNil))))))))
def t_with_child (K : PySem.W.Frag) : TS := (tSeq (tAsg (tSl (rSlA K) (tVar 0) (tPart (tC (.int 1))) tNoPart) (gTup K 5 (gCons (gName 4) (gCons (gName 5) (gCons (gName 6) (gCons (gName 7) (gCons (gName 8) gNil))))))) (tSeq (tAsg (tOp (rCatA K) (tOp (rCatA K) (tSl (rSlA K) (tVar 7) tNoPart (tPart (tVar 1))) (tTup (tCons (tVar 2) tNil))) (tSl (rSlA K) (tVar 7) (tPart (tVar 1)) tNoPart)) (gName 7)) (tSeq (tAsg (tOp (rCatA K) (tOp (rCatA K) (tSl (rSlA K) (tVar 8) tNoPart (tPart (tOp rAddI (tVar 1) (tC (.int 1))))) (tTup (tCons (tVar 3) tNil))) (tSl (rSlA K) (tVar 8) (tPart (tOp rAddI (tVar 1) (tC (.int 1)))) tNoPart)) (gName 8)) (tRet (tCall (sp_inner K) [] E0 (tCons (tVar 4) (tCons (tVar 5) (tCons (tVar 6) (tCons (tVar 7) (tCons (tVar 8) tNil))))))))))
def t_without_child (K : PySem.W.Frag) : TS := (tSeq (tAsg (tSl (rSlA K) (tVar 0) (tPart (tC (.int 1))) tNoPart) (gTup K 5 (gCons (gName 2) (gCons (gName 3) (gCons (gName 4) (gCons (gName 5) (gCons (gName 6) gNil))))))) (tSeq (tAsg (tOp (rCatA K) (tSl (rSlA K) (tVar 5) tNoPart (tPart (tOp rSubI (tVar 1) (tC (.int 1))))) (tSl (rSlA K) (tVar 5) (tPart (tVar 1)) tNoPart)) (gName 5)) (tRet (tCall (sp_inner K) [] E0 (tCons (tVar 2) (tCons (tVar 3) (tCons (tVar 4) (tCons (tVar 5) (tCons (tOp (rCatA K) (tSl (rSlA K) (tVar 6) tNoPart (tPart (tVar 1))) (tSl (rSlA K) (tVar 6) (tPart (tOp rAddI (tVar 1) (tC (.int 1)))) tNoPart)) tNil)))))))))
def t_with_separator (K : PySem.W.Frag) : TS := (tSeq (tAsg (tSl (rSlA K) (tVar 0) (tPart (tC (.int 1))) tNoPart) (gTup K 5 (gCons (gName 3) (gCons (gName 4) (gCons (gName 5) (gCons (gName 6) (gCons (gName 7) gNil))))))) (tRet (tCall (sp_inner K) [] E0 (tCons (tVar 3) (tCons (tVar 4) (tCons (tVar 5) (tCons (tOp (rCatA K) (tOp (rCatA K) (tSl (rSlA K) (tVar 6) tNoPart (tPart (tOp rSubI (tVar 1) (tC (.int 1))))) (tTup (tCons (tVar 2) tNil))) (tSl (rSlA K) (tVar 6) (tPart (tVar 1)) tNoPart)) (tCons (tVar 7) tNil))))))))
def t_cut (K : PySem.W.Frag) : TS := (tSeq (tAsg (tOp rDivI (tOp rAddI (tCall (sp_size_of K) [] E0 (tCons (tVar 0) tNil)) (tC (.int 1))) (tC (.int 2))) (gName 1)) (tSeq (tIfS (tTest (tOp rEq (tOp (rIxT K) (tVar 0) (tC (.int 0))) (tC (.str "leaf")))) (tSeq (tAsg (tSl (rSlA K) (tVar 0) (tPart (tC (.int 1))) tNoPart) (gTup K 4 (gCons (gName 2) (gCons (gName 3) (gCons (gName 4) (gCons (gName 5) gNil)))))) (tSeq (tAsg (tCall (sp_leaf K) [] E0 (tCons (tVar 2) (tCons (tOp (rIxT K) (tVar 4) (tVar 1)) (tCons (tSl (rSlA K) (tVar 4) tNoPart (tPart (tVar 1))) (tCons (tSl (rSlA K) (tVar 5) tNoPart (tPart (tVar 1))) tNil))))) (gName 6)) (tRet (tTup (tCons (tVar 6) (tCons (tOp (rIxT K) (tVar 4) (tVar 1)) (tCons (tCall (sp_leaf K) [] E0 (tCons (tOp (rIxT K) (tVar 4) (tVar 1)) (tCons (tVar 3) (tCons (tSl (rSlA K) (tVar 4) (tPart (tVar 1)) tNoPart) (tCons (tSl (rSlA K) (tVar 5) (tPart (tVar 1)) tNoPart) tNil))))) tNil))))))) tNext) (tSeq (tAsg (tSl (rSlA K) (tVar 0) (tPart (tC (.int 1))) tNoPart) (gTup K 5 (gCons (gName 7) (gCons (gName 2) (gCons (gName 3) (gCons (gName 4) (gCons (gName 8) gNil))))))) (tSeq (tAsg (tOp (rIxT K) (tVar 4) (tOp rSubI (tVar 1) (tC (.int 1)))) (gName 9)) (tSeq (tAsg (tCall (sp_inner K) [] E0 (tCons (tVar 7) (tCons (tVar 2) (tCons (tVar 9) (tCons (tSl (rSlA K) (tVar 4) tNoPart (tPart (tOp rSubI (tVar 1) (tC (.int 1))))) (tCons (tSl (rSlA K) (tVar 8) tNoPart (tPart (tVar 1))) tNil)))))) (gName 6)) (tRet (tTup (tCons (tVar 6) (tCons (tVar 9) (tCons (tCall (sp_inner K) [] E0 (tCons (tVar 7) (tCons (tVar 9) (tCons (tVar 3) (tCons (tSl (rSlA K) (tVar 4) (tPart (tVar 1)) tNoPart) (tCons (tSl (rSlA K) (tVar 8) (tPart (tVar 1)) tNoPart) tNil)))))) tNil))))))))))
def t_joined (K : PySem.W.Frag) : TS := (tSeq (tAsg (tOp (rIxT K) (tCall (sp_bounds_of K) [] E0 (tCons (tVar 0) tNil)) (tC (.int 0))) (gName 3)) (tSeq (tAsg (tOp (rIxT K) (tCall (sp_bounds_of K) [] E0 (tCons (tVar 2) tNil)) (tC (.int 1))) (gName 4)) (tSeq (tIfS (tTest (tOp rEq (tOp (rIxT K) (tVar 0) (tC (.int 0))) (tC (.str "leaf")))) (tRet (tCall (sp_leaf K) [] E0 (tCons (tVar 3) (tCons (tVar 4) (tCons (tOp (rCatA K) (tOp (rIxT K) (tVar 0) (tC (.int 3))) (tOp (rIxT K) (tVar 2) (tC (.int 3)))) (tCons (tOp (rCatA K) (tOp (rIxT K) (tVar 0) (tC (.int 4))) (tOp (rIxT K) (tVar 2) (tC (.int 4)))) tNil)))))) tNext) (tSeq (tAsg (tOp (rCatA K) (tOp (rCatA K) (tOp (rIxT K) (tVar 0) (tC (.int 4))) (tTup (tCons (tVar 1) tNil))) (tOp (rIxT K) (tVar 2) (tC (.int 4)))) (gName 5)) (tRet (tCall (sp_inner K) [] E0 (tCons (tOp (rIxT K) (tVar 0) (tC (.int 1))) (tCons (tVar 3) (tCons (tVar 4) (tCons (tVar 5) (tCons (tOp (rCatA K) (tOp (rIxT K) (tVar 0) (tC (.int 5))) (tOp (rIxT K) (tVar 2) (tC (.int 5)))) tNil)))))))))))
end Esp

/-! What the defs of nodes.py do. -/
namespace Esp
open PySem L2 PyProof.Rows PySem.Spec
section
variable {K : PySem.W.Frag} {C : Addr} {ss : List Sl} {d e z : D} {te ta tb tc : TE} {t u : TT} {r r' : R2}
theorem rv_eqs_t {i j : Str} (h : i = j) : RV K rEq (.str i) (.str j) (.bl true) := by
  have q := rv_eqs (K := K) (i := i) (j := j)
  rw [decide_eq_true h] at q
  exact q
theorem rv_eqs_f {i j : Str} (h : decide (i = j) = false) : RV K rEq (.str i) (.str j) (.bl false) := by
  have q := rv_eqs (K := K) (i := i) (j := j)
  rw [h] at q
  exact q
theorem rv_nes_t {i j : Str} (h : i = j) : RV K rNe (.str i) (.str j) (.bl false) := by
  have q := rv_nes (K := K) (i := i) (j := j)
  rw [decide_eq_false (fun z => z h)] at q
  exact q
theorem rv_nes_f {i j : Str} (h : decide (i = j) = false) : RV K rNe (.str i) (.str j) (.bl true) := by
  have q := rv_nes (K := K) (i := i) (j := j)
  rw [decide_eq_true (of_decide_eq_false h)] at q
  exact q
theorem isNon_oD (o : Option Int) : isNon (oD o) = !o.isSome := by cases o <;> rfl
theorem EvT.is' {b c : Bool} (h : Ev K C te ss (.bl b)) (e : b = c) : Ev K C te ss (.bl c) := e ▸ h
variable {A : List Addr} {B0 H0 : Hp} {ts us : TS} {nx bk ct : List Sl → Prop} {rt : D → List Sl → Prop}
theorem do_ift {c' : TT} (h : EvT K C c' ss true) (h1 : Do K C A B0 H0 ts ss nx bk ct rt) : Do K C A B0 H0 (tIfS c' ts us) ss nx bk ct rt := do_if h (fun _ => h1) (fun h => nomatch h)
theorem do_iff {c' : TT} (h : EvT K C c' ss false) (h1 : Do K C A B0 H0 us ss nx bk ct rt) : Do K C A B0 H0 (tIfS c' ts us) ss nx bk ct rt := do_if h (fun h => nomatch h) (fun _ => h1)
end
local macro_rules | `(tactic| walk_at "ev") => `(tactic| repeat' (first
  | exact ev_int | exact ev_str | exact ev_bl | exact ev_non | exact ea_nil | exact eo_none | exact et_yes
  | exact ev_var rfl | exact evx_own rfl
  | apply ea_cons | apply eo_some | apply ev_tup (hl := by first | decide | (simp; done))
  | apply ev_op | apply ev_neg
  | apply ev_sl | apply ev_chain
  | apply ev_andV | apply ev_orV | apply ev_notV
  | apply et_test | apply et_B | apply et_not | apply et_and | apply et_or
  | exact rv_i | exact rv_b | exact rv_eqi | exact rv_nei | exact rv_eqs_t (by with_reducible rfl) | exact rv_eqs_f (by decide +kernel) | exact rv_nes_t (by with_reducible rfl) | exact rv_nes_f (by decide +kernel)
  | exact rv_isN | exact rv_notN
  | exact rv_ixT rfl | exact rv_ixL rfl | apply rv_ixT | apply rv_ixL
  | apply ev_cb (hr := rc_lenT) | apply ev_cb (hr := rc_lenL) | apply ev_cb (hr := rc_int) | apply ev_cb (hr := rc_tupT) | apply ev_cb (hr := rc_all)
  | apply Ev.x | (intro _)))
local macro_rules | `(tactic| walk_at "gs") => `(tactic| repeat' (first | exact gs_nil | apply gs_cons | exact g_name (by simp) | apply g_tup (hn := rfl)))
theorem at_nat {α : Type} {l : List α} {z : Int} {j : Nat} {x : α} (e : z = (j : Int)) (h : l[j]? = some x) : atI l z = some x := by
  rw [e]; exact atI_nat h
theorem at_ints {l : List Int} {z : Int} {j : Nat} {x : Int} (e : z = (j : Int)) (h : l[j]? = some x) : atI (l.map D.int) z = some (.int x) := at_nat e (by rw [List.getElem?_map, h]; rfl)
theorem asc_iff : ∀ {l : List Int}, ascB l = true ↔ ∀ (i : Nat) a b, l[i]? = some a → l[i + 1]? = some b → a < b
  | [] => by simp [ascB]
  | [x] => by simp [ascB]
  | x :: y :: r => by
    have ih := asc_iff (l := y :: r)
    show (decide (x < y) && ascB (y :: r)) = true ↔ _
    rw [Bool.and_eq_true, decide_eq_true_iff, ih]
    constructor
    · rintro ⟨h1, h2⟩ i a b ha hb
      cases i with
      | zero => simp at ha hb; omega
      | succ i => exact h2 i a b (by simpa using ha) (by simpa using hb)
    · intro h
      exact ⟨h 0 x y rfl rfl, fun i a b ha hb => h (i + 1) a b (by simpa using ha) (by simpa using hb)⟩
section
variable {K : PySem.W.Frag} {C : Addr} {H0 B : Hp} {nx bk ct : List Sl → Prop}
theorem do_is_integer (i : Int) : Do K C [] B H0 (t_is_integer K) [.val (.int i)] nx bk ct (fun d _ => d = .bl true) :=
  do_ret (d := .bl true) (ev_andV (a := true) (b := true) (ev_isi_int (by walk_at "ev") (by decide +kernel)) fun _ => ev_notV (a := false) (ev_isi_int (by walk_at "ev") (by decide +kernel))) rfl
theorem do_is_bound (o : Option Int) : Do K C [] B H0 (t_is_bound K) [.val (oD o)] nx bk ct (fun d _ => d = .bl true) := by
  cases o with
  | none => exact do_ret (d := .bl true) (ev_orV (a := true) (b := true) (by walk_at "ev") (fun h => nomatch h)) rfl
  | some i => exact do_ret (d := .bl true) (ev_orV (a := false) (b := true) (by walk_at "ev") (fun _ => ev_call i (by walk_at "ev") trivial)) rfl
theorem do_is_above (p : Int × Option Int) : Do K C [] B H0 (t_is_above K) [.val (.int p.1), .val (oD p.2)] nx bk ct (fun d _ => d = .bl (aboveB p.1 p.2)) := by
  obtain ⟨k, o⟩ := p
  cases o with
  | none => exact do_ret (d := .bl true) (ev_orV (a := true) (b := true) (by walk_at "ev") (fun h => nomatch h)) rfl
  | some i => exact do_ret (d := .bl (decide (i ≤ k))) (ev_orV (a := false) (b := decide (i ≤ k)) (by walk_at "ev") (fun _ => by walk_at "ev")) rfl
theorem do_is_below (p : Int × Option Int) : Do K C [] B H0 (t_is_below K) [.val (.int p.1), .val (oD p.2)] nx bk ct (fun d _ => d = .bl (belowB p.1 p.2)) := by
  obtain ⟨k, o⟩ := p
  cases o with
  | none => exact do_ret (d := .bl true) (ev_orV (a := true) (b := true) (by walk_at "ev") (fun h => nomatch h)) rfl
  | some i => exact do_ret (d := .bl (decide (k < i))) (ev_orV (a := false) (b := decide (k < i)) (by walk_at "ev") (fun _ => by walk_at "ev")) rfl
theorem map_true {l : List D} : (l.filter fun _ => true).map (fun _ => D.bl true) = (List.replicate l.length true).map D.bl := by
  rw [List.filter_eq_self.mpr (fun _ _ => rfl), List.map_const', List.map_replicate]
theorem all_replicate (n : Nat) : (List.replicate n true).all id = true := by
  rw [List.all_eq_true]
  intro x hx
  exact (List.mem_replicate.mp hx).2
theorem do_are_integers (l : List Int) (h : l.length ≤ 60) : Do K C [] B H0 (t_are_integers K) [.val (iL l), .no] nx bk ct (fun d _ => d = .bl true) := by
  refine do_ret (d := .bl true) (ev_andV (a := true) (b := true) (ev_isi_tup (by walk_at "ev") (by decide +kernel)) fun _ => ?_) rfl
  have q := evn_lcT (K := K) (C := C) (ss := [.val (iL l), .no]) (tl := tVar 0) (j := 1) (l := l.map D.int) (p := fun _ => true) (g := fun _ => .bl true) (tt := tYes) (te := tCall (sp_is_integer K) [] E0 (tCons (tVar 1) tNil)) (ev_var rfl) (Nat.lt_succ_self 1) (fun d _ => et_yes) (fun d hd _ => by
    obtain ⟨i, _, rfl⟩ := List.mem_map.mp hd
    exact ev_call i (by walk_at "ev") trivial) (by rw [List.length_map]; omega)
  rw [map_true] at q
  have r := ev_cb (K := K) (C := C) q.x rc_all
  rw [all_replicate] at r
  exact r
theorem do_are_ascending (l : List Int) (h : l.length ≤ 60) : Do K C [] B H0 (t_are_ascending K) [.val (iL l), .no] nx bk ct (fun d _ => d = .bl (ascB l)) := by
  refine do_seq (do_forR2 (lo := 1) (hi := l.length) (ea_cons ev_int (ea_cons (Ev.is (by walk_at "ev") (by simp)) ea_nil)) (by omega)
    (fun i ss => (∃ x, ss = [.val (iL l), x]) ∧ ∀ (j : Nat) a b, j < i → l[j]? = some a → l[j + 1]? = some b → a < b) ⟨⟨_, rfl⟩, fun j a b hj => absurd hj (Nat.not_lt_zero j)⟩ ?_ ?_)
  · rintro i ss hi ⟨⟨x, rfl⟩, ha⟩
    have h1 : i < l.length := by omega
    have h2 : i + 1 < l.length := by omega
    have e1 : l[i]? = some l[i] := List.getElem?_eq_getElem h1
    have e2 : l[i + 1]? = some l[i + 1] := List.getElem?_eq_getElem h2
    refine ⟨_, g_name (by simp), ?_⟩
    refine do_if (b' := decide (l[i + 1] ≤ l[i])) (et_test (ev_op (d := .int l[i]) (e := .int l[i + 1]) (Ev.x (ev_op (d := iL l) (e := .int (1 + i - 1)) (Ev.x (ev_var rfl)) (by walk_at "ev") (rv_ixT (at_ints (by omega) e1)))) (Ev.x (ev_op (d := iL l) (e := .int (1 + i)) (Ev.x (ev_var rfl)) (by walk_at "ev") (rv_ixT (at_ints (by omega) e2)))) rv_b)) (fun hb => do_ret ev_bl ?_) (fun hb => do_next ⟨⟨_, rfl⟩, fun j a b hj ea eb => ?_⟩)
    · congr 1
      cases q : ascB l with
      | false => rfl
      | true =>
        have := asc_iff.mp q i _ _ e1 e2
        have := of_decide_eq_true hb
        omega
    · by_cases e : j = i
      · subst e
        rw [e1] at ea; rw [e2] at eb
        cases ea; cases eb
        have := of_decide_eq_false hb
        omega
      · exact ha j a b (by omega) ea eb
  · rintro ss ⟨⟨x, rfl⟩, ha⟩
    refine do_ret ev_bl ?_
    rw [asc_iff.mpr fun i a b ea eb => ha i a b (by have := (List.getElem?_eq_some_iff.mp eb).1; omega) ea eb]
theorem leaf_ok {lo hi : Option Int} {ks vs : List Int} (h : (Rec.leaf lo hi ks vs).okB = true) : ks.length = vs.length ∧ ks.length ≤ 50 ∧ lohi lo hi = true ∧ ascB ks = true ∧ ∀ k ∈ ks, aboveB k lo = true ∧ belowB k hi = true := by
  unfold Rec.okB at h
  simp only [Bool.and_eq_true, decide_eq_true_eq, List.all_eq_true] at h
  exact h
theorem inner_ok {lv : Int} {lo hi : Option Int} {ks ps : List Int} (h : (Rec.inner lv lo hi ks ps).okB = true) : 1 ≤ lv ∧ ps.length = ks.length + 1 ∧ ks.length ≤ 50 ∧ lohi lo hi = true ∧ ascB ks = true ∧ ∀ k ∈ ks, gtB k lo = true ∧ belowB k hi = true := by
  unfold Rec.okB at h
  simp only [Bool.and_eq_true, decide_eq_true_eq, List.all_eq_true] at h
  obtain ⟨h1, h2, h3, h4, h5, h6⟩ := h
  exact ⟨h1, h2, h3, h4, h5, h6⟩
theorem all_ints {ss : List Sl} {tl : TE} {j : Nat} {ks : List Int} {te : TE} (h : Ev K C tl ss (iL ks)) (hj : j < ss.length) (hl : ks.length ≤ 60) (he : ∀ k ∈ ks, Ev K C te (ss.set j (.val (.int k))) (.bl true)) : Ev K C (tCB (rAll K) (tCons (tLc (iTup K tl) (gName j) tYes te [j]) tNil)) ss (.bl true) := by
  have q := evn_lcT (p := fun _ => true) (g := fun _ => .bl true) (tt := tYes) (te := te) h hj (fun d _ => et_yes) (fun d hd _ => by
    obtain ⟨i, hi, rfl⟩ := List.mem_map.mp hd
    exact he i hi) (by rw [List.length_map]; omega)
  rw [map_true] at q
  have r := ev_cb q.x rc_all
  rw [all_replicate] at r
  exact r
theorem do_is_leaf (r : Rec) (h : r.okB = true ∧ r.isLeaf = true) : Do K C [] B H0 (t_is_leaf K) [.val r.d, .no, .no, .no, .no, .no] nx bk ct (fun d _ => d = .bl true) := by
  cases r with
  | leaf lo hi ks vs =>
    obtain ⟨h1, h2, h3, h4, h5⟩ := leaf_ok h.1
    refine do_seq (do_iff (EvT.is (b := false || (false || false)) (et_or ?_ fun _ => et_or ?_ fun _ => ?_) rfl) (do_next ?_))
    · exact et_test (EvT.is' (by walk_at "ev") rfl)
    · exact et_not (a := true) (et_B (ev_call lo (by walk_at "ev") trivial))
    · exact et_not (a := true) (et_B (ev_call hi (by walk_at "ev") trivial))
    refine do_seq (do_asgG (d := .tup [oD lo, oD hi, iL ks, iL vs]) (Ev.is (ev_sl (Ev.x (ev_var rfl)) (eo_some ev_int) eo_none) rfl) (by walk_at "gs") ?_)
    refine do_seq (do_iff (EvT.is (b := false || (false || false)) (et_or ?_ fun _ => et_or ?_ fun _ => ?_) rfl) (do_next ?_))
    · exact et_not (a := true) (et_B (ev_call ks (by walk_at "ev") (by omega)))
    · exact et_not (a := true) (et_B (ev_call vs (by walk_at "ev") (by omega)))
    · exact et_test (EvT.is' (by walk_at "ev") (by simp [h1]))
    refine do_seq (do_iff (EvT.is (b := (lo.isSome && !lohi lo hi) || false) (et_or ?_ fun _ => ?_) (by simp [h3])) (do_next ?_))
    · cases lo with
      | none => exact et_and (a := false) (b := false) (et_test (by walk_at "ev")) (fun z => nomatch z)
      | some l => exact et_and (a := true) (et_test (by walk_at "ev")) (fun _ => et_not (et_B (ev_call (l, hi) (by walk_at "ev") trivial)))
    · exact et_not (a := true) (et_B (Ev.is (ev_call ks (by walk_at "ev") (by omega)) (by rw [h4])))
    refine do_ret (all_ints (ev_var rfl) (by simp) (by omega) fun k hk => ?_) rfl
    obtain ⟨q1, q2⟩ := h5 k hk
    exact ev_andV (a := true) (b := true) (Ev.is (ev_call (k, lo) (by walk_at "ev") trivial) (by rw [q1])) fun _ => Ev.is (ev_call (k, hi) (by walk_at "ev") trivial) (by rw [q2])
  | inner lv lo hi ks ps => exact absurd h.2 (by simp [Rec.isLeaf])
  | free n => exact absurd h.2 (by simp [Rec.isLeaf])
end
end Esp

/-! What the defs of nodes.py do, 2. -/
namespace Esp
open PySem L2 PyProof.Rows PySem.Spec
local macro_rules | `(tactic| walk_at "ev") => `(tactic| repeat' (first
  | exact ev_int | exact ev_str | exact ev_bl | exact ev_non | exact ea_nil | exact eo_none | exact et_yes
  | exact ev_var rfl | exact evx_own rfl
  | apply ea_cons | apply eo_some | apply ev_tup (hl := by first | decide | (simp; done))
  | apply ev_op | apply ev_neg
  | apply ev_sl | apply ev_chain
  | apply ev_andV | apply ev_orV | apply ev_notV
  | apply et_test | apply et_B | apply et_not | apply et_and | apply et_or
  | exact rv_i | exact rv_b | exact rv_eqi | exact rv_nei | exact rv_eqs_t (by with_reducible rfl) | exact rv_eqs_f (by decide +kernel) | exact rv_nes_t (by with_reducible rfl) | exact rv_nes_f (by decide +kernel)
  | exact rv_isN | exact rv_notN
  | exact rv_ixT rfl | exact rv_ixL rfl | apply rv_ixT | apply rv_ixL
  | apply ev_cb (hr := rc_lenT) | apply ev_cb (hr := rc_lenL) | apply ev_cb (hr := rc_int) | apply ev_cb (hr := rc_tupT) | apply ev_cb (hr := rc_all)
  | apply Ev.x | (intro _)))
local macro_rules | `(tactic| walk_at "gs") => `(tactic| repeat' (first | exact gs_nil | apply gs_cons | exact g_name (by simp) | apply g_tup (hn := rfl)))
section
variable {K : PySem.W.Frag} {C : Addr} {H0 B : Hp} {nx bk ct : List Sl → Prop}
theorem do_is_inner (r : Rec) (h : r.okB = true ∧ r.isLeaf = false ∧ r.live = true) : Do K C [] B H0 (t_is_inner K) [.val r.d, .no, .no, .no, .no, .no] nx bk ct (fun d _ => d = .bl true) := by
  cases r with
  | leaf lo hi ks vs => exact absurd h.2.1 (by simp [Rec.isLeaf])
  | free n => exact absurd h.2.2 (by simp [Rec.live])
  | inner lv lo hi ks ps =>
    obtain ⟨h0, h1, h2, h3, h4, h5⟩ := inner_ok h.1
    refine do_seq (do_iff (EvT.is (b := false || (false || false)) (et_or ?_ fun _ => et_or ?_ fun _ => ?_) rfl) (do_next ?_))
    · exact et_test (EvT.is' (by walk_at "ev") rfl)
    · exact et_not (a := true) (et_B (ev_call lv (by walk_at "ev") trivial))
    · exact et_test (EvT.is' (by walk_at "ev") (decide_eq_false (by omega)))
    refine do_seq (do_asgG (d := .tup [oD lo, oD hi, iL ks, iL ps]) (Ev.is (ev_sl (Ev.x (ev_var rfl)) (eo_some ev_int) eo_none) rfl) (by walk_at "gs") ?_)
    refine do_seq (do_iff (EvT.is (b := false || (false || (false || false))) (et_or ?_ fun _ => et_or ?_ fun _ => et_or ?_ fun _ => ?_) rfl) (do_next ?_))
    · exact et_not (a := true) (et_B (ev_call lo (by walk_at "ev") trivial))
    · exact et_not (a := true) (et_B (ev_call hi (by walk_at "ev") trivial))
    · exact et_not (a := true) (et_B (ev_call ks (by walk_at "ev") (by omega)))
    · exact et_not (a := true) (et_B (ev_call ps (by walk_at "ev") (by omega)))
    refine do_seq (do_iff (EvT.is (b := (lo.isSome && !lohi lo hi)) ?_ (by simp [h3])) (do_next ?_))
    · cases lo with
      | none => exact et_and (a := false) (b := false) (et_test (by walk_at "ev")) (fun z => nomatch z)
      | some l => exact et_and (a := true) (et_test (by walk_at "ev")) (fun _ => et_not (et_B (ev_call (l, hi) (by walk_at "ev") trivial)))
    refine do_seq (do_iff (EvT.is (b := false || false) (et_or ?_ fun _ => ?_) rfl) (do_next ?_))
    · exact et_test (EvT.is' (by walk_at "ev") (by simp [h1]))
    · exact et_not (a := true) (et_B (Ev.is (ev_call ks (by walk_at "ev") (by omega)) (by rw [h4])))
    refine do_ret (all_ints (ev_var rfl) (by simp) (by omega) fun k hk => ?_) rfl
    obtain ⟨q1, q2⟩ := h5 k hk
    refine ev_andV (a := true) (b := true) ?_ fun _ => Ev.is (ev_call (k, hi) (by walk_at "ev") trivial) (by rw [q2])
    cases lo with
    | none => exact ev_orV (a := true) (b := true) (by walk_at "ev") (fun z => nomatch z)
    | some l => exact ev_orV (a := false) (b := true) (by walk_at "ev") (fun _ => EvT.is' (by walk_at "ev") q1)
theorem do_is_record (r : Rec) (h : r.okB = true) : Do K C [] B H0 (t_is_record K) [.val r.d] nx bk ct (fun d _ => d = .bl true) := by
  have first : ∀ n : Nat, 2 ≤ n → ∀ l : List D, l.length = n → EvT K C (tOr (tNot (tB (tCB (rIsi K) (tCons (tVar 0) (tCons (tC (.ty "tuple")) tNil))))) (tTest (tOp rLtI (tCB (rLenS K) (tCons (tVar 0) tNil)) (tC (.int 2))))) [.val (.tup l)] false := fun n hn l hl =>
    et_or (a := false) (b := false) (et_not (a := true) (et_B (ev_isi_tup (ev_var rfl) (by decide +kernel)))) fun _ => et_test (EvT.is' (by walk_at "ev") (decide_eq_false (by rw [hl]; omega)))
  cases r with
  | leaf lo hi ks vs =>
    refine do_seq (do_iff (first 5 (by decide) _ rfl) (do_next ?_))
    refine do_seq (do_ift (et_test (by walk_at "ev")) (do_ret (ev_call (Rec.leaf lo hi ks vs) (by walk_at "ev") ⟨h, rfl⟩) rfl))
  | inner lv lo hi ks ps =>
    refine do_seq (do_iff (first 6 (by decide) _ rfl) (do_next ?_))
    refine do_seq (do_iff (et_test (by walk_at "ev")) (do_next ?_))
    refine do_seq (do_ift (et_test (by walk_at "ev")) (do_ret (ev_call (Rec.inner lv lo hi ks ps) (by walk_at "ev") ⟨h, rfl, rfl⟩) rfl))
  | free n =>
    refine do_seq (do_iff (first 2 (by decide) _ rfl) (do_next ?_))
    refine do_seq (do_iff (et_test (by walk_at "ev")) (do_next ?_))
    refine do_seq (do_iff (et_test (by walk_at "ev")) (do_next ?_))
    refine do_ret (d := .bl (true && (true && true))) (ev_andV (by walk_at "ev") fun _ => ev_andV (EvT.is' (by walk_at "ev") rfl) fun _ => ev_call n (by walk_at "ev") trivial) rfl
theorem do_checked (r : Rec) (h : r.okB = true) : Do K C [] B H0 (t_checked K) [.val r.d] nx bk ct (fun d _ => d = r.d) := by
  refine do_seq (do_iff (et_not (a := true) (et_B (ev_call r (by walk_at "ev") h))) (do_next ?_))
  exact do_ret (ev_var rfl) rfl
theorem do_leaf (p : Option Int × Option Int × List Int × List Int) (h : (Rec.leaf p.1 p.2.1 p.2.2.1 p.2.2.2).okB = true) : Do K C [] B H0 (t_leaf K) [.val (oD p.1), .val (oD p.2.1), .val (iL p.2.2.1), .val (iL p.2.2.2)] nx bk ct (fun d _ => d = (Rec.leaf p.1 p.2.1 p.2.2.1 p.2.2.2).d) :=
  do_ret (ev_call (Rec.leaf p.1 p.2.1 p.2.2.1 p.2.2.2) (by walk_at "ev") h) rfl
theorem do_inner (p : Int × Option Int × Option Int × List Int × List Int) (h : (Rec.inner p.1 p.2.1 p.2.2.1 p.2.2.2.1 p.2.2.2.2).okB = true) :
    Do K C [] B H0 (t_inner K) [.val (.int p.1), .val (oD p.2.1), .val (oD p.2.2.1), .val (iL p.2.2.2.1), .val (iL p.2.2.2.2)] nx bk ct (fun d _ => d = (Rec.inner p.1 p.2.1 p.2.2.1 p.2.2.2.1 p.2.2.2.2).d) :=
  do_ret (ev_call (Rec.inner p.1 p.2.1 p.2.2.1 p.2.2.2.1 p.2.2.2.2) (by walk_at "ev") h) rfl
theorem do_level_of (r : Rec) : Do K C [] B H0 (t_level_of K) [.val r.d] nx bk ct (fun d _ => d = .int r.lv) := by
  cases r with
  | leaf lo hi ks vs => exact do_seq (do_ift (et_test (by walk_at "ev")) (do_ret ev_int rfl))
  | inner lv lo hi ks ps =>
    refine do_seq (do_iff (et_test (by walk_at "ev")) (do_next ?_))
    exact do_seq (do_ift (et_test (by walk_at "ev")) (do_ret (by walk_at "ev") rfl))
  | free n =>
    refine do_seq (do_iff (et_test (by walk_at "ev")) (do_next ?_))
    refine do_seq (do_iff (et_test (by walk_at "ev")) (do_next ?_))
    exact do_ret (ev_neg ev_int) rfl
theorem do_bounds_of (r : Rec) (h : r.live = true) : Do K C [] B H0 (t_bounds_of K) [.val r.d] nx bk ct (fun d _ => d = pD r.bd) := by
  cases r with
  | leaf lo hi ks vs => exact do_seq (do_ift (et_test (by walk_at "ev")) (do_ret (d := pD (lo, hi)) (by walk_at "ev") rfl))
  | inner lv lo hi ks ps =>
    refine do_seq (do_iff (et_test (by walk_at "ev")) (do_next ?_))
    exact do_ret (d := pD (lo, hi)) (by walk_at "ev") rfl
  | free n => exact absurd h (by simp [Rec.live])
theorem do_size_of (r : Rec) (h : r.live = true) : Do K C [] B H0 (t_size_of K) [.val r.d] nx bk ct (fun d _ => d = .int r.size) := by
  cases r with
  | leaf lo hi ks vs => exact do_ret (d := .int ((vs.map D.int).length : Nat)) (ev_cb (Ev.x (ev_op (e := .int (-1)) (z := iL vs) (Ev.x (ev_var rfl)) (Ev.x (ev_neg ev_int)) (rv_ixT rfl))) rc_lenT) (by simp [Rec.size])
  | inner lv lo hi ks ps => exact do_ret (d := .int ((ps.map D.int).length : Nat)) (ev_cb (Ev.x (ev_op (e := .int (-1)) (z := iL ps) (Ev.x (ev_var rfl)) (Ev.x (ev_neg ev_int)) (rv_ixT rfl))) rc_lenT) (by simp [Rec.size])
  | free n => exact absurd h (by simp [Rec.live])
theorem do_place_of (p : List Int × Int) (h : p.1.length ≤ 60) : Do K C [] B H0 (t_place_of K) [.val (iL p.1), .val (.int p.2), .no] nx bk ct (fun d _ => d = .int (placeOf p.1 p.2)) := by
  obtain ⟨l, k⟩ := p
  have h : l.length ≤ 60 := h
  have q := evn_lcT (K := K) (C := C) (ss := [.val (iL l), .val (.int k), .no]) (tl := tVar 0) (j := 2) (l := l.map D.int) (p := fun d => match d with | .int i => decide (i < k) | _ => false) (g := fun d => d) (tt := tTest (tOp rLtI (tVar 2) (tVar 1))) (te := tVar 2) (ev_var rfl) (by simp) (fun d hd => by
    obtain ⟨i, _, rfl⟩ := List.mem_map.mp hd
    exact et_test (by walk_at "ev")) (fun d _ _ => ev_var rfl) (by rw [List.length_map]; omega)
  refine do_ret (ev_cb q.x rc_lenL) ?_
  rw [List.map_id'', List.filter_map, List.length_map]
  rfl
  all_goals exact fun _ => rfl
theorem valIn_none : ∀ {ks vs : List Int} {k : Int}, (∀ (j : Nat), j < ks.length → ks[j]? ≠ some k) → valIn ks vs k = none
  | [], _, _, _ => by simp [valIn]
  | _ :: _, [], _, _ => by simp [valIn]
  | a :: ks, v :: vs, k, h => by
    unfold valIn
    rw [if_neg (fun e => h 0 (by simp) (by simp [e]))]
    exact valIn_none fun j hj => by simpa using h (j + 1) (by simpa using hj)
theorem valIn_at : ∀ {ks vs : List Int} {k v : Int} {i : Nat}, (∀ (j : Nat), j < i → ks[j]? ≠ some k) → ks[i]? = some k → vs[i]? = some v → valIn ks vs k = some v
  | [], _, _, _, _, _, h, _ => by simp at h
  | _ :: _, [], _, _, _, _, _, h => by simp at h
  | a :: ks, b :: vs, k, v, 0, _, h1, h2 => by
    simp at h1 h2
    unfold valIn
    rw [if_pos h1, h2]
  | a :: ks, b :: vs, k, v, i + 1, h, h1, h2 => by
    unfold valIn
    rw [if_neg (fun e => h 0 (by omega) (by simp [e]))]
    exact valIn_at (i := i) (fun j hj => by simpa using h (j + 1) (by omega)) (by simpa using h1) (by simpa using h2)
theorem do_value_in (p : Rec × Int) (h : p.1.okB = true ∧ p.1.isLeaf = true) : Do K C [] B H0 (t_value_in K) [.val p.1.d, .val (.int p.2), .no] nx bk ct (fun d _ => d = match p.1 with | .leaf _ _ ks vs => oD (valIn ks vs p.2) | _ => .non) := by
  obtain ⟨r, k⟩ := p
  cases r with
  | inner lv lo hi ks ps => exact absurd h.2 (by simp [Rec.isLeaf])
  | free n => exact absurd h.2 (by simp [Rec.isLeaf])
  | leaf lo hi ks vs =>
    obtain ⟨h1, h2, _⟩ := leaf_ok h.1
    refine do_seq (do_forR1 (n := ks.length) (ea_cons (Ev.is (by walk_at "ev") (by simp)) ea_nil) (by omega) (fun i ss => (∃ x, ss = [.val (Rec.leaf lo hi ks vs).d, .val (.int k), x]) ∧ ∀ (j : Nat), j < i → ks[j]? ≠ some k) ⟨⟨_, rfl⟩, fun j hj => absurd hj (Nat.not_lt_zero j)⟩ ?_ ?_)
    · rintro i ss hi ⟨⟨x, rfl⟩, ha⟩
      have h3 : i < ks.length := by omega
      have e1 : ks[i]? = some ks[i] := List.getElem?_eq_getElem h3
      have e2 : vs[i]? = some (vs[i]'(by omega)) := List.getElem?_eq_getElem _
      refine ⟨_, g_name (by simp), ?_⟩
      refine do_if (b' := decide (ks[i] = k)) (et_test (ev_op (d := .int ks[i]) (e := .int k) (Ev.x (ev_op (d := iL ks) (e := .int (0 + i)) (by walk_at "ev") (by walk_at "ev") (rv_ixT (at_ints (by omega) e1)))) (by walk_at "ev") rv_eqi)) (fun hb => do_ret (ev_op (d := iL vs) (e := .int (0 + i)) (by walk_at "ev") (by walk_at "ev") (rv_ixT (at_ints (by omega) e2))) ?_) (fun hb => do_next ⟨⟨_, rfl⟩, fun j hj => ?_⟩)
      · show D.int _ = oD (valIn ks vs k)
        rw [valIn_at ha (by rw [e1, of_decide_eq_true hb]) e2]
        rfl
      · by_cases e : j = i
        · subst e
          rw [e1]
          exact fun z => of_decide_eq_false hb (Option.some.inj z)
        · exact ha j (by omega)
    · rintro ss ⟨⟨x, rfl⟩, ha⟩
      refine do_ret ev_non ?_
      show D.non = oD (valIn ks vs k)
      rw [valIn_none (vs := vs) fun j hj => ha j (by omega)]
      rfl
theorem do_child_bounds (p : Rec × Nat) (h : match p.1 with | .inner _ _ _ ks _ => p.2 ≤ ks.length | _ => False) : Do K C [] B H0 (t_child_bounds K) [.val p.1.d, .val (.int p.2), .no, .no, .no] nx bk ct (fun d _ => d = match p.1 with | .inner _ lo hi ks _ => pD (childB lo hi ks p.2) | _ => .non) := by
  obtain ⟨r, i⟩ := p
  cases r with
  | leaf lo hi ks vs => exact h.elim
  | free n => exact h.elim
  | inner lv lo hi ks ps =>
    have h : i ≤ ks.length := h
    refine do_seq (do_par3 (d := oD lo) (e := oD hi) (f := iL ks) (by walk_at "ev") ?_ (by simp) (by simp) (by simp))
    have tail : ∀ lo' : Option Int, lo' = (if 0 < i then ks[i - 1]? else lo) → Do K C [] B H0 (tSeq (tIfS (tTest (tOp rLtI (tVar 1) (tCB (rLenS K) (tCons (tVar 4) tNil)))) (tAsg (tOp (rIxT K) (tVar 4) (tVar 1)) (gName 3)) tNext) (tRet (tTup (tCons (tVar 2) (tCons (tVar 3) tNil))))) [.val (Rec.inner lv lo hi ks ps).d, .val (.int i), .val (oD lo'), .val (oD hi), .val (iL ks)] nx bk ct (fun d _ => d = pD (childB lo hi ks i)) := fun lo' e => by
      refine do_seq (do_if (b' := decide (i < ks.length)) (et_test (EvT.is' (by walk_at "ev") (by simp))) (fun hb => ?_) (fun hb => do_next ?_))
      · have h3 := of_decide_eq_true hb
        refine do_asg (d := oD ks[i]?) ?_ ?_ (by simp)
        · rw [List.getElem?_eq_getElem h3]
          exact ev_op (d := iL ks) (e := .int i) (by walk_at "ev") (by walk_at "ev") (rv_ixT (at_ints rfl (List.getElem?_eq_getElem h3)))
        · refine do_ret (d := pD (lo', ks[i]?)) (by walk_at "ev") ?_
          unfold childB
          rw [if_pos h3, e]
      · have h3 := of_decide_eq_false hb
        refine do_ret (d := pD (lo', hi)) (by walk_at "ev") ?_
        unfold childB
        rw [if_neg h3, e]
    refine do_seq (do_if (b' := decide (0 < i)) (et_test (EvT.is' (by walk_at "ev") (by simp))) (fun hb => ?_) (fun hb => do_next ?_))
    · have h3 := of_decide_eq_true hb
      refine do_asg (d := oD ks[i - 1]?) ?_ (tail _ (by rw [if_pos h3])) (by simp)
      have h4 : i - 1 < ks.length := by omega
      rw [List.getElem?_eq_getElem h4]
      exact ev_op (d := iL ks) (e := .int (i - 1)) (by walk_at "ev") (by walk_at "ev") (rv_ixT (at_ints (by omega) (List.getElem?_eq_getElem h4)))
    · have h3 := of_decide_eq_false hb
      exact tail lo (by rw [if_neg h3])
end
end Esp

/-! What the defs of nodes.py do, 3. -/
namespace Esp
open PySem L2 PyProof.Rows PySem.Spec
local macro_rules | `(tactic| walk_at "ev") => `(tactic| repeat' (first
  | exact ev_int | exact ev_str | exact ev_bl | exact ev_non | exact ea_nil | exact eo_none | exact et_yes
  | exact ev_var rfl | exact evx_own rfl
  | apply ea_cons | apply eo_some | apply ev_tup (hl := by first | decide | (simp; done))
  | apply ev_op | apply ev_neg
  | apply ev_sl | apply ev_chain
  | apply ev_andV | apply ev_orV | apply ev_notV
  | apply et_test | apply et_B | apply et_not | apply et_and | apply et_or
  | exact rv_i | exact rv_b | exact rv_eqi | exact rv_nei | exact rv_eqs_t (by with_reducible rfl) | exact rv_eqs_f (by decide +kernel) | exact rv_nes_t (by with_reducible rfl) | exact rv_nes_f (by decide +kernel)
  | exact rv_isN | exact rv_notN
  | exact rv_ixT rfl | exact rv_ixL rfl | apply rv_ixT | apply rv_ixL
  | apply ev_cb (hr := rc_lenT) | apply ev_cb (hr := rc_lenL) | apply ev_cb (hr := rc_int) | apply ev_cb (hr := rc_tupT) | apply ev_cb (hr := rc_all)
  | apply Ev.x | (intro _)))
local macro_rules | `(tactic| walk_at "gs") => `(tactic| repeat' (first | exact gs_nil | apply gs_cons | exact g_name (by simp) | apply g_tup (hn := rfl)))
section
variable {K : PySem.W.Frag} {C : Addr} {H0 B : Hp} {nx bk ct : List Sl → Prop} {ss : List Sl} {te ta tb : TE}
theorem cutD_take {l : List D} {i : Nat} : cutD l none (some (i : Int)) = l.take i := by
  unfold cutD
  rw [HT.sIx_none, HT.sIx_nat, List.drop_zero, Nat.sub_zero]
  by_cases h : i ≤ l.length
  · rw [Nat.min_eq_left h]
  · rw [Nat.min_eq_right (by omega), List.take_length, List.take_of_length_le (by omega)]
theorem cutD_drop {l : List D} {i : Nat} : cutD l (some (i : Int)) none = l.drop i := by
  unfold cutD
  rw [HT.sIx_none, HT.sIx_nat]
  by_cases h : i ≤ l.length
  · rw [Nat.min_eq_left h, List.take_of_length_le]
    rw [List.length_drop]
    exact Nat.le_refl _
  · rw [Nat.min_eq_right (by omega), Nat.sub_self, List.take_zero, List.drop_eq_nil_of_le (as := l) (by omega)]
theorem ev_take {l : List Int} {i : Nat} {z : Int} (h : Ev K C te ss (iL l)) (hi : Ev K C ta ss (.int z)) (e : z = (i : Int)) : Ev K C (tSl (rSlA K) te tNoPart (tPart ta)) ss (iL (l.take i)) := by
  subst e
  have q := ev_sl h.x eo_none (eo_some hi)
  rw [cutD_take, ← List.map_take] at q
  exact q
theorem ev_drop {l : List Int} {i : Nat} {z : Int} (h : Ev K C te ss (iL l)) (hi : Ev K C ta ss (.int z)) (e : z = (i : Int)) : Ev K C (tSl (rSlA K) te (tPart ta) tNoPart) ss (iL (l.drop i)) := by
  subst e
  have q := ev_sl h.x (eo_some hi) eo_none
  rw [cutD_drop, ← List.map_drop] at q
  exact q
theorem ev_cat {l m : List Int} (h : Ev K C ta ss (iL l)) (g : Ev K C tb ss (iL m)) (hl : l.length + m.length ≤ 1000) : Ev K C (tOp (rCatA K) ta tb) ss (iL (l ++ m)) := by
  have q := ev_op h.x g.x (rv_catT (K := K) (by rw [List.length_map, List.length_map, sizeLine_eq]; omega))
  rw [← List.map_append] at q
  exact q
theorem ev_one {i : Int} (h : Ev K C te ss (.int i)) : Ev K C (tTup (tCons te tNil)) ss (iL [i]) := ev_tup (ea_cons h ea_nil) (by simp)
theorem placeOf_le (l : List Int) (k : Int) : placeOf l k ≤ l.length := List.length_filter_le _ _
theorem behindOf_le (l : List Int) (k : Int) : behindOf l k ≤ l.length := by
  unfold behindOf
  split
  · rename_i h
    have := (List.getElem?_eq_some_iff.mp h).1
    omega
  · exact placeOf_le l k
theorem do_with_value (p : Rec × Int × Int) (h : match p.1 with | .leaf lo hi ks vs => (Rec.leaf lo hi ks vs).okB = true ∧ (wValue lo hi ks vs p.2.1 p.2.2).okB = true | _ => False) :
    Do K C [] B H0 (t_with_value K) [.val p.1.d, .val (.int p.2.1), .val (.int p.2.2), .no, .no, .no, .no, .no, .no] nx bk ct (fun d _ => d = match p.1 with | .leaf lo hi ks vs => (wValue lo hi ks vs p.2.1 p.2.2).d | _ => .non) := by
  obtain ⟨r, k, v⟩ := p
  cases r with
  | inner lv lo hi ks ps => exact h.elim
  | free n => exact h.elim
  | leaf lo hi ks vs =>
    obtain ⟨⟨h1, h2, h3⟩, h4⟩ : ((ks.length = vs.length ∧ ks.length ≤ 50 ∧ _) ∧ _) := ⟨leaf_ok h.1, h.2⟩
    have hp := placeOf_le ks k
    have hb := behindOf_le ks k
    refine do_seq (do_asgG (d := .tup [oD lo, oD hi, iL ks, iL vs]) (Ev.is (ev_sl (Ev.x (ev_var rfl)) (eo_some ev_int) eo_none) rfl) (by walk_at "gs") ?_)
    refine do_seq (do_asg (ev_call (ks, k) (by walk_at "ev") (show ks.length ≤ 60 by omega)) ?_ (by simp))
    refine do_seq (do_asg (ev_var rfl) ?_ (by simp))
    have tail : Do K C [] B H0 (tSeq (tAsg (tOp (rCatA K) (tOp (rCatA K) (tSl (rSlA K) (tVar 5) tNoPart (tPart (tVar 7))) (tTup (tCons (tVar 1) tNil))) (tSl (rSlA K) (tVar 5) (tPart (tVar 8)) tNoPart)) (gName 5)) (tSeq (tAsg (tOp (rCatA K) (tOp (rCatA K) (tSl (rSlA K) (tVar 6) tNoPart (tPart (tVar 7))) (tTup (tCons (tVar 2) tNil))) (tSl (rSlA K) (tVar 6) (tPart (tVar 8)) tNoPart)) (gName 6)) (tRet (tCall (sp_leaf K) [] E0 (tCons (tVar 3) (tCons (tVar 4) (tCons (tVar 5) (tCons (tVar 6) tNil))))))))
        [.val (Rec.leaf lo hi ks vs).d, .val (.int k), .val (.int v), .val (oD lo), .val (oD hi), .val (iL ks), .val (iL vs), .val (.int (placeOf ks k)), .val (.int (behindOf ks k))] nx bk ct (fun d _ => d = (wValue lo hi ks vs k v).d) := by
      refine do_seq (do_asg (ev_cat (ev_cat (ev_take (ev_var rfl) (ev_var rfl) rfl) (ev_one (ev_var rfl)) ?_) (ev_drop (ev_var rfl) (ev_var rfl) rfl) ?_) ?_ (by simp))
      · simp; omega
      · simp; omega
      refine do_seq (do_asg (ev_cat (ev_cat (ev_take (ev_var rfl) (ev_var rfl) rfl) (ev_one (ev_var rfl)) ?_) (ev_drop (ev_var rfl) (ev_var rfl) rfl) ?_) ?_ (by simp))
      · simp; omega
      · simp; omega
      exact do_ret (ev_call (lo, hi, ks.take (placeOf ks k) ++ [k] ++ ks.drop (behindOf ks k), vs.take (placeOf ks k) ++ [v] ++ vs.drop (behindOf ks k)) (by walk_at "ev") h4) rfl
    by_cases hc : placeOf ks k < ks.length
    · have e1 : ks[placeOf ks k]? = some ks[placeOf ks k] := List.getElem?_eq_getElem hc
      refine do_seq (do_if (b' := true && decide (ks[placeOf ks k] = k)) (et_and (et_test (EvT.is' (by walk_at "ev") (decide_eq_true (by simp; omega)))) (fun _ => et_test (ev_op (d := .int ks[placeOf ks k]) (e := .int k) (Ev.x (ev_op (d := iL ks) (e := .int (placeOf ks k)) (by walk_at "ev") (by walk_at "ev") (rv_ixT (at_ints rfl e1)))) (by walk_at "ev") rv_eqi))) (fun hb => ?_) (fun hb => do_next ?_))
      · refine do_asg (d := .int (behindOf ks k)) (Ev.is (by walk_at "ev") ?_) tail (by simp)
        unfold behindOf
        rw [e1, if_pos (by rw [of_decide_eq_true hb])]
        rfl
      · have e2 : behindOf ks k = placeOf ks k := by
          unfold behindOf
          rw [e1, if_neg (fun z => of_decide_eq_false hb (Option.some.inj z))]
        rw [e2] at tail
        exact tail
    · refine do_seq (do_iff (et_and (a := false) (b := false) (et_test (EvT.is' (by walk_at "ev") (decide_eq_false (by simp; omega)))) (fun z => nomatch z)) (do_next ?_))
      have e2 : behindOf ks k = placeOf ks k := by
        unfold behindOf
        rw [if_neg (fun z => hc (List.getElem?_eq_some_iff.mp z).1)]
      rw [e2] at tail
      exact tail
theorem do_without_key (p : Rec × Int) (h : match p.1 with | .leaf lo hi ks vs => (Rec.leaf lo hi ks vs).okB = true ∧ (woKey lo hi ks vs p.2).okB = true | _ => False) :
    Do K C [] B H0 (t_without_key K) [.val p.1.d, .val (.int p.2), .no, .no, .no, .no, .no] nx bk ct (fun d _ => d = match p.1 with | .leaf lo hi ks vs => (woKey lo hi ks vs p.2).d | _ => .non) := by
  obtain ⟨r, k⟩ := p
  cases r with
  | inner lv lo hi ks ps => exact h.elim
  | free n => exact h.elim
  | leaf lo hi ks vs =>
    obtain ⟨⟨h1, h2, h3⟩, h4⟩ : ((ks.length = vs.length ∧ ks.length ≤ 50 ∧ _) ∧ _) := ⟨leaf_ok h.1, h.2⟩
    have hp := placeOf_le ks k
    refine do_seq (do_asgG (d := .tup [oD lo, oD hi, iL ks, iL vs]) (Ev.is (ev_sl (Ev.x (ev_var rfl)) (eo_some ev_int) eo_none) rfl) (by walk_at "gs") ?_)
    refine do_seq (do_asg (ev_call (ks, k) (by walk_at "ev") (show ks.length ≤ 60 by omega)) ?_ (by simp))
    refine do_ret (ev_call (lo, hi, ks.take (placeOf ks k) ++ ks.drop (placeOf ks k + 1), vs.take (placeOf ks k) ++ vs.drop (placeOf ks k + 1)) (ea_cons (ev_var rfl) (ea_cons (ev_var rfl) (ea_cons ?_ (ea_cons ?_ ea_nil)))) h4) rfl
    · exact ev_cat (ev_take (ev_var rfl) (ev_var rfl) rfl) (ev_drop (ev_var rfl) (by walk_at "ev") rfl) (by simp; omega)
    · exact ev_cat (ev_take (ev_var rfl) (ev_var rfl) rfl) (ev_drop (ev_var rfl) (by walk_at "ev") rfl) (by simp; omega)
theorem do_with_child (p : Rec × Nat × Int × Int) (h : match p.1 with | .inner lv lo hi ks ps => (Rec.inner lv lo hi ks ps).okB = true ∧ (wChild lv lo hi ks ps p.2.1 p.2.2.1 p.2.2.2).okB = true | _ => False) :
    Do K C [] B H0 (t_with_child K) [.val p.1.d, .val (.int p.2.1), .val (.int p.2.2.1), .val (.int p.2.2.2), .no, .no, .no, .no, .no] nx bk ct (fun d _ => d = match p.1 with | .inner lv lo hi ks ps => (wChild lv lo hi ks ps p.2.1 p.2.2.1 p.2.2.2).d | _ => .non) := by
  obtain ⟨r, i, s, q⟩ := p
  cases r with
  | leaf lo hi ks vs => exact h.elim
  | free n => exact h.elim
  | inner lv lo hi ks ps =>
    obtain ⟨⟨h0, h1, h2, h3⟩, h4⟩ : ((1 ≤ lv ∧ ps.length = ks.length + 1 ∧ ks.length ≤ 50 ∧ _) ∧ _) := ⟨inner_ok h.1, h.2⟩
    refine do_seq (do_asgG (d := .tup [.int lv, oD lo, oD hi, iL ks, iL ps]) (Ev.is (ev_sl (Ev.x (ev_var rfl)) (eo_some ev_int) eo_none) rfl) (by walk_at "gs") ?_)
    refine do_seq (do_asg (ev_cat (ev_cat (ev_take (ev_var rfl) (ev_var rfl) rfl) (ev_one (ev_var rfl)) ?_) (ev_drop (ev_var rfl) (ev_var rfl) rfl) ?_) ?_ (by simp))
    · simp; omega
    · simp; omega
    refine do_seq (do_asg (ev_cat (ev_cat (ev_take (i := i + 1) (ev_var rfl) (by walk_at "ev") rfl) (ev_one (ev_var rfl)) ?_) (ev_drop (i := i + 1) (ev_var rfl) (by walk_at "ev") rfl) ?_) ?_ (by simp))
    · simp; omega
    · simp; omega
    exact do_ret (ev_call (lv, lo, hi, ks.take i ++ [s] ++ ks.drop i, ps.take (i + 1) ++ [q] ++ ps.drop (i + 1)) (by walk_at "ev") h4) rfl
theorem do_without_child (p : Rec × Nat) (h : match p.1 with | .inner lv lo hi ks ps => (Rec.inner lv lo hi ks ps).okB = true ∧ 1 ≤ p.2 ∧ (woChild lv lo hi ks ps p.2).okB = true | _ => False) :
    Do K C [] B H0 (t_without_child K) [.val p.1.d, .val (.int p.2), .no, .no, .no, .no, .no] nx bk ct (fun d _ => d = match p.1 with | .inner lv lo hi ks ps => (woChild lv lo hi ks ps p.2).d | _ => .non) := by
  obtain ⟨r, i⟩ := p
  cases r with
  | leaf lo hi ks vs => exact h.elim
  | free n => exact h.elim
  | inner lv lo hi ks ps =>
    obtain ⟨⟨h0, h1, h2, h3⟩, h5, h4⟩ : ((1 ≤ lv ∧ ps.length = ks.length + 1 ∧ ks.length ≤ 50 ∧ _) ∧ 1 ≤ i ∧ _) := ⟨inner_ok h.1, h.2⟩
    refine do_seq (do_asgG (d := .tup [.int lv, oD lo, oD hi, iL ks, iL ps]) (Ev.is (ev_sl (Ev.x (ev_var rfl)) (eo_some ev_int) eo_none) rfl) (by walk_at "gs") ?_)
    refine do_seq (do_asg (ev_cat (ev_take (i := i - 1) (ev_var rfl) (by walk_at "ev") (by omega)) (ev_drop (ev_var rfl) (ev_var rfl) rfl) ?_) ?_ (by simp))
    · simp; omega
    refine do_ret (ev_call (lv, lo, hi, ks.take (i - 1) ++ ks.drop i, ps.take i ++ ps.drop (i + 1)) (ea_cons (ev_var rfl) (ea_cons (ev_var rfl) (ea_cons (ev_var rfl) (ea_cons (ev_var rfl) (ea_cons ?_ ea_nil))))) h4) rfl
    exact ev_cat (ev_take (ev_var rfl) (ev_var rfl) rfl) (ev_drop (i := i + 1) (ev_var rfl) (by walk_at "ev") rfl) (by simp; omega)
theorem do_with_separator (p : Rec × Nat × Int) (h : match p.1 with | .inner lv lo hi ks ps => (Rec.inner lv lo hi ks ps).okB = true ∧ 1 ≤ p.2.1 ∧ (wSep lv lo hi ks ps p.2.1 p.2.2).okB = true | _ => False) :
    Do K C [] B H0 (t_with_separator K) [.val p.1.d, .val (.int p.2.1), .val (.int p.2.2), .no, .no, .no, .no, .no] nx bk ct (fun d _ => d = match p.1 with | .inner lv lo hi ks ps => (wSep lv lo hi ks ps p.2.1 p.2.2).d | _ => .non) := by
  obtain ⟨r, i, s⟩ := p
  cases r with
  | leaf lo hi ks vs => exact h.elim
  | free n => exact h.elim
  | inner lv lo hi ks ps =>
    obtain ⟨⟨h0, h1, h2, h3⟩, h5, h4⟩ : ((1 ≤ lv ∧ ps.length = ks.length + 1 ∧ ks.length ≤ 50 ∧ _) ∧ 1 ≤ i ∧ _) := ⟨inner_ok h.1, h.2⟩
    refine do_seq (do_asgG (d := .tup [.int lv, oD lo, oD hi, iL ks, iL ps]) (Ev.is (ev_sl (Ev.x (ev_var rfl)) (eo_some ev_int) eo_none) rfl) (by walk_at "gs") ?_)
    refine do_ret (ev_call (lv, lo, hi, ks.take (i - 1) ++ [s] ++ ks.drop i, ps) (ea_cons (ev_var rfl) (ea_cons (ev_var rfl) (ea_cons (ev_var rfl) (ea_cons ?_ (ea_cons (ev_var rfl) ea_nil))))) h4) rfl
    exact ev_cat (ev_cat (ev_take (i := i - 1) (ev_var rfl) (by walk_at "ev") (show (i : Int) - 1 = _ by omega)) (ev_one (ev_var rfl)) (by simp; omega)) (ev_drop (ev_var rfl) (ev_var rfl) rfl) (by simp; omega)
theorem do_cut (p : Rec × Rec × Int × Rec) (h : p.1.okB = true ∧ p.1.live = true ∧ cutR p.1 = some p.2 ∧ p.2.1.okB = true ∧ p.2.2.2.okB = true) : Do K C [] B H0 (t_cut K) [.val p.1.d, .no, .no, .no, .no, .no, .no, .no, .no, .no] nx bk ct (fun d _ => d = cutD3 p.2) := by
  obtain ⟨r, a, s, b⟩ := p
  obtain ⟨h1, h2, h3, h4, h5⟩ := h
  have h1 : r.okB = true := h1
  have h3 : cutR r = some (a, s, b) := h3
  have h4 : a.okB = true := h4
  have h5 : b.okB = true := h5
  refine do_seq (do_asg (d := .int ((r.size + 1) / 2 : Nat)) (Ev.is (ev_op (d := .int (r.size + 1)) (e := .int 2) (Ev.x (ev_op (d := .int r.size) (e := .int 1) (Ev.x (ev_call r (by walk_at "ev") h2)) (by walk_at "ev") rv_i)) (by walk_at "ev") (rv_ic ⟨by decide, by decide⟩)) (by simp)) ?_ (by simp))
  cases r with
  | free n => exact absurd h2 (by simp [Rec.live])
  | leaf lo hi ks vs =>
    obtain ⟨q1, q2, _⟩ := leaf_ok h1
    have hs : (Rec.leaf lo hi ks vs).size = vs.length := rfl
    rw [hs]
    cases e : ks[(vs.length + 1) / 2]? with
    | none => simp only [cutR, e] at h3; cases h3
    | some s' =>
      simp only [cutR, e] at h3
      cases h3
      refine do_seq (do_ift (et_test (by walk_at "ev")) ?_)
      refine do_seq (do_asgG (d := .tup [oD lo, oD hi, iL ks, iL vs]) (Ev.is (ev_sl (Ev.x (ev_var rfl)) (eo_some ev_int) eo_none) rfl) (by walk_at "gs") ?_)
      refine do_seq (do_asg (ev_call (lo, some s, ks.take ((vs.length + 1) / 2), vs.take ((vs.length + 1) / 2)) (ea_cons (ev_var rfl) (ea_cons ?_ (ea_cons (ev_take (ev_var rfl) (ev_var rfl) rfl) (ea_cons (ev_take (ev_var rfl) (ev_var rfl) rfl) ea_nil)))) h4) ?_ (by simp))
      · exact ev_op (d := iL ks) (e := .int ((vs.length + 1) / 2 : Nat)) (by walk_at "ev") (by walk_at "ev") (rv_ixT (at_ints rfl e))
      refine do_ret (ev_tup (ea_cons (ev_var rfl) (ea_cons (d := .int s) ?_ (ea_cons (ev_call (some s, hi, ks.drop ((vs.length + 1) / 2), vs.drop ((vs.length + 1) / 2)) (ea_cons ?_ (ea_cons (ev_var rfl) (ea_cons (ev_drop (ev_var rfl) (ev_var rfl) rfl) (ea_cons (ev_drop (ev_var rfl) (ev_var rfl) rfl) ea_nil)))) h5) ea_nil))) (by simp)) rfl
      · exact ev_op (d := iL ks) (e := .int ((vs.length + 1) / 2 : Nat)) (by walk_at "ev") (by walk_at "ev") (rv_ixT (at_ints rfl e))
      · exact ev_op (d := iL ks) (e := .int ((vs.length + 1) / 2 : Nat)) (by walk_at "ev") (by walk_at "ev") (rv_ixT (at_ints rfl e))
  | inner lv lo hi ks ps =>
    obtain ⟨q0, q1, q2, _⟩ := inner_ok h1
    have hs : (Rec.inner lv lo hi ks ps).size = ps.length := rfl
    rw [hs]
    cases e : ks[(ps.length + 1) / 2 - 1]? with
    | none => simp only [cutR, e] at h3; cases h3
    | some s' =>
      simp only [cutR, e] at h3
      cases h3
      refine do_seq (do_iff (et_test (by walk_at "ev")) (do_next ?_))
      refine do_seq (do_asgG (d := .tup [.int lv, oD lo, oD hi, iL ks, iL ps]) (Ev.is (ev_sl (Ev.x (ev_var rfl)) (eo_some ev_int) eo_none) rfl) (by walk_at "gs") ?_)
      have hz : (((ps.length + 1) / 2 : Nat) : Int) - 1 = (((ps.length + 1) / 2 - 1 : Nat) : Int) := by omega
      refine do_seq (do_asg (d := .int s) (ev_op (d := iL ks) (e := .int (((ps.length + 1) / 2 : Nat) - 1)) (by walk_at "ev") (by walk_at "ev") (rv_ixT (at_ints hz e))) ?_ (by simp))
      refine do_seq (do_asg (ev_call (lv, lo, some s, ks.take ((ps.length + 1) / 2 - 1), ps.take ((ps.length + 1) / 2)) (ea_cons (ev_var rfl) (ea_cons (ev_var rfl) (ea_cons (ev_var rfl) (ea_cons (ev_take (ev_var rfl) (by walk_at "ev") hz) (ea_cons (ev_take (ev_var rfl) (ev_var rfl) rfl) ea_nil))))) h4) ?_ (by simp))
      exact do_ret (ev_tup (ea_cons (ev_var rfl) (ea_cons (ev_var rfl) (ea_cons (ev_call (lv, some s, hi, ks.drop ((ps.length + 1) / 2), ps.drop ((ps.length + 1) / 2)) (ea_cons (ev_var rfl) (ea_cons (ev_var rfl) (ea_cons (ev_var rfl) (ea_cons (ev_drop (ev_var rfl) (ev_var rfl) rfl) (ea_cons (ev_drop (ev_var rfl) (ev_var rfl) rfl) ea_nil))))) h5) ea_nil))) (by simp)) rfl
theorem bd_0 {r : Rec} {te : TE} (h : Ev K C te ss r.d) (hl : r.live = true) : Ev K C (tOp (rIxT K) (tCall (sp_bounds_of K) [] E0 (tCons te tNil)) (tC (.int 0))) ss (oD r.bd.1) :=
  ev_op (Ev.x (ev_call r (ea_cons h ea_nil) hl)) (Ev.x ev_int) (rv_ixT rfl)
theorem bd_1 {r : Rec} {te : TE} (h : Ev K C te ss r.d) (hl : r.live = true) : Ev K C (tOp (rIxT K) (tCall (sp_bounds_of K) [] E0 (tCons te tNil)) (tC (.int 1))) ss (oD r.bd.2) :=
  ev_op (Ev.x (ev_call r (ea_cons h ea_nil) hl)) (Ev.x ev_int) (rv_ixT rfl)
theorem do_joined (p : Rec × Int × Rec) (h : p.1.okB = true ∧ p.2.2.okB = true ∧ p.1.live = true ∧ p.2.2.live = true ∧ p.1.isLeaf = p.2.2.isLeaf ∧ (joinR p.1 p.2.1 p.2.2).okB = true) :
    Do K C [] B H0 (t_joined K) [.val p.1.d, .val (.int p.2.1), .val p.2.2.d, .no, .no, .no] nx bk ct (fun d _ => d = (joinR p.1 p.2.1 p.2.2).d) := by
  obtain ⟨a, s, b⟩ := p
  obtain ⟨h1, h2, h3, h4, h5, h6⟩ := h
  refine do_seq (do_asg (bd_0 (ev_var rfl) h3) ?_ (by simp))
  refine do_seq (do_asg (bd_1 (ev_var rfl) h4) ?_ (by simp))
  cases a with
  | free n => exact absurd h3 (by simp [Rec.live])
  | leaf lo hi ks vs =>
    cases b with
    | free n => exact absurd h4 (by simp [Rec.live])
    | inner => exact absurd h5 (by simp [Rec.isLeaf])
    | leaf lo' hi' ks' vs' =>
      obtain ⟨q1, q2, _⟩ := leaf_ok h1
      obtain ⟨q1', q2', _⟩ := leaf_ok h2
      refine do_seq (do_ift (et_test (by walk_at "ev")) (do_ret (ev_call (lo, hi', ks ++ ks', vs ++ vs') (ea_cons (ev_var rfl) (ea_cons (ev_var rfl) (ea_cons (ev_cat (l := ks) (m := ks') ?_ ?_ (by omega)) (ea_cons (ev_cat (l := vs) (m := vs') ?_ ?_ (by omega)) ea_nil)))) h6) rfl))
      all_goals walk_at "ev"
  | inner lv lo hi ks ps =>
    cases b with
    | free n => exact absurd h4 (by simp [Rec.live])
    | leaf => exact absurd h5 (by simp [Rec.isLeaf])
    | inner lv' lo' hi' ks' ps' =>
      obtain ⟨q0, q1, q2, _⟩ := inner_ok h1
      obtain ⟨q0', q1', q2', _⟩ := inner_ok h2
      refine do_seq (do_iff (et_test (by walk_at "ev")) (do_next ?_))
      refine do_seq (do_asg (d := iL (ks ++ [s] ++ ks')) (ev_cat (ev_cat (l := ks) ?_ (ev_one ?_) ?_) ?_ ?_) ?_ (by simp))
      · walk_at "ev"
      · walk_at "ev"
      · simp; omega
      · walk_at "ev"
      · simp; omega
      refine do_ret (ev_call (lv, lo, hi', ks ++ [s] ++ ks', ps ++ ps') (ea_cons ?_ (ea_cons ?_ (ea_cons ?_ (ea_cons ?_ (ea_cons (ev_cat (l := ps) (m := ps') ?_ ?_ (by omega)) ea_nil))))) h6) rfl
      all_goals walk_at "ev"
end
end Esp

/-! The mirror, part 2: calls, drafts, plans; the promises. -/
namespace Esp
open PySem L2 PyProof.Rows PySem.Spec

inductive Call where
  | put (k v : Int) | add (k v : Int) | change (k o n : Int) | take (k : Int) | look (k : Int)
def Call.d : Call → D
  | .put k v => .tup [.str "put", .int k, .int v]
  | .add k v => .tup [.str "add", .int k, .int v]
  | .change k o n => .tup [.str "change", .int k, .int o, .int n]
  | .take k => .tup [.str "take", .int k]
  | .look k => .tup [.str "look", .int k]
def Call.key : Call → Int
  | .put k _ => k
  | .add k _ => k
  | .change k _ _ => k
  | .take k => k
  | .look k => k
/-- an answer -/
inductive An where
  | b (x : Bool) | o (x : Option Int)
  deriving DecidableEq
def An.d : An → D
  | .b x => .bl x
  | .o x => oD x
/-- the answer where the key has the value old; the new value, if the call changes something (none: the key goes) -/
def ansOf (c : Call) (old : Option Int) : An × Option (Option Int) := match c with
  | .put _ v => if old = some v then (.o old, none) else (.o old, some (some v))
  | .add _ v => if old.isSome = true then (.b false, none) else (.b true, some (some v))
  | .change _ o n => if old = some o then (if n = o then (.b true, none) else (.b true, some (some n))) else (.b false, none)
  | .take _ => match old with
    | some x => (.o (some x), some none)
    | none => (.o none, none)
  | .look _ => (.o old, none)
def leafTo (lo hi : Option Int) (ks vs : List Int) (k : Int) : Option Int → Rec
  | some v => wValue lo hi ks vs k v
  | none => woKey lo hi ks vs k
def leafChange (c : Call) : Rec → An × Option Rec
  | .leaf lo hi ks vs => ((ansOf c (valIn ks vs c.key)).1, (ansOf c (valIn ks vs c.key)).2.map (leafTo lo hi ks vs c.key))
  | _ => (.b false, none)
def oR : Option Rec → D
  | none => .non
  | some r => r.d
def mostOf (r : Rec) : Nat := if r.lv = 0 then 4 else 5
structure En where
  page : Int
  addr : Option Int
  rc : Rec
def En.d (e : En) : D := .tup [.int e.page, oD e.addr, e.rc.d]
structure Step where
  page : Int
  addr : Int
  rc : Rec
  ac : Int
def Step.d (s : Step) : D := .tup [.int s.page, .int s.addr, s.rc.d, .int s.ac]
structure Dr where
  path : List Step
  sib : List (Int × Step)
  recs : List (Int × Rec)
  adrs : List (Int × Int)
  fresh : Nat
def Dr.st (s : Dr) : DSt := ⟨.lst (s.path.map Step.d), .dct (mapV Step.d s.sib), mapV Rec.d s.recs, mapV D.int s.adrs, -(s.fresh : Int)⟩
def Dr.give (s : Dr) (t : Step) (r : Rec) : Dr := { s with recs := put s.recs t.page r, adrs := put s.adrs t.page t.addr }
def Dr.add (s : Dr) (r : Rec) : Dr := { s with fresh := s.fresh + 1, recs := put s.recs (-((s.fresh + 1 : Nat) : Int)) r }
def Dr.small (s : Dr) : Bool := decide (s.recs.length ≤ 5000) && (decide (s.adrs.length ≤ 5000) && (decide (s.fresh ≤ 5000) && decide (s.path.length ≤ 5000)))
inductive Res where
  | done | up (r : Rec) | read (p : Int) | stale
def Res.d : Res → D
  | .done => .tup [.str "done", .non]
  | .up r => .tup [.str "up", r.d]
  | .read p => .tup [.str "read", .int p]
  | .stale => .tup [.str "stale", .non]
/-- the place of a step's page in its parent -/
def placeIn (lo hi : Option Int) (ks ps : List Int) (t : Step) : Option Nat := (List.range ps.length).find? fun i => decide (ps[i]? = some t.page) && decide (childB lo hi ks i = t.rc.bd)
def natO : Option Nat → D
  | none => .non
  | some n => .int (n : Int)
def divide (s : Dr) (i : Nat) (r : Rec) : Option (Res × Dr) := match cutR r with
  | none => none
  | some (a, m, b) => if (r.okB && (a.okB && b.okB)) = true then (match i with
    | 0 => match s.path[0]? with
      | none => none
      | some t => if (Rec.inner (r.lv + 1) none none [m] [-((s.fresh + 1 : Nat) : Int), -((s.fresh + 1 + 1 : Nat) : Int)]).okB = true then
          some (.done, ((s.add a).add b).give t (.inner (r.lv + 1) none none [m] [-((s.fresh + 1 : Nat) : Int), -((s.fresh + 1 + 1 : Nat) : Int)])) else none
    | j + 1 => match s.path[j + 1]?, s.path[j]? with
      | some t, some p => match p.rc with
        | .inner lv lo hi ks ps => if ((Rec.inner lv lo hi ks ps).okB && t.rc.live) = true then (match placeIn lo hi ks ps t with
          | none => some (.stale, s)
          | some pl => if (wChild lv lo hi ks ps pl m (-((s.fresh + 1 : Nat) : Int))).okB = true then some (.up (wChild lv lo hi ks ps pl m (-((s.fresh + 1 : Nat) : Int))), (s.give t a).add b) else none) else none
        | _ => none
      | _, _ => none) else none
/-- the two neighbours l (of the step u) and r (of the step w); pl the right one's place -/
def unitePair (s : Dr) (j pl : Nat) (u : Step) (l : Rec) (w : Step) (r : Rec) : Option (Res × Dr) := match s.path[j]?, r.bd.1, s.path[0]? with
  | some p, some m, some t0 => match p.rc with
    | .inner lv lo hi ks ps => if ((Rec.inner lv lo hi ks ps).okB && (l.okB && (r.okB && (l.live && (r.live && (decide (l.isLeaf = r.isLeaf) && ((joinR l m r).okB && ((joinR l m r).live && decide (1 ≤ pl))))))))) = true then
        (if mostOf (joinR l m r) < (joinR l m r).size then (match cutR (joinR l m r) with
          | none => none
          | some (a, x, b) => if (a.okB && (b.okB && (wSep lv lo hi ks ps pl x).okB)) = true then some (.up (wSep lv lo hi ks ps pl x), (s.give u a).give w b) else none)
        else if (woChild lv lo hi ks ps pl).okB = true then
          (if j = 0 ∧ (woChild lv lo hi ks ps pl).size = 1 then some (.done, ((s.give w (.free w.page)).give u (.free u.page)).give t0 (joinR l m r))
          else some (.up (woChild lv lo hi ks ps pl), (s.give w (.free w.page)).give u (joinR l m r))) else none) else none
    | _ => none
  | _, _, _ => none
def unite (s : Dr) (j : Nat) (r : Rec) : Option (Res × Dr) := match s.path[j + 1]?, s.path[j]? with
  | some t, some p => match p.rc with
    | .inner lv lo hi ks ps => if ((Rec.inner lv lo hi ks ps).okB && t.rc.live) = true then (match placeIn lo hi ks ps t with
      | none => some (.stale, s)
      | some pl => match ps[if pl = 0 then 1 else pl - 1]? with
        | none => none
        | some page => match look s.sib page with
          | none => some (.read page, s)
          | some b => if b.rc.lv = r.lv then (if b.rc.live = true ∧ (if pl = 0 then 1 else pl - 1) ≤ ks.length then (if b.rc.bd = childB lo hi ks (if pl = 0 then 1 else pl - 1) then
              (if pl = 0 then unitePair s j 1 t r b b.rc else unitePair s j pl b b.rc t r) else some (.stale, s)) else none) else some (.stale, s)) else none
    | _ => none
  | _, _ => none
def settle (s : Dr) (i : Nat) (r : Rec) : Option (Res × Dr) := if (s.small && r.live) = true then (if mostOf r < r.size then divide s i r else match i with
    | 0 => match s.path[0]? with
      | some t => some (.done, s.give t r)
      | none => none
    | j + 1 => if r.size < 2 then unite s j r else match s.path[j + 1]? with
      | some t => some (.done, s.give t r)
      | none => none) else none
def pagesOf (s : Dr) : List Int := srt ((s.recs.map (·.1)).filter fun p => decide (0 ≤ p)) ++ (List.range s.fresh).map fun (i : Nat) => -1 - (i : Int)
def entriesL (s : Dr) : List En := (pagesOf s).map fun p => ⟨p, look s.adrs p, (look s.recs p).getD (.free 0)⟩
def entriesOk (s : Dr) : Bool := s.small && (List.range s.fresh).all fun (i : Nat) => (look s.recs (-1 - (i : Int))).isSome
inductive Told where
  | read (p : Int) | answer (a : An) | stale | change (a : An) (es : List En)
def Told.d : Told → D
  | .read p => .tup [.str "read", .int p]
  | .answer a => .tup [.str "answer", a.d]
  | .stale => .tup [.str "stale"]
  | .change a es => .tup [.str "change", a.d, .lst (es.map En.d)]
def planLoop (an : An) : Nat → Dr → Rec → Option Told
  | i, s, r => match settle s i r with
    | none => none
    | some (.read p, _) => some (.read p)
    | some (.stale, _) => some .stale
    | some (.done, s') => if entriesOk s' = true then some (.change an (entriesL s')) else none
    | some (.up r', s') => match i with
      | 0 => if entriesOk s' = true then some (.change an (entriesL s')) else none
      | i + 1 => planLoop an i s' r'
def planR (c : Call) (path : List Step) (sib : List (Int × Step)) : Option Told := match path.getLast? with
  | none => none
  | some t => if (t.rc.okB && (t.rc.isLeaf && decide (path.length ≤ 5000))) = true then (match leafChange c t.rc with
    | (an, none) => some (.answer an)
    | (an, some r) => if r.okB = true then planLoop an (path.length - 1) ⟨path, sib, [], [], 0⟩ r else none) else none
/-! ### placed -/
def realPage (p : Int) (ps : List Int) : Int := if p < 0 then ps.getD (-1 - p).toNat 0 else p
def pageOk (p : Int) (n : Nat) : Bool := decide (p < 0 → (-1 - p).toNat < n)
def renRec (ps : List Int) : Rec → Rec
  | .inner lv lo hi ks qs => .inner lv lo hi ks (qs.map fun q => realPage q ps)
  | r => r
def recPagesOk (n : Nat) : Rec → Bool
  | .inner _ _ _ _ qs => decide (qs.length ≤ 1000) && qs.all fun q => pageOk q n
  | _ => true
def placedE (ps : List Int) (e : En) : En := ⟨realPage e.page ps, e.addr, renRec ps e.rc⟩
def newPages (es : List En) : Nat := (es.filter fun e => decide (e.page < 0)).length
/-! ### promises -/
abbrev sp_leaf_change (K : PySem.W.Frag) : Sp := spD K (fun p : Call × Rec => [p.1.d, p.2.d]) (fun p => p.2.okB = true ∧ p.2.isLeaf = true ∧ ∀ r, (leafChange p.1 p.2).2 = some r → r.okB = true) (fun p => D.tup [(leafChange p.1 p.2).1.d, oR (leafChange p.1 p.2).2])
abbrev sp_most_of (K : PySem.W.Frag) : Sp := spD K (fun r : Rec => [r.d]) (fun _ => True) (fun r => D.int (mostOf r))
abbrev sp_new_pages (K : PySem.W.Frag) : Sp := spD K (fun es : List En => [D.lst (es.map En.d)]) (fun es => es.length ≤ 50000) (fun es => D.int (newPages es))
abbrev sp_real_page (K : PySem.W.Frag) : Sp := spD K (fun p : Int × List Int => [D.int p.1, D.lst (p.2.map D.int)]) (fun p => pageOk p.1 p.2.length = true) (fun p => D.int (realPage p.1 p.2))
abbrev sp_placed (K : PySem.W.Frag) : Sp := spD K (fun p : List En × List Int => [D.lst (p.1.map En.d), D.lst (p.2.map D.int)]) (fun p => p.1.length ≤ 50000 ∧ ∀ e ∈ p.1, pageOk e.page p.2.length = true ∧ recPagesOk p.2.length e.rc = true) (fun p => D.lst ((p.1.map (placedE p.2)).map En.d))
abbrev sp_plan (K : PySem.W.Frag) : Sp := spD K (fun p : Call × List Step × List (Int × Step) × Told => [p.1.d, D.lst (p.2.1.map Step.d), D.dct (mapV Step.d p.2.2.1)]) (fun p => planR p.1 p.2.1 p.2.2.1 = some p.2.2.2) (fun p => p.2.2.2.d)
/-- what a method of Draft promises -/
def spM {α : Type} (K : PySem.W.Frag) (C : Addr) (enc : α → List D) (dom : Dr → α → Prop) (f : Dr → α → D) (g : Dr → α → Dr) : Sp := fun vs H Q _ => ∃ (B : Hp) (x : Addr) (fp : List Addr) (s : Dr) (a : α) (us : List V), Ex B H ∧ vs = .ref x :: us ∧
  DraftAt K C B H x fp s.st ∧ (∀ z ∈ fp, B z = none) ∧ RepL K B (enc a) us ∧ dom s a ∧ ∀ v B' H', Gr fp B H B' H' → DraftAt K C B' H' x fp (g s a).st → Rep K B' (f s a) v → Q v H'
abbrev sp_Draft___init__ (K : PySem.W.Frag) (C : Addr) : Sp := fun vs H Q _ => ∃ (B : Hp) (x dx : Addr) (p s : D) (us : List V), Ex B H ∧ vs = .ref x :: us ∧ H x = some (.ins C dx []) ∧ B x = none ∧ RepL K B [p, s] us ∧
  ∀ H' fp, Gr [x] B H B H' → DraftAt K C B H' x fp ⟨p, s, [], [], 0⟩ → (∀ a ∈ fp, B a = none ∧ (a = x ∨ H a = none)) → Q .non H'
abbrev sp_Draft_give (K : PySem.W.Frag) (C : Addr) : Sp := spM K C (fun p : Step × Rec => [p.1.d, p.2.d]) (fun s _ => s.recs.length < 90000 ∧ s.adrs.length < 90000) (fun _ _ => .non) (fun s p => s.give p.1 p.2)
abbrev sp_Draft_add_page (K : PySem.W.Frag) (C : Addr) : Sp := spM K C (fun r : Rec => [r.d]) (fun s _ => s.recs.length < 90000) (fun s _ => .int (-((s.fresh + 1 : Nat) : Int))) (fun s r => s.add r)
abbrev sp_Draft_entries (K : PySem.W.Frag) (C : Addr) : Sp := spM K C (fun _ : Unit => []) (fun s _ => entriesOk s = true) (fun s _ => .lst ((entriesL s).map En.d)) (fun s _ => s)
abbrev sp_Draft_place_in_parent (K : PySem.W.Frag) (C : Addr) : Sp := spM K C (fun p : Nat × Step × Step => [.int ((p.1 + 1 : Nat) : Int)]) (fun s p => s.path[p.1 + 1]? = some p.2.1 ∧ s.path[p.1]? = some p.2.2 ∧ p.2.2.rc.okB = true ∧ p.2.1.rc.live = true ∧ p.2.2.rc.live = true ∧ p.2.2.rc.isLeaf = false)
  (fun _ p => match p.2.2.rc with | .inner _ lo hi ks ps => natO (placeIn lo hi ks ps p.2.1) | _ => .non) (fun s _ => s)
abbrev sp_Draft_settle (K : PySem.W.Frag) (C : Addr) : Sp := spM K C (fun p : Nat × Rec × Res × Dr => [.int (p.1 : Int), p.2.1.d]) (fun s p => settle s p.1 p.2.1 = some p.2.2) (fun _ p => p.2.2.1.d) (fun _ p => p.2.2.2)
abbrev sp_Draft_divide (K : PySem.W.Frag) (C : Addr) : Sp := spM K C (fun p : Nat × Rec × Res × Dr => [.int (p.1 : Int), p.2.1.d]) (fun s p => s.small = true ∧ p.2.1.live = true ∧ divide s p.1 p.2.1 = some p.2.2) (fun _ p => p.2.2.1.d) (fun _ p => p.2.2.2)
abbrev sp_Draft_unite (K : PySem.W.Frag) (C : Addr) : Sp := spM K C (fun p : Nat × Rec × Res × Dr => [.int ((p.1 + 1 : Nat) : Int), p.2.1.d]) (fun s p => s.small = true ∧ unite s p.1 p.2.1 = some p.2.2) (fun _ p => p.2.2.1.d) (fun _ p => p.2.2.2)
def pairD (t : Step) (r : Rec) : D := .tup [t.d, r.d]
abbrev sp_Draft_unite_pair (K : PySem.W.Frag) (C : Addr) : Sp := spM K C (fun p : (Nat × Nat) × (Step × Rec) × (Step × Rec) × Res × Dr => [.int ((p.1.1 + 1 : Nat) : Int), .int (p.1.2 : Int), pairD p.2.1.1 p.2.1.2, pairD p.2.2.1.1 p.2.2.1.2])
  (fun s p => s.small = true ∧ unitePair s p.1.1 p.1.2 p.2.1.1 p.2.1.2 p.2.2.1.1 p.2.2.1.2 = some p.2.2.2) (fun _ p => p.2.2.2.1.d) (fun _ p => p.2.2.2.2)
end Esp

/-! D-logic, part 6: the Draft: its fields, its methods' calls, their bodies. -/
namespace Esp
open PySem L2 PyProof.Rows PySem.Spec
section
variable {K : PySem.W.Frag} {mg : Str → Option Value} {C : Addr} {A : List Addr} {B0 H0 B H B' H' : Hp} {σ : L2.St} {ss ss' : List Sl} {x : Addr} {f : List Addr} {s s' : DSt} {i : Nat} {te ta tb ty tv : TE} {d e : D}
theorem fl_path {vp vs : V} {pr pa : Addr} {n : Int} : (dflds vp vs pr pa n).lookup ("path" : Str) = some vp := by simp [dflds]
theorem n1 : (("siblings" : Str) == ("path" : Str)) = false := by decide +kernel
theorem n2 : (("records" : Str) == ("path" : Str)) = false := by decide +kernel
theorem n3 : (("records" : Str) == ("siblings" : Str)) = false := by decide +kernel
theorem n4 : (("addresses" : Str) == ("path" : Str)) = false := by decide +kernel
theorem n5 : (("addresses" : Str) == ("siblings" : Str)) = false := by decide +kernel
theorem n6 : (("addresses" : Str) == ("records" : Str)) = false := by decide +kernel
theorem n7 : (("fresh" : Str) == ("path" : Str)) = false := by decide +kernel
theorem n8 : (("fresh" : Str) == ("siblings" : Str)) = false := by decide +kernel
theorem n9 : (("fresh" : Str) == ("records" : Str)) = false := by decide +kernel
theorem n10 : (("fresh" : Str) == ("addresses" : Str)) = false := by decide +kernel
theorem fl_sib {vp vs : V} {pr pa : Addr} {n : Int} : (dflds vp vs pr pa n).lookup ("siblings" : Str) = some vs := by simp [dflds, List.lookup_cons, n1]
theorem fl_recs {vp vs : V} {pr pa : Addr} {n : Int} : (dflds vp vs pr pa n).lookup ("records" : Str) = some (.ref pr) := by simp [dflds, List.lookup_cons, n2, n3]
theorem fl_adrs {vp vs : V} {pr pa : Addr} {n : Int} : (dflds vp vs pr pa n).lookup ("addresses" : Str) = some (.ref pa) := by simp [dflds, List.lookup_cons, n4, n5, n6]
theorem fl_fresh {vp vs : V} {pr pa : Addr} {n : Int} : (dflds vp vs pr pa n).lookup ("fresh" : Str) = some (.int n) := by simp [dflds, List.lookup_cons, n7, n8, n9, n10]
theorem fl_no {m : Str} (h : (([("path" : Str), "siblings", "records", "addresses", "fresh"] : List Str).all fun k => !(m == k)) = true) {vp vs : V} {pr pa : Addr} {n : Int} : (dflds vp vs pr pa n).lookup m = none := by
  simp only [List.all_cons, List.all_nil, Bool.and_eq_true, Bool.not_eq_true', Bool.and_true] at h
  obtain ⟨h1, h2, h3, h4, h5⟩ := h
  simp [dflds, List.lookup_cons, h1, h2, h3, h4, h5]
theorem sne {a b : Str} (h : (a == b) = false) : ¬ b = a := fun e => by rw [e] at h; simp at h
theorem put_fresh {vp vs : V} {pr pa : Addr} {n m : Int} : putF "fresh" (.int m) (dflds vp vs pr pa n) = dflds vp vs pr pa m := by
  unfold dflds
  simp only [putF, if_neg (sne n7), if_neg (sne n8), if_neg (sne n9), if_neg (sne n10), if_pos]
theorem Ok.drfAt (O : Ok K C A B0 H0 B H σ ss) (h : ss[i]? = some (.drf x f s)) : σ[i]? = some (some (.ref x)) ∧ DraftAt K C B H x f s := by
  obtain ⟨fp, O⟩ := O
  obtain ⟨_, h2, h3⟩ := O.at h
  exact ⟨h2, h3⟩
theorem ev_path (T : Tx K mg C) (h : ss[i]? = some (.drf x f s)) : Ev K C (tFld K (tVar i) "path") ss s.path := fun A B0 H0 B H σ O Q q => by
  obtain ⟨e, dr⟩ := O.drfAt h
  obtain ⟨dx, pr, pa, vp, vs, kr, ka, _, h1, h2, h3, h4, h5, h6, h7, h8⟩ := dr.all
  exact ⟨_, e, x, C, dx, _, _, rfl, h1, T.cls, T.a1, fl_path, q _ B H (Gr.refl O.ex) h6⟩
theorem ev_sib (T : Tx K mg C) (h : ss[i]? = some (.drf x f s)) : Ev K C (tFld K (tVar i) "siblings") ss s.sib := fun A B0 H0 B H σ O Q q => by
  obtain ⟨e, dr⟩ := O.drfAt h
  obtain ⟨dx, pr, pa, vp, vs, kr, ka, _, h1, h2, h3, h4, h5, h6, h7, h8⟩ := dr.all
  exact ⟨_, e, x, C, dx, _, _, rfl, h1, T.cls, T.a2, fl_sib, q _ B H (Gr.refl O.ex) h7⟩
theorem ev_fresh (T : Tx K mg C) (h : ss[i]? = some (.drf x f s)) : Ev K C (tFld K (tVar i) "fresh") ss (.int s.fresh) := fun A B0 H0 B H σ O Q q => by
  obtain ⟨e, dr⟩ := O.drfAt h
  obtain ⟨dx, pr, pa, vp, vs, kr, ka, _, h1, h2, h3, h4, h5, h6, h7, h8⟩ := dr.all
  exact ⟨_, e, x, C, dx, _, _, rfl, h1, T.cls, T.a5, fl_fresh, q _ B H (Gr.refl O.ex) (.int _)⟩
theorem evx_recs (T : Tx K mg C) (h : ss[i]? = some (.drf x f s)) : EvX K C (tFld K (tVar i) "records") ss (.dct s.recs) := fun A B0 H0 B H σ O Q q => by
  obtain ⟨e, dr⟩ := O.drfAt h
  obtain ⟨dx, pr, pa, vp, vs, kr, ka, _, h1, h2, h3, h4, h5, h6, h7, h8⟩ := dr.all
  exact ⟨_, e, x, C, dx, _, _, rfl, h1, T.cls, T.a3, fl_recs, q _ B H (Gr.refl O.ex) ⟨pr, kr, rfl, h2, h4⟩⟩
theorem evx_adrs (T : Tx K mg C) (h : ss[i]? = some (.drf x f s)) : EvX K C (tFld K (tVar i) "addresses") ss (.dct s.adrs) := fun A B0 H0 B H σ O Q q => by
  obtain ⟨e, dr⟩ := O.drfAt h
  obtain ⟨dx, pr, pa, vp, vs, kr, ka, _, h1, h2, h3, h4, h5, h6, h7, h8⟩ := dr.all
  exact ⟨_, e, x, C, dx, _, _, rfl, h1, T.cls, T.a4, fl_adrs, q _ B H (Gr.refl O.ex) ⟨pa, ka, rfl, h3, h5⟩⟩
/-- the draft changes -/
theorem Ok.drf (O : Ok K C A B0 H0 B H σ ss) (hi : ss[i]? = some (.drf x f s)) (g : Gr f B H B' H') (dr : DraftAt K C B' H' x f s') : Ok K C A B0 H0 B' H' σ (ss.set i (.drf x f s')) := by
  obtain ⟨fp, O⟩ := O
  obtain ⟨h1, h2, h3⟩ := O.at hi
  have hl := OkF.of_len hi
  have hs : σ.set i (some (.ref x)) = σ := by
    refine List.ext_getElem? fun j => ?_
    by_cases e : i = j
    · subst e; rw [List.getElem?_set_self (by rw [O.len]; exact hl), h2]
    · rw [List.getElem?_set_ne e]
  have z := O.change hl f (.drf x f s') (.ref x) g.b g.bh (fun a o n e => g.h a o (by rw [← h1]; exact n) e) g.k (fun a q1 q2 => .inl (g.nw a q1 q2)) ⟨rfl, rfl, dr⟩ (fun a ha => by
    obtain ⟨q1, q2, q3⟩ := O.fr i a (by rw [h1]; exact ha)
    refine ⟨?_, g.k a q2, q3, .inl (by rw [h1]; exact ha)⟩
    by_cases z : B' a = none
    · exact z
    · exact (q2 (g.nw a q1 z)).elim)
  rw [hs] at z
  exact ⟨_, z⟩
theorem Ok.drfB (O : Ok K C A B0 H0 B H σ ss) (hi : ss[i]? = some (.drf x f s)) : ∀ a ∈ f, B a = none := by
  obtain ⟨fp, O⟩ := O
  obtain ⟨h1, h2, h3⟩ := O.at hi
  exact fun a ha => (O.fr i a (by rw [h1]; exact ha)).1
/-- one of the draft's objects is written -/
theorem gr_write {p : Addr} {o : HO} (E : Ex B H) (hp : p ∈ f) (hb : B p = none) : Gr f B H B (upd H p o) where
  b := Same.refl B
  bh := fun a u q => by rw [upd_ne (fun z => by rw [z, hb] at q; cases q)]; exact E a u q
  h := fun a u n q => by rw [upd_ne (fun z => n (by rw [z]; exact hp))]; exact q
  k := fun a => k_upd a
  nw := fun a h1 h2 => (h2 h1).elim
/-! ### what has an effect on the draft -/
def EvM (K : PySem.W.Frag) (C : Addr) (te : TE) (ss : List Sl) (d : D) (ss' : List Sl) : Prop := ∀ (A : List Addr) (B0 H0 B H : Hp) (σ : L2.St), Ok K C A B0 H0 B H σ ss → ∀ Q : VK, (∀ v B' H', Ex B B' → Ok K C A B0 H0 B' H' σ ss' → Rep K B' d v → Q v H') → te σ H Q
theorem Ev.m (h : Ev K C te ss d) : EvM K C te ss d ss := fun A B0 H0 B H σ O Q q => h A B0 H0 B H σ O Q fun v B' H' g r => q v B' H' g.b (O.grow g) r
/-- o.m(..) of the draft at slot i -/
theorem evm_meth {α : Type} {enc : α → List D} {dom : Dr → α → Prop} {fD : Dr → α → D} {gD : Dr → α → Dr} {m : Str} {E : XK} {t : TA} {u : Dr} (a : α) (h : ss[i]? = some (.drf x f u.st)) (hm : (([("path" : Str), "siblings", "records", "addresses", "fresh"] : List Str).all fun k => !(m == k)) = true)
    (ha : EvA K C t ss (enc a)) (hd : dom u a) : EvM K C (tMeth C m (spM K C enc dom fD gD) [] E (tVar i) t) ss (fD u a) (ss.set i (.drf x f (gD u a).st)) := fun A B0 H0 B H σ O Q q => by
  obtain ⟨e, dr⟩ := O.drfAt h
  obtain ⟨dx, pr, pa, vp, vs, kr, ka, hf, h1, h2, h3, h4, h5, h6, h7, h8⟩ := dr.all
  refine ⟨_, e, x, dx, _, rfl, h1, fl_no hm, ha A B0 H0 B H σ O _ fun us B1 H1 g1 r1 => ?_⟩
  have O1 := O.grow g1
  refine ⟨B1, x, f, u, a, us, g1.bh, by rw [List.append_nil], (O1.drfAt h).2, O1.drfB h, r1, hd, fun v B2 H2 g2 d2 r2 => ?_⟩
  exact q v B2 H2 (g1.b.trans g2.b) (O1.drf h g2 d2) r2
theorem ea_nil' : EvA K C tNil ss [] := fun A B0 H0 B H σ O Q q => q [] B H (Gr.refl O.ex) .nil
section
variable {t u : TS} {nx bk ct : List Sl → Prop} {rt : D → List Sl → Prop}
theorem do_retM (h : EvM K C te ss d ss') (hr : rt d ss') : Do K C A B0 H0 (tRet te) ss nx bk ct rt := fun E B H σ O a b c r => h A B0 H0 B H σ O _ fun v B' H' g O' q => r B' H' σ ss' d v g O' q hr
theorem do_dropM (h : EvM K C te ss d ss') (hn : nx ss') : Do K C A B0 H0 (tDrop te) ss nx bk ct rt := fun E B H σ O a b c r => h A B0 H0 B H σ O _ fun v B' H' g O' q => a B' H' σ ss' g O' hn
theorem do_asgM (h : EvM K C te ss d ss') (hi : i < ss'.length) (hn : nx (ss'.set i (.val d))) : Do K C A B0 H0 (tAsg te (gName i)) ss nx bk ct rt := fun E B H σ O a b c r => h A B0 H0 B H σ O _ fun v B' H' g O' q => a B' H' _ _ g (O'.setVal hi q) hn
theorem do_asgGM {g : TG} {s1 : List Sl} (h : EvM K C te ss d ss') (hg : GOk K C A B0 H0 g d ss' s1) (hn : nx s1) : Do K C A B0 H0 (tAsg te g) ss nx bk ct rt := fun E B H σ O a b c r =>
  h A B0 H0 B H σ O _ fun v B' H' g' O' q => hg B' H' σ v O' q _ fun σ' O2 => a B' H' σ' s1 g' O2 hn
/-- self.records[k] = v -/
theorem do_recs (T : Tx K mg C) {k : Int} (h : ss[i]? = some (.drf x f s)) (hv : Ev K C tv ss d) (hk : Ev K C ty ss (.int k)) (hl : s.recs.length < 100000) (hn : nx (ss.set i (.drf x f { s with recs := put s.recs k d }))) :
    Do K C A B0 H0 (sDPut (tFld K (tVar i) "records") ty tv) ss nx bk ct rt := fun E B H σ O a b c r => by
  refine hv A B0 H0 B H σ O _ fun v B1 H1 g1 r1 => ?_
  have O1 := O.grow g1
  obtain ⟨e, dr⟩ := O1.drfAt h
  obtain ⟨dx, pr, pa, vp, vs, kr, ka, hf, h1, h2, h3, h4, h5, h6, h7, h8⟩ := dr.all
  refine ⟨_, e, x, C, dx, _, _, rfl, h1, T.cls, T.a3, fl_recs, hk A B0 H0 B1 H1 σ O1 _ fun w B2 H2 g2 r2 => ?_⟩
  cases r2
  have O2 := O1.grow g2
  obtain ⟨_, dr2⟩ := O2.drfAt h
  have k1 := g2.ex _ _ h1
  have k2 := g2.ex _ _ h2
  have k3 := g2.ex _ _ h3
  have n12 : x ≠ pr := ne_of h1 h2 (by intro z; cases z)
  refine ⟨pr, _, rfl, DPut.k (k := (Sum.inl k : Key)) k2 (by rw [h4.length]; exact Nat.lt_of_lt_of_le hl (by decide)), ?_⟩
  refine a B2 _ σ _ (g1.b.trans g2.b) (O2.drf (s' := { s with recs := put s.recs k d }) h (gr_write O2.ex (by rw [hf]; simp) (O2.drfB h _ (by rw [hf]; simp))) ⟨dx, pr, pa, vp, vs, _, ka, hf, by rw [upd_ne n12]; exact k1, upd_same, by rw [upd_ne h8.symm]; exact k3, (h4.mono g2.b).put (r1.mono g2.b), h5.mono g2.b, h6.mono g2.b, h7.mono g2.b, h8⟩) hn
theorem do_adrs (T : Tx K mg C) {k : Int} (h : ss[i]? = some (.drf x f s)) (hv : Ev K C tv ss d) (hk : Ev K C ty ss (.int k)) (hl : s.adrs.length < 100000) (hn : nx (ss.set i (.drf x f { s with adrs := put s.adrs k d }))) :
    Do K C A B0 H0 (sDPut (tFld K (tVar i) "addresses") ty tv) ss nx bk ct rt := fun E B H σ O a b c r => by
  refine hv A B0 H0 B H σ O _ fun v B1 H1 g1 r1 => ?_
  have O1 := O.grow g1
  obtain ⟨e, dr⟩ := O1.drfAt h
  obtain ⟨dx, pr, pa, vp, vs, kr, ka, hf, h1, h2, h3, h4, h5, h6, h7, h8⟩ := dr.all
  refine ⟨_, e, x, C, dx, _, _, rfl, h1, T.cls, T.a4, fl_adrs, hk A B0 H0 B1 H1 σ O1 _ fun w B2 H2 g2 r2 => ?_⟩
  cases r2
  have O2 := O1.grow g2
  have k1 := g2.ex _ _ h1
  have k2 := g2.ex _ _ h2
  have k3 := g2.ex _ _ h3
  have n12 : x ≠ pa := ne_of h1 h3 (by intro z; cases z)
  refine ⟨pa, _, rfl, DPut.k (k := (Sum.inl k : Key)) k3 (by rw [h5.length]; exact Nat.lt_of_lt_of_le hl (by decide)), ?_⟩
  refine a B2 _ σ _ (g1.b.trans g2.b) (O2.drf (s' := { s with adrs := put s.adrs k d }) h (gr_write O2.ex (by rw [hf]; simp) (O2.drfB h _ (by rw [hf]; simp))) ⟨dx, pr, pa, vp, vs, kr, _, hf, by rw [upd_ne n12]; exact k1, by rw [upd_ne h8]; exact k2, upd_same, h4.mono g2.b, (h5.mono g2.b).put (r1.mono g2.b), h6.mono g2.b, h7.mono g2.b, h8⟩) hn
/-- self.fresh -= 1 -/
theorem do_fresh (T : Tx K mg C) (h : ss[i]? = some (.drf x f s)) (hn : nx (ss.set i (.drf x f { s with fresh := s.fresh - 1 }))) : Do K C A B0 H0 (sFldAug K (tVar i) (tC (.int 1)) rSub "fresh") ss nx bk ct rt := fun E B H σ O a b c r => by
  obtain ⟨e, dr⟩ := O.drfAt h
  obtain ⟨dx, pr, pa, vp, vs, kr, ka, hf, h1, h2, h3, h4, h5, h6, h7, h8⟩ := dr.all
  have n12 : x ≠ pr := ne_of h1 h2 (by intro z; cases z)
  have n13 : x ≠ pa := ne_of h1 h3 (by intro z; cases z)
  refine ⟨_, e, x, C, dx, _, _, rfl, h1, T.cls, T.a5, fl_fresh, s.fresh, 1, rfl, rfl, dx, _, h1, by show 5 < 1000; decide, ?_⟩
  rw [put_fresh]
  exact a B _ σ _ (Same.refl B) (O.drf (s' := { s with fresh := s.fresh - 1 }) h (gr_write O.ex (by rw [hf]; simp) (O.drfB h _ (by rw [hf]; simp))) ⟨dx, pr, pa, vp, vs, kr, ka, hf, upd_same, by rw [upd_ne n12.symm]; exact h2, by rw [upd_ne n13.symm]; exact h3, h4, h5, h6, h7, h8⟩) hn
end
/-! ### the keys of self.records, some of them, under the lock -/
theorem evn_keys (T : Tx K mg C) {j : Nat} {tt : TT} {tl : TE} {pr : Int → Bool} (h : ss[i]? = some (.drf x f s)) (hl : s.recs.length < 100000)
    (ht : ∀ (k : Int) (σ : L2.St) (H : Hp) (R : Bool → Hp → Prop), σ[j]? = some (some (.int k)) → R (pr k) H → tt σ H R) (he : ∀ (k : Int) (σ : L2.St) (H : Hp) (R : VK), σ[j]? = some (some (.int k)) → R (.int k) H → te σ H R) (hj : j < ss.length) :
    EvN K C (tLockE (tLc (iKeys (tFld K (tVar i) "records")) (gName j) tt te [j])) ss (.lst (((s.recs.map (·.1)).filter pr).map D.int)) := fun A B0 H0 B H σ O Q q => by
  obtain ⟨e, dr⟩ := O.drfAt h
  obtain ⟨dx, p, pa, vp, vs, kr, ka, hf, h1, h2, h3, h4, h5, h6, h7, h8⟩ := dr.all
  have n12 : x ≠ p := ne_of h1 h2 (by intro z; cases z)
  have hσ : j < σ.length := by rw [O.len]; exact hj
  have hset : ∀ k : Int, ((σ.set j none).set j (some (V.int k)))[j]? = some (some (.int k)) := fun k => List.getElem?_set_self (by rw [List.length_set]; exact hσ)
  refine lockE_keys (pr := pr) (g := fun k => k) h4 hl h2 (fun H' R ⟨od, eH⟩ hR => ?_) (fun k _ H' R _ hR => ht k _ H' R (hset k) hR) (fun k _ _ H' R _ hR => he k _ H' R (hset k) hR) fun D' hD => ?_
  · subst eH
    exact ⟨_, e, x, C, dx, _, _, rfl, by rw [upd_ne n12]; exact h1, T.cls, T.a3, fl_recs, hR⟩
  · rw [List.map_id'' (fun _ => rfl)]
    exact q D' B _ (Gr.newH O.ex hD) hD (none_b O.ex hD) (.lst upd_same (RepL.ints _))
end
section
variable {P : Program} {w : World} {K : PySem.W.Frag} {mg : Str → Option Value} {base : Heap} {C : Addr}
theorem start_okM {x : Addr} {fp : List Addr} {s : DSt} {H B : Hp} (N : List Str) {ds : List D} {us : List V} (r : RepL K B ds us) (hN : us.length + 1 ≤ N.length) (e : Ex B H) (dr : DraftAt K C B H x fp s) (hb : ∀ z ∈ fp, B z = none) :
    Ok K C fp B H B H (L2.start N (.ref x :: us)) (.drf x fp s :: (ds.map Sl.val ++ List.replicate (N.length - 1 - ds.length) Sl.no)) := by
  have hst : L2.start N (.ref x :: us) = some (.ref x) :: (us.map some ++ List.replicate (N.length - 1 - us.length) none) := by
    unfold L2.start
    rw [List.map_cons, List.cons_append, List.length_cons, show N.length - (us.length + 1) = N.length - 1 - us.length by omega]
  have hn : ∀ a ∈ fp, H a ≠ none := by
    obtain ⟨dx, pr, pa, vp, vs, kr, ka, rfl, h1, h2, h3, _⟩ := dr.all
    intro a ha
    simp at ha
    rcases ha with rfl | rfl | rfl
    · rw [h1]; simp
    · rw [h2]; simp
    · rw [h3]; simp
  rw [hst]
  refine ⟨fun i => match i with | 0 => fp | _ => [], ⟨Same.refl B, e, fun a o n q => q, fun a n => n, fun a h1 h2 => (h2 h1).elim⟩, ?_, fun i => ?_, fun i j a h1 h2 => ?_, fun i a h => ?_⟩
  · simp [r.length]
  · cases i with
    | zero => exact ⟨rfl, rfl, dr⟩
    | succ i =>
      show SlOk K C fp H B H ((us.map some ++ List.replicate (N.length - 1 - us.length) none)[i]?) [] ((ds.map Sl.val ++ List.replicate (N.length - 1 - ds.length) Sl.no).getD i .no)
      by_cases hi : i < ds.length
      · have hv : i < us.length := by rw [r.length]; exact hi
        obtain ⟨v, e1, e2⟩ := r.get (List.getElem?_eq_getElem hi)
        have h1 : (ds.map Sl.val ++ List.replicate (N.length - 1 - ds.length) Sl.no)[i]? = some (.val ds[i]) := by
          rw [List.getElem?_append_left (by rw [List.length_map]; exact hi), List.getElem?_map, List.getElem?_eq_getElem hi]; rfl
        rw [getD_of h1, List.getElem?_append_left (by rw [List.length_map]; exact hv), List.getElem?_map, e1]
        exact ⟨rfl, v, rfl, e2⟩
      · have h1 : (ds.map Sl.val ++ List.replicate (N.length - 1 - ds.length) Sl.no).getD i .no = .no := by
          rw [List.getD_eq_getElem?_getD, List.getElem?_append_right (by rw [List.length_map]; omega), List.getElem?_replicate]
          split <;> rfl
        rw [h1]
        rfl
  · cases i with
    | zero => cases j with
      | zero => rfl
      | succ j => exact (nomatch h2)
    | succ i => exact (nomatch h1)
  · cases i with
    | zero => exact ⟨hb a h, hn a h, .inl h⟩
    | succ i => exact (nomatch h)
/-- THE RULE for a method of Draft -/
theorem fn_M {α : Type} {enc : α → List D} {dom : Dr → α → Prop} {fD : Dr → α → D} {gD : Dr → α → Dr} {x qual : Str} {params : Arguments} {body : List Stmt} {scope : Scope} {a : Addr} {fd : FuncData} {N ps : List Str} {k : Nat} (F : FunD K x qual params body scope [] [] a fd) (S : FnScope N ps scope)
    (hl : ∀ s z, dom s z → (enc z).length + 1 = ps.length) (hb : ∀ (cdv : Value) (A : Around) (outer : List Env) (s : Shared) (H : Hp) (E : XK) (u : Dr) (z : α), Room k (A.deeper (envOfC qual scope s.heap.objs.size a cdv)) → dom u z →
      ∃ t, PSs (cxOf CX0 P w K mg base N qual scope a cdv A outer s H E).nox body t ∧ ∀ B y fp, Do K C fp B H t (.drf y fp u.st :: ((enc z).map Sl.val ++ List.replicate (N.length - 1 - (enc z).length) Sl.no)) (fun ss => fD u z = .non ∧ ss[0]? = some (.drf y fp (gD u z).st)) (fun _ => False) (fun _ => False)
        (fun d ss => d = fD u z ∧ ss[0]? = some (.drf y fp (gD u z).st))) :
    FnOk P w K mg base CX0 (k + 1) a fd ps (spM K C enc dom fD gD) := by
  have hps : ps.length ≤ N.length := by
    have q := congrArg List.length S.pre
    rw [List.length_take] at q
    omega
  refine F.ok S (fun vs H Q E h => ?_) (fun cdv A outer s H vs Q E hr h => ?_)
  · obtain ⟨B, y, fp, u, z, us, e, rfl, dr, hb, r, d, _⟩ := h
    rw [List.length_cons, r.length, hl u z d]
  · obtain ⟨B, y, fp, u, z, us, e, rfl, dr, hbb, r, d, q⟩ := h
    obtain ⟨t, ht, hd⟩ := hb cdv A outer s H E u z hr d
    have hlen := hl u z d
    refine ⟨t, ht.nox, hd B y fp _ B H _ (start_okM N r (by rw [r.length, hlen]; exact hps) e dr hbb) (fun B' H' σ' ss' x O z => ?_) (fun _ _ _ _ _ _ z => z.elim) (fun _ _ _ _ _ _ z => z.elim) (fun B' H' σ' ss' d' v x O r' z => ?_)⟩
    · exact q _ B' H' O.gr (O.drfAt z.2).2 (by rw [z.1]; exact .non)
    · exact q v B' H' O.gr (O.drfAt z.2).2 (by rw [← z.1]; exact r')
end
end Esp

/-! Printed by gen.py: readings of changes.py -/
namespace Esp
open PySem L2 PyProof.Rows PySem.Spec
def t_leaf_change (K : PySem.W.Frag) : TS := (tSeq (tPar 2 3 (tCons (tOp (rIxT K) (tVar 0) (tC (.int 0))) (tCons (tOp (rIxT K) (tVar 0) (tC (.int 1))) tNil))) (tSeq (tAsg (tCall (sp_value_in K) [] E0 (tCons (tVar 1) (tCons (tVar 3) tNil))) (gName 4)) (tSeq (tIfS (tAnd (tTest (tOp rEq (tVar 2) (tC (.str "put")))) (tTest (tOp rNe (tVar 4) (tOp (rIxT K) (tVar 0) (tC (.int 2)))))) (tRet (tTup (tCons (tVar 4) (tCons (tCall (sp_with_value K) [] E0 (tCons (tVar 1) (tCons (tVar 3) (tCons (tOp (rIxT K) (tVar 0) (tC (.int 2))) tNil)))) tNil)))) tNext) (tSeq (tIfS (tTest (tOp rEq (tVar 2) (tC (.str "add")))) (tSeq (tIfS (tTest (tOp rNotNo (tVar 4) (tC .non))) (tRet (tTup (tCons (tC (.bl false)) (tCons (tC .non) tNil)))) tNext) (tRet (tTup (tCons (tC (.bl true)) (tCons (tCall (sp_with_value K) [] E0 (tCons (tVar 1) (tCons (tVar 3) (tCons (tOp (rIxT K) (tVar 0) (tC (.int 2))) tNil)))) tNil))))) tNext) (tSeq (tIfS (tTest (tOp rEq (tVar 2) (tC (.str "change")))) (tSeq (tIfS (tOr (tTest (tOp rIsNo (tVar 4) (tC .non))) (tTest (tOp rNe (tVar 4) (tOp (rIxT K) (tVar 0) (tC (.int 2)))))) (tRet (tTup (tCons (tC (.bl false)) (tCons (tC .non) tNil)))) tNext) (tSeq (tIfS (tTest (tOp rEq (tOp (rIxT K) (tVar 0) (tC (.int 3))) (tVar 4))) (tRet (tTup (tCons (tC (.bl true)) (tCons (tC .non) tNil)))) tNext) (tRet (tTup (tCons (tC (.bl true)) (tCons (tCall (sp_with_value K) [] E0 (tCons (tVar 1) (tCons (tVar 3) (tCons (tOp (rIxT K) (tVar 0) (tC (.int 3))) tNil)))) tNil)))))) tNext) (tSeq (tIfS (tAnd (tTest (tOp rEq (tVar 2) (tC (.str "take")))) (tTest (tOp rNotNo (tVar 4) (tC .non)))) (tRet (tTup (tCons (tVar 4) (tCons (tCall (sp_without_key K) [] E0 (tCons (tVar 1) (tCons (tVar 3) tNil))) tNil)))) tNext) (tRet (tTup (tCons (tVar 4) (tCons (tC .non) tNil))))))))))
def t_most_of (K : PySem.W.Frag) : TS := (tSeq (tIfS (tTest (tOp rEq (tCall (sp_level_of K) [] E0 (tCons (tVar 0) tNil)) (tC (.int 0)))) (tRet (tC (.int 4))) tNext) (tRet (tC (.int 5))))
def t_Draft___init__ (K : PySem.W.Frag) : TS := (tSeq (sFld K (tVar 0) (tVar 1) "path") (tSeq (sFld K (tVar 0) (tVar 2) "siblings") (tSeq (sFld K (tVar 0) tDNewK "records") (tSeq (sFld K (tVar 0) tDNewK "addresses") (sFld K (tVar 0) (tC (.int 0)) "fresh")))))
def t_Draft_give (K : PySem.W.Frag) : TS := (tSeq (sDPut (tFld K (tVar 0) "records") (tOp (rIxT K) (tVar 1) (tC (.int 0))) (tVar 2)) (sDPut (tFld K (tVar 0) "addresses") (tOp (rIxT K) (tVar 1) (tC (.int 0))) (tOp (rIxT K) (tVar 1) (tC (.int 1)))))
def t_Draft_add_page (K : PySem.W.Frag) : TS := (tSeq (sFldAug K (tVar 0) (tC (.int 1)) rSub "fresh") (tSeq (sDPut (tFld K (tVar 0) "records") (tFld K (tVar 0) "fresh") (tVar 1)) (tRet (tFld K (tVar 0) "fresh"))))
def t_Draft_entries (K : PySem.W.Frag) : TS := (tSeq (tAsg (tCB (rSortedI K) (tCons (tLockE (tLc (iKeys (tFld K (tVar 0) "records")) (gName 2) (tTest (tOp rGeI (tVar 2) (tC (.int 0)))) (tVar 2) [2])) tNil)) (gName 1)) (tSeq (tAsg (tOp rCat (tVar 1) (tLc (iRng1 (tCons (tUn rNeg (tFld K (tVar 0) "fresh")) tNil)) (gName 3) tYes (tOp rSubI (tUn rNeg (tC (.int 1))) (tVar 3)) [3])) (gName 1)) (tRet (tLc (iList K (tVar 1)) (gName 2) tYes (tTup (tCons (tVar 2) (tCons (tDGet1 (tFld K (tVar 0) "addresses") (tVar 2)) (tCons (tDGet (tFld K (tVar 0) "records") (tVar 2)) tNil)))) [2]))))
def t_Draft_place_in_parent (K : PySem.W.Frag) : TS := (tSeq (tAsg (tOp (rIxT K) (tOp (rIxL K) (tFld K (tVar 0) "path") (tOp rSubI (tVar 1) (tC (.int 1)))) (tC (.int 2))) (gName 2)) (tSeq (tAsg (tOp (rIxL K) (tFld K (tVar 0) "path") (tVar 1)) (gTup K 4 (gCons (gName 3) (gCons (gName 4) (gCons (gName 5) (gCons (gName 4) gNil)))))) (tSeq (tFor (iRng1 (tCons (tCall (sp_size_of K) [] E0 (tCons (tVar 2) tNil)) tNil)) (gName 6) (tIfS (tAnd (tTest (tOp rEq (tOp (rIxT K) (tOp (rIxT K) (tVar 2) (tC (.int 5))) (tVar 6)) (tVar 3))) (tTest (tOp (rEqD K) (tCall (sp_child_bounds K) [] E0 (tCons (tVar 2) (tCons (tVar 6) tNil))) (tCall (sp_bounds_of K) [] E0 (tCons (tVar 5) tNil))))) (tRet (tVar 6)) tNext)) (tRet (tC .non)))))
def t_Draft_unite_pair (K : PySem.W.Frag) (C : Addr) : TS := (tSeq (tAsg (tOp (rIxT K) (tOp (rIxL K) (tFld K (tVar 0) "path") (tOp rSubI (tVar 1) (tC (.int 1)))) (tC (.int 2))) (gName 5)) (tSeq (tAsg (tCall (sp_joined K) [] E0 (tCons (tOp (rIxT K) (tVar 3) (tC (.int 1))) (tCons (tOp (rIxT K) (tCall (sp_bounds_of K) [] E0 (tCons (tOp (rIxT K) (tVar 4) (tC (.int 1))) tNil)) (tC (.int 0))) (tCons (tOp (rIxT K) (tVar 4) (tC (.int 1))) tNil)))) (gName 6)) (tSeq (tIfS (tTest (tOp rGtI (tCall (sp_size_of K) [] E0 (tCons (tVar 6) tNil)) (tCall (sp_most_of K) [] E0 (tCons (tVar 6) tNil)))) (tSeq (tAsg (tCall (sp_cut K) [] E0 (tCons (tVar 6) tNil)) (gTup K 3 (gCons (gName 7) (gCons (gName 8) (gCons (gName 9) gNil))))) (tSeq (tDrop (tMeth C "give" (sp_Draft_give K C) [] E0 (tVar 0) (tCons (tOp (rIxT K) (tVar 3) (tC (.int 0))) (tCons (tVar 7) tNil)))) (tSeq (tDrop (tMeth C "give" (sp_Draft_give K C) [] E0 (tVar 0) (tCons (tOp (rIxT K) (tVar 4) (tC (.int 0))) (tCons (tVar 9) tNil)))) (tRet (tTup (tCons (tC (.str "up")) (tCons (tCall (sp_with_separator K) [] E0 (tCons (tVar 5) (tCons (tVar 2) (tCons (tVar 8) tNil)))) tNil))))))) tNext) (tSeq (tAsg (tCall (sp_without_child K) [] E0 (tCons (tVar 5) (tCons (tVar 2) tNil))) (gName 5)) (tSeq (tDrop (tMeth C "give" (sp_Draft_give K C) [] E0 (tVar 0) (tCons (tOp (rIxT K) (tVar 4) (tC (.int 0))) (tCons (tTup (tCons (tC (.str "free")) (tCons (tOp (rIxT K) (tOp (rIxT K) (tVar 4) (tC (.int 0))) (tC (.int 0))) tNil))) tNil)))) (tSeq (tIfS (tAnd (tTest (tOp rEq (tVar 1) (tC (.int 1)))) (tTest (tOp rEq (tCall (sp_size_of K) [] E0 (tCons (tVar 5) tNil)) (tC (.int 1))))) (tSeq (tDrop (tMeth C "give" (sp_Draft_give K C) [] E0 (tVar 0) (tCons (tOp (rIxT K) (tVar 3) (tC (.int 0))) (tCons (tTup (tCons (tC (.str "free")) (tCons (tOp (rIxT K) (tOp (rIxT K) (tVar 3) (tC (.int 0))) (tC (.int 0))) tNil))) tNil)))) (tSeq (tDrop (tMeth C "give" (sp_Draft_give K C) [] E0 (tVar 0) (tCons (tOp (rIxL K) (tFld K (tVar 0) "path") (tC (.int 0))) (tCons (tVar 6) tNil)))) (tRet (tTup (tCons (tC (.str "done")) (tCons (tC .non) tNil)))))) tNext) (tSeq (tDrop (tMeth C "give" (sp_Draft_give K C) [] E0 (tVar 0) (tCons (tOp (rIxT K) (tVar 3) (tC (.int 0))) (tCons (tVar 6) tNil)))) (tRet (tTup (tCons (tC (.str "up")) (tCons (tVar 5) tNil)))))))))))
def t_Draft_divide (K : PySem.W.Frag) (C : Addr) : TS := (tSeq (tAsg (tCall (sp_cut K) [] E0 (tCons (tVar 2) tNil)) (gTup K 3 (gCons (gName 3) (gCons (gName 4) (gCons (gName 5) gNil))))) (tSeq (tIfS (tTest (tOp rEq (tVar 1) (tC (.int 0)))) (tSeq (tAsg (tTup (tCons (tMeth C "add_page" (sp_Draft_add_page K C) [] E0 (tVar 0) (tCons (tVar 3) tNil)) (tCons (tMeth C "add_page" (sp_Draft_add_page K C) [] E0 (tVar 0) (tCons (tVar 5) tNil)) tNil))) (gName 6)) (tSeq (tAsg (tOp rAddI (tCall (sp_level_of K) [] E0 (tCons (tVar 2) tNil)) (tC (.int 1))) (gName 7)) (tSeq (tDrop (tMeth C "give" (sp_Draft_give K C) [] E0 (tVar 0) (tCons (tOp (rIxL K) (tFld K (tVar 0) "path") (tC (.int 0))) (tCons (tCall (sp_inner K) [] E0 (tCons (tVar 7) (tCons (tC .non) (tCons (tC .non) (tCons (tTup (tCons (tVar 4) tNil)) (tCons (tVar 6) tNil)))))) tNil)))) (tRet (tTup (tCons (tC (.str "done")) (tCons (tC .non) tNil))))))) tNext) (tSeq (tAsg (tMeth C "place_in_parent" (sp_Draft_place_in_parent K C) [] E0 (tVar 0) (tCons (tVar 1) tNil)) (gName 8)) (tSeq (tIfS (tTest (tOp rIsNo (tVar 8) (tC .non))) (tRet (tTup (tCons (tC (.str "stale")) (tCons (tC .non) tNil)))) tNext) (tSeq (tDrop (tMeth C "give" (sp_Draft_give K C) [] E0 (tVar 0) (tCons (tOp (rIxL K) (tFld K (tVar 0) "path") (tVar 1)) (tCons (tVar 3) tNil)))) (tSeq (tAsg (tMeth C "add_page" (sp_Draft_add_page K C) [] E0 (tVar 0) (tCons (tVar 5) tNil)) (gName 9)) (tRet (tTup (tCons (tC (.str "up")) (tCons (tCall (sp_with_child K) [] E0 (tCons (tOp (rIxT K) (tOp (rIxL K) (tFld K (tVar 0) "path") (tOp rSubI (tVar 1) (tC (.int 1)))) (tC (.int 2))) (tCons (tVar 8) (tCons (tVar 4) (tCons (tVar 9) tNil))))) tNil))))))))))
def t_Draft_unite (K : PySem.W.Frag) (C : Addr) : TS := (tSeq (tAsg (tMeth C "place_in_parent" (sp_Draft_place_in_parent K C) [] E0 (tVar 0) (tCons (tVar 1) tNil)) (gName 3)) (tSeq (tIfS (tTest (tOp rIsNo (tVar 3) (tC .non))) (tRet (tTup (tCons (tC (.str "stale")) (tCons (tC .non) tNil)))) tNext) (tSeq (tAsg (tOp (rIxT K) (tOp (rIxL K) (tFld K (tVar 0) "path") (tOp rSubI (tVar 1) (tC (.int 1)))) (tC (.int 2))) (gName 4)) (tSeq (tAsg (tOp rSubI (tVar 3) (tC (.int 1))) (gName 5)) (tSeq (tIfS (tTest (tOp rEq (tVar 3) (tC (.int 0)))) (tAsg (tC (.int 1)) (gName 5)) tNext) (tSeq (tAsg (tOp (rIxT K) (tOp (rIxT K) (tVar 4) (tC (.int 5))) (tVar 5)) (gName 6)) (tSeq (tIfS (tB (tDNotIn (tVar 6) (tFld K (tVar 0) "siblings"))) (tRet (tTup (tCons (tC (.str "read")) (tCons (tVar 6) tNil)))) tNext) (tSeq (tAsg (tDGet (tFld K (tVar 0) "siblings") (tVar 6)) (gName 7)) (tSeq (tIfS (tTest (tOp rNe (tCall (sp_level_of K) [] E0 (tCons (tOp (rIxT K) (tVar 7) (tC (.int 2))) tNil)) (tCall (sp_level_of K) [] E0 (tCons (tVar 2) tNil)))) (tRet (tTup (tCons (tC (.str "stale")) (tCons (tC .non) tNil)))) tNext) (tSeq (tIfS (tTest (tOp (rNeD K) (tCall (sp_bounds_of K) [] E0 (tCons (tOp (rIxT K) (tVar 7) (tC (.int 2))) tNil)) (tCall (sp_child_bounds K) [] E0 (tCons (tVar 4) (tCons (tVar 5) tNil))))) (tRet (tTup (tCons (tC (.str "stale")) (tCons (tC .non) tNil)))) tNext) (tSeq (tAsg (tOp (rIxL K) (tFld K (tVar 0) "path") (tVar 1)) (gName 8)) (tSeq (tIfS (tTest (tOp rLtI (tVar 5) (tVar 3))) (tRet (tMeth C "unite_pair" (sp_Draft_unite_pair K C) [] E0 (tVar 0) (tCons (tVar 1) (tCons (tVar 3) (tCons (tTup (tCons (tVar 7) (tCons (tOp (rIxT K) (tVar 7) (tC (.int 2))) tNil))) (tCons (tTup (tCons (tVar 8) (tCons (tVar 2) tNil))) tNil)))))) tNext) (tRet (tMeth C "unite_pair" (sp_Draft_unite_pair K C) [] E0 (tVar 0) (tCons (tVar 1) (tCons (tVar 5) (tCons (tTup (tCons (tVar 8) (tCons (tVar 2) tNil))) (tCons (tTup (tCons (tVar 7) (tCons (tOp (rIxT K) (tVar 7) (tC (.int 2))) tNil))) tNil))))))))))))))))))
def t_Draft_settle (K : PySem.W.Frag) (C : Addr) : TS := (tSeq (tIfS (tTest (tOp rGtI (tCall (sp_size_of K) [] E0 (tCons (tVar 2) tNil)) (tCall (sp_most_of K) [] E0 (tCons (tVar 2) tNil)))) (tRet (tMeth C "divide" (sp_Draft_divide K C) [] E0 (tVar 0) (tCons (tVar 1) (tCons (tVar 2) tNil)))) tNext) (tSeq (tIfS (tAnd (tTest (tOp rGtI (tVar 1) (tC (.int 0)))) (tTest (tOp rLtI (tCall (sp_size_of K) [] E0 (tCons (tVar 2) tNil)) (tC (.int 2))))) (tRet (tMeth C "unite" (sp_Draft_unite K C) [] E0 (tVar 0) (tCons (tVar 1) (tCons (tVar 2) tNil)))) tNext) (tSeq (tDrop (tMeth C "give" (sp_Draft_give K C) [] E0 (tVar 0) (tCons (tOp (rIxL K) (tFld K (tVar 0) "path") (tVar 1)) (tCons (tVar 2) tNil)))) (tRet (tTup (tCons (tC (.str "done")) (tCons (tC .non) tNil)))))))
def t_plan (K : PySem.W.Frag) (C : Addr) : TS := (tSeq (tAsg (tCall (sp_leaf_change K) [] E0 (tCons (tVar 0) (tCons (tOp (rIxT K) (tOp (rIxL K) (tVar 1) (tUn rNeg (tC (.int 1)))) (tC (.int 2))) tNil))) (gTup K 2 (gCons (gName 3) (gCons (gName 4) gNil)))) (tSeq (tIfS (tTest (tOp rIsNo (tVar 4) (tC .non))) (tRet (tTup (tCons (tC (.str "answer")) (tCons (tVar 3) tNil)))) tNext) (tSeq (tAsg (tMake C (sp_Draft___init__ K C) [] E0 (tCons (tVar 1) (tCons (tVar 2) tNil))) (gName 5)) (tSeq (tFor (iRng3 (tCons (tOp rSubI (tCB (rLenS K) (tCons (tVar 1) tNil)) (tC (.int 1))) (tCons (tUn rNeg (tC (.int 1))) (tCons (tUn rNeg (tC (.int 1))) tNil)))) (gName 6) (tSeq (tAsg (tMeth C "settle" (sp_Draft_settle K C) [] E0 (tVar 5) (tCons (tVar 6) (tCons (tVar 4) tNil))) (gTup K 2 (gCons (gName 7) (gCons (gName 8) gNil)))) (tSeq (tIfS (tTest (tOp rEq (tVar 7) (tC (.str "read")))) (tRet (tTup (tCons (tC (.str "read")) (tCons (tVar 8) tNil)))) tNext) (tSeq (tIfS (tTest (tOp rEq (tVar 7) (tC (.str "stale")))) (tRet (tTup (tCons (tC (.str "stale")) tNil))) tNext) (tSeq (tIfS (tTest (tOp rEq (tVar 7) (tC (.str "done")))) tBreak tNext) (tAsg (tVar 8) (gName 4))))))) (tRet (tTup (tCons (tC (.str "change")) (tCons (tVar 3) (tCons (tMeth C "entries" (sp_Draft_entries K C) [] E0 (tVar 5) tNil) tNil)))))))))
def t_new_pages (K : PySem.W.Frag) : TS := (tRet (tCB (rLenS K) (tCons (tLc (iList K (tVar 0)) (gName 1) (tTest (tOp rLtI (tOp (rIxT K) (tVar 1) (tC (.int 0))) (tC (.int 0)))) (tVar 1) [1]) tNil)))
def t_real_page (K : PySem.W.Frag) : TS := (tSeq (tIfS (tTest (tOp rLtI (tVar 0) (tC (.int 0)))) (tRet (tOp (rIxL K) (tVar 1) (tOp rSubI (tUn rNeg (tC (.int 1))) (tVar 0)))) tNext) (tRet (tVar 0)))
def t_placed (K : PySem.W.Frag) : TS := (tSeq (tAsg (tLst tNil) (gName 2)) (tSeq (tFor (iList K (tVar 0)) (gTup K 3 (gCons (gName 3) (gCons (gName 4) (gCons (gName 5) gNil)))) (tSeq (tIfS (tTest (tOp rEq (tOp (rIxT K) (tVar 5) (tC (.int 0))) (tC (.str "inner")))) (tSeq (tAsg (tCB (rTupS K) (tCons (tLc (iTup K (tOp (rIxT K) (tVar 5) (tC (.int 5)))) (gName 7) tYes (tCall (sp_real_page K) [] E0 (tCons (tVar 7) (tCons (tVar 1) tNil))) [7]) tNil)) (gName 6)) (tAsg (tOp (rCatA K) (tSl (rSlA K) (tVar 5) tNoPart (tPart (tC (.int 5)))) (tTup (tCons (tVar 6) tNil))) (gName 5))) tNext) (tDrop (tBM K "list" rAppend (tVar 2) (tCons (tTup (tCons (tCall (sp_real_page K) [] E0 (tCons (tVar 3) (tCons (tVar 1) tNil))) (tCons (tVar 4) (tCons (tVar 5) tNil)))) tNil))))) (tRet (tVar 2))))
end Esp

/-! What the defs of changes.py do, 1. -/
namespace Esp
open PySem L2 PyProof.Rows PySem.Spec
local macro_rules | `(tactic| walk_at "ev") => `(tactic| repeat' (first
  | exact ev_int | exact ev_str | exact ev_bl | exact ev_non | exact ea_nil | exact eo_none | exact et_yes
  | exact ev_var rfl | exact evx_own rfl
  | apply ea_cons | apply eo_some | apply ev_tup (hl := by first | decide | (simp; done))
  | apply ev_op | apply ev_neg
  | apply ev_sl | apply ev_chain
  | apply ev_andV | apply ev_orV | apply ev_notV
  | apply et_test | apply et_B | apply et_not | apply et_and | apply et_or
  | exact rv_i | exact rv_b | exact rv_eqi | exact rv_nei | exact rv_eqs_t (by with_reducible rfl) | exact rv_eqs_f (by decide +kernel) | exact rv_nes_t (by with_reducible rfl) | exact rv_nes_f (by decide +kernel)
  | exact rv_isN | exact rv_notN
  | exact rv_ixT rfl | exact rv_ixL rfl | apply rv_ixT | apply rv_ixL
  | apply ev_cb (hr := rc_lenT) | apply ev_cb (hr := rc_lenL) | apply ev_cb (hr := rc_int) | apply ev_cb (hr := rc_tupT) | apply ev_cb (hr := rc_all)
  | apply Ev.x | (intro _)))
local macro_rules | `(tactic| walk_at "gs") => `(tactic| repeat' (first | exact gs_nil | apply gs_cons | exact g_name (by simp) | apply g_tup (hn := rfl)))
section
variable {K : PySem.W.Frag} {mg : Str → Option Value} {C : Addr} {A : List Addr} {B0 H0 B : Hp} {nx bk ct : List Sl → Prop} {ss : List Sl} {te ta tb : TE}
theorem rv_neO {o : Option Int} {v : Int} : RV K rNe (oD o) (.int v) (.bl (decide (o ≠ some v))) := by
  cases o with
  | none =>
    have q := rv_ne (K := K) (d := .non) (e := .int v) rfl rfl rfl
    rw [show (!decide (dV .non = dV (.int v))) = decide ((none : Option Int) ≠ some v) from by simp [dV]] at q
    exact q
  | some x =>
    have q := rv_nei (K := K) (i := x) (j := v)
    rw [show decide (x ≠ v) = decide (some x ≠ some v) from by simp] at q
    exact q
theorem ix_call {te : TE} {l : List D} {i : Int} {d : D} (h : Ev K C te ss (.tup l)) (hi : atI l i = some d) : Ev K C (tOp (rIxT K) te (tC (.int i))) ss d := ev_op h.x (Ev.x ev_int) (rv_ixT hi)
theorem do_leaf_change (p : Call × Rec) (h : p.2.okB = true ∧ p.2.isLeaf = true ∧ ∀ r, (leafChange p.1 p.2).2 = some r → r.okB = true) :
    Do K C [] B H0 (t_leaf_change K) [.val p.1.d, .val p.2.d, .no, .no, .no] nx bk ct (fun d _ => d = D.tup [(leafChange p.1 p.2).1.d, oR (leafChange p.1 p.2).2]) := by
  obtain ⟨c, r⟩ := p
  obtain ⟨h1, h2, h3⟩ := h
  have h1 : r.okB = true := h1
  have h3 : ∀ r', (leafChange c r).2 = some r' → r'.okB = true := h3
  cases r with
  | inner lv lo hi ks ps => exact absurd h2 (by simp [Rec.isLeaf])
  | free n => exact absurd h2 (by simp [Rec.isLeaf])
  | leaf lo hi ks vs =>
    have hv : ∀ (ss : List Sl) (tr tk : TE) (k : Int), Ev K C tr ss (Rec.leaf lo hi ks vs).d → Ev K C tk ss (.int k) → Ev K C (tCall (sp_value_in K) [] E0 (tCons tr (tCons tk tNil))) ss (oD (valIn ks vs k)) := fun ss tr tk k a b =>
      ev_call (Rec.leaf lo hi ks vs, k) (ea_cons a (ea_cons b ea_nil)) ⟨h1, rfl⟩
    have hw : ∀ (ss : List Sl) (tr tk tv : TE) (k v : Int), Ev K C tr ss (Rec.leaf lo hi ks vs).d → Ev K C tk ss (.int k) → Ev K C tv ss (.int v) → (wValue lo hi ks vs k v).okB = true → Ev K C (tCall (sp_with_value K) [] E0 (tCons tr (tCons tk (tCons tv tNil)))) ss (wValue lo hi ks vs k v).d := fun ss tr tk tv k v a b c d =>
      ev_call (Rec.leaf lo hi ks vs, k, v) (ea_cons a (ea_cons b (ea_cons c ea_nil))) ⟨h1, d⟩
    have hq : ∀ (ss : List Sl) (tr tk : TE) (k : Int), Ev K C tr ss (Rec.leaf lo hi ks vs).d → Ev K C tk ss (.int k) → (woKey lo hi ks vs k).okB = true → Ev K C (tCall (sp_without_key K) [] E0 (tCons tr (tCons tk tNil))) ss (woKey lo hi ks vs k).d := fun ss tr tk k a b d =>
      ev_call (Rec.leaf lo hi ks vs, k) (ea_cons a (ea_cons b ea_nil)) ⟨h1, d⟩
    cases c with
    | put k v =>
      refine do_seq (do_par (d := .str "put") (e := .int k) (ea_cons (ix_call (ev_var rfl) rfl) (ea_cons (ix_call (ev_var rfl) rfl) ea_nil)) ?_ (by simp) (by simp))
      refine do_seq (do_asg (hv _ _ _ k (ev_var rfl) (ev_var rfl)) ?_ (by simp))
      refine do_seq (do_if (b' := true && decide (valIn ks vs k ≠ some v)) (et_and (et_test (by walk_at "ev")) fun _ => et_test (ev_op (d := oD (valIn ks vs k)) (e := .int v) (Ev.x (ev_var rfl)) (Ev.x (ix_call (ev_var rfl) rfl)) rv_neO)) (fun hb => ?_) (fun hb => do_next ?_))
      · have hb : valIn ks vs k ≠ some v := of_decide_eq_true hb
        have e : leafChange (.put k v) (Rec.leaf lo hi ks vs) = (.o (valIn ks vs k), some (wValue lo hi ks vs k v)) := by simp [leafChange, ansOf, Call.key, hb, leafTo]
        exact do_ret (ev_tup (ea_cons (ev_var rfl) (ea_cons (hw _ _ _ _ k v (ev_var rfl) (ev_var rfl) (ix_call (ev_var rfl) rfl) (h3 _ (by rw [e]))) ea_nil)) (by simp)) (by rw [e]; rfl)
      · have hb : valIn ks vs k = some v := by
          have := of_decide_eq_false hb
          exact Decidable.byContradiction fun z => this z
        have e : leafChange (.put k v) (Rec.leaf lo hi ks vs) = (.o (valIn ks vs k), none) := by simp [leafChange, ansOf, Call.key, hb]
        refine do_seq (do_iff (et_test (by walk_at "ev")) (do_next ?_))
        refine do_seq (do_iff (et_test (by walk_at "ev")) (do_next ?_))
        refine do_seq (do_iff (et_and (a := false) (b := false) (et_test (by walk_at "ev")) (fun z => nomatch z)) (do_next ?_))
        exact do_ret (ev_tup (ea_cons (ev_var rfl) (ea_cons ev_non ea_nil)) (by simp)) (by rw [e]; rfl)
    | add k v =>
      refine do_seq (do_par (d := .str "add") (e := .int k) (ea_cons (ix_call (ev_var rfl) rfl) (ea_cons (ix_call (ev_var rfl) rfl) ea_nil)) ?_ (by simp) (by simp))
      refine do_seq (do_asg (hv _ _ _ k (ev_var rfl) (ev_var rfl)) ?_ (by simp))
      refine do_seq (do_iff (et_and (a := false) (b := false) (et_test (by walk_at "ev")) (fun z => nomatch z)) (do_next ?_))
      refine do_seq (do_ift (et_test (by walk_at "ev")) ?_)
      refine do_seq (do_if (et_test (ev_op (d := oD (valIn ks vs k)) (Ev.x (ev_var rfl)) (Ev.x ev_non) rv_notN)) (fun hb => ?_) (fun hb => do_next ?_))
      · have hb : (valIn ks vs k).isSome = true := by rw [isNon_oD, Bool.not_not] at hb; exact hb
        have e : leafChange (.add k v) (Rec.leaf lo hi ks vs) = (.b false, none) := by simp [leafChange, ansOf, Call.key, hb]
        exact do_ret (ev_tup (ea_cons ev_bl (ea_cons ev_non ea_nil)) (by simp)) (by rw [e]; rfl)
      · have hb : (valIn ks vs k).isSome = false := by rw [isNon_oD, Bool.not_not] at hb; exact hb
        have e : leafChange (.add k v) (Rec.leaf lo hi ks vs) = (.b true, some (wValue lo hi ks vs k v)) := by simp [leafChange, ansOf, Call.key, hb, leafTo]
        exact do_ret (ev_tup (ea_cons ev_bl (ea_cons (hw _ _ _ _ k v (ev_var rfl) (ev_var rfl) (ix_call (ev_var rfl) rfl) (h3 _ (by rw [e]))) ea_nil)) (by simp)) (by rw [e]; rfl)
    | change k o n =>
      refine do_seq (do_par (d := .str "change") (e := .int k) (ea_cons (ix_call (ev_var rfl) rfl) (ea_cons (ix_call (ev_var rfl) rfl) ea_nil)) ?_ (by simp) (by simp))
      refine do_seq (do_asg (hv _ _ _ k (ev_var rfl) (ev_var rfl)) ?_ (by simp))
      refine do_seq (do_iff (et_and (a := false) (b := false) (et_test (by walk_at "ev")) (fun z => nomatch z)) (do_next ?_))
      refine do_seq (do_iff (et_test (by walk_at "ev")) (do_next ?_))
      refine do_seq (do_ift (et_test (by walk_at "ev")) ?_)
      by_cases hb : valIn ks vs k = some o
      · rw [hb]
        refine do_seq (do_iff (et_or (a := false) (b := false) (et_test (by walk_at "ev")) (fun _ => et_test (EvT.is' (ev_op (d := .int o) (e := .int o) (Ev.x (ev_var rfl)) (Ev.x (ix_call (ev_var rfl) rfl)) rv_nei) (by simp)))) (do_next ?_))
        refine do_seq (do_if (et_test (ev_op (d := .int n) (e := .int o) (Ev.x (ix_call (ev_var rfl) rfl)) (Ev.x (ev_var rfl)) rv_eqi)) (fun hc => ?_) (fun hc => do_next ?_))
        · have e : leafChange (.change k o n) (Rec.leaf lo hi ks vs) = (.b true, none) := by simp [leafChange, ansOf, Call.key, hb, of_decide_eq_true hc]
          exact do_ret (ev_tup (ea_cons ev_bl (ea_cons ev_non ea_nil)) (by simp)) (by rw [e]; rfl)
        · have e : leafChange (.change k o n) (Rec.leaf lo hi ks vs) = (.b true, some (wValue lo hi ks vs k n)) := by simp [leafChange, ansOf, Call.key, hb, of_decide_eq_false hc, leafTo]
          exact do_ret (ev_tup (ea_cons ev_bl (ea_cons (hw _ _ _ _ k n (ev_var rfl) (ev_var rfl) (ix_call (ev_var rfl) rfl) (h3 _ (by rw [e]))) ea_nil)) (by simp)) (by rw [e]; rfl)
      · have e : leafChange (.change k o n) (Rec.leaf lo hi ks vs) = (.b false, none) := by simp [leafChange, ansOf, Call.key, hb]
        refine do_seq (do_ift (EvT.is (b := isNon (oD (valIn ks vs k)) || true) (et_or (et_test (ev_op (d := oD (valIn ks vs k)) (Ev.x (ev_var rfl)) (Ev.x ev_non) rv_isN)) (fun _ => et_test (EvT.is' (ev_op (d := oD (valIn ks vs k)) (e := .int o) (Ev.x (ev_var rfl)) (Ev.x (ix_call (ev_var rfl) rfl)) rv_neO) (decide_eq_true hb)))) (by simp)) ?_)
        exact do_ret (ev_tup (ea_cons ev_bl (ea_cons ev_non ea_nil)) (by simp)) (by rw [e]; rfl)
    | take k =>
      refine do_seq (do_par (d := .str "take") (e := .int k) (ea_cons (ix_call (ev_var rfl) rfl) (ea_cons (ix_call (ev_var rfl) rfl) ea_nil)) ?_ (by simp) (by simp))
      refine do_seq (do_asg (hv _ _ _ k (ev_var rfl) (ev_var rfl)) ?_ (by simp))
      refine do_seq (do_iff (et_and (a := false) (b := false) (et_test (by walk_at "ev")) (fun z => nomatch z)) (do_next ?_))
      refine do_seq (do_iff (et_test (by walk_at "ev")) (do_next ?_))
      refine do_seq (do_iff (et_test (by walk_at "ev")) (do_next ?_))
      cases hb : valIn ks vs k with
      | some y =>
        have e : leafChange (.take k) (Rec.leaf lo hi ks vs) = (.o (some y), some (woKey lo hi ks vs k)) := by simp [leafChange, ansOf, Call.key, hb, leafTo]
        refine do_seq (do_ift (et_and (a := true) (b := true) (et_test (by walk_at "ev")) fun _ => et_test (by walk_at "ev")) ?_)
        exact do_ret (ev_tup (ea_cons (ev_var rfl) (ea_cons (hq _ _ _ k (ev_var rfl) (ev_var rfl) (h3 _ (by rw [e]))) ea_nil)) (by simp)) (by rw [e]; rfl)
      | none =>
        have e : leafChange (.take k) (Rec.leaf lo hi ks vs) = (.o none, none) := by simp [leafChange, ansOf, Call.key, hb]
        refine do_seq (do_iff (et_and (a := true) (b := false) (et_test (by walk_at "ev")) fun _ => et_test (by walk_at "ev")) (do_next ?_))
        exact do_ret (ev_tup (ea_cons (ev_var rfl) (ea_cons ev_non ea_nil)) (by simp)) (by rw [e]; rfl)
    | look k =>
      have e : leafChange (.look k) (Rec.leaf lo hi ks vs) = (.o (valIn ks vs k), none) := by simp [leafChange, ansOf, Call.key]
      refine do_seq (do_par (d := .str "look") (e := .int k) (ea_cons (ix_call (ev_var rfl) rfl) (ea_cons (ix_call (ev_var rfl) rfl) ea_nil)) ?_ (by simp) (by simp))
      refine do_seq (do_asg (hv _ _ _ k (ev_var rfl) (ev_var rfl)) ?_ (by simp))
      refine do_seq (do_iff (et_and (a := false) (b := false) (et_test (by walk_at "ev")) (fun z => nomatch z)) (do_next ?_))
      refine do_seq (do_iff (et_test (by walk_at "ev")) (do_next ?_))
      refine do_seq (do_iff (et_test (by walk_at "ev")) (do_next ?_))
      refine do_seq (do_iff (et_and (a := false) (b := false) (et_test (by walk_at "ev")) (fun z => nomatch z)) (do_next ?_))
      exact do_ret (ev_tup (ea_cons (ev_var rfl) (ea_cons ev_non ea_nil)) (by simp)) (by rw [e]; rfl)
theorem do_most_of (r : Rec) : Do K C [] B H0 (t_most_of K) [.val r.d] nx bk ct (fun d _ => d = .int (mostOf r)) := by
  refine do_seq (do_if (et_test (ev_op (d := .int r.lv) (e := .int 0) (Ev.x (ev_call r (ea_cons (ev_var rfl) ea_nil) trivial)) (Ev.x ev_int) rv_eqi)) (fun hb => do_ret ev_int ?_) (fun hb => do_next (do_ret ev_int ?_)))
  · unfold mostOf; rw [if_pos (of_decide_eq_true hb)]; rfl
  · unfold mostOf; rw [if_neg (of_decide_eq_false hb)]; rfl
theorem do_new_pages (es : List En) (h : es.length ≤ 50000) : Do K C [] B H0 (t_new_pages K) [.val (.lst (es.map En.d)), .no] nx bk ct (fun d _ => d = .int (newPages es)) := by
  have q := evn_lcL (K := K) (C := C) (ss := [.val (.lst (es.map En.d)), .no]) (tl := tVar 0) (j := 1) (l := es.map En.d) (p := fun d => match d with | .tup (.int i :: _) => decide (i < 0) | _ => false) (g := fun d => d) (tt := tTest (tOp rLtI (tOp (rIxT K) (tVar 1) (tC (.int 0))) (tC (.int 0)))) (te := tVar 1) (ev_var rfl) (by simp) (fun d hd => by
    obtain ⟨e, _, rfl⟩ := List.mem_map.mp hd
    exact et_test (by walk_at "ev")) (fun d _ _ => ev_var rfl) (by rw [List.length_map]; omega)
  refine do_ret (ev_cb q.x rc_lenL) ?_
  rw [List.map_id'', List.filter_map, List.length_map]
  rfl
  all_goals exact fun _ => rfl
theorem do_real_page (p : Int × List Int) (h : pageOk p.1 p.2.length = true) : Do K C [] B H0 (t_real_page K) [.val (.int p.1), .val (.lst (p.2.map D.int))] nx bk ct (fun d _ => d = .int (realPage p.1 p.2)) := by
  obtain ⟨p, l⟩ := p
  have h : p < 0 → (-1 - p).toNat < l.length := of_decide_eq_true h
  refine do_seq (do_if (b' := decide (p < 0)) (et_test (by walk_at "ev")) (fun hb => ?_) (fun hb => do_next (do_ret (ev_var rfl) ?_)))
  · have hb : p < 0 := of_decide_eq_true hb
    have h1 := h hb
    refine do_ret (ev_op (d := .lst (l.map D.int)) (e := .int (-1 - p)) (Ev.x (ev_var rfl)) (Ev.x (by walk_at "ev")) (rv_ixL (at_ints (j := (-1 - p).toNat) (by omega) (List.getElem?_eq_getElem h1)))) ?_
    show D.int _ = D.int (realPage p l)
    unfold realPage
    rw [if_pos hb, List.getD_eq_getElem?_getD, List.getElem?_eq_getElem h1]
    rfl
  · have hb : ¬ p < 0 := of_decide_eq_false hb
    show D.int _ = D.int (realPage p l)
    unfold realPage
    rw [if_neg hb]
theorem En.d_eq (e : En) : e.d = .tup [.int e.page, oD e.addr, e.rc.d] := rfl
theorem do_placed (p : List En × List Int) (h : p.1.length ≤ 50000 ∧ ∀ e ∈ p.1, pageOk e.page p.2.length = true ∧ recPagesOk p.2.length e.rc = true) :
    Do K C [] B H0 (t_placed K) [.val (.lst (p.1.map En.d)), .val (.lst (p.2.map D.int)), .no, .no, .no, .no, .no, .no] nx bk ct (fun d _ => d = D.lst ((p.1.map (placedE p.2)).map En.d)) := by
  obtain ⟨es, ps⟩ := p
  obtain ⟨h1, h2⟩ := h
  have h1 : es.length ≤ 50000 := h1
  have h2 : ∀ e ∈ es, pageOk e.page ps.length = true ∧ recPagesOk ps.length e.rc = true := h2
  have real : ∀ (ss : List Sl) (ta tb : TE) (q : Int), pageOk q ps.length = true → Ev K C ta ss (.int q) → Ev K C tb ss (.lst (ps.map D.int)) → Ev K C (tCall (sp_real_page K) [] E0 (tCons ta (tCons tb tNil))) ss (.int (realPage q ps)) := fun ss ta tb q ok a b => ev_call (q, ps) (ea_cons a (ea_cons b ea_nil)) ok
  refine do_seq (do_asgN (evn_lst ea_nil (by simp)) ?_ (by simp))
  refine do_seq (do_forL (l := es.map En.d) (ev_var rfl) (fun i ss => ∃ x3 x4 x5 x6 x7, ss = [.val (.lst (es.map En.d)), .val (.lst (ps.map D.int)), .own (.lst (((es.take i).map (placedE ps)).map En.d)), x3, x4, x5, x6, x7]) ⟨_, _, _, _, _, rfl⟩ ?_ ?_)
  · rintro i d ss hi ⟨x3, x4, x5, x6, x7, rfl⟩
    rw [List.getElem?_map] at hi
    cases e0 : es[i]? with
    | none => rw [e0] at hi; cases hi
    | some e =>
      rw [e0] at hi
      cases hi
      obtain ⟨o1, o2⟩ := h2 e (List.mem_of_getElem? e0)
      refine ⟨_, by rw [En.d_eq]; walk_at "gs", ?_⟩
      have tail : ∀ (bk' : List Sl → Prop) (x6 : Sl), Do K C [] B H0 (tDrop (tBM K "list" rAppend (tVar 2) (tCons (tTup (tCons (tCall (sp_real_page K) [] E0 (tCons (tVar 3) (tCons (tVar 1) tNil))) (tCons (tVar 4) (tCons (tVar 5) tNil)))) tNil)))
          [.val (.lst (es.map En.d)), .val (.lst (ps.map D.int)), .own (.lst (((es.take i).map (placedE ps)).map En.d)), .val (.int e.page), .val (oD e.addr), .val (renRec ps e.rc).d, x6, x7]
          (fun ss => ∃ x3 x4 x5 x6 x7, ss = [.val (.lst (es.map En.d)), .val (.lst (ps.map D.int)), .own (.lst (((es.take (i + 1)).map (placedE ps)).map En.d)), x3, x4, x5, x6, x7])
          bk' (fun ss => ∃ x3 x4 x5 x6 x7, ss = [.val (.lst (es.map En.d)), .val (.lst (ps.map D.int)), .own (.lst (((es.take (i + 1)).map (placedE ps)).map En.d)), x3, x4, x5, x6, x7]) (fun d _ => d = D.lst ((es.map (placedE ps)).map En.d)) := fun bk' x6 => by
        refine do_app (i := 2) rfl (ev_tup (ea_cons (real _ _ _ e.page o1 (ev_var rfl) (ev_var rfl)) (ea_cons (ev_var rfl) (ea_cons (ev_var rfl) ea_nil))) (by simp)) (by simp; omega) ?_
        rw [List.take_add_one, e0, List.map_append, List.map_append]
        exact ⟨_, _, _, _, _, rfl⟩
      cases hr : e.rc with
      | inner lv lo hi ks qs =>
        rw [hr] at o2
        have o3 : qs.length ≤ 1000 ∧ ∀ q ∈ qs, pageOk q ps.length = true := by
          unfold recPagesOk at o2
          simpa [Bool.and_eq_true, List.all_eq_true] using o2
        rw [hr] at tail
        refine do_seq (do_ift (et_test (by walk_at "ev")) ?_)
        refine do_seq (do_asg (d := iL (qs.map fun q => realPage q ps)) ?_ ?_ (by simp))
        · have q := evn_lcT (K := K) (C := C) (ss := [.val (.lst (es.map En.d)), .val (.lst (ps.map D.int)), .own (.lst (((es.take i).map (placedE ps)).map En.d)), .val (.int e.page), .val (oD e.addr), .val (Rec.inner lv lo hi ks qs).d, x6, x7]) (tl := tOp (rIxT K) (tVar 5) (tC (.int 5))) (j := 7) (l := qs.map D.int) (p := fun _ => true)
            (g := fun d => match d with | .int q => .int (realPage q ps) | d => d) (tt := tYes) (te := tCall (sp_real_page K) [] E0 (tCons (tVar 7) (tCons (tVar 1) tNil))) (by walk_at "ev") (by simp) (fun _ _ => et_yes) (fun d hd _ => by
              obtain ⟨q, hq, rfl⟩ := List.mem_map.mp hd
              exact real _ _ _ q (o3.2 q hq) (ev_var rfl) (ev_var rfl)) (by rw [List.length_map]; omega)
          refine (ev_cb q.x rc_tupL).is ?_
          rw [List.filter_eq_self.mpr (fun _ _ => rfl), List.map_map]
          show D.tup _ = D.tup ((qs.map fun q => realPage q ps).map D.int)
          rw [List.map_map]
          rfl
        · refine do_asg (d := (renRec ps (Rec.inner lv lo hi ks qs)).d) (Ev.is (ev_op (d := .tup (cutD _ none (some 5))) (e := .tup [_]) (Ev.x (ev_sl (Ev.x (ev_var rfl)) eo_none (eo_some ev_int))) (Ev.x (ev_tup (ea_cons (ev_var rfl) ea_nil) (by simp))) (rv_catT (show (5 : Nat) + 1 ≤ sizeLine by decide))) rfl) (tail _ _) (by simp)
      | leaf lo hi ks vs =>
        rw [hr] at tail
        exact do_seq (do_iff (et_test (by walk_at "ev")) (do_next (tail _ _)))
      | free n =>
        rw [hr] at tail
        exact do_seq (do_iff (et_test (by walk_at "ev")) (do_next (tail _ _)))
  · rintro ss ⟨x3, x4, x5, x6, x7, rfl⟩
    refine do_freeze 2 rfl (do_ret (ev_var rfl) ?_)
    rw [List.length_map, List.take_length]
end
end Esp

/-! What the methods of Draft do. -/
namespace Esp
open PySem L2 PyProof.Rows PySem.Spec
local macro_rules | `(tactic| walk_at "ev") => `(tactic| repeat' (first
  | exact ev_int | exact ev_str | exact ev_bl | exact ev_non | exact ea_nil | exact eo_none | exact et_yes
  | exact ev_var rfl | exact evx_own rfl
  | apply ea_cons | apply eo_some | apply ev_tup (hl := by first | decide | (simp; done))
  | apply ev_op | apply ev_neg
  | apply ev_sl | apply ev_chain
  | apply ev_andV | apply ev_orV | apply ev_notV
  | apply et_test | apply et_B | apply et_not | apply et_and | apply et_or
  | exact rv_i | exact rv_b | exact rv_eqi | exact rv_nei | exact rv_eqs_t (by with_reducible rfl) | exact rv_eqs_f (by decide +kernel) | exact rv_nes_t (by with_reducible rfl) | exact rv_nes_f (by decide +kernel)
  | exact rv_isN | exact rv_notN
  | exact rv_ixT rfl | exact rv_ixL rfl | apply rv_ixT | apply rv_ixL
  | apply ev_cb (hr := rc_lenT) | apply ev_cb (hr := rc_lenL) | apply ev_cb (hr := rc_int) | apply ev_cb (hr := rc_tupT) | apply ev_cb (hr := rc_all)
  | apply Ev.x | (intro _)))
local macro_rules | `(tactic| walk_at "gs") => `(tactic| repeat' (first | exact gs_nil | apply gs_cons | exact g_name (by simp) | apply g_tup (hn := rfl)))
section
variable {K : PySem.W.Frag} {mg : Str → Option Value} {C : Addr} {A : List Addr} {B0 H0 B : Hp} {nx bk ct : List Sl → Prop} {ss : List Sl} {te ta tb : TE} {y : Addr} {fp : List Addr} {u : Dr} {i : Nat}
theorem give_st (u : Dr) (t : Step) (r : Rec) : (u.give t r).st = { u.st with recs := put u.st.recs t.page r.d, adrs := put u.st.adrs t.page (.int t.addr) } := by
  simp only [Dr.give, Dr.st, put_mapV]
theorem add_st (u : Dr) (r : Rec) : (u.add r).st = { u.st with recs := put u.st.recs (u.st.fresh - 1) r.d, fresh := u.st.fresh - 1 } := by
  have e : -(u.fresh : Int) - 1 = -((u.fresh + 1 : Nat) : Int) := by omega
  simp only [Dr.add, Dr.st, e, put_mapV]
theorem ev_step (T : Tx K mg C) (h : ss[i]? = some (.drf y fp u.st)) {z : Int} {j : Nat} {t : Step} (hi : Ev K C tb ss (.int z)) (e : z = (j : Int)) (hp : u.path[j]? = some t) : Ev K C (tOp (rIxL K) (tFld K (tVar i) "path") tb) ss t.d :=
  ev_op (d := .lst (u.path.map Step.d)) (Ev.x (ev_path T h)) hi.x (rv_ixL (at_nat e (by rw [List.getElem?_map, hp]; rfl)))
theorem evm_give {tt tr : TE} (t : Step) (r : Rec) (h : ss[0]? = some (.drf y fp u.st)) (ht : Ev K C tt ss t.d) (hr : Ev K C tr ss r.d) (h1 : u.recs.length < 90000) (h2 : u.adrs.length < 90000) :
    EvM K C (tMeth C "give" (sp_Draft_give K C) [] E0 (tVar 0) (tCons tt (tCons tr tNil))) ss .non (ss.set 0 (.drf y fp (u.give t r).st)) :=
  evm_meth (t, r) h (by decide +kernel) (ea_cons ht (ea_cons hr ea_nil)) ⟨h1, h2⟩
theorem evm_add {tr : TE} (r : Rec) (h : ss[0]? = some (.drf y fp u.st)) (hr : Ev K C tr ss r.d) (h1 : u.recs.length < 90000) :
    EvM K C (tMeth C "add_page" (sp_Draft_add_page K C) [] E0 (tVar 0) (tCons tr tNil)) ss (.int (-((u.fresh + 1 : Nat) : Int))) (ss.set 0 (.drf y fp (u.add r).st)) :=
  evm_meth r h (by decide +kernel) (ea_cons hr ea_nil) h1
theorem put_len {α : Type} (l : List (Int × α)) (k : Int) (v : α) : (put l k v).length ≤ l.length + 1 := by
  unfold put
  split
  · rw [List.length_map]; omega
  · rw [List.length_append]; exact Nat.le_refl _
theorem mapV_len {α β : Type} (f : α → β) (l : List (Int × α)) : (mapV f l).length = l.length := by unfold mapV; rw [List.length_map]
theorem do_Draft_give (T : Tx K mg C) (p : Step × Rec) (h : u.recs.length < 90000 ∧ u.adrs.length < 90000) : Do K C A B0 H0 (t_Draft_give K) [.drf y fp u.st, .val p.1.d, .val p.2.d] (fun ss => D.non = .non ∧ ss[0]? = some (.drf y fp (u.give p.1 p.2).st)) bk ct (fun d ss => d = .non ∧ ss[0]? = some (.drf y fp (u.give p.1 p.2).st)) := by
  refine do_seq (do_recs T rfl (ev_var rfl) (ix_call (ev_var rfl) rfl) (by show (mapV _ _).length < _; rw [mapV_len]; omega) ?_)
  refine do_adrs T rfl (ix_call (ev_var rfl) rfl) (ix_call (ev_var rfl) rfl) (by show (mapV _ _).length < _; rw [mapV_len]; omega) ⟨rfl, ?_⟩
  rw [give_st]
  rfl
theorem do_Draft_add_page (T : Tx K mg C) (r : Rec) (h : u.recs.length < 90000) : Do K C A B0 H0 (t_Draft_add_page K) [.drf y fp u.st, .val r.d] nx bk ct (fun d ss => d = .int (-((u.fresh + 1 : Nat) : Int)) ∧ ss[0]? = some (.drf y fp (u.add r).st)) := by
  refine do_seq (do_fresh T rfl ?_)
  refine do_seq (do_recs T rfl (ev_var rfl) (ev_fresh T rfl) (by show (mapV _ _).length < _; rw [mapV_len]; omega) ?_)
  refine do_ret (ev_fresh T rfl) ⟨?_, ?_⟩
  · show D.int (-(u.fresh : Int) - 1) = _
    congr 1
    omega
  · rw [add_st]
    rfl
theorem do_Draft_entries (T : Tx K mg C) (h : entriesOk u = true) : Do K C A B0 H0 (t_Draft_entries K) [.drf y fp u.st, .no, .no, .no] nx bk ct (fun d ss => d = .lst ((entriesL u).map En.d) ∧ ss[0]? = some (.drf y fp u.st)) := by
  unfold entriesOk Dr.small at h
  simp only [Bool.and_eq_true, decide_eq_true_eq, List.all_eq_true, List.mem_range] at h
  obtain ⟨⟨h1, h2, h3, h4⟩, h5⟩ := h
  have hk : (u.st.recs.map (·.1)) = u.recs.map (·.1) := by
    show (mapV Rec.d u.recs).map (·.1) = _
    unfold mapV
    rw [List.map_map]
    rfl
  have s1 := evn_cb (evn_keys (K := K) (C := C) (ss := [.drf y fp u.st, .no, .no, .no]) (j := 2) (tt := tTest (tOp rGeI (tVar 2) (tC (.int 0)))) (tl := tVar 2) (te := tVar 2) (i := 0) (pr := fun k => decide (0 ≤ k)) T rfl (by show (mapV _ _).length < _; rw [mapV_len]; omega) (fun k σ H R e hR => ⟨_, e, k, 0, rfl, rfl, _, rfl, hR⟩) (fun k σ H R e hR => ⟨_, e, hR⟩) (by simp)).x rcn_sorted
  rw [hk] at s1
  refine do_seq (do_asg s1.ev ?_ (by simp))
  have hs : (srt ((u.recs.map (·.1)).filter fun k => decide (0 ≤ k))).length ≤ 5000 := by
    rw [(srt_perm _).length_eq]
    exact Nat.le_trans (List.length_filter_le _ _) (by rw [List.length_map]; exact h1)
  have s2 := evn_op (K := K) (C := C) (ss := [.drf y fp u.st, .val (.lst ((srt ((u.recs.map (·.1)).filter fun k => decide (0 ≤ k))).map D.int)), .no, .no]) (Ev.x (ev_var (i := 1) rfl)) (evn_lcR (n := (u.fresh : Int)) (j := 3) (g := fun d => match d with | .int i => .int (-1 - i) | d => d) (te := tOp rSubI (tUn rNeg (tC (.int 1))) (tVar 3)) (ta := tCons (tUn rNeg (tFld K (tVar 0) "fresh")) tNil)
    (ea_cons (Ev.is (ev_neg (ev_fresh T rfl)) (by show D.int (-(-(u.fresh : Int))) = _; rw [Int.neg_neg])) ea_nil) (by omega) (by simp) (fun i hi => by walk_at "ev")).x (rvn_cat (by rw [List.length_map, List.length_map, List.length_range, sizeLine_eq]; omega))
  have e2 : ((srt ((u.recs.map (·.1)).filter fun k => decide (0 ≤ k))).map D.int ++ (List.range (u.fresh : Int).toNat).map fun (i : Nat) => D.int (-1 - (i : Int))) = (pagesOf u).map D.int := by
    unfold pagesOf
    rw [List.map_append, List.map_map, Int.toNat_natCast]
    rfl
  have s3 := s2.ev.is (congrArg D.lst e2)
  refine do_seq (do_asg s3 ?_ (by simp))
  have hp : (pagesOf u).length ≤ 10000 := by
    unfold pagesOf
    rw [List.length_append, List.length_map, List.length_range]
    omega
  have hin : ∀ p ∈ pagesOf u, ∃ r, look u.recs p = some r := by
    intro p hp
    unfold pagesOf at hp
    rcases List.mem_append.mp hp with hp | hp
    · have := (srt_perm _).mem_iff.mp hp
      have := (List.mem_filter.mp this).1
      obtain ⟨q, hq, rfl⟩ := List.mem_map.mp this
      have h6 : (look u.recs q.1).isSome = true := by
        rw [← look_any]
        exact List.any_eq_true.mpr ⟨q, hq, by simp⟩
      exact Option.isSome_iff_exists.mp h6
    · obtain ⟨j, hj, rfl⟩ := List.mem_map.mp hp
      exact Option.isSome_iff_exists.mp (h5 j (List.mem_range.mp hj))
  have s4 := evn_lcL (K := K) (C := C) (ss := [.drf y fp u.st, .val (.lst ((pagesOf u).map D.int)), .no, .no]) (tl := tVar 1) (j := 2) (l := (pagesOf u).map D.int) (p := fun _ => true) (g := fun d => match d with | .int p => En.d ⟨p, look u.adrs p, (look u.recs p).getD (.free 0)⟩ | d => d) (tt := tYes)
    (te := tTup (tCons (tVar 2) (tCons (tDGet1 (tFld K (tVar 0) "addresses") (tVar 2)) (tCons (tDGet (tFld K (tVar 0) "records") (tVar 2)) tNil)))) (ev_var rfl) (by simp) (fun _ _ => et_yes) (fun d hd _ => by
      obtain ⟨p, hp, rfl⟩ := List.mem_map.mp hd
      obtain ⟨r, hr⟩ := hin p hp
      show Ev K C _ _ (En.d ⟨p, look u.adrs p, (look u.recs p).getD (.free 0)⟩)
      rw [hr]
      refine ev_tup (ea_cons (ev_var rfl) (ea_cons (Ev.is (ev_dget1 (l := mapV D.int u.adrs) (evx_adrs (s := u.st) T rfl) (ev_var rfl)) ?_) (ea_cons (ev_dget (l := mapV Rec.d u.recs) (evx_recs (s := u.st) T rfl) (ev_var rfl) (by rw [look_mapV, hr]; rfl)) ea_nil))) (by simp)
      rw [look_mapV]
      cases look u.adrs p <;> rfl) (by rw [List.length_map]; omega)
  refine do_ret (s4.ev.is ?_) ⟨rfl, rfl⟩
  rw [List.filter_eq_self.mpr (fun _ _ => rfl), List.map_map]
  unfold entriesL
  rw [List.map_map]
  rfl
theorem rv_eqP {p q : Option Int × Option Int} : RV K (rEqD K) (pD p) (pD q) (.bl (decide (p = q))) := by
  obtain ⟨p1, p2⟩ := p
  obtain ⟨q1, q2⟩ := q
  have sh : ∀ a b : Option Int, plainD (pD (a, b)) = true ∧ SeqAt.shaped (pyD (pD (a, b))) = true := fun a b => by cases a <;> cases b <;> exact ⟨rfl, rfl⟩
  have e : PyData.eqv (pyD (pD (p1, p2))) (pyD (pD (q1, q2))) = decide ((p1, p2) = (q1, q2)) := by
    cases p1 <;> cases p2 <;> cases q1 <;> cases q2 <;> simp [pD, oD, pyD, pyL, PyData.eqv, PyData.eqvAll, Bool.beq_eq_decide_eq, Bool.decide_and]
  have r := rv_eqD (K := K) (sh p1 p2).1 (sh q1 q2).1 (sh p1 p2).2 (sh q1 q2).2
  rw [e] at r
  exact r
theorem rv_neP {p q : Option Int × Option Int} : RV K (rNeD K) (pD p) (pD q) (.bl (decide (p ≠ q))) := by
  obtain ⟨p1, p2⟩ := p
  obtain ⟨q1, q2⟩ := q
  have sh : ∀ a b : Option Int, plainD (pD (a, b)) = true ∧ SeqAt.shaped (pyD (pD (a, b))) = true := fun a b => by cases a <;> cases b <;> exact ⟨rfl, rfl⟩
  have e : PyData.eqv (pyD (pD (p1, p2))) (pyD (pD (q1, q2))) = decide ((p1, p2) = (q1, q2)) := by
    cases p1 <;> cases p2 <;> cases q1 <;> cases q2 <;> simp [pD, oD, pyD, pyL, PyData.eqv, PyData.eqvAll, Bool.beq_eq_decide_eq, Bool.decide_and]
  have r := rv_neD (K := K) (sh p1 p2).1 (sh q1 q2).1 (sh p1 p2).2 (sh q1 q2).2
  rw [e, show (!decide ((p1, p2) = (q1, q2))) = decide ((p1, p2) ≠ (q1, q2)) from by simp] at r
  exact r
theorem find_none {n : Nat} {p : Nat → Bool} (h : ∀ j, j < n → p j = false) : (List.range n).find? p = none := by
  rw [List.find?_eq_none]
  intro x hx
  rw [h x (List.mem_range.mp hx)]
  simp
theorem find_at {n i : Nat} {p : Nat → Bool} (h : ∀ j, j < i → p j = false) (hi : i < n) (hp : p i = true) : (List.range n).find? p = some i := by
  rw [List.find?_range_eq_some]
  exact ⟨hp, List.mem_range.mpr hi, fun j hj => by rw [h j hj]; rfl⟩
theorem do_Draft_place_in_parent (T : Tx K mg C) (p : Nat × Step × Step) (h : u.path[p.1 + 1]? = some p.2.1 ∧ u.path[p.1]? = some p.2.2 ∧ p.2.2.rc.okB = true ∧ p.2.1.rc.live = true ∧ p.2.2.rc.live = true ∧ p.2.2.rc.isLeaf = false) :
    Do K C A B0 H0 (t_Draft_place_in_parent K) [.drf y fp u.st, .val (.int ((p.1 + 1 : Nat) : Int)), .no, .no, .no, .no, .no] nx bk ct (fun d ss => d = (match p.2.2.rc with | .inner _ lo hi ks ps => natO (placeIn lo hi ks ps p.2.1) | _ => .non) ∧ ss[0]? = some (.drf y fp u.st)) := by
  obtain ⟨j, t, q⟩ := p
  obtain ⟨h1, h2, h3, h4, h5, h6⟩ := h
  have h1 : u.path[j + 1]? = some t := h1
  have h2 : u.path[j]? = some q := h2
  have h3 : q.rc.okB = true := h3
  have h4 : t.rc.live = true := h4
  refine do_seq (do_asg (d := q.rc.d) (ix_call (ev_step T rfl (by walk_at "ev") (show ((j + 1 : Nat) : Int) - 1 = (j : Int) by omega) h2) rfl) ?_ (by simp))
  refine do_seq (do_asgG (d := t.d) (ev_step T rfl (ev_var rfl) rfl h1) (by show GOk K C A B0 H0 _ (.tup [.int t.page, .int t.addr, t.rc.d, .int t.ac]) _ _; walk_at "gs") ?_)
  cases hq : q.rc with
  | leaf lo hi ks vs => exact absurd h6 (by show ¬ q.rc.isLeaf = false; rw [hq]; simp [Rec.isLeaf])
  | free n => exact absurd h5 (by show ¬ q.rc.live = true; rw [hq]; simp [Rec.live])
  | inner lv lo hi ks ps =>
    rw [hq] at h3
    obtain ⟨_, q1, q2, _⟩ := inner_ok h3
    refine do_seq (do_forR1 (n := ps.length) (ea_cons (ev_call (Rec.inner lv lo hi ks ps) (ea_cons (ev_var rfl) ea_nil) rfl) ea_nil) (by omega)
      (fun i ss => (∃ x, ss = [.drf y fp u.st, .val (.int ((j + 1 : Nat) : Int)), .val (Rec.inner lv lo hi ks ps).d, .val (.int t.page), .val (.int t.ac), .val t.rc.d, x]) ∧ ∀ (k : Nat), k < i → (decide (ps[k]? = some t.page) && decide (childB lo hi ks k = t.rc.bd)) = false) ⟨⟨_, rfl⟩, fun k hk => absurd hk (Nat.not_lt_zero k)⟩ ?_ ?_)
    · rintro i ss hlt ⟨⟨x, rfl⟩, ha⟩
      have h7 : i < ps.length := by omega
      refine ⟨_, g_name (by simp), ?_⟩
      have b1 : Ev K C (tOp rEq (tOp (rIxT K) (tOp (rIxT K) (tVar 2) (tC (.int 5))) (tVar 6)) (tVar 3)) ([.drf y fp u.st, .val (.int ((j + 1 : Nat) : Int)), .val (Rec.inner lv lo hi ks ps).d, .val (.int t.page), .val (.int t.ac), .val t.rc.d, .val (.int (0 + i))]) (.bl (decide (ps[i]? = some t.page))) := by
        refine Ev.is (ev_op (d := .int ps[i]) (e := .int t.page) (Ev.x (ev_op (d := iL ps) (e := .int (0 + i)) (Ev.x (ix_call (ev_var rfl) rfl)) (Ev.x (ev_var rfl)) (rv_ixT (at_ints (by omega) (List.getElem?_eq_getElem h7))))) (Ev.x (ev_var rfl)) rv_eqi) ?_
        rw [List.getElem?_eq_getElem h7]
        simp
      refine do_if (et_and (et_test b1) fun _ => et_test (ev_op (Ev.x (ev_call (Rec.inner lv lo hi ks ps, i) (ea_cons (ev_var rfl) (ea_cons (Ev.is (ev_var rfl) (by simp)) ea_nil)) (show i ≤ ks.length by omega))) (Ev.x (ev_call t.rc (ea_cons (ev_var rfl) ea_nil) h4)) rv_eqP)) (fun hb => do_ret (ev_var rfl) ⟨?_, rfl⟩) (fun hb => do_next ⟨⟨_, rfl⟩, fun k hk => ?_⟩)
      · show D.int (0 + (i : Int)) = natO (placeIn lo hi ks ps t)
        unfold placeIn
        rw [find_at ha h7 hb]
        show D.int (0 + (i : Int)) = D.int i
        congr 1
        omega
      · by_cases e : k = i
        · rw [e]; exact hb
        · exact ha k (by omega)
    · rintro ss ⟨⟨x, rfl⟩, ha⟩
      refine do_ret ev_non ⟨?_, rfl⟩
      show D.non = natO (placeIn lo hi ks ps t)
      unfold placeIn
      rw [find_none fun k hk => ha k (by omega)]
      rfl
end
end Esp

/-! What the methods of Draft do, 2; plan. -/
namespace Esp
open PySem L2 PyProof.Rows PySem.Spec
local macro_rules | `(tactic| walk_at "ev") => `(tactic| repeat' (first
  | exact ev_int | exact ev_str | exact ev_bl | exact ev_non | exact ea_nil | exact eo_none | exact et_yes
  | exact ev_var rfl | exact evx_own rfl
  | apply ea_cons | apply eo_some | apply ev_tup (hl := by first | decide | (simp; done))
  | apply ev_op | apply ev_neg
  | apply ev_sl | apply ev_chain
  | apply ev_andV | apply ev_orV | apply ev_notV
  | apply et_test | apply et_B | apply et_not | apply et_and | apply et_or
  | exact rv_i | exact rv_b | exact rv_eqi | exact rv_nei | exact rv_eqs_t (by with_reducible rfl) | exact rv_eqs_f (by decide +kernel) | exact rv_nes_t (by with_reducible rfl) | exact rv_nes_f (by decide +kernel)
  | exact rv_isN | exact rv_notN
  | exact rv_ixT rfl | exact rv_ixL rfl | apply rv_ixT | apply rv_ixL
  | apply ev_cb (hr := rc_lenT) | apply ev_cb (hr := rc_lenL) | apply ev_cb (hr := rc_int) | apply ev_cb (hr := rc_tupT) | apply ev_cb (hr := rc_all)
  | apply Ev.x | (intro _)))
local macro_rules | `(tactic| walk_at "gs") => `(tactic| repeat' (first | exact gs_nil | apply gs_cons | exact g_name (by simp) | apply g_tup (hn := rfl)))
section
variable {K : PySem.W.Frag} {mg : Str → Option Value} {C : Addr} {A : List Addr} {B0 H0 B : Hp} {nx bk ct : List Sl → Prop} {ss : List Sl} {te ta tb : TE} {y : Addr} {fp : List Addr} {u : Dr} {i : Nat}
theorem small_le (h : u.small = true) : u.recs.length ≤ 5000 ∧ u.adrs.length ≤ 5000 ∧ u.fresh ≤ 5000 ∧ u.path.length ≤ 5000 := by
  unfold Dr.small at h
  simp only [Bool.and_eq_true, decide_eq_true_eq] at h
  exact h
theorem give_len (u : Dr) (t : Step) (r : Rec) : (u.give t r).recs.length ≤ u.recs.length + 1 ∧ (u.give t r).adrs.length ≤ u.adrs.length + 1 := ⟨put_len _ _ _, put_len _ _ _⟩
theorem add_len (u : Dr) (r : Rec) : (u.add r).recs.length ≤ u.recs.length + 1 ∧ (u.add r).adrs.length = u.adrs.length := ⟨put_len _ _ _, rfl⟩
theorem evt_big {r : Rec} {te : TE} (h : Ev K C te ss r.d) (hl : r.live = true) : EvT K C (tTest (tOp rGtI (tCall (sp_size_of K) [] E0 (tCons te tNil)) (tCall (sp_most_of K) [] E0 (tCons te tNil)))) ss (decide (mostOf r < r.size)) := by
  refine et_test (EvT.is' (ev_op (d := .int r.size) (e := .int (mostOf r)) (Ev.x (ev_call r (ea_cons h ea_nil) hl)) (Ev.x (ev_call r (ea_cons h ea_nil) trivial)) rv_b) ?_)
  simp
theorem do_Draft_unite_pair (T : Tx K mg C) (p : (Nat × Nat) × (Step × Rec) × (Step × Rec) × Res × Dr) (hs : u.small = true) (h : unitePair u p.1.1 p.1.2 p.2.1.1 p.2.1.2 p.2.2.1.1 p.2.2.1.2 = some p.2.2.2) :
    Do K C A B0 H0 (t_Draft_unite_pair K C) [.drf y fp u.st, .val (.int ((p.1.1 + 1 : Nat) : Int)), .val (.int (p.1.2 : Int)), .val (pairD p.2.1.1 p.2.1.2), .val (pairD p.2.2.1.1 p.2.2.1.2), .no, .no, .no, .no, .no] nx bk ct (fun d ss => d = p.2.2.2.1.d ∧ ss[0]? = some (.drf y fp p.2.2.2.2.st)) := by
  obtain ⟨⟨j, pl⟩, ⟨t, l⟩, ⟨w, r⟩, res, dr⟩ := p
  have h : unitePair u j pl t l w r = some (res, dr) := h
  obtain ⟨s1, s2, s3, s4⟩ := small_le hs
  cases e1 : u.path[j]? with
  | none => simp only [unitePair, e1] at h; cases h
  | some q =>
  cases e2 : r.bd.1 with
  | none => simp only [unitePair, e1, e2] at h; cases h
  | some m =>
  cases e3 : u.path[0]? with
  | none => simp only [unitePair, e1, e2, e3] at h; cases h
  | some t0 =>
  cases e4 : q.rc with
  | leaf => simp only [unitePair, e1, e2, e3, e4] at h; cases h
  | free => simp only [unitePair, e1, e2, e3, e4] at h; cases h
  | inner lv lo hi ks ps =>
  simp only [unitePair, e1, e2, e3, e4] at h
  split at h
  case isFalse => cases h
  case isTrue g =>
  simp only [Bool.and_eq_true, decide_eq_true_eq] at g
  obtain ⟨g1, g2, g3, g4, g5, g6, g7, g8, g9⟩ := g
  refine do_seq (do_asg (d := (Rec.inner lv lo hi ks ps).d) (Ev.is (ix_call (ev_step T rfl (by walk_at "ev") (show ((j + 1 : Nat) : Int) - 1 = (j : Int) by omega) e1) rfl) (by rw [e4])) ?_ (by simp))
  have hb : Ev K C (tOp (rIxT K) (tCall (sp_bounds_of K) [] E0 (tCons (tOp (rIxT K) (tVar 4) (tC (.int 1))) tNil)) (tC (.int 0))) [.drf y fp u.st, .val (.int ((j + 1 : Nat) : Int)), .val (.int (pl : Int)), .val (pairD t l), .val (pairD w r), .val (Rec.inner lv lo hi ks ps).d, .no, .no, .no, .no] (.int m) :=
    Ev.is (bd_0 (ix_call (ev_var rfl) rfl) g5) (by rw [e2]; rfl)
  refine do_seq (do_asg (ev_call (l, m, r) (ea_cons (ix_call (ev_var rfl) rfl) (ea_cons hb (ea_cons (ix_call (ev_var rfl) rfl) ea_nil))) ⟨g2, g3, g4, g5, g6, g7⟩) ?_ (by simp))
  refine do_seq (do_if (evt_big (ev_var rfl) g8) (fun hc => ?_) (fun hc => do_next ?_))
  · have hc := of_decide_eq_true hc
    rw [if_pos hc] at h
    cases e5 : cutR (joinR l m r) with
    | none => simp only [e5] at h; cases h
    | some abx =>
    obtain ⟨a, x, b⟩ := abx
    simp only [e5] at h
    split at h
    case isFalse => cases h
    case isTrue g =>
    simp only [Bool.and_eq_true] at g
    obtain ⟨k1, k2, k3⟩ := g
    cases h
    refine do_seq (do_asgG (d := .tup [a.d, .int x, b.d]) (ev_call (joinR l m r, a, x, b) (ea_cons (ev_var rfl) ea_nil) ⟨g7, g8, e5, k1, k2⟩) (by walk_at "gs") ?_)
    refine do_seq (do_dropM (evm_give t a rfl (ix_call (ev_var rfl) rfl) (ev_var rfl) (by omega) (by omega)) ?_)
    obtain ⟨l1, l2⟩ := give_len u t a
    refine do_seq (do_dropM (evm_give (u := u.give t a) w b rfl (ix_call (ev_var rfl) rfl) (ev_var rfl) (by omega) (by omega)) ?_)
    exact do_ret (ev_tup (ea_cons ev_str (ea_cons (ev_call (Rec.inner lv lo hi ks ps, pl, x) (ea_cons (ev_var rfl) (ea_cons (ev_var rfl) (ea_cons (ev_var rfl) ea_nil))) ⟨g1, g9, k3⟩) ea_nil)) (by simp)) ⟨rfl, rfl⟩
  · have hc := of_decide_eq_false hc
    rw [if_neg hc] at h
    split at h
    case isFalse => cases h
    case isTrue k1 =>
    refine do_seq (do_asg (ev_call (Rec.inner lv lo hi ks ps, pl) (ea_cons (ev_var rfl) (ea_cons (ev_var rfl) ea_nil)) ⟨g1, g9, k1⟩) ?_ (by simp))
    have fr : ∀ (ss : List Sl) (ta : TE) (z : Int), Ev K C ta ss (.int z) → Ev K C (tTup (tCons (tC (.str "free")) (tCons ta tNil))) ss (Rec.free z).d := fun ss ta z a => ev_tup (ea_cons ev_str (ea_cons a ea_nil)) (by simp)
    refine do_seq (do_dropM (evm_give w (.free w.page) rfl (ix_call (ev_var rfl) rfl) (fr _ _ _ (ix_call (ix_call (ev_var rfl) rfl) rfl)) (by omega) (by omega)) ?_)
    obtain ⟨l1, l2⟩ := give_len u w (.free w.page)
    have hsz : Ev K C (tOp rEq (tCall (sp_size_of K) [] E0 (tCons (tVar 5) tNil)) (tC (.int 1))) [.drf y fp (u.give w (.free w.page)).st, .val (.int ((j + 1 : Nat) : Int)), .val (.int (pl : Int)), .val (pairD t l), .val (pairD w r), .val (woChild lv lo hi ks ps pl).d, .val (joinR l m r).d, .no, .no, .no] (.bl (decide ((woChild lv lo hi ks ps pl).size = 1))) :=
      Ev.is (ev_op (d := .int (woChild lv lo hi ks ps pl).size) (e := .int 1) (Ev.x (ev_call (woChild lv lo hi ks ps pl) (ea_cons (ev_var rfl) ea_nil) rfl)) (Ev.x ev_int) rv_eqi) (by congr 1; simp; omega)
    refine do_seq (do_if (b' := decide (j = 0) && decide ((woChild lv lo hi ks ps pl).size = 1)) (et_and (et_test (EvT.is' (ev_op (d := .int ((j + 1 : Nat) : Int)) (e := .int 1) (Ev.x (ev_var rfl)) (Ev.x ev_int) rv_eqi) (by simp; omega))) fun _ => et_test hsz) (fun hd => ?_) (fun hd => do_next ?_))
    · have hd : j = 0 ∧ (woChild lv lo hi ks ps pl).size = 1 := by simpa using hd
      rw [if_pos hd] at h
      cases h
      refine do_seq (do_dropM (evm_give (u := u.give w (.free w.page)) t (.free t.page) rfl (ix_call (ev_var rfl) rfl) (fr _ _ _ (ix_call (ix_call (ev_var rfl) rfl) rfl)) (by omega) (by omega)) ?_)
      obtain ⟨l3, l4⟩ := give_len (u.give w (.free w.page)) t (.free t.page)
      refine do_seq (do_dropM (evm_give (u := (u.give w (.free w.page)).give t (.free t.page)) t0 (joinR l m r) rfl (ev_step (u := (u.give w (.free w.page)).give t (.free t.page)) T rfl ev_int (j := 0) rfl e3) (ev_var rfl) (by omega) (by omega)) ?_)
      exact do_ret (ev_tup (ea_cons ev_str (ea_cons ev_non ea_nil)) (by simp)) ⟨rfl, rfl⟩
    · have hd : ¬ (j = 0 ∧ (woChild lv lo hi ks ps pl).size = 1) := by
        intro z
        simp [z.1, z.2] at hd
      rw [if_neg hd] at h
      cases h
      refine do_seq (do_dropM (evm_give (u := u.give w (.free w.page)) t (joinR l m r) rfl (ix_call (ev_var rfl) rfl) (ev_var rfl) (by omega) (by omega)) ?_)
      exact do_ret (ev_tup (ea_cons ev_str (ea_cons (ev_var rfl) ea_nil)) (by simp)) ⟨rfl, rfl⟩
theorem evm_place {t q : Step} {j : Nat} {lv : Int} {lo hi : Option Int} {ks ps : List Int} {tb : TE} (h : ss[0]? = some (.drf y fp u.st)) (hi' : Ev K C tb ss (.int ((j + 1 : Nat) : Int))) (h1 : u.path[j + 1]? = some t) (h2 : u.path[j]? = some q) (h3 : q.rc = .inner lv lo hi ks ps) (h4 : (Rec.inner lv lo hi ks ps).okB = true) (h5 : t.rc.live = true) :
    EvM K C (tMeth C "place_in_parent" (sp_Draft_place_in_parent K C) [] E0 (tVar 0) (tCons tb tNil)) ss (natO (placeIn lo hi ks ps t)) (ss.set 0 (.drf y fp u.st)) := by
  have z := evm_meth (K := K) (C := C) (enc := fun p : Nat × Step × Step => [.int ((p.1 + 1 : Nat) : Int)]) (dom := fun s p => s.path[p.1 + 1]? = some p.2.1 ∧ s.path[p.1]? = some p.2.2 ∧ p.2.2.rc.okB = true ∧ p.2.1.rc.live = true ∧ p.2.2.rc.live = true ∧ p.2.2.rc.isLeaf = false)
    (fD := fun _ p => match p.2.2.rc with | .inner _ lo hi ks ps => natO (placeIn lo hi ks ps p.2.1) | _ => .non) (gD := fun s _ => s) (m := "place_in_parent") (E := E0) (t := tCons tb tNil) (j, t, q) h (by decide +kernel) (ea_cons hi' ea_nil) ⟨h1, h2, by rw [h3]; exact h4, h5, by rw [h3]; rfl, by rw [h3]; rfl⟩
  have e : (match (j, t, q).2.2.rc with | .inner _ lo hi ks ps => natO (placeIn lo hi ks ps (j, t, q).2.1) | _ => .non) = natO (placeIn lo hi ks ps t) := by
    show (match q.rc with | .inner _ lo hi ks ps => natO (placeIn lo hi ks ps t) | _ => .non) = _
    rw [h3]
  rw [← e]
  exact z
theorem do_Draft_divide (T : Tx K mg C) (p : Nat × Rec × Res × Dr) (hs : u.small = true) (hl : p.2.1.live = true) (h : divide u p.1 p.2.1 = some p.2.2) :
    Do K C A B0 H0 (t_Draft_divide K C) [.drf y fp u.st, .val (.int (p.1 : Int)), .val p.2.1.d, .no, .no, .no, .no, .no, .no, .no] nx bk ct (fun d ss => d = p.2.2.1.d ∧ ss[0]? = some (.drf y fp p.2.2.2.st)) := by
  obtain ⟨i, r, res, dr⟩ := p
  have hl : r.live = true := hl
  have h : divide u i r = some (res, dr) := h
  obtain ⟨s1, s2, s3, s4⟩ := small_le hs
  cases e1 : cutR r with
  | none => simp only [divide, e1] at h; cases h
  | some amb =>
  obtain ⟨a, m, b⟩ := amb
  simp only [divide, e1] at h
  split at h
  case isFalse => cases h
  case isTrue g =>
  simp only [Bool.and_eq_true] at g
  obtain ⟨g1, g2, g3⟩ := g
  refine do_seq (do_asgG (d := .tup [a.d, .int m, b.d]) (ev_call (r, a, m, b) (ea_cons (ev_var rfl) ea_nil) ⟨g1, hl, e1, g2, g3⟩) (by walk_at "gs") ?_)
  cases i with
  | zero =>
    simp only at h
    cases e2 : u.path[0]? with
    | none => simp only [e2] at h; cases h
    | some t =>
    simp only [e2] at h
    split at h
    case isFalse => cases h
    case isTrue k1 =>
    cases h
    obtain ⟨l1, l2⟩ := add_len u a
    obtain ⟨l3, l4⟩ := add_len (u.add a) b
    refine do_seq (do_ift (et_test (EvT.is' (by walk_at "ev") (by rfl))) ?_)
    refine do_seq (do_asgM (d := .tup [.int (-((u.fresh + 1 : Nat) : Int)), .int (-((u.fresh + 1 + 1 : Nat) : Int))]) (ss' := [.drf y fp ((u.add a).add b).st, .val (.int ((0 : Nat) : Int)), .val r.d, .val a.d, .val (.int m), .val b.d, .no, .no, .no, .no]) ?_ (by simp) ?_)
    · intro A B0 H0 B H σ O Q q
      refine evm_add (u := u) a rfl (ev_var rfl) (by omega) A B0 H0 B H σ O _ fun v1 B1 H1 x1 O1 r1 => ?_
      refine evm_add (u := u.add a) b rfl (ev_var rfl) (by omega) A B0 H0 B1 H1 σ O1 _ fun v2 B2 H2 x2 O2 r2 => ?_
      refine ⟨by show 2 ≤ sizeLine; decide, fun pz hz => ?_⟩
      refine tup_new (B := B2) (l := [.int (-((u.fresh + 1 : Nat) : Int)), .int (-((u.fresh + 1 + 1 : Nat) : Int))]) (fun v B' H' g r => ?_) (.cons (r1.mono x2) (.cons r2 .nil)) O2.ex hz
      exact q v B' H' ((x1.trans x2).trans g.b) (O2.grow g) r
    refine do_seq (do_asg (d := .int (r.lv + 1)) (ev_op (d := .int r.lv) (e := .int 1) (Ev.x (ev_call r (ea_cons (ev_var rfl) ea_nil) trivial)) (Ev.x ev_int) rv_i) ?_ (by simp))
    refine do_seq (do_dropM (evm_give (u := (u.add a).add b) t (Rec.inner (r.lv + 1) none none [m] [-((u.fresh + 1 : Nat) : Int), -((u.fresh + 1 + 1 : Nat) : Int)]) rfl (ev_step (u := (u.add a).add b) T rfl ev_int (j := 0) rfl e2)
      (ev_call (r.lv + 1, none, none, [m], [-((u.fresh + 1 : Nat) : Int), -((u.fresh + 1 + 1 : Nat) : Int)]) (ea_cons (ev_var rfl) (ea_cons ev_non (ea_cons ev_non (ea_cons (ev_one (ev_var rfl)) (ea_cons (ev_var rfl) ea_nil))))) k1) (by omega) (by omega)) ?_)
    exact do_ret (ev_tup (ea_cons ev_str (ea_cons ev_non ea_nil)) (by simp)) ⟨rfl, rfl⟩
  | succ j =>
    simp only at h
    cases e2 : u.path[j + 1]? with
    | none => simp only [e2] at h; cases h
    | some t =>
    cases e3 : u.path[j]? with
    | none => simp only [e2, e3] at h; cases h
    | some q =>
    cases e4 : q.rc with
    | leaf => simp only [e2, e3, e4] at h; cases h
    | free => simp only [e2, e3, e4] at h; cases h
    | inner lv lo hi ks ps =>
    simp only [e2, e3, e4] at h
    split at h
    case isFalse => cases h
    case isTrue k1 =>
    simp only [Bool.and_eq_true] at k1
    obtain ⟨k1, k2⟩ := k1
    refine do_seq (do_iff (et_test (EvT.is' (ev_op (d := .int ((j + 1 : Nat) : Int)) (e := .int 0) (Ev.x (ev_var rfl)) (Ev.x ev_int) rv_eqi) (by simp; omega))) (do_next ?_))
    refine do_seq (do_asgM (evm_place rfl (ev_var rfl) e2 e3 e4 k1 k2) (by simp) ?_)
    cases e5 : placeIn lo hi ks ps t with
    | none =>
      simp only [e5] at h
      cases h
      exact do_seq (do_ift (et_test (by walk_at "ev")) (do_ret (ev_tup (ea_cons ev_str (ea_cons ev_non ea_nil)) (by simp)) ⟨rfl, rfl⟩))
    | some pl =>
      simp only [e5] at h
      split at h
      case isFalse => cases h
      case isTrue k3 =>
      cases h
      obtain ⟨l1, l2⟩ := give_len u t a
      refine do_seq (do_iff (et_test (by walk_at "ev")) (do_next ?_))
      refine do_seq (do_dropM (evm_give t a rfl (ev_step T rfl (ev_var rfl) rfl e2) (ev_var rfl) (by omega) (by omega)) ?_)
      refine do_seq (do_asgM (evm_add (u := u.give t a) b rfl (ev_var rfl) (by omega)) (by simp) ?_)
      refine do_ret (ev_tup (ea_cons ev_str (ea_cons (ev_call (Rec.inner lv lo hi ks ps, pl, m, -((u.fresh + 1 : Nat) : Int)) (ea_cons (Ev.is (ix_call (ev_step (u := (u.give t a).add b) T rfl (by walk_at "ev") (show ((j + 1 : Nat) : Int) - 1 = (j : Int) by omega) e3) rfl) (by rw [e4])) (ea_cons (ev_var rfl) (ea_cons (ev_var rfl) (ea_cons (ev_var rfl) ea_nil)))) ⟨k1, k3⟩) ea_nil)) (by simp)) ⟨rfl, rfl⟩
end
end Esp

/-! unite, settle, Draft.__init__, plan. -/
namespace Esp
open PySem L2 PyProof.Rows PySem.Spec
local macro_rules | `(tactic| walk_at "ev") => `(tactic| repeat' (first
  | exact ev_int | exact ev_str | exact ev_bl | exact ev_non | exact ea_nil | exact eo_none | exact et_yes
  | exact ev_var rfl | exact evx_own rfl
  | apply ea_cons | apply eo_some | apply ev_tup (hl := by first | decide | (simp; done))
  | apply ev_op | apply ev_neg
  | apply ev_sl | apply ev_chain
  | apply ev_andV | apply ev_orV | apply ev_notV
  | apply et_test | apply et_B | apply et_not | apply et_and | apply et_or
  | exact rv_i | exact rv_b | exact rv_eqi | exact rv_nei | exact rv_eqs_t (by with_reducible rfl) | exact rv_eqs_f (by decide +kernel) | exact rv_nes_t (by with_reducible rfl) | exact rv_nes_f (by decide +kernel)
  | exact rv_isN | exact rv_notN
  | exact rv_ixT rfl | exact rv_ixL rfl | apply rv_ixT | apply rv_ixL
  | apply ev_cb (hr := rc_lenT) | apply ev_cb (hr := rc_lenL) | apply ev_cb (hr := rc_int) | apply ev_cb (hr := rc_tupT) | apply ev_cb (hr := rc_all)
  | apply Ev.x | (intro _)))
local macro_rules | `(tactic| walk_at "gs") => `(tactic| repeat' (first | exact gs_nil | apply gs_cons | exact g_name (by simp) | apply g_tup (hn := rfl)))
section
variable {K : PySem.W.Frag} {mg : Str → Option Value} {C : Addr} {A : List Addr} {B0 H0 B : Hp} {nx bk ct : List Sl → Prop} {rt : D → List Sl → Prop} {ss : List Sl} {te ta tb : TE} {y : Addr} {fp : List Addr} {u : Dr} {i : Nat}
theorem do_Draft_unite (T : Tx K mg C) (p : Nat × Rec × Res × Dr) (hs : u.small = true) (h : unite u p.1 p.2.1 = some p.2.2) :
    Do K C A B0 H0 (t_Draft_unite K C) [.drf y fp u.st, .val (.int ((p.1 + 1 : Nat) : Int)), .val p.2.1.d, .no, .no, .no, .no, .no, .no] nx bk ct (fun d ss => d = p.2.2.1.d ∧ ss[0]? = some (.drf y fp p.2.2.2.st)) := by
  obtain ⟨j, r, res, dr⟩ := p
  have h : unite u j r = some (res, dr) := h
  cases e2 : u.path[j + 1]? with
  | none => simp only [unite, e2] at h; cases h
  | some t =>
  cases e3 : u.path[j]? with
  | none => simp only [unite, e2, e3] at h; cases h
  | some q =>
  cases e4 : q.rc with
  | leaf => simp only [unite, e2, e3, e4] at h; cases h
  | free => simp only [unite, e2, e3, e4] at h; cases h
  | inner lv lo hi ks ps =>
  simp only [unite, e2, e3, e4] at h
  split at h
  case isFalse => cases h
  case isTrue k1 =>
  simp only [Bool.and_eq_true] at k1
  obtain ⟨k1, k2⟩ := k1
  obtain ⟨_, q1, q2, _⟩ := inner_ok k1
  refine do_seq (do_asgM (evm_place rfl (ev_var rfl) e2 e3 e4 k1 k2) (by simp) ?_)
  have stl : ∀ (ss : List Sl), Ev K C (tTup (tCons (tC (.str "stale")) (tCons (tC .non) tNil))) ss Res.stale.d := fun ss => ev_tup (ea_cons ev_str (ea_cons ev_non ea_nil)) (by simp)
  cases e5 : placeIn lo hi ks ps t with
  | none =>
    simp only [e5] at h
    cases h
    exact do_seq (do_ift (et_test (by walk_at "ev")) (do_ret (stl _) ⟨rfl, rfl⟩))
  | some pl =>
  simp only [e5] at h
  refine do_seq (do_iff (et_test (by walk_at "ev")) (do_next ?_))
  refine do_seq (do_asg (d := (Rec.inner lv lo hi ks ps).d) (Ev.is (ix_call (ev_step T rfl (by walk_at "ev") (show ((j + 1 : Nat) : Int) - 1 = (j : Int) by omega) e3) rfl) (by rw [e4])) ?_ (by simp))
  refine do_seq (do_asg (ev_op (d := .int (pl : Int)) (e := .int 1) (Ev.x (ev_var rfl)) (Ev.x ev_int) rv_i) ?_ (by simp))
  -- other
  generalize ho : (if pl = 0 then 1 else pl - 1) = o at h
  have tail : Do K C A B0 H0 (tSeq (tAsg (tOp (rIxT K) (tOp (rIxT K) (tVar 4) (tC (.int 5))) (tVar 5)) (gName 6)) (tSeq (tIfS (tB (tDNotIn (tVar 6) (tFld K (tVar 0) "siblings"))) (tRet (tTup (tCons (tC (.str "read")) (tCons (tVar 6) tNil)))) tNext) (tSeq (tAsg (tDGet (tFld K (tVar 0) "siblings") (tVar 6)) (gName 7)) (tSeq (tIfS (tTest (tOp rNe (tCall (sp_level_of K) [] E0 (tCons (tOp (rIxT K) (tVar 7) (tC (.int 2))) tNil)) (tCall (sp_level_of K) [] E0 (tCons (tVar 2) tNil)))) (tRet (tTup (tCons (tC (.str "stale")) (tCons (tC .non) tNil)))) tNext) (tSeq (tIfS (tTest (tOp (rNeD K) (tCall (sp_bounds_of K) [] E0 (tCons (tOp (rIxT K) (tVar 7) (tC (.int 2))) tNil)) (tCall (sp_child_bounds K) [] E0 (tCons (tVar 4) (tCons (tVar 5) tNil))))) (tRet (tTup (tCons (tC (.str "stale")) (tCons (tC .non) tNil)))) tNext) (tSeq (tAsg (tOp (rIxL K) (tFld K (tVar 0) "path") (tVar 1)) (gName 8)) (tSeq (tIfS (tTest (tOp rLtI (tVar 5) (tVar 3))) (tRet (tMeth C "unite_pair" (sp_Draft_unite_pair K C) [] E0 (tVar 0) (tCons (tVar 1) (tCons (tVar 3) (tCons (tTup (tCons (tVar 7) (tCons (tOp (rIxT K) (tVar 7) (tC (.int 2))) tNil))) (tCons (tTup (tCons (tVar 8) (tCons (tVar 2) tNil))) tNil)))))) tNext) (tRet (tMeth C "unite_pair" (sp_Draft_unite_pair K C) [] E0 (tVar 0) (tCons (tVar 1) (tCons (tVar 5) (tCons (tTup (tCons (tVar 8) (tCons (tVar 2) tNil))) (tCons (tTup (tCons (tVar 7) (tCons (tOp (rIxT K) (tVar 7) (tC (.int 2))) tNil))) tNil)))))))))))))
      [.drf y fp u.st, .val (.int ((j + 1 : Nat) : Int)), .val r.d, .val (.int (pl : Int)), .val (Rec.inner lv lo hi ks ps).d, .val (.int (o : Int)), .no, .no, .no] nx bk ct (fun d ss => d = res.d ∧ ss[0]? = some (.drf y fp dr.st)) := by
    cases e6 : ps[o]? with
    | none => simp only [e6] at h; cases h
    | some page =>
    simp only [e6] at h
    refine do_seq (do_asg (d := .int page) (ev_op (d := iL ps) (e := .int (o : Int)) (Ev.x (ix_call (ev_var rfl) rfl)) (Ev.x (ev_var rfl)) (rv_ixT (at_ints rfl e6))) ?_ (by simp))
    have hin : ∀ ss : List Sl, ss[0]? = some (.drf y fp u.st) → ss[6]? = some (.val (.int page)) → EvT K C (tB (tDNotIn (tVar 6) (tFld K (tVar 0) "siblings"))) ss (!(look u.sib page).isSome) := fun ss h1 h2 => by
      have z := ev_dnin (K := K) (C := C) (ss := ss) (l := mapV Step.d u.sib) (ev_var h2) (Ev.x (ev_sib (s := u.st) T h1))
      rw [look_mapV, Option.isSome_map] at z
      exact et_B z
    cases e7 : look u.sib page with
    | none =>
      simp only [e7] at h
      cases h
      exact do_seq (do_ift (EvT.is (hin _ rfl rfl) (by rw [e7]; rfl)) (do_ret (ev_tup (ea_cons ev_str (ea_cons (ev_var rfl) ea_nil)) (by simp)) ⟨rfl, rfl⟩))
    | some b =>
    simp only [e7] at h
    refine do_seq (do_iff (EvT.is (hin _ rfl rfl) (by rw [e7]; rfl)) (do_next ?_))
    refine do_seq (do_asg (d := b.d) (ev_dget (l := mapV Step.d u.sib) (Ev.x (ev_sib (s := u.st) T rfl)) (ev_var rfl) (by rw [look_mapV, e7]; rfl)) ?_ (by simp))
    have hlv : ∀ (ss : List Sl), ss[7]? = some (.val b.d) → ss[2]? = some (.val r.d) → EvT K C (tTest (tOp rNe (tCall (sp_level_of K) [] E0 (tCons (tOp (rIxT K) (tVar 7) (tC (.int 2))) tNil)) (tCall (sp_level_of K) [] E0 (tCons (tVar 2) tNil)))) ss (decide (b.rc.lv ≠ r.lv)) := fun ss h1 h2 =>
      et_test (ev_op (d := .int b.rc.lv) (e := .int r.lv) (Ev.x (ev_call b.rc (ea_cons (ix_call (ev_var h1) rfl) ea_nil) trivial)) (Ev.x (ev_call r (ea_cons (ev_var h2) ea_nil) trivial)) rv_nei)
    by_cases c1 : b.rc.lv = r.lv
    · rw [if_pos c1] at h
      refine do_seq (do_iff (EvT.is (hlv _ rfl rfl) (decide_eq_false (fun z => z c1))) (do_next ?_))
      split at h
      case isFalse => cases h
      case isTrue c2 =>
      have hbd : ∀ (ss : List Sl), ss[7]? = some (.val b.d) → ss[4]? = some (.val (Rec.inner lv lo hi ks ps).d) → ss[5]? = some (.val (.int (o : Int))) → EvT K C (tTest (tOp (rNeD K) (tCall (sp_bounds_of K) [] E0 (tCons (tOp (rIxT K) (tVar 7) (tC (.int 2))) tNil)) (tCall (sp_child_bounds K) [] E0 (tCons (tVar 4) (tCons (tVar 5) tNil))))) ss (decide (b.rc.bd ≠ childB lo hi ks o)) := fun ss h1 h2 h3 =>
        et_test (ev_op (Ev.x (ev_call b.rc (ea_cons (ix_call (ev_var h1) rfl) ea_nil) c2.1)) (Ev.x (ev_call (Rec.inner lv lo hi ks ps, o) (ea_cons (ev_var h2) (ea_cons (ev_var h3) ea_nil)) c2.2)) rv_neP)
      by_cases c3 : b.rc.bd = childB lo hi ks o
      · rw [if_pos c3] at h
        refine do_seq (do_iff (EvT.is (hbd _ rfl rfl rfl) (decide_eq_false (fun z => z c3))) (do_next ?_))
        refine do_seq (do_asg (ev_step T rfl (ev_var rfl) rfl e2) ?_ (by simp))
        have pr : ∀ (ss : List Sl) (ta tb : TE) (s : Step) (x : Rec), Ev K C ta ss s.d → Ev K C tb ss x.d → Ev K C (tTup (tCons ta (tCons tb tNil))) ss (pairD s x) := fun ss ta tb s x a b => ev_tup (ea_cons a (ea_cons b ea_nil)) (by simp)
        by_cases c4 : pl = 0
        · rw [if_pos c4] at h
          rw [if_pos c4] at ho
          subst ho
          refine do_seq (do_iff (et_test (EvT.is' (ev_op (d := .int ((1 : Nat) : Int)) (e := .int (pl : Int)) (Ev.x (ev_var rfl)) (Ev.x (ev_var rfl)) rv_b) (decide_eq_false (by rw [c4]; omega)))) (do_next ?_))
          exact do_retM (evm_meth ((j, 1), (t, r), (b, b.rc), res, dr) rfl (by decide +kernel) (ea_cons (ev_var rfl) (ea_cons (ev_var rfl) (ea_cons (pr _ _ _ t r (ev_var rfl) (ev_var rfl)) (ea_cons (pr _ _ _ b b.rc (ev_var rfl) (ix_call (ev_var rfl) rfl)) ea_nil)))) ⟨hs, h⟩) ⟨rfl, rfl⟩
        · rw [if_neg c4] at h
          rw [if_neg c4] at ho
          refine do_seq (do_ift (et_test (EvT.is' (ev_op (d := .int (o : Int)) (e := .int (pl : Int)) (Ev.x (ev_var rfl)) (Ev.x (ev_var rfl)) rv_b) (decide_eq_true (by omega)))) ?_)
          exact do_retM (evm_meth ((j, pl), (b, b.rc), (t, r), res, dr) rfl (by decide +kernel) (ea_cons (ev_var rfl) (ea_cons (ev_var rfl) (ea_cons (pr _ _ _ b b.rc (ev_var rfl) (ix_call (ev_var rfl) rfl)) (ea_cons (pr _ _ _ t r (ev_var rfl) (ev_var rfl)) ea_nil)))) ⟨hs, h⟩) ⟨rfl, rfl⟩
      · rw [if_neg c3] at h
        cases h
        exact do_seq (do_ift (EvT.is (hbd _ rfl rfl rfl) (decide_eq_true c3)) (do_ret (stl _) ⟨rfl, rfl⟩))
    · rw [if_neg c1] at h
      cases h
      exact do_seq (do_ift (EvT.is (hlv _ rfl rfl) (decide_eq_true c1)) (do_ret (stl _) ⟨rfl, rfl⟩))
  by_cases c4 : pl = 0
  · subst c4
    refine do_seq (do_ift (et_test (EvT.is' (ev_op (d := .int ((0 : Nat) : Int)) (e := .int 0) (Ev.x (ev_var rfl)) (Ev.x ev_int) rv_eqi) rfl)) (do_asg ev_int ?_ (by simp)))
    rw [if_pos rfl] at ho
    subst ho
    exact tail
  · refine do_seq (do_iff (et_test (EvT.is' (ev_op (d := .int (pl : Int)) (e := .int 0) (Ev.x (ev_var rfl)) (Ev.x ev_int) rv_eqi) (decide_eq_false (by omega)))) (do_next ?_))
    rw [if_neg c4] at ho
    have e : (pl : Int) - 1 = (o : Int) := by omega
    rw [e]
    exact tail
theorem do_Draft_settle (T : Tx K mg C) (p : Nat × Rec × Res × Dr) (h : settle u p.1 p.2.1 = some p.2.2) :
    Do K C A B0 H0 (t_Draft_settle K C) [.drf y fp u.st, .val (.int (p.1 : Int)), .val p.2.1.d] nx bk ct (fun d ss => d = p.2.2.1.d ∧ ss[0]? = some (.drf y fp p.2.2.2.st)) := by
  obtain ⟨i, r, res, dr⟩ := p
  have h : settle u i r = some (res, dr) := h
  unfold settle at h
  split at h
  case isFalse => cases h
  case isTrue g =>
  simp only [Bool.and_eq_true] at g
  obtain ⟨hs, hl⟩ := g
  obtain ⟨s1, s2, s3, s4⟩ := small_le hs
  refine do_seq (do_if (evt_big (ev_var rfl) hl) (fun hc => ?_) (fun hc => do_next ?_))
  · rw [if_pos (of_decide_eq_true hc)] at h
    exact do_retM (evm_meth (i, r, res, dr) rfl (by decide +kernel) (ea_cons (ev_var rfl) (ea_cons (ev_var rfl) ea_nil)) ⟨hs, hl, h⟩) ⟨rfl, rfl⟩
  · rw [if_neg (of_decide_eq_false hc)] at h
    have hsz : Ev K C (tOp rLtI (tCall (sp_size_of K) [] E0 (tCons (tVar 2) tNil)) (tC (.int 2))) [.drf y fp u.st, .val (.int (i : Int)), .val r.d] (.bl (decide (r.size < 2))) :=
      Ev.is (ev_op (d := .int r.size) (e := .int 2) (Ev.x (ev_call r (ea_cons (ev_var rfl) ea_nil) hl)) (Ev.x ev_int) rv_b) (by congr 1; simp; omega)
    have last : ∀ t, u.path[i]? = some t → Do K C A B0 H0 (tSeq (tDrop (tMeth C "give" (sp_Draft_give K C) [] E0 (tVar 0) (tCons (tOp (rIxL K) (tFld K (tVar 0) "path") (tVar 1)) (tCons (tVar 2) tNil)))) (tRet (tTup (tCons (tC (.str "done")) (tCons (tC .non) tNil))))) [.drf y fp u.st, .val (.int (i : Int)), .val r.d] nx bk ct (fun d ss => d = Res.done.d ∧ ss[0]? = some (.drf y fp (u.give t r).st)) := fun t ht =>
      do_seq (do_dropM (evm_give t r rfl (ev_step T rfl (ev_var rfl) rfl ht) (ev_var rfl) (by omega) (by omega)) (do_ret (ev_tup (ea_cons ev_str (ea_cons ev_non ea_nil)) (by simp)) ⟨rfl, rfl⟩))
    cases i with
    | zero =>
      simp only at h
      cases e : u.path[0]? with
      | none => simp only [e] at h; cases h
      | some t =>
        simp only [e] at h
        cases h
        refine do_seq (do_iff (et_and (a := false) (b := false) (et_test (EvT.is' (ev_op (d := .int ((0 : Nat) : Int)) (e := .int 0) (Ev.x (ev_var rfl)) (Ev.x ev_int) rv_b) rfl)) (fun z => nomatch z)) (do_next ?_))
        exact last t e
    | succ j =>
      simp only at h
      have h1 : EvT K C (tTest (tOp rGtI (tVar 1) (tC (.int 0)))) [.drf y fp u.st, .val (.int ((j + 1 : Nat) : Int)), .val r.d] true := et_test (EvT.is' (ev_op (d := .int ((j + 1 : Nat) : Int)) (e := .int 0) (Ev.x (ev_var rfl)) (Ev.x ev_int) rv_b) (decide_eq_true (by omega)))
      refine do_seq (do_if (b' := true && decide (r.size < 2)) (et_and h1 fun _ => et_test hsz) (fun hd => ?_) (fun hd => do_next ?_))
      · rw [if_pos (of_decide_eq_true hd)] at h
        exact do_retM (evm_meth (j, r, res, dr) rfl (by decide +kernel) (ea_cons (ev_var rfl) (ea_cons (ev_var rfl) ea_nil)) ⟨hs, h⟩) ⟨rfl, rfl⟩
      · rw [if_neg (of_decide_eq_false hd)] at h
        cases e : u.path[j + 1]? with
        | none => simp only [e] at h; cases h
        | some t =>
          simp only [e] at h
          cases h
          exact last t e
/-! ### Draft(..) -/
theorem do_mk {t : TA} {E : XK} {p s : D} (h : EvA K C t ss [p, s]) (hi : i < ss.length) (hn : ∀ y fp, nx (ss.set i (.drf y fp ⟨p, s, [], [], 0⟩))) : Do K C A B0 H0 (tAsg (tMake C (sp_Draft___init__ K C) [] E t) (gName i)) ss nx bk ct rt := fun E' B H σ O a b c r =>
  h A B0 H0 B H σ O _ fun vs B1 H1 g1 r1 => by
    intro x dx hx hdx hne
    have O1 := O.grow g1
    have ex2 : Ex H1 (upd (upd H1 dx (.own x)) x (.ins C dx [])) := fun q o e => by rw [upd_ne (ne_of_none e hx), upd_ne (ne_of_none e hdx)]; exact e
    refine ⟨B1, x, dx, p, s, vs, O1.ex.trans ex2, by rw [List.append_nil], upd_same, none_b O1.ex hx, r1, fun H' fp' g2 dr hf => ⟨rfl, ?_⟩⟩
    obtain ⟨fq, OF⟩ := id O1
    have n0 : ∀ z, H1 z = none → H0 z = none := fun z hz => by
      by_cases w : H0 z = none
      · exact w
      · exact (OF.gr.k z w hz).elim
    have n1 : ∀ z ∈ fp', H1 z = none := fun z hz => by
      rcases (hf z hz).2 with rfl | w
      · exact hx
      · by_cases q : H1 z = none
        · exact q
        · cases q2 : H1 z with
          | none => rfl
          | some o => rw [ex2 z o q2] at w; cases w
    have nn : ∀ z ∈ fp', H' z ≠ none := by
      obtain ⟨dx', pr, pa, vp, vs', kr, ka, rfl, q1, q2, q3, _⟩ := dr.all
      intro z hz
      simp at hz
      rcases hz with rfl | rfl | rfl
      · rw [q1]; simp
      · rw [q2]; simp
      · rw [q3]; simp
    refine a B1 H' _ _ g1.b ⟨_, OF.change hi fp' (.drf x fp' ⟨p, s, [], [], 0⟩) (.ref x) (Same.refl B1) g2.bh (fun z o _ e => g2.h z o (by simp; exact ne_of_none e hx) (ex2 z o e)) (fun z n => g2.k z (by
      cases q : H1 z with
      | none => exact (n q).elim
      | some o => rw [ex2 z o q]; simp)) (fun z q1 q2 => (q2 q1).elim) ⟨rfl, rfl, dr⟩ fun z hz => ⟨(hf z hz).1, nn z hz, .inr (n0 z (n1 z hz)), .inr (n1 z hz)⟩⟩ (hn x fp')
/-- the body of Draft.__init__ -/
theorem raw_init (T : Tx K mg C) {vs : List V} {H : Hp} {Q : VK} {E : XK} (h : sp_Draft___init__ K C vs H Q E) : t_Draft___init__ K { nx := fun _ H' => Q .non H', rt := Q } (L2.start ["self", "path", "siblings"] vs) H := by
  obtain ⟨B, x, dx, p, s, us, ex, rfl, hx, hb, r, k⟩ := h
  cases r with
  | cons r1 r2 =>
  cases r2 with
  | cons r2 r3 =>
  cases r3
  rename_i vp vs
  have nx0 : H x ≠ none := by rw [hx]; simp
  refine ⟨vp, rfl, _, rfl, x, C, dx, [], rfl, hx, T.cls, T.a1, by show 0 < 1000; decide, ?_⟩
  refine ⟨vs, rfl, _, rfl, x, C, dx, _, rfl, upd_same, T.cls, T.a2, by show 1 < 1000; decide, ?_⟩
  refine fun pr hpr => ?_
  have n1 : x ≠ pr := fun e => by rw [← e, upd_same] at hpr; cases hpr
  refine ⟨_, rfl, x, C, dx, _, rfl, by rw [upd_ne n1, upd_same], T.cls, T.a3, by show 2 < 1000; decide, ?_⟩
  refine fun pa hpa => ?_
  have n2 : x ≠ pa := fun e => by rw [← e, upd_same] at hpa; cases hpa
  have n3 : pr ≠ pa := fun e => by rw [← e, upd_ne n1.symm, upd_same] at hpa; cases hpa
  refine ⟨_, rfl, x, C, dx, _, rfl, by rw [upd_ne n2, upd_same], T.cls, T.a4, by show 3 < 1000; decide, ?_⟩
  refine ⟨_, rfl, x, C, dx, _, rfl, upd_same, T.cls, T.a5, by show 4 < 1000; decide, ?_⟩
  have hpr0 : H pr = none := by rw [upd_ne n1.symm, upd_ne n1.symm] at hpr; exact hpr
  have hpa0 : H pa = none := by rw [upd_ne n2.symm, upd_ne n3.symm, upd_ne n2.symm, upd_ne n2.symm] at hpa; exact hpa
  have other : ∀ z o, z ≠ x → H z = some o → (upd (upd (upd (upd (upd (upd (upd H x (.ins C dx (putF "path" vp []))) x (.ins C dx (putF "siblings" vs (putF "path" vp [])))) pr (.dK [])) x (.ins C dx (putF "records" (.ref pr) (putF "siblings" vs (putF "path" vp []))))) pa (.dK [])) x (.ins C dx (putF "addresses" (.ref pa) (putF "records" (.ref pr) (putF "siblings" vs (putF "path" vp [])))))) x (.ins C dx (putF "fresh" (.int 0) (putF "addresses" (.ref pa) (putF "records" (.ref pr) (putF "siblings" vs (putF "path" vp []))))))) z = some o := fun z o n e => by
    rw [upd_ne n, upd_ne n, upd_ne (ne_of_none e hpa0), upd_ne n, upd_ne (ne_of_none e hpr0), upd_ne n, upd_ne n]
    exact e
  refine k _ [x, pr, pa] ⟨Same.refl B, fun z o q => other z o (fun e => by rw [e, hb] at q; cases q) (ex z o q), fun z o n e => other z o (by simpa using n) e, fun z n => ?_, fun z q1 q2 => (q2 q1).elim⟩
    ⟨dx, pr, pa, vp, vs, [], [], rfl, ?_, ?_, ?_, .nil, .nil, r1, r2, n3⟩ (fun z hz => ?_)
  · by_cases e : z = x
    · rw [e, upd_same]; simp
    · cases q : H z with
      | none => exact (n q).elim
      | some o => rw [other z o e q]; simp
  · rw [upd_same]
    simp only [putF, if_neg (sne Esp.n1), if_neg (sne Esp.n2), if_neg (sne Esp.n3), if_neg (sne n4), if_neg (sne n5), if_neg (sne n6), if_neg (sne n7), if_neg (sne n8), if_neg (sne n9), if_neg (sne n10)]
    rfl
  · rw [upd_ne n1.symm, upd_ne n1.symm, upd_ne n3, upd_ne n1.symm, upd_same]
  · rw [upd_ne n2.symm, upd_ne n2.symm, upd_same]
  · simp at hz
    rcases hz with rfl | rfl | rfl
    · exact ⟨hb, .inl rfl⟩
    · exact ⟨none_b ex hpr0, .inr hpr0⟩
    · exact ⟨none_b ex hpa0, .inr hpa0⟩
end
end Esp

/-! plan. -/
namespace Esp
open PySem L2 PyProof.Rows PySem.Spec
local macro_rules | `(tactic| walk_at "ev") => `(tactic| repeat' (first
  | exact ev_int | exact ev_str | exact ev_bl | exact ev_non | exact ea_nil | exact eo_none | exact et_yes
  | exact ev_var rfl | exact evx_own rfl
  | apply ea_cons | apply eo_some | apply ev_tup (hl := by first | decide | (simp; done))
  | apply ev_op | apply ev_neg
  | apply ev_sl | apply ev_chain
  | apply ev_andV | apply ev_orV | apply ev_notV
  | apply et_test | apply et_B | apply et_not | apply et_and | apply et_or
  | exact rv_i | exact rv_b | exact rv_eqi | exact rv_nei | exact rv_eqs_t (by with_reducible rfl) | exact rv_eqs_f (by decide +kernel) | exact rv_nes_t (by with_reducible rfl) | exact rv_nes_f (by decide +kernel)
  | exact rv_isN | exact rv_notN
  | exact rv_ixT rfl | exact rv_ixL rfl | apply rv_ixT | apply rv_ixL
  | apply ev_cb (hr := rc_lenT) | apply ev_cb (hr := rc_lenL) | apply ev_cb (hr := rc_int) | apply ev_cb (hr := rc_tupT) | apply ev_cb (hr := rc_all)
  | apply Ev.x | (intro _)))
local macro_rules | `(tactic| walk_at "gs") => `(tactic| repeat' (first | exact gs_nil | apply gs_cons | exact g_name (by simp) | apply g_tup (hn := rfl)))
section
variable {K : PySem.W.Frag} {mg : Str → Option Value} {C : Addr} {A : List Addr} {B0 H0 B : Hp} {nx bk ct : List Sl → Prop} {rt : D → List Sl → Prop} {ss s1 s2 : List Sl} {te ta tb : TE} {d : D} {ds : List D} {tr : TA}
theorem at_last {α : Type} {l : List α} {x : α} (h : l.getLast? = some x) : atI l (-1) = some x := by
  obtain ⟨ys, rfl⟩ := List.getLast?_eq_some_iff.mp h
  exact atI_last ys x
def EvMA (K : PySem.W.Frag) (C : Addr) (ta : TA) (ss : List Sl) (ds : List D) (ss' : List Sl) : Prop := ∀ (A : List Addr) (B0 H0 B H : Hp) (σ : L2.St), Ok K C A B0 H0 B H σ ss → ∀ Q : List V → Hp → Prop, (∀ vs B' H', Ex B B' → Ok K C A B0 H0 B' H' σ ss' → RepL K B' ds vs → Q vs H') → ta σ H Q
theorem ema_nil : EvMA K C tNil ss [] ss := fun A B0 H0 B H σ O Q q => q [] B H (Same.refl B) O .nil
theorem ema_cons (h : EvM K C te ss d s1) (hr : EvMA K C tr s1 ds s2) : EvMA K C (tCons te tr) ss (d :: ds) s2 := fun A B0 H0 B H σ O Q q =>
  h A B0 H0 B H σ O _ fun v B1 H1 x1 O1 r1 => hr A B0 H0 B1 H1 σ O1 _ fun vs B2 H2 x2 O2 r2 => q _ B2 H2 (x1.trans x2) O2 (.cons (r1.mono x2) r2)
theorem evm_tup (h : EvMA K C tr ss ds s1) (hl : ds.length ≤ 100000) : EvM K C (tTup tr) ss (.tup ds) s1 := fun A B0 H0 B H σ O Q q =>
  h A B0 H0 B H σ O _ fun vs B1 H1 x1 O1 r1 => ⟨by rw [r1.length]; exact Nat.le_trans hl (by decide), fun p hp => tup_new (fun v B' H' g r => q v B' H' (x1.trans g.b) (O1.grow g) r) r1 O1.ex hp⟩
theorem do_plan (T : Tx K mg C) (p : Call × List Step × List (Int × Step) × Told) (h : planR p.1 p.2.1 p.2.2.1 = some p.2.2.2) :
    Do K C [] B H0 (t_plan K C) [.val p.1.d, .val (.lst (p.2.1.map Step.d)), .val (.dct (mapV Step.d p.2.2.1)), .no, .no, .no, .no, .no, .no] nx bk ct (fun d _ => d = p.2.2.2.d) := by
  obtain ⟨c, path, sib, told⟩ := p
  have h : planR c path sib = some told := h
  cases e1 : path.getLast? with
  | none => simp only [planR, e1] at h; cases h
  | some t =>
  simp only [planR, e1] at h
  split at h
  case isFalse => cases h
  case isTrue g =>
  simp only [Bool.and_eq_true, decide_eq_true_eq] at g
  obtain ⟨g1, g2, g3⟩ := g
  have hn : path ≠ [] := by intro e; rw [e] at e1; cases e1
  have hn0 : 0 < path.length := List.length_pos_iff.mpr hn
  generalize hlc : leafChange c t.rc = lc at h
  obtain ⟨an, orr⟩ := lc
  have okr : ∀ r, orr = some r → r.okB = true := by
    intro r hr
    subst hr
    simp only at h
    split at h
    case isFalse => cases h
    case isTrue g => exact g
  have h0 : Ev K C (tCall (sp_leaf_change K) [] E0 (tCons (tVar 0) (tCons (tOp (rIxT K) (tOp (rIxL K) (tVar 1) (tUn rNeg (tC (.int 1)))) (tC (.int 2))) tNil))) [.val c.d, .val (.lst (path.map Step.d)), .val (.dct (mapV Step.d sib)), .no, .no, .no, .no, .no, .no] (.tup [an.d, oR orr]) := by
    refine Ev.is (ev_call (c, t.rc) (ea_cons (ev_var rfl) (ea_cons (ix_call (l := [.int t.page, .int t.addr, t.rc.d, .int t.ac]) (ev_op (d := .lst (path.map Step.d)) (e := .int (-1)) (Ev.x (ev_var rfl)) (Ev.x (ev_neg ev_int)) (rv_ixL (at_last (by rw [List.getLast?_map, e1]; rfl)))) rfl) ea_nil)) ⟨g1, g2, ?_⟩) ?_
    · show ∀ r, (leafChange c t.rc).2 = some r → r.okB = true
      rw [hlc]
      exact okr
    · show D.tup [(leafChange c t.rc).1.d, oR (leafChange c t.rc).2] = _
      rw [hlc]
  refine do_seq (do_asgG h0 (by walk_at "gs") ?_)
  cases orr with
  | none =>
    simp only at h
    cases h
    exact do_seq (do_ift (et_test (by walk_at "ev")) (do_ret (ev_tup (ea_cons ev_str (ea_cons (ev_var rfl) ea_nil)) (by simp)) rfl))
  | some r =>
  simp only at h
  rw [if_pos (okr r rfl)] at h
  have hnon : isNon (oR (some r)) = false := by cases r <;> rfl
  refine do_seq (do_iff (et_test (EvT.is' (ev_op (d := oR (some r)) (Ev.x (ev_var rfl)) (Ev.x ev_non) rv_isN) hnon)) (do_next ?_))
  refine do_seq (do_mk (ea_cons (ev_var rfl) (ea_cons (ev_var rfl) ea_nil)) (by simp) fun y fp => ?_)
  -- the end
  have fin : ∀ (s : Dr) (x4 x6 x7 x8 : Sl), entriesOk s = true → told = .change an (entriesL s) → Do K C [] B H0 (tRet (tTup (tCons (tC (.str "change")) (tCons (tVar 3) (tCons (tMeth C "entries" (sp_Draft_entries K C) [] E0 (tVar 5) tNil) tNil)))))
      [.val c.d, .val (.lst (path.map Step.d)), .val (.dct (mapV Step.d sib)), .val an.d, x4, .drf y fp s.st, x6, x7, x8] nx bk ct (fun d _ => d = told.d) := fun s x4 x6 x7 x8 h1 h2 => by
    refine do_retM (evm_tup (ema_cons (Ev.m ev_str) (ema_cons (Ev.m (ev_var rfl)) (ema_cons (evm_meth (u := s) () rfl (by decide +kernel) ea_nil h1) ema_nil))) (by simp)) ?_
    rw [h2]
    rfl
  have hlen : (((path.length : Int) - 1) - (-1)).toNat = path.length := by omega
  refine do_seq (do_forR3 (n := path.length) (ea_cons (ev_op (d := .int path.length) (e := .int 1) (Ev.x (Ev.is (ev_cb (Ev.x (ev_var rfl)) rc_lenL) (by rw [List.length_map]))) (Ev.x ev_int) rv_i) (ea_cons (ev_neg ev_int) (ea_cons (ev_neg ev_int) ea_nil))) (by
      have z := RgC.neg (i := (path.length : Int) - 1) (j := -1) (by omega) (by omega) (by decide) (by decide)
      rw [hlen] at z
      exact z)
    (fun i ss => ∃ (s : Dr) (r : Rec) (x6 x7 x8 : Sl), ss = [.val c.d, .val (.lst (path.map Step.d)), .val (.dct (mapV Step.d sib)), .val an.d, .val r.d, .drf y fp s.st, x6, x7, x8] ∧
      ((i < path.length ∧ planLoop an (path.length - 1 - i) s r = some told) ∨ (i = path.length ∧ entriesOk s = true ∧ told = .change an (entriesL s)))) ⟨⟨path, sib, [], [], 0⟩, r, _, _, _, rfl, .inl ⟨hn0, h⟩⟩ ?_ ?_)
  · rintro i ss hi ⟨s, r, x6, x7, x8, rfl, hh⟩
    have hh : planLoop an (path.length - 1 - i) s r = some told := by
      rcases hh with ⟨_, hh⟩ | ⟨e, _⟩
      · exact hh
      · omega
    have hix : ((path.length : Int) - 1) + (i : Nat) * (-1) = ((path.length - 1 - i : Nat) : Int) := by omega
    refine ⟨_, g_name (by simp), ?_⟩
    rw [hix]
    generalize hj : path.length - 1 - i = j at hh
    unfold planLoop at hh
    cases es : settle s j r with
    | none => simp only [es] at hh; cases hh
    | some rs =>
    obtain ⟨res, s'⟩ := rs
    simp only [es] at hh
    have hm : EvM K C (tMeth C "settle" (sp_Draft_settle K C) [] E0 (tVar 5) (tCons (tVar 6) (tCons (tVar 4) tNil))) [.val c.d, .val (.lst (path.map Step.d)), .val (.dct (mapV Step.d sib)), .val an.d, .val r.d, .drf y fp s.st, .val (.int (j : Int)), x7, x8] res.d [.val c.d, .val (.lst (path.map Step.d)), .val (.dct (mapV Step.d sib)), .val an.d, .val r.d, .drf y fp s'.st, .val (.int (j : Int)), x7, x8] :=
      evm_meth (u := s) (j, r, res, s') rfl (by decide +kernel) (ea_cons (ev_var rfl) (ea_cons (ev_var rfl) ea_nil)) es
    cases res with
    | done =>
      simp only at hh
      split at hh
      case isFalse => cases hh
      case isTrue k1 =>
      cases hh
      refine do_seq (do_asgGM (d := .tup [.str "done", .non]) hm (by walk_at "gs") ?_)
      refine do_seq (do_iff (et_test (by walk_at "ev")) (do_next ?_))
      refine do_seq (do_iff (et_test (by walk_at "ev")) (do_next ?_))
      exact do_seq (do_ift (et_test (by walk_at "ev")) (do_break (fin s' _ _ _ _ k1 rfl)))
    | read pg =>
      simp only at hh
      cases hh
      refine do_seq (do_asgGM (d := .tup [.str "read", .int pg]) hm (by walk_at "gs") ?_)
      exact do_seq (do_ift (et_test (by walk_at "ev")) (do_ret (ev_tup (ea_cons ev_str (ea_cons (ev_var rfl) ea_nil)) (by simp)) rfl))
    | stale =>
      simp only at hh
      cases hh
      refine do_seq (do_asgGM (d := .tup [.str "stale", .non]) hm (by walk_at "gs") ?_)
      refine do_seq (do_iff (et_test (by walk_at "ev")) (do_next ?_))
      exact do_seq (do_ift (et_test (by walk_at "ev")) (do_ret (ev_tup (ea_cons ev_str ea_nil) (by simp)) rfl))
    | up r' =>
      refine do_seq (do_asgGM (d := .tup [.str "up", r'.d]) hm (by walk_at "gs") ?_)
      refine do_seq (do_iff (et_test (by walk_at "ev")) (do_next ?_))
      refine do_seq (do_iff (et_test (by walk_at "ev")) (do_next ?_))
      refine do_seq (do_iff (et_test (by walk_at "ev")) (do_next ?_))
      refine do_asg (ev_var rfl) ⟨s', r', _, _, _, rfl, ?_⟩ (by simp)
      cases j with
      | zero =>
        simp only at hh
        split at hh
        case isFalse => cases hh
        case isTrue k1 =>
        cases hh
        exact .inr ⟨by omega, k1, rfl⟩
      | succ j =>
        simp only at hh
        refine .inl ⟨by omega, ?_⟩
        rw [show path.length - 1 - (i + 1) = j by omega]
        exact hh
  · rintro ss ⟨s, r, x6, x7, x8, rfl, hh⟩
    rcases hh with ⟨q, _⟩ | ⟨_, h1, h2⟩
    · omega
    · exact fin s _ _ _ _ h1 h2
end
end Esp

/-! The mirror, part 3: the law's own defs; the promises. -/
namespace Esp
open PySem L2 PyProof.Rows PySem.Spec

def cellOf (ns : List Int) (k : Nat) : Int := ns.getD k 0
def digitsGo (c : Int) : List Int → Nat → Int → List Int
  | [], _, _ => []
  | b :: bs, n, rest => if 10 ^ 18 ≤ c then (rest % b) :: digitsGo c bs (n + 1) (rest / b)
    else ((rest * 48271 + 1009 * (n : Int) + 12345) % 2147483647 * ((rest * 48271 + 1009 * (n : Int) + 12345) % 2147483647) % 2147483629 / 13 % b) :: digitsGo c bs (n + 1) ((rest * 48271 + 1009 * (n : Int) + 12345) % 2147483647)
def digitsOf (c : Int) (bs : List Int) : List Int := digitsGo c bs 0 c
def dig (c : Int) (bs : List Int) (i : Nat) : Int := (digitsOf c bs).getD i 0
def manyOf (ns : List Int) (few many : Int) : Int := if 0 < ns.length ∧ cellOf ns 0 / 1009 % 5 = 1 then many else few
abbrev Tab := List (Int × Int)
def keysOf (t : Tab) : List Int := srt (t.map (·.1))
def callBs (w : Int) : List Int := [7, w, 9, 9, 4, 3]
def callKey (c w : Int) (t : Tab) : Int := if 0 < dig c (callBs w) 5 ∧ keysOf t ≠ [] then (keysOf t).getD (dig c (callBs w) 1 % ((keysOf t).length : Int)).toNat 0 else dig c (callBs w) 1 - w / 2
def callOf (c w : Int) (t : Tab) : Call := match (dig c (callBs w) 0).toNat with
  | 0 => .put (dig c (callBs w) 1 - w / 2) (dig c (callBs w) 2)
  | 1 => .put (dig c (callBs w) 1 - w / 2) (dig c (callBs w) 2)
  | 2 => .add (dig c (callBs w) 1 - w / 2) (dig c (callBs w) 2)
  | 3 => .change (callKey c w t) (if 0 < dig c (callBs w) 4 then (look t (callKey c w t)).getD (dig c (callBs w) 2) else dig c (callBs w) 2) (dig c (callBs w) 3)
  | 4 => .take (callKey c w t)
  | 5 => .take (callKey c w t)
  | _ => .look (callKey c w t)
def dueOf (t : Tab) : Call → An × Tab
  | .put k v => (.o (look t k), put t k v)
  | .add k v => if (look t k).isSome = true then (.b false, t) else (.b true, put t k v)
  | .change k o n => if look t k = some o then (.b true, put t k n) else (.b false, t)
  | .take k => if (look t k).isSome = true then (.o (look t k), drop t k) else (.o (look t k), t)
  | .look k => (.o (look t k), t)
def coversB (r : Rec) (k : Int) : Bool := aboveB k r.bd.1 && belowB k r.bd.2
def childAt (ks : List Int) (k : Int) : Nat := (ks.filter fun x => decide (x ≤ k)).length
abbrev Pgs := List (Int × (Int × Rec))
def pgD (p : Int × Rec) : D := .tup [.int p.1, p.2.d]
def pagesD (pg : Pgs) : D := .dct (mapV pgD pg)
def tabD (t : Tab) : D := .dct (mapV D.int t)
/-- the page to read next, from the record r -/
def nextPage (r : Rec) (key : Int) : Option Int := match r with
  | .inner _ _ _ ks ps => if ks.length ≤ 50 then ps[childAt ks key]? else none
  | _ => none
def walkGo (pg : Pgs) (key : Int) : Nat → Nat → List Step → Option (List Step)
  | 0, _, path => some path
  | n + 1, k, path => match path.getLast? with
    | none => none
    | some t => match t.rc with
      | .inner lv lo hi ks ps => match nextPage (.inner lv lo hi ks ps) key with
        | none => none
        | some c => match look pg c with
          | none => none
          | some (a, r) => walkGo pg key n (k + 1) (path ++ [⟨c, a, r, (k : Int) + 2⟩])
      | _ => walkGo pg key n (k + 1) path
def walkR (pg : Pgs) (key : Int) : Option (List Step) := match look pg 0 with
  | none => none
  | some (a, r) => walkGo pg key 20 0 [⟨0, a, r, 1⟩]
def plannedGo (pg : Pgs) (c : Call) (path : List Step) : Nat → Nat → List (Int × Step) → Option Told
  | 0, _, _ => none
  | n + 1, k, sib => match planR c path sib with
    | none => none
    | some (.read p) => match look pg p with
      | none => none
      | some (a, r) => plannedGo pg c path n (k + 1) (put sib p ⟨p, a, r, 40 + (k : Int)⟩)
    | some told => some told
def plannedR (pg : Pgs) (c : Call) : Option Told := match walkR pg c.key with
  | none => none
  | some path => plannedGo pg c path 10 0 []
/-- may the page be given out -/
def freeB (pg : Pgs) (p : Int) : Bool := match look pg p with
  | none => true
  | some (_, r) => !r.live
def freeOf (pg : Pgs) (n : Nat) : List Int := (((List.range 199).map fun (i : Nat) => 1 + (i : Int)).filter (freeB pg)).take n
def curB (pg : Pgs) (e : En) : Bool := decide (e.page < 0) || decide ((look pg e.page).map (·.1) = e.addr)
def maxA : List Int → Int
  | [] => 0
  | [a] => a
  | a :: b :: r => max a (maxA (b :: r))
def mostAddr (pg : Pgs) : Int := maxA ((pg.map (·.1)).map fun k => ((look pg k).map (·.1)).getD 0)
def applyGo (most : Int) (pg : Pgs) : List En → Pgs
  | [] => pg
  | e :: es => applyGo (most + 1) (put pg e.page (most + 1, e.rc)) es
def namesOf (pg : Pgs) (es : List En) : List Int := freeOf pg (newPages es)
def appliedR (pg : Pgs) (es : List En) : Option Pgs := if es.all (curB pg) = true then some (applyGo (mostAddr pg) pg (es.map (placedE (namesOf pg es)))) else none
def appOk (pg : Pgs) (es : List En) : Bool := decide (pg ≠ []) && (decide (pg.length ≤ 1000) && (decide (es.length ≤ 1000) && ((es.all fun e => decide (e.page < 0) || e.addr.isSome) &&
  (!es.all (curB pg) || es.all fun e => pageOk e.page (namesOf pg es).length && recPagesOk (namesOf pg es).length e.rc))))
def sizeB (p : Int) : Rec → Bool
  | .leaf _ _ _ vs => (decide (p = 0) || decide (2 ≤ vs.length)) && decide (vs.length ≤ 4)
  | .inner _ _ _ _ ps => decide (2 ≤ ps.length) && decide (ps.length ≤ 5)
  | .free _ => false
def fitsB (p : Int) (r : Rec) (lo hi : Option Int) (lv : Int) : Bool := r.okB && (r.live && (sizeB p r && (decide (r.bd = (lo, hi)) && (decide (lv < 0) || decide (r.lv = lv)))))
structure Todo where
  page : Int
  lo : Option Int
  hi : Option Int
  lv : Int
def Todo.d (t : Todo) : D := .tup [.int t.page, oD t.lo, oD t.hi, .int t.lv]
def belowL (lv : Int) (lo hi : Option Int) (ks ps : List Int) (level : Int) : List Todo := (List.range ps.length).map fun i => ⟨ps.getD i 0, (childB lo hi ks i).1, (childB lo hi ks i).2, level - 1⟩
def putAll (t : Tab) : List Int → List Int → Tab
  | k :: ks, v :: vs => putAll (put t k v) ks vs
  | _, _ => t
structure MapSt where
  table : Tab
  todo : List Todo
  seen : List Int
def mapStep (pg : Pgs) (i : Nat) (s : MapSt) : Option MapSt := match s.todo[i]? with
  | none => some s
  | some t => match look pg t.page with
    | none => none
    | some (_, r) => if (decide (t.page ∉ s.seen) && (fitsB t.page r t.lo t.hi t.lv && (decide (s.table.length ≤ 4000) && decide (s.todo.length ≤ 4000)))) = true then (match r with
      | .leaf _ _ ks vs => some ⟨putAll s.table ks vs, s.todo, s.seen ++ [t.page]⟩
      | .inner lv lo hi ks ps => some ⟨s.table, s.todo ++ belowL lv lo hi ks ps lv, s.seen ++ [t.page]⟩
      | .free _ => none) else none
def mapGo (pg : Pgs) : Nat → Nat → MapSt → Option MapSt
  | 0, _, s => some s
  | n + 1, i, s => match mapStep pg i s with
    | none => none
    | some s' => mapGo pg n (i + 1) s'
def liveOf (pg : Pgs) : List Int := (pg.map (·.1)).filter fun p => match look pg p with
  | some (_, r) => r.live
  | none => false
def mapR (pg : Pgs) : Option Tab := match mapGo pg 400 0 ⟨[], [⟨0, none, none, -1⟩], []⟩ with
  | none => none
  | some s => if (decide (pg.length ≤ 1000) && decide (srt s.seen = srt (liveOf pg))) = true then some s.table else none
def startPg : Pgs := [(0, (100, .leaf none none [] []))]
def fillBs : List Int := [4, 40, 7, 3]
def fillMany (c : Int) : Int := if dig c fillBs 0 = 0 then dig c fillBs 1 else dig c fillBs 1 % 8
def fillKey (c : Int) (k : Nat) : Int := ((k : Int) * (2 * dig c fillBs 2 + 1) + dig c fillBs 3) % 41 * 3 - 60
def fillGo (c : Int) : Nat → Nat → Pgs → Tab → Option (Pgs × Tab)
  | 0, _, pg, t => some (pg, t)
  | n + 1, k, pg, t => if t.length ≤ 4000 then (match plannedR pg (.put (fillKey c k) k) with
    | some (.change _ es) => if appOk pg es = true then (match appliedR pg es with
      | some pg' => fillGo c n (k + 1) pg' (put t (fillKey c k) k)
      | none => none) else none
    | some (.answer _) => fillGo c n (k + 1) pg (put t (fillKey c k) k)
    | _ => none) else none
def filledR (c : Int) : Option (Pgs × Tab) := fillGo c (fillMany c).toNat 0 startPg []
structure Wk where
  call : Call
  path : List Step
  sib : List (Int × Step)
  due : An
def Wk.d (w : Wk) : D := .lst [w.call.d, .lst (w.path.map Step.d), .dct (mapV Step.d w.sib), w.due.d, .non]
def freshW (c : Call) : Wk := ⟨c, [], [], .o none⟩
def wrongB (path : List Step) (r : Rec) (k : Int) : Bool := !r.live || (!coversB r k || match path.getLast? with
  | none => false
  | some t => decide (r.lv ≠ t.rc.lv - 1))
def readPage (w : Wk) : Option Int := match w.path.getLast? with
  | none => some 0
  | some t => nextPage t.rc w.call.key
def readR (w : Wk) (pg : Pgs) (t : Tab) : Option Wk := match readPage w with
  | none => none
  | some p => match look pg p with
    | none => none
    | some (a, r) => if w.path.length ≤ 4000 ∧ t.length ≤ 4000 then (if wrongB w.path r w.call.key = true then some (freshW w.call)
      else some ⟨w.call, w.path ++ [⟨p, a, r, 1⟩], [], if r.isLeaf = true then (dueOf t w.call).1 else .o none⟩) else none
def besideR (w : Wk) (pg : Pgs) (p : Int) : Option Wk := match look pg p with
  | none => none
  | some (a, r) => if w.sib.length ≤ 4000 then some ⟨w.call, w.path, put w.sib p ⟨p, a, r, 1⟩, w.due⟩ else none
def sameTab (m t : Tab) : Bool := decide (m.length = t.length) && m.all fun p => decide (look t p.1 = some p.2)
def mapOk (pg : Pgs) (t : Tab) : Bool := match mapR pg with
  | none => false
  | some m => sameTab m t
def atLeaf (path : List Step) : Bool := match path.getLast? with
  | none => false
  | some t => t.rc.isLeaf
def turnR (w : Wk) (pg : Pgs) (t : Tab) : Option (Option Wk × Pgs × Tab) := if atLeaf w.path = false then (match readR w pg t with
    | none => none
    | some w' => some (some w', pg, t))
  else match planR w.call w.path w.sib with
    | none => none
    | some (.read p) => (match besideR w pg p with
      | none => none
      | some w' => some (some w', pg, t))
    | some (.answer a) => if a = w.due then some (none, pg, t) else none
    | some .stale => some (some (freshW w.call), pg, t)
    | some (.change a es) => if appOk pg es = true ∧ t.length ≤ 4000 then (match appliedR pg es with
      | none => some (some (freshW w.call), pg, t)
      | some pg' => if a = (dueOf t w.call).1 ∧ mapOk pg' (dueOf t w.call).2 = true then some (none, pg', (dueOf t w.call).2) else none) else none
def wO : Option Wk → D
  | none => .non
  | some w => w.d
def turnD (o : Option Wk × Pgs × Tab) : D := .tup [wO o.1, pagesD o.2.1, tabD o.2.2, .bl true]
def pgsO : Option Pgs → D
  | none => .non
  | some pg => pagesD pg
/-! ### promises -/
abbrev sp__law_cell (K : PySem.W.Frag) : Sp := spD K (fun p : List Int × Nat => [D.scr p.1, D.int p.2]) (fun _ => True) (fun p => D.int (cellOf p.1 p.2))
abbrev sp__law_digits (K : PySem.W.Frag) : Sp := spD K (fun p : Int × List Int => [D.int p.1, D.lst (p.2.map D.int)]) (fun p => p.2.length ≤ 50 ∧ ∀ b ∈ p.2, 0 < b ∧ b < 1073741824) (fun p => D.lst ((digitsOf p.1 p.2).map D.int))
abbrev sp__law_many (K : PySem.W.Frag) : Sp := spD K (fun p : List Int × Int × Int => [D.scr p.1, D.int p.2.1, D.int p.2.2]) (fun _ => True) (fun p => D.int (manyOf p.1 p.2.1 p.2.2))
abbrev sp__law_call (K : PySem.W.Frag) : Sp := spD K (fun p : Int × Int × Tab => [D.int p.1, D.int p.2.1, tabD p.2.2]) (fun p => 0 < p.2.1 ∧ p.2.1 < 1000 ∧ p.2.2.length ≤ 4000) (fun p => (callOf p.1 p.2.1 p.2.2).d)
abbrev sp__law_due (K : PySem.W.Frag) : Sp := spD K (fun p : Tab × Call => [tabD p.1, p.2.d]) (fun p => p.1.length ≤ 4000) (fun p => D.tup [(dueOf p.1 p.2).1.d, tabD (dueOf p.1 p.2).2])
abbrev sp__law_covers (K : PySem.W.Frag) : Sp := spD K (fun p : Rec × Int => [p.1.d, D.int p.2]) (fun p => p.1.live = true) (fun p => D.bl (coversB p.1 p.2))
abbrev sp__law_walk (K : PySem.W.Frag) : Sp := spD K (fun p : Pgs × Int × List Step => [pagesD p.1, D.int p.2.1]) (fun p => walkR p.1 p.2.1 = some p.2.2) (fun p => D.lst (p.2.2.map Step.d))
abbrev sp__law_planned (K : PySem.W.Frag) : Sp := spD K (fun p : Pgs × Call × Told => [pagesD p.1, p.2.1.d]) (fun p => plannedR p.1 p.2.1 = some p.2.2) (fun p => p.2.2.d)
abbrev sp__law_free (K : PySem.W.Frag) : Sp := spD K (fun p : Pgs × Nat => [pagesD p.1, D.int p.2]) (fun _ => True) (fun p => D.lst ((freeOf p.1 p.2).map D.int))
abbrev sp__law_applied (K : PySem.W.Frag) : Sp := spD K (fun p : Pgs × List En => [pagesD p.1, D.lst (p.2.map En.d)]) (fun p => appOk p.1 p.2 = true) (fun p => pgsO (appliedR p.1 p.2))
abbrev sp__law_ascending (K : PySem.W.Frag) : Sp := spD K (fun p : List Int × Option Int × Option Int => [iL p.1, oD p.2.1, oD p.2.2]) (fun p => p.1.length ≤ 50 ∧ ascB p.1 = true ∧ ∀ k ∈ p.1, aboveB k p.2.1 = true ∧ belowB k p.2.2 = true) (fun _ => D.bl true)
abbrev sp__law_below (K : PySem.W.Frag) : Sp := spD K (fun p : Rec × Int => [p.1.d, D.int p.2]) (fun p => p.1.okB = true ∧ p.1.isLeaf = false ∧ p.1.live = true) (fun p => match p.1 with | .inner lv lo hi ks ps => D.lst ((belowL lv lo hi ks ps p.2).map Todo.d) | _ => .non)
abbrev sp__law_fits (K : PySem.W.Frag) : Sp := spD K (fun p : Int × Rec × Option Int × Option Int × Int => [D.int p.1, p.2.1.d, oD p.2.2.1, oD p.2.2.2.1, D.int p.2.2.2.2]) (fun p => fitsB p.1 p.2.1 p.2.2.1 p.2.2.2.1 p.2.2.2.2 = true) (fun _ => D.bl true)
abbrev sp__law_map (K : PySem.W.Frag) : Sp := spD K (fun p : Pgs × Tab => [pagesD p.1]) (fun p => mapR p.1 = some p.2) (fun p => tabD p.2)
abbrev sp__law_start (K : PySem.W.Frag) : Sp := spD K (fun _ : Unit => []) (fun _ => True) (fun _ => pagesD startPg)
abbrev sp__law_filled (K : PySem.W.Frag) : Sp := spD K (fun p : Int × Pgs × Tab => [D.int p.1]) (fun p => filledR p.1 = some p.2) (fun p => D.tup [pagesD p.2.1, tabD p.2.2])
abbrev sp__law_fresh (K : PySem.W.Frag) : Sp := spD K (fun c : Call => [c.d]) (fun _ => True) (fun c => (freshW c).d)
abbrev sp__law_wrong (K : PySem.W.Frag) : Sp := spD K (fun p : List Step × Rec × Int => [D.lst (p.1.map Step.d), p.2.1.d, D.int p.2.2]) (fun p => ∀ t, p.1.getLast? = some t → t.rc.isLeaf = false ∧ t.rc.live = true) (fun p => D.bl (wrongB p.1 p.2.1 p.2.2))
abbrev sp__law_read (K : PySem.W.Frag) : Sp := spD K (fun p : (Wk × Pgs × Tab) × Wk => [p.1.1.d, pagesD p.1.2.1, tabD p.1.2.2]) (fun p => readR p.1.1 p.1.2.1 p.1.2.2 = some p.2) (fun p => p.2.d)
abbrev sp__law_beside (K : PySem.W.Frag) : Sp := spD K (fun p : (Wk × Pgs × Int) × Wk => [p.1.1.d, pagesD p.1.2.1, D.int p.1.2.2]) (fun p => besideR p.1.1 p.1.2.1 p.1.2.2 = some p.2) (fun p => p.2.d)
abbrev sp__law_turn (K : PySem.W.Frag) : Sp := spD K (fun p : (Wk × Pgs × Tab) × Option Wk × Pgs × Tab => [p.1.1.d, pagesD p.1.2.1, tabD p.1.2.2]) (fun p => turnR p.1.1 p.1.2.1 p.1.2.2 = some p.2) (fun p => turnD p.2)
end Esp

/-! Printed by gen.py: readings of the law's defs -/
namespace Esp
open PySem L2 PyProof.Rows PySem.Spec
def t__law_cell (K : PySem.W.Frag) : TS := (tSeq (tIfS (tTest (tOp rLtI (tVar 1) (tCB (rLenS K) (tCons (tVar 0) tNil)))) (tRet (tCB (rIntB) (tCons (tOp (rIxL K) (tVar 0) (tVar 1)) tNil))) tNext) (tRet (tC (.int 0))))
def t__law_digits (K : PySem.W.Frag) : TS := (tSeq (tAsg (tLst tNil) (gName 2)) (tSeq (tAsg (tCB (rIntB) (tCons (tVar 0) tNil)) (gName 3)) (tSeq (tFor (iList K (tVar 1)) (gName 4) (tIfS (tTest (tOp rGeI (tVar 0) (tOp rPowI (tC (.int 10)) (tC (.int 18))))) (tSeq (tDrop (tBM K "list" rAppend (tVar 2) (tCons (tOp rModI (tCB (rIntB) (tCons (tVar 3) tNil)) (tVar 4)) tNil))) (tAsg (tOp rDivI (tVar 3) (tVar 4)) (gName 3))) (tSeq (tAsg (tOp rModI (tOp rAddI (tOp rAddI (tOp rMulI (tCB (rIntB) (tCons (tVar 3) tNil)) (tC (.int 48271))) (tOp rMulI (tC (.int 1009)) (tCB (rLenS K) (tCons (tVar 2) tNil)))) (tC (.int 12345))) (tC (.int 2147483647))) (gName 3)) (tSeq (tAsg (tOp rModI (tOp rMulI (tCB (rIntB) (tCons (tVar 3) tNil)) (tCB (rIntB) (tCons (tVar 3) tNil))) (tC (.int 2147483629))) (gName 5)) (tDrop (tBM K "list" rAppend (tVar 2) (tCons (tOp rModI (tOp rDivI (tCB (rIntB) (tCons (tVar 5) tNil)) (tC (.int 13))) (tVar 4)) tNil))))))) (tRet (tVar 2)))))
def t__law_many (K : PySem.W.Frag) : TS := (tSeq (tIfS (tAnd (tTest (tOp rGtI (tCB (rLenS K) (tCons (tVar 0) tNil)) (tC (.int 0)))) (tTest (tOp rEq (tOp rModI (tOp rDivI (tCB (rIntB) (tCons (tOp (rIxL K) (tVar 0) (tC (.int 0))) tNil)) (tC (.int 1009))) (tC (.int 5))) (tC (.int 1))))) (tRet (tVar 2)) tNext) (tRet (tVar 1)))
def t__law_call (K : PySem.W.Frag) : TS := (tSeq (tAsg (tCall (sp__law_digits K) [] E0 (tCons (tVar 0) (tCons (tLst (tCons (tC (.int 7)) (tCons (tVar 1) (tCons (tC (.int 9)) (tCons (tC (.int 9)) (tCons (tC (.int 4)) (tCons (tC (.int 3)) tNil))))))) tNil))) (gName 3)) (tSeq (tAsg (tOp rSubI (tOp (rIxL K) (tVar 3) (tC (.int 1))) (tOp rDivI (tVar 1) (tC (.int 2)))) (gName 4)) (tSeq (tAsg (tOp (rIxL K) (tLst (tCons (tC (.str "put")) (tCons (tC (.str "put")) (tCons (tC (.str "add")) (tCons (tC (.str "change")) (tCons (tC (.str "take")) (tCons (tC (.str "take")) (tCons (tC (.str "look")) tNil)))))))) (tOp (rIxL K) (tVar 3) (tC (.int 0)))) (gName 5)) (tSeq (tAsg (tCB (rSortedDN) (tCons (tVar 2) tNil)) (gName 6)) (tSeq (tIfS (tAnd (tTest (tOp rGtI (tOp (rIxL K) (tVar 3) (tC (.int 5))) (tC (.int 0)))) (tAnd (tTest (tOp (rIn K false) (tVar 5) (tTup (tCons (tC (.str "change")) (tCons (tC (.str "take")) (tCons (tC (.str "look")) tNil)))))) (tTest (tOp (rNeD K) (tVar 6) (tLst tNil))))) (tAsg (tOp (rIxL K) (tVar 6) (tOp rModI (tOp (rIxL K) (tVar 3) (tC (.int 1))) (tCB (rLenS K) (tCons (tVar 6) tNil)))) (gName 4)) tNext) (tSeq (tIfS (tOr (tTest (tOp rEq (tVar 5) (tC (.str "put")))) (tTest (tOp rEq (tVar 5) (tC (.str "add"))))) (tRet (tTup (tCons (tVar 5) (tCons (tVar 4) (tCons (tOp (rIxL K) (tVar 3) (tC (.int 2))) tNil))))) tNext) (tSeq (tIfS (tTest (tOp rEq (tVar 5) (tC (.str "change")))) (tSeq (tAsg (tOp (rIxL K) (tVar 3) (tC (.int 2))) (gName 7)) (tSeq (tIfS (tTest (tOp rGtI (tOp (rIxL K) (tVar 3) (tC (.int 4))) (tC (.int 0)))) (tAsg (tDGet2 (tVar 2) (tVar 4) (tOp (rIxL K) (tVar 3) (tC (.int 2)))) (gName 7)) tNext) (tRet (tTup (tCons (tVar 5) (tCons (tVar 4) (tCons (tVar 7) (tCons (tOp (rIxL K) (tVar 3) (tC (.int 3))) tNil)))))))) tNext) (tRet (tTup (tCons (tVar 5) (tCons (tVar 4) tNil)))))))))))
def t__law_due (K : PySem.W.Frag) : TS := (tSeq (tAsg (tCB (rDictS) (tCons (tVar 0) tNil)) (gName 2)) (tSeq (tAsg (tDGet2 (tVar 0) (tOp (rIxT K) (tVar 1) (tC (.int 1))) (tC .non)) (gName 3)) (tSeq (tIfS (tTest (tOp rEq (tOp (rIxT K) (tVar 1) (tC (.int 0))) (tC (.str "put")))) (tSeq (sDPut (tVar 2) (tOp (rIxT K) (tVar 1) (tC (.int 1))) (tOp (rIxT K) (tVar 1) (tC (.int 2)))) (tRet (tTup (tCons (tVar 3) (tCons (tVar 2) tNil))))) tNext) (tSeq (tIfS (tTest (tOp rEq (tOp (rIxT K) (tVar 1) (tC (.int 0))) (tC (.str "add")))) (tSeq (tIfS (tTest (tOp rIsNo (tVar 3) (tC .non))) (sDPut (tVar 2) (tOp (rIxT K) (tVar 1) (tC (.int 1))) (tOp (rIxT K) (tVar 1) (tC (.int 2)))) tNext) (tRet (tTup (tCons (tOp rIsNo (tVar 3) (tC .non)) (tCons (tVar 2) tNil))))) tNext) (tSeq (tIfS (tTest (tOp rEq (tOp (rIxT K) (tVar 1) (tC (.int 0))) (tC (.str "change")))) (tSeq (tIfS (tAnd (tTest (tOp rNotNo (tVar 3) (tC .non))) (tTest (tOp rEq (tVar 3) (tOp (rIxT K) (tVar 1) (tC (.int 2)))))) (tSeq (sDPut (tVar 2) (tOp (rIxT K) (tVar 1) (tC (.int 1))) (tOp (rIxT K) (tVar 1) (tC (.int 3)))) (tRet (tTup (tCons (tC (.bl true)) (tCons (tVar 2) tNil))))) tNext) (tRet (tTup (tCons (tC (.bl false)) (tCons (tVar 2) tNil))))) tNext) (tSeq (tIfS (tAnd (tTest (tOp rEq (tOp (rIxT K) (tVar 1) (tC (.int 0))) (tC (.str "take")))) (tTest (tOp rNotNo (tVar 3) (tC .non)))) (tDrop (tDPop1 (tVar 2) (tOp (rIxT K) (tVar 1) (tC (.int 1))))) tNext) (tRet (tTup (tCons (tVar 3) (tCons (tVar 2) tNil))))))))))
def t__law_covers (K : PySem.W.Frag) : TS := (tSeq (tPar 2 3 (tCons (tOp (rIxT K) (tVar 0) (tUn rNeg (tC (.int 4)))) (tCons (tOp (rIxT K) (tVar 0) (tUn rNeg (tC (.int 3)))) tNil))) (tRet (tAndV (tOrV (tOp rIsNo (tVar 2) (tC .non)) (tOp rLeI (tVar 2) (tVar 1))) (tOrV (tOp rIsNo (tVar 3) (tC .non)) (tOp rLtI (tVar 1) (tVar 3))))))
def t__law_walk (K : PySem.W.Frag) : TS := (tSeq (tAsg (tLst (tCons (tTup (tCons (tC (.int 0)) (tCons (tOp (rIxT K) (tDGet (tVar 0) (tC (.int 0))) (tC (.int 0))) (tCons (tOp (rIxT K) (tDGet (tVar 0) (tC (.int 0))) (tC (.int 1))) (tCons (tC (.int 1)) tNil))))) tNil)) (gName 2)) (tSeq (tFor (iRng1 (tCons (tC (.int 20)) tNil)) (gName 3) (tSeq (tAsg (tOp (rIxT K) (tOp (rIxL K) (tVar 2) (tUn rNeg (tC (.int 1)))) (tC (.int 2))) (gName 4)) (tIfS (tTest (tOp rEq (tOp (rIxT K) (tVar 4) (tC (.int 0))) (tC (.str "inner")))) (tSeq (tAsg (tOp (rIxT K) (tOp (rIxT K) (tVar 4) (tC (.int 5))) (tCB (rLenS K) (tCons (tLc (iTup K (tOp (rIxT K) (tVar 4) (tC (.int 4)))) (gName 6) (tTest (tOp rLeI (tVar 6) (tVar 1))) (tVar 6) [6]) tNil))) (gName 5)) (tDrop (tBM K "list" rAppend (tVar 2) (tCons (tTup (tCons (tVar 5) (tCons (tOp (rIxT K) (tDGet (tVar 0) (tVar 5)) (tC (.int 0))) (tCons (tOp (rIxT K) (tDGet (tVar 0) (tVar 5)) (tC (.int 1))) (tCons (tOp rAddI (tVar 3) (tC (.int 2))) tNil))))) tNil)))) tNext))) (tRet (tVar 2))))
def t__law_planned (K : PySem.W.Frag) : TS := (tSeq (tAsg (tCall (sp__law_walk K) [] E0 (tCons (tVar 0) (tCons (tOp (rIxT K) (tVar 1) (tC (.int 1))) tNil))) (gName 2)) (tSeq (tAsg tDNewK (gName 3)) (tSeq (tFor (iRng1 (tCons (tC (.int 10)) tNil)) (gName 4) (tSeq (tAsg (tCall (sp_plan K) [] E0 (tCons (tVar 1) (tCons (tCB (rListS K) (tCons (tVar 2) tNil)) (tCons (tCB (rDictS) (tCons (tVar 3) tNil)) tNil)))) (gName 5)) (tSeq (tIfS (tTest (tOp rNe (tOp (rIxT K) (tVar 5) (tC (.int 0))) (tC (.str "read")))) (tRet (tVar 5)) tNext) (tSeq (tAsg (tOp (rIxT K) (tVar 5) (tC (.int 1))) (gName 6)) (sDPut (tVar 3) (tVar 6) (tTup (tCons (tVar 6) (tCons (tOp (rIxT K) (tDGet (tVar 0) (tVar 6)) (tC (.int 0))) (tCons (tOp (rIxT K) (tDGet (tVar 0) (tVar 6)) (tC (.int 1))) (tCons (tOp rAddI (tC (.int 40)) (tVar 4)) tNil)))))))))) (tRet (tVar 5)))))
def t__law_free (K : PySem.W.Frag) : TS := (tSeq (tAsg (tLst tNil) (gName 2)) (tSeq (tFor (iRng2 (tCons (tC (.int 1)) (tCons (tC (.int 200)) tNil))) (gName 3) (tIfS (tAnd (tTest (tOp rLtI (tCB (rLenS K) (tCons (tVar 2) tNil)) (tVar 1))) (tOr (tB (tDNotIn (tVar 3) (tVar 0))) (tTest (tOp rEq (tOp (rIxT K) (tOp (rIxT K) (tDGet (tVar 0) (tVar 3)) (tC (.int 1))) (tC (.int 0))) (tC (.str "free")))))) (tDrop (tBM K "list" rAppend (tVar 2) (tCons (tVar 3) tNil))) tNext)) (tRet (tVar 2))))
def t__law_applied (K : PySem.W.Frag) : TS := (tSeq (tFor (iList K (tVar 1)) (gTup K 3 (gCons (gName 2) (gCons (gName 3) (gCons (gName 4) gNil)))) (tIfS (tAnd (tTest (tOp rGeI (tVar 2) (tC (.int 0)))) (tOr (tB (tDNotIn (tVar 2) (tVar 0))) (tTest (tOp rNe (tOp (rIxT K) (tDGet (tVar 0) (tVar 2)) (tC (.int 0))) (tVar 3))))) (tRet (tC .non)) tNext)) (tSeq (tAsg (tCB (rDictS) (tCons (tVar 0) tNil)) (gName 5)) (tSeq (tAsg (tCB (rMax K) (tCons (tLockE (tLc (iKeys (tVar 5)) (gName 2) tYes (tOp (rIxT K) (tDGet (tVar 5) (tVar 2)) (tC (.int 0))) [2])) tNil)) (gName 6)) (tSeq (tFor (iList K (tCall (sp_placed K) [] E0 (tCons (tVar 1) (tCons (tCall (sp__law_free K) [] E0 (tCons (tVar 0) (tCons (tCall (sp_new_pages K) [] E0 (tCons (tVar 1) tNil)) tNil))) tNil)))) (gTup K 3 (gCons (gName 2) (gCons (gName 3) (gCons (gName 4) gNil)))) (tSeq (tAsg (tOp rAddI (tVar 6) (tC (.int 1))) (gName 6)) (sDPut (tVar 5) (tVar 2) (tTup (tCons (tVar 6) (tCons (tVar 4) tNil)))))) (tRet (tVar 5))))))
def t__law_ascending (K : PySem.W.Frag) : TS := (tSeq (tFor (iRng1 (tCons (tCB (rLenS K) (tCons (tVar 0) tNil)) tNil)) (gName 3) (tSeq (tIfS (tAnd (tTest (tOp rGtI (tVar 3) (tC (.int 0)))) (tTest (tOp rGeI (tOp (rIxT K) (tVar 0) (tOp rSubI (tVar 3) (tC (.int 1)))) (tOp (rIxT K) (tVar 0) (tVar 3))))) (tRet (tC (.bl false))) tNext) (tIfS (tOr (tAnd (tTest (tOp rNotNo (tVar 1) (tC .non))) (tTest (tOp rLtI (tOp (rIxT K) (tVar 0) (tVar 3)) (tVar 1)))) (tAnd (tTest (tOp rNotNo (tVar 2) (tC .non))) (tTest (tOp rGeI (tOp (rIxT K) (tVar 0) (tVar 3)) (tVar 2))))) (tRet (tC (.bl false))) tNext))) (tRet (tC (.bl true))))
def t__law_below (K : PySem.W.Frag) : TS := (tSeq (tAsg (tLst tNil) (gName 2)) (tSeq (tFor (iRng1 (tCons (tCB (rLenS K) (tCons (tOp (rIxT K) (tVar 0) (tC (.int 5))) tNil)) tNil)) (gName 3) (tSeq (tPar 4 5 (tCons (tOp (rIxT K) (tVar 0) (tC (.int 2))) (tCons (tOp (rIxT K) (tVar 0) (tC (.int 3))) tNil))) (tSeq (tIfS (tTest (tOp rGtI (tVar 3) (tC (.int 0)))) (tAsg (tOp (rIxT K) (tOp (rIxT K) (tVar 0) (tC (.int 4))) (tOp rSubI (tVar 3) (tC (.int 1)))) (gName 4)) tNext) (tSeq (tIfS (tTest (tOp rLtI (tVar 3) (tCB (rLenS K) (tCons (tOp (rIxT K) (tVar 0) (tC (.int 4))) tNil)))) (tAsg (tOp (rIxT K) (tOp (rIxT K) (tVar 0) (tC (.int 4))) (tVar 3)) (gName 5)) tNext) (tDrop (tBM K "list" rAppend (tVar 2) (tCons (tTup (tCons (tOp (rIxT K) (tOp (rIxT K) (tVar 0) (tC (.int 5))) (tVar 3)) (tCons (tVar 4) (tCons (tVar 5) (tCons (tOp rSubI (tVar 1) (tC (.int 1))) tNil))))) tNil))))))) (tRet (tVar 2))))
def t__law_fits (K : PySem.W.Frag) : TS := (tSeq (tAsg (tOp rMulI (tC (.int 2)) (tCB (rIntB) (tCons (tOp rNe (tVar 0) (tC (.int 0))) tNil))) (gName 5)) (tSeq (tIfS (tAnd (tTest (tOp rEq (tOp (rIxT K) (tVar 1) (tC (.int 0))) (tC (.str "leaf")))) (tTest (tOp rEq (tCB (rLenS K) (tCons (tVar 1) tNil)) (tC (.int 5))))) (tSeq (tIfS (tOr (tTest (tOp rGtI (tVar 4) (tC (.int 0)))) (tOr (tTest (tOp (rNeD K) (tSl (rSlA K) (tVar 1) (tPart (tC (.int 1))) (tPart (tC (.int 3)))) (tTup (tCons (tVar 2) (tCons (tVar 3) tNil))))) (tNot (tTest (tChain rLeI rLeI (tVar 5) (tCB (rLenS K) (tCons (tOp (rIxT K) (tVar 1) (tC (.int 3))) tNil)) (tC (.int 4))))))) (tRet (tC (.bl false))) tNext) (tRet (tAndV (tOp rEq (tCB (rLenS K) (tCons (tOp (rIxT K) (tVar 1) (tC (.int 4))) tNil)) (tCB (rLenS K) (tCons (tOp (rIxT K) (tVar 1) (tC (.int 3))) tNil))) (tCall (sp__law_ascending K) [] E0 (tCons (tOp (rIxT K) (tVar 1) (tC (.int 3))) (tCons (tVar 2) (tCons (tVar 3) tNil))))))) tNext) (tSeq (tIfS (tOr (tTest (tOp rNe (tOp (rIxT K) (tVar 1) (tC (.int 0))) (tC (.str "inner")))) (tOr (tTest (tOp rNe (tCB (rLenS K) (tCons (tVar 1) tNil)) (tC (.int 6)))) (tTest (tOp rLtI (tOp (rIxT K) (tVar 1) (tC (.int 1))) (tC (.int 1)))))) (tRet (tC (.bl false))) tNext) (tSeq (tIfS (tOr (tAnd (tTest (tOp rGeI (tVar 4) (tC (.int 0)))) (tTest (tOp rNe (tOp (rIxT K) (tVar 1) (tC (.int 1))) (tVar 4)))) (tTest (tOp (rNeD K) (tSl (rSlA K) (tVar 1) (tPart (tC (.int 2))) (tPart (tC (.int 4)))) (tTup (tCons (tVar 2) (tCons (tVar 3) tNil)))))) (tRet (tC (.bl false))) tNext) (tSeq (tIfS (tOr (tNot (tTest (tChain rLeI rLeI (tC (.int 2)) (tCB (rLenS K) (tCons (tOp (rIxT K) (tVar 1) (tC (.int 5))) tNil)) (tC (.int 5))))) (tTest (tOp rNe (tCB (rLenS K) (tCons (tOp (rIxT K) (tVar 1) (tC (.int 4))) tNil)) (tOp rSubI (tCB (rLenS K) (tCons (tOp (rIxT K) (tVar 1) (tC (.int 5))) tNil)) (tC (.int 1)))))) (tRet (tC (.bl false))) tNext) (tRet (tAndV (tCall (sp__law_ascending K) [] E0 (tCons (tOp (rIxT K) (tVar 1) (tC (.int 4))) (tCons (tVar 2) (tCons (tVar 3) tNil)))) (tOp (rIn K true) (tVar 2) (tOp (rIxT K) (tVar 1) (tC (.int 4)))))))))))
def t__law_map (K : PySem.W.Frag) : TS := (tSeq (tAsg tDNewK (gName 1)) (tSeq (tAsg (tLst (tCons (tTup (tCons (tC (.int 0)) (tCons (tC .non) (tCons (tC .non) (tCons (tUn rNeg (tC (.int 1))) tNil))))) tNil)) (gName 2)) (tSeq (tAsg (tLst tNil) (gName 3)) (tSeq (tFor (iRng1 (tCons (tC (.int 400)) tNil)) (gName 4) (tIfS (tTest (tOp rLtI (tVar 4) (tCB (rLenS K) (tCons (tVar 2) tNil)))) (tSeq (tAsg (tOp (rIxL K) (tVar 2) (tVar 4)) (gTup K 4 (gCons (gName 5) (gCons (gName 6) (gCons (gName 7) (gCons (gName 8) gNil)))))) (tSeq (tIfS (tOr (tTest (tOp (rIn K false) (tVar 5) (tVar 3))) (tB (tDNotIn (tVar 5) (tVar 0)))) (tRet (tC .non)) tNext) (tSeq (tDrop (tBM K "list" rAppend (tVar 3) (tCons (tVar 5) tNil))) (tSeq (tAsg (tOp (rIxT K) (tDGet (tVar 0) (tVar 5)) (tC (.int 1))) (gName 9)) (tSeq (tIfS (tNot (tB (tCall (sp__law_fits K) [] E0 (tCons (tVar 5) (tCons (tVar 9) (tCons (tVar 6) (tCons (tVar 7) (tCons (tVar 8) tNil)))))))) (tRet (tC .non)) tNext) (tIfS (tTest (tOp rEq (tOp (rIxT K) (tVar 9) (tC (.int 0))) (tC (.str "leaf")))) (tFor (iRng1 (tCons (tCB (rLenS K) (tCons (tOp (rIxT K) (tVar 9) (tC (.int 3))) tNil)) tNil)) (gName 10) (sDPut (tVar 1) (tOp (rIxT K) (tOp (rIxT K) (tVar 9) (tC (.int 3))) (tVar 10)) (tOp (rIxT K) (tOp (rIxT K) (tVar 9) (tC (.int 4))) (tVar 10)))) (tAsg (tOp rCat (tVar 2) (tCall (sp__law_below K) [] E0 (tCons (tVar 9) (tCons (tOp (rIxT K) (tVar 9) (tC (.int 1))) tNil)))) (gName 2)))))))) tNext)) (tSeq (tLock (tAsg (tLc (iKeys (tVar 0)) (gName 5) (tTest (tOp rNe (tOp (rIxT K) (tOp (rIxT K) (tDGet (tVar 0) (tVar 5)) (tC (.int 1))) (tC (.int 0))) (tC (.str "free")))) (tVar 5) [5]) (gName 11))) (tSeq (tIfS (tTest (tOp (rNeD K) (tCB (rSortedI K) (tCons (tVar 3) tNil)) (tCB (rSortedI K) (tCons (tVar 11) tNil)))) (tRet (tC .non)) tNext) (tRet (tVar 1))))))))
def t__law_start (K : PySem.W.Frag) : TS := (tRet (tDisp (((tC (.int 0)), (tTup (tCons (tC (.int 100)) (tCons (tTup (tCons (tC (.str "leaf")) (tCons (tC .non) (tCons (tC .non) (tCons (tTup tNil) (tCons (tTup tNil) tNil)))))) tNil)))) :: [])))
def t__law_filled (K : PySem.W.Frag) : TS := (tSeq (tAsg (tCall (sp__law_digits K) [] E0 (tCons (tVar 0) (tCons (tLst (tCons (tC (.int 4)) (tCons (tC (.int 40)) (tCons (tC (.int 7)) (tCons (tC (.int 3)) tNil))))) tNil))) (gName 1)) (tSeq (tAsg (tCall (sp__law_start K) [] E0 tNil) (gName 2)) (tSeq (tAsg tDNewK (gName 3)) (tSeq (tAsg (tOp rModI (tOp (rIxL K) (tVar 1) (tC (.int 1))) (tC (.int 8))) (gName 4)) (tSeq (tIfS (tTest (tOp rEq (tOp (rIxL K) (tVar 1) (tC (.int 0))) (tC (.int 0)))) (tAsg (tOp (rIxL K) (tVar 1) (tC (.int 1))) (gName 4)) tNext) (tSeq (tFor (iRng1 (tCons (tVar 4) tNil)) (gName 5) (tSeq (tAsg (tOp rSubI (tOp rMulI (tOp rModI (tOp rAddI (tOp rMulI (tVar 5) (tOp rAddI (tOp rMulI (tC (.int 2)) (tOp (rIxL K) (tVar 1) (tC (.int 2)))) (tC (.int 1)))) (tOp (rIxL K) (tVar 1) (tC (.int 3)))) (tC (.int 41))) (tC (.int 3))) (tC (.int 60))) (gName 6)) (tSeq (tAsg (tCall (sp__law_planned K) [] E0 (tCons (tVar 2) (tCons (tTup (tCons (tC (.str "put")) (tCons (tVar 6) (tCons (tVar 5) tNil)))) tNil))) (gName 7)) (tSeq (tIfS (tTest (tOp rEq (tOp (rIxT K) (tVar 7) (tC (.int 0))) (tC (.str "change")))) (tSeq (tAsg (tCall (sp__law_applied K) [] E0 (tCons (tVar 2) (tCons (tOp (rIxT K) (tVar 7) (tC (.int 2))) tNil))) (gName 2)) (tIfS (tTest (tOp rIsNo (tVar 2) (tC .non))) (tRet (tTup (tCons (tC .non) (tCons (tVar 3) tNil)))) tNext)) tNext) (sDPut (tVar 3) (tVar 6) (tVar 5)))))) (tRet (tTup (tCons (tVar 2) (tCons (tVar 3) tNil))))))))))
def t__law_fresh (K : PySem.W.Frag) : TS := (tRet (tLst (tCons (tVar 0) (tCons (tLst tNil) (tCons tDNewK (tCons (tC .non) (tCons (tC .non) tNil)))))))
def t__law_wrong (K : PySem.W.Frag) : TS := (tSeq (tIfS (tOr (tTest (tOp rEq (tOp (rIxT K) (tVar 1) (tC (.int 0))) (tC (.str "free")))) (tNot (tB (tCall (sp__law_covers K) [] E0 (tCons (tVar 1) (tCons (tVar 2) tNil)))))) (tRet (tC (.bl true))) tNext) (tSeq (tAsg (tC (.int 0)) (gName 3)) (tSeq (tIfS (tTest (tOp rEq (tOp (rIxT K) (tVar 1) (tC (.int 0))) (tC (.str "inner")))) (tAsg (tOp (rIxT K) (tVar 1) (tC (.int 1))) (gName 3)) tNext) (tRet (tAndV (tOp (rNeD K) (tVar 0) (tLst tNil)) (tOp rNe (tVar 3) (tOp rSubI (tOp (rIxT K) (tOp (rIxT K) (tOp (rIxL K) (tVar 0) (tUn rNeg (tC (.int 1)))) (tC (.int 2))) (tC (.int 1))) (tC (.int 1)))))))))
def t__law_read (K : PySem.W.Frag) : TS := (tSeq (tAsg (tOp (rIxL K) (tVar 0) (tC (.int 1))) (gName 3)) (tSeq (tAsg (tC (.int 0)) (gName 4)) (tSeq (tIfS (tTest (tOp (rNeD K) (tVar 3) (tLst tNil))) (tSeq (tAsg (tOp (rIxT K) (tOp (rIxL K) (tVar 3) (tUn rNeg (tC (.int 1)))) (tC (.int 2))) (gName 5)) (tAsg (tOp (rIxT K) (tOp (rIxT K) (tVar 5) (tC (.int 5))) (tCB (rLenS K) (tCons (tLc (iTup K (tOp (rIxT K) (tVar 5) (tC (.int 4)))) (gName 6) (tTest (tOp rLeI (tVar 6) (tOp (rIxT K) (tOp (rIxL K) (tVar 0) (tC (.int 0))) (tC (.int 1))))) (tVar 6) [6]) tNil))) (gName 4))) tNext) (tSeq (tAsg (tTup (tCons (tVar 4) (tCons (tOp (rIxT K) (tDGet (tVar 1) (tVar 4)) (tC (.int 0))) (tCons (tOp (rIxT K) (tDGet (tVar 1) (tVar 4)) (tC (.int 1))) (tCons (tC (.int 1)) tNil))))) (gName 7)) (tSeq (tIfS (tB (tCall (sp__law_wrong K) [] E0 (tCons (tVar 3) (tCons (tOp (rIxT K) (tVar 7) (tC (.int 2))) (tCons (tOp (rIxT K) (tOp (rIxL K) (tVar 0) (tC (.int 0))) (tC (.int 1))) tNil))))) (tRet (tCall (sp__law_fresh K) [] E0 (tCons (tOp (rIxL K) (tVar 0) (tC (.int 0))) tNil))) tNext) (tSeq (tAsg (tC .non) (gName 8)) (tSeq (tIfS (tTest (tOp rEq (tOp (rIxT K) (tOp (rIxT K) (tVar 7) (tC (.int 2))) (tC (.int 0))) (tC (.str "leaf")))) (tAsg (tOp (rIxT K) (tCall (sp__law_due K) [] E0 (tCons (tVar 2) (tCons (tOp (rIxL K) (tVar 0) (tC (.int 0))) tNil))) (tC (.int 0))) (gName 8)) tNext) (tRet (tLst (tCons (tOp (rIxL K) (tVar 0) (tC (.int 0))) (tCons (tOp rCat (tVar 3) (tLst (tCons (tVar 7) tNil))) (tCons tDNewK (tCons (tVar 8) (tCons (tC .non) tNil))))))))))))))
def t__law_beside (K : PySem.W.Frag) : TS := (tSeq (tAsg (tCB (rDictS) (tCons (tOp (rIxL K) (tVar 0) (tC (.int 2))) tNil)) (gName 3)) (tSeq (tAsg (tTup (tCons (tC (.str "free")) (tCons (tC (.int 0)) tNil))) (gName 4)) (tSeq (tAsg (tUn rNeg (tC (.int 1))) (gName 5)) (tSeq (tIfS (tB (tDIn (tVar 2) (tVar 1))) (tAsg (tDGet (tVar 1) (tVar 2)) (gTup K 2 (gCons (gName 5) (gCons (gName 4) gNil)))) tNext) (tSeq (sDPut (tVar 3) (tVar 2) (tTup (tCons (tVar 2) (tCons (tVar 5) (tCons (tVar 4) (tCons (tC (.int 1)) tNil)))))) (tRet (tLst (tCons (tOp (rIxL K) (tVar 0) (tC (.int 0))) (tCons (tOp (rIxL K) (tVar 0) (tC (.int 1))) (tCons (tVar 3) (tCons (tOp (rIxL K) (tVar 0) (tC (.int 3))) (tCons (tC .non) tNil))))))))))))
def t__law_turn (K : PySem.W.Frag) : TS := (tSeq (tAsg (tOp (rIxL K) (tVar 0) (tC (.int 1))) (gName 3)) (tSeq (tIfS (tOr (tTest (tOp (rEqD K) (tVar 3) (tLst tNil))) (tTest (tOp rNe (tOp (rIxT K) (tOp (rIxT K) (tOp (rIxL K) (tVar 3) (tUn rNeg (tC (.int 1)))) (tC (.int 2))) (tC (.int 0))) (tC (.str "leaf"))))) (tRet (tTup (tCons (tCall (sp__law_read K) [] E0 (tCons (tVar 0) (tCons (tVar 1) (tCons (tVar 2) tNil)))) (tCons (tVar 1) (tCons (tVar 2) (tCons (tC (.bl true)) tNil)))))) tNext) (tSeq (tAsg (tCall (sp_plan K) [] E0 (tCons (tOp (rIxL K) (tVar 0) (tC (.int 0))) (tCons (tCB (rListS K) (tCons (tVar 3) tNil)) (tCons (tCB (rDictS) (tCons (tOp (rIxL K) (tVar 0) (tC (.int 2))) tNil)) tNil)))) (gName 4)) (tSeq (tIfS (tTest (tOp rEq (tOp (rIxT K) (tVar 4) (tC (.int 0))) (tC (.str "read")))) (tRet (tTup (tCons (tCall (sp__law_beside K) [] E0 (tCons (tVar 0) (tCons (tVar 1) (tCons (tOp (rIxT K) (tVar 4) (tC (.int 1))) tNil)))) (tCons (tVar 1) (tCons (tVar 2) (tCons (tC (.bl true)) tNil)))))) tNext) (tSeq (tIfS (tTest (tOp rEq (tOp (rIxT K) (tVar 4) (tC (.int 0))) (tC (.str "answer")))) (tRet (tTup (tCons (tC .non) (tCons (tVar 1) (tCons (tVar 2) (tCons (tOp rEq (tOp (rIxT K) (tVar 4) (tC (.int 1))) (tOp (rIxL K) (tVar 0) (tC (.int 3)))) tNil)))))) tNext) (tSeq (tIfS (tTest (tOp rEq (tOp (rIxT K) (tVar 4) (tC (.int 0))) (tC (.str "stale")))) (tRet (tTup (tCons (tCall (sp__law_fresh K) [] E0 (tCons (tOp (rIxL K) (tVar 0) (tC (.int 0))) tNil)) (tCons (tVar 1) (tCons (tVar 2) (tCons (tC (.bl true)) tNil)))))) tNext) (tSeq (tAsg (tCall (sp__law_applied K) [] E0 (tCons (tVar 1) (tCons (tOp (rIxT K) (tVar 4) (tC (.int 2))) tNil))) (gName 5)) (tSeq (tIfS (tTest (tOp rIsNo (tVar 5) (tC .non))) (tRet (tTup (tCons (tCall (sp__law_fresh K) [] E0 (tCons (tOp (rIxL K) (tVar 0) (tC (.int 0))) tNil)) (tCons (tVar 1) (tCons (tVar 2) (tCons (tC (.bl true)) tNil)))))) tNext) (tSeq (tAsg (tCall (sp__law_due K) [] E0 (tCons (tVar 2) (tCons (tOp (rIxL K) (tVar 0) (tC (.int 0))) tNil))) (gTup K 2 (gCons (gName 6) (gCons (gName 2) gNil)))) (tRet (tTup (tCons (tC .non) (tCons (tVar 5) (tCons (tVar 2) (tCons (tAndV (tOp rEq (tOp (rIxT K) (tVar 4) (tC (.int 1))) (tVar 6)) (tOp rEqDA (tCall (sp__law_map K) [] E0 (tCons (tVar 5) tNil)) (tVar 2))) tNil)))))))))))))))
def t_law (K : PySem.W.Frag) : TS := (tSeq (tAsg (tCall (sp__law_filled K) [] E0 (tCons (tCall (sp__law_cell K) [] E0 (tCons (tVar 0) (tCons (tC (.int 0)) tNil))) tNil)) (gTup K 2 (gCons (gName 1) (gCons (gName 2) gNil)))) (tSeq (tIfS (tTest (tOp rIsNo (tVar 1) (tC .non))) (tRet (tC (.bl false))) tNext) (tSeq (tAsg (tOp (rIxL K) (tLst (tCons (tC (.int 6)) (tCons (tC (.int 20)) (tCons (tC (.int 60)) (tCons (tC (.int 130)) tNil))))) (tOp rModI (tOp rDivI (tCB (rIntB) (tCons (tCall (sp__law_cell K) [] E0 (tCons (tVar 0) (tCons (tC (.int 0)) tNil))) tNil)) (tC (.int 7))) (tC (.int 4)))) (gName 3)) (tSeq (tAsg (tLc (iRng1 (tCons (tC (.int 3)) tNil)) (gName 5) tYes (tCall (sp__law_fresh K) [] E0 (tCons (tCall (sp__law_call K) [] E0 (tCons (tOp rAddI (tCall (sp__law_cell K) [] E0 (tCons (tVar 0) (tCons (tVar 5) tNil))) (tOp rMulI (tC (.int 17)) (tVar 5))) (tCons (tVar 3) (tCons (tVar 2) tNil)))) tNil)) [5]) (gName 4)) (tSeq (tFor (iRng1 (tCons (tCB (rMin2) (tCons (tCB (rLenS K) (tCons (tVar 0) tNil)) (tCons (tCall (sp__law_many K) [] E0 (tCons (tVar 0) (tCons (tC (.int 20)) (tCons (tC (.int 60)) tNil)))) tNil))) tNil)) (gName 6) (tSeq (tAsg (tCB (rIntB) (tCons (tCall (sp__law_cell K) [] E0 (tCons (tVar 0) (tCons (tVar 6) tNil))) tNil)) (gName 7)) (tFor (iRng1 (tCons (tOp rAddI (tC (.int 1)) (tOp rModI (tOp rDivI (tVar 7) (tC (.int 3))) (tC (.int 4)))) tNil)) (gName 8) (tSeq (tAsg (tOp rModI (tOp rAddI (tVar 7) (tOp rMulI (tVar 8) (tOp rModI (tOp rDivI (tVar 7) (tC (.int 12))) (tC (.int 2))))) (tC (.int 3))) (gName 9)) (tSeq (tAsg (tCall (sp__law_turn K) [] E0 (tCons (tOp (rIxL K) (tVar 4) (tVar 9)) (tCons (tVar 1) (tCons (tVar 2) tNil)))) (gTup K 4 (gCons (gName 10) (gCons (gName 1) (gCons (gName 2) (gCons (gName 11) gNil)))))) (tSeq (tIfS (tNot (tB (tVar 11))) (tRet (tC (.bl false))) tNext) (tSeq (tIfS (tTest (tOp rIsNo (tVar 10) (tC .non))) (tAsg (tCall (sp__law_fresh K) [] E0 (tCons (tCall (sp__law_call K) [] E0 (tCons (tOp rAddI (tOp rAddI (tOp rDivI (tVar 7) (tC (.int 24))) (tOp rMulI (tC (.int 7)) (tVar 6))) (tVar 8)) (tCons (tVar 3) (tCons (tVar 2) tNil)))) tNil)) (gName 10)) tNext) (tAsg (tVar 10) (gSub (tVar 4) (tVar 9) rSetL))))))))) (tRet (tOp rEqDA (tCall (sp__law_map K) [] E0 (tCons (tVar 1) tNil)) (tVar 2))))))))
end Esp

/-! The law's defs, part 1. -/
namespace Esp
open PySem L2 PyProof.Rows PySem.Spec
local macro_rules | `(tactic| walk_at "ev") => `(tactic| repeat' (first
  | exact ev_int | exact ev_str | exact ev_bl | exact ev_non | exact ea_nil | exact eo_none | exact et_yes
  | exact ev_var rfl | exact evx_own rfl
  | apply ea_cons | apply eo_some | apply ev_tup (hl := by first | decide | (simp; done))
  | apply ev_op | apply ev_neg
  | apply ev_sl | apply ev_chain
  | apply ev_andV | apply ev_orV | apply ev_notV
  | apply et_test | apply et_B | apply et_not | apply et_and | apply et_or
  | exact rv_i | exact rv_b | exact rv_eqi | exact rv_nei | exact rv_eqs_t (by with_reducible rfl) | exact rv_eqs_f (by decide +kernel) | exact rv_nes_t (by with_reducible rfl) | exact rv_nes_f (by decide +kernel)
  | exact rv_isN | exact rv_notN
  | exact rv_ixT rfl | exact rv_ixL rfl | apply rv_ixT | apply rv_ixL
  | apply ev_cb (hr := rc_lenT) | apply ev_cb (hr := rc_lenL) | apply ev_cb (hr := rc_int) | apply ev_cb (hr := rc_tupT) | apply ev_cb (hr := rc_all)
  | apply Ev.x | (intro _)))
local macro_rules | `(tactic| walk_at "gs") => `(tactic| repeat' (first | exact gs_nil | apply gs_cons | exact g_name (by simp) | apply g_tup (hn := rfl)))
section
variable {K : PySem.W.Frag} {C : Addr} {B H0 : Hp} {nx bk ct : List Sl → Prop} {ss : List Sl} {te : TE}
theorem do__law_cell (p : List Int × Nat) : Do K C [] B H0 (t__law_cell K) [.val (.scr p.1), .val (.int p.2)] nx bk ct (fun d _ => d = .int (cellOf p.1 p.2)) := by
  obtain ⟨ns, k⟩ := p
  refine do_seq (do_if (b' := decide ((k : Int) < (ns.length : Int))) (et_test (ev_op (d := .int k) (e := .int ns.length) (Ev.x (ev_var rfl)) (Ev.x (ev_cb (Ev.x (ev_var rfl)) rc_lenS)) rv_b)) (fun hb => ?_) (fun hb => do_next (do_ret ev_int ?_)))
  · have hb : (k : Int) < (ns.length : Int) := of_decide_eq_true hb
    have hk : k < ns.length := by omega
    refine do_ret (ev_cb (d := .int ns[k]) (Ev.x (ev_op (d := .scr ns) (e := .int k) (Ev.x (ev_var rfl)) (Ev.x (ev_var rfl)) (rv_ixS (atI_nat (List.getElem?_eq_getElem hk))))) rc_int) ?_
    show D.int _ = D.int (cellOf ns k)
    unfold cellOf
    rw [List.getD_eq_getElem?_getD, List.getElem?_eq_getElem hk]
    rfl
  · have hb : ¬ (k : Int) < (ns.length : Int) := of_decide_eq_false hb
    show D.int _ = D.int (cellOf ns k)
    unfold cellOf
    rw [List.getD_eq_getElem?_getD, List.getElem?_eq_none (Int.ofNat_le.mp (Int.not_lt.mp hb))]
    rfl
theorem digitsGo_len (c : Int) : ∀ (bs : List Int) (n : Nat) (r : Int), (digitsGo c bs n r).length = bs.length
  | [], _, _ => rfl
  | b :: bs, n, r => by
    unfold digitsGo
    split <;> rw [List.length_cons, List.length_cons, digitsGo_len c bs]
theorem digitsOf_len (c : Int) (bs : List Int) : (digitsOf c bs).length = bs.length := digitsGo_len c bs 0 c
theorem digitsGo_get (c : Int) : ∀ (bs : List Int) (n : Nat) (r : Int), (∀ b ∈ bs, 0 < b) → ∀ (i : Nat) b, bs[i]? = some b → ∃ x, (digitsGo c bs n r)[i]? = some x ∧ 0 ≤ x ∧ x < b
  | [], _, _, _, i, b, h => by simp at h
  | b0 :: bs, n, r, hb, i, b, h => by
    have h0 : 0 < b0 := hb b0 List.mem_cons_self
    unfold digitsGo
    cases i with
    | zero =>
      rw [List.getElem?_cons_zero, Option.some.injEq] at h
      subst h
      split
      · exact ⟨_, rfl, Int.emod_nonneg _ (by omega), Int.emod_lt_of_pos _ h0⟩
      · exact ⟨_, rfl, Int.emod_nonneg _ (by omega), Int.emod_lt_of_pos _ h0⟩
    | succ i =>
      simp only [List.getElem?_cons_succ] at h
      split
      · exact digitsGo_get c bs _ _ (fun b hb' => hb b (List.mem_cons_of_mem _ hb')) i b h
      · exact digitsGo_get c bs _ _ (fun b hb' => hb b (List.mem_cons_of_mem _ hb')) i b h
theorem dig_get {c : Int} {bs : List Int} (h : ∀ b ∈ bs, 0 < b) {i : Nat} {b : Int} (e : bs[i]? = some b) : (digitsOf c bs)[i]? = some (dig c bs i) ∧ 0 ≤ dig c bs i ∧ dig c bs i < b := by
  obtain ⟨x, h1, h2, h3⟩ := digitsGo_get c bs 0 c h i b e
  have e2 : dig c bs i = x := by
    unfold dig digitsOf
    rw [List.getD_eq_getElem?_getD, h1]
    rfl
  rw [e2]
  exact ⟨h1, h2, h3⟩
theorem do__law_digits (p : Int × List Int) (h : p.2.length ≤ 50 ∧ ∀ b ∈ p.2, 0 < b ∧ b < 1073741824) :
    Do K C [] B H0 (t__law_digits K) [.val (.int p.1), .val (.lst (p.2.map D.int)), .no, .no, .no, .no] nx bk ct (fun d _ => d = .lst ((digitsOf p.1 p.2).map D.int)) := by
  obtain ⟨c, bs⟩ := p
  obtain ⟨h1, h2⟩ := h
  have h1 : bs.length ≤ 50 := h1
  have h2 : ∀ b ∈ bs, 0 < b ∧ b < 1073741824 := h2
  refine do_seq (do_asgN (evn_lst ea_nil (by simp)) ?_ (by simp))
  refine do_seq (do_asg (ev_cb (d := .int c) (Ev.x (ev_var rfl)) rc_int) ?_ (by simp))
  refine do_seq (do_forL (l := bs.map D.int) (ev_var rfl) (fun i ss => ∃ (acc : List Int) (r : Int) (x4 x5 : Sl), ss = [.val (.int c), .val (.lst (bs.map D.int)), .own (.lst (acc.map D.int)), .val (.int r), x4, x5] ∧ acc.length = i ∧ acc ++ digitsGo c (bs.drop i) i r = digitsOf c bs) ⟨[], c, _, _, rfl, rfl, rfl⟩ ?_ ?_)
  · rintro i d ss hi ⟨acc, r, x4, x5, rfl, ha, he⟩
    rw [List.getElem?_map] at hi
    cases e0 : bs[i]? with
    | none => rw [e0] at hi; cases hi
    | some b =>
      rw [e0] at hi
      cases hi
      obtain ⟨hb, hb'⟩ := h2 b (List.mem_of_getElem? e0)
      have hlt : i < bs.length := (List.getElem?_eq_some_iff.mp e0).1
      have hd : bs.drop i = b :: bs.drop (i + 1) := by
        rw [List.drop_eq_getElem_cons hlt]
        rw [List.getElem?_eq_getElem hlt] at e0
        cases e0
        rfl
      rw [hd] at he
      unfold digitsGo at he
      refine ⟨_, g_name (by simp), ?_⟩
      refine do_if (b' := decide (10 ^ 18 ≤ c)) (et_test (ev_op (d := .int c) (e := .int (10 ^ 18)) (Ev.x (ev_var rfl)) (Ev.x (ev_op (d := .int 10) (e := .int 18) (Ev.x ev_int) (Ev.x ev_int) (rv_ic ⟨by decide, by decide, by decide⟩))) rv_b)) (fun hc => ?_) (fun hc => ?_)
      · rw [if_pos (of_decide_eq_true hc)] at he
        refine do_seq (do_app (i := 2) rfl (ev_op (d := .int r) (e := .int b) (Ev.x (ev_cb (Ev.x (ev_var rfl)) rc_int)) (Ev.x (ev_var rfl)) (rv_ic hb)) (by rw [List.length_map]; omega) ?_)
        refine do_asg (ev_op (d := .int r) (e := .int b) (Ev.x (ev_var rfl)) (Ev.x (ev_var rfl)) (rv_ic ⟨hb, hb'⟩)) ⟨acc ++ [r % b], r / b, .val (.int b), x5, ?_, ?_, ?_⟩ (by simp)
        · rw [List.map_append]; rfl
        · rw [List.length_append, ha]; rfl
        · rw [List.append_assoc]; exact he
      · rw [if_neg (of_decide_eq_false hc)] at he
        refine do_seq (do_asg (d := .int ((r * 48271 + 1009 * (i : Int) + 12345) % 2147483647)) (ev_op (d := .int (r * 48271 + 1009 * (i : Int) + 12345)) (e := .int 2147483647) (Ev.x (ev_op (d := .int (r * 48271 + 1009 * (i : Int))) (e := .int 12345) (Ev.x (ev_op (d := .int (r * 48271)) (e := .int (1009 * (i : Int)))
          (Ev.x (ev_op (d := .int r) (e := .int 48271) (Ev.x (ev_cb (Ev.x (ev_var rfl)) rc_int)) (Ev.x ev_int) (rv_ic (.inr ⟨by decide, by decide⟩))))
          (Ev.x (ev_op (d := .int 1009) (e := .int i) (Ev.x ev_int) (Ev.x (Ev.is (ev_cb (evx_own rfl) rc_lenL) (by rw [List.length_map, ha]))) (rv_ic (.inl ⟨by decide, by decide⟩)))) rv_i)) (Ev.x ev_int) rv_i)) (Ev.x ev_int) (rv_ic (by decide))) ?_ (by simp))
        generalize hr : (r * 48271 + 1009 * (i : Int) + 12345) % 2147483647 = r' at he
        have hr1 : 0 ≤ r' := by rw [← hr]; exact Int.emod_nonneg _ (by decide)
        have hr2 : r' < 2147483647 := by rw [← hr]; exact Int.emod_lt_of_pos _ (by decide)
        refine do_seq (do_asg (d := .int (r' * r' % 2147483629)) (ev_op (d := .int (r' * r')) (e := .int 2147483629) (Ev.x (ev_op (d := .int r') (e := .int r') (Ev.x (ev_cb (Ev.x (ev_var rfl)) rc_int)) (Ev.x (ev_cb (Ev.x (ev_var rfl)) rc_int)) (rv_ic (.inl ⟨by omega, by omega⟩)))) (Ev.x ev_int) (rv_ic (by decide))) ?_ (by simp))
        refine do_app (i := 2) (d := .int (r' * r' % 2147483629 / 13 % b)) rfl (ev_op (d := .int (r' * r' % 2147483629 / 13)) (e := .int b) (Ev.x (ev_op (d := .int (r' * r' % 2147483629)) (e := .int 13) (Ev.x (ev_cb (Ev.x (ev_var rfl)) rc_int)) (Ev.x ev_int) (rv_ic ⟨by decide, by decide⟩))) (Ev.x (ev_var rfl)) (rv_ic hb)) (by rw [List.length_map]; omega) ⟨acc ++ [r' * r' % 2147483629 / 13 % b], r', .val (.int b), .val (.int (r' * r' % 2147483629)), ?_, ?_, ?_⟩
        · rw [List.map_append]; rfl
        · rw [List.length_append, ha]; rfl
        · rw [List.append_assoc]; exact he
  · rintro ss ⟨acc, r, x4, x5, rfl, ha, he⟩
    refine do_freeze 2 rfl (do_ret (ev_var rfl) ?_)
    rw [List.length_map] at he
    rw [List.drop_length] at he
    rw [← he]
    show D.lst (acc.map D.int) = D.lst ((acc ++ digitsGo c [] bs.length r).map D.int)
    unfold digitsGo
    rw [List.append_nil]
theorem do__law_many (p : List Int × Int × Int) : Do K C [] B H0 (t__law_many K) [.val (.scr p.1), .val (.int p.2.1), .val (.int p.2.2)] nx bk ct (fun d _ => d = .int (manyOf p.1 p.2.1 p.2.2)) := by
  obtain ⟨ns, few, many⟩ := p
  have h0 : Ev K C (tOp rGtI (tCB (rLenS K) (tCons (tVar 0) tNil)) (tC (.int 0))) [.val (.scr ns), .val (.int few), .val (.int many)] (.bl (decide ((0 : Int) < (ns.length : Int)))) := ev_op (d := .int ns.length) (e := .int 0) (Ev.x (ev_cb (Ev.x (ev_var rfl)) rc_lenS)) (Ev.x ev_int) rv_b
  refine do_seq (do_if (et_and (b := decide (cellOf ns 0 / 1009 % 5 = 1)) (et_test h0) (fun hb => et_test ?_)) (fun hb => ?_) (fun hb => do_next ?_))
  · have hb : (0 : Int) < (ns.length : Int) := of_decide_eq_true hb
    have hk : 0 < ns.length := by omega
    have e0 : ns[0]? = some (cellOf ns 0) := by
      unfold cellOf
      rw [List.getD_eq_getElem?_getD, List.getElem?_eq_getElem hk]
      rfl
    exact ev_op (d := .int (cellOf ns 0 / 1009 % 5)) (e := .int 1) (Ev.x (ev_op (d := .int (cellOf ns 0 / 1009)) (e := .int 5) (Ev.x (ev_op (d := .int (cellOf ns 0)) (e := .int 1009) (Ev.x (ev_cb (Ev.x (ev_op (d := .scr ns) (e := .int 0) (Ev.x (ev_var rfl)) (Ev.x ev_int) (rv_ixS (atI_nat (j := 0) e0)))) rc_int)) (Ev.x ev_int) (rv_ic ⟨by decide, by decide⟩))) (Ev.x ev_int) (rv_ic (by decide)))) (Ev.x ev_int) rv_eqi
  · rw [Bool.and_eq_true, decide_eq_true_eq, decide_eq_true_eq] at hb
    refine do_ret (ev_var rfl) ?_
    show D.int many = D.int (manyOf ns few many)
    unfold manyOf
    rw [if_pos ⟨by omega, hb.2⟩]
  · refine do_ret (ev_var rfl) ?_
    show D.int few = D.int (manyOf ns few many)
    unfold manyOf
    rw [if_neg]
    rintro ⟨z1, z2⟩
    rw [decide_eq_true z2, decide_eq_true (show (0 : Int) < ns.length by omega)] at hb
    cases hb
theorem do__law_covers (p : Rec × Int) (h : p.1.live = true) : Do K C [] B H0 (t__law_covers K) [.val p.1.d, .val (.int p.2), .no, .no] nx bk ct (fun d _ => d = .bl (coversB p.1 p.2)) := by
  obtain ⟨r, k⟩ := p
  have main : ∀ (lo hi : Option Int), Ev K C (tAndV (tOrV (tOp rIsNo (tVar 2) (tC .non)) (tOp rLeI (tVar 2) (tVar 1))) (tOrV (tOp rIsNo (tVar 3) (tC .non)) (tOp rLtI (tVar 1) (tVar 3)))) [.val r.d, .val (.int k), .val (oD lo), .val (oD hi)] (.bl (aboveB k lo && belowB k hi)) := fun lo hi => by
    have h1 : Ev K C (tOrV (tOp rIsNo (tVar 2) (tC .non)) (tOp rLeI (tVar 2) (tVar 1))) [.val r.d, .val (.int k), .val (oD lo), .val (oD hi)] (.bl (aboveB k lo)) := by
      cases lo with
      | none => exact ev_orV (a := true) (b := true) (ev_op (d := .non) (Ev.x (ev_var rfl)) (Ev.x ev_non) rv_isN) (fun z => nomatch z)
      | some l => exact ev_orV (a := false) (b := decide (l ≤ k)) (ev_op (d := .int l) (Ev.x (ev_var rfl)) (Ev.x ev_non) rv_isN) (fun _ => ev_op (d := .int l) (e := .int k) (Ev.x (ev_var rfl)) (Ev.x (ev_var rfl)) rv_b)
    have h2 : Ev K C (tOrV (tOp rIsNo (tVar 3) (tC .non)) (tOp rLtI (tVar 1) (tVar 3))) [.val r.d, .val (.int k), .val (oD lo), .val (oD hi)] (.bl (belowB k hi)) := by
      cases hi with
      | none => exact ev_orV (a := true) (b := true) (ev_op (d := .non) (Ev.x (ev_var rfl)) (Ev.x ev_non) rv_isN) (fun z => nomatch z)
      | some l => exact ev_orV (a := false) (b := decide (k < l)) (ev_op (d := .int l) (Ev.x (ev_var rfl)) (Ev.x ev_non) rv_isN) (fun _ => ev_op (d := .int k) (e := .int l) (Ev.x (ev_var rfl)) (Ev.x (ev_var rfl)) rv_b)
    exact ev_andV h1 fun _ => h2
  cases r with
  | free n => cases h
  | leaf lo hi ks vs => exact do_seq (do_par (d := oD lo) (e := oD hi) (by walk_at "ev") (do_ret (main lo hi) rfl) (by simp) (by simp))
  | inner lv lo hi ks ps => exact do_seq (do_par (d := oD lo) (e := oD hi) (by walk_at "ev") (do_ret (main lo hi) rfl) (by simp) (by simp))
end
end Esp

/-! The law's defs, part 2. -/
namespace Esp
open PySem L2 PyProof.Rows PySem.Spec
local macro_rules | `(tactic| walk_at "ev") => `(tactic| repeat' (first
  | exact ev_int | exact ev_str | exact ev_bl | exact ev_non | exact ea_nil | exact eo_none | exact et_yes
  | exact ev_var rfl | exact evx_own rfl
  | apply ea_cons | apply eo_some | apply ev_tup (hl := by first | decide | (simp; done))
  | apply ev_op | apply ev_neg
  | apply ev_sl | apply ev_chain
  | apply ev_andV | apply ev_orV | apply ev_notV
  | apply et_test | apply et_B | apply et_not | apply et_and | apply et_or
  | exact rv_i | exact rv_b | exact rv_eqi | exact rv_nei | exact rv_eqs_t (by with_reducible rfl) | exact rv_eqs_f (by decide +kernel) | exact rv_nes_t (by with_reducible rfl) | exact rv_nes_f (by decide +kernel)
  | exact rv_isN | exact rv_notN
  | exact rv_ixT rfl | exact rv_ixL rfl | apply rv_ixT | apply rv_ixL
  | apply ev_cb (hr := rc_lenT) | apply ev_cb (hr := rc_lenL) | apply ev_cb (hr := rc_int) | apply ev_cb (hr := rc_tupT) | apply ev_cb (hr := rc_all)
  | apply Ev.x | (intro _)))
local macro_rules | `(tactic| walk_at "gs") => `(tactic| repeat' (first | exact gs_nil | apply gs_cons | exact g_name (by simp) | apply g_tup (hn := rfl)))
section
variable {K : PySem.W.Frag} {C : Addr} {B H0 : Hp} {nx bk ct : List Sl → Prop} {ss : List Sl} {te : TE}
/-! ### is a list empty -/
theorem lay_all {α : Type} {f : α → D} : ∀ {l : List α}, (∀ x ∈ l, plainD (f x) = true ∧ (pyD (f x)).canLay0 = true ∧ (pyD (f x)).depth ≤ 60) → plainL (l.map f) = true ∧ PyData.canLayAll0 (pyL (l.map f)) = true ∧ PyData.depthAll (pyL (l.map f)) ≤ 60
  | [], _ => ⟨rfl, rfl, by rw [List.map_nil, show pyL [] = [] from rfl, PyData.depthAll]; omega⟩
  | x :: l, h => by
    obtain ⟨h1, h2, h3⟩ := h x List.mem_cons_self
    obtain ⟨i1, i2, i3⟩ := lay_all (l := l) fun y hy => h y (List.mem_cons_of_mem _ hy)
    refine ⟨?_, ?_, ?_⟩
    · show (plainD (f x) && plainL (l.map f)) = true
      rw [h1, i1]; rfl
    · show PyData.canLayAll0 (pyD (f x) :: pyL (l.map f)) = true
      rw [PyData.canLayAll0, h2, i2]; rfl
    · show PyData.depthAll (pyD (f x) :: pyL (l.map f)) ≤ 60
      rw [PyData.depthAll]
      omega
theorem lay_lst {α : Type} {f : α → D} {l : List α} (h : ∀ x ∈ l, plainD (f x) = true ∧ (pyD (f x)).canLay0 = true ∧ (pyD (f x)).depth ≤ 60) : plainD (.lst (l.map f)) = true ∧ SeqAt.shaped (pyD (.lst (l.map f))) = true := by
  obtain ⟨i1, i2, i3⟩ := lay_all h
  refine ⟨i1, ?_⟩
  show ((PyData.list (pyL (l.map f))).canLay0 && decide ((PyData.list (pyL (l.map f))).depth ≤ 64)) = true
  rw [PyData.canLay0, PyData.depth, i2, Bool.true_and, decide_eq_true_eq]
  omega
theorem eqv_nil {l : List D} : PyData.eqv (pyD (.lst l)) (pyD (.lst [])) = l.isEmpty := by
  cases l with
  | nil => rfl
  | cons a l => rfl
theorem rv_neNil {α : Type} {f : α → D} {l : List α} (h : ∀ x ∈ l, plainD (f x) = true ∧ (pyD (f x)).canLay0 = true ∧ (pyD (f x)).depth ≤ 60) : RV K (rNeD K) (.lst (l.map f)) (.lst []) (.bl (!l.isEmpty)) := by
  have q := rv_neD (K := K) (lay_lst h).1 (show plainD (.lst []) = true from rfl) (lay_lst h).2 (show SeqAt.shaped (pyD (.lst [])) = true by decide)
  rw [eqv_nil, List.isEmpty_map] at q
  exact q
theorem rv_eqNil {α : Type} {f : α → D} {l : List α} (h : ∀ x ∈ l, plainD (f x) = true ∧ (pyD (f x)).canLay0 = true ∧ (pyD (f x)).depth ≤ 60) : RV K (rEqD K) (.lst (l.map f)) (.lst []) (.bl l.isEmpty) := by
  have q := rv_eqD (K := K) (lay_lst h).1 (show plainD (.lst []) = true from rfl) (lay_lst h).2 (show SeqAt.shaped (pyD (.lst [])) = true by decide)
  rw [eqv_nil, List.isEmpty_map] at q
  exact q
theorem lay_int (i : Int) : plainD (D.int i) = true ∧ (pyD (D.int i)).canLay0 = true ∧ (pyD (D.int i)).depth ≤ 1 := ⟨rfl, rfl, by simp [pyD, PyData.depth]⟩
theorem lay_ints : ∀ (l : List Int), plainL (l.map D.int) = true ∧ PyData.canLayAll0 (pyL (l.map D.int)) = true ∧ PyData.depthAll (pyL (l.map D.int)) ≤ 1
  | [] => ⟨rfl, rfl, by decide⟩
  | x :: l => by
    obtain ⟨i1, i2, i3⟩ := lay_ints l
    obtain ⟨h1, h2, h3⟩ := lay_int x
    refine ⟨?_, ?_, ?_⟩
    · show (plainD (D.int x) && plainL (l.map D.int)) = true
      rw [h1, i1]; rfl
    · show PyData.canLayAll0 (pyD (D.int x) :: pyL (l.map D.int)) = true
      rw [PyData.canLayAll0, h2, i2]; rfl
    · show PyData.depthAll (pyD (D.int x) :: pyL (l.map D.int)) ≤ 1
      rw [PyData.depthAll]
      omega
theorem lay_iL (l : List Int) : plainD (iL l) = true ∧ (pyD (iL l)).canLay0 = true ∧ (pyD (iL l)).depth ≤ 2 := by
  obtain ⟨i1, i2, i3⟩ := lay_ints l
  refine ⟨i1, ?_, ?_⟩
  · show (PyData.tuple (pyL (l.map D.int))).canLay0 = true
    rw [PyData.canLay0]; exact i2
  · show (PyData.tuple (pyL (l.map D.int))).depth ≤ 2
    rw [PyData.depth]; omega
theorem lay_o (o : Option Int) : plainD (oD o) = true ∧ (pyD (oD o)).canLay0 = true ∧ (pyD (oD o)).depth ≤ 1 := by cases o <;> exact ⟨rfl, rfl, by simp [oD, pyD, PyData.depth]⟩
theorem lay_tup : ∀ {l : List D} {n : Nat}, (∀ d ∈ l, plainD d = true ∧ (pyD d).canLay0 = true ∧ (pyD d).depth ≤ n) → plainD (.tup l) = true ∧ (pyD (.tup l)).canLay0 = true ∧ (pyD (.tup l)).depth ≤ n + 1 := by
  intro l n h
  have main : plainL l = true ∧ PyData.canLayAll0 (pyL l) = true ∧ PyData.depthAll (pyL l) ≤ n := by
    induction l with
    | nil => exact ⟨rfl, rfl, by rw [show pyL [] = [] from rfl, PyData.depthAll]; omega⟩
    | cons x l ih =>
      obtain ⟨h1, h2, h3⟩ := h x List.mem_cons_self
      obtain ⟨i1, i2, i3⟩ := ih fun y hy => h y (List.mem_cons_of_mem _ hy)
      refine ⟨?_, ?_, ?_⟩
      · show (plainD x && plainL l) = true
        rw [h1, i1]; rfl
      · show PyData.canLayAll0 (pyD x :: pyL l) = true
        rw [PyData.canLayAll0, h2, i2]; rfl
      · show PyData.depthAll (pyD x :: pyL l) ≤ n
        rw [PyData.depthAll]; omega
  refine ⟨main.1, ?_, ?_⟩
  · show (PyData.tuple (pyL l)).canLay0 = true
    rw [PyData.canLay0]; exact main.2.1
  · show (PyData.tuple (pyL l)).depth ≤ n + 1
    rw [PyData.depth]; omega
theorem lay_up {d : D} {n m : Nat} (h : plainD d = true ∧ (pyD d).canLay0 = true ∧ (pyD d).depth ≤ n) (hm : n ≤ m) : plainD d = true ∧ (pyD d).canLay0 = true ∧ (pyD d).depth ≤ m := ⟨h.1, h.2.1, Nat.le_trans h.2.2 hm⟩
theorem lay_rec (r : Rec) : plainD r.d = true ∧ (pyD r.d).canLay0 = true ∧ (pyD r.d).depth ≤ 3 := by
  cases r with
  | leaf lo hi ks vs =>
    refine lay_tup (n := 2) fun d hd => ?_
    simp only [List.mem_cons, List.not_mem_nil, or_false] at hd
    rcases hd with rfl | rfl | rfl | rfl | rfl
    · exact ⟨rfl, by decide +kernel, by decide⟩
    · exact lay_up (lay_o _) (by omega)
    · exact lay_up (lay_o _) (by omega)
    · exact lay_iL _
    · exact lay_iL _
  | inner lv lo hi ks ps =>
    refine lay_tup (n := 2) fun d hd => ?_
    simp only [List.mem_cons, List.not_mem_nil, or_false] at hd
    rcases hd with rfl | rfl | rfl | rfl | rfl | rfl
    · exact ⟨rfl, by decide +kernel, by decide⟩
    · exact lay_up (lay_int _) (by omega)
    · exact lay_up (lay_o _) (by omega)
    · exact lay_up (lay_o _) (by omega)
    · exact lay_iL _
    · exact lay_iL _
  | free n =>
    refine lay_tup (n := 2) fun d hd => ?_
    simp only [List.mem_cons, List.not_mem_nil, or_false] at hd
    rcases hd with rfl | rfl
    · exact ⟨rfl, by decide +kernel, by decide⟩
    · exact lay_up (lay_int _) (by omega)
theorem lay_step (t : Step) : plainD t.d = true ∧ (pyD t.d).canLay0 = true ∧ (pyD t.d).depth ≤ 60 := by
  refine lay_up (lay_tup (n := 3) fun d hd => ?_) (by omega)
  simp only [List.mem_cons, List.not_mem_nil, or_false] at hd
  rcases hd with rfl | rfl | rfl | rfl
  · exact lay_up (lay_int _) (by omega)
  · exact lay_up (lay_int _) (by omega)
  · exact lay_rec _
  · exact lay_up (lay_int _) (by omega)
/-! ### defs -/
theorem do__law_start : Do K C [] B H0 (t__law_start K) [] nx bk ct (fun d _ => d = pagesD startPg) := by
  refine do_ret (d := pagesD startPg) ?_ rfl
  refine EvN.ev fun A B1 H1 B H σ O Q q p hp => ?_
  show tPairs _ σ (upd H p (.dK [])) _
  have O2 : Ok K C A B1 H1 B (upd H p (.dK [])) σ ([] : List Sl) := O.grow (Gr.newH O.ex hp)
  refine (ev_int (K := K) (C := C) (ss := []) (i := 0)) A B1 H1 B _ σ O2 _ fun k B2 H2 g2 r2 => ?_
  have hv : Ev K C (tTup (tCons (tC (.int 100)) (tCons (tTup (tCons (tC (.str "leaf")) (tCons (tC .non) (tCons (tC .non) (tCons (tTup tNil) (tCons (tTup tNil) tNil)))))) tNil))) ([] : List Sl) (pgD (100, .leaf none none [] [])) := ev_tup (ea_cons ev_int (ea_cons (ev_tup (ea_cons ev_str (ea_cons ev_non (ea_cons ev_non (ea_cons (ev_tup ea_nil (by simp)) (ea_cons (ev_tup ea_nil (by simp)) ea_nil))))) (by simp)) ea_nil)) (by simp)
  refine hv A B1 H1 B2 H2 σ (O2.grow g2) _ fun v B3 H3 g3 r3 => ?_
  cases r2
  have g := g2.trans g3
  have e : H3 p = some (.dK []) := g.ex _ _ upd_same
  refine ⟨e, [(Sum.inl 0, v)], rfl, by simp, ?_⟩
  have hbp : B3 p = none := g.still (none_b O.ex hp) (by rw [upd_same]; simp)
  refine q p B3 (upd H3 p (.dK (mergeK [] [(Sum.inl 0, v)]))) ⟨g.b, fun a u z => ?_, fun a u n z => ?_, fun a n => ?_, fun a n1 n2 => ?_⟩ hp hbp (.dct upd_same (.cons r3 .nil))
  · rw [upd_ne (fun w => by rw [w, hbp] at z; cases z)]
    exact g.bh a u z
  · have w : a ≠ p := ne_of_none z hp
    rw [upd_ne w]
    exact g.ex a u (by rw [upd_ne w]; exact z)
  · exact k_upd a (g.k a (by
      by_cases w : a = p
      · rw [w, upd_same]; simp
      · rw [upd_ne w]; exact n))
  · have z := g.nw a n1 n2
    by_cases w : a = p
    · rw [w, hbp] at n2; exact absurd rfl n2
    · rw [upd_ne w] at z; exact z
theorem do__law_fresh (c : Call) : Do K C [] B H0 (t__law_fresh K) [.val c.d] nx bk ct (fun d _ => d = (freshW c).d) :=
  do_ret (EvN.ev (evn_lst (ea_cons (ev_var rfl) (ea_cons (EvN.ev (evn_lst ea_nil (by simp))) (ea_cons (EvN.ev evn_dict) (ea_cons ev_non (ea_cons ev_non ea_nil))))) (by simp))) rfl
theorem do__law_ascending (p : List Int × Option Int × Option Int) (h : p.1.length ≤ 50 ∧ ascB p.1 = true ∧ ∀ k ∈ p.1, aboveB k p.2.1 = true ∧ belowB k p.2.2 = true) :
    Do K C [] B H0 (t__law_ascending K) [.val (iL p.1), .val (oD p.2.1), .val (oD p.2.2), .no] nx bk ct (fun d _ => d = .bl true) := by
  obtain ⟨ks, lo, hi⟩ := p
  obtain ⟨h1, h2, h3⟩ := h
  have h1 : ks.length ≤ 50 := h1
  have h2 : ascB ks = true := h2
  have h3 : ∀ k ∈ ks, aboveB k lo = true ∧ belowB k hi = true := h3
  refine do_seq (do_forR1 (n := ks.length) (ea_cons (Ev.is (ev_cb (d := iL ks) (Ev.x (ev_var rfl)) rc_lenT) (by rw [List.length_map])) ea_nil) (by omega)
    (fun i ss => ∃ x, ss = [.val (iL ks), .val (oD lo), .val (oD hi), x]) ⟨_, rfl⟩ ?_ ?_)
  · rintro i ss hi' ⟨x, rfl⟩
    have hk : i < ks.length := by omega
    have e1 : ks[i]? = some ks[i] := List.getElem?_eq_getElem hk
    obtain ⟨a1, a2⟩ := h3 ks[i] (List.getElem_mem hk)
    refine ⟨_, g_name (by simp), ?_⟩
    refine do_seq (do_iff (EvT.is (b := decide ((0 : Int) < 0 + (i : Int)) && false) (et_and (et_test (ev_op (d := .int (0 + (i : Int))) (e := .int 0) (Ev.x (ev_var rfl)) (Ev.x ev_int) rv_b)) fun hb => ?_) (Bool.and_false _)) (do_next ?_))
    · have hb : (0 : Int) < 0 + (i : Int) := of_decide_eq_true hb
      have hk1 : i - 1 < ks.length := by omega
      have e2 : ks[i - 1]? = some ks[i - 1] := List.getElem?_eq_getElem hk1
      have e3 : ks[i - 1 + 1]? = some ks[i] := by rw [show i - 1 + 1 = i by omega]; exact e1
      have lt := asc_iff.mp h2 (i - 1) _ _ e2 e3
      exact et_test (EvT.is' (ev_op (d := .int ks[i - 1]) (e := .int ks[i]) (Ev.x (ev_op (d := iL ks) (e := .int (0 + (i : Int) - 1)) (Ev.x (ev_var rfl)) (by walk_at "ev") (rv_ixT (at_ints (by omega) e2)))) (Ev.x (ev_op (d := iL ks) (e := .int (0 + (i : Int))) (Ev.x (ev_var rfl)) (by walk_at "ev") (rv_ixT (at_ints (by omega) e1)))) rv_b) (decide_eq_false (by omega)))
    · have hx : EvX K C (tOp (rIxT K) (tVar 0) (tVar 3)) [.val (iL ks), .val (oD lo), .val (oD hi), .val (.int (0 + (i : Int)))] (.int ks[i]) := Ev.x (ev_op (d := iL ks) (e := .int (0 + (i : Int))) (Ev.x (ev_var rfl)) (by walk_at "ev") (rv_ixT (at_ints (by omega) e1)))
      refine do_iff (et_or (a := false) (b := false) ?_ fun _ => ?_) (do_next ⟨_, rfl⟩)
      · cases lo with
        | none => exact et_and (a := false) (b := false) (et_test (ev_op (d := .non) (Ev.x (ev_var rfl)) (Ev.x ev_non) rv_notN)) (fun z => nomatch z)
        | some l =>
          have : l ≤ ks[i] := of_decide_eq_true a1
          exact et_and (a := true) (b := false) (et_test (ev_op (d := .int l) (Ev.x (ev_var rfl)) (Ev.x ev_non) rv_notN)) (fun _ => et_test (EvT.is' (ev_op (d := .int ks[i]) (e := .int l) hx (Ev.x (ev_var rfl)) rv_b) (decide_eq_false (by omega))))
      · cases hi with
        | none => exact et_and (a := false) (b := false) (et_test (ev_op (d := .non) (Ev.x (ev_var rfl)) (Ev.x ev_non) rv_notN)) (fun z => nomatch z)
        | some l =>
          have : ks[i] < l := of_decide_eq_true a2
          exact et_and (a := true) (b := false) (et_test (ev_op (d := .int l) (Ev.x (ev_var rfl)) (Ev.x ev_non) rv_notN)) (fun _ => et_test (EvT.is' (ev_op (d := .int ks[i]) (e := .int l) hx (Ev.x (ev_var rfl)) rv_b) (decide_eq_false (by omega))))
  · rintro ss ⟨x, rfl⟩
    exact do_ret ev_bl rfl
end
end Esp

/-! The law's defs, part 3. -/
namespace Esp
open PySem L2 PyProof.Rows PySem.Spec
local macro_rules | `(tactic| walk_at "ev") => `(tactic| repeat' (first
  | exact ev_int | exact ev_str | exact ev_bl | exact ev_non | exact ea_nil | exact eo_none | exact et_yes
  | exact ev_var rfl | exact evx_own rfl
  | apply ea_cons | apply eo_some | apply ev_tup (hl := by first | decide | (simp; done))
  | apply ev_op | apply ev_neg
  | apply ev_sl | apply ev_chain
  | apply ev_andV | apply ev_orV | apply ev_notV
  | apply et_test | apply et_B | apply et_not | apply et_and | apply et_or
  | exact rv_i | exact rv_b | exact rv_eqi | exact rv_nei | exact rv_eqs_t (by with_reducible rfl) | exact rv_eqs_f (by decide +kernel) | exact rv_nes_t (by with_reducible rfl) | exact rv_nes_f (by decide +kernel)
  | exact rv_isN | exact rv_notN
  | exact rv_ixT rfl | exact rv_ixL rfl | apply rv_ixT | apply rv_ixL
  | apply ev_cb (hr := rc_lenT) | apply ev_cb (hr := rc_lenL) | apply ev_cb (hr := rc_int) | apply ev_cb (hr := rc_tupT) | apply ev_cb (hr := rc_all)
  | apply Ev.x | (intro _)))
local macro_rules | `(tactic| walk_at "gs") => `(tactic| repeat' (first | exact gs_nil | apply gs_cons | exact g_name (by simp) | apply g_tup (hn := rfl)))
section
variable {K : PySem.W.Frag} {C : Addr} {B H0 : Hp} {nx bk ct : List Sl → Prop} {ss : List Sl} {te : TE}
theorem getD_oD (t : Tab) (k : Int) : (look (mapV D.int t) k).getD .non = oD (look t k) := by
  rw [look_mapV]
  cases look t k <;> rfl
theorem isSome_tab (t : Tab) (k : Int) : (look (mapV D.int t) k).isSome = (look t k).isSome := by
  rw [look_mapV, Option.isSome_map]
theorem Call.at1 (c : Call) : ∃ (x : D) (l : List D), c.d = .tup (x :: .int c.key :: l) := by cases c <;> exact ⟨_, _, rfl⟩
theorem ix_key {c : Call} {te : TE} (h : Ev K C te ss c.d) : Ev K C (tOp (rIxT K) te (tC (.int 1))) ss (.int c.key) := by
  obtain ⟨x, l, e⟩ := c.at1
  rw [e] at h
  exact ix_call h (at_nat (j := 1) rfl rfl)
theorem do__law_due (p : Tab × Call) (h : p.1.length ≤ 4000) :
    Do K C [] B H0 (t__law_due K) [.val (tabD p.1), .val p.2.d, .no, .no] nx bk ct (fun d _ => d = D.tup [(dueOf p.1 p.2).1.d, tabD (dueOf p.1 p.2).2]) := by
  obtain ⟨t, c⟩ := p
  have h : t.length ≤ 4000 := h
  have hl : (mapV D.int t).length < 100000 := by unfold mapV; rw [List.length_map]; omega
  refine do_seq (do_asgN (d := .dct (mapV D.int t)) (evn_cb (Ev.x (ev_var rfl)) rcn_dict) ?_ (by simp))
  refine do_seq (do_asg (d := oD (look t c.key)) (Ev.is (ev_dget2 (l := mapV D.int t) (Ev.x (ev_var rfl)) (ix_key (ev_var rfl)) ev_non) (getD_oD _ _)) ?_ (by simp))
  have hold : isNon (oD (look t c.key)) = !(look t c.key).isSome := isNon_oD _
  cases c with
  | put k v =>
    refine do_seq (do_ift (et_test (by walk_at "ev")) ?_)
    refine do_seq (do_dput (i := 2) (k := k) (d := .int v) rfl (ix_call (ev_var rfl) rfl) (ix_call (ev_var rfl) rfl) hl ?_)
    rw [put_mapV]
    exact do_freeze 2 rfl (do_ret (ev_tup (ea_cons (ev_var rfl) (ea_cons (ev_var rfl) ea_nil)) (by simp)) rfl)
  | add k v =>
    refine do_seq (do_iff (et_test (by walk_at "ev")) (do_next ?_))
    refine do_seq (do_ift (et_test (by walk_at "ev")) ?_)
    cases e : look t k with
    | none =>
      rw [show (Call.add k v).key = k from rfl, e]
      refine do_seq (do_ift (et_test (ev_op (d := .non) (Ev.x (ev_var rfl)) (Ev.x ev_non) rv_isN)) (do_dput (i := 2) (k := k) (d := .int v) rfl (ix_call (ev_var rfl) rfl) (ix_call (ev_var rfl) rfl) hl ?_))
      rw [put_mapV]
      refine do_freeze 2 rfl (do_ret (ev_tup (ea_cons (ev_op (d := .non) (Ev.x (ev_var rfl)) (Ev.x ev_non) rv_isN) (ea_cons (ev_var rfl) ea_nil)) (by simp)) ?_)
      simp only [dueOf, e, Option.isSome_none, Bool.false_eq_true, if_false]
      rfl
    | some y =>
      rw [show (Call.add k v).key = k from rfl, e]
      refine do_seq (do_iff (et_test (ev_op (d := .int y) (Ev.x (ev_var rfl)) (Ev.x ev_non) rv_isN)) (do_next ?_))
      refine do_freeze 2 rfl (do_ret (ev_tup (ea_cons (ev_op (d := .int y) (Ev.x (ev_var rfl)) (Ev.x ev_non) rv_isN) (ea_cons (ev_var rfl) ea_nil)) (by simp)) ?_)
      simp only [dueOf, e, Option.isSome_some, if_true]
      rfl
  | change k o n =>
    refine do_seq (do_iff (et_test (by walk_at "ev")) (do_next ?_))
    refine do_seq (do_iff (et_test (by walk_at "ev")) (do_next ?_))
    refine do_seq (do_ift (et_test (by walk_at "ev")) ?_)
    have no : look t k ≠ some o → ∀ nx', Do K C [] B H0 (tSeq (tIfS (tAnd (tTest (tOp rNotNo (tVar 3) (tC .non))) (tTest (tOp rEq (tVar 3) (tOp (rIxT K) (tVar 1) (tC (.int 2)))))) (tSeq (sDPut (tVar 2) (tOp (rIxT K) (tVar 1) (tC (.int 1))) (tOp (rIxT K) (tVar 1) (tC (.int 3)))) (tRet (tTup (tCons (tC (.bl true)) (tCons (tVar 2) tNil))))) tNext) (tRet (tTup (tCons (tC (.bl false)) (tCons (tVar 2) tNil)))))
        [.val (.dct (mapV D.int t)), .val (Call.change k o n).d, .own (.dct (mapV D.int t)), .val (oD (look t k))] nx' bk ct (fun d _ => d = D.tup [(dueOf t (.change k o n)).1.d, tabD (dueOf t (.change k o n)).2]) := fun hn nx' => by
      refine do_seq (do_iff ?_ (do_next ?_))
      · cases e : look t k with
        | none => exact et_and (a := false) (b := false) (et_test (ev_op (d := .non) (Ev.x (ev_var rfl)) (Ev.x ev_non) rv_notN)) (fun z => nomatch z)
        | some y => exact et_and (a := true) (b := false) (et_test (ev_op (d := .int y) (Ev.x (ev_var rfl)) (Ev.x ev_non) rv_notN)) (fun _ => et_test (EvT.is' (ev_op (d := .int y) (e := .int o) (Ev.x (ev_var rfl)) (Ev.x (ix_call (ev_var rfl) rfl)) rv_eqi) (decide_eq_false (fun z => hn (by rw [e, z])))))
      · refine do_freeze 2 rfl (do_ret (ev_tup (ea_cons ev_bl (ea_cons (ev_var rfl) ea_nil)) (by simp)) ?_)
        simp only [dueOf, if_neg hn]
        rfl
    by_cases e : look t k = some o
    · rw [show (Call.change k o n).key = k from rfl, e]
      refine do_seq (do_ift (et_and (a := true) (b := true) (et_test (ev_op (d := .int o) (Ev.x (ev_var rfl)) (Ev.x ev_non) rv_notN)) (fun _ => et_test (EvT.is' (ev_op (d := .int o) (e := .int o) (Ev.x (ev_var rfl)) (Ev.x (ix_call (ev_var rfl) rfl)) rv_eqi) (decide_eq_true rfl)))) ?_)
      refine do_seq (do_dput (i := 2) (k := k) (d := .int n) rfl (ix_call (ev_var rfl) rfl) (ix_call (ev_var rfl) rfl) hl ?_)
      rw [put_mapV]
      refine do_freeze 2 rfl (do_ret (ev_tup (ea_cons ev_bl (ea_cons (ev_var rfl) ea_nil)) (by simp)) ?_)
      simp only [dueOf, e, if_true]
      rfl
    · exact no e _
  | take k =>
    refine do_seq (do_iff (et_test (by walk_at "ev")) (do_next ?_))
    refine do_seq (do_iff (et_test (by walk_at "ev")) (do_next ?_))
    refine do_seq (do_iff (et_test (by walk_at "ev")) (do_next ?_))
    cases e : look t k with
    | none =>
      rw [show (Call.take k).key = k from rfl, e]
      refine do_seq (do_iff (et_and (a := true) (b := false) (et_test (by walk_at "ev")) fun _ => et_test (ev_op (d := .non) (Ev.x (ev_var rfl)) (Ev.x ev_non) rv_notN)) (do_next ?_))
      refine do_freeze 2 rfl (do_ret (ev_tup (ea_cons (ev_var rfl) (ea_cons (ev_var rfl) ea_nil)) (by simp)) ?_)
      simp only [dueOf, e, Option.isSome_none, Bool.false_eq_true, if_false]
      rfl
    | some y =>
      rw [show (Call.take k).key = k from rfl, e]
      refine do_seq (do_ift (et_and (a := true) (b := true) (et_test (by walk_at "ev")) fun _ => et_test (ev_op (d := .int y) (Ev.x (ev_var rfl)) (Ev.x ev_non) rv_notN)) ?_)
      refine do_dpop (i := 2) (k := k) rfl (ix_call (ev_var rfl) rfl) (by rw [isSome_tab, e]; rfl) ?_
      rw [drop_mapV]
      refine do_freeze 2 rfl (do_ret (ev_tup (ea_cons (ev_var rfl) (ea_cons (ev_var rfl) ea_nil)) (by simp)) ?_)
      simp only [dueOf, e, Option.isSome_some, if_true]
      rfl
  | look k =>
    refine do_seq (do_iff (et_test (by walk_at "ev")) (do_next ?_))
    refine do_seq (do_iff (et_test (by walk_at "ev")) (do_next ?_))
    refine do_seq (do_iff (et_test (by walk_at "ev")) (do_next ?_))
    refine do_seq (do_iff (et_and (a := false) (b := false) (et_test (by walk_at "ev")) (fun z => nomatch z)) (do_next ?_))
    exact do_freeze 2 rfl (do_ret (ev_tup (ea_cons (ev_var rfl) (ea_cons (ev_var rfl) ea_nil)) (by simp)) rfl)
theorem do__law_below (p : Rec × Int) (h : p.1.okB = true ∧ p.1.isLeaf = false ∧ p.1.live = true) :
    Do K C [] B H0 (t__law_below K) [.val p.1.d, .val (.int p.2), .no, .no, .no, .no] nx bk ct (fun d _ => d = match p.1 with | .inner lv lo hi ks ps => D.lst ((belowL lv lo hi ks ps p.2).map Todo.d) | _ => .non) := by
  obtain ⟨r, level⟩ := p
  obtain ⟨h1, h2, h3⟩ := h
  cases r with
  | free n => cases h3
  | leaf lo hi ks vs => cases h2
  | inner lv lo hi ks ps =>
    obtain ⟨_, o1, o2, _⟩ := inner_ok h1
    refine do_seq (do_asgN (evn_lst ea_nil (by simp)) ?_ (by simp))
    refine do_seq (do_forR1 (n := ps.length) (ea_cons (Ev.is (ev_cb (d := iL ps) (Ev.x (ix_call (ev_var rfl) rfl)) rc_lenT) (by rw [List.length_map])) ea_nil) (by omega)
      (fun i ss => ∃ x3 x4 x5, ss = [.val (Rec.inner lv lo hi ks ps).d, .val (.int level), .own (.lst (((belowL lv lo hi ks ps level).take i).map Todo.d)), x3, x4, x5]) ⟨_, _, _, rfl⟩ ?_ ?_)
    · rintro i ss hi' ⟨x3, x4, x5, rfl⟩
      have hk : i < ps.length := by omega
      have e1 : ps[i]? = some (ps.getD i 0) := by rw [List.getD_eq_getElem?_getD, List.getElem?_eq_getElem hk]; rfl
      refine ⟨_, g_name (by simp), ?_⟩
      refine do_seq (do_par (d := oD lo) (e := oD hi) (ea_cons (ix_call (ev_var rfl) rfl) (ea_cons (ix_call (ev_var rfl) rfl) ea_nil)) ?_ (by simp) (by simp))
      refine do_seq ?_
      have tail : ∀ (bk' : List Sl → Prop), Do K C [] B H0 (tSeq (tIfS (tTest (tOp rLtI (tVar 3) (tCB (rLenS K) (tCons (tOp (rIxT K) (tVar 0) (tC (.int 4))) tNil)))) (tAsg (tOp (rIxT K) (tOp (rIxT K) (tVar 0) (tC (.int 4))) (tVar 3)) (gName 5)) tNext) (tDrop (tBM K "list" rAppend (tVar 2) (tCons (tTup (tCons (tOp (rIxT K) (tOp (rIxT K) (tVar 0) (tC (.int 5))) (tVar 3)) (tCons (tVar 4) (tCons (tVar 5) (tCons (tOp rSubI (tVar 1) (tC (.int 1))) tNil))))) tNil))))
          [.val (Rec.inner lv lo hi ks ps).d, .val (.int level), .own (.lst (((belowL lv lo hi ks ps level).take i).map Todo.d)), .val (.int (0 + (i : Int))), .val (oD (childB lo hi ks i).1), .val (oD hi)]
          (fun ss => ∃ x3 x4 x5, ss = [.val (Rec.inner lv lo hi ks ps).d, .val (.int level), .own (.lst (((belowL lv lo hi ks ps level).take (i + 1)).map Todo.d)), x3, x4, x5]) bk' (fun ss => ∃ x3 x4 x5, ss = [.val (Rec.inner lv lo hi ks ps).d, .val (.int level), .own (.lst (((belowL lv lo hi ks ps level).take (i + 1)).map Todo.d)), x3, x4, x5]) (fun d _ => d = D.lst ((belowL lv lo hi ks ps level).map Todo.d)) := fun bk' => by
        have app : Do K C [] B H0 (tDrop (tBM K "list" rAppend (tVar 2) (tCons (tTup (tCons (tOp (rIxT K) (tOp (rIxT K) (tVar 0) (tC (.int 5))) (tVar 3)) (tCons (tVar 4) (tCons (tVar 5) (tCons (tOp rSubI (tVar 1) (tC (.int 1))) tNil))))) tNil)))
            [.val (Rec.inner lv lo hi ks ps).d, .val (.int level), .own (.lst (((belowL lv lo hi ks ps level).take i).map Todo.d)), .val (.int (0 + (i : Int))), .val (oD (childB lo hi ks i).1), .val (oD (childB lo hi ks i).2)]
            (fun ss => ∃ x3 x4 x5, ss = [.val (Rec.inner lv lo hi ks ps).d, .val (.int level), .own (.lst (((belowL lv lo hi ks ps level).take (i + 1)).map Todo.d)), x3, x4, x5]) bk' (fun ss => ∃ x3 x4 x5, ss = [.val (Rec.inner lv lo hi ks ps).d, .val (.int level), .own (.lst (((belowL lv lo hi ks ps level).take (i + 1)).map Todo.d)), x3, x4, x5]) (fun d _ => d = D.lst ((belowL lv lo hi ks ps level).map Todo.d)) := by
          refine do_app (i := 2) (d := Todo.d ⟨ps.getD i 0, (childB lo hi ks i).1, (childB lo hi ks i).2, level - 1⟩) rfl (ev_tup (ea_cons (ev_op (d := iL ps) (e := .int (0 + (i : Int))) (Ev.x (ix_call (ev_var rfl) rfl)) (Ev.x (ev_var rfl)) (rv_ixT (at_ints (by omega) e1))) (ea_cons (ev_var rfl) (ea_cons (ev_var rfl) (ea_cons (by walk_at "ev") ea_nil)))) (by simp)) (by
            rw [List.length_map, List.length_take]
            unfold belowL
            rw [List.length_map, List.length_range]
            omega) ⟨.val (.int (0 + (i : Int))), .val (oD (childB lo hi ks i).1), .val (oD (childB lo hi ks i).2), ?_⟩
          have e2 : (belowL lv lo hi ks ps level)[i]? = some ⟨ps.getD i 0, (childB lo hi ks i).1, (childB lo hi ks i).2, level - 1⟩ := by
            unfold belowL
            rw [List.getElem?_map, List.getElem?_range hk]
            rfl
          rw [List.take_add_one, e2, List.map_append]
          rfl
        refine do_seq (do_if (b' := decide ((0 + (i : Int)) < (ks.length : Int))) (et_test (ev_op (d := .int (0 + (i : Int))) (e := .int ks.length) (Ev.x (ev_var rfl)) (Ev.x (Ev.is (ev_cb (d := iL ks) (Ev.x (ix_call (ev_var rfl) rfl)) rc_lenT) (by rw [List.length_map]))) rv_b)) (fun hb => ?_) (fun hb => do_next ?_))
        · have hb : (0 + (i : Int)) < (ks.length : Int) := of_decide_eq_true hb
          have hk2 : i < ks.length := by omega
          have e3 : (childB lo hi ks i).2 = some ks[i] := by unfold childB; rw [if_pos hk2, List.getElem?_eq_getElem hk2]
          refine do_asg (d := .int ks[i]) (ev_op (d := iL ks) (e := .int (0 + (i : Int))) (Ev.x (ix_call (ev_var rfl) rfl)) (Ev.x (ev_var rfl)) (rv_ixT (at_ints (by omega) (List.getElem?_eq_getElem hk2)))) ?_ (by simp)
          rw [e3] at app
          exact app
        · have hb : ¬ (0 + (i : Int)) < (ks.length : Int) := of_decide_eq_false hb
          have e3 : (childB lo hi ks i).2 = hi := by unfold childB; rw [if_neg (show ¬ i < ks.length by omega)]
          rw [e3] at app
          exact app
      refine do_if (b' := decide ((0 : Int) < 0 + (i : Int))) (et_test (ev_op (d := .int (0 + (i : Int))) (e := .int 0) (Ev.x (ev_var rfl)) (Ev.x ev_int) rv_b)) (fun hb => ?_) (fun hb => do_next ?_)
      · have hb : (0 : Int) < 0 + (i : Int) := of_decide_eq_true hb
        have hk2 : i - 1 < ks.length := by omega
        have e3 : (childB lo hi ks i).1 = some ks[i - 1] := by unfold childB; rw [if_pos (show 0 < i by omega), List.getElem?_eq_getElem hk2]
        refine do_asg (d := .int ks[i - 1]) (ev_op (d := iL ks) (e := .int (0 + (i : Int) - 1)) (Ev.x (ix_call (ev_var rfl) rfl)) (by walk_at "ev") (rv_ixT (at_ints (by omega) (List.getElem?_eq_getElem hk2)))) ?_ (by simp)
        have q := tail
        rw [e3] at q
        exact q _
      · have hb : ¬ (0 : Int) < 0 + (i : Int) := of_decide_eq_false hb
        have e3 : (childB lo hi ks i).1 = lo := by unfold childB; rw [if_neg (show ¬ 0 < i by omega)]
        have q := tail
        rw [e3] at q
        exact q _
    · rintro ss ⟨x3, x4, x5, rfl⟩
      refine do_freeze 2 rfl (do_ret (ev_var rfl) ?_)
      have e4 : (belowL lv lo hi ks ps level).length = ps.length := by unfold belowL; rw [List.length_map, List.length_range]
      show D.lst (((belowL lv lo hi ks ps level).take (ps.length : Int).toNat).map Todo.d) = _
      rw [List.take_of_length_le (by rw [e4]; omega)]
end
end Esp

/-! The law's defs, part 4. -/
namespace Esp
open PySem L2 PyProof.Rows PySem.Spec
local macro_rules | `(tactic| walk_at "ev") => `(tactic| repeat' (first
  | exact ev_int | exact ev_str | exact ev_bl | exact ev_non | exact ea_nil | exact eo_none | exact et_yes
  | exact ev_var rfl | exact evx_own rfl
  | apply ea_cons | apply eo_some | apply ev_tup (hl := by first | decide | (simp; done))
  | apply ev_op | apply ev_neg
  | apply ev_sl | apply ev_chain
  | apply ev_andV | apply ev_orV | apply ev_notV
  | apply et_test | apply et_B | apply et_not | apply et_and | apply et_or
  | exact rv_i | exact rv_b | exact rv_eqi | exact rv_nei | exact rv_eqs_t (by with_reducible rfl) | exact rv_eqs_f (by decide +kernel) | exact rv_nes_t (by with_reducible rfl) | exact rv_nes_f (by decide +kernel)
  | exact rv_isN | exact rv_notN
  | exact rv_ixT rfl | exact rv_ixL rfl | apply rv_ixT | apply rv_ixL
  | apply ev_cb (hr := rc_lenT) | apply ev_cb (hr := rc_lenL) | apply ev_cb (hr := rc_int) | apply ev_cb (hr := rc_tupT) | apply ev_cb (hr := rc_all)
  | apply Ev.x | (intro _)))
local macro_rules | `(tactic| walk_at "gs") => `(tactic| repeat' (first | exact gs_nil | apply gs_cons | exact g_name (by simp) | apply g_tup (hn := rfl)))
section
variable {K : PySem.W.Frag} {C : Addr} {B H0 : Hp} {nx bk ct : List Sl → Prop} {ss : List Sl} {te tk tl : TE}
def tagOf : Rec → Str
  | .leaf .. => "leaf"
  | .inner .. => "inner"
  | .free _ => "free"
theorem ix_tag {r : Rec} (h : Ev K C te ss r.d) : Ev K C (tOp (rIxT K) te (tC (.int 0))) ss (.str (tagOf r)) := by cases r <;> exact ix_call h rfl
theorem tag_free (r : Rec) : decide (tagOf r = ("free" : Str)) = !r.live := by
  cases r with
  | free n => exact decide_eq_true rfl
  | leaf lo hi ks vs => exact show decide (("leaf" : Str) = "free") = false by decide +kernel
  | inner lv lo hi ks ps => exact show decide (("inner" : Str) = "free") = false by decide +kernel
theorem tag_leaf (r : Rec) : decide (tagOf r = ("leaf" : Str)) = r.isLeaf := by
  cases r with
  | leaf lo hi ks vs => exact decide_eq_true rfl
  | free n => exact show decide (("free" : Str) = "leaf") = false by decide +kernel
  | inner lv lo hi ks ps => exact show decide (("inner" : Str) = "leaf") = false by decide +kernel
def isInner : Rec → Bool
  | .inner .. => true
  | _ => false
theorem tag_inner (r : Rec) : decide (tagOf r = ("inner" : Str)) = isInner r := by
  cases r with
  | inner lv lo hi ks vs => exact decide_eq_true rfl
  | free n => exact show decide (("free" : Str) = "inner") = false by decide +kernel
  | leaf lo hi ks ps => exact show decide (("leaf" : Str) = "inner") = false by decide +kernel
theorem et_free {r : Rec} (h : Ev K C te ss r.d) : Ev K C (tOp rEq (tOp (rIxT K) te (tC (.int 0))) (tC (.str "free"))) ss (.bl (!r.live)) := EvT.is' (ev_op (d := .str (tagOf r)) (e := .str "free") (Ev.x (ix_tag h)) (Ev.x ev_str) rv_eqs) (tag_free r)
theorem et_inner {r : Rec} (h : Ev K C te ss r.d) : Ev K C (tOp rEq (tOp (rIxT K) te (tC (.int 0))) (tC (.str "inner"))) ss (.bl (isInner r)) := EvT.is' (ev_op (d := .str (tagOf r)) (e := .str "inner") (Ev.x (ix_tag h)) (Ev.x ev_str) rv_eqs) (tag_inner r)
theorem et_leaf {r : Rec} (h : Ev K C te ss r.d) : Ev K C (tOp rEq (tOp (rIxT K) te (tC (.int 0))) (tC (.str "leaf"))) ss (.bl r.isLeaf) := EvT.is' (ev_op (d := .str (tagOf r)) (e := .str "leaf") (Ev.x (ix_tag h)) (Ev.x ev_str) rv_eqs) (tag_leaf r)
theorem et_nleaf {r : Rec} (h : Ev K C te ss r.d) : Ev K C (tOp rNe (tOp (rIxT K) te (tC (.int 0))) (tC (.str "leaf"))) ss (.bl (!r.isLeaf)) := EvT.is' (ev_op (d := .str (tagOf r)) (e := .str "leaf") (Ev.x (ix_tag h)) (Ev.x ev_str) rv_nes) (by
  rw [← tag_leaf, decide_not])
theorem look_pg {pg : Pgs} {p : Int} {a : Int} {r : Rec} (h : look pg p = some (a, r)) : look (mapV pgD pg) p = some (.tup [.int a, r.d]) := by rw [look_mapV, h]; rfl
theorem ev_pg {pg : Pgs} {p a : Int} {r : Rec} {tp : TE} (h : Ev K C te ss (pagesD pg)) (hp : Ev K C tp ss (.int p)) (e : look pg p = some (a, r)) : Ev K C (tDGet te tp) ss (.tup [.int a, r.d]) := ev_dget (Ev.x h) hp (look_pg e)
theorem isSome_pg (pg : Pgs) (p : Int) : (look (mapV pgD pg) p).isSome = (look pg p).isSome := by rw [look_mapV, Option.isSome_map]
theorem ev_childAt {j : Nat} {ks : List Int} {key : Int} (h : Ev K C tl ss (iL ks)) (hj : j < ss.length) (hl : ks.length ≤ 50) (hk : ∀ x : Int, Ev K C tk (ss.set j (.val (.int x))) (.int key)) :
    Ev K C (tCB (rLenS K) (tCons (tLc (iTup K tl) (gName j) (tTest (tOp rLeI (tVar j) tk)) (tVar j) [j]) tNil)) ss (.int (childAt ks key)) := by
  have hv : ∀ d : D, Ev K C (tVar j) (ss.set j (.val d)) d := fun d => ev_var (by rw [List.getElem?_set_self hj])
  have q := evn_lcT (K := K) (C := C) (ss := ss) (tl := tl) (j := j) (l := ks.map D.int) (p := fun d => match d with | .int i => decide (i ≤ key) | _ => false) (g := fun d => d) (tt := tTest (tOp rLeI (tVar j) tk)) (te := tVar j) h hj (fun d hd => by
    obtain ⟨x, _, rfl⟩ := List.mem_map.mp hd
    exact et_test (ev_op (d := .int x) (e := .int key) (Ev.x (hv _)) (Ev.x (hk x)) rv_b)) (fun d _ _ => hv d) (by rw [List.length_map]; omega)
  refine (ev_cb q.x rc_lenL).is ?_
  rw [List.map_id'', List.filter_map, List.length_map]
  rfl
  all_goals exact fun _ => rfl
theorem do__law_free (p : Pgs × Nat) : Do K C [] B H0 (t__law_free K) [.val (pagesD p.1), .val (.int p.2), .no, .no] nx bk ct (fun d _ => d = .lst ((freeOf p.1 p.2).map D.int)) := by
  obtain ⟨pg, n⟩ := p
  refine do_seq (do_asgN (evn_lst ea_nil (by simp)) ?_ (by simp))
  refine do_seq (do_forR2 (lo := 1) (hi := 200) (ea_cons ev_int (ea_cons ev_int ea_nil)) (by decide)
    (fun i ss => ∃ x, ss = [.val (pagesD pg), .val (.int n), .own (.lst ((((((List.range 199).map fun (i : Nat) => 1 + (i : Int)).take i).filter (freeB pg)).take n).map D.int)), x]) ⟨.no, by rw [List.take_zero, List.filter_nil, List.take_nil]; rfl⟩ ?_ ?_)
  · rintro i ss hi ⟨x, rfl⟩
    have hi : i < 199 := hi
    have e0 : ((List.range 199).map fun (i : Nat) => 1 + (i : Int))[i]? = some (1 + (i : Int)) := by rw [List.getElem?_map, List.getElem?_range hi]; rfl
    refine ⟨_, g_name (by simp), ?_⟩
    have e1 : ((List.range 199).map fun (i : Nat) => 1 + (i : Int)).take (i + 1) = ((List.range 199).map fun (i : Nat) => 1 + (i : Int)).take i ++ [1 + (i : Int)] := by rw [List.take_add_one, e0]; rfl
    rw [e1, List.filter_append]
    have hlen : (((List.range 199).map fun (i : Nat) => 1 + (i : Int)).take i).length ≤ 199 := by rw [List.length_take, List.length_map, List.length_range]; omega
    generalize ((List.range 199).map fun (i : Nat) => 1 + (i : Int)).take i = L at hlen
    generalize hX : L.filter (freeB pg) = X
    have hX2 : X.length ≤ 199 := by rw [← hX]; exact Nat.le_trans (List.length_filter_le _ _) hlen
    have hlt : decide (((X.take n).length : Int) < (n : Int)) = decide (X.length < n) := by
      rw [List.length_take]
      by_cases z : X.length < n
      · rw [decide_eq_true z, decide_eq_true (by omega)]
      · rw [decide_eq_false z, decide_eq_false (by omega)]
    have hf : EvT K C (tOr (tB (tDNotIn (tVar 3) (tVar 0))) (tTest (tOp rEq (tOp (rIxT K) (tOp (rIxT K) (tDGet (tVar 0) (tVar 3)) (tC (.int 1))) (tC (.int 0))) (tC (.str "free"))))) [.val (pagesD pg), .val (.int n), .own (.lst ((X.take n).map D.int)), .val (.int (1 + (i : Int)))] (freeB pg (1 + (i : Int))) := by
      have h1 : Ev K C (tDNotIn (tVar 3) (tVar 0)) [.val (pagesD pg), .val (.int n), .own (.lst ((X.take n).map D.int)), .val (.int (1 + (i : Int)))] (.bl (!(look pg (1 + (i : Int))).isSome)) := Ev.is (ev_dnin (l := mapV pgD pg) (ev_var rfl) (Ev.x (ev_var rfl))) (by rw [isSome_pg])
      cases e : look pg (1 + (i : Int)) with
      | none =>
        rw [e] at h1
        exact EvT.is (et_or (a := true) (b := true) (et_B h1) (fun z => nomatch z)) (by unfold freeB; rw [e]; rfl)
      | some ar =>
        obtain ⟨a, r⟩ := ar
        rw [e] at h1
        exact EvT.is (et_or (a := false) (b := !r.live) (et_B h1) (fun _ => et_test (et_free (ix_call (ev_pg (ev_var rfl) (ev_var rfl) e) rfl)))) (by unfold freeB; rw [e]; rfl)
    refine do_if (b' := decide (X.length < n) && freeB pg (1 + (i : Int))) (et_and (et_test (EvT.is' (ev_op (d := .int (X.take n).length) (e := .int n) (Ev.x (Ev.is (ev_cb (evx_own rfl) rc_lenL) (by rw [List.length_map]))) (Ev.x (ev_var rfl)) rv_b) hlt)) fun _ => hf) (fun hb => ?_) (fun hb => do_next ?_)
    · rw [Bool.and_eq_true, decide_eq_true_eq] at hb
      refine do_app (i := 2) rfl (ev_var rfl) (by rw [List.length_map, List.length_take]; omega) ⟨.val (.int (1 + (i : Int))), ?_⟩
      rw [show [1 + (i : Int)].filter (freeB pg) = [1 + (i : Int)] by simp [hb.2], List.take_of_length_le (l := X) (by omega), List.take_of_length_le (l := X ++ [_]) (by rw [List.length_append, List.length_singleton]; omega), List.map_append]
      rfl
    · refine ⟨.val (.int (1 + (i : Int))), ?_⟩
      cases hfr : freeB pg (1 + (i : Int)) with
      | false =>
        rw [show [1 + (i : Int)].filter (freeB pg) = [] by simp [hfr], List.append_nil]
        rfl
      | true =>
        rw [hfr, Bool.and_true] at hb
        have : ¬ X.length < n := of_decide_eq_false hb
        rw [List.take_append_of_le_length (by omega)]
        rfl
  · rintro ss ⟨x, rfl⟩
    refine do_freeze 2 rfl (do_ret (ev_var rfl) ?_)
    rw [show ((200 : Int) - 1).toNat = 199 by decide, List.take_of_length_le (i := 199) (by rw [List.length_map, List.length_range]; exact Nat.le_refl _)]
    rfl
theorem do__law_wrong (p : List Step × Rec × Int) (h : ∀ t, p.1.getLast? = some t → t.rc.isLeaf = false ∧ t.rc.live = true) :
    Do K C [] B H0 (t__law_wrong K) [.val (.lst (p.1.map Step.d)), .val p.2.1.d, .val (.int p.2.2), .no] nx bk ct (fun d _ => d = .bl (wrongB p.1 p.2.1 p.2.2)) := by
  obtain ⟨path, r, k⟩ := p
  have h : ∀ t, path.getLast? = some t → t.rc.isLeaf = false ∧ t.rc.live = true := h
  cases hl : r.live with
  | false =>
    refine do_seq (do_ift (EvT.is (b := true || false) (et_or (et_test (Ev.is (et_free (ev_var rfl)) (by rw [hl]; rfl))) (fun z => nomatch z)) rfl) (do_ret ev_bl ?_))
    simp only [wrongB, hl]
    rfl
  | true =>
    cases hc : coversB r k with
    | false =>
      refine do_seq (do_ift (EvT.is (b := false || !false) (et_or (et_test (Ev.is (et_free (ev_var rfl)) (by rw [hl]; rfl))) (fun _ => et_not (et_B (Ev.is (ev_call (r, k) (ea_cons (ev_var rfl) (ea_cons (ev_var rfl) ea_nil)) hl) (by rw [hc]))))) rfl) (do_ret ev_bl ?_))
      simp only [wrongB, hl, hc]
      rfl
    | true =>
      refine do_seq (do_iff (EvT.is (b := false || !true) (et_or (et_test (Ev.is (et_free (ev_var rfl)) (by rw [hl]; rfl))) (fun _ => et_not (et_B (Ev.is (ev_call (r, k) (ea_cons (ev_var rfl) (ea_cons (ev_var rfl) ea_nil)) hl) (by rw [hc]))))) rfl) (do_next ?_))
      refine do_seq (do_asg ev_int ?_ (by simp))
      refine do_seq ?_
      have tail : Do K C [] B H0 (tRet (tAndV (tOp (rNeD K) (tVar 0) (tLst tNil)) (tOp rNe (tVar 3) (tOp rSubI (tOp (rIxT K) (tOp (rIxT K) (tOp (rIxL K) (tVar 0) (tUn rNeg (tC (.int 1)))) (tC (.int 2))) (tC (.int 1))) (tC (.int 1))))))
          [.val (.lst (path.map Step.d)), .val r.d, .val (.int k), .val (.int r.lv)] nx bk ct (fun d _ => d = .bl (wrongB path r k)) := by
        have h0 : Ev K C (tOp (rNeD K) (tVar 0) (tLst tNil)) [.val (.lst (path.map Step.d)), .val r.d, .val (.int k), .val (.int r.lv)] (.bl (!path.isEmpty)) := ev_op (Ev.x (ev_var rfl)) (EvN.x (evn_lst ea_nil (by simp))) (rv_neNil fun t _ => lay_step t)
        cases e : path.getLast? with
        | none =>
          have : path = [] := List.getLast?_eq_none_iff.mp e
          rw [this]
          refine do_ret (ev_andV (a := false) (b := false) (Ev.is (by rw [this] at h0; exact h0) rfl) (fun z => nomatch z)) ?_
          simp only [wrongB, hl, hc]
          rfl
        | some t =>
          obtain ⟨h1, h2⟩ := h t e
          have hne : path.isEmpty = false := by
            cases path with
            | nil => cases e
            | cons a b => rfl
          rw [hne] at h0
          refine do_ret (ev_andV (a := true) (b := decide (r.lv ≠ t.rc.lv - 1)) h0 (fun _ => ev_op (d := .int r.lv) (e := .int (t.rc.lv - 1)) (Ev.x (ev_var rfl)) (Ev.x ?_) rv_nei)) ?_
          · have hx : Ev K C (tOp (rIxT K) (tOp (rIxL K) (tVar 0) (tUn rNeg (tC (.int 1)))) (tC (.int 2))) [.val (.lst (path.map Step.d)), .val r.d, .val (.int k), .val (.int r.lv)] t.rc.d := ix_call (l := [.int t.page, .int t.addr, t.rc.d, .int t.ac]) (ev_op (d := .lst (path.map Step.d)) (e := .int (-1)) (Ev.x (ev_var rfl)) (Ev.x (ev_neg ev_int)) (rv_ixL (at_last (by rw [List.getLast?_map, e]; rfl)))) rfl
            cases hr : t.rc with
            | free n => rw [hr] at h2; cases h2
            | leaf lo hi ks vs => rw [hr] at h1; cases h1
            | inner lv lo hi ks ps =>
              rw [hr] at hx
              exact ev_op (d := .int lv) (e := .int 1) (Ev.x (ix_call hx rfl)) (Ev.x ev_int) rv_i
          · simp only [wrongB, hl, hc, e]
            rfl
      cases r with
      | free n => cases hl
      | leaf lo hi ks vs => exact do_iff (et_test (et_inner (r := .leaf lo hi ks vs) (ev_var rfl))) (do_next tail)
      | inner lv lo hi ks ps => exact do_ift (et_test (et_inner (r := .inner lv lo hi ks ps) (ev_var rfl))) (do_asg (ix_call (ev_var rfl) rfl) tail (by simp))
theorem do__law_beside (p : (Wk × Pgs × Int) × Wk) (h : besideR p.1.1 p.1.2.1 p.1.2.2 = some p.2) :
    Do K C [] B H0 (t__law_beside K) [.val p.1.1.d, .val (pagesD p.1.2.1), .val (.int p.1.2.2), .no, .no, .no] nx bk ct (fun d _ => d = p.2.d) := by
  obtain ⟨⟨w, pg, q⟩, out⟩ := p
  have h : besideR w pg q = some out := h
  unfold besideR at h
  cases e : look pg q with
  | none => rw [e] at h; cases h
  | some ar =>
    obtain ⟨a, r⟩ := ar
    rw [e] at h
    simp only at h
    split at h
    case isFalse => cases h
    case isTrue g =>
    cases h
    have hw : ∀ (i : Nat) (d : D), [w.call.d, .lst (w.path.map Step.d), .dct (mapV Step.d w.sib), w.due.d, .non][i]? = some d → ∀ {ss' : List Sl}, ss'[0]? = some (.val w.d) → Ev K C (tOp (rIxL K) (tVar 0) (tC (.int i))) ss' d := fun i d hd ss' hs =>
      ev_op (d := w.d) (e := .int i) (Ev.x (ev_var hs)) (Ev.x ev_int) (rv_ixL (at_nat (j := i) rfl hd))
    refine do_seq (do_asgN (d := .dct (mapV Step.d w.sib)) (evn_cb (Ev.x (hw 2 _ rfl rfl)) rcn_dict) ?_ (by simp))
    refine do_seq (do_asg (ev_tup (ea_cons ev_str (ea_cons ev_int ea_nil)) (by simp)) ?_ (by simp))
    refine do_seq (do_asg (ev_neg ev_int) ?_ (by simp))
    refine do_seq (do_ift (et_B (Ev.is (ev_din (l := mapV pgD pg) (ev_var rfl) (Ev.x (ev_var rfl))) (by rw [isSome_pg, e]; rfl))) ?_)
    refine do_asgG (d := .tup [.int a, r.d]) (ev_pg (ev_var rfl) (ev_var rfl) e) (by walk_at "gs") ?_
    refine do_seq (do_dput (i := 3) (k := q) (d := Step.d ⟨q, a, r, 1⟩) rfl (ev_tup (ea_cons (ev_var rfl) (ea_cons (ev_var rfl) (ea_cons (ev_var rfl) (ea_cons ev_int ea_nil)))) (by simp)) (ev_var rfl) (by unfold mapV; rw [List.length_map]; omega) ?_)
    rw [put_mapV]
    exact do_freeze 3 rfl (do_ret (EvN.ev (evn_lst (ea_cons (hw 0 _ rfl rfl) (ea_cons (hw 1 _ rfl rfl) (ea_cons (ev_var rfl) (ea_cons (hw 3 _ rfl rfl) (ea_cons ev_non ea_nil))))) (by simp))) rfl)
end
end Esp

/-! The law's defs, part 5. -/
namespace Esp
open PySem L2 PyProof.Rows PySem.Spec
local macro_rules | `(tactic| walk_at "ev") => `(tactic| repeat' (first
  | exact ev_int | exact ev_str | exact ev_bl | exact ev_non | exact ea_nil | exact eo_none | exact et_yes
  | exact ev_var rfl | exact evx_own rfl
  | apply ea_cons | apply eo_some | apply ev_tup (hl := by first | decide | (simp; done))
  | apply ev_op | apply ev_neg
  | apply ev_sl | apply ev_chain
  | apply ev_andV | apply ev_orV | apply ev_notV
  | apply et_test | apply et_B | apply et_not | apply et_and | apply et_or
  | exact rv_i | exact rv_b | exact rv_eqi | exact rv_nei | exact rv_eqs_t (by with_reducible rfl) | exact rv_eqs_f (by decide +kernel) | exact rv_nes_t (by with_reducible rfl) | exact rv_nes_f (by decide +kernel)
  | exact rv_isN | exact rv_notN
  | exact rv_ixT rfl | exact rv_ixL rfl | apply rv_ixT | apply rv_ixL
  | apply ev_cb (hr := rc_lenT) | apply ev_cb (hr := rc_lenL) | apply ev_cb (hr := rc_int) | apply ev_cb (hr := rc_tupT) | apply ev_cb (hr := rc_all)
  | apply Ev.x | (intro _)))
local macro_rules | `(tactic| walk_at "gs") => `(tactic| repeat' (first | exact gs_nil | apply gs_cons | exact g_name (by simp) | apply g_tup (hn := rfl)))
section
variable {K : PySem.W.Frag} {C : Addr} {B H0 : Hp} {nx bk ct : List Sl → Prop} {ss : List Sl} {te tk tl : TE}
theorem do__law_fits (p : Int × Rec × Option Int × Option Int × Int) (h : fitsB p.1 p.2.1 p.2.2.1 p.2.2.2.1 p.2.2.2.2 = true) :
    Do K C [] B H0 (t__law_fits K) [.val (.int p.1), .val p.2.1.d, .val (oD p.2.2.1), .val (oD p.2.2.2.1), .val (.int p.2.2.2.2), .no] nx bk ct (fun d _ => d = .bl true) := by
  obtain ⟨p, r, lo, hi, lv⟩ := p
  have h : fitsB p r lo hi lv = true := h
  unfold fitsB at h
  simp only [Bool.and_eq_true, Bool.or_eq_true, decide_eq_true_eq] at h
  obtain ⟨h1, h2, h3, h4, h5⟩ := h
  refine do_seq (do_asg (ev_op (d := .int 2) (e := .int (if decide (p ≠ 0) = true then 1 else 0)) (Ev.x ev_int) (Ev.x (ev_cb (d := .bl (decide (p ≠ 0))) (Ev.x (ev_op (d := .int p) (e := .int 0) (Ev.x (ev_var rfl)) (Ev.x ev_int) rv_nei)) rc_intb)) (rv_ic (.inl ⟨by decide, by decide⟩))) ?_ (by simp))
  generalize hm : (2 : Int) * (if decide (p ≠ 0) = true then 1 else 0) = least
  have hm0 : p = 0 → least = 0 := fun z => by rw [← hm, if_neg (by simp [z])]; rfl
  have hm1 : least ≤ 2 := by rw [← hm]; split <;> omega
  cases r with
  | free n => cases h2
  | leaf lo' hi' ks vs =>
    cases h4
    obtain ⟨o1, o2, o3, o4, o5⟩ := leaf_ok h1
    have hl0 : lv ≤ 0 := by
      rcases h5 with z | z
      · omega
      · have z : (0 : Int) = lv := z
        omega
    have hs : (p = 0 ∨ 2 ≤ vs.length) ∧ vs.length ≤ 4 := by simpa [sizeB] using h3
    refine do_seq (do_ift (et_and (a := true) (b := true) (et_test (by walk_at "ev")) fun _ => et_test (Ev.is (ev_op (d := .int 5) (e := .int 5) (Ev.x (ev_cb (d := (Rec.leaf lo hi ks vs).d) (Ev.x (ev_var rfl)) rc_lenT)) (Ev.x ev_int) rv_eqi) rfl)) ?_)
    refine do_seq (do_iff (et_or (a := false) (b := false) (et_test (EvT.is' (ev_op (d := .int lv) (e := .int 0) (Ev.x (ev_var rfl)) (Ev.x ev_int) rv_b) (decide_eq_false (by omega)))) fun _ => et_or (a := false) (b := false) (et_test (EvT.is' (ev_op (d := pD (lo, hi)) (e := pD (lo, hi)) (Ev.x (ev_sl (l := [.str "leaf", oD lo, oD hi, iL ks, iL vs]) (Ev.x (ev_var rfl)) (eo_some ev_int) (eo_some ev_int))) (Ev.x (ev_tup (ea_cons (ev_var rfl) (ea_cons (ev_var rfl) ea_nil)) (by simp))) rv_neP) (decide_eq_false (fun z => z rfl)))) fun _ => EvT.is (b := !true) (et_not (et_test (EvT.is' (ev_chain (b1 := decide (least ≤ (ks.length : Int))) (b2 := decide ((ks.length : Int) ≤ 4)) (d := .int least) (e := .int ks.length) (f := .int 4) (Ev.x (ev_var rfl)) (Ev.x (Ev.is (ev_cb (d := iL ks) (Ev.x (ix_call (ev_var rfl) rfl)) rc_lenT) (by rw [List.length_map]))) (Ev.x ev_int) rv_b rv_b) ?_))) rfl) (do_next ?_))
    · rw [Bool.and_eq_true, decide_eq_true_eq, decide_eq_true_eq]
      obtain ⟨hs1, hs2⟩ := hs
      constructor
      · rcases hs1 with z | z
        · have := hm0 z; omega
        · omega
      · omega
    · refine do_ret (ev_andV (a := true) (b := true) (EvT.is' (ev_op (d := .int vs.length) (e := .int ks.length) (Ev.x (Ev.is (ev_cb (d := iL vs) (Ev.x (ix_call (ev_var rfl) rfl)) rc_lenT) (by rw [List.length_map]))) (Ev.x (Ev.is (ev_cb (d := iL ks) (Ev.x (ix_call (ev_var rfl) rfl)) rc_lenT) (by rw [List.length_map]))) rv_eqi) (decide_eq_true (by omega))) fun _ => ?_) rfl
      exact ev_call (ks, lo, hi) (ea_cons (ix_call (ev_var rfl) rfl) (ea_cons (ev_var rfl) (ea_cons (ev_var rfl) ea_nil))) ⟨o2, o4, o5⟩
  | inner l' lo' hi' ks ps =>
    cases h4
    obtain ⟨o0, o1, o2, o3, o4, o5⟩ := inner_ok h1
    have hs : 2 ≤ ps.length ∧ ps.length ≤ 5 := by simpa [sizeB] using h3
    have hlen6 : Ev K C (tCB (rLenS K) (tCons (tVar 1) tNil)) [.val (.int p), .val (Rec.inner l' lo hi ks ps).d, .val (oD lo), .val (oD hi), .val (.int lv), .val (.int least)] (.int 6) := ev_cb (d := (Rec.inner l' lo hi ks ps).d) (Ev.x (ev_var rfl)) rc_lenT
    have hkl : Ev K C (tCB (rLenS K) (tCons (tOp (rIxT K) (tVar 1) (tC (.int 4))) tNil)) [.val (.int p), .val (Rec.inner l' lo hi ks ps).d, .val (oD lo), .val (oD hi), .val (.int lv), .val (.int least)] (.int ks.length) := Ev.is (ev_cb (d := iL ks) (Ev.x (ix_call (ev_var rfl) rfl)) rc_lenT) (by rw [List.length_map])
    have hpl : Ev K C (tCB (rLenS K) (tCons (tOp (rIxT K) (tVar 1) (tC (.int 5))) tNil)) [.val (.int p), .val (Rec.inner l' lo hi ks ps).d, .val (oD lo), .val (oD hi), .val (.int lv), .val (.int least)] (.int ps.length) := Ev.is (ev_cb (d := iL ps) (Ev.x (ix_call (ev_var rfl) rfl)) rc_lenT) (by rw [List.length_map])
    refine do_seq (do_iff (et_and (a := false) (b := false) (et_test (by walk_at "ev")) fun z => nomatch z) (do_next ?_))
    refine do_seq (do_iff (et_or (a := false) (b := false) (et_test (by walk_at "ev")) fun _ => et_or (a := false) (b := false) (et_test (EvT.is' (ev_op (d := .int 6) (e := .int 6) (Ev.x hlen6) (Ev.x ev_int) rv_nei) (decide_eq_false (fun z => z rfl)))) fun _ => et_test (EvT.is' (ev_op (d := .int l') (e := .int 1) (Ev.x (ix_call (ev_var rfl) rfl)) (Ev.x ev_int) rv_b) (decide_eq_false (by omega)))) (do_next ?_))
    refine do_seq (do_iff (et_or (a := false) (b := false) (EvT.is (et_and (a := decide ((0 : Int) ≤ lv)) (b := false) (et_test (ev_op (d := .int lv) (e := .int 0) (Ev.x (ev_var rfl)) (Ev.x ev_int) rv_b)) fun hb => et_test (EvT.is' (ev_op (d := .int l') (e := .int lv) (Ev.x (ix_call (ev_var rfl) rfl)) (Ev.x (ev_var rfl)) rv_nei) ?_)) (Bool.and_false _)) fun _ => et_test (EvT.is' (ev_op (d := pD (lo, hi)) (e := pD (lo, hi)) (Ev.x (ev_sl (l := [.str "inner", .int l', oD lo, oD hi, iL ks, iL ps]) (Ev.x (ev_var rfl)) (eo_some ev_int) (eo_some ev_int))) (Ev.x (ev_tup (ea_cons (ev_var rfl) (ea_cons (ev_var rfl) ea_nil)) (by simp))) rv_neP) (decide_eq_false (fun z => z rfl)))) (do_next ?_))
    · have hb : (0 : Int) ≤ lv := of_decide_eq_true hb
      refine decide_eq_false fun z => z ?_
      rcases h5 with w | w
      · omega
      · exact w
    refine do_seq (do_iff (et_or (a := false) (b := false) (EvT.is (b := !true) (et_not (et_test (EvT.is' (ev_chain (b1 := decide ((2 : Int) ≤ (ps.length : Int))) (b2 := decide ((ps.length : Int) ≤ 5)) (d := .int 2) (e := .int ps.length) (f := .int 5) (Ev.x ev_int) (Ev.x hpl) (Ev.x ev_int) rv_b rv_b) ?_))) rfl) fun _ => et_test (EvT.is' (ev_op (d := .int ks.length) (e := .int (ps.length - 1)) (Ev.x hkl) (Ev.x (ev_op (d := .int ps.length) (e := .int 1) (Ev.x hpl) (Ev.x ev_int) rv_i)) rv_nei) (decide_eq_false (by omega)))) (do_next ?_))
    · rw [Bool.and_eq_true, decide_eq_true_eq, decide_eq_true_eq]
      omega
    refine do_ret (ev_andV (a := true) (b := true) (ev_call (ks, lo, hi) (ea_cons (ix_call (ev_var rfl) rfl) (ea_cons (ev_var rfl) (ea_cons (ev_var rfl) ea_nil))) ⟨o2, o4, fun k hk => ?_⟩) fun _ => ?_) rfl
    · obtain ⟨z1, z2⟩ := o5 k hk
      refine ⟨?_, z2⟩
      cases lo with
      | none => rfl
      | some l =>
        have : l < k := of_decide_eq_true z1
        exact decide_eq_true (by omega)
    · cases lo with
      | none => exact ev_op (d := .non) (e := iL ks) (Ev.x (ev_var rfl)) (Ev.x (ix_call (ev_var rfl) rfl)) rv_ninT0
      | some l =>
        refine EvT.is' (ev_op (d := .int l) (e := iL ks) (Ev.x (ev_var rfl)) (Ev.x (ix_call (ev_var rfl) rfl)) rv_ninT) ?_
        rw [Bool.not_eq_true', decide_eq_false_iff_not]
        intro z
        have : l < l := of_decide_eq_true (o5 l z).1
        omega
theorem ix_last {path : List Step} {t : Step} {tp : TE} (h : EvX K C tp ss (.lst (path.map Step.d))) (e : path.getLast? = some t) : Ev K C (tOp (rIxL K) tp (tUn rNeg (tC (.int 1)))) ss t.d := ev_op (d := .lst (path.map Step.d)) (e := .int (-1)) h (Ev.x (ev_neg ev_int)) (rv_ixL (at_last (by rw [List.getLast?_map, e]; rfl)))
theorem ix_rc {t : Step} (h : Ev K C te ss t.d) : Ev K C (tOp (rIxT K) te (tC (.int 2))) ss t.rc.d := ix_call (l := [.int t.page, .int t.addr, t.rc.d, .int t.ac]) h rfl
theorem do__law_walk (p : Pgs × Int × List Step) (h : walkR p.1 p.2.1 = some p.2.2) :
    Do K C [] B H0 (t__law_walk K) [.val (pagesD p.1), .val (.int p.2.1), .no, .no, .no, .no, .no] nx bk ct (fun d _ => d = .lst (p.2.2.map Step.d)) := by
  obtain ⟨pg, key, out⟩ := p
  have h : walkR pg key = some out := h
  unfold walkR at h
  cases e : look pg 0 with
  | none => rw [e] at h; cases h
  | some ar =>
    obtain ⟨a, r⟩ := ar
    rw [e] at h
    have h : walkGo pg key 20 0 [⟨0, a, r, 1⟩] = some out := h
    refine do_seq (do_asgN (d := .lst ([Step.mk 0 a r 1].map Step.d)) (evn_lst (ea_cons (ev_tup (ea_cons ev_int (ea_cons (ix_call (ev_pg (ev_var rfl) ev_int e) rfl) (ea_cons (ix_call (ev_pg (ev_var rfl) ev_int e) rfl) (ea_cons ev_int ea_nil)))) (by simp)) ea_nil) (by simp)) ?_ (by simp))
    refine do_seq (do_forR1 (n := 20) (ea_cons ev_int ea_nil) (by decide) (fun i ss => ∃ path x3 x4 x5 x6, ss = [.val (pagesD pg), .val (.int key), .own (.lst (path.map Step.d)), x3, x4, x5, x6] ∧ path.length ≤ i + 1 ∧ walkGo pg key (20 - i) i path = some out) ⟨_, _, _, _, _, rfl, Nat.le_refl _, h⟩ ?_ ?_)
    · rintro i ss hi ⟨path, x3, x4, x5, x6, rfl, hl, hw⟩
      have hi : i < 20 := hi
      refine ⟨_, g_name (by simp), ?_⟩
      rw [show 20 - i = (20 - (i + 1)) + 1 by omega] at hw
      unfold walkGo at hw
      cases et : path.getLast? with
      | none => simp only [et] at hw; cases hw
      | some t =>
      simp only [et] at hw
      refine do_seq (do_asg (ix_rc (ix_last (evx_own rfl) et)) ?_ (by simp))
      have skip : ∀ r : Rec, t.rc = r → isInner r = false → walkGo pg key (20 - (i + 1)) (i + 1) path = some out → Do K C [] B H0 (tIfS (tTest (tOp rEq (tOp (rIxT K) (tVar 4) (tC (.int 0))) (tC (.str "inner")))) (tSeq (tAsg (tOp (rIxT K) (tOp (rIxT K) (tVar 4) (tC (.int 5))) (tCB (rLenS K) (tCons (tLc (iTup K (tOp (rIxT K) (tVar 4) (tC (.int 4)))) (gName 6) (tTest (tOp rLeI (tVar 6) (tVar 1))) (tVar 6) [6]) tNil))) (gName 5)) (tDrop (tBM K "list" rAppend (tVar 2) (tCons (tTup (tCons (tVar 5) (tCons (tOp (rIxT K) (tDGet (tVar 0) (tVar 5)) (tC (.int 0))) (tCons (tOp (rIxT K) (tDGet (tVar 0) (tVar 5)) (tC (.int 1))) (tCons (tOp rAddI (tVar 3) (tC (.int 2))) tNil))))) tNil)))) tNext)
          [.val (pagesD pg), .val (.int key), .own (.lst (path.map Step.d)), .val (.int (0 + (i : Int))), .val t.rc.d, x5, x6]
          (fun ss => ∃ path x3 x4 x5 x6, ss = [.val (pagesD pg), .val (.int key), .own (.lst (path.map Step.d)), x3, x4, x5, x6] ∧ path.length ≤ i + 1 + 1 ∧ walkGo pg key (20 - (i + 1)) (i + 1) path = some out)
          (fun s => Do K C [] B H0 (tRet (tVar 2)) s nx bk ct fun d x => d = D.lst (out.map Step.d))
          (fun ss => ∃ path x3 x4 x5 x6, ss = [.val (pagesD pg), .val (.int key), .own (.lst (path.map Step.d)), x3, x4, x5, x6] ∧ path.length ≤ i + 1 + 1 ∧ walkGo pg key (20 - (i + 1)) (i + 1) path = some out) (fun d _ => d = D.lst (out.map Step.d)) := fun r hr hin hw => by
        exact do_iff (et_test (Ev.is (et_inner (ev_var rfl)) (by rw [hr, hin]))) (do_next ⟨path, _, _, _, _, rfl, by omega, hw⟩)
      cases hr : t.rc with
      | leaf lo hi ks vs =>
        simp only [hr] at hw
        rw [← hr]
        exact skip _ hr rfl hw
      | free n =>
        simp only [hr] at hw
        rw [← hr]
        exact skip _ hr rfl hw
      | inner lv lo hi ks ps =>
        simp only [hr, nextPage] at hw
        split at hw
        case h_1 => cases hw
        case h_2 c hc =>
        split at hc
        case isFalse => cases hc
        case isTrue hks =>
        cases ec : look pg c with
        | none => simp only [ec] at hw; cases hw
        | some cr =>
        obtain ⟨a', r'⟩ := cr
        simp only [ec] at hw
        refine do_ift (et_test (et_inner (r := .inner lv lo hi ks ps) (ev_var rfl))) ?_
        refine do_seq (do_asg (d := .int c) (ev_op (d := iL ps) (e := .int (childAt ks key)) (Ev.x (ix_call (ev_var rfl) rfl)) (Ev.x (ev_childAt (ix_call (ev_var rfl) rfl) (by simp) hks (fun x => ev_var rfl))) (rv_ixT (at_ints rfl hc))) ?_ (by simp))
        refine do_app (i := 2) (d := Step.d ⟨c, a', r', (i : Int) + 2⟩) rfl (ev_tup (ea_cons (ev_var rfl) (ea_cons (ix_call (ev_pg (ev_var rfl) (ev_var rfl) ec) rfl) (ea_cons (ix_call (ev_pg (ev_var rfl) (ev_var rfl) ec) rfl) (ea_cons (Ev.is (ev_op (d := .int (0 + (i : Int))) (e := .int 2) (Ev.x (ev_var rfl)) (Ev.x ev_int) rv_i) (by rw [Int.zero_add])) ea_nil)))) (by simp)) (by rw [List.length_map]; omega) ⟨path ++ [⟨c, a', r', (i : Int) + 2⟩], .val (.int (0 + (i : Int))), .val (Rec.inner lv lo hi ks ps).d, .val (.int c), x6, ?_, by rw [List.length_append, List.length_singleton]; omega, hw⟩
        rw [List.map_append]
        rfl
    · rintro ss ⟨path, x3, x4, x5, x6, rfl, hl, hw⟩
      have hw : some path = some out := hw
      cases hw
      exact do_freeze 2 rfl (do_ret (ev_var rfl) rfl)
theorem do__law_planned (p : Pgs × Call × Told) (h : plannedR p.1 p.2.1 = some p.2.2) :
    Do K C [] B H0 (t__law_planned K) [.val (pagesD p.1), .val p.2.1.d, .no, .no, .no, .no, .no] nx bk ct (fun d _ => d = p.2.2.d) := by
  obtain ⟨pg, c, out⟩ := p
  have h : plannedR pg c = some out := h
  unfold plannedR at h
  cases e : walkR pg c.key with
  | none => rw [e] at h; cases h
  | some path =>
    rw [e] at h
    have h : plannedGo pg c path 10 0 [] = some out := h
    refine do_seq (do_asg (ev_call (pg, c.key, path) (ea_cons (ev_var rfl) (ea_cons (ix_key (ev_var rfl)) ea_nil)) e) ?_ (by simp))
    refine do_seq (do_asgN evn_dict ?_ (by simp))
    refine do_seq (do_forR1 (n := 10) (ea_cons ev_int ea_nil) (by decide) (fun i ss => ∃ sib x4 x5 x6, ss = [.val (pagesD pg), .val c.d, .val (.lst (path.map Step.d)), .own (.dct (mapV Step.d sib)), x4, x5, x6] ∧ sib.length ≤ i ∧ plannedGo pg c path (10 - i) i sib = some out) ⟨[], _, _, _, rfl, Nat.le_refl _, h⟩ ?_ ?_)
    · rintro i ss hi ⟨sib, x4, x5, x6, rfl, hl, hw⟩
      have hi : i < 10 := hi
      refine ⟨_, g_name (by simp), ?_⟩
      rw [show 10 - i = (10 - (i + 1)) + 1 by omega] at hw
      unfold plannedGo at hw
      cases et : planR c path sib with
      | none => simp only [et] at hw; cases hw
      | some told =>
      simp only [et] at hw
      have hcall : Ev K C (tCall (sp_plan K) [] E0 (tCons (tVar 1) (tCons (tCB (rListS K) (tCons (tVar 2) tNil)) (tCons (tCB (rDictS) (tCons (tVar 3) tNil)) tNil)))) [.val (pagesD pg), .val c.d, .val (.lst (path.map Step.d)), .own (.dct (mapV Step.d sib)), .val (.int (0 + (i : Int))), x5, x6] told.d :=
        ev_call (c, path, sib, told) (ea_cons (ev_var rfl) (ea_cons (EvN.ev (evn_cb (Ev.x (ev_var rfl)) rcn_list)) (ea_cons (EvN.ev (evn_cb (evx_own rfl) rcn_dict)) ea_nil))) et
      refine do_seq (do_asg hcall ?_ (by simp))
      cases told with
      | read q =>
        simp only at hw
        cases ec : look pg q with
        | none => simp only [ec] at hw; cases hw
        | some cr =>
        obtain ⟨a', r'⟩ := cr
        simp only [ec] at hw
        refine do_seq (do_iff (et_test (ev_op (d := .str "read") (e := .str "read") (Ev.x (ix_call (ev_var rfl) rfl)) (Ev.x ev_str) (rv_nes_t rfl))) (do_next ?_))
        refine do_seq (do_asg (d := .int q) (ix_call (ev_var rfl) rfl) ?_ (by simp))
        refine do_dput (i := 3) (k := q) (d := Step.d ⟨q, a', r', 40 + (i : Int)⟩) rfl (ev_tup (ea_cons (ev_var rfl) (ea_cons (ix_call (ev_pg (ev_var rfl) (ev_var rfl) ec) rfl) (ea_cons (ix_call (ev_pg (ev_var rfl) (ev_var rfl) ec) rfl) (ea_cons (Ev.is (ev_op (d := .int 40) (e := .int (0 + (i : Int))) (Ev.x ev_int) (Ev.x (ev_var rfl)) rv_i) (by rw [Int.zero_add])) ea_nil)))) (by simp)) (ev_var rfl) (by unfold mapV; rw [List.length_map]; omega) ⟨put sib q ⟨q, a', r', 40 + (i : Int)⟩, .val (.int (0 + (i : Int))), .val (Told.read q).d, .val (.int q), ?_, ?_, hw⟩
        · rw [put_mapV]; rfl
        · have : (put sib q (⟨q, a', r', 40 + (i : Int)⟩ : Step)).length ≤ sib.length + 1 := by
            unfold put
            split
            · rw [List.length_map]; omega
            · rw [List.length_append, List.length_singleton]; exact Nat.le_refl _
          omega
      | answer a =>
        cases hw
        exact do_seq (do_ift (et_test (ev_op (d := .str "answer") (e := .str "read") (Ev.x (ix_call (ev_var rfl) rfl)) (Ev.x ev_str) (rv_nes_f (by decide +kernel)))) (do_ret (ev_var rfl) rfl))
      | stale =>
        cases hw
        exact do_seq (do_ift (et_test (ev_op (d := .str "stale") (e := .str "read") (Ev.x (ix_call (ev_var rfl) rfl)) (Ev.x ev_str) (rv_nes_f (by decide +kernel)))) (do_ret (ev_var rfl) rfl))
      | change a es =>
        cases hw
        exact do_seq (do_ift (et_test (ev_op (d := .str "change") (e := .str "read") (Ev.x (ix_call (ev_var rfl) rfl)) (Ev.x ev_str) (rv_nes_f (by decide +kernel)))) (do_ret (ev_var rfl) rfl))
    · rintro ss ⟨sib, x4, x5, x6, rfl, hl, hw⟩
      cases hw
end
end Esp

/-! The law's defs, part 6: locked dicts; applied, map. -/
namespace Esp
open PySem L2 PyProof.Rows PySem.Spec
local macro_rules | `(tactic| walk_at "ev") => `(tactic| repeat' (first
  | exact ev_int | exact ev_str | exact ev_bl | exact ev_non | exact ea_nil | exact eo_none | exact et_yes
  | exact ev_var rfl | exact evx_own rfl
  | apply ea_cons | apply eo_some | apply ev_tup (hl := by first | decide | (simp; done))
  | apply ev_op | apply ev_neg
  | apply ev_sl | apply ev_chain
  | apply ev_andV | apply ev_orV | apply ev_notV
  | apply et_test | apply et_B | apply et_not | apply et_and | apply et_or
  | exact rv_i | exact rv_b | exact rv_eqi | exact rv_nei | exact rv_eqs_t (by with_reducible rfl) | exact rv_eqs_f (by decide +kernel) | exact rv_nes_t (by with_reducible rfl) | exact rv_nes_f (by decide +kernel)
  | exact rv_isN | exact rv_notN
  | exact rv_ixT rfl | exact rv_ixL rfl | apply rv_ixT | apply rv_ixL
  | apply ev_cb (hr := rc_lenT) | apply ev_cb (hr := rc_lenL) | apply ev_cb (hr := rc_int) | apply ev_cb (hr := rc_tupT) | apply ev_cb (hr := rc_all)
  | apply Ev.x | (intro _)))
local macro_rules | `(tactic| walk_at "gs") => `(tactic| repeat' (first | exact gs_nil | apply gs_cons | exact g_name (by simp) | apply g_tup (hn := rfl)))
section
variable {K : PySem.W.Frag} {C : Addr} {B H0 B' H' H : Hp} {nx bk ct : List Sl → Prop} {rt : D → List Sl → Prop} {ss : List Sl} {te tk tl : TE} {σ' : L2.St} {d e z : D} {t : TT}
/-! ### locked dicts -/
mutual
def noD : D → Bool
  | .tup l => noL l
  | .lst _ => false
  | .dct _ => false
  | .scr _ => false
  | _ => true
def noL : List D → Bool
  | [] => true
  | d :: r => noD d && noL r
end
def lessB (B : Hp) (p : Addr) : Hp := fun a => if a = p then none else B a
theorem sqt_less {p q : Addr} {xs : List V} (hp : B p = none ∨ ∃ kvs, B p = some (.dK kvs)) (h : SqT K B q xs) : SqT K (lessB B p) q xs := by
  rcases h with h | h
  · have hne : ∀ u, B q = some u → (∀ kvs, u ≠ .dK kvs) → lessB B p q = some u := fun u e n => by
      unfold lessB
      rw [if_neg]
      · exact e
      · intro z
        rw [z] at e
        rcases hp with hp | ⟨kvs, hp⟩
        · rw [hp] at e; cases e
        · rw [hp] at e; cases e; exact n kvs rfl
    rcases h with h | ⟨o, h⟩
    · exact .inl (.inl (hne _ h fun kvs z => nomatch z))
    · exact .inl (.inr ⟨o, hne _ h fun kvs z => nomatch z⟩)
  · exact .inr h
mutual
theorem Rep.less {p : Addr} (hp : B p = none ∨ ∃ kvs, B p = some (.dK kvs)) : ∀ {d : D} {v : V}, noD d = true → Rep K B d v → Rep K (lessB B p) d v
  | _, _, _, .non => .non
  | _, _, _, .bl b => .bl b
  | _, _, _, .int i => .int i
  | _, _, _, .str s => .str s
  | _, _, n, .tup h r => .tup (sqt_less hp h) (RepL.less hp n r)
  | _, _, n, .lst h r => by cases n
  | _, _, n, .scr h => by cases n
  | _, _, n, .dct h r => by cases n
theorem RepL.less {p : Addr} (hp : B p = none ∨ ∃ kvs, B p = some (.dK kvs)) : ∀ {d : List D} {v : List V}, noL d = true → RepL K B d v → RepL K (lessB B p) d v
  | _, _, _, .nil => .nil
  | _, _, n, .cons h r => .cons (Rep.less hp (Bool.and_eq_true_iff.mp n).1 h) (RepL.less hp (Bool.and_eq_true_iff.mp n).2 r)
end
/-- evaluates to d, the heap as it was -/
def EvU (K : PySem.W.Frag) (te : TE) (σ' : L2.St) (B' H' : Hp) (d : D) : Prop := ∀ R : VK, (∀ v, Rep K B' d v → R v H') → te σ' H' R
theorem evu_ix {l : List D} {c : Int} (E : Ex B' H') (h : EvU K te σ' B' H' (.tup l)) (hc : atI l c = some z) : EvU K (tOp (rIxT K) te (tC (.int c))) σ' B' H' z := fun R hR => h _ fun v r => by
  cases r with
  | tup a c' =>
    obtain ⟨j, h1, h2, h3⟩ := atI_get hc
    obtain ⟨v, e1, e2⟩ := c'.get h2
    refine ⟨_, _, c, v, rfl, rfl, ex_t E a, ?_, hR v e2⟩
    unfold atI at hc ⊢
    rw [c'.length]
    cases e : ixN l.length c with
    | none => rw [e] at hc; cases hc
    | some k =>
      have := (ixN_seq e).1
      rw [h1] at this
      cases this
      exact e1
theorem look_mem {α : Type} {l : List (Int × α)} {k : Int} {y : α} (h : look l k = some y) : (k, y) ∈ l := by
  induction l with
  | nil => cases h
  | cons p l ih =>
    rw [look_cons] at h
    split at h
    case isTrue g => cases h; rw [← g]; exact List.mem_cons_self
    case isFalse g => exact List.mem_cons_of_mem _ (ih h)
theorem look_key {α : Type} {l : List (Int × α)} {k : Int} (h : k ∈ l.map (·.1)) : ∃ y, look l k = some y := by
  induction l with
  | nil => cases h
  | cons p l ih =>
    rw [look_cons]
    by_cases g : p.1 = k
    · rw [if_pos g]; exact ⟨_, rfl⟩
    · rw [if_neg g]
      rcases List.mem_cons.mp h with z | z
      · exact absurd z.symm g
      · exact ih z
theorem evn_lock {i j : Nat} {l : List (Int × D)} {pr : Int → Bool} {g : Int → Int} (hi : ss[i]? = some (.own (.dct l)) ∨ ss[i]? = some (.val (.dct l))) (hij : i ≠ j) (hj : j < ss.length) (hn : ∀ q ∈ l, noD q.2 = true) (hl : l.length < 100000)
    (ht : ∀ k d, look l k = some d → ∀ (B' H' : Hp) (σ' : L2.St) (R : Bool → Hp → Prop), Ex B' H' → EvU K (tDGet (tVar i) (tVar j)) σ' B' H' d → σ'[j]? = some (some (.int k)) → R (pr k) H' → t σ' H' R)
    (he : ∀ k d, look l k = some d → pr k = true → ∀ (B' H' : Hp) (σ' : L2.St) (R : VK), Ex B' H' → EvU K (tDGet (tVar i) (tVar j)) σ' B' H' d → σ'[j]? = some (some (.int k)) → R (.int (g k)) H' → te σ' H' R) :
    EvN K C (tLockE (tLc (iKeys (tVar i)) (gName j) t te [j])) ss (.lst ((((l.map (·.1)).filter pr).map g).map D.int)) := fun A B0 H0 B H σ O Q q => by
  have key : ∃ p kvs, σ[i]? = some (some (.ref p)) ∧ H p = some (.dK kvs) ∧ RepK K B l kvs ∧ (B p = none ∨ ∃ kvs, B p = some (.dK kvs)) := by
    obtain ⟨fp, O'⟩ := id O
    rcases hi with hi | hi
    · obtain ⟨p, e, f, _, o⟩ := O'.at hi
      cases o with
      | dct o1 o2 =>
        have := (O'.fr i p (by rw [f]; simp)).1
        exact ⟨p, _, e, o1, o2, .inl this⟩
    · obtain ⟨_, v, e, r⟩ := O'.at hi
      cases r with
      | dct a b => exact ⟨_, _, e, O.ex _ _ a, b, .inr ⟨_, a⟩⟩
  obtain ⟨p, kvs, e1, e2, e3, e4⟩ := key
  have main : ∀ k, k ∈ l.map (·.1) → ∀ H', (∃ od, Ex (upd H p (.frz od (.dK kvs))) H') → ∃ d, look l k = some d ∧ Ex (lessB B p) H' ∧ EvU K (tDGet (tVar i) (tVar j)) ((σ.set j none).set j (some (.int k))) (lessB B p) H' d ∧ ((σ.set j none).set j (some (.int k)))[j]? = some (some (.int k)) := by
    intro k hk H' ⟨od, x⟩
    obtain ⟨d, hd⟩ := look_key hk
    obtain ⟨v, v1, v2⟩ := e3.some_of hd
    have hjl : j < σ.length := by
      obtain ⟨fp, O'⟩ := id O
      rw [O'.len]; exact hj
    have hjj : ((σ.set j none).set j (some (.int k)))[j]? = some (some (.int k)) := by
      rw [List.getElem?_set_self (by rw [List.length_set]; exact hjl)]
    refine ⟨d, hd, ?_, ?_, hjj⟩
    · intro a u z
      unfold lessB at z
      split at z
      case isTrue => cases z
      case isFalse n => exact x a u (by rw [upd_ne n]; exact O.ex a u z)
    · intro R hR
      refine ⟨_, ?_, _, hjj, p, v, rfl, .inl ⟨kvs, (Sum.inl k : Key), .inr ⟨od, x _ _ upd_same⟩, rfl, v1.symm⟩, hR v (v2.less e4 (hn _ (look_mem hd)))⟩
      rw [List.getElem?_set_ne hij.symm, List.getElem?_set_ne hij.symm]
      exact e1
  refine lockE_keys (l := l) (pr := pr) (g := g) e3 hl e2 (fun H' R _ hR => ⟨_, e1, hR⟩) (fun k hk H' R x hR => ?_) (fun k hk hp H' R x hR => ?_) fun D' hD => ?_
  · obtain ⟨d, hd, x1, x2, x3⟩ := main k hk H' x
    exact ht k d hd _ _ _ R x1 x2 x3 hR
  · obtain ⟨d, hd, x1, x2, x3⟩ := main k hk H' x
    exact he k d hd hp _ _ _ R x1 x2 x3 hR
  · exact q D' B _ (Gr.newH O.ex hD) hD (none_b O.ex hD) (.lst upd_same (RepL.ints _))
theorem do_lock {A : List Addr} {B0 : Hp} {j : Nat} (h : EvN K C (tLockE te) ss d) (hn : nx (ss.set j (.own d))) (hj : j < ss.length) : Do K C A B0 H0 (tLock (tAsg te (gName j))) ss nx bk ct rt := fun E B H σ O a b c r => by
  have q := h A B0 H0 B H σ O (fun v H' => E.nx (σ.set j (some v)) H') fun p B' H' g n nb q => a B' H' _ _ g.b (O.setOwn hj g n nb q) hn
  exact q
theorem nol_ints : ∀ l : List Int, noL (l.map D.int) = true
  | [] => rfl
  | x :: l => by show (noD (D.int x) && noL (l.map D.int)) = true; rw [nol_ints l]; rfl
theorem nod_o (o : Option Int) : noD (oD o) = true := by cases o <;> rfl
theorem nod_pg (q : Int × Rec) : noD (pgD q) = true := by
  obtain ⟨a, r⟩ := q
  show (true && (noD r.d && true)) = true
  rw [Bool.true_and, Bool.and_true]
  cases r with
  | free n => rfl
  | leaf lo hi ks vs =>
    show (true && (noD (oD lo) && (noD (oD hi) && (noL (ks.map D.int) && (noL (vs.map D.int) && true))))) = true
    rw [nod_o, nod_o, nol_ints, nol_ints]; rfl
  | inner lv lo hi ks ps =>
    show (true && (true && (noD (oD lo) && (noD (oD hi) && (noL (ks.map D.int) && (noL (ps.map D.int) && true)))))) = true
    rw [nod_o, nod_o, nol_ints, nol_ints]; rfl
theorem nod_pgs (pg : Pgs) : ∀ q ∈ mapV pgD pg, noD q.2 = true := by
  intro q hq
  unfold mapV at hq
  obtain ⟨x, _, rfl⟩ := List.mem_map.mp hq
  exact nod_pg x.2
theorem keys_mapV {α β : Type} (f : α → β) (l : List (Int × α)) : (mapV f l).map (·.1) = l.map (·.1) := by
  unfold mapV
  rw [List.map_map]
  rfl
theorem look_pgs {pg : Pgs} {k : Int} {d : D} (h : look (mapV pgD pg) k = some d) : ∃ a r, look pg k = some (a, r) ∧ d = .tup [.int a, r.d] := by
  rw [look_mapV] at h
  cases e : look pg k with
  | none => rw [e] at h; cases h
  | some q =>
    rw [e] at h
    cases h
    exact ⟨q.1, q.2, rfl, rfl⟩
/-! ### defs -/
theorem maxA_mem : ∀ {l : List Int}, l ≠ [] → maxA l ∈ l
  | [], h => absurd rfl h
  | [a], _ => by simp [maxA]
  | a :: b :: r, _ => by
    have ih := maxA_mem (l := b :: r) (by simp)
    unfold maxA
    rcases Int.le_total a (maxA (b :: r)) with z | z
    · rw [Int.max_eq_right z]; exact List.mem_cons_of_mem _ ih
    · rw [Int.max_eq_left z]; exact List.mem_cons_self
theorem maxA_le : ∀ {l : List Int}, ∀ y ∈ l, y ≤ maxA l
  | [], y, h => nomatch h
  | [a], y, h => by
    simp only [List.mem_singleton] at h
    rw [h]; exact Int.le_refl _
  | a :: b :: r, y, h => by
    unfold maxA
    rcases List.mem_cons.mp h with rfl | h
    · exact Int.le_max_left _ _
    · exact Int.le_trans (maxA_le (l := b :: r) y h) (Int.le_max_right _ _)
theorem do__law_applied (p : Pgs × List En) (h : appOk p.1 p.2 = true) :
    Do K C [] B H0 (t__law_applied K) [.val (pagesD p.1), .val (.lst (p.2.map En.d)), .no, .no, .no, .no, .no] nx bk ct (fun d _ => d = pgsO (appliedR p.1 p.2)) := by
  obtain ⟨pg, es⟩ := p
  have h : appOk pg es = true := h
  unfold appOk at h
  simp only [Bool.and_eq_true, decide_eq_true_eq, Bool.or_eq_true, Bool.not_eq_true', List.all_eq_true] at h
  obtain ⟨h1, h2, h3, h4, h5⟩ := h
  refine do_seq (do_forL (l := es.map En.d) (ev_var rfl) (fun i ss => (∃ x2 x3 x4, ss = [.val (pagesD pg), .val (.lst (es.map En.d)), x2, x3, x4, .no, .no]) ∧ ∀ e ∈ es.take i, curB pg e = true) ⟨⟨_, _, _, rfl⟩, fun e he => by simp at he⟩ ?_ ?_)
  · rintro i d ss hi ⟨⟨x2, x3, x4, rfl⟩, hc⟩
    rw [List.getElem?_map] at hi
    cases e0 : es[i]? with
    | none => rw [e0] at hi; cases hi
    | some e =>
    rw [e0] at hi
    cases hi
    have hm := List.mem_of_getElem? e0
    refine ⟨_, by rw [En.d_eq]; walk_at "gs", ?_⟩
    have hx : EvT K C (tAnd (tTest (tOp rGeI (tVar 2) (tC (.int 0)))) (tOr (tB (tDNotIn (tVar 2) (tVar 0))) (tTest (tOp rNe (tOp (rIxT K) (tDGet (tVar 0) (tVar 2)) (tC (.int 0))) (tVar 3))))) [.val (pagesD pg), .val (.lst (es.map En.d)), .val (.int e.page), .val (oD e.addr), .val e.rc.d, .no, .no] (!curB pg e) := by
      by_cases z : (0 : Int) ≤ e.page
      · have hcur : curB pg e = decide ((look pg e.page).map (·.1) = e.addr) := by
          unfold curB
          rw [decide_eq_false (by omega), Bool.false_or]
        obtain ⟨a, ha⟩ : ∃ a, e.addr = some a := by
          rcases h4 e hm with w | w
          · omega
          · exact Option.isSome_iff_exists.mp w
        have h0 : EvT K C (tTest (tOp rGeI (tVar 2) (tC (.int 0)))) [.val (pagesD pg), .val (.lst (es.map En.d)), .val (.int e.page), .val (oD e.addr), .val e.rc.d, .no, .no] true := et_test (EvT.is' (ev_op (d := .int e.page) (e := .int 0) (Ev.x (ev_var rfl)) (Ev.x ev_int) rv_b) (decide_eq_true z))
        have h1 : Ev K C (tDNotIn (tVar 2) (tVar 0)) [.val (pagesD pg), .val (.lst (es.map En.d)), .val (.int e.page), .val (oD e.addr), .val e.rc.d, .no, .no] (.bl (!(look pg e.page).isSome)) := Ev.is (ev_dnin (l := mapV pgD pg) (ev_var rfl) (Ev.x (ev_var rfl))) (by rw [isSome_pg])
        rw [hcur]
        rw [ha] at h0 h1 ⊢
        cases el : look pg e.page with
        | none =>
          rw [el] at h1
          exact EvT.is (et_and (a := true) (b := true) h0 fun _ => et_or (a := true) (b := true) (et_B h1) (fun w => nomatch w)) (by simp)
        | some ar =>
          obtain ⟨a', r⟩ := ar
          rw [el] at h1
          refine EvT.is (et_and (a := true) (b := decide (a' ≠ a)) h0 fun _ => et_or (a := false) (b := decide (a' ≠ a)) (et_B h1) (fun _ => et_test (ev_op (d := .int a') (e := .int a) (Ev.x (ix_call (ev_pg (ev_var rfl) (ev_var rfl) el) rfl)) (Ev.x (ev_var rfl)) rv_nei))) ?_
          simp
      · have hcur : curB pg e = true := by
          unfold curB
          rw [decide_eq_true (by omega), Bool.true_or]
        rw [hcur]
        exact et_and (a := false) (b := false) (et_test (EvT.is' (ev_op (d := .int e.page) (e := .int 0) (Ev.x (ev_var rfl)) (Ev.x ev_int) rv_b) (decide_eq_false z))) (fun w => nomatch w)
    refine do_if hx (fun hb => do_ret ev_non ?_) (fun hb => do_next ⟨⟨_, _, _, rfl⟩, fun e' he' => ?_⟩)
    · unfold appliedR
      rw [if_neg]
      · rfl
      · rw [List.all_eq_true]
        intro w
        rw [w e hm] at hb
        cases hb
    · rw [List.take_add_one, e0] at he'
      rcases List.mem_append.mp he' with w | w
      · exact hc e' w
      · simp only [Option.toList_some, List.mem_singleton] at w
        rw [w]
        simpa using hb
  · rintro ss ⟨⟨x2, x3, x4, rfl⟩, hc⟩
    rw [List.length_map, List.take_length] at hc
    have hall : es.all (curB pg) = true := List.all_eq_true.mpr hc
    have happ : appliedR pg es = some (applyGo (mostAddr pg) pg (es.map (placedE (namesOf pg es)))) := by
      unfold appliedR
      rw [if_pos hall]
    rw [happ]
    have h5 : ∀ e ∈ es, pageOk e.page (namesOf pg es).length = true ∧ recPagesOk (namesOf pg es).length e.rc = true := by
      rcases h5 with z | z
      · rw [hall] at z; cases z
      · exact z
    refine do_seq (do_asgN (d := .dct (mapV pgD pg)) (evn_cb (Ev.x (ev_var rfl)) rcn_dict) ?_ (by simp))
    refine do_seq (do_asg (d := .int (mostAddr pg)) ?_ ?_ (by simp))
    · have q := evn_lock (K := K) (C := C) (ss := [.val (pagesD pg), .val (.lst (es.map En.d)), x2, x3, x4, .own (.dct (mapV pgD pg)), .no]) (i := 5) (j := 2) (l := mapV pgD pg) (pr := fun _ => true) (g := fun k => ((look pg k).map (·.1)).getD 0) (t := tYes) (te := tOp (rIxT K) (tDGet (tVar 5) (tVar 2)) (tC (.int 0)))
        (.inl rfl) (by decide) (by simp) (nod_pgs pg) (by unfold mapV; rw [List.length_map]; omega) (fun k d hd B' H' σ' R _ _ _ hR => hR) (fun k d hd _ B' H' σ' R E u _ hR => by
          obtain ⟨a, r, hk, rfl⟩ := look_pgs hd
          refine evu_ix E u rfl R fun v rv => ?_
          rw [rep_int rv]
          rw [hk] at hR
          exact hR)
      rw [List.filter_eq_self.mpr (fun _ _ => rfl), keys_mapV] at q
      have hne : (pg.map (·.1)).map (fun k => ((look pg k).map (·.1)).getD 0) ≠ [] := by
        intro z
        rw [List.map_eq_nil_iff, List.map_eq_nil_iff] at z
        exact h1 z
      exact ev_cb q.x (rc_max (maxA_mem hne) maxA_le)
    · refine do_seq (do_forL (l := (es.map (placedE (namesOf pg es))).map En.d) (ev_call (es, namesOf pg es) (ea_cons (ev_var rfl) (ea_cons (ev_call (pg, newPages es) (ea_cons (ev_var rfl) (ea_cons (ev_call es (ea_cons (ev_var rfl) ea_nil) (show es.length ≤ 50000 by omega)) ea_nil)) trivial) ea_nil)) ⟨show es.length ≤ 50000 by omega, h5⟩)
        (fun i ss => ∃ x2 x3 x4 after most, ss = [.val (pagesD pg), .val (.lst (es.map En.d)), x2, x3, x4, .own (.dct (mapV pgD after)), .val (.int most)] ∧ after.length ≤ 1000 + i ∧ applyGo most after ((es.map (placedE (namesOf pg es))).drop i) = applyGo (mostAddr pg) pg (es.map (placedE (namesOf pg es)))) ⟨_, _, _, pg, _, rfl, h2, rfl⟩ ?_ ?_)
      · generalize hL : es.map (placedE (namesOf pg es)) = L
        have hLl : L.length ≤ 1000 := by rw [← hL, List.length_map]; exact h3
        rintro i d ss hi ⟨x2, x3, x4, after, most, rfl, ha, hg⟩
        rw [List.getElem?_map] at hi
        cases e0 : L[i]? with
        | none => rw [e0] at hi; cases hi
        | some e =>
        rw [e0] at hi
        cases hi
        have hlt : i < L.length := (List.getElem?_eq_some_iff.mp e0).1
        have hd : L.drop i = e :: L.drop (i + 1) := by
          rw [List.drop_eq_getElem_cons hlt]
          rw [List.getElem?_eq_getElem hlt] at e0
          cases e0
          rfl
        rw [hd] at hg
        refine ⟨_, by rw [En.d_eq]; walk_at "gs", ?_⟩
        refine do_seq (do_asg (ev_op (d := .int most) (e := .int 1) (Ev.x (ev_var rfl)) (Ev.x ev_int) rv_i) ?_ (by simp))
        refine do_dput (i := 5) (k := e.page) (d := pgD (most + 1, e.rc)) rfl (ev_tup (ea_cons (ev_var rfl) (ea_cons (ev_var rfl) ea_nil)) (by simp)) (ev_var rfl) (by unfold mapV; rw [List.length_map]; omega) ⟨.val (.int e.page), .val (oD e.addr), .val e.rc.d, put after e.page (most + 1, e.rc), most + 1, ?_, ?_, hg⟩
        · rw [put_mapV]; rfl
        · have := put_len after e.page (most + 1, e.rc)
          omega
      · rintro ss ⟨x2, x3, x4, after, most, rfl, ha, hg⟩
        rw [List.length_map, List.drop_length] at hg
        refine do_freeze 5 rfl (do_ret (ev_var rfl) ?_)
        rw [← hg]
        rfl
end
end Esp

/-! The law's defs, part 7: map, read. -/
namespace Esp
open PySem L2 PyProof.Rows PySem.Spec
local macro_rules | `(tactic| walk_at "ev") => `(tactic| repeat' (first
  | exact ev_int | exact ev_str | exact ev_bl | exact ev_non | exact ea_nil | exact eo_none | exact et_yes
  | exact ev_var rfl | exact evx_own rfl
  | apply ea_cons | apply eo_some | apply ev_tup (hl := by first | decide | (simp; done))
  | apply ev_op | apply ev_neg
  | apply ev_sl | apply ev_chain
  | apply ev_andV | apply ev_orV | apply ev_notV
  | apply et_test | apply et_B | apply et_not | apply et_and | apply et_or
  | exact rv_i | exact rv_b | exact rv_eqi | exact rv_nei | exact rv_eqs_t (by with_reducible rfl) | exact rv_eqs_f (by decide +kernel) | exact rv_nes_t (by with_reducible rfl) | exact rv_nes_f (by decide +kernel)
  | exact rv_isN | exact rv_notN
  | exact rv_ixT rfl | exact rv_ixL rfl | apply rv_ixT | apply rv_ixL
  | apply ev_cb (hr := rc_lenT) | apply ev_cb (hr := rc_lenL) | apply ev_cb (hr := rc_int) | apply ev_cb (hr := rc_tupT) | apply ev_cb (hr := rc_all)
  | apply Ev.x | (intro _)))
local macro_rules | `(tactic| walk_at "gs") => `(tactic| repeat' (first | exact gs_nil | apply gs_cons | exact g_name (by simp) | apply g_tup (hn := rfl)))
section
variable {K : PySem.W.Frag} {C : Addr} {B H0 : Hp} {nx bk ct : List Sl → Prop} {rt : D → List Sl → Prop} {ss : List Sl} {te tk tl : TE}
theorem putAll_snoc : ∀ (ks vs : List Int) (t : Tab) (k : Nat) (x y : Int), ks[k]? = some x → vs[k]? = some y → putAll t (ks.take (k + 1)) (vs.take (k + 1)) = put (putAll t (ks.take k) (vs.take k)) x y
  | [], _, _, k, x, y, h, _ => by simp at h
  | _ :: _, [], _, k, x, y, _, h => by simp at h
  | a :: ks, b :: vs, t, 0, x, y, h1, h2 => by
    simp at h1 h2
    subst h1 h2
    rfl
  | a :: ks, b :: vs, t, k + 1, x, y, h1, h2 => by
    show putAll (put t a b) (ks.take (k + 1)) (vs.take (k + 1)) = put (putAll (put t a b) (ks.take k) (vs.take k)) x y
    exact putAll_snoc ks vs _ k x y (by simpa using h1) (by simpa using h2)
theorem putAll_len : ∀ (ks vs : List Int) (t : Tab), (putAll t ks vs).length ≤ t.length + ks.length
  | [], _, t => by simp [putAll]
  | _ :: _, [], t => by simp [putAll]
  | a :: ks, b :: vs, t => by
    have h1 := putAll_len ks vs (put t a b)
    have h2 := put_len t a b
    show (putAll (put t a b) ks vs).length ≤ t.length + (ks.length + 1)
    omega
theorem eqv_ints : ∀ l : List Int, PyData.eqvAll (pyL (l.map D.int)) (pyL (l.map D.int)) = true
  | [] => by simp [pyL, PyData.eqvAll]
  | x :: l => by
    show PyData.eqvAll (PyData.int x :: pyL (l.map D.int)) (PyData.int x :: pyL (l.map D.int)) = true
    rw [PyData.eqvAll, eqv_ints l, PyData.eqv]
    simp
theorem rv_neInts {l : List Int} : RV K (rNeD K) (.lst (l.map D.int)) (.lst (l.map D.int)) (.bl false) := by
  have z := lay_lst (f := D.int) (l := l) fun x _ => lay_up (lay_int x) (by omega)
  have q := rv_neD (K := K) z.1 z.1 z.2 z.2
  have e : PyData.eqv (pyD (.lst (l.map D.int))) (pyD (.lst (l.map D.int))) = true := by
    show PyData.eqv (.list (pyL (l.map D.int))) (.list (pyL (l.map D.int))) = true
    rw [PyData.eqv]
    exact eqv_ints l
  rw [e] at q
  exact q
theorem fits_ok {p : Int} {r : Rec} {lo hi : Option Int} {lv : Int} (h : fitsB p r lo hi lv = true) : r.okB = true := by
  unfold fitsB at h
  exact (Bool.and_eq_true_iff.mp h).1
theorem do__law_map (p : Pgs × Tab) (h : mapR p.1 = some p.2) :
    Do K C [] B H0 (t__law_map K) [.val (pagesD p.1), .no, .no, .no, .no, .no, .no, .no, .no, .no, .no, .no] nx bk ct (fun d _ => d = tabD p.2) := by
  obtain ⟨pg, out⟩ := p
  have h : mapR pg = some out := h
  unfold mapR at h
  cases ef : mapGo pg 400 0 ⟨[], [⟨0, none, none, -1⟩], []⟩ with
  | none => rw [ef] at h; cases h
  | some fin =>
  rw [ef] at h
  simp only at h
  split at h
  case isFalse => cases h
  case isTrue g0 =>
  cases h
  rw [Bool.and_eq_true, decide_eq_true_eq, decide_eq_true_eq] at g0
  obtain ⟨g0, g1⟩ := g0
  refine do_seq (do_asgN evn_dict ?_ (by simp))
  refine do_seq (do_asgN (d := .lst ([Todo.mk 0 none none (-1)].map Todo.d)) (evn_lst (ea_cons (ev_tup (ea_cons ev_int (ea_cons ev_non (ea_cons ev_non (ea_cons (ev_neg ev_int) ea_nil)))) (by simp)) ea_nil) (by simp)) ?_ (by simp))
  refine do_seq (do_asgN (evn_lst ea_nil (by simp)) ?_ (by simp))
  refine do_seq (do_forR1 (n := 400) (ea_cons ev_int ea_nil) (by decide)
    (fun i ss => ∃ s x4 x5 x6 x7 x8 x9 x10, ss = [.val (pagesD pg), .own (.dct (mapV D.int s.table)), .own (.lst (s.todo.map Todo.d)), .own (.lst (s.seen.map D.int)), x4, x5, x6, x7, x8, x9, x10, .no] ∧ mapGo pg (400 - i) i s = some fin ∧ s.seen.length ≤ i)
    ⟨⟨[], [⟨0, none, none, -1⟩], []⟩, _, _, _, _, _, _, _, rfl, ef, Nat.le_refl _⟩ ?_ ?_)
  · rintro i ss hi ⟨s, x4, x5, x6, x7, x8, x9, x10, rfl, hw, hsl⟩
    have hi : i < 400 := hi
    rw [show 400 - i = (400 - (i + 1)) + 1 by omega] at hw
    unfold mapGo at hw
    cases es : mapStep pg i s with
    | none => rw [es] at hw; cases hw
    | some s' =>
    rw [es] at hw
    have hw : mapGo pg (400 - (i + 1)) (i + 1) s' = some fin := hw
    refine ⟨_, g_name (by simp), ?_⟩
    have hlt : EvT K C (tTest (tOp rLtI (tVar 4) (tCB (rLenS K) (tCons (tVar 2) tNil)))) [.val (pagesD pg), .own (.dct (mapV D.int s.table)), .own (.lst (s.todo.map Todo.d)), .own (.lst (s.seen.map D.int)), .val (.int (0 + (i : Int))), x5, x6, x7, x8, x9, x10, .no] (decide (i < s.todo.length)) :=
      et_test (EvT.is' (ev_op (d := .int (0 + (i : Int))) (e := .int s.todo.length) (Ev.x (ev_var rfl)) (Ev.x (Ev.is (ev_cb (evx_own rfl) rc_lenL) (by rw [List.length_map]))) rv_b) (by
        by_cases z : i < s.todo.length
        · rw [decide_eq_true z, decide_eq_true (by omega)]
        · rw [decide_eq_false z, decide_eq_false (by omega)]))
    unfold mapStep at es
    cases et : s.todo[i]? with
    | none =>
      rw [et] at es
      cases es
      have : ¬ i < s.todo.length := fun z => by rw [List.getElem?_eq_getElem z] at et; cases et
      exact do_iff (EvT.is hlt (decide_eq_false this)) (do_next ⟨s, _, _, _, _, _, _, _, rfl, hw, by omega⟩)
    | some t =>
    rw [et] at es
    have hil : i < s.todo.length := (List.getElem?_eq_some_iff.mp et).1
    cases el : look pg t.page with
    | none => simp only [el] at es; cases es
    | some ar =>
    obtain ⟨a, r⟩ := ar
    simp only [el] at es
    split at es
    case isFalse => cases es
    case isTrue g2 =>
    simp only [Bool.and_eq_true, decide_eq_true_eq] at g2
    obtain ⟨k1, k2, k3, k4⟩ := g2
    refine do_ift (EvT.is hlt (decide_eq_true hil)) ?_
    refine do_seq (do_asgG (d := t.d) (ev_op (d := .lst (s.todo.map Todo.d)) (e := .int (0 + (i : Int))) (evx_own rfl) (Ev.x (ev_var rfl)) (rv_ixL (at_nat (j := i) (by omega) (by rw [List.getElem?_map, et]; rfl)))) (by unfold Todo.d; walk_at "gs") ?_)
    refine do_seq (do_iff (et_or (a := false) (b := false) (et_test (EvT.is' (ev_op (d := .int t.page) (e := .lst (s.seen.map D.int)) (Ev.x (ev_var rfl)) (evx_own rfl) rv_inL) (decide_eq_false k1))) fun _ => et_B (Ev.is (ev_dnin (l := mapV pgD pg) (ev_var rfl) (Ev.x (ev_var rfl))) (by rw [isSome_pg, el]; rfl))) (do_next ?_))
    refine do_seq (do_app (i := 3) (d := .int t.page) rfl (ev_var rfl) (by rw [List.length_map]; omega) ?_)
    refine do_seq (do_asg (d := r.d) (ix_call (ev_pg (ev_var rfl) (ev_var rfl) el) rfl) ?_ (by simp))
    refine do_seq (do_iff (EvT.is (b := !true) (et_not (et_B (ev_call (t.page, r, t.lo, t.hi, t.lv) (ea_cons (ev_var rfl) (ea_cons (ev_var rfl) (ea_cons (ev_var rfl) (ea_cons (ev_var rfl) (ea_cons (ev_var rfl) ea_nil))))) k2))) rfl) (do_next ?_))
    have hseen : (.lst (s.seen.map D.int ++ [.int t.page]) : D) = .lst ((s.seen ++ [t.page]).map D.int) := by rw [List.map_append]; rfl
    rw [hseen]
    cases r with
    | free n => simp only at es; cases es
    | leaf lo hi ks vs =>
      simp only at es
      cases es
      obtain ⟨o1, o2, _⟩ := leaf_ok (fits_ok k2)
      refine do_ift (et_test (et_leaf (r := .leaf lo hi ks vs) (ev_var rfl))) ?_
      refine do_forR1 (n := ks.length) (ea_cons (Ev.is (ev_cb (d := iL ks) (Ev.x (ix_call (ev_var rfl) rfl)) rc_lenT) (by rw [List.length_map])) ea_nil) (by omega)
        (fun k ss => ∃ x10, ss = [.val (pagesD pg), .own (.dct (mapV D.int (putAll s.table (ks.take k) (vs.take k)))), .own (.lst (s.todo.map Todo.d)), .own (.lst ((s.seen ++ [t.page]).map D.int)), .val (.int (0 + (i : Int))), .val (.int t.page), .val (oD t.lo), .val (oD t.hi), .val (.int t.lv), .val (Rec.leaf lo hi ks vs).d, x10, .no])
        ⟨x10, by cases ks <;> cases vs <;> rfl⟩ ?_ ?_
      · rintro k ss hk ⟨x10, rfl⟩
        have hk1 : k < ks.length := by omega
        have hk2 : k < vs.length := by omega
        have q1 : ks[k]? = some ks[k] := List.getElem?_eq_getElem hk1
        have q2 : vs[k]? = some vs[k] := List.getElem?_eq_getElem hk2
        refine ⟨_, g_name (by simp), ?_⟩
        refine do_dput (i := 1) (k := ks[k]) (d := .int vs[k]) rfl (ev_op (d := iL vs) (e := .int (0 + (k : Int))) (Ev.x (ix_call (ev_var rfl) rfl)) (Ev.x (ev_var rfl)) (rv_ixT (at_ints (by omega) q2))) (ev_op (d := iL ks) (e := .int (0 + (k : Int))) (Ev.x (ix_call (ev_var rfl) rfl)) (Ev.x (ev_var rfl)) (rv_ixT (at_ints (by omega) q1))) ?_ ⟨.val (.int (0 + (k : Int))), ?_⟩
        · have := putAll_len (ks.take k) (vs.take k) s.table
          rw [List.length_take] at this
          unfold mapV
          rw [List.length_map]
          omega
        · rw [put_mapV, putAll_snoc ks vs s.table k _ _ q1 q2]
          rfl
      · rintro ss ⟨x10, rfl⟩
        rw [show (ks.length : Int).toNat = ks.length by omega, List.take_length, List.take_of_length_le (l := vs) (by omega)]
        exact ⟨⟨putAll s.table ks vs, s.todo, s.seen ++ [t.page]⟩, _, _, _, _, _, _, _, rfl, hw, by
          show (s.seen ++ [t.page]).length ≤ i + 1
          rw [List.length_append, List.length_singleton]; omega⟩
    | inner lv lo hi ks ps =>
      simp only at es
      cases es
      obtain ⟨_, o1, o2, _⟩ := inner_ok (fits_ok k2)
      have hbl : (belowL lv lo hi ks ps lv).length = ps.length := by unfold belowL; rw [List.length_map, List.length_range]
      refine do_iff (et_test (et_leaf (r := .inner lv lo hi ks ps) (ev_var rfl))) ?_
      refine do_asgN (evn_op (d := .lst (s.todo.map Todo.d)) (e := .lst ((belowL lv lo hi ks ps lv).map Todo.d)) (evx_own rfl) (Ev.x (ev_call (Rec.inner lv lo hi ks ps, lv) (ea_cons (ev_var rfl) (ea_cons (ix_call (ev_var rfl) rfl) ea_nil)) ⟨fits_ok k2, rfl, rfl⟩)) (rvn_cat ?_)) ⟨_, .val (.int (0 + (i : Int))), .val (.int t.page), .val (oD t.lo), .val (oD t.hi), .val (.int t.lv), .val (Rec.inner lv lo hi ks ps).d, x10, ?_, hw, ?_⟩ (by simp)
      · rw [List.length_map, List.length_map, hbl]
        exact Nat.le_trans (show s.todo.length + ps.length ≤ 100000 by omega) (by decide)
      · rw [← List.map_append]; rfl
      · show (s.seen ++ [t.page]).length ≤ i + 1
        rw [List.length_append, List.length_singleton]; omega
  · rintro ss ⟨s, x4, x5, x6, x7, x8, x9, x10, rfl, hw, hsl⟩
    have hw : some s = some fin := hw
    obtain rfl : s = fin := Option.some.inj hw
    have q := evn_lock (K := K) (C := C) (ss := [.val (pagesD pg), .own (.dct (mapV D.int s.table)), .own (.lst (s.todo.map Todo.d)), .own (.lst (s.seen.map D.int)), x4, x5, x6, x7, x8, x9, x10, .no]) (i := 0) (j := 5) (l := mapV pgD pg)
      (pr := fun p => match look pg p with | some (_, r) => r.live | none => false) (g := fun k => k) (t := tTest (tOp rNe (tOp (rIxT K) (tOp (rIxT K) (tDGet (tVar 0) (tVar 5)) (tC (.int 1))) (tC (.int 0))) (tC (.str "free")))) (te := tVar 5)
      (.inr rfl) (by decide) (by simp) (nod_pgs pg) (by unfold mapV; rw [List.length_map]; omega) (fun k d hd B' H' σ' R E u _ hR => by
        obtain ⟨a, r, hk, rfl⟩ := look_pgs hd
        simp only [hk] at hR
        have u1 : EvU K (tOp (rIxT K) (tDGet (tVar 0) (tVar 5)) (tC (.int 1))) σ' B' H' r.d := evu_ix E u rfl
        have u2 : EvU K (tOp (rIxT K) (tOp (rIxT K) (tDGet (tVar 0) (tVar 5)) (tC (.int 1))) (tC (.int 0))) σ' B' H' (.str (tagOf r)) := by
          cases r <;> exact evu_ix E u1 rfl
        refine u2 _ fun v rv => ?_
        cases rv
        refine ⟨rfl, _, rfl, ?_⟩
        have e : (!decide (V.str (tagOf r) = V.str "free")) = r.live := by
          rw [show decide (V.str (tagOf r) = V.str "free") = decide (tagOf r = ("free" : Str)) from by simp, tag_free, Bool.not_not]
        rw [e]
        exact hR) (fun k d hd _ B' H' σ' R _ _ hj hR => ⟨_, hj, hR⟩)
    rw [keys_mapV, List.map_id''] at q
    case h => exact fun _ => rfl
    refine do_seq (do_lock q ?_ (by simp))
    refine do_seq (do_iff (et_test (ev_op (d := .lst ((srt s.seen).map D.int)) (e := .lst ((srt s.seen).map D.int)) (EvN.x (evn_cb (evx_own rfl) rcn_sorted)) ?_ rv_neInts)) (do_next ?_))
    · rw [g1]
      exact EvN.x (evn_cb (d := .lst ((liveOf pg).map D.int)) (evx_own rfl) rcn_sorted)
    · exact do_freeze 1 rfl (do_ret (ev_var rfl) rfl)
end
end Esp

/-! The law's defs, part 8: read, turn, call, filled. -/
namespace Esp
open PySem L2 PyProof.Rows PySem.Spec
local macro_rules | `(tactic| walk_at "ev") => `(tactic| repeat' (first
  | exact ev_int | exact ev_str | exact ev_bl | exact ev_non | exact ea_nil | exact eo_none | exact et_yes
  | exact ev_var rfl | exact evx_own rfl
  | apply ea_cons | apply eo_some | apply ev_tup (hl := by first | decide | (simp; done))
  | apply ev_op | apply ev_neg
  | apply ev_sl | apply ev_chain
  | apply ev_andV | apply ev_orV | apply ev_notV
  | apply et_test | apply et_B | apply et_not | apply et_and | apply et_or
  | exact rv_i | exact rv_b | exact rv_eqi | exact rv_nei | exact rv_eqs_t (by with_reducible rfl) | exact rv_eqs_f (by decide +kernel) | exact rv_nes_t (by with_reducible rfl) | exact rv_nes_f (by decide +kernel)
  | exact rv_isN | exact rv_notN
  | exact rv_ixT rfl | exact rv_ixL rfl | apply rv_ixT | apply rv_ixL
  | apply ev_cb (hr := rc_lenT) | apply ev_cb (hr := rc_lenL) | apply ev_cb (hr := rc_int) | apply ev_cb (hr := rc_tupT) | apply ev_cb (hr := rc_all)
  | apply Ev.x | (intro _)))
local macro_rules | `(tactic| walk_at "gs") => `(tactic| repeat' (first | exact gs_nil | apply gs_cons | exact g_name (by simp) | apply g_tup (hn := rfl)))
section
variable {K : PySem.W.Frag} {C : Addr} {B H0 : Hp} {nx bk ct : List Sl → Prop} {rt : D → List Sl → Prop} {ss : List Sl} {te tk tl tw : TE}
theorem ix_wk {w : Wk} {i : Nat} {d : D} (h : Ev K C tw ss w.d) (hd : [w.call.d, .lst (w.path.map Step.d), .dct (mapV Step.d w.sib), w.due.d, .non][i]? = some d) : Ev K C (tOp (rIxL K) tw (tC (.int i))) ss d :=
  ev_op (d := w.d) (e := .int i) (Ev.x h) (Ev.x ev_int) (rv_ixL (at_nat (j := i) rfl hd))
theorem isEmpty_last {α : Type} {l : List α} : l.isEmpty = l.getLast?.isNone := by
  cases l with
  | nil => rfl
  | cons a b => simp
theorem do__law_read (p : (Wk × Pgs × Tab) × Wk) (h : readR p.1.1 p.1.2.1 p.1.2.2 = some p.2) :
    Do K C [] B H0 (t__law_read K) [.val p.1.1.d, .val (pagesD p.1.2.1), .val (tabD p.1.2.2), .no, .no, .no, .no, .no, .no] nx bk ct (fun d _ => d = p.2.d) := by
  obtain ⟨⟨w, pg, t⟩, out⟩ := p
  have h : readR w pg t = some out := h
  unfold readR at h
  cases ep : readPage w with
  | none => rw [ep] at h; cases h
  | some q =>
  rw [ep] at h
  cases el : look pg q with
  | none => simp only [el] at h; cases h
  | some ar =>
  obtain ⟨a, r⟩ := ar
  simp only [el] at h
  split at h
  case isFalse => cases h
  case isTrue g =>
  obtain ⟨g1, g2⟩ := g
  have inn : ∀ s, w.path.getLast? = some s → ∃ lv lo hi ks ps, s.rc = .inner lv lo hi ks ps ∧ ks.length ≤ 50 ∧ ps[childAt ks w.call.key]? = some q := by
    intro s hs
    simp only [readPage, hs] at ep
    unfold nextPage at ep
    split at ep
    case h_1 lv lo hi ks ps e =>
      split at ep
      case isFalse => cases ep
      case isTrue g => exact ⟨lv, lo, hi, ks, ps, e, g, ep⟩
    case h_2 => cases ep
  have tail : ∀ (x5 x6 : Sl) (bk' : List Sl → Prop), Do K C [] B H0 (tSeq (tAsg (tTup (tCons (tVar 4) (tCons (tOp (rIxT K) (tDGet (tVar 1) (tVar 4)) (tC (.int 0))) (tCons (tOp (rIxT K) (tDGet (tVar 1) (tVar 4)) (tC (.int 1))) (tCons (tC (.int 1)) tNil))))) (gName 7)) (tSeq (tIfS (tB (tCall (sp__law_wrong K) [] E0 (tCons (tVar 3) (tCons (tOp (rIxT K) (tVar 7) (tC (.int 2))) (tCons (tOp (rIxT K) (tOp (rIxL K) (tVar 0) (tC (.int 0))) (tC (.int 1))) tNil))))) (tRet (tCall (sp__law_fresh K) [] E0 (tCons (tOp (rIxL K) (tVar 0) (tC (.int 0))) tNil))) tNext) (tSeq (tAsg (tC .non) (gName 8)) (tSeq (tIfS (tTest (tOp rEq (tOp (rIxT K) (tOp (rIxT K) (tVar 7) (tC (.int 2))) (tC (.int 0))) (tC (.str "leaf")))) (tAsg (tOp (rIxT K) (tCall (sp__law_due K) [] E0 (tCons (tVar 2) (tCons (tOp (rIxL K) (tVar 0) (tC (.int 0))) tNil))) (tC (.int 0))) (gName 8)) tNext) (tRet (tLst (tCons (tOp (rIxL K) (tVar 0) (tC (.int 0))) (tCons (tOp rCat (tVar 3) (tLst (tCons (tVar 7) tNil))) (tCons tDNewK (tCons (tVar 8) (tCons (tC .non) tNil)))))))))))
      [.val w.d, .val (pagesD pg), .val (tabD t), .val (.lst (w.path.map Step.d)), .val (.int q), x5, x6, .no, .no] nx bk' ct (fun d _ => d = out.d) := fun x5 x6 bk' => by
    refine do_seq (do_asg (d := Step.d ⟨q, a, r, 1⟩) (ev_tup (ea_cons (ev_var rfl) (ea_cons (ix_call (ev_pg (ev_var rfl) (ev_var rfl) el) rfl) (ea_cons (ix_call (ev_pg (ev_var rfl) (ev_var rfl) el) rfl) (ea_cons ev_int ea_nil)))) (by simp)) ?_ (by simp))
    have hw : Ev K C (tCall (sp__law_wrong K) [] E0 (tCons (tVar 3) (tCons (tOp (rIxT K) (tVar 7) (tC (.int 2))) (tCons (tOp (rIxT K) (tOp (rIxL K) (tVar 0) (tC (.int 0))) (tC (.int 1))) tNil))))
        [.val w.d, .val (pagesD pg), .val (tabD t), .val (.lst (w.path.map Step.d)), .val (.int q), x5, x6, .val (Step.d ⟨q, a, r, 1⟩), .no] (.bl (wrongB w.path r w.call.key)) :=
      ev_call (w.path, r, w.call.key) (ea_cons (ev_var rfl) (ea_cons (ix_rc (t := ⟨q, a, r, 1⟩) (ev_var rfl)) (ea_cons (ix_key (ix_wk (i := 0) (ev_var rfl) rfl)) ea_nil))) (fun s hs => by
        obtain ⟨lv, lo, hi, ks, ps, e, _⟩ := inn s hs
        rw [e]
        exact ⟨rfl, rfl⟩)
    cases eb : wrongB w.path r w.call.key with
    | true =>
      rw [if_pos eb] at h
      cases h
      rw [eb] at hw
      exact do_seq (do_ift (et_B hw) (do_ret (ev_call w.call (ea_cons (ix_wk (i := 0) (ev_var rfl) rfl) ea_nil) trivial) rfl))
    | false =>
      rw [if_neg (by rw [eb]; exact Bool.false_ne_true)] at h
      cases h
      rw [eb] at hw
      refine do_seq (do_iff (et_B hw) (do_next ?_))
      refine do_seq (do_asg ev_non ?_ (by simp))
      refine do_seq ?_
      have fin : ∀ (an : An) (bk' : List Sl → Prop), Do K C [] B H0 (tRet (tLst (tCons (tOp (rIxL K) (tVar 0) (tC (.int 0))) (tCons (tOp rCat (tVar 3) (tLst (tCons (tVar 7) tNil))) (tCons tDNewK (tCons (tVar 8) (tCons (tC .non) tNil)))))))
          [.val w.d, .val (pagesD pg), .val (tabD t), .val (.lst (w.path.map Step.d)), .val (.int q), x5, x6, .val (Step.d ⟨q, a, r, 1⟩), .val an.d] nx bk' ct (fun d _ => d = (Wk.mk w.call (w.path ++ [⟨q, a, r, 1⟩]) [] an).d) := fun an bk' => by
        refine do_ret (EvN.ev (evn_lst (ea_cons (ix_wk (i := 0) (ev_var rfl) rfl) (ea_cons (EvN.ev (evn_op (d := .lst (w.path.map Step.d)) (e := .lst [Step.d ⟨q, a, r, 1⟩]) (Ev.x (ev_var rfl)) (EvN.x (evn_lst (ea_cons (ev_var rfl) ea_nil) (by simp))) (rvn_cat ?_))) (ea_cons (EvN.ev evn_dict) (ea_cons (ev_var rfl) (ea_cons ev_non ea_nil))))) (by simp))) ?_
        · rw [List.length_map]
          exact Nat.le_trans (show w.path.length + 1 ≤ 100000 by omega) (by decide)
        · unfold Wk.d
          rw [List.map_append]
          rfl
      cases hr : r.isLeaf with
      | true =>
        rw [if_pos rfl]
        refine do_ift (et_test (Ev.is (et_leaf (ix_rc (t := ⟨q, a, r, 1⟩) (ev_var rfl))) (by rw [hr]))) ?_
        refine do_asg (d := (dueOf t w.call).1.d) (ix_call (l := [(dueOf t w.call).1.d, tabD (dueOf t w.call).2]) (ev_call (t, w.call) (ea_cons (ev_var rfl) (ea_cons (ix_wk (i := 0) (ev_var rfl) rfl) ea_nil)) g2) rfl) ?_ (by simp)
        exact fin _ _
      | false =>
        rw [if_neg Bool.false_ne_true]
        refine do_iff (et_test (Ev.is (et_leaf (ix_rc (t := ⟨q, a, r, 1⟩) (ev_var rfl))) (by rw [hr]))) (do_next ?_)
        exact fin (.o none) _
  refine do_seq (do_asg (ix_wk (i := 1) (ev_var rfl) rfl) ?_ (by simp))
  refine do_seq (do_asg ev_int ?_ (by simp))
  have hne : EvT K C (tTest (tOp (rNeD K) (tVar 3) (tLst tNil))) [.val w.d, .val (pagesD pg), .val (tabD t), .val (.lst (w.path.map Step.d)), .val (.int 0), .no, .no, .no, .no] (!w.path.isEmpty) := et_test (ev_op (Ev.x (ev_var rfl)) (EvN.x (evn_lst ea_nil (by simp))) (rv_neNil fun t _ => lay_step t))
  rw [isEmpty_last] at hne
  cases e : w.path.getLast? with
  | none =>
    have hq : q = 0 := by
      simp only [readPage, e] at ep
      cases ep; rfl
    rw [e] at hne
    subst hq
    exact do_seq (do_iff hne (do_next (tail _ _ _)))
  | some s =>
    obtain ⟨lv, lo, hi, ks, ps, e1, e2, e3⟩ := inn s e
    rw [e] at hne
    refine do_seq (do_ift hne ?_)
    refine do_seq (do_asg (ix_rc (ix_last (Ev.x (ev_var rfl)) e)) ?_ (by simp))
    rw [e1]
    refine do_asg (d := .int q) (ev_op (d := iL ps) (e := .int (childAt ks w.call.key)) (Ev.x (ix_call (ev_var rfl) rfl)) (Ev.x (ev_childAt (ix_call (ev_var rfl) rfl) (by simp) e2 (fun x => ix_key (ix_wk (i := 0) (ev_var rfl) rfl)))) (rv_ixT (at_ints rfl e3))) (tail _ _ _) (by simp)
theorem flat_an (a : An) : flatD a.d = true ∧ scal (dV a.d) (dV a.d) = true := by
  cases a with
  | b x => cases x <;> exact ⟨rfl, rfl⟩
  | o x => cases x <;> exact ⟨rfl, rfl⟩
theorem rv_eqA {a : An} : RV K rEq a.d a.d (.bl true) := by
  have q := rv_eq (K := K) (flat_an a).1 (flat_an a).1 (flat_an a).2
  rw [decide_eq_true rfl] at q
  exact q
theorem same_tab {m t : Tab} (h : sameTab m t = true) : RV K rEqDA (tabD m) (tabD t) (.bl true) := by
  unfold sameTab at h
  rw [Bool.and_eq_true, decide_eq_true_eq, List.all_eq_true] at h
  exact rv_eqDct h.1 fun p hp => of_decide_eq_true (h.2 p hp)
theorem do__law_turn (p : (Wk × Pgs × Tab) × Option Wk × Pgs × Tab) (h : turnR p.1.1 p.1.2.1 p.1.2.2 = some p.2) :
    Do K C [] B H0 (t__law_turn K) [.val p.1.1.d, .val (pagesD p.1.2.1), .val (tabD p.1.2.2), .no, .no, .no, .no] nx bk ct (fun d _ => d = turnD p.2) := by
  obtain ⟨⟨w, pg, t⟩, out⟩ := p
  have h : turnR w pg t = some out := h
  unfold turnR at h
  refine do_seq (do_asg (ix_wk (i := 1) (ev_var rfl) rfl) ?_ (by simp))
  have hif : EvT K C (tOr (tTest (tOp (rEqD K) (tVar 3) (tLst tNil))) (tTest (tOp rNe (tOp (rIxT K) (tOp (rIxT K) (tOp (rIxL K) (tVar 3) (tUn rNeg (tC (.int 1)))) (tC (.int 2))) (tC (.int 0))) (tC (.str "leaf"))))) [.val w.d, .val (pagesD pg), .val (tabD t), .val (.lst (w.path.map Step.d)), .no, .no, .no] (!atLeaf w.path) := by
    have h0 : EvT K C (tTest (tOp (rEqD K) (tVar 3) (tLst tNil))) [.val w.d, .val (pagesD pg), .val (tabD t), .val (.lst (w.path.map Step.d)), .no, .no, .no] w.path.isEmpty := et_test (ev_op (Ev.x (ev_var rfl)) (EvN.x (evn_lst ea_nil (by simp))) (rv_eqNil fun t _ => lay_step t))
    rw [isEmpty_last] at h0
    unfold atLeaf
    cases e : w.path.getLast? with
    | none =>
      rw [e] at h0
      exact et_or (a := true) (b := true) h0 (fun z => nomatch z)
    | some s =>
      rw [e] at h0
      exact et_or (a := false) (b := !s.rc.isLeaf) h0 (fun _ => et_test (et_nleaf (ix_rc (ix_last (Ev.x (ev_var rfl)) e))))
  cases ea : atLeaf w.path with
  | false =>
    rw [if_pos ea] at h
    rw [ea] at hif
    cases er : readR w pg t with
    | none => rw [er] at h; cases h
    | some w' =>
      rw [er] at h
      cases h
      exact do_seq (do_ift hif (do_ret (ev_tup (ea_cons (ev_call ((w, pg, t), w') (ea_cons (ev_var rfl) (ea_cons (ev_var rfl) (ea_cons (ev_var rfl) ea_nil))) er) (ea_cons (ev_var rfl) (ea_cons (ev_var rfl) (ea_cons ev_bl ea_nil)))) (by simp)) rfl))
  | true =>
    rw [if_neg (by rw [ea]; decide)] at h
    rw [ea] at hif
    refine do_seq (do_iff hif (do_next ?_))
    cases et : planR w.call w.path w.sib with
    | none => rw [et] at h; cases h
    | some told =>
    rw [et] at h
    refine do_seq (do_asg (d := told.d) (ev_call (w.call, w.path, w.sib, told) (ea_cons (ix_wk (i := 0) (ev_var rfl) rfl) (ea_cons (EvN.ev (evn_cb (d := .lst (w.path.map Step.d)) (Ev.x (ev_var rfl)) rcn_list)) (ea_cons (EvN.ev (evn_cb (Ev.x (ix_wk (i := 2) (ev_var rfl) rfl)) rcn_dict)) ea_nil))) et) ?_ (by simp))
    cases told with
    | read q =>
      simp only at h
      cases er : besideR w pg q with
      | none => rw [er] at h; cases h
      | some w' =>
        rw [er] at h
        cases h
        exact do_seq (do_ift (et_test (ev_op (d := .str "read") (e := .str "read") (Ev.x (ix_call (ev_var rfl) rfl)) (Ev.x ev_str) (rv_eqs_t rfl))) (do_ret (ev_tup (ea_cons (ev_call ((w, pg, q), w') (ea_cons (ev_var rfl) (ea_cons (ev_var rfl) (ea_cons (ix_call (ev_var rfl) rfl) ea_nil))) er) (ea_cons (ev_var rfl) (ea_cons (ev_var rfl) (ea_cons ev_bl ea_nil)))) (by simp)) rfl))
    | answer a =>
      simp only at h
      split at h
      case isFalse => cases h
      case isTrue g =>
      cases h
      refine do_seq (do_iff (et_test (ev_op (d := .str "answer") (e := .str "read") (Ev.x (ix_call (ev_var rfl) rfl)) (Ev.x ev_str) (rv_eqs_f (by decide +kernel)))) (do_next ?_))
      refine do_seq (do_ift (et_test (ev_op (d := .str "answer") (e := .str "answer") (Ev.x (ix_call (ev_var rfl) rfl)) (Ev.x ev_str) (rv_eqs_t rfl))) ?_)
      refine do_ret (ev_tup (ea_cons ev_non (ea_cons (ev_var rfl) (ea_cons (ev_var rfl) (ea_cons (ev_op (d := w.due.d) (e := w.due.d) (Ev.x (ix_call (ev_var rfl) (by rw [g]; rfl))) (Ev.x (ix_wk (i := 3) (ev_var rfl) rfl)) rv_eqA) ea_nil)))) (by simp)) rfl
    | stale =>
      simp only at h
      cases h
      refine do_seq (do_iff (et_test (ev_op (d := .str "stale") (e := .str "read") (Ev.x (ix_call (ev_var rfl) rfl)) (Ev.x ev_str) (rv_eqs_f (by decide +kernel)))) (do_next ?_))
      refine do_seq (do_iff (et_test (ev_op (d := .str "stale") (e := .str "answer") (Ev.x (ix_call (ev_var rfl) rfl)) (Ev.x ev_str) (rv_eqs_f (by decide +kernel)))) (do_next ?_))
      refine do_seq (do_ift (et_test (ev_op (d := .str "stale") (e := .str "stale") (Ev.x (ix_call (ev_var rfl) rfl)) (Ev.x ev_str) (rv_eqs_t rfl))) ?_)
      exact do_ret (ev_tup (ea_cons (ev_call w.call (ea_cons (ix_wk (i := 0) (ev_var rfl) rfl) ea_nil) trivial) (ea_cons (ev_var rfl) (ea_cons (ev_var rfl) (ea_cons ev_bl ea_nil)))) (by simp)) rfl
    | change a es =>
      simp only at h
      split at h
      case isFalse => cases h
      case isTrue g =>
      obtain ⟨g1, g2⟩ := g
      refine do_seq (do_iff (et_test (ev_op (d := .str "change") (e := .str "read") (Ev.x (ix_call (ev_var rfl) rfl)) (Ev.x ev_str) (rv_eqs_f (by decide +kernel)))) (do_next ?_))
      refine do_seq (do_iff (et_test (ev_op (d := .str "change") (e := .str "answer") (Ev.x (ix_call (ev_var rfl) rfl)) (Ev.x ev_str) (rv_eqs_f (by decide +kernel)))) (do_next ?_))
      refine do_seq (do_iff (et_test (ev_op (d := .str "change") (e := .str "stale") (Ev.x (ix_call (ev_var rfl) rfl)) (Ev.x ev_str) (rv_eqs_f (by decide +kernel)))) (do_next ?_))
      refine do_seq (do_asg (d := pgsO (appliedR pg es)) (ev_call (pg, es) (ea_cons (ev_var rfl) (ea_cons (ix_call (ev_var rfl) rfl) ea_nil)) g1) ?_ (by simp))
      cases er : appliedR pg es with
      | none =>
        rw [er] at h
        cases h
        refine do_seq (do_ift (et_test (ev_op (d := .non) (Ev.x (ev_var rfl)) (Ev.x ev_non) rv_isN)) ?_)
        exact do_ret (ev_tup (ea_cons (ev_call w.call (ea_cons (ix_wk (i := 0) (ev_var rfl) rfl) ea_nil) trivial) (ea_cons (ev_var rfl) (ea_cons (ev_var rfl) (ea_cons ev_bl ea_nil)))) (by simp)) rfl
      | some pg' =>
        rw [er] at h
        simp only at h
        split at h
        case isFalse => cases h
        case isTrue g3 =>
        obtain ⟨g3, g4⟩ := g3
        cases h
        unfold mapOk at g4
        cases em : mapR pg' with
        | none => rw [em] at g4; cases g4
        | some m =>
        rw [em] at g4
        refine do_seq (do_iff (et_test (ev_op (d := pagesD pg') (Ev.x (ev_var rfl)) (Ev.x ev_non) rv_isN)) (do_next ?_))
        refine do_seq (do_asgG (d := .tup [(dueOf t w.call).1.d, tabD (dueOf t w.call).2]) (ev_call (t, w.call) (ea_cons (ev_var rfl) (ea_cons (ix_wk (i := 0) (ev_var rfl) rfl) ea_nil)) g2) (by walk_at "gs") ?_)
        refine do_ret (ev_tup (ea_cons ev_non (ea_cons (ev_var rfl) (ea_cons (ev_var rfl) (ea_cons (ev_andV (a := true) (b := true) (ev_op (d := a.d) (e := a.d) (Ev.x (ix_call (ev_var rfl) rfl)) (Ev.x (by rw [g3]; exact ev_var rfl)) rv_eqA) (fun _ => ev_op (d := tabD m) (e := tabD (dueOf t w.call).2) (Ev.x (ev_call (pg', m) (ea_cons (ev_var rfl) ea_nil) em)) (Ev.x (ev_var rfl)) (same_tab g4))) ea_nil)))) (by simp)) rfl
end
end Esp

/-! The law's defs, part 9: call, filled. -/
namespace Esp
open PySem L2 PyProof.Rows PySem.Spec
local macro_rules | `(tactic| walk_at "ev") => `(tactic| repeat' (first
  | exact ev_int | exact ev_str | exact ev_bl | exact ev_non | exact ea_nil | exact eo_none | exact et_yes
  | exact ev_var rfl | exact evx_own rfl
  | apply ea_cons | apply eo_some | apply ev_tup (hl := by first | decide | (simp; done))
  | apply ev_op | apply ev_neg
  | apply ev_sl | apply ev_chain
  | apply ev_andV | apply ev_orV | apply ev_notV
  | apply et_test | apply et_B | apply et_not | apply et_and | apply et_or
  | exact rv_i | exact rv_b | exact rv_eqi | exact rv_nei | exact rv_eqs_t (by with_reducible rfl) | exact rv_eqs_f (by decide +kernel) | exact rv_nes_t (by with_reducible rfl) | exact rv_nes_f (by decide +kernel)
  | exact rv_isN | exact rv_notN
  | exact rv_ixT rfl | exact rv_ixL rfl | apply rv_ixT | apply rv_ixL
  | apply ev_cb (hr := rc_lenT) | apply ev_cb (hr := rc_lenL) | apply ev_cb (hr := rc_int) | apply ev_cb (hr := rc_tupT) | apply ev_cb (hr := rc_all)
  | apply Ev.x | (intro _)))
local macro_rules | `(tactic| walk_at "gs") => `(tactic| repeat' (first | exact gs_nil | apply gs_cons | exact g_name (by simp) | apply g_tup (hn := rfl)))
section
variable {K : PySem.W.Frag} {C : Addr} {B H0 : Hp} {nx bk ct : List Sl → Prop} {rt : D → List Sl → Prop} {ss : List Sl} {te tk tl tw : TE}
theorem ix_dig {c : Int} {bs : List Int} {i : Nat} {b : Int} (hb : ∀ b ∈ bs, 0 < b) (e : bs[i]? = some b) (h : Ev K C te ss (.lst ((digitsOf c bs).map D.int))) : Ev K C (tOp (rIxL K) te (tC (.int i))) ss (.int (dig c bs i)) :=
  ev_op (d := .lst ((digitsOf c bs).map D.int)) (e := .int i) (Ev.x h) (Ev.x ev_int) (rv_ixL (at_ints rfl (dig_get hb e).1))
theorem do__law_call (p : Int × Int × Tab) (h : 0 < p.2.1 ∧ p.2.1 < 1000 ∧ p.2.2.length ≤ 4000) :
    Do K C [] B H0 (t__law_call K) [.val (.int p.1), .val (.int p.2.1), .val (tabD p.2.2), .no, .no, .no, .no, .no] nx bk ct (fun d _ => d = (callOf p.1 p.2.1 p.2.2).d) := by
  obtain ⟨c, w, t⟩ := p
  obtain ⟨h1, h2, h3⟩ := h
  have h1 : 0 < w := h1
  have h2 : w < 1000 := h2
  have h3 : t.length ≤ 4000 := h3
  have hbs : ∀ b ∈ callBs w, 0 < b ∧ b < 1073741824 := by
    intro b hb
    simp only [callBs, List.mem_cons, List.not_mem_nil, or_false] at hb
    rcases hb with rfl | rfl | rfl | rfl | rfl | rfl <;> omega
  have hb0 : ∀ b ∈ callBs w, 0 < b := fun b hb => (hbs b hb).1
  obtain ⟨_, a0, a1⟩ := dig_get (c := c) hb0 (i := 0) (b := 7) rfl
  obtain ⟨_, b0, b1⟩ := dig_get (c := c) hb0 (i := 1) (b := w) rfl
  refine do_seq (do_asg (d := .lst ((digitsOf c (callBs w)).map D.int)) (ev_call (c, callBs w) (ea_cons (ev_var rfl) (ea_cons (EvN.ev (evn_lst (ea_cons ev_int (ea_cons (ev_var rfl) (ea_cons ev_int (ea_cons ev_int (ea_cons ev_int (ea_cons ev_int ea_nil)))))) (by show (6 : Nat) ≤ 100000; decide))) ea_nil)) ⟨by show (6 : Nat) ≤ 50; decide, hbs⟩) ?_ (by simp))
  refine do_seq (do_asg (d := .int (dig c (callBs w) 1 - w / 2)) (ev_op (d := .int (dig c (callBs w) 1)) (e := .int (w / 2)) (Ev.x (ix_dig (i := 1) hb0 rfl (ev_var rfl))) (Ev.x (ev_op (d := .int w) (e := .int 2) (Ev.x (ev_var rfl)) (Ev.x ev_int) (rv_ic ⟨by decide, by decide⟩))) rv_i) ?_ (by simp))
  -- the kind
  have kindAt : ∀ (s : Str) (n : Nat), dig c (callBs w) 0 = (n : Int) → ([.str "put", .str "put", .str "add", .str "change", .str "take", .str "take", .str "look"] : List D)[n]? = some (.str s) →
      (Do K C [] B H0 (tSeq (tAsg (tCB (rSortedDN) (tCons (tVar 2) tNil)) (gName 6)) (tSeq (tIfS (tAnd (tTest (tOp rGtI (tOp (rIxL K) (tVar 3) (tC (.int 5))) (tC (.int 0)))) (tAnd (tTest (tOp (rIn K false) (tVar 5) (tTup (tCons (tC (.str "change")) (tCons (tC (.str "take")) (tCons (tC (.str "look")) tNil)))))) (tTest (tOp (rNeD K) (tVar 6) (tLst tNil))))) (tAsg (tOp (rIxL K) (tVar 6) (tOp rModI (tOp (rIxL K) (tVar 3) (tC (.int 1))) (tCB (rLenS K) (tCons (tVar 6) tNil)))) (gName 4)) tNext) (tSeq (tIfS (tOr (tTest (tOp rEq (tVar 5) (tC (.str "put")))) (tTest (tOp rEq (tVar 5) (tC (.str "add"))))) (tRet (tTup (tCons (tVar 5) (tCons (tVar 4) (tCons (tOp (rIxL K) (tVar 3) (tC (.int 2))) tNil))))) tNext) (tSeq (tIfS (tTest (tOp rEq (tVar 5) (tC (.str "change")))) (tSeq (tAsg (tOp (rIxL K) (tVar 3) (tC (.int 2))) (gName 7)) (tSeq (tIfS (tTest (tOp rGtI (tOp (rIxL K) (tVar 3) (tC (.int 4))) (tC (.int 0)))) (tAsg (tDGet2 (tVar 2) (tVar 4) (tOp (rIxL K) (tVar 3) (tC (.int 2)))) (gName 7)) tNext) (tRet (tTup (tCons (tVar 5) (tCons (tVar 4) (tCons (tVar 7) (tCons (tOp (rIxL K) (tVar 3) (tC (.int 3))) tNil)))))))) tNext) (tRet (tTup (tCons (tVar 5) (tCons (tVar 4) tNil))))))))
        [.val (.int c), .val (.int w), .val (tabD t), .val (.lst ((digitsOf c (callBs w)).map D.int)), .val (.int (dig c (callBs w) 1 - w / 2)), .val (.str s), .no, .no] nx bk ct (fun d _ => d = (callOf c w t).d)) →
      Do K C [] B H0 (tSeq (tAsg (tOp (rIxL K) (tLst (tCons (tC (.str "put")) (tCons (tC (.str "put")) (tCons (tC (.str "add")) (tCons (tC (.str "change")) (tCons (tC (.str "take")) (tCons (tC (.str "take")) (tCons (tC (.str "look")) tNil)))))))) (tOp (rIxL K) (tVar 3) (tC (.int 0)))) (gName 5)) (tSeq (tAsg (tCB (rSortedDN) (tCons (tVar 2) tNil)) (gName 6)) (tSeq (tIfS (tAnd (tTest (tOp rGtI (tOp (rIxL K) (tVar 3) (tC (.int 5))) (tC (.int 0)))) (tAnd (tTest (tOp (rIn K false) (tVar 5) (tTup (tCons (tC (.str "change")) (tCons (tC (.str "take")) (tCons (tC (.str "look")) tNil)))))) (tTest (tOp (rNeD K) (tVar 6) (tLst tNil))))) (tAsg (tOp (rIxL K) (tVar 6) (tOp rModI (tOp (rIxL K) (tVar 3) (tC (.int 1))) (tCB (rLenS K) (tCons (tVar 6) tNil)))) (gName 4)) tNext) (tSeq (tIfS (tOr (tTest (tOp rEq (tVar 5) (tC (.str "put")))) (tTest (tOp rEq (tVar 5) (tC (.str "add"))))) (tRet (tTup (tCons (tVar 5) (tCons (tVar 4) (tCons (tOp (rIxL K) (tVar 3) (tC (.int 2))) tNil))))) tNext) (tSeq (tIfS (tTest (tOp rEq (tVar 5) (tC (.str "change")))) (tSeq (tAsg (tOp (rIxL K) (tVar 3) (tC (.int 2))) (gName 7)) (tSeq (tIfS (tTest (tOp rGtI (tOp (rIxL K) (tVar 3) (tC (.int 4))) (tC (.int 0)))) (tAsg (tDGet2 (tVar 2) (tVar 4) (tOp (rIxL K) (tVar 3) (tC (.int 2)))) (gName 7)) tNext) (tRet (tTup (tCons (tVar 5) (tCons (tVar 4) (tCons (tVar 7) (tCons (tOp (rIxL K) (tVar 3) (tC (.int 3))) tNil)))))))) tNext) (tRet (tTup (tCons (tVar 5) (tCons (tVar 4) tNil)))))))))
        [.val (.int c), .val (.int w), .val (tabD t), .val (.lst ((digitsOf c (callBs w)).map D.int)), .val (.int (dig c (callBs w) 1 - w / 2)), .no, .no, .no] nx bk ct (fun d _ => d = (callOf c w t).d) := fun s n hn hs hd => by
    refine do_seq (do_asg (d := .str s) (ev_op (d := .lst [.str "put", .str "put", .str "add", .str "change", .str "take", .str "take", .str "look"]) (e := .int (dig c (callBs w) 0)) (EvN.x (evn_lst (ea_cons ev_str (ea_cons ev_str (ea_cons ev_str (ea_cons ev_str (ea_cons ev_str (ea_cons ev_str (ea_cons ev_str ea_nil))))))) (by simp))) (Ev.x (ix_dig (i := 0) hb0 rfl (ev_var rfl))) (rv_ixL (at_nat hn hs))) hd (by simp))
  -- the key is set
  have keySet : ∀ (s : Str) (bs : Bool) (u : TS), decide (s ∈ (["change", "take", "look"] : List Str)) = bs →
      Do K C [] B H0 u [.val (.int c), .val (.int w), .val (tabD t), .val (.lst ((digitsOf c (callBs w)).map D.int)), .val (.int (if bs = true then callKey c w t else dig c (callBs w) 1 - w / 2)), .val (.str s), .val (.lst ((keysOf t).map D.int)), .no] nx bk ct (fun d _ => d = (callOf c w t).d) →
      Do K C [] B H0 (tSeq (tAsg (tCB (rSortedDN) (tCons (tVar 2) tNil)) (gName 6)) (tSeq (tIfS (tAnd (tTest (tOp rGtI (tOp (rIxL K) (tVar 3) (tC (.int 5))) (tC (.int 0)))) (tAnd (tTest (tOp (rIn K false) (tVar 5) (tTup (tCons (tC (.str "change")) (tCons (tC (.str "take")) (tCons (tC (.str "look")) tNil)))))) (tTest (tOp (rNeD K) (tVar 6) (tLst tNil))))) (tAsg (tOp (rIxL K) (tVar 6) (tOp rModI (tOp (rIxL K) (tVar 3) (tC (.int 1))) (tCB (rLenS K) (tCons (tVar 6) tNil)))) (gName 4)) tNext) u))
        [.val (.int c), .val (.int w), .val (tabD t), .val (.lst ((digitsOf c (callBs w)).map D.int)), .val (.int (dig c (callBs w) 1 - w / 2)), .val (.str s), .no, .no] nx bk ct (fun d _ => d = (callOf c w t).d) := fun s bs u hbs' hu => by
    refine do_seq (do_asg (d := .lst ((keysOf t).map D.int)) (EvN.ev ?_) ?_ (by simp))
    · have q := evn_cb (K := K) (C := C) (ss := [.val (.int c), .val (.int w), .val (tabD t), .val (.lst ((digitsOf c (callBs w)).map D.int)), .val (.int (dig c (callBs w) 1 - w / 2)), .val (.str s), .no, .no]) (te := tVar 2) (Ev.x (ev_var rfl)) (rcn_sortedD (K := K) (l := mapV D.int t))
      rw [keys_mapV] at q
      exact q
    · refine do_seq (do_if (b' := decide (0 < dig c (callBs w) 5) && (bs && !(keysOf t).isEmpty)) (et_and (et_test (ev_op (d := .int (dig c (callBs w) 5)) (e := .int 0) (Ev.x (ix_dig (i := 5) hb0 rfl (ev_var rfl))) (Ev.x ev_int) rv_b)) fun _ => et_and (et_test (EvT.is' (ev_op (d := .str s) (e := .tup ((["change", "take", "look"] : List Str).map D.str)) (Ev.x (ev_var rfl)) (Ev.x (ev_tup (ea_cons ev_str (ea_cons ev_str (ea_cons ev_str ea_nil))) (by simp))) rv_inTs) hbs')) fun _ => et_test (ev_op (Ev.x (ev_var rfl)) (EvN.x (evn_lst ea_nil (by simp))) (rv_neNil fun x _ => lay_up (lay_int x) (by omega)))) (fun hb => ?_) (fun hb => do_next ?_))
      · rw [Bool.and_eq_true, Bool.and_eq_true, decide_eq_true_eq] at hb
        obtain ⟨z1, z2, z3⟩ := hb
        have hne : keysOf t ≠ [] := by intro e; rw [e] at z3; cases z3
        have hpos : 0 < (keysOf t).length := List.length_pos_iff.mpr hne
        have hm0 : 0 ≤ dig c (callBs w) 1 % ((keysOf t).length : Int) := Int.emod_nonneg _ (by omega)
        have hm1 : dig c (callBs w) 1 % ((keysOf t).length : Int) < ((keysOf t).length : Int) := Int.emod_lt_of_pos _ (by omega)
        have hk : callKey c w t = (keysOf t).getD (dig c (callBs w) 1 % ((keysOf t).length : Int)).toNat 0 := by unfold callKey; rw [if_pos ⟨z1, hne⟩]
        rw [z2, if_pos rfl, hk] at hu
        refine do_asg (ev_op (d := .lst ((keysOf t).map D.int)) (e := .int (dig c (callBs w) 1 % ((keysOf t).length : Int))) (Ev.x (ev_var rfl)) (Ev.x (ev_op (d := .int (dig c (callBs w) 1)) (e := .int ((keysOf t).length : Int)) (Ev.x (ix_dig (i := 1) hb0 rfl (ev_var rfl))) (Ev.x (Ev.is (ev_cb (Ev.x (ev_var rfl)) rc_lenL) (by rw [List.length_map]))) (rv_ic (by omega)))) (rv_ixL (at_ints (j := (dig c (callBs w) 1 % ((keysOf t).length : Int)).toNat) (by omega) (by rw [List.getD_eq_getElem?_getD, List.getElem?_eq_getElem (show (dig c (callBs w) 1 % ((keysOf t).length : Int)).toNat < (keysOf t).length by omega)]; rfl)))) hu (by simp)
      · have e : (if bs = true then callKey c w t else dig c (callBs w) 1 - w / 2) = dig c (callBs w) 1 - w / 2 := by
          cases bs with
          | false => rfl
          | true =>
            rw [if_pos rfl]
            unfold callKey
            rw [if_neg]
            rintro ⟨z1, z2⟩
            rw [decide_eq_true z1] at hb
            cases ek : keysOf t with
            | nil => exact z2 ek
            | cons x y => rw [ek] at hb; cases hb
        rw [e] at hu
        exact hu
  have n0 : (dig c (callBs w) 0).toNat < 7 := by omega
  have n1 : dig c (callBs w) 0 = ((dig c (callBs w) 0).toNat : Int) := by omega
  have pa : ∀ (s : Str), (s = "put" ∨ s = "add") → ∀ (d : D), D.tup [.str s, .int (dig c (callBs w) 1 - w / 2), .int (dig c (callBs w) 2)] = d → d = (callOf c w t).d → ∀ x, Do K C [] B H0 (tSeq (tIfS (tOr (tTest (tOp rEq (tVar 5) (tC (.str "put")))) (tTest (tOp rEq (tVar 5) (tC (.str "add"))))) (tRet (tTup (tCons (tVar 5) (tCons (tVar 4) (tCons (tOp (rIxL K) (tVar 3) (tC (.int 2))) tNil))))) tNext) x) [.val (.int c), .val (.int w), .val (tabD t), .val (.lst ((digitsOf c (callBs w)).map D.int)), .val (.int (if false = true then callKey c w t else dig c (callBs w) 1 - w / 2)), .val (.str s), .val (.lst ((keysOf t).map D.int)), .no] nx bk ct (fun d _ => d = (callOf c w t).d) := fun s hs d hd hc x => by
    have ht : EvT K C (tOr (tTest (tOp rEq (tVar 5) (tC (.str "put")))) (tTest (tOp rEq (tVar 5) (tC (.str "add"))))) [.val (.int c), .val (.int w), .val (tabD t), .val (.lst ((digitsOf c (callBs w)).map D.int)), .val (.int (if false = true then callKey c w t else dig c (callBs w) 1 - w / 2)), .val (.str s), .val (.lst ((keysOf t).map D.int)), .no] true := by
      rcases hs with rfl | rfl
      · exact et_or (a := true) (b := true) (et_test (ev_op (d := .str "put") (e := .str "put") (Ev.x (ev_var rfl)) (Ev.x ev_str) (rv_eqs_t rfl))) (fun z => nomatch z)
      · exact et_or (a := false) (b := true) (et_test (ev_op (d := .str "add") (e := .str "put") (Ev.x (ev_var rfl)) (Ev.x ev_str) (rv_eqs_f (by decide +kernel)))) (fun _ => et_test (ev_op (d := .str "add") (e := .str "add") (Ev.x (ev_var rfl)) (Ev.x ev_str) (rv_eqs_t rfl)))
    exact do_seq (do_ift ht (do_ret (ev_tup (ea_cons (ev_var rfl) (ea_cons (ev_var rfl) (ea_cons (ix_dig (i := 2) hb0 rfl (ev_var rfl)) ea_nil))) (by simp)) (hd.trans hc)))
  have nopa : ∀ (s : Str), decide (s = "put") = false → decide (s = "add") = false → EvT K C (tOr (tTest (tOp rEq (tVar 5) (tC (.str "put")))) (tTest (tOp rEq (tVar 5) (tC (.str "add"))))) [.val (.int c), .val (.int w), .val (tabD t), .val (.lst ((digitsOf c (callBs w)).map D.int)), .val (.int (if true = true then callKey c w t else dig c (callBs w) 1 - w / 2)), .val (.str s), .val (.lst ((keysOf t).map D.int)), .no] false := fun s e1 e2 =>
    et_or (a := false) (b := false) (et_test (ev_op (d := .str s) (e := .str "put") (Ev.x (ev_var rfl)) (Ev.x ev_str) (rv_eqs_f e1))) (fun _ => et_test (ev_op (d := .str s) (e := .str "add") (Ev.x (ev_var rfl)) (Ev.x ev_str) (rv_eqs_f e2)))
  have tl : ∀ (s : Str), decide (s = "put") = false → decide (s = "add") = false → decide (s = "change") = false → D.tup [.str s, .int (callKey c w t)] = (callOf c w t).d → ∀ x, Do K C [] B H0 (tSeq (tIfS (tOr (tTest (tOp rEq (tVar 5) (tC (.str "put")))) (tTest (tOp rEq (tVar 5) (tC (.str "add"))))) (tRet (tTup (tCons (tVar 5) (tCons (tVar 4) (tCons (tOp (rIxL K) (tVar 3) (tC (.int 2))) tNil))))) tNext) (tSeq (tIfS (tTest (tOp rEq (tVar 5) (tC (.str "change")))) x tNext) (tRet (tTup (tCons (tVar 5) (tCons (tVar 4) tNil))))))
      [.val (.int c), .val (.int w), .val (tabD t), .val (.lst ((digitsOf c (callBs w)).map D.int)), .val (.int (if true = true then callKey c w t else dig c (callBs w) 1 - w / 2)), .val (.str s), .val (.lst ((keysOf t).map D.int)), .no] nx bk ct (fun d _ => d = (callOf c w t).d) := fun s e1 e2 e3 hc x =>
    do_seq (do_iff (nopa s e1 e2) (do_next (do_seq (do_iff (et_test (ev_op (d := .str s) (e := .str "change") (Ev.x (ev_var rfl)) (Ev.x ev_str) (rv_eqs_f e3))) (do_next (do_ret (ev_tup (ea_cons (ev_var rfl) (ea_cons (ev_var rfl) ea_nil)) (by simp)) hc))))))
  generalize hn : (dig c (callBs w) 0).toNat = n at n0 n1
  match n, n0 with
  | 0, _ => exact kindAt "put" 0 n1 rfl (keySet "put" false _ (by decide +kernel) (pa "put" (.inl rfl) _ rfl (by simp only [callOf, hn]; rfl) _))
  | 1, _ => exact kindAt "put" 1 n1 rfl (keySet "put" false _ (by decide +kernel) (pa "put" (.inl rfl) _ rfl (by simp only [callOf, hn]; rfl) _))
  | 2, _ => exact kindAt "add" 2 n1 rfl (keySet "add" false _ (by decide +kernel) (pa "add" (.inr rfl) _ rfl (by simp only [callOf, hn]; rfl) _))
  | 3, _ =>
    refine kindAt "change" 3 n1 rfl (keySet "change" true _ (by decide +kernel) ?_)
    refine do_seq (do_iff (nopa "change" (by decide +kernel) (by decide +kernel)) (do_next ?_))
    refine do_seq (do_ift (et_test (ev_op (d := .str "change") (e := .str "change") (Ev.x (ev_var rfl)) (Ev.x ev_str) (rv_eqs_t rfl))) ?_)
    refine do_seq (do_asg (ix_dig (i := 2) hb0 rfl (ev_var rfl)) ?_ (by simp))
    refine do_seq (do_if (b' := decide (0 < dig c (callBs w) 4)) (et_test (ev_op (d := .int (dig c (callBs w) 4)) (e := .int 0) (Ev.x (ix_dig (i := 4) hb0 rfl (ev_var rfl))) (Ev.x ev_int) rv_b)) (fun hb => ?_) (fun hb => do_next ?_))
    · refine do_asg (d := .int ((look t (callKey c w t)).getD (dig c (callBs w) 2))) (Ev.is (ev_dget2 (l := mapV D.int t) (k := callKey c w t) (Ev.x (ev_var rfl)) (ev_var rfl) (ix_dig (i := 2) hb0 rfl (ev_var rfl))) ?_) (do_ret (ev_tup (ea_cons (ev_var rfl) (ea_cons (ev_var rfl) (ea_cons (ev_var rfl) (ea_cons (ix_dig (i := 3) hb0 rfl (ev_var rfl)) ea_nil)))) (by simp)) ?_) (by simp)
      · rw [look_mapV]
        cases look t (callKey c w t) <;> rfl
      · simp only [callOf, hn, of_decide_eq_true hb, if_true]
        rfl
    · refine do_ret (ev_tup (ea_cons (ev_var rfl) (ea_cons (ev_var rfl) (ea_cons (ev_var rfl) (ea_cons (ix_dig (i := 3) hb0 rfl (ev_var rfl)) ea_nil)))) (by simp)) ?_
      simp only [callOf, hn, of_decide_eq_false hb, if_false]
      rfl
  | 4, _ => exact kindAt "take" 4 n1 rfl (keySet "take" true _ (by decide +kernel) (tl "take" (by decide +kernel) (by decide +kernel) (by decide +kernel) (by simp only [callOf, hn]; rfl) _))
  | 5, _ => exact kindAt "take" 5 n1 rfl (keySet "take" true _ (by decide +kernel) (tl "take" (by decide +kernel) (by decide +kernel) (by decide +kernel) (by simp only [callOf, hn]; rfl) _))
  | 6, _ => exact kindAt "look" 6 n1 rfl (keySet "look" true _ (by decide +kernel) (tl "look" (by decide +kernel) (by decide +kernel) (by decide +kernel) (by simp only [callOf, hn]; rfl) _))
theorem do__law_filled (p : Int × Pgs × Tab) (h : filledR p.1 = some p.2) :
    Do K C [] B H0 (t__law_filled K) [.val (.int p.1), .no, .no, .no, .no, .no, .no, .no] nx bk ct (fun d _ => d = D.tup [pagesD p.2.1, tabD p.2.2]) := by
  obtain ⟨c, out⟩ := p
  have h : filledR c = some out := h
  unfold filledR at h
  have hbs : ∀ b ∈ fillBs, 0 < b ∧ b < 1073741824 := by
    intro b hb
    simp only [fillBs, List.mem_cons, List.not_mem_nil, or_false] at hb
    rcases hb with rfl | rfl | rfl | rfl <;> omega
  have hb0 : ∀ b ∈ fillBs, 0 < b := fun b hb => (hbs b hb).1
  obtain ⟨_, a0, a1⟩ := dig_get (c := c) hb0 (i := 0) (b := 4) rfl
  obtain ⟨_, b0, b1⟩ := dig_get (c := c) hb0 (i := 1) (b := 40) rfl
  obtain ⟨_, c0, c1⟩ := dig_get (c := c) hb0 (i := 2) (b := 7) rfl
  obtain ⟨_, d0, d1⟩ := dig_get (c := c) hb0 (i := 3) (b := 3) rfl
  have m0 : 0 ≤ fillMany c ∧ fillMany c < 40 := by
    unfold fillMany
    have := Int.emod_nonneg (dig c fillBs 1) (show (8 : Int) ≠ 0 by decide)
    have := Int.emod_lt_of_pos (dig c fillBs 1) (show (0 : Int) < 8 by decide)
    split <;> omega
  refine do_seq (do_asg (d := .lst ((digitsOf c fillBs).map D.int)) (ev_call (c, fillBs) (ea_cons (ev_var rfl) (ea_cons (EvN.ev (evn_lst (ea_cons ev_int (ea_cons ev_int (ea_cons ev_int (ea_cons ev_int ea_nil)))) (by show (4 : Nat) ≤ 100000; decide))) ea_nil)) ⟨by show (4 : Nat) ≤ 50; decide, hbs⟩) ?_ (by simp))
  refine do_seq (do_asg (d := pagesD startPg) (ev_call () ea_nil trivial) ?_ (by simp))
  refine do_seq (do_asgN evn_dict ?_ (by simp))
  refine do_seq (do_asg (d := .int (dig c fillBs 1 % 8)) (ev_op (d := .int (dig c fillBs 1)) (e := .int 8) (Ev.x (ix_dig (i := 1) hb0 rfl (ev_var rfl))) (Ev.x ev_int) (rv_ic (by decide))) ?_ (by simp))
  have main : ∀ (nx' : List Sl → Prop), Do K C [] B H0 (tSeq (tFor (iRng1 (tCons (tVar 4) tNil)) (gName 5) (tSeq (tAsg (tOp rSubI (tOp rMulI (tOp rModI (tOp rAddI (tOp rMulI (tVar 5) (tOp rAddI (tOp rMulI (tC (.int 2)) (tOp (rIxL K) (tVar 1) (tC (.int 2)))) (tC (.int 1)))) (tOp (rIxL K) (tVar 1) (tC (.int 3)))) (tC (.int 41))) (tC (.int 3))) (tC (.int 60))) (gName 6)) (tSeq (tAsg (tCall (sp__law_planned K) [] E0 (tCons (tVar 2) (tCons (tTup (tCons (tC (.str "put")) (tCons (tVar 6) (tCons (tVar 5) tNil)))) tNil))) (gName 7)) (tSeq (tIfS (tTest (tOp rEq (tOp (rIxT K) (tVar 7) (tC (.int 0))) (tC (.str "change")))) (tSeq (tAsg (tCall (sp__law_applied K) [] E0 (tCons (tVar 2) (tCons (tOp (rIxT K) (tVar 7) (tC (.int 2))) tNil))) (gName 2)) (tIfS (tTest (tOp rIsNo (tVar 2) (tC .non))) (tRet (tTup (tCons (tC .non) (tCons (tVar 3) tNil)))) tNext)) tNext) (sDPut (tVar 3) (tVar 6) (tVar 5)))))) (tRet (tTup (tCons (tVar 2) (tCons (tVar 3) tNil)))))
      [.val (.int c), .val (.lst ((digitsOf c fillBs).map D.int)), .val (pagesD startPg), .own (.dct []), .val (.int (fillMany c)), .no, .no, .no] nx' bk ct (fun d _ => d = D.tup [pagesD out.1, tabD out.2]) := fun nx' => by
    refine do_seq (do_forR1 (n := fillMany c) (ea_cons (ev_var rfl) ea_nil) (by omega)
      (fun i ss => ∃ pg t x5 x6 x7, ss = [.val (.int c), .val (.lst ((digitsOf c fillBs).map D.int)), .val (pagesD pg), .own (.dct (mapV D.int t)), .val (.int (fillMany c)), x5, x6, x7] ∧ fillGo c ((fillMany c).toNat - i) i pg t = some out) ⟨startPg, [], _, _, _, rfl, h⟩ ?_ ?_)
    · rintro i ss hi ⟨pg, t, x5, x6, x7, rfl, hw⟩
      rw [show (fillMany c).toNat - i = ((fillMany c).toNat - (i + 1)) + 1 by omega] at hw
      unfold fillGo at hw
      split at hw
      case isFalse => cases hw
      case isTrue ht =>
      have hlm : (mapV D.int t).length < 100000 := by unfold mapV; rw [List.length_map]; omega
      refine ⟨_, g_name (by simp), ?_⟩
      refine do_seq (do_asg (d := .int (fillKey c i)) (Ev.is (ev_op (d := .int (((0 + (i : Int)) * (2 * dig c fillBs 2 + 1) + dig c fillBs 3) % 41 * 3)) (e := .int 60) (Ev.x (ev_op (d := .int (((0 + (i : Int)) * (2 * dig c fillBs 2 + 1) + dig c fillBs 3) % 41)) (e := .int 3) (Ev.x (ev_op (d := .int ((0 + (i : Int)) * (2 * dig c fillBs 2 + 1) + dig c fillBs 3)) (e := .int 41) (Ev.x (ev_op (d := .int ((0 + (i : Int)) * (2 * dig c fillBs 2 + 1))) (e := .int (dig c fillBs 3)) (Ev.x (ev_op (d := .int (0 + (i : Int))) (e := .int (2 * dig c fillBs 2 + 1)) (Ev.x (ev_var rfl)) (Ev.x (ev_op (d := .int (2 * dig c fillBs 2)) (e := .int 1) (Ev.x (ev_op (d := .int 2) (e := .int (dig c fillBs 2)) (Ev.x ev_int) (Ev.x (ix_dig (i := 2) hb0 rfl (ev_var rfl))) (rv_ic (.inl ⟨by decide, by decide⟩)))) (Ev.x ev_int) rv_i)) (rv_ic (.inl ⟨by omega, by omega⟩)))) (Ev.x (ix_dig (i := 3) hb0 rfl (ev_var rfl))) rv_i)) (Ev.x ev_int) (rv_ic (by decide)))) (Ev.x ev_int) (rv_ic (.inr ⟨by decide, by decide⟩)))) (Ev.x ev_int) rv_i) (by unfold fillKey; rw [Int.zero_add])) ?_ (by simp))
      have hcall : ∀ told, plannedR pg (.put (fillKey c i) i) = some told → Ev K C (tCall (sp__law_planned K) [] E0 (tCons (tVar 2) (tCons (tTup (tCons (tC (.str "put")) (tCons (tVar 6) (tCons (tVar 5) tNil)))) tNil))) [.val (.int c), .val (.lst ((digitsOf c fillBs).map D.int)), .val (pagesD pg), .own (.dct (mapV D.int t)), .val (.int (fillMany c)), .val (.int (0 + (i : Int))), .val (.int (fillKey c i)), x7] told.d := fun told ht =>
        ev_call (pg, .put (fillKey c i) i, told) (ea_cons (ev_var rfl) (ea_cons (ev_tup (ea_cons ev_str (ea_cons (ev_var rfl) (ea_cons (Ev.is (ev_var rfl) (by rw [Int.zero_add])) ea_nil))) (by simp)) ea_nil)) ht
      have last : ∀ (pg' : Pgs) (x7 : Sl) (bk' : List Sl → Prop), fillGo c ((fillMany c).toNat - (i + 1)) (i + 1) pg' (put t (fillKey c i) i) = some out → Do K C [] B H0 (sDPut (tVar 3) (tVar 6) (tVar 5)) [.val (.int c), .val (.lst ((digitsOf c fillBs).map D.int)), .val (pagesD pg'), .own (.dct (mapV D.int t)), .val (.int (fillMany c)), .val (.int (0 + (i : Int))), .val (.int (fillKey c i)), x7]
          (fun ss => ∃ pg t x5 x6 x7, ss = [.val (.int c), .val (.lst ((digitsOf c fillBs).map D.int)), .val (pagesD pg), .own (.dct (mapV D.int t)), .val (.int (fillMany c)), x5, x6, x7] ∧ fillGo c ((fillMany c).toNat - (i + 1)) (i + 1) pg t = some out) bk'
          (fun ss => ∃ pg t x5 x6 x7, ss = [.val (.int c), .val (.lst ((digitsOf c fillBs).map D.int)), .val (pagesD pg), .own (.dct (mapV D.int t)), .val (.int (fillMany c)), x5, x6, x7] ∧ fillGo c ((fillMany c).toNat - (i + 1)) (i + 1) pg t = some out) (fun d _ => d = D.tup [pagesD out.1, tabD out.2]) := fun pg' x7 bk' hg => by
        refine do_dput (i := 3) (k := fillKey c i) (d := .int i) rfl (Ev.is (ev_var rfl) (by rw [Int.zero_add])) (ev_var rfl) hlm ⟨pg', put t (fillKey c i) i, .val (.int (0 + (i : Int))), .val (.int (fillKey c i)), x7, ?_, hg⟩
        rw [put_mapV]
        rfl
      cases et : plannedR pg (.put (fillKey c i) i) with
      | none => simp only [et] at hw; cases hw
      | some told =>
      simp only [et] at hw
      refine do_seq (do_asg (hcall told et) ?_ (by simp))
      cases told with
      | read q => cases hw
      | stale => cases hw
      | answer a =>
        simp only at hw
        refine do_seq (do_iff (et_test (ev_op (d := .str "answer") (e := .str "change") (Ev.x (ix_call (ev_var rfl) rfl)) (Ev.x ev_str) (rv_eqs_f (by decide +kernel)))) (do_next ?_))
        exact last pg _ _ hw
      | change a es =>
        simp only at hw
        split at hw
        case isFalse => cases hw
        case isTrue ha =>
        cases er : appliedR pg es with
        | none => rw [er] at hw; cases hw
        | some pg' =>
        rw [er] at hw
        simp only at hw
        refine do_seq (do_ift (et_test (ev_op (d := .str "change") (e := .str "change") (Ev.x (ix_call (ev_var rfl) rfl)) (Ev.x ev_str) (rv_eqs_t rfl))) ?_)
        refine do_seq (do_asg (d := pagesD pg') (Ev.is (ev_call (pg, es) (ea_cons (ev_var rfl) (ea_cons (ix_call (ev_var rfl) rfl) ea_nil)) ha) (by show pgsO (appliedR pg es) = _; rw [er]; rfl)) ?_ (by simp))
        refine do_iff (et_test (ev_op (d := pagesD pg') (Ev.x (ev_var rfl)) (Ev.x ev_non) rv_isN)) (do_next ?_)
        exact last pg' _ _ hw
    · rintro ss ⟨pg, t, x5, x6, x7, rfl, hw⟩
      rw [Nat.sub_self] at hw
      obtain rfl : (pg, t) = out := Option.some.inj hw
      exact do_freeze 3 rfl (do_ret (ev_tup (ea_cons (ev_var rfl) (ea_cons (ev_var rfl) ea_nil)) (by simp)) rfl)
  refine do_seq (do_if (b' := decide (dig c fillBs 0 = 0)) (et_test (ev_op (d := .int (dig c fillBs 0)) (e := .int 0) (Ev.x (ix_dig (i := 0) hb0 rfl (ev_var rfl))) (Ev.x ev_int) rv_eqi)) (fun hb => ?_) (fun hb => do_next ?_))
  · refine do_asg (ix_dig (i := 1) hb0 rfl (ev_var rfl)) ?_ (by simp)
    have e : fillMany c = dig c fillBs 1 := by unfold fillMany; rw [if_pos (of_decide_eq_true hb)]
    rw [e] at main
    exact main _
  · have e : fillMany c = dig c fillBs 1 % 8 := by unfold fillMany; rw [if_neg (of_decide_eq_false hb)]
    rw [e] at main
    exact main _
end
end Esp

/-! The law itself, what is plain left open. -/
namespace Esp
open PySem L2 PyProof.Rows PySem.Spec
local macro_rules | `(tactic| walk_at "ev") => `(tactic| repeat' (first
  | exact ev_int | exact ev_str | exact ev_bl | exact ev_non | exact ea_nil | exact eo_none | exact et_yes
  | exact ev_var rfl | exact evx_own rfl
  | apply ea_cons | apply eo_some | apply ev_tup (hl := by first | decide | (simp; done))
  | apply ev_op | apply ev_neg
  | apply ev_sl | apply ev_chain
  | apply ev_andV | apply ev_orV | apply ev_notV
  | apply et_test | apply et_B | apply et_not | apply et_and | apply et_or
  | exact rv_i | exact rv_b | exact rv_eqi | exact rv_nei | exact rv_eqs_t (by with_reducible rfl) | exact rv_eqs_f (by decide +kernel) | exact rv_nes_t (by with_reducible rfl) | exact rv_nes_f (by decide +kernel)
  | exact rv_isN | exact rv_notN
  | exact rv_ixT rfl | exact rv_ixL rfl | apply rv_ixT | apply rv_ixL
  | apply ev_cb (hr := rc_lenT) | apply ev_cb (hr := rc_lenL) | apply ev_cb (hr := rc_int) | apply ev_cb (hr := rc_tupT) | apply ev_cb (hr := rc_all)
  | apply Ev.x | (intro _)))
local macro_rules | `(tactic| walk_at "gs") => `(tactic| repeat' (first | exact gs_nil | apply gs_cons | exact g_name (by simp) | apply g_tup (hn := rfl)))
/-- the plain law, as the walk needs it -/
structure Plain (I : Int → Pgs → Tab → List Wk → Prop) : Prop where
  start : ∀ c, ∃ pg t, filledR c = some (pg, t) ∧ t.length ≤ 4000 ∧ ∀ w, (w = 6 ∨ w = 20 ∨ w = 60 ∨ w = 130) → ∀ c0 c1 c2, I w pg t [freshW (callOf c0 w t), freshW (callOf c1 w t), freshW (callOf c2 w t)]
  len : ∀ {w pg t ws}, I w pg t ws → ws.length = 3 ∧ t.length ≤ 4000
  turn : ∀ {w pg t ws j wk}, I w pg t ws → ws[j]? = some wk → ∃ o pg' t', turnR wk pg t = some (o, pg', t') ∧ t'.length ≤ 4000 ∧ (∀ wk', o = some wk' → I w pg' t' (ws.set j wk')) ∧ (o = none → ∀ c, I w pg' t' (ws.set j (freshW (callOf c w t'))))
  fin : ∀ {w pg t ws}, I w pg t ws → mapOk pg t = true
section
variable {K : PySem.W.Frag} {C : Addr} {B H0 : Hp} {nx bk ct : List Sl → Prop} {rt : D → List Sl → Prop} {ss : List Sl} {te tk tl tw : TE} {I : Int → Pgs → Tab → List Wk → Prop}
def widthOf (c : Int) : Int := ([6, 20, 60, 130] : List Int).getD (c / 7 % 4).toNat 6
theorem width_ok (c : Int) : ([6, 20, 60, 130] : List Int)[(c / 7 % 4).toNat]? = some (widthOf c) ∧ (widthOf c = 6 ∨ widthOf c = 20 ∨ widthOf c = 60 ∨ widthOf c = 130) := by
  have h0 := Int.emod_nonneg (c / 7) (show (4 : Int) ≠ 0 by decide)
  have h1 := Int.emod_lt_of_pos (c / 7) (show (0 : Int) < 4 by decide)
  unfold widthOf
  generalize hn : (c / 7 % 4).toNat = n
  have hn' : n < 4 := by omega
  match n, hn' with
  | 0, _ => exact ⟨rfl, .inl rfl⟩
  | 1, _ => exact ⟨rfl, .inr (.inl rfl)⟩
  | 2, _ => exact ⟨rfl, .inr (.inr (.inl rfl))⟩
  | 3, _ => exact ⟨rfl, .inr (.inr (.inr rfl))⟩
theorem do_law (Pl : Plain I) (ns : List Int) (hns : ns.length ≤ 63) :
    Do K C [] B H0 (t_law K) [.val (.scr ns), .no, .no, .no, .no, .no, .no, .no, .no, .no, .no, .no] nx bk ct (fun d _ => d = .bl true) := by
  obtain ⟨pg0, t0, hf, ht0, hI0⟩ := Pl.start (cellOf ns 0)
  have hcell : ∀ {ss' : List Sl} {ti : TE} {i : Nat}, ss'[0]? = some (.val (.scr ns)) → Ev K C ti ss' (.int i) → Ev K C (tCall (sp__law_cell K) [] E0 (tCons (tVar 0) (tCons ti tNil))) ss' (.int (cellOf ns i)) := fun h0 hi =>
    ev_call (ns, _) (ea_cons (ev_var h0) (ea_cons hi ea_nil)) trivial
  refine do_seq (do_asgG (d := .tup [pagesD pg0, tabD t0]) (ev_call (cellOf ns 0, pg0, t0) (ea_cons (hcell (i := 0) rfl ev_int) ea_nil) hf) (by walk_at "gs") ?_)
  refine do_seq (do_iff (et_test (ev_op (d := pagesD pg0) (Ev.x (ev_var rfl)) (Ev.x ev_non) rv_isN)) (do_next ?_))
  obtain ⟨w1, w2⟩ := width_ok (cellOf ns 0)
  have hI := hI0 _ w2
  generalize widthOf (cellOf ns 0) = w at w1 w2 hI
  have hw : 0 < w ∧ w < 1000 := by omega
  refine do_seq (do_asg (d := .int w) (ev_op (d := .lst (([6, 20, 60, 130] : List Int).map D.int)) (e := .int (cellOf ns 0 / 7 % 4)) (EvN.x (evn_lst (ea_cons ev_int (ea_cons ev_int (ea_cons ev_int (ea_cons ev_int ea_nil)))) (by simp))) (Ev.x (ev_op (d := .int (cellOf ns 0 / 7)) (e := .int 4) (Ev.x (ev_op (d := .int (cellOf ns 0)) (e := .int 7) (Ev.x (ev_cb (Ev.x (hcell (i := 0) rfl ev_int)) rc_int)) (Ev.x ev_int) (rv_ic ⟨by decide, by decide⟩))) (Ev.x ev_int) (rv_ic (by decide)))) (rv_ixL (at_ints (j := (cellOf ns 0 / 7 % 4).toNat) (by
      have h0 := Int.emod_nonneg (cellOf ns 0 / 7) (show (4 : Int) ≠ 0 by decide)
      omega) w1))) ?_ (by simp))
  have hcalls := fun c => (show Wk.d (freshW (callOf c w t0)) = (freshW (callOf c w t0)).d from rfl)
  have hws := hI (cellOf ns 0 + 17 * 0) (cellOf ns 1 + 17 * 1) (cellOf ns 2 + 17 * 2)
  refine do_seq (do_asgN (d := .lst ([freshW (callOf (cellOf ns 0 + 17 * 0) w t0), freshW (callOf (cellOf ns 1 + 17 * 1) w t0), freshW (callOf (cellOf ns 2 + 17 * 2) w t0)].map Wk.d)) ?_ ?_ (by simp))
  · exact evn_lcR (K := K) (C := C) (n := 3) (j := 5) (g := fun d => match d with | .int i => (freshW (callOf (cellOf ns i.toNat + 17 * i) w t0)).d | _ => .non) (ea_cons ev_int ea_nil) (by decide) (by simp) (fun i hi => by
      refine ev_call (callOf (cellOf ns i + 17 * (i : Int)) w t0) (ea_cons (ev_call (cellOf ns i + 17 * (i : Int), w, t0) (ea_cons (ev_op (d := .int (cellOf ns i)) (e := .int (17 * (i : Int))) (Ev.x (hcell rfl (ev_var rfl))) (Ev.x (ev_op (d := .int 17) (e := .int i) (Ev.x ev_int) (Ev.x (ev_var rfl)) (rv_ic (.inl ⟨by decide, by decide⟩)))) rv_i) (ea_cons (ev_var rfl) (ea_cons (ev_var rfl) ea_nil))) ⟨hw.1, hw.2, ht0⟩) ea_nil) trivial)
  generalize [freshW (callOf (cellOf ns 0 + 17 * 0) w t0), freshW (callOf (cellOf ns 1 + 17 * 1) w t0), freshW (callOf (cellOf ns 2 + 17 * 2) w t0)] = ws0 at hws
  have hmin : ∃ m : Int, EvA K C (tCons (tCB (rMin2) (tCons (tCB (rLenS K) (tCons (tVar 0) tNil)) (tCons (tCall (sp__law_many K) [] E0 (tCons (tVar 0) (tCons (tC (.int 20)) (tCons (tC (.int 60)) tNil)))) tNil))) tNil) [.val (.scr ns), .val (pagesD pg0), .val (tabD t0), .val (.int w), .own (.lst (ws0.map Wk.d)), .no, .no, .no, .no, .no, .no, .no] [.int m] ∧ 0 ≤ m ∧ m < 100 := by
    refine ⟨_, ea_cons (ev_min2 (i := ns.length) (j := manyOf ns 20 60) (ev_cb (Ev.x (ev_var rfl)) rc_lenS) (ev_call (ns, 20, 60) (ea_cons (ev_var rfl) (ea_cons ev_int (ea_cons ev_int ea_nil))) trivial)) ea_nil, ?_⟩
    have : manyOf ns 20 60 = 20 ∨ manyOf ns 20 60 = 60 := by
      unfold manyOf
      split
      · exact .inr rfl
      · exact .inl rfl
    split <;> omega
  obtain ⟨m, hm, m0, m1⟩ := hmin
  refine do_seq (do_forR1 (n := m) hm (by omega)
    (fun i ss => ∃ pg t ws x5 x6 x7 x8 x9 x10 x11, ss = [.val (.scr ns), .val (pagesD pg), .val (tabD t), .val (.int w), .own (.lst (ws.map Wk.d)), x5, x6, x7, x8, x9, x10, x11] ∧ I w pg t ws) ⟨pg0, t0, ws0, _, _, _, _, _, _, _, rfl, hws⟩ ?_ ?_)
  · rintro i ss hi ⟨pg, t, ws, x5, x6, x7, x8, x9, x10, x11, rfl, hJ⟩
    refine ⟨_, g_name (by simp), ?_⟩
    refine do_seq (do_asg (d := .int (cellOf ns i)) (ev_cb (Ev.x (hcell (i := i) rfl (Ev.is (ev_var rfl) (by rw [Int.zero_add])))) rc_int) ?_ (by simp))
    generalize cellOf ns i = c
    have r0 := Int.emod_nonneg (c / 3) (show (4 : Int) ≠ 0 by decide)
    have r1 := Int.emod_lt_of_pos (c / 3) (show (0 : Int) < 4 by decide)
    refine do_forR1 (n := 1 + c / 3 % 4) (ea_cons (ev_op (d := .int 1) (e := .int (c / 3 % 4)) (Ev.x ev_int) (Ev.x (ev_op (d := .int (c / 3)) (e := .int 4) (Ev.x (ev_op (d := .int c) (e := .int 3) (Ev.x (ev_var rfl)) (Ev.x ev_int) (rv_ic ⟨by decide, by decide⟩))) (Ev.x ev_int) (rv_ic (by decide)))) rv_i) ea_nil) (by omega)
      (fun _ ss => ∃ pg t ws x8 x9 x10 x11, ss = [.val (.scr ns), .val (pagesD pg), .val (tabD t), .val (.int w), .own (.lst (ws.map Wk.d)), x5, .val (.int (0 + (i : Int))), .val (.int c), x8, x9, x10, x11] ∧ I w pg t ws) ⟨pg, t, ws, _, _, _, _, rfl, hJ⟩ ?_ ?_
    · rintro j ss hj ⟨pg, t, ws, x8, x9, x10, x11, rfl, hJ⟩
      refine ⟨_, g_name (by simp), ?_⟩
      have z0 := Int.emod_nonneg (c + (0 + (j : Int)) * (c / 12 % 2)) (show (3 : Int) ≠ 0 by decide)
      have z1 := Int.emod_lt_of_pos (c + (0 + (j : Int)) * (c / 12 % 2)) (show (0 : Int) < 3 by decide)
      refine do_seq (do_asg (d := .int ((c + (0 + (j : Int)) * (c / 12 % 2)) % 3)) (ev_op (d := .int (c + (0 + (j : Int)) * (c / 12 % 2))) (e := .int 3) (Ev.x (ev_op (d := .int c) (e := .int ((0 + (j : Int)) * (c / 12 % 2))) (Ev.x (ev_var rfl)) (Ev.x (ev_op (d := .int (0 + (j : Int))) (e := .int (c / 12 % 2)) (Ev.x (ev_var rfl)) (Ev.x (ev_op (d := .int (c / 12)) (e := .int 2) (Ev.x (ev_op (d := .int c) (e := .int 12) (Ev.x (ev_var rfl)) (Ev.x ev_int) (rv_ic ⟨by decide, by decide⟩))) (Ev.x ev_int) (rv_ic (by decide)))) (rv_ic (.inl ⟨by omega, by omega⟩)))) rv_i)) (Ev.x ev_int) (rv_ic (by decide))) ?_ (by simp))
      generalize (c + (0 + (j : Int)) * (c / 12 % 2)) % 3 = q at z0 z1
      obtain ⟨l1, l2⟩ := Pl.len hJ
      have hq : q.toNat < ws.length := by omega
      have hqe : q = (q.toNat : Int) := by omega
      obtain ⟨o, pg', t', e1, e2, e3, e4⟩ := Pl.turn hJ (List.getElem?_eq_getElem hq)
      refine do_seq (do_asgG (d := turnD (o, pg', t')) (ev_call ((ws[q.toNat], pg, t), o, pg', t') (ea_cons (ev_op (d := .lst (ws.map Wk.d)) (e := .int q) (evx_own rfl) (Ev.x (ev_var rfl)) (rv_ixL (at_nat hqe (by rw [List.getElem?_map, List.getElem?_eq_getElem hq]; rfl)))) (ea_cons (ev_var rfl) (ea_cons (ev_var rfl) ea_nil))) e1) (by unfold turnD; walk_at "gs") ?_)
      refine do_seq (do_iff (EvT.is (b := !true) (et_not (et_B (ev_var rfl))) rfl) (do_next ?_))
      have hset : ∀ (wk' : Wk) (bk' : List Sl → Prop), I w pg' t' (ws.set q.toNat wk') → Do K C [] B H0 (tAsg (tVar 10) (gSub (tVar 4) (tVar 9) rSetL))
          [.val (.scr ns), .val (pagesD pg'), .val (tabD t'), .val (.int w), .own (.lst (ws.map Wk.d)), x5, .val (.int (0 + (i : Int))), .val (.int c), .val (.int (0 + (j : Int))), .val (.int q), .val wk'.d, .val (.bl true)]
          (fun ss => ∃ pg t ws x8 x9 x10 x11, ss = [.val (.scr ns), .val (pagesD pg), .val (tabD t), .val (.int w), .own (.lst (ws.map Wk.d)), x5, .val (.int (0 + (i : Int))), .val (.int c), x8, x9, x10, x11] ∧ I w pg t ws) bk'
          (fun ss => ∃ pg t ws x8 x9 x10 x11, ss = [.val (.scr ns), .val (pagesD pg), .val (tabD t), .val (.int w), .own (.lst (ws.map Wk.d)), x5, .val (.int (0 + (i : Int))), .val (.int c), x8, x9, x10, x11] ∧ I w pg t ws) (fun d _ => d = D.bl true) := fun wk' bk' hI' => by
        refine do_setL (i := 4) (k := q) (j := q.toNat) rfl (ev_var rfl) (ev_var rfl) ?_ ⟨pg', t', ws.set q.toNat wk', .val (.int (0 + (j : Int))), .val (.int q), .val wk'.d, .val (.bl true), ?_, hI'⟩
        · unfold ixN
          rw [List.length_map, if_pos z0, if_pos (by omega)]
        · rw [List.map_set]
          rfl
      cases o with
      | some wk' =>
        refine do_seq (do_iff (et_test (ev_op (d := wk'.d) (Ev.x (ev_var rfl)) (Ev.x ev_non) rv_isN)) (do_next ?_))
        exact hset wk' _ (e3 wk' rfl)
      | none =>
        refine do_seq (do_ift (et_test (ev_op (d := .non) (Ev.x (ev_var rfl)) (Ev.x ev_non) rv_isN)) ?_)
        refine do_asg (d := (freshW (callOf (c / 24 + 7 * (0 + (i : Int)) + (0 + (j : Int))) w t')).d) (ev_call (callOf (c / 24 + 7 * (0 + (i : Int)) + (0 + (j : Int))) w t') (ea_cons (ev_call (c / 24 + 7 * (0 + (i : Int)) + (0 + (j : Int)), w, t') (ea_cons (ev_op (d := .int (c / 24 + 7 * (0 + (i : Int)))) (e := .int (0 + (j : Int))) (Ev.x (ev_op (d := .int (c / 24)) (e := .int (7 * (0 + (i : Int)))) (Ev.x (ev_op (d := .int c) (e := .int 24) (Ev.x (ev_var rfl)) (Ev.x ev_int) (rv_ic ⟨by decide, by decide⟩))) (Ev.x (ev_op (d := .int 7) (e := .int (0 + (i : Int))) (Ev.x ev_int) (Ev.x (ev_var rfl)) (rv_ic (.inl ⟨by decide, by decide⟩)))) rv_i)) (Ev.x (ev_var rfl)) rv_i) (ea_cons (ev_var rfl) (ea_cons (ev_var rfl) ea_nil))) ⟨hw.1, hw.2, e2⟩) ea_nil) trivial) ?_ (by simp)
        exact hset _ _ (e4 rfl _)
    · rintro ss ⟨pg, t, ws, x8, x9, x10, x11, rfl, hJ⟩
      exact ⟨pg, t, ws, _, _, _, _, _, _, _, rfl, hJ⟩
  · rintro ss ⟨pg, t, ws, x5, x6, x7, x8, x9, x10, x11, rfl, hJ⟩
    have hm := Pl.fin hJ
    unfold mapOk at hm
    cases em : mapR pg with
    | none => rw [em] at hm; cases hm
    | some mm =>
    rw [em] at hm
    exact do_ret (ev_op (d := tabD mm) (e := tabD t) (Ev.x (ev_call (pg, mm) (ea_cons (ev_var rfl) ea_nil) em)) (Ev.x (ev_var rfl)) (same_tab hm)) rfl
end
end Esp

/-! Plain law, part 1: keys in order, children and their bounds. -/
namespace Esp
open PySem L2 PyProof.Rows PySem.Spec

abbrev Bd := Option Int × Option Int
def inB (b : Bd) (k : Int) : Bool := aboveB k b.1 && belowB k b.2
theorem covers_eq (r : Rec) (k : Int) : coversB r k = inB r.bd k := rfl
theorem asc_pw : ∀ {l : List Int}, ascB l = true ↔ l.Pairwise (· < ·)
  | [] => by simp [ascB]
  | [a] => by simp [ascB]
  | a :: b :: r => by
    have ih := asc_pw (l := b :: r)
    unfold ascB
    rw [Bool.and_eq_true, decide_eq_true_eq, ih]
    constructor
    · rintro ⟨h1, h2⟩
      refine List.pairwise_cons.mpr ⟨fun x hx => ?_, h2⟩
      rcases List.mem_cons.mp hx with rfl | hx
      · exact h1
      · exact Int.lt_trans h1 ((List.pairwise_cons.mp h2).1 x hx)
    · intro h
      obtain ⟨h1, h2⟩ := List.pairwise_cons.mp h
      exact ⟨h1 b List.mem_cons_self, h2⟩
/-- keys of a leaf between its bounds -/
def OkL (lo hi : Option Int) (ks : List Int) : Prop := lohi lo hi = true ∧ ks.Pairwise (· < ·) ∧ ∀ k ∈ ks, aboveB k lo = true ∧ belowB k hi = true
def OkI (lo hi : Option Int) (ks : List Int) : Prop := lohi lo hi = true ∧ ks.Pairwise (· < ·) ∧ ∀ k ∈ ks, gtB k lo = true ∧ belowB k hi = true
theorem okL_iff {lo hi : Option Int} {ks vs : List Int} : (Rec.leaf lo hi ks vs).okB = true ↔ ks.length = vs.length ∧ ks.length ≤ 50 ∧ OkL lo hi ks := by
  unfold Rec.okB OkL
  simp only [Bool.and_eq_true, decide_eq_true_eq, List.all_eq_true, asc_pw]
theorem okI_iff {lv : Int} {lo hi : Option Int} {ks ps : List Int} : (Rec.inner lv lo hi ks ps).okB = true ↔ 1 ≤ lv ∧ ps.length = ks.length + 1 ∧ ks.length ≤ 50 ∧ OkI lo hi ks := by
  unfold Rec.okB OkI
  simp only [Bool.and_eq_true, decide_eq_true_eq, List.all_eq_true, asc_pw]
theorem gt_above {k : Int} {lo : Option Int} (h : gtB k lo = true) : aboveB k lo = true := by
  cases lo with
  | none => rfl
  | some l => exact decide_eq_true (Int.le_of_lt (of_decide_eq_true h))
theorem lohi_iff {lo hi : Option Int} : lohi lo hi = true ↔ ∀ l h, lo = some l → hi = some h → l < h := by
  cases lo with
  | none => simp [lohi]
  | some l =>
    cases hi with
    | none => simp [lohi, belowB]
    | some h => simp [lohi, belowB]
/-- a key between -/
theorem in_some {b : Bd} (h : lohi b.1 b.2 = true) : ∃ k, inB b k = true := by
  obtain ⟨lo, hi⟩ := b
  cases lo with
  | some l => exact ⟨l, by
      unfold inB
      rw [Bool.and_eq_true]
      exact ⟨decide_eq_true (Int.le_refl l), h⟩⟩
  | none =>
    cases hi with
    | none => exact ⟨0, rfl⟩
    | some y => exact ⟨y - 1, by
        unfold inB
        rw [Bool.and_eq_true]
        exact ⟨rfl, decide_eq_true (by omega)⟩⟩
theorem inB_iff {lo hi : Option Int} {k : Int} : inB (lo, hi) k = true ↔ (∀ l, lo = some l → l ≤ k) ∧ ∀ h, hi = some h → k < h := by
  unfold inB
  rw [Bool.and_eq_true]
  cases lo <;> cases hi <;> simp [aboveB, belowB]
theorem gtB_iff {lo : Option Int} {k : Int} : gtB k lo = true ↔ ∀ l, lo = some l → l < k := by cases lo <;> simp [gtB]
theorem abB_iff {lo : Option Int} {k : Int} : aboveB k lo = true ↔ ∀ l, lo = some l → l ≤ k := by cases lo <;> simp [aboveB]
theorem beB_iff {hi : Option Int} {k : Int} : belowB k hi = true ↔ ∀ l, hi = some l → k < l := by cases hi <;> simp [belowB]
/-! ### split and join of key lists -/
theorem okI_split {lo hi : Option Int} {A B : List Int} {m : Int} : OkI lo hi (A ++ m :: B) ↔ OkI lo (some m) A ∧ OkI (some m) hi B := by
  unfold OkI
  simp only [lohi_iff, gtB_iff, beB_iff, List.pairwise_append, List.pairwise_cons, List.mem_append, List.mem_cons]
  constructor
  · rintro ⟨h1, ⟨p1, ⟨p2, p3⟩, p4⟩, h2⟩
    have hm := h2 m (.inr (.inl rfl))
    refine ⟨⟨?_, p1, fun k hk => ⟨(h2 k (.inl hk)).1, fun l hl => ?_⟩⟩, ⟨?_, p3, fun k hk => ⟨fun l hl => ?_, (h2 k (.inr (.inr hk))).2⟩⟩⟩
    · rintro l h e1 e2
      cases e2
      exact hm.1 l e1
    · cases hl
      exact p4 k hk m (.inl rfl)
    · rintro l h e1 e2
      cases e1
      exact hm.2 h e2
    · cases hl
      exact p2 k hk
  · rintro ⟨⟨a1, a2, a3⟩, ⟨b1, b2, b3⟩⟩
    have am : ∀ k ∈ A, k < m := fun k hk => (a3 k hk).2 m rfl
    have bm : ∀ k ∈ B, m < k := fun k hk => (b3 k hk).1 m rfl
    refine ⟨?_, ⟨a2, ⟨bm, b2⟩, ?_⟩, ?_⟩
    · intro l h e1 e2
      have := a1 l m e1 rfl
      have := b1 m h rfl e2
      omega
    · intro x hx y hy
      rcases hy with rfl | hy
      · exact am x hx
      · exact Int.lt_trans (am x hx) (bm y hy)
    · intro k hk
      rcases hk with hk | rfl | hk
      · refine ⟨(a3 k hk).1, fun h e => ?_⟩
        have := b1 m h rfl e
        have := am k hk
        omega
      · exact ⟨fun l e => a1 l k e rfl, fun h e => b1 k h rfl e⟩
      · refine ⟨fun l e => ?_, (b3 k hk).2⟩
        have := a1 l m e rfl
        have := bm k hk
        omega
theorem okL_join {lo hi : Option Int} {A B : List Int} {m : Int} (h1 : OkL lo (some m) A) (h2 : OkL (some m) hi B) : OkL lo hi (A ++ B) := by
  unfold OkL at *
  simp only [lohi_iff, abB_iff, beB_iff, List.pairwise_append, List.mem_append] at *
  obtain ⟨a1, a2, a3⟩ := h1
  obtain ⟨b1, b2, b3⟩ := h2
  have am : ∀ k ∈ A, k < m := fun k hk => (a3 k hk).2 m rfl
  have bm : ∀ k ∈ B, m ≤ k := fun k hk => (b3 k hk).1 m rfl
  refine ⟨?_, ⟨a2, b2, fun x hx y hy => Int.lt_of_lt_of_le (am x hx) (bm y hy)⟩, ?_⟩
  · intro l h e1 e2
    have := a1 l m e1 rfl
    have := b1 m h rfl e2
    omega
  · rintro k (hk | hk)
    · refine ⟨(a3 k hk).1, fun h e => ?_⟩
      have := b1 m h rfl e
      have := am k hk
      omega
    · refine ⟨fun l e => ?_, (b3 k hk).2⟩
      have := a1 l m e rfl
      have := bm k hk
      omega
theorem okL_split {lo hi : Option Int} {A B : List Int} {m : Int} (hA : A ≠ []) (h : OkL lo hi (A ++ m :: B)) : OkL lo (some m) A ∧ OkL (some m) hi (m :: B) ∧ gtB m lo = true ∧ belowB m hi = true := by
  unfold OkL at *
  simp only [lohi_iff, abB_iff, beB_iff, gtB_iff, List.pairwise_append, List.pairwise_cons, List.mem_append, List.mem_cons] at *
  obtain ⟨h1, ⟨p1, ⟨p2, p3⟩, p4⟩, h2⟩ := h
  have hm := h2 m (.inr (.inl rfl))
  obtain ⟨a, ha⟩ := List.exists_mem_of_ne_nil A hA
  have gt : ∀ l, lo = some l → l < m := fun l e => by
    have := (h2 a (.inl ha)).1 l e
    have := p4 a ha m (.inl rfl)
    omega
  refine ⟨⟨?_, p1, fun k hk => ⟨(h2 k (.inl hk)).1, fun l hl => ?_⟩⟩, ⟨?_, ⟨p2, p3⟩, ?_⟩, gt, hm.2⟩
  · rintro l h e1 e2
    cases e2
    exact gt l e1
  · cases hl
    exact p4 k hk m (.inl rfl)
  · rintro l h e1 e2
    cases e1
    exact hm.2 h e2
  · rintro k (rfl | hk)
    · refine ⟨fun l e => ?_, hm.2⟩
      cases e
      exact Int.le_refl _
    · refine ⟨fun l e => ?_, (h2 k (.inr (.inr hk))).2⟩
      cases e
      exact Int.le_of_lt (p2 k hk)
/-! ### children -/
def kidsL (lo hi : Option Int) : List Int → List Int → List (Int × Bd)
  | [], p :: _ => [(p, (lo, hi))]
  | k :: ks, p :: ps => (p, (lo, some k)) :: kidsL (some k) hi ks ps
  | _, [] => []
def kidsOf : Rec → List (Int × Bd)
  | .inner _ lo hi ks ps => kidsL lo hi ks ps
  | _ => []
def valOf : Rec → Int → Option Int
  | .leaf _ _ ks vs, k => valIn ks vs k
  | _, _ => none
theorem childB_zero {lo hi : Option Int} {ks : List Int} : childB lo hi ks 0 = (lo, match ks with | [] => hi | k :: _ => some k) := by
  unfold childB
  cases ks <;> simp
theorem childB_succ {lo hi : Option Int} {k : Int} {ks : List Int} {i : Nat} : childB lo hi (k :: ks) (i + 1) = childB (some k) hi ks i := by
  unfold childB
  cases i with
  | zero => simp
  | succ i => simp
theorem kids_get : ∀ {ks ps : List Int} {lo hi : Option Int} {i : Nat}, ps.length = ks.length + 1 → (kidsL lo hi ks ps)[i]? = (ps[i]?).map fun c => (c, childB lo hi ks i)
  | [], [p], lo, hi, i, _ => by
    cases i with
    | zero => simp [kidsL, childB]
    | succ i => simp [kidsL]
  | k :: ks, p :: ps, lo, hi, i, h => by
    cases i with
    | zero => simp [kidsL, childB]
    | succ i =>
      have ih := kids_get (ks := ks) (ps := ps) (lo := some k) (hi := hi) (i := i) (by simpa using h)
      rw [childB_succ]
      simpa [kidsL] using ih
  | [], [], _, _, _, h => by simp at h
  | [], _ :: _ :: _, _, _, _, h => by simp at h
  | _ :: _, [], _, _, _, h => by simp at h
theorem kids_len : ∀ {ks ps : List Int} {lo hi : Option Int}, ps.length = ks.length + 1 → (kidsL lo hi ks ps).length = ps.length := by
  intro ks ps lo hi h
  apply Nat.le_antisymm
  · rw [← List.getElem?_eq_none_iff, kids_get h, List.getElem?_eq_none (Nat.le_refl _)]; rfl
  · rw [← List.getElem?_eq_none_iff]
    have e := kids_get (lo := lo) (hi := hi) (i := (kidsL lo hi ks ps).length) h
    rw [List.getElem?_eq_none (Nat.le_refl _)] at e
    cases e2 : ps[(kidsL lo hi ks ps).length]? with
    | none => rfl
    | some x => rw [e2] at e; cases e
theorem kids_fst : ∀ {ks ps : List Int} {lo hi : Option Int}, ps.length = ks.length + 1 → (kidsL lo hi ks ps).map (·.1) = ps := by
  intro ks ps lo hi h
  apply List.ext_getElem?
  intro i
  rw [List.getElem?_map, kids_get h]
  cases ps[i]? <;> rfl
theorem kids_append : ∀ {A P B Q : List Int} {lo hi : Option Int} {m : Int}, P.length = A.length + 1 → kidsL lo hi (A ++ m :: B) (P ++ Q) = kidsL lo (some m) A P ++ kidsL (some m) hi B Q
  | [], [p], B, Q, lo, hi, m, _ => rfl
  | a :: A, p :: P, B, Q, lo, hi, m, h => by
    have ih := kids_append (A := A) (P := P) (B := B) (Q := Q) (lo := some a) (hi := hi) (m := m) (by simpa using h)
    show _ :: kidsL (some a) hi (A ++ m :: B) (P ++ Q) = _ :: (kidsL (some a) (some m) A P ++ kidsL (some m) hi B Q)
    rw [ih]
  | [], [], _, _, _, _, _, h => by simp at h
  | [], _ :: _ :: _, _, _, _, _, _, h => by simp at h
  | _ :: _, [], _, _, _, _, _, h => by simp at h
/-- the child in the middle, cut in two -/
theorem kids_mid : ∀ {A P B Q : List Int} {lo hi : Option Int}, P.length = A.length → Q.length = B.length → ∃ X Y, ∀ q : Int, kidsL lo hi (A ++ B) (P ++ q :: Q) = X ++ (q, childB lo hi (A ++ B) A.length) :: Y ∧
    ∀ m n : Int, kidsL lo hi (A ++ m :: B) (P ++ q :: n :: Q) = X ++ (q, ((childB lo hi (A ++ B) A.length).1, some m)) :: (n, (some m, (childB lo hi (A ++ B) A.length).2)) :: Y
  | [], [], [], [], lo, hi, _, _ => ⟨[], [], fun q => ⟨by simp [kidsL, childB], fun m n => by simp [kidsL, childB]⟩⟩
  | [], [], b :: B, c :: Q, lo, hi, _, h => ⟨[], kidsL (some b) hi B (c :: Q), fun q => ⟨by simp [kidsL, childB], fun m n => by simp [kidsL, childB]⟩⟩
  | a :: A, p :: P, B, Q, lo, hi, h1, h2 => by
    obtain ⟨X, Y, h⟩ := kids_mid (A := A) (P := P) (B := B) (Q := Q) (lo := some a) (hi := hi) (by simpa using h1) h2
    refine ⟨(p, (lo, some a)) :: X, Y, fun q => ⟨?_, fun m n => ?_⟩⟩
    · have e := (h q).1
      simp only [List.cons_append, List.length_cons, childB_succ, kidsL]
      rw [e]
    · have e := (h q).2 m n
      simp only [List.cons_append, List.length_cons, childB_succ, kidsL]
      rw [e]
  | [], [], [], _ :: _, _, _, _, h => by simp at h
  | [], [], _ :: _, [], _, _, _, h => by simp at h
  | [], _ :: _, _, _, _, _, h, _ => by simp at h
  | _ :: _, [], _, _, _, _, h, _ => by simp at h
/-! ### which child covers a key -/
theorem childAt_cons {a k : Int} {ks : List Int} : childAt (a :: ks) k = if a ≤ k then childAt ks k + 1 else childAt ks k := by
  unfold childAt
  rw [List.filter_cons]
  by_cases h : a ≤ k
  · rw [if_pos (decide_eq_true h), if_pos h, List.length_cons]
  · rw [if_neg (by simp [h]), if_neg h]
theorem childAt_le (ks : List Int) (k : Int) : childAt ks k ≤ ks.length := List.length_filter_le _ _
theorem childAt_zero {ks : List Int} {k : Int} (h : ∀ x ∈ ks, k < x) : childAt ks k = 0 := by
  unfold childAt
  rw [List.filter_eq_nil_iff.mpr fun x hx => by have := h x hx; simp; omega]
  rfl
theorem cov_child : ∀ {ks : List Int} {lo hi : Option Int} {k : Int} {i : Nat}, OkI lo hi ks → i ≤ ks.length → (inB (childB lo hi ks i) k = true ↔ inB (lo, hi) k = true ∧ i = childAt ks k)
  | [], lo, hi, k, i, _, hi' => by
    have : i = 0 := by simpa using hi'
    subst this
    simp [childB, childAt]
  | a :: ks, lo, hi, k, i, h, hi' => by
    have hs := (okI_split (A := []) (B := ks) (m := a)).mp h
    obtain ⟨⟨h1, _, _⟩, h2⟩ := hs
    rw [lohi_iff] at h1
    have gt : ∀ x ∈ ks, a < x := fun x hx => (gtB_iff.mp (h2.2.2 x hx).1) a rfl
    have hlh := lohi_iff.mp h2.1
    cases i with
    | zero =>
      rw [show childB lo hi (a :: ks) 0 = (lo, some a) by simp [childB], inB_iff, inB_iff, childAt_cons]
      constructor
      · rintro ⟨z1, z2⟩
        have := z2 a rfl
        refine ⟨⟨z1, fun h' e => ?_⟩, ?_⟩
        · have := hlh a h' rfl e; omega
        · rw [if_neg (by omega), childAt_zero fun x hx => by have := gt x hx; omega]
      · rintro ⟨⟨z1, z2⟩, z3⟩
        refine ⟨z1, fun h' e => ?_⟩
        cases e
        by_cases g : a ≤ k
        · rw [if_pos g] at z3; omega
        · omega
    | succ i =>
      rw [childB_succ, cov_child h2 (by simpa using hi'), childAt_cons, inB_iff, inB_iff]
      constructor
      · rintro ⟨⟨z1, z2⟩, z3⟩
        have := z1 a rfl
        refine ⟨⟨fun l e => ?_, z2⟩, by rw [if_pos this, z3]⟩
        have := h1 l a e rfl
        omega
      · rintro ⟨⟨z1, z2⟩, z3⟩
        by_cases g : a ≤ k
        · rw [if_pos g] at z3
          refine ⟨⟨fun l e => ?_, z2⟩, by omega⟩
          cases e; exact g
        · rw [if_neg g, childAt_zero fun x hx => by have := gt x hx; omega] at z3
          omega
theorem kids_sub {lo hi : Option Int} {ks ps : List Int} {c : Int × Bd} {k : Int} (h : OkI lo hi ks) (hl : ps.length = ks.length + 1) (hc : c ∈ kidsL lo hi ks ps) (hk : inB c.2 k = true) : inB (lo, hi) k = true := by
  obtain ⟨i, hi'⟩ := List.mem_iff_getElem?.mp hc
  rw [kids_get hl] at hi'
  cases e : ps[i]? with
  | none => rw [e] at hi'; cases hi'
  | some x =>
    rw [e] at hi'
    cases hi'
    have : i < ps.length := (List.getElem?_eq_some_iff.mp e).1
    exact ((cov_child h (by omega)).mp hk).1
/-- the child that covers a key -/
theorem kids_cov {lo hi : Option Int} {ks ps : List Int} {k : Int} (h : OkI lo hi ks) (hl : ps.length = ks.length + 1) (hk : inB (lo, hi) k = true) : ∃ c, ps[childAt ks k]? = some c ∧ (c, childB lo hi ks (childAt ks k)) ∈ kidsL lo hi ks ps ∧ inB (childB lo hi ks (childAt ks k)) k = true := by
  have h1 := childAt_le ks k
  have h2 : childAt ks k < ps.length := by omega
  have e : ps[childAt ks k]? = some ps[childAt ks k] := List.getElem?_eq_getElem h2
  refine ⟨_, e, List.mem_iff_getElem?.mpr ⟨childAt ks k, by rw [kids_get hl, e]; rfl⟩, (cov_child h h1).mpr ⟨hk, rfl⟩⟩
/-- bounds of children follow one another -/
theorem kids_pw : ∀ {ks ps : List Int} {lo hi : Option Int}, OkI lo hi ks → ps.length = ks.length + 1 → (kidsL lo hi ks ps).Pairwise fun a b => ∃ s t, a.2.2 = some s ∧ b.2.1 = some t ∧ s ≤ t
  | [], [p], lo, hi, _, _ => by simp [kidsL]
  | k :: ks, p :: ps, lo, hi, h, hl => by
    obtain ⟨_, h2⟩ := (okI_split (A := []) (B := ks) (m := k)).mp h
    have hl' : ps.length = ks.length + 1 := by simpa using hl
    refine List.pairwise_cons.mpr ⟨fun b hb => ?_, kids_pw h2 hl'⟩
    obtain ⟨i, hi'⟩ := List.mem_iff_getElem?.mp hb
    rw [kids_get hl'] at hi'
    cases e : ps[i]? with
    | none => rw [e] at hi'; cases hi'
    | some x =>
      rw [e] at hi'
      cases hi'
      have : i < ps.length := (List.getElem?_eq_some_iff.mp e).1
      cases i with
      | zero => exact ⟨k, k, rfl, by simp [childB], Int.le_refl _⟩
      | succ i =>
        have hlt : i < ks.length := by omega
        refine ⟨k, ks[i], rfl, by simp [childB, hlt], ?_⟩
        exact Int.le_of_lt ((gtB_iff.mp (h2.2.2 ks[i] (List.getElem_mem hlt)).1) k rfl)
  | [], [], _, _, _, h => by simp at h
  | [], _ :: _ :: _, _, _, _, h => by simp at h
  | _ :: _, [], _, _, _, h => by simp at h
/-! ### values of a leaf -/
theorem valIn_mem : ∀ {ks vs : List Int} {k v : Int}, valIn ks vs k = some v → k ∈ ks
  | [], _, _, _, h => by simp [valIn] at h
  | _ :: _, [], _, _, h => by simp [valIn] at h
  | a :: ks, b :: vs, k, v, h => by
    unfold valIn at h
    split at h
    case isTrue g => rw [g]; exact List.mem_cons_self
    case isFalse g => exact List.mem_cons_of_mem _ (valIn_mem h)
theorem valIn_no {ks vs : List Int} {k : Int} (h : k ∉ ks) : valIn ks vs k = none := by
  cases e : valIn ks vs k with
  | none => rfl
  | some v => exact absurd (valIn_mem e) h
theorem valIn_some : ∀ {ks vs : List Int} {k : Int}, ks.length = vs.length → k ∈ ks → ∃ v, valIn ks vs k = some v
  | [], _, _, _, h => nomatch h
  | _ :: _, [], _, h, _ => by simp at h
  | a :: ks, b :: vs, k, hl, h => by
    unfold valIn
    by_cases g : a = k
    · rw [if_pos g]; exact ⟨_, rfl⟩
    · rw [if_neg g]
      rcases List.mem_cons.mp h with e | e
      · exact absurd e.symm g
      · exact valIn_some (by simpa using hl) e
theorem valIn_append : ∀ {A B VA VB : List Int} {k : Int}, A.length = VA.length → valIn (A ++ B) (VA ++ VB) k = (valIn A VA k).or (valIn B VB k)
  | [], B, [], VB, k, _ => by simp [valIn]
  | a :: A, B, v :: VA, VB, k, h => by
    have ih := valIn_append (A := A) (B := B) (VA := VA) (VB := VB) (k := k) (by simpa using h)
    show (if a = k then some v else valIn (A ++ B) (VA ++ VB) k) = (if a = k then some v else valIn A VA k).or _
    by_cases g : a = k
    · rw [if_pos g, if_pos g]; rfl
    · rw [if_neg g, if_neg g, ih]
  | [], _, _ :: _, _, _, h => by simp at h
  | _ :: _, _, [], _, _, h => by simp at h
end Esp

/-! Plain law, part 2: exact trees and the steps that keep them. -/
namespace Esp
open PySem L2 PyProof.Rows PySem.Spec

def up (W : Int → Rec) (p : Int) (r : Rec) : Int → Rec := fun a => if a = p then r else W a
theorem up_same {W : Int → Rec} {p : Int} {r : Rec} : up W p r p = r := if_pos rfl
theorem up_ne {W : Int → Rec} {p q : Int} {r : Rec} (h : q ≠ p) : up W p r q = W q := if_neg h
structure Exa (W : Int → Rec) (tb : Int → Option Int) (x : Option Int) : Prop where
  live0 : (W 0).live = true
  bd0 : (W 0).bd = (none, none)
  ok : ∀ p, (W p).okB = true
  size : ∀ p, (W p).live = true → x ≠ some p → sizeB p (W p) = true
  kids : ∀ p c, c ∈ kidsOf (W p) → (W c.1).live = true ∧ (W c.1).bd = c.2 ∧ (W c.1).lv = (W p).lv - 1
  one : ∀ p q k, (W p).live = true → (W q).live = true → (W p).lv = (W q).lv → inB (W p).bd k = true → inB (W q).bd k = true → p = q
  top : ∀ p, (W p).live = true → (W p).lv ≤ (W 0).lv
  tab : ∀ p, (W p).isLeaf = true → ∀ k, inB (W p).bd k = true → valOf (W p) k = tb k
theorem rec_lohi {r : Rec} (h : r.okB = true) : lohi r.bd.1 r.bd.2 = true := by
  cases r with
  | leaf lo hi ks vs => exact (okL_iff.mp h).2.2.1
  | inner lv lo hi ks ps => exact (okI_iff.mp h).2.2.2.1
  | free n => rfl
theorem rec_some {r : Rec} (h : r.okB = true) : ∃ k, inB r.bd k = true := in_some (rec_lohi h)
theorem kids_live {r : Rec} {c : Int × Bd} (h : c ∈ kidsOf r) : r.live = true ∧ r.isLeaf = false := by
  cases r with
  | leaf lo hi ks vs => cases h
  | inner lv lo hi ks ps => exact ⟨rfl, rfl⟩
  | free n => cases h
theorem kids_in {r : Rec} {c : Int × Bd} {k : Int} (o : r.okB = true) (h : c ∈ kidsOf r) (hk : inB c.2 k = true) : inB r.bd k = true := by
  cases r with
  | leaf lo hi ks vs => cases h
  | inner lv lo hi ks ps =>
    obtain ⟨_, o1, _, o2⟩ := okI_iff.mp o
    exact kids_sub o2 o1 h hk
  | free n => cases h
theorem kids_all {r : Rec} {k : Int} (o : r.okB = true) (h1 : r.live = true) (h2 : r.isLeaf = false) (hk : inB r.bd k = true) : ∃ c ∈ kidsOf r, inB c.2 k = true := by
  cases r with
  | leaf lo hi ks vs => cases h2
  | inner lv lo hi ks ps =>
    obtain ⟨_, o1, _, o2⟩ := okI_iff.mp o
    obtain ⟨c, _, h3, h4⟩ := kids_cov o2 o1 hk
    exact ⟨_, h3, h4⟩
  | free n => cases h1
theorem leaf_of {r : Rec} (o : r.okB = true) (h : r.live = true) : r.isLeaf = decide (r.lv = 0) := by
  cases r with
  | leaf lo hi ks vs => rfl
  | inner lv lo hi ks ps =>
    have := (okI_iff.mp o).1
    show false = decide (lv = 0)
    rw [decide_eq_false (by omega)]
  | free n => cases h
section
variable {W : Int → Rec} {tb tb' : Int → Option Int} {x : Option Int}
theorem Exa.par (E : Exa W tb x) {p q : Int} {c d : Int × Bd} (hc : c ∈ kidsOf (W p)) (hd : d ∈ kidsOf (W q)) (e : c.1 = d.1) : p = q := by
  obtain ⟨c1, c2, c3⟩ := E.kids p c hc
  obtain ⟨d1, d2, d3⟩ := E.kids q d hd
  obtain ⟨k, hk⟩ := rec_some (E.ok c.1)
  refine E.one p q k (kids_live hc).1 (kids_live hd).1 ?_ (kids_in (E.ok p) hc (by rw [← c2]; exact hk)) (kids_in (E.ok q) hd (by rw [← d2, ← e]; exact hk))
  rw [e] at c3
  omega
theorem Exa.nodup (E : Exa W tb x) (p : Int) : ((kidsOf (W p)).map (·.1)).Nodup := by
  rw [List.Nodup, List.pairwise_map]
  cases hr : W p with
  | leaf lo hi ks vs => exact List.Pairwise.nil
  | free n => exact List.Pairwise.nil
  | inner lv lo hi ks ps =>
    have o := E.ok p
    rw [hr] at o
    obtain ⟨_, o1, _, o2⟩ := okI_iff.mp o
    have hk : ∀ c ∈ kidsL lo hi ks ps, (W c.1).bd = c.2 := fun c hc => (E.kids p c (by rw [hr]; exact hc)).2.1
    refine (List.Pairwise.and_mem.mp (kids_pw o2 o1)).imp ?_
    rintro a b ⟨ha, hb, s, t, e1, e2, e3⟩ e
    have h1 := hk a ha
    have h2 := hk b hb
    have h3 := rec_lohi (E.ok a.1)
    rw [h1] at h3
    rw [← e, h1] at h2
    rw [← h2] at e2
    rw [e1, e2] at h3
    have : t < s := of_decide_eq_true h3
    omega
/-- one parent's middle children are replaced -/
theorem Exa.repl (E : Exa W tb x) {pp : Int} {pp' : Rec} {N : Int → Option Rec} {X M Y M' : List (Int × Bd)} (hx : ∀ p, x = some p → N p ≠ none) (k0 : kidsOf (W pp) = X ++ M ++ Y) (k1 : kidsOf pp' = X ++ M' ++ Y) (hM : M ≠ [])
    (b1 : pp'.okB = true) (b2 : pp'.bd = (W pp).bd) (b3 : pp'.lv = (W pp).lv) (b4 : pp'.live = true) (b5 : pp'.isLeaf = false) (n0 : ∀ c ∈ M, N c.1 ≠ none) (n1 : ∀ p, N p ≠ none → (W p).live = false ∨ ∃ c ∈ M, c.1 = p) (n2 : ∀ p r, N p = some r → r.okB = true)
    (n3 : ∀ p r, N p = some r → r.live = true → r.lv = (W pp).lv - 1 ∧ sizeB p r = true ∧ (∀ k, inB r.bd k = true → ∃ c ∈ M, inB c.2 k = true) ∧ (∀ c ∈ kidsOf r, ∃ d ∈ M, c ∈ kidsOf (W d.1)) ∧ (r.isLeaf = true → ∀ k, inB r.bd k = true → valOf r k = tb k))
    (n4 : ∀ p q r s k, N p = some r → N q = some s → r.live = true → s.live = true → inB r.bd k = true → inB s.bd k = true → p = q) (n5 : ∀ c ∈ M', ∃ r, N c.1 = some r ∧ r.live = true ∧ r.bd = c.2) :
    Exa (fun p => if p = pp then pp' else (N p).getD (W p)) tb (some pp) := by
  have inM : ∀ c ∈ M, c ∈ kidsOf (W pp) := fun c hc => by rw [k0]; exact List.mem_append_left _ (List.mem_append_right _ hc)
  have lvM : ∀ c ∈ M, (W c.1).live = true ∧ (W c.1).bd = c.2 ∧ (W c.1).lv = (W pp).lv - 1 := fun c hc => E.kids pp c (inM c hc)
  have hppl : (W pp).live = true := by
    obtain ⟨c, hc⟩ := List.exists_mem_of_ne_nil M hM
    exact (kids_live (inM c hc)).1
  have Npp : N pp = none := by
    cases e : N pp with
    | none => rfl
    | some r =>
      rcases n1 pp (by rw [e]; simp) with h | ⟨c, hc, h⟩
      · rw [hppl] at h; cases h
      · have := (lvM c hc).2.2
        rw [h] at this
        omega
  have N0 : N 0 = none := by
    cases e : N 0 with
    | none => rfl
    | some r =>
      rcases n1 0 (by rw [e]; simp) with h | ⟨c, hc, h⟩
      · rw [E.live0] at h; cases h
      · have := (lvM c hc).2.2
        rw [h] at this
        have := E.top pp hppl
        omega
  -- a live page out of reach of N
  have Nlv : ∀ p, (W p).live = true → (W p).lv ≠ (W pp).lv - 1 → N p = none := fun p h1 h2 => by
    cases e : N p with
    | none => rfl
    | some r =>
      rcases n1 p (by rw [e]; simp) with h | ⟨c, hc, h⟩
      · rw [h1] at h; cases h
      · have := (lvM c hc).2.2
        rw [h] at this
        exact absurd this h2
  refine ⟨?_, ?_, fun p => ?_, fun p hp hxp => ?_, fun p c hc => ?_, fun p q k hp hq hlv hpk hqk => ?_, fun p hp => ?_, fun p hp k hk => ?_⟩
  · show (if (0 : Int) = pp then pp' else (N 0).getD (W 0)).live = true
    split
    · exact b4
    · rw [N0]; exact E.live0
  · show (if (0 : Int) = pp then pp' else (N 0).getD (W 0)).bd = (none, none)
    split
    case isTrue h => rw [b2, ← h]; exact E.bd0
    case isFalse => rw [N0]; exact E.bd0
  · show (if p = pp then pp' else (N p).getD (W p)).okB = true
    split
    · exact b1
    · cases e : N p with
      | none => exact E.ok p
      | some r => exact n2 p r e
  · have hne : p ≠ pp := fun z => hxp (by rw [z])
    have hp : (if p = pp then pp' else (N p).getD (W p)).live = true := hp
    show sizeB p (if p = pp then pp' else (N p).getD (W p)) = true
    rw [if_neg hne] at hp ⊢
    cases e : N p with
    | none =>
      rw [e] at hp
      exact E.size p hp fun z => hx p z e
    | some r =>
      rw [e] at hp
      exact (n3 p r e hp).2.1
  · have hc : c ∈ kidsOf (if p = pp then pp' else (N p).getD (W p)) := hc
    show (if c.1 = pp then pp' else (N c.1).getD (W c.1)).live = true ∧ (if c.1 = pp then pp' else (N c.1).getD (W c.1)).bd = c.2 ∧ (if c.1 = pp then pp' else (N c.1).getD (W c.1)).lv = (if p = pp then pp' else (N p).getD (W p)).lv - 1
    by_cases hpp : p = pp
    · subst hpp
      rw [if_pos rfl] at hc
      rw [if_pos rfl]
      rw [k1, List.append_assoc, List.mem_append, List.mem_append] at hc
      have side : (c ∈ X ∨ c ∈ Y) → (if c.1 = p then pp' else (N c.1).getD (W c.1)).live = true ∧ (if c.1 = p then pp' else (N c.1).getD (W c.1)).bd = c.2 ∧ (if c.1 = p then pp' else (N c.1).getD (W c.1)).lv = pp'.lv - 1 := fun hXY => by
        have hk : c ∈ kidsOf (W p) := by
          rw [k0, List.append_assoc, List.mem_append, List.mem_append]
          rcases hXY with h | h
          · exact .inl h
          · exact .inr (.inr h)
        obtain ⟨a1, a2, a3⟩ := E.kids p c hk
        have hcp : c.1 ≠ p := fun z => by rw [z] at a3; omega
        have hN : N c.1 = none := by
          cases e : N c.1 with
          | none => rfl
          | some r =>
            rcases n1 c.1 (by rw [e]; simp) with h | ⟨d, hd, h⟩
            · rw [a1] at h; cases h
            · exfalso
              have nd := E.nodup p
              rw [k0, List.map_append, List.map_append, List.nodup_append, List.nodup_append] at nd
              rcases hXY with w | w
              · exact nd.1.2.2 c.1 (List.mem_map_of_mem w) d.1 (List.mem_map_of_mem hd) h.symm
              · exact nd.2.2 d.1 (List.mem_append_right _ (List.mem_map_of_mem hd)) c.1 (List.mem_map_of_mem w) h
        rw [if_neg hcp, hN, b3]
        exact ⟨a1, a2, a3⟩
      rcases hc with h | h | h
      · exact side (.inl h)
      · obtain ⟨r, r1, r2, r3⟩ := n5 c h
        have hcp : c.1 ≠ p := fun z => by rw [z, Npp] at r1; cases r1
        rw [if_neg hcp, r1, b3]
        exact ⟨r2, r3, (n3 c.1 r r1 r2).1⟩
      · exact side (.inr h)
    · rw [if_neg hpp] at hc
      rw [if_neg hpp]
      cases e : N p with
      | some r =>
        rw [e] at hc
        have hc : c ∈ kidsOf r := hc
        have hr := (kids_live hc).1
        obtain ⟨m1, _, _, m2, _⟩ := n3 p r e hr
        obtain ⟨d, hd, hcd⟩ := m2 c hc
        obtain ⟨a1, a2, a3⟩ := E.kids d.1 c hcd
        have ld := (lvM d hd).2.2
        have hcp : c.1 ≠ pp := fun z => by rw [z] at a3; omega
        have hN : N c.1 = none := Nlv c.1 a1 (by omega)
        rw [if_neg hcp, hN]
        refine ⟨a1, a2, ?_⟩
        show (W c.1).lv = r.lv - 1
        omega
      | none =>
        rw [e] at hc
        have hc : c ∈ kidsOf (W p) := hc
        obtain ⟨a1, a2, a3⟩ := E.kids p c hc
        by_cases hcp : c.1 = pp
        · rw [if_pos hcp, b2, b3]
          rw [hcp] at a1 a2 a3
          exact ⟨b4, a2, a3⟩
        · rw [if_neg hcp]
          have hN : N c.1 = none := by
            cases e2 : N c.1 with
            | none => rfl
            | some r =>
              rcases n1 c.1 (by rw [e2]; simp) with h | ⟨d, hd, h⟩
              · rw [a1] at h; cases h
              · exact absurd (E.par hc (inM d hd) h.symm) hpp
          rw [hN]
          exact ⟨a1, a2, a3⟩
  · have view : ∀ p, (if p = pp then pp' else (N p).getD (W p)).live = true → inB (if p = pp then pp' else (N p).getD (W p)).bd k = true →
        (∃ r, N p = some r ∧ r.live = true ∧ inB r.bd k = true ∧ (if p = pp then pp' else (N p).getD (W p)).lv = (W pp).lv - 1) ∨ (N p = none ∧ (W p).live = true ∧ inB (W p).bd k = true ∧ (if p = pp then pp' else (N p).getD (W p)).lv = (W p).lv) := by
      intro p h1 h2
      by_cases hpp : p = pp
      · subst hpp
        rw [if_pos rfl] at h1 h2
        rw [if_pos rfl]
        exact .inr ⟨Npp, hppl, by rw [← b2]; exact h2, b3⟩
      · rw [if_neg hpp] at h1 h2
        rw [if_neg hpp]
        cases e : N p with
        | some r =>
          rw [e] at h1 h2
          exact .inl ⟨r, rfl, h1, h2, (n3 p r e h1).1⟩
        | none =>
          rw [e] at h1 h2
          exact .inr ⟨rfl, h1, h2, rfl⟩
    have cross : ∀ p q r, N p = some r → r.live = true → inB r.bd k = true → N q = none → (W q).live = true → inB (W q).bd k = true → (W q).lv = (W pp).lv - 1 → False := by
      intro p q r e1 e2 e3 e4 e5 e6 e7
      obtain ⟨c, hc, hck⟩ := (n3 p r e1 e2).2.2.1 k e3
      obtain ⟨l1, l2, l3⟩ := lvM c hc
      have := E.one c.1 q k l1 e5 (by omega) (by rw [l2]; exact hck) e6
      exact n0 c hc (by rw [this]; exact e4)
    have hlv : (if p = pp then pp' else (N p).getD (W p)).lv = (if q = pp then pp' else (N q).getD (W q)).lv := hlv
    rcases view p hp hpk with ⟨r, u1, u2, u3, u4⟩ | ⟨u1, u2, u3, u4⟩ <;> rcases view q hq hqk with ⟨s, v1, v2, v3, v4⟩ | ⟨v1, v2, v3, v4⟩
    · exact n4 p q r s k u1 v1 u2 v2 u3 v3
    · exact (cross p q r u1 u2 u3 v1 v2 v3 (by omega)).elim
    · exact (cross q p s v1 v2 v3 u1 u2 u3 (by omega)).elim
    · exact E.one p q k u2 v2 (by omega) u3 v3
  · have hp : (if p = pp then pp' else (N p).getD (W p)).live = true := hp
    have e0 : (if (0 : Int) = pp then pp' else (N 0).getD (W 0)).lv = (W 0).lv := by
      split
      case isTrue h => rw [b3, ← h]
      case isFalse => rw [N0]; rfl
    show (if p = pp then pp' else (N p).getD (W p)).lv ≤ (if (0 : Int) = pp then pp' else (N 0).getD (W 0)).lv
    rw [e0]
    by_cases hpp : p = pp
    · rw [if_pos hpp, b3]; exact E.top pp hppl
    · rw [if_neg hpp] at hp ⊢
      cases e : N p with
      | some r =>
        rw [e] at hp
        have := (n3 p r e hp).1
        have := E.top pp hppl
        show r.lv ≤ _
        omega
      | none =>
        rw [e] at hp
        exact E.top p hp
  · have hp : (if p = pp then pp' else (N p).getD (W p)).isLeaf = true := hp
    have hk : inB (if p = pp then pp' else (N p).getD (W p)).bd k = true := hk
    show valOf (if p = pp then pp' else (N p).getD (W p)) k = tb k
    by_cases hpp : p = pp
    · rw [if_pos hpp, b5] at hp; cases hp
    · rw [if_neg hpp] at hp hk ⊢
      cases e : N p with
      | some r =>
        rw [e] at hp hk
        have hl : r.live = true := by
          have hp : r.isLeaf = true := hp
          cases r with
          | leaf lo hi ks vs => rfl
          | inner lv lo hi ks ps => cases hp
          | free n => cases hp
        exact (n3 p r e hl).2.2.2.2 hp k hk
      | none =>
        rw [e] at hp hk
        exact E.tab p hp k hk
/-- the root's children become one page: the new root -/
theorem Exa.coll (E : Exa W tb x) {j : Rec} {N : Int → Option Rec} (hx : ∀ p, x = some p → N p ≠ none) (hr : (W 0).isLeaf = false) (b1 : j.okB = true) (b2 : j.bd = (none, none)) (b3 : j.lv = (W 0).lv - 1) (b4 : j.live = true) (b5 : sizeB 0 j = true)
    (b6 : ∀ c ∈ kidsOf j, ∃ d ∈ kidsOf (W 0), c ∈ kidsOf (W d.1)) (b7 : j.isLeaf = true → ∀ k, valOf j k = tb k) (n0 : ∀ c ∈ kidsOf (W 0), N c.1 ≠ none) (n1 : ∀ p, N p ≠ none → (W p).live = false ∨ ∃ c ∈ kidsOf (W 0), c.1 = p) (n2 : ∀ p r, N p = some r → r.live = false) :
    Exa (fun p => if p = 0 then j else (N p).getD (W p)) tb none := by
  have lvM : ∀ c ∈ kidsOf (W 0), (W c.1).live = true ∧ (W c.1).bd = c.2 ∧ (W c.1).lv = (W 0).lv - 1 := fun c hc => E.kids 0 c hc
  have all : ∀ k, ∃ c ∈ kidsOf (W 0), inB c.2 k = true := fun k => kids_all (E.ok 0) E.live0 hr (by rw [E.bd0]; rfl)
  -- live pages that are left
  have old : ∀ p, p ≠ 0 → ((N p).getD (W p)).live = true → N p = none ∧ (W p).live = true ∧ (W p).lv < (W 0).lv - 1 := fun p h0 h1 => by
    cases e : N p with
    | some r =>
      rw [e] at h1
      have h1 : r.live = true := h1
      rw [n2 p r e] at h1; cases h1
    | none =>
      rw [e] at h1
      refine ⟨rfl, h1, ?_⟩
      have t := E.top p h1
      obtain ⟨k, hk⟩ := rec_some (E.ok p)
      by_cases z : (W p).lv = (W 0).lv
      · exact absurd (E.one p 0 k h1 E.live0 z hk (by rw [E.bd0]; rfl)) h0
      · by_cases z2 : (W p).lv = (W 0).lv - 1
        · obtain ⟨c, hc, hck⟩ := all k
          obtain ⟨l1, l2, l3⟩ := lvM c hc
          have := E.one c.1 p k l1 h1 (by omega) (by rw [l2]; exact hck) hk
          exact absurd e (by rw [← this]; exact n0 c hc)
        · omega
  have free_ok : ∀ r : Rec, r.live = false → r.okB = true := fun r h => by
    cases r with
    | free n => rfl
    | leaf lo hi ks vs => cases h
    | inner lv lo hi ks ps => cases h
  refine ⟨b4, b2, fun p => ?_, fun p hp _ => ?_, fun p c hc => ?_, fun p q k hp hq hlv hpk hqk => ?_, fun p hp => ?_, fun p hp k hk => ?_⟩
  · show (if p = 0 then j else (N p).getD (W p)).okB = true
    split
    · exact b1
    · cases e : N p with
      | none => exact E.ok p
      | some r => exact free_ok r (n2 p r e)
  · have hp : (if p = 0 then j else (N p).getD (W p)).live = true := hp
    show sizeB p (if p = 0 then j else (N p).getD (W p)) = true
    by_cases h0 : p = 0
    · subst h0; rw [if_pos rfl]; exact b5
    · rw [if_neg h0] at hp ⊢
      obtain ⟨e, h1, _⟩ := old p h0 hp
      rw [e]
      exact E.size p h1 fun z => hx p z e
  · have hc : c ∈ kidsOf (if p = 0 then j else (N p).getD (W p)) := hc
    have main : ∀ q, c ∈ kidsOf (W q) → (W q).lv ≤ (W 0).lv - 1 → (if c.1 = 0 then j else (N c.1).getD (W c.1)).live = true ∧ (if c.1 = 0 then j else (N c.1).getD (W c.1)).bd = c.2 ∧ (if c.1 = 0 then j else (N c.1).getD (W c.1)).lv = (W q).lv - 1 := fun q hq hl => by
      obtain ⟨a1, a2, a3⟩ := E.kids q c hq
      have h0 : c.1 ≠ 0 := fun z => by rw [z] at a3; omega
      have hN : N c.1 = none := by
        cases e : N c.1 with
        | none => rfl
        | some r =>
          rcases n1 c.1 (by rw [e]; simp) with h | ⟨d, hd, h⟩
          · rw [a1] at h; cases h
          · have := (lvM d hd).2.2
            rw [h] at this
            omega
      rw [if_neg h0, hN]
      exact ⟨a1, a2, a3⟩
    show (if c.1 = 0 then j else (N c.1).getD (W c.1)).live = true ∧ (if c.1 = 0 then j else (N c.1).getD (W c.1)).bd = c.2 ∧ (if c.1 = 0 then j else (N c.1).getD (W c.1)).lv = (if p = 0 then j else (N p).getD (W p)).lv - 1
    by_cases h0 : p = 0
    · rw [if_pos h0] at hc
      obtain ⟨d, hd, hcd⟩ := b6 c hc
      have ld := (lvM d hd).2.2
      have m := main d.1 hcd (by omega)
      rw [if_pos h0, b3]
      rw [ld] at m
      exact m
    · rw [if_neg h0] at hc
      rw [if_neg h0]
      obtain ⟨e, h1, h2⟩ := old p h0 (kids_live hc).1
      rw [e] at hc ⊢
      exact main p hc (by omega)
  · have hlv : (if p = 0 then j else (N p).getD (W p)).lv = (if q = 0 then j else (N q).getD (W q)).lv := hlv
    have hp : (if p = 0 then j else (N p).getD (W p)).live = true := hp
    have hq : (if q = 0 then j else (N q).getD (W q)).live = true := hq
    have hpk : inB (if p = 0 then j else (N p).getD (W p)).bd k = true := hpk
    have hqk : inB (if q = 0 then j else (N q).getD (W q)).bd k = true := hqk
    by_cases h0 : p = 0 <;> by_cases h1 : q = 0
    · rw [h0, h1]
    · rw [if_neg h1] at hq hlv
      rw [if_pos h0, b3] at hlv
      obtain ⟨e, _, h3⟩ := old q h1 hq
      rw [e] at hlv
      have hlv : (W 0).lv - 1 = (W q).lv := hlv
      omega
    · rw [if_neg h0] at hp hlv
      rw [if_pos h1, b3] at hlv
      obtain ⟨e, _, h3⟩ := old p h0 hp
      rw [e] at hlv
      have hlv : (W p).lv = (W 0).lv - 1 := hlv
      omega
    · rw [if_neg h0] at hp hlv hpk
      rw [if_neg h1] at hq hlv hqk
      obtain ⟨e, g1, _⟩ := old p h0 hp
      obtain ⟨e', g2, _⟩ := old q h1 hq
      rw [e] at hpk hlv
      rw [e'] at hqk hlv
      exact E.one p q k g1 g2 hlv hpk hqk
  · have hp : (if p = 0 then j else (N p).getD (W p)).live = true := hp
    show (if p = 0 then j else (N p).getD (W p)).lv ≤ j.lv
    by_cases h0 : p = 0
    · rw [if_pos h0]; exact Int.le_refl _
    · rw [if_neg h0] at hp ⊢
      obtain ⟨e, _, h3⟩ := old p h0 hp
      rw [e, b3]
      show (W p).lv ≤ _
      omega
  · have hp : (if p = 0 then j else (N p).getD (W p)).isLeaf = true := hp
    have hk : inB (if p = 0 then j else (N p).getD (W p)).bd k = true := hk
    show valOf (if p = 0 then j else (N p).getD (W p)) k = tb k
    by_cases h0 : p = 0
    · rw [if_pos h0] at hp ⊢
      exact b7 hp k
    · rw [if_neg h0] at hp hk ⊢
      cases e : N p with
      | some r =>
        rw [e] at hp
        have hp : r.isLeaf = true := hp
        have := n2 p r e
        cases r with
        | leaf lo hi ks vs => cases this
        | inner lv lo hi ks ps => cases hp
        | free n => cases hp
      | none =>
        rw [e] at hp hk
        exact E.tab p hp k hk
end
end Esp

/-! Plain law, part 3: root cut, leaf change, other names of pages. -/
namespace Esp
open PySem L2 PyProof.Rows PySem.Spec
section
variable {W : Int → Rec} {tb tb' : Int → Option Int} {x : Option Int}
theorem live_leaf {r : Rec} (h : r.isLeaf = true) : r.live = true ∧ r.lv = 0 ∧ kidsOf r = [] := by
  cases r with
  | leaf lo hi ks vs => exact ⟨rfl, rfl, rfl⟩
  | inner lv lo hi ks ps => cases h
  | free n => cases h
theorem Exa.rootcut (E : Exa W tb (some 0)) {r0 : Rec} {N : Int → Option Rec} (c1 : r0.okB = true) (c2 : r0.live = true) (c3 : r0.isLeaf = false) (c4 : r0.bd = (none, none)) (c5 : r0.lv = (W 0).lv + 1) (c6 : sizeB 0 r0 = true) (n1 : ∀ p, N p ≠ none → (W p).live = false) (n2 : ∀ p r, N p = some r → r.okB = true)
    (n3 : ∀ p r, N p = some r → r.live = true → r.lv = (W 0).lv ∧ sizeB p r = true ∧ (∀ c ∈ kidsOf r, c ∈ kidsOf (W 0)) ∧ (r.isLeaf = true → ∀ k, inB r.bd k = true → valOf r k = tb k))
    (n4 : ∀ p q r s k, N p = some r → N q = some s → r.live = true → s.live = true → inB r.bd k = true → inB s.bd k = true → p = q) (n5 : ∀ c ∈ kidsOf r0, ∃ r, N c.1 = some r ∧ r.live = true ∧ r.bd = c.2) :
    Exa (fun p => if p = 0 then r0 else (N p).getD (W p)) tb none := by
  have Nl : ∀ p, (W p).live = true → N p = none := fun p h => by
    cases e : N p with
    | none => rfl
    | some r => rw [n1 p (by rw [e]; simp)] at h; cases h
  have N0 : N 0 = none := Nl 0 E.live0
  have all0 : ∀ k, inB (W 0).bd k = true := fun k => by rw [E.bd0]; rfl
  have old : ∀ p, p ≠ 0 → ((N p).getD (W p)).live = true → (∃ r, N p = some r ∧ r.live = true) ∨ (N p = none ∧ (W p).live = true ∧ (W p).lv < (W 0).lv) := fun p h0 h1 => by
    cases e : N p with
    | some r => rw [e] at h1; exact .inl ⟨r, rfl, h1⟩
    | none =>
      rw [e] at h1
      have h1 : (W p).live = true := h1
      refine .inr ⟨rfl, h1, ?_⟩
      have t := E.top p h1
      obtain ⟨k, hk⟩ := rec_some (E.ok p)
      by_cases z : (W p).lv = (W 0).lv
      · exact absurd (E.one p 0 k h1 E.live0 z hk (all0 k)) h0
      · omega
  have lvo : ∀ p, p ≠ 0 → ((N p).getD (W p)).live = true → ((N p).getD (W p)).lv ≤ (W 0).lv := fun p h0 h1 => by
    rcases old p h0 h1 with ⟨r, e, h⟩ | ⟨e, _, h⟩
    · rw [e]; exact Int.le_of_eq (n3 p r e h).1
    · rw [e]; exact Int.le_of_lt h
  refine ⟨c2, c4, fun p => ?_, fun p hp _ => ?_, fun p c hc => ?_, fun p q k hp hq hlv hpk hqk => ?_, fun p hp => ?_, fun p hp k hk => ?_⟩
  · show (if p = 0 then r0 else (N p).getD (W p)).okB = true
    split
    · exact c1
    · cases e : N p with
      | none => exact E.ok p
      | some r => exact n2 p r e
  · have hp : (if p = 0 then r0 else (N p).getD (W p)).live = true := hp
    show sizeB p (if p = 0 then r0 else (N p).getD (W p)) = true
    by_cases h0 : p = 0
    · subst h0; rw [if_pos rfl]; exact c6
    · rw [if_neg h0] at hp ⊢
      rcases old p h0 hp with ⟨r, e, h⟩ | ⟨e, h, _⟩
      · rw [e]; exact (n3 p r e h).2.1
      · rw [e]; exact E.size p h fun z => h0 (Option.some.inj z).symm
  · have hc : c ∈ kidsOf (if p = 0 then r0 else (N p).getD (W p)) := hc
    have main : ∀ q, c ∈ kidsOf (W q) → (if c.1 = 0 then r0 else (N c.1).getD (W c.1)).live = true ∧ (if c.1 = 0 then r0 else (N c.1).getD (W c.1)).bd = c.2 ∧ (if c.1 = 0 then r0 else (N c.1).getD (W c.1)).lv = (W q).lv - 1 := fun q hq => by
      obtain ⟨a1, a2, a3⟩ := E.kids q c hq
      have := E.top q (kids_live hq).1
      have h0 : c.1 ≠ 0 := fun z => by rw [z] at a3; omega
      rw [if_neg h0, Nl c.1 a1]
      exact ⟨a1, a2, a3⟩
    show (if c.1 = 0 then r0 else (N c.1).getD (W c.1)).live = true ∧ (if c.1 = 0 then r0 else (N c.1).getD (W c.1)).bd = c.2 ∧ (if c.1 = 0 then r0 else (N c.1).getD (W c.1)).lv = (if p = 0 then r0 else (N p).getD (W p)).lv - 1
    by_cases h0 : p = 0
    · rw [if_pos h0] at hc
      rw [if_pos h0]
      obtain ⟨r, r1, r2, r3⟩ := n5 c hc
      have h1 : c.1 ≠ 0 := fun z => by rw [z, N0] at r1; cases r1
      rw [if_neg h1, r1, c5]
      refine ⟨r2, r3, ?_⟩
      show r.lv = _
      rw [(n3 c.1 r r1 r2).1]
      omega
    · rw [if_neg h0] at hc
      rw [if_neg h0]
      rcases old p h0 (kids_live hc).1 with ⟨r, e, h⟩ | ⟨e, h, _⟩
      · rw [e] at hc ⊢
        have m := main 0 ((n3 p r e h).2.2.1 c hc)
        rw [← (n3 p r e h).1] at m
        exact m
      · rw [e] at hc ⊢
        exact main p hc
  · have hlv : (if p = 0 then r0 else (N p).getD (W p)).lv = (if q = 0 then r0 else (N q).getD (W q)).lv := hlv
    have hp : (if p = 0 then r0 else (N p).getD (W p)).live = true := hp
    have hq : (if q = 0 then r0 else (N q).getD (W q)).live = true := hq
    have hpk : inB (if p = 0 then r0 else (N p).getD (W p)).bd k = true := hpk
    have hqk : inB (if q = 0 then r0 else (N q).getD (W q)).bd k = true := hqk
    by_cases h0 : p = 0 <;> by_cases h1 : q = 0
    · rw [h0, h1]
    · rw [if_neg h1] at hq hlv
      rw [if_pos h0, c5] at hlv
      have := lvo q h1 hq
      omega
    · rw [if_neg h0] at hp hlv
      rw [if_pos h1, c5] at hlv
      have := lvo p h0 hp
      omega
    · rw [if_neg h0] at hp hlv hpk
      rw [if_neg h1] at hq hlv hqk
      rcases old p h0 hp with ⟨r, e, h⟩ | ⟨e, h, h'⟩ <;> rcases old q h1 hq with ⟨s, f, g⟩ | ⟨f, g, g'⟩
      · rw [e] at hpk
        rw [f] at hqk
        exact n4 p q r s k e f h g hpk hqk
      · rw [e, f] at hlv
        have z := (n3 p r e h).1
        have hlv : r.lv = (W q).lv := hlv
        omega
      · rw [e, f] at hlv
        have z := (n3 q s f g).1
        have hlv : (W p).lv = s.lv := hlv
        omega
      · rw [e] at hpk hlv
        rw [f] at hqk hlv
        exact E.one p q k h g hlv hpk hqk
  · have hp : (if p = 0 then r0 else (N p).getD (W p)).live = true := hp
    show (if p = 0 then r0 else (N p).getD (W p)).lv ≤ r0.lv
    by_cases h0 : p = 0
    · rw [if_pos h0]; exact Int.le_refl _
    · rw [if_neg h0] at hp ⊢
      have := lvo p h0 hp
      omega
  · have hp : (if p = 0 then r0 else (N p).getD (W p)).isLeaf = true := hp
    have hk : inB (if p = 0 then r0 else (N p).getD (W p)).bd k = true := hk
    show valOf (if p = 0 then r0 else (N p).getD (W p)) k = tb k
    by_cases h0 : p = 0
    · rw [if_pos h0, c3] at hp; cases hp
    · rw [if_neg h0] at hp hk ⊢
      cases e : N p with
      | some r =>
        rw [e] at hp hk
        exact (n3 p r e (live_leaf hp).1).2.2.2 hp k hk
      | none =>
        rw [e] at hp hk
        exact E.tab p hp k hk
/-- a leaf gets another content -/
theorem Exa.leaf (E : Exa W tb none) {q : Int} {r : Rec} (hq : (W q).isLeaf = true) (h1 : r.isLeaf = true) (h2 : r.okB = true) (h3 : r.bd = (W q).bd) (v1 : ∀ k, inB r.bd k = true → valOf r k = tb' k) (v2 : ∀ k, inB r.bd k = false → tb' k = tb k) : Exa (up W q r) tb' (some q) := by
  obtain ⟨l1, l2, l3⟩ := live_leaf hq
  obtain ⟨m1, m2, m3⟩ := live_leaf h1
  have e : ∀ p, (up W q r p).live = (W p).live ∧ (up W q r p).bd = (W p).bd ∧ (up W q r p).lv = (W p).lv ∧ kidsOf (up W q r p) = kidsOf (W p) := fun p => by
    by_cases z : p = q
    · rw [z, up_same]; exact ⟨by rw [m1, l1], h3, by rw [m2, l2], by rw [m3, l3]⟩
    · rw [up_ne z]; exact ⟨rfl, rfl, rfl, rfl⟩
  refine ⟨by rw [(e 0).1]; exact E.live0, by rw [(e 0).2.1]; exact E.bd0, fun p => ?_, fun p hp hx => ?_, fun p c hc => ?_, fun p p' k a1 a2 a3 a4 a5 => ?_, fun p hp => ?_, fun p hp k hk => ?_⟩
  · by_cases z : p = q
    · rw [z, up_same]; exact h2
    · rw [up_ne z]; exact E.ok p
  · have z : p ≠ q := fun z => hx (by rw [z])
    rw [(e p).1] at hp
    rw [up_ne z]
    exact E.size p hp (by simp)
  · rw [(e p).2.2.2] at hc
    rw [(e c.1).1, (e c.1).2.1, (e c.1).2.2.1, (e p).2.2.1]
    exact E.kids p c hc
  · rw [(e p).1] at a1
    rw [(e p').1] at a2
    rw [(e p).2.2.1, (e p').2.2.1] at a3
    rw [(e p).2.1] at a4
    rw [(e p').2.1] at a5
    exact E.one p p' k a1 a2 a3 a4 a5
  · rw [(e p).1] at hp
    rw [(e p).2.2.1, (e 0).2.2.1]
    exact E.top p hp
  · by_cases z : p = q
    · rw [z, up_same] at hk ⊢
      exact v1 k hk
    · rw [up_ne z] at hp hk ⊢
      rw [E.tab p hp k hk]
      cases g : inB r.bd k with
      | false => exact (v2 k g).symm
      | true =>
        have hl := live_leaf hp
        exact absurd (E.one p q k hl.1 l1 (by rw [hl.2.1, l2]) hk (by rw [← h3]; exact g)) z
theorem Exa.done {p : Int} (E : Exa W tb (some p)) (h : sizeB p (W p) = true) : Exa W tb none := by
  refine ⟨E.live0, E.bd0, E.ok, fun q hq _ => ?_, E.kids, E.one, E.top, E.tab⟩
  by_cases z : q = p
  · rw [z]; exact h
  · exact E.size q hq fun w => z (Option.some.inj w).symm
/-! ### other names -/
def renP (ρ : Int → Int) : Rec → Rec
  | .inner lv lo hi ks ps => .inner lv lo hi ks (ps.map ρ)
  | r => r
theorem kidsL_map (ρ : Int → Int) : ∀ (ks ps : List Int) (lo hi : Option Int), kidsL lo hi ks (ps.map ρ) = (kidsL lo hi ks ps).map fun c => (ρ c.1, c.2)
  | [], [], _, _ => rfl
  | [], p :: ps, _, _ => rfl
  | k :: ks, [], _, _ => rfl
  | k :: ks, p :: ps, lo, hi => by
    show (ρ p, (lo, some k)) :: kidsL (some k) hi ks (ps.map ρ) = _
    rw [kidsL_map ρ ks ps]
    rfl
theorem renP_same (ρ : Int → Int) (r : Rec) : (renP ρ r).live = r.live ∧ (renP ρ r).bd = r.bd ∧ (renP ρ r).lv = r.lv ∧ (renP ρ r).isLeaf = r.isLeaf ∧ (∀ k, valOf (renP ρ r) k = valOf r k) ∧ kidsOf (renP ρ r) = (kidsOf r).map (fun c => (ρ c.1, c.2)) ∧ (renP ρ r).okB = r.okB := by
  cases r with
  | leaf lo hi ks vs => exact ⟨rfl, rfl, rfl, rfl, fun _ => rfl, rfl, rfl⟩
  | free n => exact ⟨rfl, rfl, rfl, rfl, fun _ => rfl, rfl, rfl⟩
  | inner lv lo hi ks ps => exact ⟨rfl, rfl, rfl, rfl, fun _ => rfl, kidsL_map ρ ks ps lo hi, by simp [renP, Rec.okB]⟩
theorem sizeB_ren {ρ : Int → Int} {p : Int} {r : Rec} (h : ρ p = 0 ↔ p = 0) (hs : sizeB p r = true) : sizeB (ρ p) (renP ρ r) = true := by
  cases r with
  | leaf lo hi ks vs =>
    unfold sizeB at hs
    show (((decide (ρ p = 0) || decide (2 ≤ vs.length)) && decide (vs.length ≤ 4)) = true)
    rw [show decide (ρ p = 0) = decide (p = 0) from decide_eq_decide.mpr h]
    exact hs
  | free n => cases hs
  | inner lv lo hi ks ps =>
    unfold sizeB at hs
    show ((decide (2 ≤ (ps.map ρ).length) && decide ((ps.map ρ).length ≤ 5)) = true)
    rw [List.length_map]
    exact hs
theorem Exa.ren {V W' : Int → Rec} (E : Exa V tb none) (ρ : Int → Int) (h0 : ρ 0 = 0) (inj : ∀ p q, (V p).live = true → (V q).live = true → ρ p = ρ q → p = q) (hW : ∀ p, (V p).live = true → W' (ρ p) = renP ρ (V p)) (hl : ∀ q, (W' q).live = true → ∃ p, (V p).live = true ∧ q = ρ p) : Exa W' tb none := by
  have hW0 : W' 0 = renP ρ (V 0) := by
    have := hW 0 E.live0
    rw [h0] at this
    exact this
  have z0 := renP_same ρ (V 0)
  have hlf : ∀ q, (W' q).isLeaf = true → (W' q).live = true := fun q h => (live_leaf h).1
  refine ⟨by rw [hW0, z0.1]; exact E.live0, by rw [hW0, z0.2.1]; exact E.bd0, fun q => ?_, fun q hq _ => ?_, fun q c hc => ?_, fun q q' k a1 a2 a3 a4 a5 => ?_, fun q hq => ?_, fun q hq k hk => ?_⟩
  · cases e : (W' q).live with
    | true =>
      obtain ⟨p, hp, rfl⟩ := hl q e
      rw [hW p hp, (renP_same ρ (V p)).2.2.2.2.2.2]
      exact E.ok p
    | false =>
      cases e2 : W' q with
      | free n => rfl
      | leaf lo hi ks vs => rw [e2] at e; cases e
      | inner lv lo hi ks ps => rw [e2] at e; cases e
  · obtain ⟨p, hp, rfl⟩ := hl q hq
    rw [hW p hp]
    refine sizeB_ren ⟨fun z => inj p 0 hp E.live0 (by rw [z, h0]), fun z => by rw [z, h0]⟩ (E.size p hp (by simp))
  · obtain ⟨p, hp, rfl⟩ := hl q (kids_live hc).1
    rw [hW p hp] at hc ⊢
    have zp := renP_same ρ (V p)
    rw [zp.2.2.2.2.2.1] at hc
    obtain ⟨d, hd, rfl⟩ := List.mem_map.mp hc
    obtain ⟨k1, k2, k3⟩ := E.kids p d hd
    show (W' (ρ d.1)).live = true ∧ (W' (ρ d.1)).bd = d.2 ∧ (W' (ρ d.1)).lv = (renP ρ (V p)).lv - 1
    rw [hW d.1 k1]
    have zd := renP_same ρ (V d.1)
    rw [zd.1, zd.2.1, zd.2.2.1, zp.2.2.1]
    exact ⟨k1, k2, k3⟩
  · obtain ⟨p, hp, rfl⟩ := hl q a1
    obtain ⟨p', hp', rfl⟩ := hl q' a2
    rw [hW p hp, hW p' hp'] at a3
    rw [hW p hp] at a4
    rw [hW p' hp'] at a5
    have zp := renP_same ρ (V p)
    have zp' := renP_same ρ (V p')
    rw [zp.2.2.1, zp'.2.2.1] at a3
    rw [zp.2.1] at a4
    rw [zp'.2.1] at a5
    rw [E.one p p' k hp hp' a3 a4 a5]
  · obtain ⟨p, hp, rfl⟩ := hl q hq
    rw [hW p hp, hW0, (renP_same ρ (V p)).2.2.1, z0.2.2.1]
    exact E.top p hp
  · obtain ⟨p, hp, rfl⟩ := hl q (hlf q hq)
    rw [hW p hp] at hq hk ⊢
    have zp := renP_same ρ (V p)
    rw [zp.2.2.2.1] at hq
    rw [zp.2.1] at hk
    rw [zp.2.2.2.2.1]
    exact E.tab p hq k hk
end
end Esp

/-! Plain law, part 4: what cut, join and the parent's changes do. -/
namespace Esp
open PySem L2 PyProof.Rows PySem.Spec

structure CutF (r a : Rec) (m : Int) (b : Rec) : Prop where
  eq : cutR r = some (a, m, b)
  oka : a.okB = true
  okb : b.okB = true
  la : a.live = true
  lb : b.live = true
  lva : a.lv = r.lv
  lvb : b.lv = r.lv
  bda : a.bd = (r.bd.1, some m)
  bdb : b.bd = (some m, r.bd.2)
  kids : kidsOf r = kidsOf a ++ kidsOf b
  lfa : a.isLeaf = r.isLeaf
  lfb : b.isLeaf = r.isLeaf
  va : ∀ k, inB a.bd k = true → valOf a k = valOf r k
  vb : ∀ k, inB b.bd k = true → valOf b k = valOf r k
  sza : ∀ p, sizeB p a = true
  szb : ∀ p, sizeB p b = true
  gt : gtB m r.bd.1 = true
  lt : belowB m r.bd.2 = true
theorem at_split {l : List Int} {i : Nat} (h : i < l.length) : l = l.take i ++ l[i] :: l.drop (i + 1) := by
  rw [← List.drop_eq_getElem_cons h, List.take_append_drop]
theorem cut_spec {r : Rec} (o : r.okB = true) (hl : r.live = true) (hs : r.size = mostOf r + 1) : ∃ a m b, CutF r a m b := by
  cases r with
  | free n => cases hl
  | leaf lo hi ks vs =>
    have hs : vs.length = 5 := hs
    obtain ⟨o1, o2, o3⟩ := okL_iff.mp o
    have h3 : 3 < ks.length := by omega
    have sp := at_split h3
    generalize hm : ks[3] = m at sp
    have hA : (ks.take 3).length = 3 := by rw [List.length_take]; omega
    have hB : (ks.drop (3 + 1)).length = 1 := by rw [List.length_drop]; omega
    have hd : ks.drop 3 = m :: ks.drop (3 + 1) := by rw [List.drop_eq_getElem_cons h3, hm]
    have e2 : ks[3]? = some m := by rw [List.getElem?_eq_getElem h3, hm]
    have o3' := o3
    rw [sp] at o3'
    obtain ⟨p1, p2, p3, p4⟩ := okL_split (A := ks.take 3) (B := ks.drop (3 + 1)) (m := m) (by intro z; rw [z] at hA; cases hA) o3'
    have hVA : (vs.take 3).length = 3 := by rw [List.length_take]; omega
    have hVB : (vs.drop 3).length = 2 := by rw [List.length_drop]; omega
    have val : ∀ k, valIn ks vs k = (valIn (ks.take 3) (vs.take 3) k).or (valIn (ks.drop 3) (vs.drop 3) k) := fun k => by
      rw [← valIn_append (by rw [hA, hVA]), List.take_append_drop, List.take_append_drop]
    refine ⟨.leaf lo (some m) (ks.take 3) (vs.take 3), m, .leaf (some m) hi (ks.drop 3) (vs.drop 3), ?_, ?_, ?_, rfl, rfl, rfl, rfl, rfl, rfl, rfl, rfl, rfl, fun k hk => ?_, fun k hk => ?_, fun p => ?_, fun p => ?_, p3, p4⟩
    · show (match ks[(vs.length + 1) / 2]? with
        | some s => some (Rec.leaf lo (some s) (ks.take ((vs.length + 1) / 2)) (vs.take ((vs.length + 1) / 2)), s, Rec.leaf (some s) hi (ks.drop ((vs.length + 1) / 2)) (vs.drop ((vs.length + 1) / 2)))
        | none => none) = _
      rw [hs, show (5 + 1) / 2 = 3 from rfl, e2]
    · exact okL_iff.mpr ⟨by rw [hA, hVA], by omega, p1⟩
    · refine okL_iff.mpr ⟨by rw [hd, List.length_cons, hB, hVB], by rw [hd, List.length_cons, hB]; omega, ?_⟩
      rw [hd]; exact p2
    · show valIn (ks.take 3) (vs.take 3) k = valIn ks vs k
      have hk : k < m := (inB_iff.mp hk).2 m rfl
      rw [val, valIn_no (ks := ks.drop 3), Option.or_none]
      rw [hd]
      intro z
      have := abB_iff.mp (p2.2.2 k z).1 m rfl
      omega
    · show valIn (ks.drop 3) (vs.drop 3) k = valIn ks vs k
      have hk : m ≤ k := (inB_iff.mp hk).1 m rfl
      rw [val, valIn_no (ks := ks.take 3), Option.none_or]
      intro z
      have := beB_iff.mp (p1.2.2 k z).2 m rfl
      omega
    · show ((decide (p = 0) || decide (2 ≤ (vs.take 3).length)) && decide ((vs.take 3).length ≤ 4)) = true
      rw [hVA]; simp
    · show ((decide (p = 0) || decide (2 ≤ (vs.drop 3).length)) && decide ((vs.drop 3).length ≤ 4)) = true
      rw [hVB]; simp
  | inner lv lo hi ks ps =>
    obtain ⟨o0, o1, o2, o3⟩ := okI_iff.mp o
    have hs : ps.length = 6 := by
      have hs : ps.length = mostOf (.inner lv lo hi ks ps) + 1 := hs
      unfold mostOf at hs
      rw [if_neg (show ¬ (Rec.inner lv lo hi ks ps).lv = 0 by show ¬ lv = 0; omega)] at hs
      exact hs
    have h3 : 2 < ks.length := by omega
    have sp := at_split h3
    generalize hm : ks[2] = m at sp
    have hA : (ks.take 2).length = 2 := by rw [List.length_take]; omega
    have hB : (ks.drop (2 + 1)).length = 2 := by rw [List.length_drop]; omega
    have e2 : ks[2]? = some m := by rw [List.getElem?_eq_getElem h3, hm]
    have o3' := o3
    rw [sp] at o3'
    obtain ⟨p1, p2⟩ := okI_split.mp o3'
    have hP : (ps.take 3).length = 3 := by rw [List.length_take]; omega
    have hQ : (ps.drop 3).length = 3 := by rw [List.length_drop]; omega
    have hmm := o3'.2.2 m (by simp)
    refine ⟨.inner lv lo (some m) (ks.take 2) (ps.take 3), m, .inner lv (some m) hi (ks.drop (2 + 1)) (ps.drop 3), ?_, ?_, ?_, rfl, rfl, rfl, rfl, rfl, rfl, ?_, rfl, rfl, fun k hk => rfl, fun k hk => rfl, fun p => ?_, fun p => ?_, hmm.1, hmm.2⟩
    · show (match ks[(ps.length + 1) / 2 - 1]? with
        | some s => some (Rec.inner lv lo (some s) (ks.take ((ps.length + 1) / 2 - 1)) (ps.take ((ps.length + 1) / 2)), s, Rec.inner lv (some s) hi (ks.drop ((ps.length + 1) / 2)) (ps.drop ((ps.length + 1) / 2)))
        | none => none) = _
      rw [hs, show (6 + 1) / 2 = 3 from rfl, show 3 - 1 = 2 from rfl, e2]
    · exact okI_iff.mpr ⟨o0, by rw [hA, hP], by omega, p1⟩
    · exact okI_iff.mpr ⟨o0, by rw [hB, hQ], by omega, p2⟩
    · show kidsL lo hi ks ps = kidsL lo (some m) (ks.take 2) (ps.take 3) ++ kidsL (some m) hi (ks.drop (2 + 1)) (ps.drop 3)
      rw [← kids_append (by rw [hP, hA]), ← sp, List.take_append_drop]
    · show (decide (2 ≤ (ps.take 3).length) && decide ((ps.take 3).length ≤ 5)) = true
      rw [hP]; rfl
    · show (decide (2 ≤ (ps.drop 3).length) && decide ((ps.drop 3).length ≤ 5)) = true
      rw [hQ]; rfl
structure JoinF (l : Rec) (m : Int) (r : Rec) : Prop where
  ok : (joinR l m r).okB = true
  live : (joinR l m r).live = true
  lf : (joinR l m r).isLeaf = l.isLeaf
  lv : (joinR l m r).lv = l.lv
  bd : (joinR l m r).bd = (l.bd.1, r.bd.2)
  kids : kidsOf (joinR l m r) = kidsOf l ++ kidsOf r
  size : (joinR l m r).size = l.size + r.size
  vl : ∀ k, inB l.bd k = true → valOf (joinR l m r) k = valOf l k
  vr : ∀ k, inB r.bd k = true → valOf (joinR l m r) k = valOf r k
theorem join_spec {l r : Rec} {m : Int} (ol : l.okB = true) (or' : r.okB = true) (hl : l.live = true) (hr : r.live = true) (hlv : l.lv = r.lv) (h1 : l.bd.2 = some m) (h2 : r.bd.1 = some m) (hs : l.size + r.size ≤ 20) : JoinF l m r := by
  have el := leaf_of ol hl
  have er := leaf_of or' hr
  rw [hlv, ← er] at el
  cases l with
  | free n => cases hl
  | leaf lo hi ks vs =>
    cases r with
    | free n => cases hr
    | inner lv lo' hi' ks' ps' => cases el
    | leaf lo' hi' ks' vs' =>
      obtain ⟨a1, a2, a3⟩ := okL_iff.mp ol
      obtain ⟨b1, b2, b3⟩ := okL_iff.mp or'
      have h1 : hi = some m := h1
      have h2 : lo' = some m := h2
      subst h1 h2
      have hs : vs.length + vs'.length ≤ 20 := hs
      refine ⟨okL_iff.mpr ⟨by rw [List.length_append, List.length_append]; omega, by rw [List.length_append]; omega, okL_join a3 b3⟩, rfl, rfl, rfl, rfl, rfl, List.length_append, fun k hk => ?_, fun k hk => ?_⟩
      · show valIn (ks ++ ks') (vs ++ vs') k = valIn ks vs k
        have hk : k < m := (inB_iff.mp hk).2 m rfl
        rw [valIn_append a1, valIn_no (ks := ks'), Option.or_none]
        intro z
        have := abB_iff.mp (b3.2.2 k z).1 m rfl
        omega
      · show valIn (ks ++ ks') (vs ++ vs') k = valIn ks' vs' k
        have hk : m ≤ k := (inB_iff.mp hk).1 m rfl
        rw [valIn_append a1, valIn_no (ks := ks), Option.none_or]
        intro z
        have := beB_iff.mp (a3.2.2 k z).2 m rfl
        omega
  | inner lv lo hi ks ps =>
    cases r with
    | free n => cases hr
    | leaf lo' hi' ks' vs' => cases el
    | inner lv' lo' hi' ks' ps' =>
      obtain ⟨a0, a1, a2, a3⟩ := okI_iff.mp ol
      obtain ⟨b0, b1, b2, b3⟩ := okI_iff.mp or'
      have h1 : hi = some m := h1
      have h2 : lo' = some m := h2
      subst h1 h2
      have hs : ps.length + ps'.length ≤ 20 := hs
      have e : ks ++ [m] ++ ks' = ks ++ m :: ks' := by rw [List.append_assoc]; rfl
      refine ⟨okI_iff.mpr ⟨a0, ?_, ?_, ?_⟩, rfl, rfl, rfl, rfl, ?_, List.length_append, fun k hk => rfl, fun k hk => rfl⟩
      · rw [e, List.length_append, List.length_append, List.length_cons]; omega
      · rw [e, List.length_append, List.length_cons]; omega
      · rw [e]; exact okI_split.mpr ⟨a3, b3⟩
      · show kidsL lo hi' (ks ++ [m] ++ ks') (ps ++ ps') = kidsL lo (some m) ks ps ++ kidsL (some m) hi' ks' ps'
        rw [e]; exact kids_append a1
/-! ### the parent -/
theorem okI_ins : ∀ {A B : List Int} {lo hi : Option Int} {m : Int}, OkI lo hi (A ++ B) → gtB m (childB lo hi (A ++ B) A.length).1 = true → belowB m (childB lo hi (A ++ B) A.length).2 = true → OkI lo hi (A ++ m :: B)
  | [], B, lo, hi, m, h, h1, h2 => by
    have h : OkI lo hi B := h
    rw [show (childB lo hi ([] ++ B) ([] : List Int).length).1 = lo by simp [childB]] at h1
    have hx : ∀ x ∈ B, m < x ∧ belowB x hi = true := by
      intro x hx
      refine ⟨?_, (h.2.2 x hx).2⟩
      cases B with
      | nil => cases hx
      | cons b B =>
        have hb : m < b := by
          have e : (childB lo hi ([] ++ b :: B) ([] : List Int).length).2 = some b := by simp [childB]
          rw [e] at h2
          exact of_decide_eq_true h2
        rcases List.mem_cons.mp hx with rfl | hx
        · exact hb
        · exact Int.lt_trans hb ((List.pairwise_cons.mp h.2.1).1 x hx)
    have hm : belowB m hi = true := by
      cases B with
      | nil => simpa [childB] using h2
      | cons b B =>
        rw [beB_iff]
        intro y hy
        have h3 := hx b List.mem_cons_self
        have := beB_iff.mp h3.2 y hy
        omega
    refine (okI_split (A := [])).mpr ⟨⟨lohi_iff.mpr fun l y e1 e2 => ?_, List.Pairwise.nil, fun k hk => nomatch hk⟩, ⟨lohi_iff.mpr fun l y e1 e2 => ?_, h.2.1, fun k hk => ⟨gtB_iff.mpr fun l e => ?_, (hx k hk).2⟩⟩⟩
    · cases e2; exact gtB_iff.mp h1 l e1
    · cases e1; exact beB_iff.mp hm y e2
    · cases e; exact (hx k hk).1
  | a :: A, B, lo, hi, m, h, h1, h2 => by
    obtain ⟨s1, s2⟩ := (okI_split (A := []) (B := A ++ B) (m := a)).mp h
    rw [List.cons_append, List.length_cons, childB_succ] at h1 h2
    have ih := okI_ins (A := A) (B := B) (m := m) s2 h1 h2
    exact (okI_split (A := []) (B := A ++ m :: B) (m := a)).mpr ⟨s1, ih⟩
theorem okI_del {A B : List Int} {lo hi : Option Int} {m : Int} (h : OkI lo hi (A ++ m :: B)) : OkI lo hi (A ++ B) := by
  refine ⟨h.1, ?_, fun k hk => h.2.2 k ?_⟩
  · have := h.2.1
    rw [List.pairwise_append, List.pairwise_cons] at this
    rw [List.pairwise_append]
    exact ⟨this.1, this.2.1.2, fun a ha b hb => this.2.2 a ha b (List.mem_cons_of_mem _ hb)⟩
  · rcases List.mem_append.mp hk with h | h
    · exact List.mem_append_left _ h
    · exact List.mem_append_right _ (List.mem_cons_of_mem _ h)
theorem childB_mid {A B : List Int} {lo hi : Option Int} {s : Int} : childB lo hi (A ++ s :: B) A.length = ((childB lo hi (A ++ B) A.length).1, some s) ∧ childB lo hi (A ++ s :: B) (A.length + 1) = (some s, (childB lo hi (A ++ B) A.length).2) := by
  constructor
  · unfold childB
    have e1 : (if A.length < (A ++ s :: B).length then (A ++ s :: B)[A.length]? else hi) = some s := by
      rw [if_pos (by rw [List.length_append, List.length_cons]; omega), List.getElem?_append_right (Nat.le_refl _)]
      simp
    rw [e1]
    congr 1
    by_cases h : 0 < A.length
    · rw [if_pos h, if_pos h, List.getElem?_append_left (by omega), List.getElem?_append_left (by omega)]
    · rw [if_neg h, if_neg h]
  · unfold childB
    have e1 : (if 0 < A.length + 1 then (A ++ s :: B)[A.length + 1 - 1]? else lo) = some s := by
      rw [if_pos (Nat.succ_pos _), Nat.add_sub_cancel, List.getElem?_append_right (Nat.le_refl _)]
      simp
    rw [e1]
    refine Prod.ext rfl ?_
    show (if A.length + 1 < (A ++ s :: B).length then (A ++ s :: B)[A.length + 1]? else hi) = (if A.length < (A ++ B).length then (A ++ B)[A.length]? else hi)
    by_cases h : 0 < B.length
    · rw [if_pos (by rw [List.length_append, List.length_cons]; omega), if_pos (by rw [List.length_append]; omega), List.getElem?_append_right (by omega), List.getElem?_append_right (by omega)]
      rw [show A.length + 1 - A.length = 1 by omega, Nat.sub_self]
      simp
    · rw [if_neg (by rw [List.length_append, List.length_cons]; omega), if_neg (by rw [List.length_append]; omega)]
/-- the parent gets a child behind the child at pl -/
theorem wChild_spec {lv : Int} {lo hi : Option Int} {ks ps : List Int} {pl : Nat} {q m : Int} (o : (Rec.inner lv lo hi ks ps).okB = true) (hs : ps.length ≤ 40) (hq : ps[pl]? = some q) (h1 : gtB m (childB lo hi ks pl).1 = true) (h2 : belowB m (childB lo hi ks pl).2 = true) :
    ∃ X Y, kidsL lo hi ks ps = X ++ [(q, childB lo hi ks pl)] ++ Y ∧ ∀ n, (wChild lv lo hi ks ps pl m n).okB = true ∧ kidsOf (wChild lv lo hi ks ps pl m n) = X ++ [(q, ((childB lo hi ks pl).1, some m)), (n, (some m, (childB lo hi ks pl).2))] ++ Y := by
  obtain ⟨o0, o1, o2, o3⟩ := okI_iff.mp o
  have hpl : pl < ps.length := (List.getElem?_eq_some_iff.mp hq).1
  have hq' : ps[pl] = q := by rw [List.getElem?_eq_getElem hpl] at hq; exact Option.some.inj hq
  have sp : ps = ps.take pl ++ q :: ps.drop (pl + 1) := by rw [← hq']; exact at_split hpl
  have sk : ks = ks.take pl ++ ks.drop pl := (List.take_append_drop pl ks).symm
  have lA : (ks.take pl).length = pl := by rw [List.length_take]; omega
  have lP : (ps.take pl).length = pl := by rw [List.length_take]; omega
  have lB : (ks.drop pl).length = ks.length - pl := List.length_drop
  have lQ : (ps.drop (pl + 1)).length = ps.length - (pl + 1) := List.length_drop
  obtain ⟨X, Y, h⟩ := kids_mid (A := ks.take pl) (P := ps.take pl) (B := ks.drop pl) (Q := ps.drop (pl + 1)) (lo := lo) (hi := hi) (by rw [lA, lP]) (by omega)
  rw [lA, ← sk] at h
  obtain ⟨e1, e2⟩ := h q
  rw [← sp] at e1
  refine ⟨X, Y, by rw [e1, List.append_assoc]; rfl, fun n => ⟨?_, ?_⟩⟩
  · have ei : OkI lo hi (ks.take pl ++ m :: ks.drop pl) := by
      refine okI_ins (by rw [← sk]; exact o3) ?_ ?_
      · rw [← sk, lA]; exact h1
      · rw [← sk, lA]; exact h2
    unfold wChild
    rw [List.append_assoc (ks.take pl), List.singleton_append]
    refine okI_iff.mpr ⟨o0, ?_, ?_, ei⟩
    · simp only [List.length_append, List.length_cons, List.length_nil, List.length_take, List.length_drop]; omega
    · rw [List.length_append, List.length_cons, lA, lB]; omega
  · have et : ps.take (pl + 1) = ps.take pl ++ [q] := by rw [List.take_add_one, hq]; rfl
    show kidsL lo hi (ks.take pl ++ [m] ++ ks.drop pl) (ps.take (pl + 1) ++ [n] ++ ps.drop (pl + 1)) = _
    rw [List.append_assoc (ks.take pl), List.singleton_append, et, List.append_assoc, List.append_assoc, List.singleton_append, List.singleton_append, e2 m n, List.append_assoc]
    rfl
/-- two children side by side: one goes, or the separator is set anew -/
theorem two_spec {lv : Int} {lo hi : Option Int} {ks ps : List Int} {i : Nat} {u w s : Int} (o : (Rec.inner lv lo hi ks ps).okB = true) (hs : ps.length ≤ 40) (hu : ps[i]? = some u) (hw : ps[i + 1]? = some w) (hsp : ks[i]? = some s) :
    ∃ X Y l h, childB lo hi ks i = (l, some s) ∧ childB lo hi ks (i + 1) = (some s, h) ∧ kidsL lo hi ks ps = X ++ [(u, (l, some s)), (w, (some s, h))] ++ Y ∧ ((woChild lv lo hi ks ps (i + 1)).okB = true ∧ kidsOf (woChild lv lo hi ks ps (i + 1)) = X ++ [(u, (l, h))] ++ Y) ∧
      ∀ x, gtB x l = true → belowB x h = true → (wSep lv lo hi ks ps (i + 1) x).okB = true ∧ kidsOf (wSep lv lo hi ks ps (i + 1) x) = X ++ [(u, (l, some x)), (w, (some x, h))] ++ Y := by
  obtain ⟨o0, o1, o2, o3⟩ := okI_iff.mp o
  have hik : i < ks.length := (List.getElem?_eq_some_iff.mp hsp).1
  have hip : i < ps.length := by omega
  have hip1 : i + 1 < ps.length := by omega
  have gu : ps[i] = u := by rw [List.getElem?_eq_getElem hip] at hu; exact Option.some.inj hu
  have gw : ps[i + 1] = w := by rw [List.getElem?_eq_getElem hip1] at hw; exact Option.some.inj hw
  have gs : ks[i] = s := by rw [List.getElem?_eq_getElem hik] at hsp; exact Option.some.inj hsp
  have sp : ps = ps.take i ++ u :: w :: ps.drop (i + 2) := by
    have := at_split hip
    rw [gu, List.drop_eq_getElem_cons hip1, gw] at this
    exact this
  have sk : ks = ks.take i ++ s :: ks.drop (i + 1) := by rw [← gs]; exact at_split hik
  have lA : (ks.take i).length = i := by rw [List.length_take]; omega
  have lP : (ps.take i).length = i := by rw [List.length_take]; omega
  have lB : (ks.drop (i + 1)).length = ks.length - (i + 1) := List.length_drop
  have lQ : (ps.drop (i + 2)).length = ps.length - (i + 2) := List.length_drop
  obtain ⟨X, Y, h⟩ := kids_mid (A := ks.take i) (P := ps.take i) (B := ks.drop (i + 1)) (Q := ps.drop (i + 2)) (lo := lo) (hi := hi) (by rw [lA, lP]) (by omega)
  have cm := childB_mid (A := ks.take i) (B := ks.drop (i + 1)) (lo := lo) (hi := hi) (s := s)
  rw [← sk, lA] at cm
  rw [lA] at h
  obtain ⟨e1, e2⟩ := h u
  have o4 : OkI lo hi (ks.take i ++ ks.drop (i + 1)) := by
    rw [sk] at o3
    exact okI_del o3
  have tw : ps.take (i + 1) = ps.take i ++ [u] := by rw [List.take_add_one, hu]; rfl
  refine ⟨X, Y, _, _, cm.1, cm.2, ?_, ⟨?_, ?_⟩, fun x h1 h2 => ⟨?_, ?_⟩⟩
  · have := e2 s w
    rw [← sk, ← sp] at this
    rw [this, List.append_assoc]; rfl
  · unfold woChild
    rw [Nat.add_sub_cancel]
    refine okI_iff.mpr ⟨o0, ?_, ?_, o4⟩
    · rw [List.length_append, List.length_append, List.length_take, List.length_drop, lA, lB]; omega
    · rw [List.length_append, lA, lB]; omega
  · show kidsL lo hi (ks.take (i + 1 - 1) ++ ks.drop (i + 1)) (ps.take (i + 1) ++ ps.drop (i + 1 + 1)) = _
    rw [Nat.add_sub_cancel, tw, List.append_assoc, List.singleton_append, e1, List.append_assoc]; rfl
  · unfold wSep
    rw [Nat.add_sub_cancel, List.append_assoc, List.singleton_append]
    refine okI_iff.mpr ⟨o0, ?_, ?_, okI_ins o4 (by rw [lA]; exact h1) (by rw [lA]; exact h2)⟩
    · rw [List.length_append, List.length_cons, lA, lB]; omega
    · rw [List.length_append, List.length_cons, lA, lB]; omega
  · show kidsL lo hi (ks.take (i + 1 - 1) ++ [x] ++ ks.drop (i + 1)) ps = _
    have := e2 x w
    rw [← sp] at this
    rw [Nat.add_sub_cancel, List.append_assoc, List.singleton_append, this, List.append_assoc]; rfl
/-! ### a leaf's change -/
theorem place_split : ∀ {ks vs : List Int} {k : Int}, ks.length = vs.length → ks.Pairwise (· < ·) → (∀ x ∈ ks.take (placeOf ks k), x < k) ∧ (∀ x ∈ ks.drop (placeOf ks k), k ≤ x) ∧ placeOf ks k ≤ ks.length
  | [], [], k, _, _ => by simp [placeOf]
  | a :: ks, v :: vs, k, h, hp => by
    obtain ⟨h1, h2⟩ := List.pairwise_cons.mp hp
    obtain ⟨i1, i2, i3⟩ := place_split (ks := ks) (vs := vs) (k := k) (by simpa using h) h2
    by_cases g : a < k
    · have e : placeOf (a :: ks) k = placeOf ks k + 1 := by
        unfold placeOf
        rw [List.filter_cons, if_pos (decide_eq_true g), List.length_cons]
      rw [e]
      refine ⟨fun x hx => ?_, fun x hx => i2 x (by simpa using hx), by rw [List.length_cons]; omega⟩
      rw [List.take_succ_cons] at hx
      rcases List.mem_cons.mp hx with rfl | hx
      · exact g
      · exact i1 x hx
    · have e : placeOf (a :: ks) k = 0 := by
        unfold placeOf
        rw [List.length_eq_zero_iff, List.filter_eq_nil_iff]
        intro x hx
        rcases List.mem_cons.mp hx with rfl | hx
        · simp [g]
        · have := h1 x hx
          simp; omega
      rw [e]
      refine ⟨fun x hx => by simp at hx, fun x hx => ?_, Nat.zero_le _⟩
      rw [List.drop_zero] at hx
      rcases List.mem_cons.mp hx with rfl | hx
      · omega
      · have := h1 x hx; omega
  | [], _ :: _, _, h, _ => by simp at h
  | _ :: _, [], _, h, _ => by simp at h
theorem pw_sub {A B : List Int} (h : (A ++ B).Pairwise (· < ·)) : A.Pairwise (· < ·) ∧ B.Pairwise (· < ·) ∧ ∀ x ∈ A, ∀ y ∈ B, x < y := by
  rw [List.pairwise_append] at h; exact h
structure LeafF (lo hi : Option Int) (ks vs : List Int) (k : Int) (nv : Option Int) (r : Rec) : Prop where
  ok : r.okB = true
  lf : r.isLeaf = true
  bd : r.bd = (lo, hi)
  val : ∀ j, valOf r j = if j = k then nv else valIn ks vs j
  up : r.size ≤ vs.length + 1
  dn : ∀ v, nv = some v → vs.length ≤ r.size ∧ 1 ≤ r.size
  gone : nv = none → r.size + 1 = vs.length
theorem leafTo_spec {lo hi : Option Int} {ks vs : List Int} {k : Int} {nv : Option Int} (o : (Rec.leaf lo hi ks vs).okB = true) (hs : vs.length ≤ 20) (hk : inB (lo, hi) k = true) (hn : nv = none → k ∈ ks) : LeafF lo hi ks vs k nv (leafTo lo hi ks vs k nv) := by
  obtain ⟨o1, o2, o3⟩ := okL_iff.mp o
  obtain ⟨p1, p2, p3⟩ := place_split (k := k) o1 o3.2.1
  obtain ⟨q1, q2, q3⟩ := pw_sub (show (ks.take (placeOf ks k) ++ ks.drop (placeOf ks k)).Pairwise (· < ·) by rw [List.take_append_drop]; exact o3.2.1)
  obtain ⟨hk1, hk2⟩ := inB_iff.mp hk
  have inA : ∀ x, x ∈ ks.take (placeOf ks k) → x ∈ ks := fun x hx => List.mem_of_mem_take hx
  generalize hpl : placeOf ks k = pl at *
  have lA : (ks.take pl).length = pl := by rw [List.length_take]; omega
  have lVA : (vs.take pl).length = pl := by rw [List.length_take]; omega
  have val0 : ∀ j, valIn ks vs j = (valIn (ks.take pl) (vs.take pl) j).or (valIn (ks.drop pl) (vs.drop pl) j) := fun j => by
    rw [← valIn_append (by rw [lA, lVA]), List.take_append_drop, List.take_append_drop]
  have nA : valIn (ks.take pl) (vs.take pl) k = none := valIn_no fun z => by have := p1 k z; omega
  -- what lies behind the key's place
  have behind : ∃ b, b = behindOf ks k ∧ pl ≤ b ∧ b ≤ pl + 1 ∧ b ≤ ks.length ∧ (∀ x ∈ ks.drop b, k < x) ∧ (ks.drop b).Pairwise (· < ·) ∧ (∀ x ∈ ks.drop b, x ∈ ks.drop pl) ∧ (∀ j, j ≠ k → valIn (ks.drop pl) (vs.drop pl) j = valIn (ks.drop b) (vs.drop b) j) ∧ (k ∈ ks → b = pl + 1) ∧ (k ∉ ks → b = pl) := by
    unfold behindOf
    rw [hpl]
    by_cases g : ks[pl]? = some k
    · have hlt : pl < ks.length := (List.getElem?_eq_some_iff.mp g).1
      have hltv : pl < vs.length := by omega
      have hd : ks.drop pl = k :: ks.drop (pl + 1) := by
        rw [List.drop_eq_getElem_cons hlt]
        rw [List.getElem?_eq_getElem hlt] at g
        rw [Option.some.inj g]
      have hdv : vs.drop pl = vs[pl] :: vs.drop (pl + 1) := List.drop_eq_getElem_cons hltv
      rw [hd] at q2
      obtain ⟨r1, r2⟩ := List.pairwise_cons.mp q2
      refine ⟨pl + 1, by rw [if_pos g], Nat.le_succ _, Nat.le_refl _, hlt, r1, r2, fun x hx => by rw [hd]; exact List.mem_cons_of_mem _ hx, fun j hj => ?_, fun _ => rfl, fun z => absurd (List.mem_of_getElem? g) z⟩
      rw [hd, hdv]
      show (if k = j then _ else _) = _
      rw [if_neg (fun z => hj z.symm)]
    · have hno : k ∉ ks.drop pl := fun z => by
        obtain ⟨i, hi'⟩ := List.mem_iff_getElem?.mp z
        cases i with
        | zero => rw [List.getElem?_drop] at hi'; exact g hi'
        | succ i =>
          -- the first of the rest is at most k
          have h0 : pl < ks.length := by
            have := (List.getElem?_eq_some_iff.mp hi').1
            rw [List.length_drop] at this
            omega
          have hd := List.drop_eq_getElem_cons h0
          have m1 : ks[pl] ∈ ks.drop pl := by rw [hd]; exact List.mem_cons_self
          have := p2 _ m1
          rw [hd] at q2 hi'
          rw [List.getElem?_cons_succ] at hi'
          have := (List.pairwise_cons.mp q2).1 k (List.mem_of_getElem? hi')
          omega
      refine ⟨pl, by rw [if_neg g], Nat.le_refl _, Nat.le_succ _, p3, fun x hx => ?_, q2, fun x hx => hx, fun j _ => rfl, fun z => ?_, fun _ => rfl⟩
      · have := p2 x hx
        have : x ≠ k := fun e => hno (by rw [← e]; exact hx)
        omega
      · exfalso
        rw [← List.take_append_drop pl ks, List.mem_append] at z
        rcases z with z | z
        · have := p1 k z; omega
        · exact hno z
  obtain ⟨b, hb, b1, b2, b3, b4, b5, b6, b7, b8, b9⟩ := behind
  have lB : (ks.drop b).length = ks.length - b := List.length_drop
  have lVB : (vs.drop b).length = vs.length - b := List.length_drop
  have inB' : ∀ x, x ∈ ks.drop b → x ∈ ks := fun x hx => List.mem_of_mem_drop hx
  have nB : valIn (ks.drop b) (vs.drop b) k = none := valIn_no fun z => by have := b4 k z; omega
  cases nv with
  | some v =>
    have e : leafTo lo hi ks vs k (some v) = .leaf lo hi (ks.take pl ++ k :: ks.drop b) (vs.take pl ++ v :: vs.drop b) := by
      show wValue lo hi ks vs k v = _
      unfold wValue
      rw [hpl, ← hb, List.append_assoc, List.append_assoc]
      rfl
    rw [e]
    have len : (vs.take pl ++ v :: vs.drop b).length = pl + 1 + (vs.length - b) := by rw [List.length_append, List.length_cons, lVA, lVB]; omega
    refine ⟨okL_iff.mpr ⟨?_, ?_, o3.1, ?_, fun x hx => ?_⟩, rfl, rfl, fun j => ?_, ?_, fun v' _ => ⟨?_, ?_⟩, fun z => nomatch z⟩
    · rw [len, List.length_append, List.length_cons, lA, lB]; omega
    · rw [List.length_append, List.length_cons, lA, lB]; omega
    · rw [List.pairwise_append, List.pairwise_cons]
      refine ⟨q1, ⟨b4, b5⟩, fun x hx y hy => ?_⟩
      rcases List.mem_cons.mp hy with rfl | hy
      · exact p1 x hx
      · have := p1 x hx
        have := b4 y hy
        omega
    · rw [List.mem_append, List.mem_cons] at hx
      rcases hx with hx | rfl | hx
      · exact o3.2.2 x (inA x hx)
      · exact ⟨abB_iff.mpr hk1, beB_iff.mpr hk2⟩
      · exact o3.2.2 x (inB' x hx)
    · show valIn (ks.take pl ++ k :: ks.drop b) (vs.take pl ++ v :: vs.drop b) j = _
      rw [valIn_append (by rw [lA, lVA])]
      show (valIn (ks.take pl) (vs.take pl) j).or (if k = j then some v else valIn (ks.drop b) (vs.drop b) j) = _
      by_cases g : j = k
      · rw [if_pos g, if_pos g.symm, g, nA]; rfl
      · rw [if_neg g, if_neg (fun z => g z.symm), val0 j, b7 j g]
    · show (vs.take pl ++ v :: vs.drop b).length ≤ _
      rw [len]; omega
    · show _ ≤ (vs.take pl ++ v :: vs.drop b).length
      rw [len]; omega
    · show _ ≤ (vs.take pl ++ v :: vs.drop b).length
      rw [len]; omega
  | none =>
    have hkk := hn rfl
    have hb1 := b8 hkk
    subst hb1
    have e : leafTo lo hi ks vs k none = .leaf lo hi (ks.take pl ++ ks.drop (pl + 1)) (vs.take pl ++ vs.drop (pl + 1)) := by
      show woKey lo hi ks vs k = _
      unfold woKey
      rw [hpl]
    rw [e]
    have len : (vs.take pl ++ vs.drop (pl + 1)).length = pl + (vs.length - (pl + 1)) := by rw [List.length_append, lVA, lVB]
    refine ⟨okL_iff.mpr ⟨?_, ?_, o3.1, ?_, fun x hx => ?_⟩, rfl, rfl, fun j => ?_, ?_, fun v' z => (nomatch z), fun _ => ?_⟩
    · rw [len, List.length_append, lA, lB]; omega
    · rw [List.length_append, lA, lB]; omega
    · rw [List.pairwise_append]
      exact ⟨q1, b5, fun x hx y hy => q3 x hx y (b6 y hy)⟩
    · rw [List.mem_append] at hx
      rcases hx with hx | hx
      · exact o3.2.2 x (inA x hx)
      · exact o3.2.2 x (inB' x hx)
    · show valIn (ks.take pl ++ ks.drop (pl + 1)) (vs.take pl ++ vs.drop (pl + 1)) j = _
      rw [valIn_append (by rw [lA, lVA])]
      by_cases g : j = k
      · rw [if_pos g, g, nA, nB]; rfl
      · rw [if_neg g, val0 j, b7 j g]
    · show (vs.take pl ++ vs.drop (pl + 1)).length ≤ _
      rw [len]; omega
    · show (vs.take pl ++ vs.drop (pl + 1)).length + 1 = _
      rw [len]; omega
end Esp

/-! Plain law, part 5: a plan, level by level; the frame. -/
namespace Esp
open PySem L2 PyProof.Rows PySem.Spec

structure StepR (t : Step) : Prop where
  ok : t.rc.okB = true
  live : t.rc.live = true
  size : sizeB t.page t.rc = true
  nn : 0 ≤ t.page
  kid : ∀ c ∈ kidsOf t.rc, 0 < c.1
  lv : t.rc.lv ≤ 6
structure PathOk (path : List Step) (key : Int) : Prop where
  step : ∀ t ∈ path, StepR t ∧ inB t.rc.bd key = true
  root : ∀ t, path[0]? = some t → t.page = 0 ∧ t.rc.bd = (none, none)
  link : ∀ i p t, path[i]? = some p → path[i + 1]? = some t → nextPage p.rc key = some t.page ∧ t.rc.lv = p.rc.lv - 1
def SibOk (sib : List (Int × Step)) : Prop := ∀ p b, look sib p = some b → b.page = p ∧ (b.rc.live = true → StepR b)
def V (W : Int → Rec) (s : Dr) : Int → Rec := fun p => (look s.recs p).getD (W p)
structure Held (W : Int → Rec) (ad : Int → Option Int) (tb : Int → Option Int) (path : List Step) (sib : List (Int × Step)) (key : Int) : Prop where
  ex : Exa W tb none
  neg : ∀ p : Int, p < 0 → (W p).live = false
  pok : PathOk path key
  sok : SibOk sib
  pcur : ∀ t ∈ path, ad t.page = some t.addr → W t.page = t.rc
  scur : ∀ p b, look sib p = some b → ad b.page = some b.addr → W b.page = b.rc
structure St (path : List Step) (sib : List (Int × Step)) (k : Nat) (s : Dr) : Prop where
  hp : s.path = path
  hs : s.sib = sib
  recs : s.recs.length ≤ 6 * k
  adrs : s.adrs.length ≤ 6 * k
  fresh : s.fresh ≤ 2 * k
  neg : ∀ p : Int, p < 0 → ((look s.recs p).isSome = true ↔ -(s.fresh : Int) ≤ p)
  adr : ∀ p : Int, 0 ≤ p → (look s.recs p).isSome = true → (look s.adrs p).isSome = true
  src : ∀ p a : Int, look s.adrs p = some a → ∃ z : Step, (z ∈ path ∨ ∃ q, look sib q = some z) ∧ z.page = p ∧ z.addr = a
structure RecUp (t : Step) (i : Nat) (r : Rec) : Prop where
  ok : r.okB = true
  live : r.live = true
  lv : r.lv = t.rc.lv
  bd : r.bd = t.rc.bd
  most : r.size ≤ mostOf r + 1
  least : 0 < i → 1 ≤ r.size
  root : i = 0 → r.isLeaf = false → 2 ≤ r.size
def Below (W : Int → Rec) (s : Dr) (t : Step) (r : Rec) (tb' : Int → Option Int) : Prop := (∀ p : Int, 0 ≤ p → (look s.recs p).isSome = true → (W p).live = true ∧ (W p).lv < t.rc.lv) ∧ Exa (up (V W s) t.page r) tb' (some t.page)
def Cur (ad : Int → Option Int) (es : List En) : Prop := ∀ e ∈ es, e.page < 0 ∨ ad e.page = e.addr
structure Final (W : Int → Rec) (s : Dr) (t : Step) (r : Rec) (sf : Dr) : Prop where
  frame : ∀ p : Int, 0 ≤ p → (W p).live = true → (W p).lv < t.rc.lv → look sf.recs p = look s.recs p ∧ look sf.adrs p = look s.adrs p
  ex : ∀ tb', Below W s t r tb' → Exa (V W sf) tb' none ∧ ∀ p : Int, 0 ≤ p → (look sf.recs p).isSome = true → (W p).live = true
def Ends2 (W : Int → Rec) (ad : Int → Option Int) (path : List Step) (sib : List (Int × Step)) (s : Dr) (t : Step) (r : Rec) (sf : Dr) : Prop := (∃ k, k ≤ path.length ∧ St path sib k sf) ∧ (Cur ad (entriesL sf) → ad t.page = some t.addr ∧ Final W s t r sf)
def Good (W : Int → Rec) (ad : Int → Option Int) (path : List Step) (sib : List (Int × Step)) (an : An) (s : Dr) (t : Step) (r : Rec) : Told → Prop
  | .read q => look sib q = none ∧ ∃ p ∈ path, ∃ b, (q, b) ∈ kidsOf p.rc
  | .answer _ => False
  | .stale => True
  | .change a es => a = an ∧ ∃ sf, es = entriesL sf ∧ Ends2 W ad path sib s t r sf
def Chain (path : List Step) : Prop := ∀ j p t lv lo hi ks ps, path[j]? = some p → path[j + 1]? = some t → p.rc = .inner lv lo hi ks ps → placeIn lo hi ks ps t ≠ none
section
variable {W : Int → Rec} {ad tb tb' : Int → Option Int} {path : List Step} {sib : List (Int × Step)} {key : Int} {an : An} {s s' sf : Dr} {t : Step} {r : Rec} {k : Nat}
theorem entries_mem {q : Int} (h0 : 0 ≤ q) (h : (look sf.recs q).isSome = true) : ∃ e ∈ entriesL sf, e.page = q ∧ e.addr = look sf.adrs q := by
  refine ⟨⟨q, look sf.adrs q, (look sf.recs q).getD (.free 0)⟩, ?_, rfl, rfl⟩
  unfold entriesL pagesOf
  refine List.mem_map.mpr ⟨q, List.mem_append_left _ ((srt_perm _).mem_iff.mpr (List.mem_filter.mpr ⟨?_, decide_eq_true h0⟩)), rfl⟩
  obtain ⟨y, hy⟩ := Option.isSome_iff_exists.mp h
  exact List.mem_map.mpr ⟨(q, y), look_mem hy, rfl⟩
theorem cur_at (hc : Cur ad (entriesL sf)) {q a : Int} (h0 : 0 ≤ q) (h : (look sf.recs q).isSome = true) (ha : look sf.adrs q = some a) : ad q = some a := by
  obtain ⟨e, he, e1, e2⟩ := entries_mem h0 h
  rcases hc e he with z | z
  · omega
  · rw [e1, e2, ha] at z; exact z
theorem entries_ok (h : St path sib k sf) (hk : k ≤ 300) : s.path.length ≤ 5000 → sf.path = s.path → entriesOk sf = true := fun hp he => by
  unfold entriesOk Dr.small
  simp only [Bool.and_eq_true, decide_eq_true_eq, List.all_eq_true, List.mem_range]
  have h1 := h.recs
  have h2 := h.adrs
  have h3 := h.fresh
  refine ⟨⟨by omega, by omega, by omega, by rw [he]; omega⟩, fun i hi => ?_⟩
  exact (h.neg (-1 - (i : Int)) (by omega)).mpr (by omega)
theorem look_give {z : Step} {x : Rec} {p : Int} : look (s.give z x).recs p = (if p = z.page then some x else look s.recs p) ∧ look (s.give z x).adrs p = (if p = z.page then some z.addr else look s.adrs p) := ⟨look_put _ _ _ _, look_put _ _ _ _⟩
theorem look_add {x : Rec} {p : Int} : look (s.add x).recs p = (if p = -((s.fresh + 1 : Nat) : Int) then some x else look s.recs p) ∧ look (s.add x).adrs p = look s.adrs p := ⟨look_put _ _ _ _, rfl⟩
theorem St.give (h : St path sib k s) {z : Step} {x : Rec} (hz : 0 ≤ z.page) {k' : Nat} (hk : k ≤ k') (h1 : s.recs.length + 1 ≤ 6 * k') (h2 : s.adrs.length + 1 ≤ 6 * k') : (∀ p : Int, p < 0 → ((look (s.give z x).recs p).isSome = true ↔ -((s.give z x).fresh : Int) ≤ p)) ∧ (∀ p : Int, 0 ≤ p → (look (s.give z x).recs p).isSome = true → (look (s.give z x).adrs p).isSome = true) := by
  refine ⟨fun p hp => ?_, fun p hp hs => ?_⟩
  · rw [look_give.1, if_neg (by omega)]
    exact h.neg p hp
  · rw [look_give.1] at hs
    rw [look_give.2]
    by_cases g : p = z.page
    · rw [if_pos g]; rfl
    · rw [if_neg g] at hs ⊢
      exact h.adr p hp hs
theorem nextPage_some {rc : Rec} {q : Int} (h : nextPage rc key = some q) : ∃ lv lo hi ks ps, rc = .inner lv lo hi ks ps ∧ ps[childAt ks key]? = some q := by
  unfold nextPage at h
  split at h
  case h_1 lv lo hi ks ps =>
    split at h
    case isTrue => exact ⟨lv, lo, hi, ks, ps, rfl, h⟩
    case isFalse => cases h
  case h_2 => cases h
theorem kid_mem {lv : Int} {lo hi : Option Int} {ks ps : List Int} {i : Nat} {q : Int} (o : (Rec.inner lv lo hi ks ps).okB = true) (h : ps[i]? = some q) : (q, childB lo hi ks i) ∈ kidsOf (.inner lv lo hi ks ps) := by
  obtain ⟨_, o1, _, _⟩ := okI_iff.mp o
  exact List.mem_iff_getElem?.mpr ⟨i, by show (kidsL lo hi ks ps)[i]? = _; rw [kids_get o1, h]; rfl⟩
theorem place_some {lo hi : Option Int} {ks ps : List Int} {pl : Nat} (h : placeIn lo hi ks ps t = some pl) : ps[pl]? = some t.page ∧ childB lo hi ks pl = t.rc.bd := by
  have := List.find?_some h
  rw [Bool.and_eq_true, decide_eq_true_eq, decide_eq_true_eq] at this
  exact this
/-- the plan went up from t to p: what is known above is known here -/
theorem Ends2.step (C : Held W ad tb path sib key) {p : Step} {r' : Rec} (hp : p ∈ path) (ht : t ∈ path) (hlv : t.rc.lv = p.rc.lv - 1) (L : List Step) (htL : t ∈ L) (hL : W p.page = p.rc → ∀ z ∈ L, 0 ≤ z.page ∧ (∃ b, (z.page, b) ∈ kidsOf p.rc) ∧ (look s'.recs z.page).isSome = true ∧ look s'.adrs z.page = some z.addr)
    (hd : ∀ q : Int, 0 ≤ q → (∀ z ∈ L, q ≠ z.page) → look s'.recs q = look s.recs q ∧ look s'.adrs q = look s.adrs q)
    (hH : W p.page = p.rc → (∀ z ∈ L, ad z.page = some z.addr) → ∀ tb', Below W s t r tb' → Below W s' p r' tb') (h : Ends2 W ad path sib s' p r' sf) : Ends2 W ad path sib s t r sf := by
  refine ⟨h.1, fun hc => ?_⟩
  obtain ⟨h1, h2⟩ := h.2 hc
  have wp := C.pcur p hp h1
  have kz : ∀ z ∈ L, (W z.page).live = true ∧ (W z.page).lv = p.rc.lv - 1 := fun z hz => by
    obtain ⟨_, ⟨b, hb⟩, _, _⟩ := hL wp z hz
    obtain ⟨a1, _, a3⟩ := C.ex.kids p.page (z.page, b) (by rw [wp]; exact hb)
    rw [wp] at a3
    exact ⟨a1, a3⟩
  have cz : ∀ z ∈ L, ad z.page = some z.addr := fun z hz => by
    obtain ⟨l0, _, l2, l3⟩ := hL wp z hz
    obtain ⟨z1, z2⟩ := kz z hz
    obtain ⟨f1, f2⟩ := h2.frame z.page l0 z1 (by omega)
    exact cur_at hc l0 (by rw [f1]; exact l2) (by rw [f2]; exact l3)
  refine ⟨cz t htL, ⟨fun q q0 q1 q2 => ?_, fun tb' hb => h2.ex tb' (hH wp cz tb' hb)⟩⟩
  obtain ⟨f1, f2⟩ := h2.frame q q0 q1 (by omega)
  obtain ⟨g1, g2⟩ := hd q q0 fun z hz e => by
    have := (kz z hz).2
    rw [← e] at this
    omega
  exact ⟨f1.trans g1, f2.trans g2⟩
end
end Esp

/-! Plain law, part 6: each outcome of a level keeps the tree. -/
namespace Esp
open PySem L2 PyProof.Rows PySem.Spec
theorem most_leaf {r : Rec} (o : r.okB = true) (h : r.live = true) : mostOf r = if r.isLeaf = true then 4 else 5 := by
  unfold mostOf
  rw [leaf_of o h]
  by_cases g : r.lv = 0
  · rw [if_pos g, if_pos (decide_eq_true g)]
  · rw [if_neg g, if_neg (by simp [g])]
theorem sizeB_of {p : Int} {r : Rec} (o : r.okB = true) (h : r.live = true) (h1 : 2 ≤ r.size ∨ (p = 0 ∧ r.isLeaf = true)) (h2 : r.size ≤ mostOf r) : sizeB p r = true := by
  rw [most_leaf o h] at h2
  cases r with
  | free n => cases h
  | leaf lo hi ks vs =>
    have h1 : 2 ≤ vs.length ∨ (p = 0 ∧ true = true) := h1
    have h2 : vs.length ≤ 4 := h2
    show ((decide (p = 0) || decide (2 ≤ vs.length)) && decide (vs.length ≤ 4)) = true
    simp only [Bool.and_eq_true, Bool.or_eq_true, decide_eq_true_eq]
    omega
  | inner lv lo hi ks ps =>
    have h1 : 2 ≤ ps.length ∨ (p = 0 ∧ false = true) := h1
    have h2 : ps.length ≤ 5 := h2
    show (decide (2 ≤ ps.length) && decide (ps.length ≤ 5)) = true
    simp only [Bool.and_eq_true, decide_eq_true_eq]
    simp at h1
    omega
theorem sizeB_to {p : Int} {r : Rec} (o : r.okB = true) (h : r.live = true) (hs : sizeB p r = true) : r.size ≤ mostOf r ∧ (p ≠ 0 ∨ r.isLeaf = false → 2 ≤ r.size) := by
  rw [most_leaf o h]
  cases r with
  | free n => cases h
  | leaf lo hi ks vs =>
    unfold sizeB at hs
    simp only [Bool.and_eq_true, Bool.or_eq_true, decide_eq_true_eq] at hs
    show vs.length ≤ 4 ∧ (p ≠ 0 ∨ true = false → 2 ≤ vs.length)
    simp
    omega
  | inner lv lo hi ks ps =>
    unfold sizeB at hs
    simp only [Bool.and_eq_true, decide_eq_true_eq] at hs
    show ps.length ≤ 5 ∧ (_ → 2 ≤ ps.length)
    exact ⟨hs.2, fun _ => hs.1⟩
theorem most_le (r : Rec) : mostOf r ≤ 5 := by
  unfold mostOf
  split <;> omega
section
variable {W : Int → Rec} {ad tb tb' : Int → Option Int} {path : List Step} {sib : List (Int × Step)} {key : Int} {an : An} {s s' sf : Dr} {t p : Step} {r : Rec} {k i j : Nat}
theorem V_give {z : Step} {x : Rec} {q : Int} : V W (s.give z x) q = if q = z.page then x else V W s q := by
  unfold V
  rw [look_give.1]
  split <;> rfl
theorem V_add {x : Rec} {q : Int} : V W (s.add x) q = if q = -((s.fresh + 1 : Nat) : Int) then x else V W s q := by
  unfold V
  rw [look_add.1]
  split <;> rfl
theorem mem_of_at {α : Type} {l : List α} {i : Nat} {x : α} (h : l[i]? = some x) : x ∈ l := List.mem_of_getElem? h
/-- a draft's facts after a level -/
theorem src_give (h : ∀ p a : Int, look s.adrs p = some a → ∃ z : Step, (z ∈ path ∨ ∃ q, look sib q = some z) ∧ z.page = p ∧ z.addr = a) {u : Step} {x : Rec} (mu : u ∈ path ∨ ∃ q, look sib q = some u) : ∀ p a : Int, look (s.give u x).adrs p = some a → ∃ z : Step, (z ∈ path ∨ ∃ q, look sib q = some z) ∧ z.page = p ∧ z.addr = a := fun p a e => by
  rw [look_give.2] at e
  by_cases g : p = u.page
  · rw [if_pos g] at e
    cases e
    exact ⟨u, mu, g.symm, rfl⟩
  · rw [if_neg g] at e
    exact h p a e
theorem st_two (h : St path sib k s) {u w : Step} {x y : Rec} (hu : 0 ≤ u.page) (hw : 0 ≤ w.page) (mu : u ∈ path ∨ ∃ q, look sib q = some u) (mw : w ∈ path ∨ ∃ q, look sib q = some w) : St path sib (k + 1) ((s.give w y).give u x) := by
  have l1 := put_len s.recs w.page y
  have l2 := put_len (put s.recs w.page y) u.page x
  have l3 := put_len s.adrs w.page w.addr
  have l4 := put_len (put s.adrs w.page w.addr) u.page u.addr
  have := h.recs
  have := h.adrs
  have := h.fresh
  refine ⟨h.hp, h.hs, ?_, ?_, ?_, fun q hq => ?_, fun q hq hs => ?_, src_give (x := x) (src_give (x := y) h.src mw) mu⟩
  · show (put (put s.recs w.page y) u.page x).length ≤ _; omega
  · show (put (put s.adrs w.page w.addr) u.page u.addr).length ≤ _; omega
  · show s.fresh ≤ _; omega
  · rw [look_give.1, look_give.1, if_neg (by omega), if_neg (by omega)]
    exact h.neg q hq
  · rw [look_give.1, look_give.1] at hs
    rw [look_give.2, look_give.2]
    by_cases g : q = u.page
    · rw [if_pos g]; rfl
    · by_cases g2 : q = w.page
      · rw [if_neg g, if_pos g2]; rfl
      · rw [if_neg g, if_neg g2] at hs ⊢
        exact h.adr q hq hs
theorem st_one (h : St path sib k s) {u : Step} {x : Rec} (hu : 0 ≤ u.page) (mu : u ∈ path ∨ ∃ q, look sib q = some u) : St path sib (k + 1) (s.give u x) := by
  have l1 := put_len s.recs u.page x
  have l3 := put_len s.adrs u.page u.addr
  have := h.recs
  have := h.adrs
  have := h.fresh
  refine ⟨h.hp, h.hs, ?_, ?_, ?_, fun q hq => ?_, fun q hq hs => ?_, src_give (x := x) h.src mu⟩
  · show (put s.recs u.page x).length ≤ _; omega
  · show (put s.adrs u.page u.addr).length ≤ _; omega
  · show s.fresh ≤ _; omega
  · rw [look_give.1, if_neg (by omega)]
    exact h.neg q hq
  · rw [look_give.1] at hs
    rw [look_give.2]
    by_cases g : q = u.page
    · rw [if_pos g]; rfl
    · rw [if_neg g] at hs ⊢
      exact h.adr q hq hs
theorem st_cut (h : St path sib k s) {u : Step} {a b : Rec} (hu : 0 ≤ u.page) (mu : u ∈ path ∨ ∃ q, look sib q = some u) : St path sib (k + 1) ((s.give u a).add b) := by
  have l1 := put_len s.recs u.page a
  have l2 := put_len (put s.recs u.page a) (-((s.fresh + 1 : Nat) : Int)) b
  have l3 := put_len s.adrs u.page u.addr
  have := h.recs
  have := h.adrs
  have := h.fresh
  refine ⟨h.hp, h.hs, ?_, ?_, ?_, fun q hq => ?_, fun q hq hs => ?_, src_give (x := a) h.src mu⟩
  · show (put (put s.recs u.page a) (-((s.fresh + 1 : Nat) : Int)) b).length ≤ _; omega
  · show (put s.adrs u.page u.addr).length ≤ _; omega
  · show s.fresh + 1 ≤ _; omega
  · rw [look_add.1]
    show _ ↔ -((s.fresh + 1 : Nat) : Int) ≤ q
    by_cases g : q = -(((s.give u a).fresh + 1 : Nat) : Int)
    · rw [if_pos g]
      have g : q = -((s.fresh + 1 : Nat) : Int) := g
      exact ⟨fun _ => by omega, fun _ => rfl⟩
    · rw [if_neg g, look_give.1, if_neg (by omega)]
      have g : ¬ q = -((s.fresh + 1 : Nat) : Int) := g
      have := h.neg q hq
      exact ⟨fun z => by have := this.mp z; omega, fun z => this.mpr (by omega)⟩
  · rw [look_add.1, if_neg (by have : (0 : Int) ≤ ((s.give u a).fresh : Int) := by omega
                               omega), look_give.1] at hs
    rw [look_add.2, look_give.2]
    by_cases g : q = u.page
    · rw [if_pos g]; rfl
    · rw [if_neg g] at hs ⊢
      exact h.adr q hq hs
/-- the parent on the path -/
theorem parent_of (C : Held W ad tb path sib key) (hp : path[j]? = some p) (ht : path[j + 1]? = some t) : ∃ lv lo hi ks ps, p.rc = .inner lv lo hi ks ps ∧ (Rec.inner lv lo hi ks ps).okB = true ∧ 2 ≤ ps.length ∧ ps.length ≤ 5 ∧ (∃ b, (t.page, b) ∈ kidsOf p.rc) ∧ t.rc.lv = lv - 1 ∧ 0 < t.page ∧ StepR p ∧ StepR t := by
  obtain ⟨h1, h2⟩ := C.pok.link j p t hp ht
  obtain ⟨lv, lo, hi, ks, ps, e, e2⟩ := nextPage_some h1
  have sp := (C.pok.step p (mem_of_at hp)).1
  have st := (C.pok.step t (mem_of_at ht)).1
  have ok := sp.ok
  rw [e] at ok
  have sz := sp.size
  rw [e] at sz
  unfold sizeB at sz
  simp only [Bool.and_eq_true, decide_eq_true_eq] at sz
  have hm := kid_mem ok e2
  rw [← e] at hm
  refine ⟨lv, lo, hi, ks, ps, e, ok, sz.1, sz.2, ⟨_, hm⟩, ?_, sp.kid _ hm, sp, st⟩
  rw [e] at h2
  exact h2
theorem below_at (C : Held W ad tb path sib key) (wp : W p.page = p.rc) (hlv : t.rc.lv = p.rc.lv - 1) (hb : ∀ q : Int, 0 ≤ q → (look s.recs q).isSome = true → (W q).live = true ∧ (W q).lv < t.rc.lv) (hp : 0 ≤ p.page) : V W s p.page = p.rc := by
  unfold V
  cases e : look s.recs p.page with
  | none => exact wp
  | some x =>
    have := (hb p.page hp (by rw [e]; rfl)).2
    rw [wp] at this
    omega
theorem below_eq {z : Step} (wz : W z.page = z.rc) (hlv : z.rc.lv = t.rc.lv) (hb : ∀ q : Int, 0 ≤ q → (look s.recs q).isSome = true → (W q).live = true ∧ (W q).lv < t.rc.lv) (hp : 0 ≤ z.page) : V W s z.page = z.rc := by
  unfold V
  cases e : look s.recs z.page with
  | none => exact wz
  | some x =>
    have := (hb z.page hp (by rw [e]; rfl)).2
    rw [wz] at this
    omega
/-- a level is cut, the parent gets a child -/
theorem cut_step (C : Held W ad tb path sib key) (hp : path[j]? = some p) (ht : path[j + 1]? = some t) (hS : St path sib k s) (hr : RecUp t (j + 1) r) {lv : Int} {lo hi : Option Int} {ks ps : List Int} (hrc : p.rc = .inner lv lo hi ks ps) {pl : Nat} (hpl : placeIn lo hi ks ps t = some pl) {a b : Rec} {m : Int} (cf : CutF r a m b) :
    divide s (j + 1) r = some (.up (wChild lv lo hi ks ps pl m (-((s.fresh + 1 : Nat) : Int))), (s.give t a).add b) ∧ St path sib (k + 1) ((s.give t a).add b) ∧ RecUp p j (wChild lv lo hi ks ps pl m (-((s.fresh + 1 : Nat) : Int))) ∧ 2 ≤ (wChild lv lo hi ks ps pl m (-((s.fresh + 1 : Nat) : Int))).size ∧
      ∀ sf, Ends2 W ad path sib ((s.give t a).add b) p (wChild lv lo hi ks ps pl m (-((s.fresh + 1 : Nat) : Int))) sf → Ends2 W ad path sib s t r sf := by
  obtain ⟨lv', lo', hi', ks', ps', e, ok, s1, s2, ⟨bd, hbd⟩, hlv, ht0, sp, st⟩ := parent_of C hp ht
  rw [hrc] at e
  cases e
  obtain ⟨q1, q2⟩ := place_some hpl
  have hgt : gtB m (childB lo hi ks pl).1 = true := by rw [q2, ← hr.bd]; exact cf.gt
  have hlt : belowB m (childB lo hi ks pl).2 = true := by rw [q2, ← hr.bd]; exact cf.lt
  obtain ⟨X, Y, k0, k1⟩ := wChild_spec ok (by omega) q1 hgt hlt
  obtain ⟨k2, k3⟩ := k1 (-((s.fresh + 1 : Nat) : Int))
  have hplt : pl < ps.length := (List.getElem?_eq_some_iff.mp q1).1
  have hsz : (wChild lv lo hi ks ps pl m (-((s.fresh + 1 : Nat) : Int))).size = ps.length + 1 := by
    show (ps.take (pl + 1) ++ [_] ++ ps.drop (pl + 1)).length = _
    simp only [List.length_append, List.length_cons, List.length_nil, List.length_take, List.length_drop]; omega
  have hlv1 : 1 ≤ lv := (okI_iff.mp ok).1
  have hmost : mostOf (wChild lv lo hi ks ps pl m (-((s.fresh + 1 : Nat) : Int))) = 5 := by
    unfold mostOf
    rw [if_neg (show ¬ (wChild lv lo hi ks ps pl m (-((s.fresh + 1 : Nat) : Int))).lv = 0 by show ¬ lv = 0; omega)]
  refine ⟨?_, st_cut hS (by omega) (.inl (mem_of_at ht)), ⟨k2, rfl, by rw [hrc]; rfl, by rw [hrc]; rfl, by rw [hsz, hmost]; omega, fun _ => by omega, fun _ _ => by omega⟩, by omega, fun sf => ?_⟩
  · unfold divide
    rw [cf.eq]
    simp only [hr.ok, cf.oka, cf.okb, Bool.and_self, if_true, hS.hp, ht, hp, hrc, ok, st.live, hpl, k2]
  · refine Ends2.step C (mem_of_at hp) (mem_of_at ht) (by rw [hlv, hrc]; rfl) [t] (by simp) (fun _ z hz => ?_) (fun q hq hz => ?_) (fun wp cz tb' hb => ?_)
    · simp only [List.mem_singleton] at hz
      subst hz
      refine ⟨by omega, ⟨bd, hbd⟩, ?_, ?_⟩
      · rw [look_add.1, if_neg (by have : (0 : Int) ≤ ((s.give z a).fresh : Int) := by omega
                                   omega), look_give.1, if_pos rfl]; rfl
      · rw [look_add.2, look_give.2, if_pos rfl]
    · have hne := hz t (by simp)
      rw [look_add.1, look_add.2, if_neg (by have : (0 : Int) ≤ ((s.give t a).fresh : Int) := by omega
                                             omega), look_give.1, look_give.2, if_neg hne, if_neg hne]
      exact ⟨rfl, rfl⟩
    · obtain ⟨b1, E⟩ := hb
      have wt := C.pcur t (mem_of_at ht) (cz t (by simp))
      have hlvp : t.rc.lv = p.rc.lv - 1 := by rw [hlv, hrc]; rfl
      have htp : t.page ≠ p.page := fun z => by rw [z, wp] at wt; rw [wt] at hlvp; omega
      have vp : up (V W s) t.page r p.page = p.rc := by rw [up_ne (fun z => htp z.symm)]; exact below_at C wp hlvp b1 sp.nn
      have fr : -((s.fresh + 1 : Nat) : Int) < 0 := by omega
      have vn : (up (V W s) t.page r (-((s.fresh + 1 : Nat) : Int))).live = false := by
        rw [up_ne (by omega)]
        unfold V
        have := hS.neg _ fr
        cases e : look s.recs (-((s.fresh + 1 : Nat) : Int)) with
        | none => exact C.neg _ fr
        | some x =>
          rw [e] at this
          have := this.mp rfl
          omega
      refine ⟨fun q hq hs => ?_, ?_⟩
      · rw [look_add.1, if_neg (by have : (0 : Int) ≤ ((s.give t a).fresh : Int) := by omega
                                   omega), look_give.1] at hs
        by_cases g : q = t.page
        · rw [g, wt]; exact ⟨st.live, by omega⟩
        · rw [if_neg g] at hs
          have := b1 q hq hs
          exact ⟨this.1, by omega⟩
      · have Z := E.repl (pp := p.page) (pp' := wChild lv lo hi ks ps pl m (-((s.fresh + 1 : Nat) : Int))) (N := fun q => if q = t.page then some a else if q = -((s.fresh + 1 : Nat) : Int) then some b else none)
          (X := X) (M := [(t.page, childB lo hi ks pl)]) (Y := Y) (M' := [(t.page, ((childB lo hi ks pl).1, some m)), (-((s.fresh + 1 : Nat) : Int), (some m, (childB lo hi ks pl).2))])
          (fun q hq => by cases hq; simp) (by rw [vp, hrc]; exact k0) k3 (by simp) k2 (by rw [vp, hrc]; rfl) (by rw [vp, hrc]; rfl) rfl rfl (fun c hc => by
            simp only [List.mem_singleton] at hc
            rw [hc]; simp) (fun q hq => ?_) (fun q x hx => ?_) (fun q x hx hxl => ?_) (fun q q' x y kk hx hy _ _ hxk hyk => ?_) (fun c hc => ?_)
        · have e : (fun q => if q = p.page then wChild lv lo hi ks ps pl m (-((s.fresh + 1 : Nat) : Int)) else ((if q = t.page then some a else if q = -((s.fresh + 1 : Nat) : Int) then some b else none : Option Rec)).getD (up (V W s) t.page r q)) = up (V W ((s.give t a).add b)) p.page (wChild lv lo hi ks ps pl m (-((s.fresh + 1 : Nat) : Int))) := by
            funext q
            unfold up
            by_cases g : q = p.page
            · rw [if_pos g, if_pos g]
            · rw [if_neg g, if_neg g, V_add, V_give]
              show _ = if q = -((s.fresh + 1 : Nat) : Int) then b else if q = t.page then a else V W s q
              by_cases g2 : q = t.page
              · rw [if_pos g2]
                show a = _
                rw [if_neg (show ¬ q = -((s.fresh + 1 : Nat) : Int) by omega), if_pos g2]
              · rw [if_neg g2]
                by_cases g3 : q = -((s.fresh + 1 : Nat) : Int)
                · rw [if_pos g3]
                  show b = _
                  rw [if_pos g3]
                · rw [if_neg g3]
                  show (if q = t.page then r else V W s q) = _
                  rw [if_neg g2, if_neg g3, if_neg g2]
          rw [← e]
          exact Z
        · by_cases g : q = t.page
          · exact .inr ⟨_, List.mem_singleton.mpr rfl, g.symm⟩
          · rw [if_neg g] at hq
            by_cases g2 : q = -((s.fresh + 1 : Nat) : Int)
            · rw [g2]; exact .inl vn
            · rw [if_neg g2] at hq; exact absurd rfl hq
        · by_cases g : q = t.page
          · rw [if_pos g] at hx; cases hx; exact cf.oka
          · rw [if_neg g] at hx
            by_cases g2 : q = -((s.fresh + 1 : Nat) : Int)
            · rw [if_pos g2] at hx; cases hx; exact cf.okb
            · rw [if_neg g2] at hx; cases hx
        · have lvt : r.lv = (up (V W s) t.page r p.page).lv - 1 := by rw [vp, hr.lv]; exact hlvp
          have tabt : r.isLeaf = true → ∀ kk, inB r.bd kk = true → valOf r kk = tb' kk := fun h1 kk h2 => by
            have := E.tab t.page (by rw [up_same]; exact h1) kk (by rw [up_same]; exact h2)
            rw [up_same] at this
            exact this
          have kt : kidsOf (up (V W s) t.page r t.page) = kidsOf a ++ kidsOf b := by rw [up_same]; exact cf.kids
          by_cases g : q = t.page
          · rw [if_pos g] at hx
            cases hx
            have sub : ∀ kk, inB a.bd kk = true → inB r.bd kk = true := fun kk h => by
              rw [cf.bda] at h
              obtain ⟨z1, z2⟩ := inB_iff.mp h
              refine inB_iff.mpr ⟨z1, fun y hy => ?_⟩
              have := beB_iff.mp cf.lt y hy
              have := z2 m rfl
              omega
            exact ⟨by rw [cf.lva]; exact lvt, cf.sza q, fun kk h => ⟨_, List.mem_singleton.mpr rfl, by rw [q2, ← hr.bd]; exact sub kk h⟩, fun c hc => ⟨_, List.mem_singleton.mpr rfl, by rw [kt]; exact List.mem_append_left _ hc⟩, fun h1 kk h2 => by rw [cf.va kk h2]; exact tabt (by rw [← cf.lfa]; exact h1) kk (sub kk h2)⟩
          · rw [if_neg g] at hx
            by_cases g2 : q = -((s.fresh + 1 : Nat) : Int)
            · rw [if_pos g2] at hx
              cases hx
              have sub : ∀ kk, inB b.bd kk = true → inB r.bd kk = true := fun kk h => by
                rw [cf.bdb] at h
                obtain ⟨z1, z2⟩ := inB_iff.mp h
                refine inB_iff.mpr ⟨fun y hy => ?_, z2⟩
                have := gtB_iff.mp cf.gt y hy
                have := z1 m rfl
                omega
              exact ⟨by rw [cf.lvb]; exact lvt, cf.szb q, fun kk h => ⟨_, List.mem_singleton.mpr rfl, by rw [q2, ← hr.bd]; exact sub kk h⟩, fun c hc => ⟨_, List.mem_singleton.mpr rfl, by rw [kt]; exact List.mem_append_right _ hc⟩, fun h1 kk h2 => by rw [cf.vb kk h2]; exact tabt (by rw [← cf.lfb]; exact h1) kk (sub kk h2)⟩
            · rw [if_neg g2] at hx; cases hx
        · have dis : inB a.bd kk = true → inB b.bd kk = true → False := fun h1 h2 => by
            rw [cf.bda] at h1
            rw [cf.bdb] at h2
            have := (inB_iff.mp h1).2 m rfl
            have := (inB_iff.mp h2).1 m rfl
            omega
          by_cases g : q = t.page <;> by_cases g' : q' = t.page
          · rw [g, g']
          · rw [if_pos g] at hx
            rw [if_neg g'] at hy
            cases hx
            by_cases g2 : q' = -((s.fresh + 1 : Nat) : Int)
            · rw [if_pos g2] at hy; cases hy; exact (dis hxk hyk).elim
            · rw [if_neg g2] at hy; cases hy
          · rw [if_neg g] at hx
            rw [if_pos g'] at hy
            cases hy
            by_cases g2 : q = -((s.fresh + 1 : Nat) : Int)
            · rw [if_pos g2] at hx; cases hx; exact (dis hyk hxk).elim
            · rw [if_neg g2] at hx; cases hx
          · rw [if_neg g] at hx
            rw [if_neg g'] at hy
            by_cases g2 : q = -((s.fresh + 1 : Nat) : Int)
            · by_cases g3 : q' = -((s.fresh + 1 : Nat) : Int)
              · rw [g2, g3]
              · rw [if_neg g3] at hy; cases hy
            · rw [if_neg g2] at hx; cases hx
        · simp only [List.mem_cons, List.not_mem_nil, or_false] at hc
          rcases hc with rfl | rfl
          · exact ⟨a, if_pos rfl, cf.la, by rw [cf.bda, q2, ← hr.bd]⟩
          · exact ⟨b, by rw [if_neg (by omega), if_pos rfl], cf.lb, by rw [cf.bdb, q2, ← hr.bd]⟩
end
end Esp

/-! Plain law, part 7: two pages are united. -/
namespace Esp
open PySem L2 PyProof.Rows PySem.Spec
section
variable {W : Int → Rec} {ad tb tb' : Int → Option Int} {path : List Step} {sib : List (Int × Step)} {key : Int} {an : An} {s s' sf : Dr} {t p b u w : Step} {r l rr : Rec} {k i j : Nat} {lv : Int} {lo hi : Option Int} {ks ps : List Int} {q : Int}
def PairF (t b : Step) (r : Rec) (u : Step) (l : Rec) (w : Step) (rr : Rec) : Prop := (u = t ∧ l = r ∧ w = b ∧ rr = b.rc) ∨ (u = b ∧ l = b.rc ∧ w = t ∧ rr = r)
theorem kids_ps (o : (Rec.inner lv lo hi ks ps).okB = true) : (kidsOf (.inner lv lo hi ks ps)).map (·.1) = ps := kids_fst (okI_iff.mp o).2.1
/-- what the two pages are, once the parent is current -/
structure Two (W : Int → Rec) (s : Dr) (t p u w : Step) (r l rr : Rec) : Prop where
  ne : u.page ≠ w.page
  up' : u.page ≠ p.page
  wp' : w.page ≠ p.page
  Wp : up (V W s) t.page r p.page = p.rc
  Wu : up (V W s) t.page r u.page = l
  Ww : up (V W s) t.page r w.page = rr
  tt : t.page = u.page ∨ t.page = w.page
theorem page_ne (C : Held W ad tb path sib key) (hrc : p.rc = .inner lv lo hi ks ps) (ok : (Rec.inner lv lo hi ks ps).okB = true) (hu : ps[i]? = some u.page) (hw : ps[i + 1]? = some w.page) (wp : W p.page = p.rc) : u.page ≠ w.page := by
  have nd := C.ex.nodup p.page
  rw [wp, hrc, kids_ps ok] at nd
  intro e
  have h1 : i < ps.length := (List.getElem?_eq_some_iff.mp hu).1
  have h2 : i + 1 < ps.length := (List.getElem?_eq_some_iff.mp hw).1
  have e1 : ps[i]? = ps[i + 1]? := by rw [hu, hw, e]
  rw [List.getElem?_eq_getElem h1, List.getElem?_eq_getElem h2] at e1
  have := (List.getElem_inj (h₀ := h1) (h₁ := h2) nd).mp (Option.some.inj e1)
  omega
theorem kid_ne (C : Held W ad tb path sib key) {z : Step} (wp : W p.page = p.rc) (hk : ∃ c, (z.page, c) ∈ kidsOf p.rc) : z.page ≠ p.page ∧ (W z.page).live = true ∧ (W z.page).lv = p.rc.lv - 1 := by
  obtain ⟨c, hc⟩ := hk
  obtain ⟨a1, _, a3⟩ := C.ex.kids p.page (z.page, c) (by rw [wp]; exact hc)
  rw [wp] at a3
  refine ⟨fun e => ?_, a1, a3⟩
  have e : z.page = p.page := e
  have a3 : (W z.page).lv = p.rc.lv - 1 := a3
  rw [e, wp] at a3
  omega
theorem two_of (C : Held W ad tb path sib key) (hp : path[j]? = some p) (ht : path[j + 1]? = some t) (hrc : p.rc = .inner lv lo hi ks ps) (ok : (Rec.inner lv lo hi ks ps).okB = true) (hlv : t.rc.lv = p.rc.lv - 1) (sp : StepR p) (st : StepR t) (hb : look sib q = some b) (sb : StepR b) (blv : b.rc.lv = t.rc.lv) (pf : PairF t b r u l w rr) (hu : ps[i]? = some u.page) (hw : ps[i + 1]? = some w.page)
    (wp : W p.page = p.rc) (wt : W t.page = t.rc) (wb : W b.page = b.rc) (b1 : ∀ q : Int, 0 ≤ q → (look s.recs q).isSome = true → (W q).live = true ∧ (W q).lv < t.rc.lv) : Two W s t p u w r l rr := by
  have ne := page_ne (u := u) (w := w) C hrc ok hu hw wp
  have ku := kid_ne (z := u) C wp ⟨_, by rw [hrc]; exact kid_mem ok hu⟩
  have kw := kid_ne (z := w) C wp ⟨_, by rw [hrc]; exact kid_mem ok hw⟩
  have vb : V W s b.page = b.rc := below_eq wb blv b1 sb.nn
  have vp : V W s p.page = p.rc := below_at C wp hlv b1 sp.nn
  rcases pf with ⟨rfl, rfl, rfl, rfl⟩ | ⟨rfl, rfl, rfl, rfl⟩
  · exact ⟨ne, ku.1, kw.1, by rw [up_ne ku.1.symm]; exact vp, up_same, by rw [up_ne ne.symm]; exact vb, .inl rfl⟩
  · exact ⟨ne, ku.1, kw.1, by rw [up_ne kw.1.symm]; exact vp, by rw [up_ne ne]; exact vb, up_same, .inr rfl⟩
/-- outcome of a level -/
inductive Outc (W : Int → Rec) (ad : Int → Option Int) (path : List Step) (sib : List (Int × Step)) (k i : Nat) (s : Dr) (t : Step) (r : Rec) : Res → Dr → Prop
  | done {s2 : Dr} : St path sib (k + 1) s2 → (Cur ad (entriesL s2) → ad t.page = some t.addr ∧ Final W s t r s2) → Outc W ad path sib k i s t r .done s2
  | up {j2 : Nat} {p2 : Step} {r2 : Rec} {s2 : Dr} : i = j2 + 1 → path[j2]? = some p2 → St path sib (k + 1) s2 → RecUp p2 j2 r2 → (2 ≤ r.size → 2 ≤ r2.size) → (∀ sf, Ends2 W ad path sib s2 p2 r2 sf → Ends2 W ad path sib s t r sf) → Outc W ad path sib k i s t r (.up r2) s2
  | read {q2 : Int} {p2 : Step} {c : Bd} : look sib q2 = none → p2 ∈ path → (q2, c) ∈ kidsOf p2.rc → ¬ (i = 0 ∨ 2 ≤ r.size) → Outc W ad path sib k i s t r (.read q2) s
  | stale : (Chain path → ¬ (i = 0 ∨ 2 ≤ r.size)) → Outc W ad path sib k i s t r .stale s
theorem pair_step (C : Held W ad tb path sib key) (hp : path[j]? = some p) (ht : path[j + 1]? = some t) (hS : St path sib k s) (hr : RecUp t (j + 1) r) (hrc : p.rc = .inner lv lo hi ks ps) (hsz : r.size < 2) (hb : look sib q = some b) (bl : b.rc.live = true) (blv : b.rc.lv = r.lv) (pf : PairF t b r u l w rr)
    (hu : ps[i]? = some u.page) (hw : ps[i + 1]? = some w.page) (el : l.bd = childB lo hi ks i) (er : rr.bd = childB lo hi ks (i + 1)) : ∃ res s', unitePair s j (i + 1) u l w rr = some (res, s') ∧ Outc W ad path sib k (j + 1) s t r res s' := by
  obtain ⟨lv', lo', hi', ks', ps', e, ok, s1, s2, _, hlv, ht0, sp, st⟩ := parent_of C hp ht
  rw [hrc] at e
  cases e
  have hlvp : t.rc.lv = p.rc.lv - 1 := by rw [hlv, hrc]; rfl
  have sb := (C.sok q b hb).2 bl
  have blv' : b.rc.lv = t.rc.lv := by rw [blv, hr.lv]
  have hps := (okI_iff.mp ok).2.1
  have hi1 : i + 1 < ps.length := (List.getElem?_eq_some_iff.mp hw).1
  have hik : i < ks.length := by omega
  have hsp : ks[i]? = some ks[i] := List.getElem?_eq_getElem hik
  generalize ks[i] = m at hsp
  obtain ⟨X, Y, l0, h0, c1, c2, k0, ⟨kw1, kw2⟩, ksep⟩ := two_spec ok (by omega) hu hw hsp
  rw [c1] at el
  rw [c2] at er
  have memu : (u.page, (l0, some m)) ∈ kidsOf p.rc := by rw [hrc]; show _ ∈ kidsL lo hi ks ps; rw [k0]; simp
  have memw : (w.page, (some m, h0)) ∈ kidsOf p.rc := by rw [hrc]; show _ ∈ kidsL lo hi ks ps; rw [k0]; simp
  have hu0 : 0 < u.page := sp.kid _ memu
  have hw0 : 0 < w.page := sp.kid _ memw
  have hr1 : r.size = 1 := by have := hr.least (Nat.succ_pos _); omega
  have hbp : 0 < b.page := by
    rcases pf with ⟨_, _, e, _⟩ | ⟨e, _, _, _⟩
    · rw [← e]; exact hw0
    · rw [← e]; exact hu0
  obtain ⟨bz1, bz2⟩ := sizeB_to sb.ok bl sb.size
  have bz2 := bz2 (.inl (by omega))
  have hmb : mostOf b.rc = mostOf r := by unfold mostOf; rw [blv]
  have hm5 := most_le r
  have okl : l.okB = true ∧ l.live = true ∧ l.lv = r.lv := by
    rcases pf with ⟨_, e, _, _⟩ | ⟨_, e, _, _⟩
    · rw [e]; exact ⟨hr.ok, hr.live, rfl⟩
    · rw [e]; exact ⟨sb.ok, bl, blv⟩
  have okr : rr.okB = true ∧ rr.live = true ∧ rr.lv = r.lv := by
    rcases pf with ⟨_, _, _, e⟩ | ⟨_, _, _, e⟩
    · rw [e]; exact ⟨sb.ok, bl, blv⟩
    · rw [e]; exact ⟨hr.ok, hr.live, rfl⟩
  have hsum : l.size + rr.size = 1 + b.rc.size := by
    rcases pf with ⟨_, e, _, e'⟩ | ⟨_, e, _, e'⟩
    · rw [e, e', hr1]
    · rw [e, e', hr1, Nat.add_comm]
  have el2 : l.bd.2 = some m := by rw [el]
  have er1 : rr.bd.1 = some m := by rw [er]
  have J := join_spec okl.1 okr.1 okl.2.1 okr.2.1 (by rw [okl.2.2, okr.2.2]) el2 er1 (by omega)
  have hsame : l.isLeaf = rr.isLeaf := by rw [leaf_of okl.1 okl.2.1, leaf_of okr.1 okr.2.1, okl.2.2, okr.2.2]
  have hmj : mostOf (joinR l m rr) = mostOf r := by unfold mostOf; rw [J.lv, okl.2.2]
  have Jlv : (joinR l m rr).lv = r.lv := by rw [J.lv, okl.2.2]
  have Jbd : (joinR l m rr).bd = (l0, h0) := by rw [J.bd, el, er]
  have subl : ∀ kk, inB l.bd kk = true → inB (l0, h0) kk = true := fun kk h => by
    have := rec_lohi J.ok
    rw [Jbd] at this
    rw [el] at h
    obtain ⟨z1, z2⟩ := inB_iff.mp h
    refine inB_iff.mpr ⟨z1, fun y hy => ?_⟩
    have e1 := rec_lohi okr.1
    rw [er] at e1
    have := lohi_iff.mp e1 m y rfl hy
    have := z2 m rfl
    omega
  have split2 : ∀ kk, inB (l0, h0) kk = true → inB l.bd kk = true ∨ inB rr.bd kk = true := fun kk h => by
    rw [el, er]
    obtain ⟨z1, z2⟩ := inB_iff.mp h
    by_cases g : kk < m
    · exact .inl (inB_iff.mpr ⟨z1, fun y hy => by cases hy; exact g⟩)
    · exact .inr (inB_iff.mpr ⟨fun y hy => by cases hy; omega, z2⟩)
  have hlu : l.lv = p.rc.lv - 1 := by rw [okl.2.2, hr.lv]; exact hlvp
  obtain ⟨t0, ht0'⟩ : ∃ t0, path[0]? = some t0 := by
    cases path with
    | nil => cases hp
    | cons a b => exact ⟨a, rfl⟩
  have guard : ((Rec.inner lv lo hi ks ps).okB && (l.okB && (rr.okB && (l.live && (rr.live && (decide (l.isLeaf = rr.isLeaf) && ((joinR l m rr).okB && ((joinR l m rr).live && decide (1 ≤ i + 1))))))))) = true := by
    rw [ok, okl.1, okr.1, okl.2.1, okr.2.1, J.ok, J.live, decide_eq_true hsame, decide_eq_true (show 1 ≤ i + 1 by omega)]; rfl
  have hlv1 : 1 ≤ lv := (okI_iff.mp ok).1
  -- the tree's table at both pages
  have tabs : ∀ {tb' : Int → Option Int}, Two W s t p u w r l rr → Exa (up (V W s) t.page r) tb' (some t.page) → (joinR l m rr).isLeaf = true → ∀ kk, inB (l0, h0) kk = true → valOf (joinR l m rr) kk = tb' kk := fun {tb'} T E h1 kk h2 => by
    rcases split2 kk h2 with h | h
    · rw [J.vl kk h]
      have := E.tab u.page (by rw [T.Wu, ← J.lf]; exact h1) kk (by rw [T.Wu]; exact h)
      rw [T.Wu] at this
      exact this
    · rw [J.vr kk h]
      have := E.tab w.page (by rw [T.Ww, ← hsame, ← J.lf]; exact h1) kk (by rw [T.Ww]; exact h)
      rw [T.Ww] at this
      exact this
  have kidJ : Two W s t p u w r l rr → ∀ c ∈ kidsOf (joinR l m rr), ∃ d ∈ [(u.page, ((l0, some m) : Bd)), (w.page, (some m, h0))], c ∈ kidsOf (up (V W s) t.page r d.1) := fun T c hc => by
    rw [J.kids, List.mem_append] at hc
    rcases hc with h | h
    · exact ⟨(u.page, (l0, some m)), by simp, by show c ∈ kidsOf (up (V W s) t.page r u.page); rw [T.Wu]; exact h⟩
    · exact ⟨(w.page, (some m, h0)), by simp, by show c ∈ kidsOf (up (V W s) t.page r w.page); rw [T.Ww]; exact h⟩
  have covM : ∀ kk, inB (l0, h0) kk = true → ∃ c ∈ [(u.page, ((l0, some m) : Bd)), (w.page, (some m, h0))], inB c.2 kk = true := fun kk h => by
    rcases split2 kk h with h | h
    · exact ⟨(u.page, (l0, some m)), by simp, by rw [← el]; exact h⟩
    · exact ⟨(w.page, (some m, h0)), by simp, by rw [← er]; exact h⟩
  have curs : ∀ {x y : Rec}, W p.page = p.rc → ∀ z ∈ [u, w], 0 ≤ z.page ∧ (∃ c, (z.page, c) ∈ kidsOf p.rc) ∧ (look ((s.give w y).give u x).recs z.page).isSome = true ∧ look ((s.give w y).give u x).adrs z.page = some z.addr := fun {x y} wp z hz => by
    have ne := page_ne (u := u) (w := w) C hrc ok hu hw wp
    simp only [List.mem_cons, List.not_mem_nil, or_false] at hz
    rcases hz with rfl | rfl
    · exact ⟨by omega, ⟨_, memu⟩, by rw [look_give.1, if_pos rfl]; rfl, by rw [look_give.2, if_pos rfl]⟩
    · exact ⟨by omega, ⟨_, memw⟩, by rw [look_give.1, if_neg ne.symm, look_give.1, if_pos rfl]; rfl, by rw [look_give.2, if_neg ne.symm, look_give.2, if_pos rfl]⟩
  have curs' : ∀ {x y : Rec}, W p.page = p.rc → ∀ z ∈ [u, w], 0 ≤ z.page ∧ (∃ c, (z.page, c) ∈ kidsOf p.rc) ∧ (look ((s.give u x).give w y).recs z.page).isSome = true ∧ look ((s.give u x).give w y).adrs z.page = some z.addr := fun {x y} wp z hz => by
    have ne := page_ne (u := u) (w := w) C hrc ok hu hw wp
    simp only [List.mem_cons, List.not_mem_nil, or_false] at hz
    rcases hz with rfl | rfl
    · exact ⟨by omega, ⟨_, memu⟩, by rw [look_give.1, if_neg ne, look_give.1, if_pos rfl]; rfl, by rw [look_give.2, if_neg ne, look_give.2, if_pos rfl]⟩
    · exact ⟨by omega, ⟨_, memw⟩, by rw [look_give.1, if_pos rfl]; rfl, by rw [look_give.2, if_pos rfl]⟩
  have tin : t ∈ [u, w] := by
    rcases pf with ⟨e, _, _, _⟩ | ⟨_, _, e, _⟩
    · rw [e]; simp
    · rw [e]; simp
  have musw : (u ∈ path ∨ ∃ q, look sib q = some u) ∧ (w ∈ path ∨ ∃ q, look sib q = some w) := by
    rcases pf with ⟨e, _, e', _⟩ | ⟨e, _, e', _⟩
    · rw [e, e']; exact ⟨.inl (mem_of_at ht), .inr ⟨q, hb⟩⟩
    · rw [e, e']; exact ⟨.inr ⟨q, hb⟩, .inl (mem_of_at ht)⟩
  have bin : b ∈ [u, w] := by
    rcases pf with ⟨_, _, e, _⟩ | ⟨e, _, _, _⟩
    · rw [e]; simp
    · rw [e]; simp
  have twoOf : W p.page = p.rc → (∀ z ∈ [u, w], ad z.page = some z.addr) → (∀ q : Int, 0 ≤ q → (look s.recs q).isSome = true → (W q).live = true ∧ (W q).lv < t.rc.lv) → Two W s t p u w r l rr ∧ W t.page = t.rc ∧ W b.page = b.rc := fun wp cz b1 => by
    have wt := C.pcur t (mem_of_at ht) (cz t tin)
    have wb := C.scur q b hb (cz b bin)
    exact ⟨two_of C hp ht hrc ok hlvp sp st hb sb blv' pf hu hw wp wt wb b1, wt, wb⟩
  have lvuw : W p.page = p.rc → ∀ z ∈ [u, w], (W z.page).live = true ∧ (W z.page).lv < p.rc.lv ∧ (W z.page).lv = t.rc.lv := fun wp z hz => by
    have hk : ∃ c, (z.page, c) ∈ kidsOf p.rc := by
      simp only [List.mem_cons, List.not_mem_nil, or_false] at hz
      rcases hz with rfl | rfl
      · exact ⟨_, memu⟩
      · exact ⟨_, memw⟩
    obtain ⟨_, h1, h2⟩ := kid_ne C wp hk
    exact ⟨h1, by omega, by omega⟩
  by_cases hbig : mostOf (joinR l m rr) < (joinR l m rr).size
  · -- join and cut
    have hjs : (joinR l m rr).size = mostOf (joinR l m rr) + 1 := by rw [J.size, hsum] at *; omega
    obtain ⟨a, x, b', cf⟩ := cut_spec J.ok J.live hjs
    have hgt : gtB x l0 = true := by have := cf.gt; rw [Jbd] at this; exact this
    have hlt : belowB x h0 = true := by have := cf.lt; rw [Jbd] at this; exact this
    obtain ⟨sep1, sep2⟩ := ksep x hgt hlt
    have sa : ∀ kk, inB a.bd kk = true → inB (l0, h0) kk = true := fun kk h => by
      rw [cf.bda, Jbd] at h
      obtain ⟨z1, z2⟩ := inB_iff.mp h
      refine inB_iff.mpr ⟨z1, fun y hy => ?_⟩
      have := beB_iff.mp hlt y hy
      have := z2 x rfl
      omega
    have sb' : ∀ kk, inB b'.bd kk = true → inB (l0, h0) kk = true := fun kk h => by
      rw [cf.bdb, Jbd] at h
      obtain ⟨z1, z2⟩ := inB_iff.mp h
      refine inB_iff.mpr ⟨fun y hy => ?_, z2⟩
      have := gtB_iff.mp hgt y hy
      have := z1 x rfl
      omega
    have dis : ∀ kk, inB a.bd kk = true → inB b'.bd kk = true → False := fun kk h1 h2 => by
      rw [cf.bda] at h1
      rw [cf.bdb] at h2
      have := (inB_iff.mp h1).2 x rfl
      have := (inB_iff.mp h2).1 x rfl
      omega
    refine ⟨.up (wSep lv lo hi ks ps (i + 1) x), (s.give u a).give w b', ?_, .up rfl hp (st_two hS (by omega) (by omega) musw.2 musw.1) ⟨sep1, rfl, by rw [hrc]; rfl, by rw [hrc]; rfl, ?_, fun _ => ?_, fun _ _ => s1⟩ (fun _ => s1) fun sf => ?_⟩
    · unfold unitePair
      simp only [hS.hp, hp, ht0', er1, hrc, guard, if_true, hbig, cf.eq, cf.oka, cf.okb, sep1, Bool.and_self]
    · have : mostOf (wSep lv lo hi ks ps (i + 1) x) = 5 := by
        unfold mostOf
        rw [if_neg (show ¬ (wSep lv lo hi ks ps (i + 1) x).lv = 0 by show ¬ lv = 0; omega)]
      show ps.length ≤ _
      omega
    · show 1 ≤ ps.length
      omega
    · refine Ends2.step C (mem_of_at hp) (mem_of_at ht) hlvp [u, w] tin (fun wp z hz => curs' wp z hz) (fun z hz hne => ?_) (fun wp cz tb' hbel => ?_)
      · have h1 := hne u (by simp)
        have h2 := hne w (by simp)
        rw [look_give.1, look_give.2, if_neg h2, if_neg h2, look_give.1, look_give.2, if_neg h1, if_neg h1]
        exact ⟨rfl, rfl⟩
      · obtain ⟨b1, E⟩ := hbel
        obtain ⟨T, wt, wb⟩ := twoOf wp cz b1
        have lz := lvuw wp
        refine ⟨fun z hz hs => ?_, ?_⟩
        · rw [look_give.1, look_give.1] at hs
          by_cases g : z = w.page
          · rw [g]; exact ⟨(lz w (by simp)).1, (lz w (by simp)).2.1⟩
          · by_cases g2 : z = u.page
            · rw [g2]; exact ⟨(lz u (by simp)).1, (lz u (by simp)).2.1⟩
            · rw [if_neg g, if_neg g2] at hs
              have := b1 z hz hs
              exact ⟨this.1, by omega⟩
        · have Z := E.repl (pp := p.page) (pp' := wSep lv lo hi ks ps (i + 1) x) (N := fun z => if z = u.page then some a else if z = w.page then some b' else none)
            (X := X) (M := [(u.page, (l0, some m)), (w.page, (some m, h0))]) (Y := Y) (M' := [(u.page, (l0, some x)), (w.page, (some x, h0))])
            (fun z hz => by
              cases hz
              rcases T.tt with e | e
              · rw [if_pos e]; simp
              · by_cases g : t.page = u.page
                · rw [if_pos g]; simp
                · rw [if_neg g, if_pos e]; simp) (by rw [T.Wp, hrc]; exact k0) sep2 (by simp) sep1 (by rw [T.Wp, hrc]; rfl) (by rw [T.Wp, hrc]; rfl) rfl rfl (fun c hc => by
              simp only [List.mem_cons, List.not_mem_nil, or_false] at hc
              rcases hc with rfl | rfl
              · simp
              · show (if w.page = u.page then some a else if w.page = w.page then some b' else none) ≠ none
                rw [if_neg T.ne.symm, if_pos rfl]; simp) (fun z hz => ?_) (fun z y hy => ?_) (fun z y hy hyl => ?_) (fun z z' y y' kk hy hy' _ _ hk1 hk2 => ?_) (fun c hc => ?_)
          · have e : (fun z => if z = p.page then wSep lv lo hi ks ps (i + 1) x else ((if z = u.page then some a else if z = w.page then some b' else none : Option Rec)).getD (up (V W s) t.page r z)) = up (V W ((s.give u a).give w b')) p.page (wSep lv lo hi ks ps (i + 1) x) := by
              funext z
              show _ = if z = p.page then _ else V W ((s.give u a).give w b') z
              by_cases g : z = p.page
              · rw [if_pos g, if_pos g]
              · rw [if_neg g, if_neg g, V_give, V_give]
                by_cases g2 : z = u.page
                · rw [if_pos g2]
                  show a = _
                  rw [if_neg (fun e => T.ne (g2.symm.trans e)), if_pos g2]
                · rw [if_neg g2]
                  by_cases g3 : z = w.page
                  · rw [if_pos g3, if_pos g3]; rfl
                  · rw [if_neg g3, if_neg g3, if_neg g2]
                    show up (V W s) t.page r z = _
                    exact up_ne (fun e => T.tt.elim (fun f => g2 (e.trans f)) (fun f => g3 (e.trans f)))
            rw [← e]
            exact Z
          · by_cases g : z = u.page
            · exact .inr ⟨(u.page, (l0, some m)), by simp, g.symm⟩
            · rw [if_neg g] at hz
              by_cases g2 : z = w.page
              · exact .inr ⟨(w.page, (some m, h0)), by simp, g2.symm⟩
              · rw [if_neg g2] at hz; exact absurd rfl hz
          · by_cases g : z = u.page
            · rw [if_pos g] at hy; cases hy; exact cf.oka
            · rw [if_neg g] at hy
              by_cases g2 : z = w.page
              · rw [if_pos g2] at hy; cases hy; exact cf.okb
              · rw [if_neg g2] at hy; cases hy
          · have tabJ := tabs T E
            by_cases g : z = u.page
            · rw [if_pos g] at hy; cases hy
              exact ⟨by rw [cf.lva, J.lv, T.Wp]; exact hlu, cf.sza z, fun kk h => covM kk (sa kk h), fun c hc => kidJ T c (by rw [cf.kids]; exact List.mem_append_left _ hc), fun h1 kk h2 => by rw [cf.va kk h2]; exact tabJ (by rw [← cf.lfa]; exact h1) kk (sa kk h2)⟩
            · rw [if_neg g] at hy
              by_cases g2 : z = w.page
              · rw [if_pos g2] at hy; cases hy
                exact ⟨by rw [cf.lvb, J.lv, T.Wp]; exact hlu, cf.szb z, fun kk h => covM kk (sb' kk h), fun c hc => kidJ T c (by rw [cf.kids]; exact List.mem_append_right _ hc), fun h1 kk h2 => by rw [cf.vb kk h2]; exact tabJ (by rw [← cf.lfb]; exact h1) kk (sb' kk h2)⟩
              · rw [if_neg g2] at hy; cases hy
          · by_cases g : z = u.page <;> by_cases g' : z' = u.page
            · rw [g, g']
            · rw [if_pos g] at hy
              rw [if_neg g'] at hy'
              cases hy
              by_cases g2 : z' = w.page
              · rw [if_pos g2] at hy'; cases hy'; exact (dis kk hk1 hk2).elim
              · rw [if_neg g2] at hy'; cases hy'
            · rw [if_neg g] at hy
              rw [if_pos g'] at hy'
              cases hy'
              by_cases g2 : z = w.page
              · rw [if_pos g2] at hy; cases hy; exact (dis kk hk2 hk1).elim
              · rw [if_neg g2] at hy; cases hy
            · rw [if_neg g] at hy
              rw [if_neg g'] at hy'
              by_cases g2 : z = w.page
              · by_cases g3 : z' = w.page
                · rw [g2, g3]
                · rw [if_neg g3] at hy'; cases hy'
              · rw [if_neg g2] at hy; cases hy
          · simp only [List.mem_cons, List.not_mem_nil, or_false] at hc
            rcases hc with rfl | rfl
            · exact ⟨a, if_pos rfl, cf.la, by rw [cf.bda, Jbd]⟩
            · exact ⟨b', by show (if w.page = u.page then some a else if w.page = w.page then some b' else none) = _; rw [if_neg T.ne.symm, if_pos rfl], cf.lb, by rw [cf.bdb, Jbd]⟩
  · -- join
    have hjsz : (joinR l m rr).size = 1 + b.rc.size := by rw [J.size, hsum]
    have hjB : ∀ z, sizeB z (joinR l m rr) = true := fun z => sizeB_of J.ok J.live (.inl (by omega)) (by omega)
    have hwsz : (woChild lv lo hi ks ps (i + 1)).size = ps.length - 1 := by
      show (ps.take (i + 1) ++ ps.drop (i + 1 + 1)).length = _
      simp only [List.length_append, List.length_take, List.length_drop]; omega
    have fr : ∀ z : Int, (Rec.free z).okB = true := fun z => rfl
    by_cases hcol : j = 0 ∧ (woChild lv lo hi ks ps (i + 1)).size = 1
    · -- the root goes
      obtain ⟨hj0, hc1⟩ := hcol
      have hpt : p = t0 := by rw [hj0, ht0'] at hp; exact (Option.some.inj hp).symm
      subst hpt
      obtain ⟨p0, pbd⟩ := C.pok.root p ht0'
      have hps2 : ps.length = 2 := by omega
      have hi0 : i = 0 := by omega
      have XY : X = [] ∧ Y = [] := by
        have := kids_len (lo := lo) (hi := hi) hps
        rw [k0] at this
        simp only [List.length_append, List.length_cons, List.length_nil] at this
        exact ⟨List.length_eq_zero_iff.mp (by omega), List.length_eq_zero_iff.mp (by omega)⟩
      obtain ⟨rfl, rfl⟩ := XY
      rw [hrc] at pbd
      have hlo : lo = none := congrArg Prod.fst pbd
      have hhi : hi = none := congrArg Prod.snd pbd
      have hl0 : l0 = none := by
        have := congrArg Prod.fst c1
        rw [hi0, childB_zero] at this
        exact this.symm.trans hlo
      have hh0 : h0 = none := by
        have := congrArg Prod.snd c2
        unfold childB at this
        rw [if_neg (show ¬ i + 1 < ks.length by omega)] at this
        exact this.symm.trans hhi
      refine ⟨.done, ((s.give w (.free w.page)).give u (.free u.page)).give p (joinR l m rr), ?_, .done ?_ fun hc => ?_⟩
      · unfold unitePair
        simp only [hS.hp, hp, ht0', er1, hrc, guard, if_true, if_neg hbig, kw1, hj0, hc1, and_self]
      · have l1 := put_len s.recs w.page (.free w.page)
        have l2 := put_len (put s.recs w.page (.free w.page)) u.page (.free u.page)
        have l3 := put_len (put (put s.recs w.page (.free w.page)) u.page (.free u.page)) p.page (joinR l m rr)
        have l4 := put_len s.adrs w.page w.addr
        have l5 := put_len (put s.adrs w.page w.addr) u.page u.addr
        have l6 := put_len (put (put s.adrs w.page w.addr) u.page u.addr) p.page p.addr
        have q1 := hS.recs
        have q2 := hS.adrs
        have q3 := hS.fresh
        have S2 := st_two hS (u := u) (w := w) (x := .free u.page) (y := .free w.page) (by omega) (by omega) musw.1 musw.2
        refine ⟨hS.hp, hS.hs, ?_, ?_, ?_, fun z hz => ?_, fun z hz hs => ?_, src_give S2.src (.inl (mem_of_at hp))⟩
        · show (put (put (put s.recs w.page (.free w.page)) u.page (.free u.page)) p.page (joinR l m rr)).length ≤ _; omega
        · show (put (put (put s.adrs w.page w.addr) u.page u.addr) p.page p.addr).length ≤ _; omega
        · show s.fresh ≤ _; omega
        · rw [look_give.1, if_neg (by omega)]
          exact S2.neg z hz
        · rw [look_give.1] at hs
          rw [look_give.2]
          by_cases g : z = p.page
          · rw [if_pos g]; rfl
          · rw [if_neg g] at hs ⊢
            exact S2.adr z hz hs
      · have cp : ad p.page = some p.addr := cur_at hc sp.nn (by rw [look_give.1, if_pos rfl]; rfl) (by rw [look_give.2, if_pos rfl])
        have wp := C.pcur p (mem_of_at hp) cp
        have lz := lvuw wp
        have ne := page_ne (u := u) (w := w) C hrc ok hu hw wp
        have ku := kid_ne (z := u) C wp ⟨_, memu⟩
        have kw := kid_ne (z := w) C wp ⟨_, memw⟩
        have cz : ∀ z ∈ [u, w], ad z.page = some z.addr := fun z hz => by
          obtain ⟨c1, _, c3, c4⟩ := curs (x := .free u.page) (y := .free w.page) wp z hz
          have zp : z.page ≠ p.page := by
            simp only [List.mem_cons, List.not_mem_nil, or_false] at hz
            rcases hz with rfl | rfl
            · exact ku.1
            · exact kw.1
          exact cur_at hc c1 (by rw [look_give.1, if_neg zp]; exact c3) (by rw [look_give.2, if_neg zp]; exact c4)
        refine ⟨cz t tin, ⟨fun z z0 z1 z2 => ?_, fun tb' hbel => ?_⟩⟩
        · have n1 : z ≠ u.page := fun e => by have := (lz u (by simp)).2.2; rw [← e] at this; omega
          have n2 : z ≠ w.page := fun e => by have := (lz w (by simp)).2.2; rw [← e] at this; omega
          have n3 : z ≠ p.page := fun e => by rw [e, wp] at z2; omega
          rw [look_give.1, look_give.2, if_neg n3, if_neg n3, look_give.1, look_give.2, if_neg n1, if_neg n1, look_give.1, look_give.2, if_neg n2, if_neg n2]
          exact ⟨rfl, rfl⟩
        · obtain ⟨b1, E⟩ := hbel
          obtain ⟨T, wt, wb⟩ := twoOf wp cz b1
          have hk : kidsOf (up (V W s) t.page r 0) = [(u.page, (l0, some m)), (w.page, (some m, h0))] := by
            rw [← p0, T.Wp, hrc]
            show kidsL lo hi ks ps = _
            rw [k0]; rfl
          refine ⟨?_, fun z hz hs => ?_⟩
          · have Z := E.coll (j := joinR l m rr) (N := fun z => if z = u.page then some (.free u.page) else if z = w.page then some (.free w.page) else none)
              (fun z hz => by
                cases hz
                rcases T.tt with e | e
                · rw [if_pos e]; simp
                · by_cases g : t.page = u.page
                  · rw [if_pos g]; simp
                  · rw [if_neg g, if_pos e]; simp) (by rw [← p0, T.Wp, hrc]; rfl) J.ok (by rw [Jbd, hl0, hh0]) (by rw [← p0, T.Wp, J.lv]; exact hlu) J.live (hjB 0) (fun c hc => by rw [hk]; exact kidJ T c hc)
              (fun h1 kk => tabs T E h1 kk (by rw [hl0, hh0]; rfl)) (fun c hc => by
                rw [hk] at hc
                simp only [List.mem_cons, List.not_mem_nil, or_false] at hc
                rcases hc with rfl | rfl
                · simp
                · show (if w.page = u.page then some (Rec.free u.page) else if w.page = w.page then some (.free w.page) else none) ≠ none
                  rw [if_neg T.ne.symm, if_pos rfl]; simp) (fun z hz => by
                rw [hk]
                by_cases g : z = u.page
                · exact .inr ⟨(u.page, (l0, some m)), by simp, g.symm⟩
                · rw [if_neg g] at hz
                  by_cases g2 : z = w.page
                  · exact .inr ⟨(w.page, (some m, h0)), by simp, g2.symm⟩
                  · rw [if_neg g2] at hz; exact absurd rfl hz) (fun z y hy => by
                by_cases g : z = u.page
                · rw [if_pos g] at hy; cases hy; rfl
                · rw [if_neg g] at hy
                  by_cases g2 : z = w.page
                  · rw [if_pos g2] at hy; cases hy; rfl
                  · rw [if_neg g2] at hy; cases hy)
            have e : (fun z => if z = 0 then joinR l m rr else ((if z = u.page then some (.free u.page) else if z = w.page then some (.free w.page) else none : Option Rec)).getD (up (V W s) t.page r z)) = V W (((s.give w (.free w.page)).give u (.free u.page)).give p (joinR l m rr)) := by
              funext z
              rw [V_give, V_give, V_give, p0]
              by_cases g : z = 0
              · rw [if_pos g, if_pos g]
              · rw [if_neg g, if_neg g]
                by_cases g2 : z = u.page
                · rw [if_pos g2, if_pos g2]; rfl
                · rw [if_neg g2, if_neg g2]
                  by_cases g3 : z = w.page
                  · rw [if_pos g3, if_pos g3]; rfl
                  · rw [if_neg g3, if_neg g3]
                    show up (V W s) t.page r z = _
                    exact up_ne (fun e => T.tt.elim (fun f => g2 (e.trans f)) (fun f => g3 (e.trans f)))
            rw [← e]
            exact Z
          · rw [look_give.1, look_give.1, look_give.1] at hs
            by_cases g : z = p.page
            · rw [g, wp]; exact sp.live
            · by_cases g2 : z = u.page
              · rw [g2]; exact (lz u (by simp)).1
              · by_cases g3 : z = w.page
                · rw [g3]; exact (lz w (by simp)).1
                · rw [if_neg g, if_neg g2, if_neg g3] at hs
                  exact (b1 z hz hs).1
    · refine ⟨.up (woChild lv lo hi ks ps (i + 1)), (s.give w (.free w.page)).give u (joinR l m rr), ?_, .up rfl hp (st_two hS (by omega) (by omega) musw.1 musw.2) ⟨kw1, rfl, by rw [hrc]; rfl, by rw [hrc]; rfl, ?_, fun _ => ?_, fun hj _ => ?_⟩ (fun h => by omega) fun sf => ?_⟩
      · unfold unitePair
        simp only [hS.hp, hp, ht0', er1, hrc, guard, if_true, if_neg hbig, kw1, if_neg hcol]
      · have : mostOf (woChild lv lo hi ks ps (i + 1)) = 5 := by
          unfold mostOf
          rw [if_neg (show ¬ (woChild lv lo hi ks ps (i + 1)).lv = 0 by show ¬ lv = 0; omega)]
        omega
      · omega
      · have : (woChild lv lo hi ks ps (i + 1)).size ≠ 1 := fun e => hcol ⟨hj, e⟩
        omega
      · refine Ends2.step C (mem_of_at hp) (mem_of_at ht) hlvp [u, w] tin (fun wp z hz => curs wp z hz) (fun z hz hne => ?_) (fun wp cz tb' hbel => ?_)
        · have h1 := hne u (by simp)
          have h2 := hne w (by simp)
          rw [look_give.1, look_give.2, if_neg h1, if_neg h1, look_give.1, look_give.2, if_neg h2, if_neg h2]
          exact ⟨rfl, rfl⟩
        · obtain ⟨b1, E⟩ := hbel
          obtain ⟨T, wt, wb⟩ := twoOf wp cz b1
          have lz := lvuw wp
          refine ⟨fun z hz hs => ?_, ?_⟩
          · rw [look_give.1, look_give.1] at hs
            by_cases g : z = u.page
            · rw [g]; exact ⟨(lz u (by simp)).1, (lz u (by simp)).2.1⟩
            · by_cases g2 : z = w.page
              · rw [g2]; exact ⟨(lz w (by simp)).1, (lz w (by simp)).2.1⟩
              · rw [if_neg g, if_neg g2] at hs
                have := b1 z hz hs
                exact ⟨this.1, by omega⟩
          · have Z := E.repl (pp := p.page) (pp' := woChild lv lo hi ks ps (i + 1)) (N := fun z => if z = u.page then some (joinR l m rr) else if z = w.page then some (.free w.page) else none)
              (X := X) (M := [(u.page, (l0, some m)), (w.page, (some m, h0))]) (Y := Y) (M' := [(u.page, (l0, h0))])
              (fun z hz => by
                cases hz
                rcases T.tt with e | e
                · rw [if_pos e]; simp
                · by_cases g : t.page = u.page
                  · rw [if_pos g]; simp
                  · rw [if_neg g, if_pos e]; simp) (by rw [T.Wp, hrc]; exact k0) kw2 (by simp) kw1 (by rw [T.Wp, hrc]; rfl) (by rw [T.Wp, hrc]; rfl) rfl rfl (fun c hc => by
                simp only [List.mem_cons, List.not_mem_nil, or_false] at hc
                rcases hc with rfl | rfl
                · simp
                · show (if w.page = u.page then some (joinR l m rr) else if w.page = w.page then some (.free w.page) else none) ≠ none
                  rw [if_neg T.ne.symm, if_pos rfl]; simp) (fun z hz => ?_) (fun z y hy => ?_) (fun z y hy hyl => ?_) (fun z z' y y' kk hy hy' hl1 hl2 hk1 hk2 => ?_) (fun c hc => ?_)
            · have e : (fun z => if z = p.page then woChild lv lo hi ks ps (i + 1) else ((if z = u.page then some (joinR l m rr) else if z = w.page then some (.free w.page) else none : Option Rec)).getD (up (V W s) t.page r z)) = up (V W ((s.give w (.free w.page)).give u (joinR l m rr))) p.page (woChild lv lo hi ks ps (i + 1)) := by
                funext z
                show _ = if z = p.page then _ else V W ((s.give w (.free w.page)).give u (joinR l m rr)) z
                by_cases g : z = p.page
                · rw [if_pos g, if_pos g]
                · rw [if_neg g, if_neg g, V_give, V_give]
                  by_cases g2 : z = u.page
                  · rw [if_pos g2, if_pos g2]; rfl
                  · rw [if_neg g2, if_neg g2]
                    by_cases g3 : z = w.page
                    · rw [if_pos g3, if_pos g3]; rfl
                    · rw [if_neg g3, if_neg g3]
                      show up (V W s) t.page r z = _
                      exact up_ne (fun e => T.tt.elim (fun f => g2 (e.trans f)) (fun f => g3 (e.trans f)))
              rw [← e]
              exact Z
            · by_cases g : z = u.page
              · exact .inr ⟨(u.page, (l0, some m)), by simp, g.symm⟩
              · rw [if_neg g] at hz
                by_cases g2 : z = w.page
                · exact .inr ⟨(w.page, (some m, h0)), by simp, g2.symm⟩
                · rw [if_neg g2] at hz; exact absurd rfl hz
            · by_cases g : z = u.page
              · rw [if_pos g] at hy; cases hy; exact J.ok
              · rw [if_neg g] at hy
                by_cases g2 : z = w.page
                · rw [if_pos g2] at hy; cases hy; rfl
                · rw [if_neg g2] at hy; cases hy
            · by_cases g : z = u.page
              · rw [if_pos g] at hy; cases hy
                exact ⟨by rw [J.lv, T.Wp]; exact hlu, hjB z, fun kk h => covM kk (by rw [← Jbd]; exact h), fun c hc => kidJ T c hc, fun h1 kk h2 => tabs T E h1 kk (by rw [← Jbd]; exact h2)⟩
              · rw [if_neg g] at hy
                by_cases g2 : z = w.page
                · rw [if_pos g2] at hy; cases hy; cases hyl
                · rw [if_neg g2] at hy; cases hy
            · have one : ∀ {z : Int} {y : Rec}, (if z = u.page then some (joinR l m rr) else if z = w.page then some (.free w.page) else none : Option Rec) = some y → y.live = true → z = u.page := fun {z y} h1 h2 => by
                by_cases g : z = u.page
                · exact g
                · rw [if_neg g] at h1
                  by_cases g2 : z = w.page
                  · rw [if_pos g2] at h1; cases h1; cases h2
                  · rw [if_neg g2] at h1; cases h1
              rw [one hy hl1, one hy' hl2]
            · simp only [List.mem_cons, List.not_mem_nil, or_false] at hc
              rw [hc]
              exact ⟨_, if_pos rfl, J.live, Jbd⟩
end
end Esp

/-! Plain law, part 8: a level, all levels, a plan. -/
namespace Esp
open PySem L2 PyProof.Rows PySem.Spec
section
variable {W : Int → Rec} {ad tb tb' : Int → Option Int} {path : List Step} {sib : List (Int × Step)} {key : Int} {an : An} {s s' sf : Dr} {t : Step} {r : Rec} {k i : Nat}
theorem lv_nn {r : Rec} (o : r.okB = true) (h : r.live = true) : 0 ≤ r.lv := by
  cases r with
  | free n => cases h
  | leaf lo hi ks vs => exact Int.le_refl _
  | inner lv lo hi ks ps => have := (okI_iff.mp o).1; show 0 ≤ lv; omega
theorem plain_end (C : Held W ad tb path sib key) (ht : path[i]? = some t) (hS : St path sib k s) (hr : RecUp t i r) (hm : r.size ≤ mostOf r) (h2 : i = 0 ∨ 2 ≤ r.size) : Outc W ad path sib k i s t r .done (s.give t r) := by
  have st := (C.pok.step t (mem_of_at ht)).1
  refine .done (st_one hS st.nn (.inl (mem_of_at ht))) fun hc => ?_
  have ct : ad t.page = some t.addr := cur_at hc st.nn (by rw [look_give.1, if_pos rfl]; rfl) (by rw [look_give.2, if_pos rfl])
  have wt := C.pcur t (mem_of_at ht) ct
  refine ⟨ct, ⟨fun q q0 q1 q2 => ?_, fun tb' hb => ?_⟩⟩
  · have ne : q ≠ t.page := fun e => by rw [e, wt] at q2; omega
    rw [look_give.1, look_give.2, if_neg ne, if_neg ne]
    exact ⟨rfl, rfl⟩
  · obtain ⟨b1, E⟩ := hb
    have e : V W (s.give t r) = up (V W s) t.page r := by
      funext q
      rw [V_give]
      rfl
    rw [e]
    refine ⟨E.done ?_, fun q q0 hs => ?_⟩
    · rw [up_same]
      refine sizeB_of hr.ok hr.live ?_ hm
      rcases h2 with rfl | h2
      · cases e : r.isLeaf with
        | true => exact .inr ⟨(C.pok.root t ht).1, rfl⟩
        | false => exact .inl (hr.root rfl e)
      · exact .inl h2
    · rw [look_give.1] at hs
      by_cases g : q = t.page
      · rw [g, wt]; exact st.live
      · rw [if_neg g] at hs
        exact (b1 q q0 hs).1
theorem root_end (C : Held W ad tb path sib key) (ht : path[0]? = some t) (hS : St path sib k s) (hr : RecUp t 0 r) {a b : Rec} {m : Int} (cf : CutF r a m b) :
    ∃ s', divide s 0 r = some (.done, s') ∧ Outc W ad path sib k 0 s t r .done s' := by
  have st := (C.pok.step t (mem_of_at ht)).1
  obtain ⟨p0, pbd⟩ := C.pok.root t ht
  have rbd : r.bd = (none, none) := by rw [hr.bd]; exact pbd
  have hl0 := lv_nn hr.ok hr.live
  have ok0 : (Rec.inner (r.lv + 1) none none [m] [-((s.fresh + 1 : Nat) : Int), -((s.fresh + 1 + 1 : Nat) : Int)]).okB = true := by
    refine okI_iff.mpr ⟨by omega, rfl, by show (1 : Nat) ≤ 50; decide, rfl, List.pairwise_singleton _ _, fun x hx => ?_⟩
    exact ⟨rfl, rfl⟩
  refine ⟨((s.add a).add b).give t (Rec.inner (r.lv + 1) none none [m] [-((s.fresh + 1 : Nat) : Int), -((s.fresh + 1 + 1 : Nat) : Int)]), ?_, .done ?_ fun hc => ?_⟩
  · unfold divide
    simp only [cf.eq, hr.ok, cf.oka, cf.okb, Bool.and_self, if_true, hS.hp, ht, ok0]
  · have l1 := put_len s.recs (-((s.fresh + 1 : Nat) : Int)) a
    have l2 := put_len (put s.recs (-((s.fresh + 1 : Nat) : Int)) a) (-((s.fresh + 1 + 1 : Nat) : Int)) b
    have l3 := put_len (put (put s.recs (-((s.fresh + 1 : Nat) : Int)) a) (-((s.fresh + 1 + 1 : Nat) : Int)) b) t.page (Rec.inner (r.lv + 1) none none [m] [-((s.fresh + 1 : Nat) : Int), -((s.fresh + 1 + 1 : Nat) : Int)])
    have l4 := put_len s.adrs t.page t.addr
    have q1 := hS.recs
    have q2 := hS.adrs
    have q3 := hS.fresh
    refine ⟨hS.hp, hS.hs, ?_, ?_, ?_, fun q hq => ?_, fun q hq hs => ?_, src_give (s := (s.add a).add b) hS.src (.inl (mem_of_at ht))⟩
    · show (put (put (put s.recs (-((s.fresh + 1 : Nat) : Int)) a) (-((s.fresh + 1 + 1 : Nat) : Int)) b) t.page _).length ≤ _; omega
    · show (put s.adrs t.page t.addr).length ≤ _; omega
    · show s.fresh + 1 + 1 ≤ _; omega
    · rw [look_give.1, if_neg (by have := st.nn; omega), look_add.1, look_add.1]
      show (if q = -((s.fresh + 1 + 1 : Nat) : Int) then some b else if q = -((s.fresh + 1 : Nat) : Int) then some a else look s.recs q).isSome = true ↔ -((s.fresh + 1 + 1 : Nat) : Int) ≤ q
      by_cases g : q = -((s.fresh + 1 + 1 : Nat) : Int)
      · rw [if_pos g]; exact ⟨fun _ => by omega, fun _ => rfl⟩
      · rw [if_neg g]
        by_cases g2 : q = -((s.fresh + 1 : Nat) : Int)
        · rw [if_pos g2]; exact ⟨fun _ => by omega, fun _ => rfl⟩
        · rw [if_neg g2]
          have := hS.neg q hq
          exact ⟨fun z => by have := this.mp z; omega, fun z => this.mpr (by omega)⟩
    · rw [look_give.1, look_add.1, look_add.1] at hs
      rw [look_give.2, look_add.2, look_add.2]
      by_cases g : q = t.page
      · rw [if_pos g]; rfl
      · have f1 : (0 : Int) ≤ ((s.add a).fresh : Int) := by omega
        rw [if_neg g, if_neg (by omega), if_neg (by omega)] at hs
        rw [if_neg g]
        exact hS.adr q hq hs
  · have ct : ad t.page = some t.addr := cur_at hc st.nn (by rw [look_give.1, if_pos rfl]; rfl) (by rw [look_give.2, if_pos rfl])
    have wt := C.pcur t (mem_of_at ht) ct
    have f1 : (0 : Int) ≤ ((s.add a).fresh : Int) := by omega
    refine ⟨ct, ⟨fun q q0 q1 q2 => ?_, fun tb' hb => ?_⟩⟩
    · have ne : q ≠ t.page := fun e => by rw [e, wt] at q2; omega
      rw [look_give.1, look_give.2, if_neg ne, if_neg ne, look_add.1, look_add.2, if_neg (by omega), look_add.1, look_add.2, if_neg (by omega)]
      exact ⟨rfl, rfl⟩
    · obtain ⟨b1, E⟩ := hb
      rw [p0] at E
      have n1l : ∀ q : Int, q < -(s.fresh : Int) → (up (V W s) 0 r q).live = false := fun q hq => by
        rw [up_ne (by omega)]
        unfold V
        have := hS.neg q (by omega)
        cases e : look s.recs q with
        | none => exact C.neg q (by omega)
        | some x =>
          rw [e] at this
          have := this.mp rfl
          omega
      have W0 : up (V W s) 0 r 0 = r := up_same
      have Z := E.rootcut (r0 := Rec.inner (r.lv + 1) none none [m] [-((s.fresh + 1 : Nat) : Int), -((s.fresh + 1 + 1 : Nat) : Int)]) (N := fun q => if q = -((s.fresh + 1 : Nat) : Int) then some a else if q = -((s.fresh + 1 + 1 : Nat) : Int) then some b else none)
        ok0 rfl rfl rfl (by rw [W0]; rfl) rfl (fun q hq => ?_) (fun q x hx => ?_) (fun q x hx hxl => ?_) (fun q q' x y kk hx hy _ _ hxk hyk => ?_) (fun c hc => ?_)
      · have e : (fun q => if q = 0 then Rec.inner (r.lv + 1) none none [m] [-((s.fresh + 1 : Nat) : Int), -((s.fresh + 1 + 1 : Nat) : Int)] else ((if q = -((s.fresh + 1 : Nat) : Int) then some a else if q = -((s.fresh + 1 + 1 : Nat) : Int) then some b else none : Option Rec)).getD (up (V W s) 0 r q)) = V W (((s.add a).add b).give t (Rec.inner (r.lv + 1) none none [m] [-((s.fresh + 1 : Nat) : Int), -((s.fresh + 1 + 1 : Nat) : Int)])) := by
          funext q
          rw [V_give, V_add, V_add, p0]
          show _ = if q = 0 then _ else if q = -((s.fresh + 1 + 1 : Nat) : Int) then b else if q = -((s.fresh + 1 : Nat) : Int) then a else V W s q
          by_cases g : q = 0
          · rw [if_pos g, if_pos g]
          · rw [if_neg g, if_neg g]
            by_cases g2 : q = -((s.fresh + 1 : Nat) : Int)
            · rw [if_pos g2]
              show a = _
              rw [if_neg (by omega), if_pos g2]
            · rw [if_neg g2]
              by_cases g3 : q = -((s.fresh + 1 + 1 : Nat) : Int)
              · rw [if_pos g3, if_pos g3]; rfl
              · rw [if_neg g3, if_neg g3, if_neg g2]
                show up (V W s) 0 r q = _
                exact up_ne g
        rw [← e]
        refine ⟨Z, fun q q0 hs => ?_⟩
        rw [look_give.1, look_add.1, look_add.1] at hs
        by_cases g : q = t.page
        · rw [g, wt]; exact st.live
        · rw [if_neg g, if_neg (by omega), if_neg (by omega)] at hs
          exact (b1 q q0 hs).1
      · by_cases g : q = -((s.fresh + 1 : Nat) : Int)
        · exact n1l q (by omega)
        · rw [if_neg g] at hq
          by_cases g2 : q = -((s.fresh + 1 + 1 : Nat) : Int)
          · exact n1l q (by omega)
          · rw [if_neg g2] at hq; exact absurd rfl hq
      · by_cases g : q = -((s.fresh + 1 : Nat) : Int)
        · rw [if_pos g] at hx; cases hx; exact cf.oka
        · rw [if_neg g] at hx
          by_cases g2 : q = -((s.fresh + 1 + 1 : Nat) : Int)
          · rw [if_pos g2] at hx; cases hx; exact cf.okb
          · rw [if_neg g2] at hx; cases hx
      · have tabt : r.isLeaf = true → ∀ kk, valOf r kk = tb' kk := fun h1 kk => by
          have := E.tab 0 (by rw [W0]; exact h1) kk (by rw [W0, rbd]; rfl)
          rw [W0] at this
          exact this
        rw [W0]
        by_cases g : q = -((s.fresh + 1 : Nat) : Int)
        · rw [if_pos g] at hx; cases hx
          exact ⟨cf.lva, cf.sza q, fun c hc => by rw [cf.kids]; exact List.mem_append_left _ hc, fun h1 kk h2 => by rw [cf.va kk h2]; exact tabt (by rw [← cf.lfa]; exact h1) kk⟩
        · rw [if_neg g] at hx
          by_cases g2 : q = -((s.fresh + 1 + 1 : Nat) : Int)
          · rw [if_pos g2] at hx; cases hx
            exact ⟨cf.lvb, cf.szb q, fun c hc => by rw [cf.kids]; exact List.mem_append_right _ hc, fun h1 kk h2 => by rw [cf.vb kk h2]; exact tabt (by rw [← cf.lfb]; exact h1) kk⟩
          · rw [if_neg g2] at hx; cases hx
      · have dis : inB a.bd kk = true → inB b.bd kk = true → False := fun h1 h2 => by
          rw [cf.bda] at h1
          rw [cf.bdb] at h2
          have := (inB_iff.mp h1).2 m rfl
          have := (inB_iff.mp h2).1 m rfl
          omega
        by_cases g : q = -((s.fresh + 1 : Nat) : Int) <;> by_cases g' : q' = -((s.fresh + 1 : Nat) : Int)
        · rw [g, g']
        · rw [if_pos g] at hx
          rw [if_neg g'] at hy
          cases hx
          by_cases g2 : q' = -((s.fresh + 1 + 1 : Nat) : Int)
          · rw [if_pos g2] at hy; cases hy; exact (dis hxk hyk).elim
          · rw [if_neg g2] at hy; cases hy
        · rw [if_neg g] at hx
          rw [if_pos g'] at hy
          cases hy
          by_cases g2 : q = -((s.fresh + 1 + 1 : Nat) : Int)
          · rw [if_pos g2] at hx; cases hx; exact (dis hyk hxk).elim
          · rw [if_neg g2] at hx; cases hx
        · rw [if_neg g] at hx
          rw [if_neg g'] at hy
          by_cases g2 : q = -((s.fresh + 1 + 1 : Nat) : Int)
          · by_cases g3 : q' = -((s.fresh + 1 + 1 : Nat) : Int)
            · rw [g2, g3]
            · rw [if_neg g3] at hy; cases hy
          · rw [if_neg g2] at hx; cases hx
      · have hc : c ∈ [(-((s.fresh + 1 : Nat) : Int), ((none, some m) : Bd)), (-((s.fresh + 1 + 1 : Nat) : Int), (some m, none))] := hc
        simp only [List.mem_cons, List.not_mem_nil, or_false] at hc
        rcases hc with rfl | rfl
        · exact ⟨a, if_pos rfl, cf.la, by rw [cf.bda, rbd]⟩
        · refine ⟨b, ?_, cf.lb, by rw [cf.bdb, rbd]⟩
          show (if -((s.fresh + 1 + 1 : Nat) : Int) = -((s.fresh + 1 : Nat) : Int) then some a else if -((s.fresh + 1 + 1 : Nat) : Int) = -((s.fresh + 1 + 1 : Nat) : Int) then some b else none) = some b
          rw [if_neg (by omega), if_pos rfl]
theorem settle_step (C : Held W ad tb path sib key) (ht : path[i]? = some t) (hS : St path sib k s) (hk : k + i + 1 = path.length) (hlen : path.length ≤ 300) (hr : RecUp t i r) : ∃ res s', settle s i r = some (res, s') ∧ Outc W ad path sib k i s t r res s' := by
  have hsm : (s.small && r.live) = true := by
    have h1 := hS.recs
    have h2 := hS.adrs
    have h3 := hS.fresh
    rw [Bool.and_eq_true]
    refine ⟨?_, hr.live⟩
    unfold Dr.small
    simp only [Bool.and_eq_true, decide_eq_true_eq, hS.hp]
    omega
  unfold settle
  rw [if_pos hsm]
  have hmost := hr.most
  by_cases hbig : mostOf r < r.size
  · rw [if_pos hbig]
    obtain ⟨a, m, b, cf⟩ := cut_spec hr.ok hr.live (by omega)
    cases i with
    | zero =>
      obtain ⟨s', h1, h2⟩ := root_end C ht hS hr cf
      exact ⟨_, s', h1, h2⟩
    | succ j =>
      obtain ⟨p, hp⟩ : ∃ p, path[j]? = some p := ⟨_, List.getElem?_eq_getElem (show j < path.length by omega)⟩
      obtain ⟨lv, lo, hi, ks, ps, hrc, ok, s1, s2, _, hlv, ht0, sp, st⟩ := parent_of C hp ht
      cases hpl : placeIn lo hi ks ps t with
      | none =>
        refine ⟨.stale, s, ?_, .stale fun hch => (hch j p t lv lo hi ks ps hp ht hrc hpl).elim⟩
        unfold divide
        simp only [cf.eq, hr.ok, cf.oka, cf.okb, Bool.and_self, if_true, hS.hp, ht, hp, hrc, ok, st.live, hpl]
      | some pl =>
        obtain ⟨h1, h2, h3, h4, h5⟩ := cut_step C hp ht hS hr hrc hpl cf
        exact ⟨_, _, h1, .up rfl hp h2 h3 (fun _ => h4) h5⟩
  · rw [if_neg hbig]
    cases i with
    | zero =>
      refine ⟨.done, s.give t r, ?_, plain_end C ht hS hr (by omega) (.inl rfl)⟩
      simp only [hS.hp, ht]
    | succ j =>
      by_cases hsz : r.size < 2
      · simp only [if_pos hsz]
        obtain ⟨p, hp⟩ : ∃ p, path[j]? = some p := ⟨_, List.getElem?_eq_getElem (show j < path.length by omega)⟩
        obtain ⟨lv, lo, hi, ks, ps, hrc, ok, s1, s2, _, hlv, ht0, sp, st⟩ := parent_of C hp ht
        have hps := (okI_iff.mp ok).2.1
        unfold unite
        simp only [hS.hp, ht, hp, hrc, ok, st.live, Bool.and_self, if_true]
        cases hpl : placeIn lo hi ks ps t with
        | none => exact ⟨.stale, s, rfl, .stale fun _ z => by omega⟩
        | some pl =>
          obtain ⟨q1, q2⟩ := place_some hpl
          have hplt : pl < ps.length := (List.getElem?_eq_some_iff.mp q1).1
          have hidx : (if pl = 0 then 1 else pl - 1) < ps.length := by split <;> omega
          obtain ⟨page, hpage⟩ : ∃ x, ps[if pl = 0 then 1 else pl - 1]? = some x := ⟨_, List.getElem?_eq_getElem hidx⟩
          simp only [hpage]
          cases hb : look s.sib page with
          | none =>
            rw [hS.hs] at hb
            refine ⟨.read page, s, rfl, .read hb (mem_of_at hp) (by rw [hrc]; exact kid_mem ok hpage) (by omega)⟩
          | some b =>
            rw [hS.hs] at hb
            obtain ⟨bp, sbk⟩ := C.sok page b hb
            simp only
            by_cases g1 : b.rc.lv = r.lv
            · rw [if_pos g1]
              have bl : b.rc.live = true := by
                have := lv_nn hr.ok hr.live
                cases e : b.rc with
                | free n =>
                  rw [e] at g1
                  have g1 : (-1 : Int) = r.lv := g1
                  omega
                | leaf lo hi ks vs => rfl
                | inner lv lo hi ks ps => rfl
              rw [if_pos ⟨bl, by split <;> omega⟩]
              by_cases g2 : b.rc.bd = childB lo hi ks (if pl = 0 then 1 else pl - 1)
              · rw [if_pos g2]
                cases pl with
                | zero =>
                  rw [if_pos rfl] at hpage g2 ⊢
                  exact pair_step C hp ht hS hr hrc hsz hb bl g1 (.inl ⟨rfl, rfl, rfl, rfl⟩) (i := 0) q1 (by rw [bp]; exact hpage) (by rw [hr.bd]; exact q2.symm) g2
                | succ pl =>
                  rw [if_neg (Nat.succ_ne_zero pl)] at hpage g2 ⊢
                  rw [Nat.add_sub_cancel] at hpage g2
                  exact pair_step C hp ht hS hr hrc hsz hb bl g1 (.inr ⟨rfl, rfl, rfl, rfl⟩) (i := pl) (by rw [bp]; exact hpage) q1 g2 (by rw [hr.bd]; exact q2.symm)
              · rw [if_neg g2]; exact ⟨.stale, s, rfl, .stale fun _ z => by omega⟩
            · rw [if_neg g1]; exact ⟨.stale, s, rfl, .stale fun _ z => by omega⟩
      · simp only [if_neg hsz]
        refine ⟨.done, s.give t r, ?_, plain_end C ht hS hr (by omega) (.inr (by omega))⟩
        simp only [hS.hp, ht]
theorem loop_all (C : Held W ad tb path sib key) (hlen : path.length ≤ 300) : ∀ (i k : Nat) (s : Dr) (t : Step) (r : Rec), path[i]? = some t → St path sib k s → k + i + 1 = path.length → RecUp t i r →
    ∃ told, planLoop an i s r = some told ∧ Good W ad path sib an s t r told ∧ (Chain path → (i = 0 ∨ 2 ≤ r.size) → ∃ a es, told = .change a es) := by
  intro i
  induction i with
  | zero =>
    intro k s t r ht hS hk hr
    obtain ⟨res, s', h1, h2⟩ := settle_step C ht hS hk hlen hr
    unfold planLoop
    rw [h1]
    cases h2 with
    | done g1 g2 =>
      have eo := entries_ok (s := s') g1 (by omega) (by rw [g1.hp]; omega) rfl
      exact ⟨.change an (entriesL s'), by simp only [eo, if_true], ⟨rfl, s', rfl, ⟨k + 1, by omega, g1⟩, g2⟩, fun _ _ => ⟨_, _, rfl⟩⟩
    | up e => cases e
    | read g1 g2 g3 g4 => exact ⟨.read _, rfl, ⟨g1, _, g2, _, g3⟩, fun _ z => absurd z g4⟩
    | stale g1 => exact ⟨.stale, rfl, trivial, fun hc z => absurd z (g1 hc)⟩
  | succ j ih =>
    intro k s t r ht hS hk hr
    obtain ⟨res, s', h1, h2⟩ := settle_step C ht hS hk hlen hr
    unfold planLoop
    rw [h1]
    cases h2 with
    | done g1 g2 =>
      have eo := entries_ok (s := s') g1 (by omega) (by rw [g1.hp]; omega) rfl
      exact ⟨.change an (entriesL s'), by simp only [eo, if_true], ⟨rfl, s', rfl, ⟨k + 1, by omega, g1⟩, g2⟩, fun _ _ => ⟨_, _, rfl⟩⟩
    | up e g1 g2 g3 g4 g5 =>
      cases e
      obtain ⟨told, i1, i2, i3⟩ := ih (k + 1) s' _ _ g1 g2 (by omega) g3
      refine ⟨told, i1, ?_, fun hc z => i3 hc (.inr (g4 (by omega)))⟩
      cases told with
      | read q => exact i2
      | answer a => exact i2
      | stale => trivial
      | change a es =>
        obtain ⟨e1, sf, e2, e3⟩ := i2
        exact ⟨e1, sf, e2, g5 sf e3⟩
    | read g1 g2 g3 g4 => exact ⟨.read _, rfl, ⟨g1, _, g2, _, g3⟩, fun _ z => absurd z g4⟩
    | stale g1 => exact ⟨.stale, rfl, trivial, fun hc z => absurd z (g1 hc)⟩
end
end Esp

/-! Plain law, part 9: what a plan tells. -/
namespace Esp
open PySem L2 PyProof.Rows PySem.Spec
def isPut : Call → Bool
  | .put .. => true
  | _ => false
/-- what is told of the leaf t -/
def Tells (W : Int → Rec) (ad tb : Int → Option Int) (path : List Step) (sib : List (Int × Step)) (c : Call) (t : Step) : Told → Prop
  | .read q => look sib q = none ∧ ∃ p ∈ path, ∃ b, (q, b) ∈ kidsOf p.rc
  | .answer a => a = (ansOf c (valOf t.rc c.key)).1 ∧ (ansOf c (valOf t.rc c.key)).2 = none
  | .stale => True
  | .change a es => a = (ansOf c (valOf t.rc c.key)).1 ∧ ∃ nv sf, (ansOf c (valOf t.rc c.key)).2 = some nv ∧ (∃ k, k ≤ path.length ∧ St path sib k sf) ∧ es = entriesL sf ∧
      (Cur ad es → ad t.page = some t.addr ∧ ∀ tb' : Int → Option Int, (∀ j, tb' j = if j = c.key then nv else tb j) → Exa (V W sf) tb' none ∧ ∀ p : Int, 0 ≤ p → (look sf.recs p).isSome = true → (W p).live = true)
section
variable {W : Int → Rec} {ad tb : Int → Option Int} {path : List Step} {sib : List (Int × Step)} {t : Step} {c : Call}
theorem st_start : St path sib 0 ⟨path, sib, [], [], 0⟩ := by
  refine ⟨rfl, rfl, Nat.le_refl _, Nat.le_refl _, Nat.le_refl _, fun p hp => ?_, fun p hp h => ?_, fun p a h => (by cases h)⟩
  · constructor
    · intro z; cases z
    · intro z
      have z : -((0 : Nat) : Int) ≤ p := z
      omega
  · cases h
theorem plan_all (C : Held W ad tb path sib c.key) (hlen : path.length ≤ 300) (hl : path.getLast? = some t) (hlf : t.rc.isLeaf = true) :
    ∃ told, planR c path sib = some told ∧ Tells W ad tb path sib c t told ∧ (Chain path → isPut c = true → (∃ a, told = .answer a) ∨ ∃ a es, told = .change a es) := by
  have hmem : t ∈ path := List.mem_of_getLast? hl
  obtain ⟨st, hcov⟩ := C.pok.step t hmem
  have hne : path ≠ [] := by intro e; rw [e] at hl; cases hl
  have hpos : 0 < path.length := List.length_pos_iff.mpr hne
  have hat : path[path.length - 1]? = some t := by rw [← List.getLast?_eq_getElem?]; exact hl
  cases hr : t.rc with
  | free n => rw [hr] at hlf; cases hlf
  | inner lv lo hi ks ps => rw [hr] at hlf; cases hlf
  | leaf lo hi ks vs =>
  have ok := st.ok
  rw [hr] at ok
  have hsz := st.size
  rw [hr] at hsz
  unfold sizeB at hsz
  simp only [Bool.and_eq_true, Bool.or_eq_true, decide_eq_true_eq] at hsz
  rw [hr] at hcov
  have hcov : inB (lo, hi) c.key = true := hcov
  have hlc : leafChange c (Rec.leaf lo hi ks vs) = ((ansOf c (valIn ks vs c.key)).1, (ansOf c (valIn ks vs c.key)).2.map (leafTo lo hi ks vs c.key)) := rfl
  unfold planR
  rw [hl]
  simp only [hr, ok, Rec.isLeaf, Bool.true_and, decide_eq_true (show path.length ≤ 5000 by omega), if_true, hlc]
  cases ha : (ansOf c (valIn ks vs c.key)).2 with
  | none =>
    refine ⟨.answer (ansOf c (valIn ks vs c.key)).1, rfl, ⟨?_, ?_⟩, fun _ _ => .inl ⟨_, rfl⟩⟩
    · rw [hr]; rfl
    · rw [hr]; exact ha
  | some nv =>
    have hn : nv = none → c.key ∈ ks := fun z => by
      subst z
      cases c with
      | put k v => simp only [ansOf] at ha; split at ha <;> cases ha
      | add k v => simp only [ansOf] at ha; split at ha <;> cases ha
      | change k o n => simp only [ansOf] at ha; split at ha; (split at ha <;> cases ha); cases ha
      | look k => simp only [ansOf] at ha; cases ha
      | take k =>
        cases e : valIn ks vs k with
        | none => simp only [ansOf, Call.key, e] at ha; cases ha
        | some y => exact valIn_mem e
    have F := leafTo_spec (nv := nv) ok (by omega) hcov hn
    generalize hrr : leafTo lo hi ks vs c.key nv = r at F
    have hll := live_leaf F.lf
    have h0 : path.length - 1 = 0 ∨ 0 < t.page := by
      cases e : path.length - 1 with
      | zero => exact .inl rfl
      | succ j =>
        obtain ⟨p, hp⟩ : ∃ p, path[j]? = some p := ⟨_, List.getElem?_eq_getElem (show j < path.length by omega)⟩
        rw [e] at hat
        obtain ⟨_, _, _, _, _, _, _, _, _, _, _, h, _, _⟩ := parent_of C hp hat
        exact .inr h
    have hup : RecUp t (path.length - 1) r := by
      refine ⟨F.ok, hll.1, by rw [hll.2.1, hr]; rfl, by rw [F.bd, hr]; rfl, ?_, fun z => ?_, fun _ z => by rw [F.lf] at z; cases z⟩
      · have : mostOf r = 4 := by unfold mostOf; rw [if_pos hll.2.1]
        have := F.up
        omega
      · have h2 : 2 ≤ vs.length := by omega
        cases nv with
        | none => have := F.gone rfl; omega
        | some v => have := F.dn v rfl; omega
    obtain ⟨told, e1, e2, e3⟩ := loop_all (an := (ansOf c (valIn ks vs c.key)).1) C hlen (path.length - 1) 0 ⟨path, sib, [], [], 0⟩ t r hat st_start (by omega) hup
    refine ⟨told, ?_, ?_, fun hc hput => ?_⟩
    · simp only [Option.map_some, hrr, F.ok, if_true]
      exact e1
    · cases told with
      | read q => exact e2
      | answer a => exact e2.elim
      | stale => trivial
      | change a es =>
        obtain ⟨g1, sf, g2, g3, g4⟩ := e2
        refine ⟨by rw [g1, hr]; rfl, nv, sf, by rw [hr]; exact ha, g3, g2, fun hc => ?_⟩
        rw [g2] at hc
        obtain ⟨c1, c2⟩ := g4 hc
        have wt := C.pcur t hmem c1
        refine ⟨c1, fun tb' htb => c2.ex tb' ⟨fun p _ h => (by cases h), ?_⟩⟩
        have hv : V W ⟨path, sib, [], [], 0⟩ = W := rfl
        rw [hv]
        refine C.ex.leaf (by rw [wt, hr]; rfl) F.lf F.ok (by rw [F.bd, wt, hr]; rfl) (fun k hk => ?_) (fun k hk => ?_)
        · rw [F.val, htb]
          by_cases g : k = c.key
          · rw [if_pos g, if_pos g]
          · rw [if_neg g, if_neg g]
            have z := C.ex.tab t.page (by rw [wt, hr]; rfl) k (by rw [wt, hr]; rw [F.bd] at hk; exact hk)
            rw [wt, hr] at z
            exact z
        · rw [htb, if_neg]
          intro g
          rw [F.bd, g, hcov] at hk
          cases hk
    · refine .inr (e3 hc ?_)
      rcases h0 with h | h
      · exact .inl h
      · have h2 : 2 ≤ vs.length := by omega
        right
        cases c with
        | put k v =>
          cases nv with
          | none =>
            simp only [ansOf] at ha
            split at ha <;> cases ha
          | some v' => have := F.dn v' rfl; omega
        | add k v => cases hput
        | change k o n => cases hput
        | take k => cases hput
        | look k => cases hput
end
end Esp

/-! Plain law, part 10: a plan is carried out. -/
namespace Esp
open PySem L2 PyProof.Rows PySem.Spec
def recAt (pg : Pgs) (p : Int) : Rec := match look pg p with
  | some (_, r) => r
  | none => .free 0
def adAt (pg : Pgs) (p : Int) : Option Int := (look pg p).map (·.1)
structure PgOk (pg : Pgs) (tb : Int → Option Int) : Prop where
  ex : Exa (recAt pg) tb none
  dom : ∀ p : Int, (look pg p).isSome = true → 0 ≤ p ∧ p < 200
  nd : (pg.map (·.1)).Nodup
structure Grow (pg pg' : Pgs) : Prop where
  keep : ∀ p, (look pg p).isSome = true → (look pg' p).isSome = true
  most : mostAddr pg ≤ mostAddr pg'
  same : ∀ p a, adAt pg' p = some a → a ≤ mostAddr pg → look pg' p = look pg p
theorem recAt_some {pg : Pgs} {p a : Int} {r : Rec} (h : look pg p = some (a, r)) : recAt pg p = r ∧ adAt pg p = some a := by
  unfold recAt adAt
  rw [h]
  exact ⟨rfl, rfl⟩
theorem recAt_live {pg : Pgs} {p : Int} (h : (recAt pg p).live = true) : (look pg p).isSome = true := by
  unfold recAt at h
  cases e : look pg p with
  | none => rw [e] at h; cases h
  | some y => rfl
theorem freeB_iff {pg : Pgs} {p : Int} : freeB pg p = !(recAt pg p).live := by
  unfold freeB recAt
  cases e : look pg p with
  | none => rfl
  | some y => rfl
theorem key_look {α : Type} {l : List (Int × α)} {k : Int} (h : (look l k).isSome = true) : k ∈ l.map (·.1) := by
  obtain ⟨y, hy⟩ := Option.isSome_iff_exists.mp h
  exact List.mem_map.mpr ⟨(k, y), look_mem hy, rfl⟩
theorem addr_le {pg : Pgs} {p a : Int} (h : adAt pg p = some a) : a ≤ mostAddr pg := by
  unfold adAt at h
  cases e : look pg p with
  | none => rw [e] at h; cases h
  | some y =>
    rw [e] at h
    refine maxA_le a (List.mem_map.mpr ⟨p, key_look (by rw [e]; rfl), ?_⟩)
    rw [e]
    cases h
    rfl
theorem most_mem {pg : Pgs} (h : pg ≠ []) : ∃ p, adAt pg p = some (mostAddr pg) := by
  have hne : (pg.map (·.1)).map (fun k => ((look pg k).map (·.1)).getD 0) ≠ [] := by
    intro z
    rw [List.map_eq_nil_iff, List.map_eq_nil_iff] at z
    exact h z
  have := maxA_mem hne
  obtain ⟨p, hp, e⟩ := List.mem_map.mp this
  obtain ⟨y, hy⟩ := look_key hp
  refine ⟨p, ?_⟩
  rw [hy] at e
  unfold adAt
  rw [hy]
  show some y.1 = some (mostAddr pg)
  rw [show y.1 = mostAddr pg from e]
theorem put_nd {α : Type} {l : List (Int × α)} {k : Int} {v : α} (h : (l.map (·.1)).Nodup) : ((put l k v).map (·.1)).Nodup := by
  unfold put
  split
  case isTrue g =>
    rw [List.map_map]
    have : ((fun x : Int × α => x.1) ∘ fun p : Int × α => if p.1 = k then (p.1, v) else p) = fun p => p.1 := by
      funext p
      show (if p.1 = k then (p.1, v) else p).1 = p.1
      split <;> rfl
    rw [this]
    exact h
  case isFalse g =>
    rw [List.map_append, List.nodup_append]
    refine ⟨h, by simp, fun x hx y hy => ?_⟩
    rw [List.map_cons, List.map_nil, List.mem_singleton] at hy
    rw [hy]
    intro e
    subst e
    obtain ⟨z, hz⟩ := look_key hx
    rw [look_any, hz] at g
    exact g rfl
theorem apply_nd : ∀ (es : List En) (most : Int) (pg : Pgs), (pg.map (·.1)).Nodup → ((applyGo most pg es).map (·.1)).Nodup
  | [], _, _, h => h
  | e :: es, most, pg, h => apply_nd es _ _ (put_nd h)
theorem apply_spec : ∀ (es : List En) (most : Int) (pg : Pgs), (∀ e ∈ es, ∀ e' ∈ es, e.page = e'.page → e.rc = e'.rc) → ∀ p,
    (∃ e ∈ es, e.page = p ∧ ∃ a, most < a ∧ look (applyGo most pg es) p = some (a, e.rc)) ∨ ((∀ e ∈ es, e.page ≠ p) ∧ look (applyGo most pg es) p = look pg p)
  | [], _, _, _, p => .inr ⟨fun e he => (nomatch he), rfl⟩
  | e :: es, most, pg, h, p => by
    rcases apply_spec es (most + 1) (put pg e.page (most + 1, e.rc)) (fun x hx y hy => h x (List.mem_cons_of_mem _ hx) y (List.mem_cons_of_mem _ hy)) p with ⟨x, h1, h2, a, h3, h4⟩ | ⟨h1, h2⟩
    · exact .inl ⟨x, List.mem_cons_of_mem _ h1, h2, a, by omega, h4⟩
    · rw [look_put] at h2
      by_cases g : p = e.page
      · rw [if_pos g] at h2
        exact .inl ⟨e, List.mem_cons_self, g.symm, most + 1, by omega, h2⟩
      · rw [if_neg g] at h2
        refine .inr ⟨fun x hx => ?_, h2⟩
        rcases List.mem_cons.mp hx with rfl | hx
        · exact fun z => g z.symm
        · exact h1 x hx
theorem free_mem {pg : Pgs} {n : Nat} {q : Int} (h : q ∈ freeOf pg n) : freeB pg q = true ∧ 1 ≤ q ∧ q < 200 := by
  have h := List.mem_of_mem_take h
  rw [List.mem_filter] at h
  obtain ⟨h1, h2⟩ := h
  obtain ⟨i, hi, rfl⟩ := List.mem_map.mp h1
  rw [List.mem_range] at hi
  exact ⟨h2, by omega, by omega⟩
theorem free_nd {pg : Pgs} {n : Nat} : (freeOf pg n).Nodup := by
  unfold freeOf
  refine List.Nodup.sublist (List.take_sublist _ _) (List.Pairwise.filter _ ?_)
  rw [List.pairwise_map]
  exact List.Pairwise.imp (fun h => by omega) (List.nodup_range (n := 199))
theorem len_sub : ∀ {l m : List Int}, l.Nodup → (∀ x ∈ l, x ∈ m) → l.length ≤ m.length
  | [], _, _, _ => Nat.zero_le _
  | x :: l, m, nd, h => by
    have hx := h x List.mem_cons_self
    obtain ⟨n1, n2⟩ := List.nodup_cons.mp nd
    have ih := len_sub (l := l) (m := m.erase x) n2 fun y hy => (List.mem_erase_of_ne (fun e => n1 (by rw [← e]; exact hy))).mpr (h y (List.mem_cons_of_mem _ hy))
    rw [List.length_erase_of_mem hx] at ih
    have := List.length_pos_of_mem hx
    rw [List.length_cons]
    omega
theorem len_le {l : List Int} {n : Nat} (nd : l.Nodup) (h : ∀ x ∈ l, 0 ≤ x ∧ x < (n : Int)) : l.length ≤ n := by
  have hs : l ⊆ (List.range n).map fun (i : Nat) => (i : Int) := fun x hx => by
    obtain ⟨h1, h2⟩ := h x hx
    exact List.mem_map.mpr ⟨x.toNat, List.mem_range.mpr (by omega), by omega⟩
  have := len_sub nd hs
  rw [List.length_map, List.length_range] at this
  exact this
section
variable {pg pg' : Pgs} {tb : Int → Option Int} {path : List Step} {sib : List (Int × Step)} {t : Step} {c : Call} {a : An} {es : List En} {sf : Dr} {k : Nat}
theorem pg_len (P : PgOk pg tb) : pg.length ≤ 200 := by
  rw [← List.length_map (f := fun x : Int × (Int × Rec) => x.1)]
  refine len_le P.nd fun x hx => ?_
  obtain ⟨y, hy⟩ := look_key hx
  have := P.dom x (by rw [hy]; rfl)
  omega
theorem pg_ne (P : PgOk pg tb) : pg ≠ [] := by
  intro e
  have := recAt_live P.ex.live0
  rw [e] at this
  cases this
theorem pg_neg (P : PgOk pg tb) : ∀ p : Int, p < 0 → (recAt pg p).live = false := fun p hp => by
  cases e : (recAt pg p).live with
  | false => rfl
  | true =>
    have := P.dom p (recAt_live e)
    omega
/-- an entry -/
theorem entry_of {e : En} (h : e ∈ entriesL sf) (hS : St path sib k sf) : (look sf.recs e.page).isSome = true ∧ e.addr = look sf.adrs e.page ∧ e.rc = (look sf.recs e.page).getD (.free 0) ∧ (e.page < 0 → -(sf.fresh : Int) ≤ e.page) := by
  unfold entriesL pagesOf at h
  obtain ⟨p, hp, rfl⟩ := List.mem_map.mp h
  rcases List.mem_append.mp hp with hp | hp
  · have := (srt_perm _).mem_iff.mp hp
    rw [List.mem_filter, decide_eq_true_eq] at this
    obtain ⟨h1, h2⟩ := this
    obtain ⟨y, hy⟩ := look_key h1
    exact ⟨by rw [hy]; rfl, rfl, rfl, fun z => by have z : p < 0 := z; omega⟩
  · obtain ⟨i, hi, rfl⟩ := List.mem_map.mp hp
    rw [List.mem_range] at hi
    have z := (hS.neg (-1 - (i : Int)) (by omega)).mpr (by omega)
    exact ⟨z, rfl, rfl, fun _ => by show -(sf.fresh : Int) ≤ -1 - (i : Int); omega⟩
theorem entry_for {p : Int} (h : (look sf.recs p).isSome = true) (hS : St path sib k sf) : ∃ e ∈ entriesL sf, e.page = p := by
  by_cases h0 : 0 ≤ p
  · obtain ⟨e, h1, h2, _⟩ := entries_mem h0 h
    exact ⟨e, h1, h2⟩
  · have := (hS.neg p (by omega)).mp h
    refine ⟨⟨p, look sf.adrs p, (look sf.recs p).getD (.free 0)⟩, ?_, rfl⟩
    unfold entriesL pagesOf
    exact List.mem_map.mpr ⟨p, List.mem_append_right _ (List.mem_map.mpr ⟨(-1 - p).toNat, List.mem_range.mpr (by omega), by omega⟩), rfl⟩
theorem new_count (hS : St path sib k sf) : newPages (entriesL sf) = sf.fresh := by
  unfold newPages entriesL pagesOf
  rw [List.filter_map, List.length_map, List.filter_append, List.length_append]
  have h1 : ∀ (p : Int), p ∈ srt ((sf.recs.map (·.1)).filter fun p => decide (0 ≤ p)) → ¬ (((fun e : En => decide (e.page < 0)) ∘ fun p => (⟨p, look sf.adrs p, (look sf.recs p).getD (.free 0)⟩ : En)) p = true) := by
    intro p hp
    have := (srt_perm _).mem_iff.mp hp
    rw [List.mem_filter, decide_eq_true_eq] at this
    show ¬ decide (p < 0) = true
    simp; omega
  have h2 : ∀ (p : Int), p ∈ (List.range sf.fresh).map (fun (i : Nat) => -1 - (i : Int)) → (((fun e : En => decide (e.page < 0)) ∘ fun p => (⟨p, look sf.adrs p, (look sf.recs p).getD (.free 0)⟩ : En)) p = true) := by
    intro p hp
    obtain ⟨i, _, rfl⟩ := List.mem_map.mp hp
    show decide (-1 - (i : Int) < 0) = true
    exact decide_eq_true (by omega)
  rw [List.filter_eq_nil_iff.mpr h1, List.filter_eq_self.mpr h2, List.length_map, List.length_range]
  exact Nat.zero_add _
theorem entries_len (hS : St path sib k sf) : (entriesL sf).length ≤ 8 * k := by
  unfold entriesL pagesOf
  rw [List.length_map, List.length_append, List.length_map, List.length_range, (srt_perm _).length_eq]
  have h1 := List.length_filter_le (fun p : Int => decide (0 ≤ p)) (sf.recs.map (·.1))
  rw [List.length_map] at h1
  have := hS.recs
  have := hS.fresh
  omega
theorem ren_same {ρ : Int → Int} {r : Rec} (o : r.okB = true) (h : ∀ c ∈ kidsOf r, ρ c.1 = c.1) : renP ρ r = r := by
  cases r with
  | leaf lo hi ks vs => rfl
  | free n => rfl
  | inner lv lo hi ks ps =>
    show Rec.inner lv lo hi ks (ps.map ρ) = _
    have e := kids_ps o
    have : ps.map ρ = ps := by
      rw [← List.map_id'' (f := fun x : Int => x) (fun _ => rfl) ps]
      rw [List.map_map]
      refine List.map_congr_left fun q hq => ?_
      have : q ∈ (kidsOf (.inner lv lo hi ks ps)).map (·.1) := by rw [e]; exact hq
      obtain ⟨c, hc, rfl⟩ := List.mem_map.mp this
      exact h c hc
    rw [this]
theorem renRec_eq (ps : List Int) (r : Rec) : renRec ps r = renP (fun q => realPage q ps) r := by cases r <;> rfl
theorem apply_all (P : PgOk pg tb) (C : Held (recAt pg) (adAt pg) tb path sib c.key) (hlen : path.length ≤ 15) (hF : ∀ n, n ≤ 40 → (freeOf pg n).length = n) (ht : t ∈ path) (hlf : t.rc.isLeaf = true) (hT : Tells (recAt pg) (adAt pg) tb path sib c t (.change a es)) :
    appOk pg es = true ∧ ∀ pg', appliedR pg es = some pg' → ∃ nv, (ansOf c (tb c.key)).2 = some nv ∧ a = (ansOf c (tb c.key)).1 ∧ PgOk pg' (fun j => if j = c.key then nv else tb j) ∧ Grow pg pg' := by
  obtain ⟨ha, nv, sf, hnv, ⟨k, hk, hS⟩, rfl, hcur⟩ := hT
  have hfr : sf.fresh ≤ 30 := by have := hS.fresh; omega
  have hnames : (namesOf pg (entriesL sf)).length = sf.fresh := by
    unfold namesOf
    rw [new_count hS, hF _ (by omega)]
  have hcurB : (entriesL sf).all (curB pg) = true → Cur (adAt pg) (entriesL sf) := fun h e he => by
    have := List.all_eq_true.mp h e he
    unfold curB at this
    rw [Bool.or_eq_true, decide_eq_true_eq, decide_eq_true_eq] at this
    exact this
  -- the tree with the new pages under their own names
  have main : Cur (adAt pg) (entriesL sf) → adAt pg t.page = some t.addr ∧ Exa (V (recAt pg) sf) (fun j => if j = c.key then nv else tb j) none ∧ ∀ p : Int, 0 ≤ p → (look sf.recs p).isSome = true → (recAt pg p).live = true := fun h => by
    obtain ⟨h1, h2⟩ := hcur h
    obtain ⟨h3, h4⟩ := h2 (fun j => if j = c.key then nv else tb j) fun _ => rfl
    exact ⟨h1, h3, h4⟩
  have vlive : ∀ p : Int, p < 0 → (V (recAt pg) sf p).live = true → -(sf.fresh : Int) ≤ p := fun p hp hl => by
    unfold V at hl
    cases e : look sf.recs p with
    | none => rw [e] at hl; have hl : (recAt pg p).live = true := hl; rw [pg_neg P p hp] at hl; cases hl
    | some y => exact (hS.neg p hp).mp (by rw [e]; rfl)
  refine ⟨?_, fun pg' happ => ?_⟩
  · unfold appOk
    simp only [Bool.and_eq_true, decide_eq_true_eq, List.all_eq_true, Bool.or_eq_true, Bool.not_eq_true']
    refine ⟨pg_ne P, by have := pg_len P; omega, by have := entries_len hS; omega, fun e he => ?_, ?_⟩
    · by_cases g : e.page < 0
      · exact .inl g
      · obtain ⟨e1, e2, _⟩ := entry_of he hS
        rw [e2]
        exact .inr (hS.adr e.page (by omega) e1)
    · cases hall : (entriesL sf).all (curB pg) with
      | false => exact .inl rfl
      | true =>
        right
        obtain ⟨_, E, _⟩ := main (hcurB hall)
        intro e he
        obtain ⟨e1, e2, e3, e4⟩ := entry_of he hS
        have hpok : ∀ q : Int, (q < 0 → -(sf.fresh : Int) ≤ q) → pageOk q (namesOf pg (entriesL sf)).length = true := fun q hq => by
          unfold pageOk
          rw [hnames]
          exact decide_eq_true fun z => by have := hq z; omega
        refine ⟨hpok _ e4, ?_⟩
        have ev : e.rc = V (recAt pg) sf e.page := by
          rw [e3]
          unfold V
          obtain ⟨y, hy⟩ := Option.isSome_iff_exists.mp e1
          rw [hy]; rfl
        have okv := E.ok e.page
        rw [← ev] at okv
        cases hrc : e.rc with
        | leaf lo hi ks vs => rfl
        | free n => rfl
        | inner lv lo hi ks ps =>
          rw [hrc] at okv
          obtain ⟨_, o1, o2, _⟩ := okI_iff.mp okv
          unfold recPagesOk
          simp only [Bool.and_eq_true, decide_eq_true_eq, List.all_eq_true]
          refine ⟨by omega, fun q hq => hpok q fun hq0 => ?_⟩
          have : q ∈ (kidsOf (.inner lv lo hi ks ps)).map (·.1) := by rw [kids_ps okv]; exact hq
          obtain ⟨d, hd, rfl⟩ := List.mem_map.mp this
          exact vlive d.1 hq0 (E.kids e.page d (by rw [← ev, hrc]; exact hd)).1
  · unfold appliedR at happ
    split at happ
    case isFalse => cases happ
    case isTrue hall =>
    cases happ
    obtain ⟨h1, E, hlv⟩ := main (hcurB hall)
    have wt := C.pcur t ht h1
    have hval : valOf t.rc c.key = tb c.key := by
      have := P.ex.tab t.page (by rw [wt]; exact hlf) c.key (by rw [wt]; exact (C.pok.step t ht).2)
      rw [wt] at this
      exact this
    rw [hval] at hnv ha
    refine ⟨nv, hnv, ha, ?_⟩
    generalize hN : namesOf pg (entriesL sf) = names at hnames
    have nmem : ∀ q ∈ names, freeB pg q = true ∧ 1 ≤ q ∧ q < 200 := fun q hq => free_mem (by rw [← hN] at hq; exact hq)
    have nnd : names.Nodup := by rw [← hN]; exact free_nd
    have ρneg : ∀ p : Int, p < 0 → -(sf.fresh : Int) ≤ p → ∃ q, names[(-1 - p).toNat]? = some q ∧ realPage p names = q := fun p h1 h2 => by
      have hlt : (-1 - p).toNat < names.length := by omega
      refine ⟨names[(-1 - p).toNat], List.getElem?_eq_getElem hlt, ?_⟩
      unfold realPage
      rw [if_pos h1, List.getD_eq_getElem?_getD, List.getElem?_eq_getElem hlt]
      rfl
    have ρpos : ∀ p : Int, 0 ≤ p → realPage p names = p := fun p h => by unfold realPage; rw [if_neg (by omega)]
    have ρinj : ∀ p q : Int, (0 ≤ p → (recAt pg p).live = true) → (0 ≤ q → (recAt pg q).live = true) → (p < 0 → -(sf.fresh : Int) ≤ p) → (q < 0 → -(sf.fresh : Int) ≤ q) → realPage p names = realPage q names → p = q := fun p q a1 a2 a3 a4 e => by
      by_cases g : p < 0 <;> by_cases g' : q < 0
      · obtain ⟨x, x1, x2⟩ := ρneg p g (a3 g)
        obtain ⟨y, y1, y2⟩ := ρneg q g' (a4 g')
        rw [x2, y2] at e
        subst e
        have i1 := (List.getElem?_eq_some_iff.mp x1).1
        have i2 := (List.getElem?_eq_some_iff.mp y1).1
        have : (-1 - p).toNat = (-1 - q).toNat := by
          rw [← y1, List.getElem?_eq_getElem i1, List.getElem?_eq_getElem i2] at x1
          exact (List.getElem_inj (h₀ := i1) (h₁ := i2) nnd).mp (Option.some.inj x1)
        omega
      · obtain ⟨x, x1, x2⟩ := ρneg p g (a3 g)
        rw [x2, ρpos q (by omega)] at e
        have := (nmem x (List.mem_of_getElem? x1)).1
        rw [freeB_iff, e, a2 (by omega)] at this
        cases this
      · obtain ⟨y, y1, y2⟩ := ρneg q g' (a4 g')
        rw [y2, ρpos p (by omega)] at e
        have := (nmem y (List.mem_of_getElem? y1)).1
        rw [freeB_iff, ← e, a1 (by omega)] at this
        cases this
      · rw [ρpos p (by omega), ρpos q (by omega)] at e; exact e
    have entLive : ∀ e ∈ entriesL sf, (0 ≤ e.page → (recAt pg e.page).live = true) ∧ (e.page < 0 → -(sf.fresh : Int) ≤ e.page) ∧ e.rc = V (recAt pg) sf e.page := fun e he => by
      obtain ⟨e1, e2, e3, e4⟩ := entry_of he hS
      refine ⟨fun z => hlv e.page z e1, e4, ?_⟩
      rw [e3]
      unfold V
      obtain ⟨y, hy⟩ := Option.isSome_iff_exists.mp e1
      rw [hy]; rfl
    have vl : ∀ p, (V (recAt pg) sf p).live = true → (0 ≤ p → (recAt pg p).live = true) ∧ (p < 0 → -(sf.fresh : Int) ≤ p) := fun p hp => by
      refine ⟨fun z => ?_, fun z => vlive p z hp⟩
      unfold V at hp
      cases e : look sf.recs p with
      | none => rw [e] at hp; exact hp
      | some y => exact hlv p z (by rw [e]; rfl)
    have spec := apply_spec ((entriesL sf).map (placedE names)) (mostAddr pg) pg (fun x hx y hy e => by
      obtain ⟨u, hu, rfl⟩ := List.mem_map.mp hx
      obtain ⟨v, hv, rfl⟩ := List.mem_map.mp hy
      obtain ⟨u1, u2, u3⟩ := entLive u hu
      obtain ⟨v1, v2, v3⟩ := entLive v hv
      have e : realPage u.page names = realPage v.page names := e
      have := ρinj u.page v.page u1 v1 u2 v2 e
      show renRec names u.rc = renRec names v.rc
      rw [u3, v3, this])
    generalize hpg' : applyGo (mostAddr pg) pg ((entriesL sf).map (placedE names)) = pg' at spec ⊢
    -- what a page holds now
    have at_e : ∀ e ∈ entriesL sf, recAt pg' (realPage e.page names) = renP (fun q => realPage q names) (V (recAt pg) sf e.page) := fun e he => by
      rcases spec (realPage e.page names) with ⟨x, hx, x1, a, _, x2⟩ | ⟨x1, _⟩
      · obtain ⟨u, hu, rfl⟩ := List.mem_map.mp hx
        obtain ⟨u1, u2, u3⟩ := entLive u hu
        obtain ⟨v1, v2, v3⟩ := entLive e he
        have := ρinj u.page e.page u1 v1 u2 v2 x1
        rw [(recAt_some x2).1]
        show renRec names u.rc = _
        rw [renRec_eq, u3, this]
      · exact absurd rfl (x1 (placedE names e) (List.mem_map_of_mem he))
    have at_o : ∀ p, (∀ e ∈ entriesL sf, realPage e.page names ≠ p) → recAt pg' p = recAt pg p := fun p hp => by
      rcases spec p with ⟨x, hx, x1, _⟩ | ⟨_, x2⟩
      · obtain ⟨u, hu, rfl⟩ := List.mem_map.mp hx
        exact absurd x1 (hp u hu)
      · unfold recAt
        rw [x2]
    refine ⟨⟨?_, fun p hp => ?_, ?_⟩, ⟨fun p hp => ?_, ?_, fun p a hp ha => ?_⟩⟩
    · refine E.ren (fun q => realPage q names) (ρpos 0 (Int.le_refl 0)) (fun p q hp hq e => ρinj p q (vl p hp).1 (vl q hq).1 (vl p hp).2 (vl q hq).2 e) (fun p hp => ?_) (fun q hq => ?_)
      · cases e : look sf.recs p with
        | some y =>
          obtain ⟨e', h1, h2⟩ := entry_for (p := p) (by rw [e]; rfl) hS
          have := at_e e' h1
          rw [h2] at this
          exact this
        | none =>
          have vp : V (recAt pg) sf p = recAt pg p := by unfold V; rw [e]; rfl
          have p0 : 0 ≤ p := by
            have z : (recAt pg p).live = true := by rw [← vp]; exact hp
            exact (P.dom p (recAt_live z)).1
          show recAt pg' (realPage p names) = _
          rw [ρpos p p0, at_o p fun u hu z => ?_, vp]
          · refine (ren_same (P.ex.ok p) fun d hd => ρpos d.1 ?_).symm
            exact (P.dom d.1 (recAt_live (P.ex.kids p d hd).1)).1
          · obtain ⟨u1, u2, _⟩ := entLive u hu
            have h2 := vl p hp
            have := ρinj u.page p u1 h2.1 u2 h2.2 (by rw [z, ρpos p p0])
            have h3 := (entry_of hu hS).1
            rw [this, e] at h3
            cases h3
      · by_cases g : ∃ e ∈ entriesL sf, realPage e.page names = q
        · obtain ⟨e, he, rfl⟩ := g
          rw [at_e e he, (renP_same _ _).1] at hq
          exact ⟨e.page, hq, rfl⟩
        · have g' : ∀ e ∈ entriesL sf, realPage e.page names ≠ q := fun e he z => g ⟨e, he, z⟩
          rw [at_o q g'] at hq
          have q0 := (P.dom q (recAt_live hq)).1
          refine ⟨q, ?_, (ρpos q q0).symm⟩
          unfold V
          cases e : look sf.recs q with
          | none => exact hq
          | some y =>
            obtain ⟨e', h1, h2⟩ := entry_for (p := q) (by rw [e]; rfl) hS
            exact absurd (by rw [h2, ρpos q q0]) (g' e' h1)
    · rcases spec p with ⟨x, hx, x1, _⟩ | ⟨_, x2⟩
      · obtain ⟨u, hu, rfl⟩ := List.mem_map.mp hx
        obtain ⟨u1, u2, _⟩ := entLive u hu
        have x1 : realPage u.page names = p := x1
        by_cases g : u.page < 0
        · obtain ⟨y, y1, y2⟩ := ρneg u.page g (u2 g)
          have := nmem y (List.mem_of_getElem? y1)
          omega
        · rw [ρpos u.page (by omega)] at x1
          rw [← x1]
          exact P.dom u.page (recAt_live (u1 (by omega)))
      · rw [x2] at hp
        exact P.dom p hp
    · rw [← hpg']
      exact apply_nd _ _ _ P.nd
    · rcases spec p with ⟨x, hx, x1, a, _, x2⟩ | ⟨_, x2⟩
      · rw [x2]; rfl
      · rw [x2]; exact hp
    · obtain ⟨p, hp⟩ := most_mem (pg_ne P)
      rcases spec p with ⟨x, hx, x1, a, x3, x2⟩ | ⟨_, x2⟩
      · have := addr_le (recAt_some x2).2
        omega
      · refine addr_le (p := p) ?_
        unfold adAt at hp ⊢
        rw [x2]
        exact hp
    · rcases spec p with ⟨x, hx, x1, a', x3, x2⟩ | ⟨_, x2⟩
      · have := (recAt_some x2).2
        rw [hp] at this
        cases this
        omega
      · exact x2
end
end Esp

/-! Plain law, part 11: the map of an exact tree. -/
namespace Esp
open PySem L2 PyProof.Rows PySem.Spec
theorem perm_of {l m : List Int} (h1 : l.Nodup) (h2 : m.Nodup) (h : ∀ x, x ∈ l ↔ x ∈ m) : l.Perm m := by
  induction l generalizing m with
  | nil =>
    have : m = [] := List.eq_nil_iff_forall_not_mem.mpr fun x hx => nomatch (h x).mpr hx
    rw [this]
  | cons x l ih =>
    obtain ⟨n1, n2⟩ := List.nodup_cons.mp h1
    have hx : x ∈ m := (h x).mp List.mem_cons_self
    refine (List.Perm.cons x (ih n2 (h2.erase x) fun y => ?_)).trans (List.perm_cons_erase hx).symm
    rw [h2.mem_erase_iff]
    constructor
    · intro hy
      exact ⟨fun e => n1 (by rw [← e]; exact hy), (h y).mp (List.mem_cons_of_mem _ hy)⟩
    · rintro ⟨e, hy⟩
      rcases List.mem_cons.mp ((h y).mpr hy) with z | z
      · exact absurd z e
      · exact z
theorem srt_same {l m : List Int} (h : l.Perm m) : srt l = srt m := srt_eq ((srt_perm l).trans h) (srt_pw l)
theorem look_nd {α : Type} : ∀ {l : List (Int × α)} {p : Int × α}, (l.map (·.1)).Nodup → p ∈ l → look l p.1 = some p.2
  | q :: l, p, nd, h => by
    obtain ⟨n1, n2⟩ := List.nodup_cons.mp nd
    rw [look_cons]
    rcases List.mem_cons.mp h with rfl | h
    · rw [if_pos rfl]
    · rw [if_neg fun e => n1 (by show q.1 ∈ _; rw [e]; exact List.mem_map.mpr ⟨p, h, rfl⟩)]
      exact look_nd n2 h
section
variable {W : Int → Rec} {tb : Int → Option Int} {x : Option Int}
theorem Exa.reach (E : Exa W tb x) {S : Int → Prop} (h0 : S 0) (hc : ∀ q, S q → ∀ c ∈ kidsOf (W q), S c.1) (k : Int) : ∀ (n : Nat) (L : Int), 0 ≤ L → (W 0).lv - L = n → ∃ q, S q ∧ (W q).live = true ∧ (W q).lv = L ∧ inB (W q).bd k = true
  | 0, L, _, h => ⟨0, h0, E.live0, by omega, by rw [E.bd0]; rfl⟩
  | n + 1, L, hL, h => by
    obtain ⟨q, q1, q2, q3, q4⟩ := Exa.reach E h0 hc k n (L + 1) (by omega) (by omega)
    have hlf : (W q).isLeaf = false := by rw [leaf_of (E.ok q) q2]; exact decide_eq_false (by omega)
    obtain ⟨c, c1, c2⟩ := kids_all (E.ok q) q2 hlf q4
    obtain ⟨a1, a2, a3⟩ := E.kids q c c1
    exact ⟨c.1, hc q q1 c c1, a1, by omega, by rw [a2]; exact c2⟩
theorem Exa.all (E : Exa W tb x) {S : Int → Prop} (h0 : S 0) (hc : ∀ q, S q → ∀ c ∈ kidsOf (W q), S c.1) {p : Int} (hp : (W p).live = true) : S p := by
  obtain ⟨k, hk⟩ := rec_some (E.ok p)
  have h1 := E.top p hp
  have h2 := lv_nn (E.ok p) hp
  obtain ⟨q, q1, q2, q3, q4⟩ := E.reach h0 hc k ((W 0).lv - (W p).lv).toNat (W p).lv h2 (by omega)
  rw [← E.one q p k q2 hp q3 q4 hk]
  exact q1
theorem Exa.leafAt (E : Exa W tb x) (k : Int) : ∃ q, (W q).live = true ∧ (W q).isLeaf = true ∧ inB (W q).bd k = true := by
  have h2 := lv_nn (E.ok 0) E.live0
  obtain ⟨q, _, q2, q3, q4⟩ := E.reach (S := fun _ => True) trivial (fun _ _ _ _ => trivial) k (W 0).lv.toNat 0 (Int.le_refl 0) (by omega)
  exact ⟨q, q2, by rw [leaf_of (E.ok q) q2, q3]; rfl, q4⟩
theorem val_in {r : Rec} {k v : Int} (o : r.okB = true) (h : valOf r k = some v) : inB r.bd k = true := by
  cases r with
  | free n => cases h
  | inner lv lo hi ks ps => cases h
  | leaf lo hi ks vs =>
    have hk := valIn_mem (show valIn ks vs k = some v from h)
    have := (okL_iff.mp o).2.2.2.2 k hk
    unfold inB
    rw [Bool.and_eq_true]
    exact this
end
def Todo.ofKid (level : Int) (c : Int × Bd) : Todo := ⟨c.1, c.2.1, c.2.2, level - 1⟩
theorem below_kids {lv level : Int} {lo hi : Option Int} {ks ps : List Int} (h : ps.length = ks.length + 1) : belowL lv lo hi ks ps level = (kidsL lo hi ks ps).map (Todo.ofKid level) := by
  apply List.ext_getElem?
  intro i
  unfold belowL
  rw [List.getElem?_map, List.getElem?_map, kids_get h]
  by_cases g : i < ps.length
  · rw [List.getElem?_range g, List.getElem?_eq_getElem g]
    show some (Todo.mk (ps.getD i 0) (childB lo hi ks i).1 (childB lo hi ks i).2 (level - 1)) = some (Todo.mk ps[i] (childB lo hi ks i).1 (childB lo hi ks i).2 (level - 1))
    rw [List.getD_eq_getElem?_getD, List.getElem?_eq_getElem g]
    rfl
  · rw [List.getElem?_eq_none (by rw [List.length_range]; omega), List.getElem?_eq_none (by omega)]
    rfl
theorem look_putAll : ∀ {ks vs : List Int} {t : Tab} {k : Int}, ks.length = vs.length → ks.Nodup → look (putAll t ks vs) k = (valIn ks vs k).or (look t k)
  | [], [], t, k, _, _ => rfl
  | a :: ks, v :: vs, t, k, h, nd => by
    obtain ⟨n1, n2⟩ := List.nodup_cons.mp nd
    show look (putAll (put t a v) ks vs) k = (if a = k then some v else valIn ks vs k).or (look t k)
    rw [look_putAll (by simpa using h) n2, look_put]
    by_cases g : a = k
    · subst g
      rw [if_pos rfl, if_pos rfl, valIn_no n1]
      rfl
    · rw [if_neg g, if_neg fun e => g e.symm]
  | [], _ :: _, _, _, h, _ => by simp at h
  | _ :: _, [], _, _, h, _ => by simp at h
theorem putAll_nd : ∀ {ks vs : List Int} {t : Tab}, (t.map (·.1)).Nodup → ((putAll t ks vs).map (·.1)).Nodup
  | [], _, t, h => h
  | _ :: _, [], t, h => h
  | a :: ks, v :: vs, t, h => putAll_nd (ks := ks) (vs := vs) (put_nd h)
section
variable {pg : Pgs} {tb : Int → Option Int}
structure MapI (pg : Pgs) (i : Nat) (s : MapSt) : Prop where
  head : ∃ td, s.todo[0]? = some td ∧ td.page = 0
  ok : ∀ td ∈ s.todo, (recAt pg td.page).live = true ∧ (recAt pg td.page).bd = (td.lo, td.hi) ∧ (td.lv < 0 ∨ (recAt pg td.page).lv = td.lv)
  nd : (s.todo.map (·.page)).Nodup
  seen : s.seen = (s.todo.take i).map (·.page)
  par : ∀ (j : Nat) td, 0 < j → s.todo[j]? = some td → ∃ j' td', j' < i ∧ s.todo[j']? = some td' ∧ ∃ b, (td.page, b) ∈ kidsOf (recAt pg td'.page)
  clo : ∀ (j : Nat) td, j < i → s.todo[j]? = some td → ∀ c ∈ kidsOf (recAt pg td.page), c.1 ∈ s.todo.map (·.page)
  tab : ∀ k v, look s.table k = some v ↔ ∃ p ∈ s.seen, (recAt pg p).isLeaf = true ∧ valOf (recAt pg p) k = some v
  tnd : (s.table.map (·.1)).Nodup
  tlen : s.table.length ≤ 4 * s.seen.length
theorem map_len (P : PgOk pg tb) {i : Nat} {s : MapSt} (I : MapI pg i s) : s.todo.length ≤ 200 := by
  rw [← List.length_map (f := fun td : Todo => td.page)]
  refine len_le I.nd fun x hx => ?_
  obtain ⟨td, h1, rfl⟩ := List.mem_map.mp hx
  have := P.dom td.page (recAt_live (I.ok td h1).1)
  omega
theorem map_step (P : PgOk pg tb) {i : Nat} {s : MapSt} (I : MapI pg i s) : ∃ s', mapStep pg i s = some s' ∧ MapI pg (i + 1) s' := by
  have hl := map_len P I
  unfold mapStep
  cases et : s.todo[i]? with
  | none =>
    have hi : s.todo.length ≤ i := List.getElem?_eq_none_iff.mp et
    refine ⟨s, rfl, ⟨I.head, I.ok, I.nd, ?_, fun j td h1 h2 => ?_, fun j td h1 h2 => ?_, I.tab, I.tnd, I.tlen⟩⟩
    · rw [I.seen, List.take_of_length_le hi, List.take_of_length_le (by omega)]
    · obtain ⟨j', td', a1, a2, a3⟩ := I.par j td h1 h2
      exact ⟨j', td', by omega, a2, a3⟩
    · have := (List.getElem?_eq_some_iff.mp h2).1
      exact I.clo j td (by omega) h2
  | some td =>
    have hil : i < s.todo.length := (List.getElem?_eq_some_iff.mp et).1
    have hm := List.mem_of_getElem? et
    obtain ⟨o1, o2, o3⟩ := I.ok td hm
    obtain ⟨y, hy⟩ := Option.isSome_iff_exists.mp (recAt_live o1)
    obtain ⟨a, r⟩ := y
    have hr : recAt pg td.page = r := (recAt_some hy).1
    rw [hr] at o1 o2 o3
    have ok := P.ex.ok td.page
    rw [hr] at ok
    have sz := P.ex.size td.page (by rw [hr]; exact o1) (by simp)
    rw [hr] at sz
    have tk : s.todo.take (i + 1) = s.todo.take i ++ [td] := by rw [List.take_add_one, et]; rfl
    have hseen : td.page ∉ s.seen := by
      rw [I.seen]
      intro z
      obtain ⟨td', h1, h2⟩ := List.mem_map.mp z
      obtain ⟨j, hj⟩ := List.mem_iff_getElem?.mp h1
      have hji : j < i := by
        have := (List.getElem?_eq_some_iff.mp hj).1
        rw [List.length_take] at this
        omega
      rw [List.getElem?_take_of_lt hji] at hj
      have e1 : (s.todo.map (·.page))[j]? = some td.page := by rw [List.getElem?_map, hj, ← h2]; rfl
      have e2 : (s.todo.map (·.page))[i]? = some td.page := by rw [List.getElem?_map, et]; rfl
      have l1 := (List.getElem?_eq_some_iff.mp e1).1
      have l2 := (List.getElem?_eq_some_iff.mp e2).1
      rw [List.getElem?_eq_getElem l1] at e1
      rw [List.getElem?_eq_getElem l2] at e2
      have := (List.getElem_inj (h₀ := l1) (h₁ := l2) I.nd).mp (by rw [Option.some.inj e1, Option.some.inj e2])
      omega
    have hslen : s.seen.length ≤ 200 := by
      rw [I.seen, List.length_map, List.length_take]; omega
    have hfit : fitsB td.page r td.lo td.hi td.lv = true := by
      unfold fitsB
      simp only [Bool.and_eq_true, Bool.or_eq_true, decide_eq_true_eq]
      exact ⟨ok, o1, sz, o2, o3⟩
    have htl := I.tlen
    have guard : (decide (td.page ∉ s.seen) && (fitsB td.page r td.lo td.hi td.lv && (decide (s.table.length ≤ 4000) && decide (s.todo.length ≤ 4000)))) = true := by
      rw [decide_eq_true hseen, hfit, decide_eq_true (show s.table.length ≤ 4000 by omega), decide_eq_true (show s.todo.length ≤ 4000 by omega)]; rfl
    simp only [hy, guard, if_true]
    have seen' : s.seen ++ [td.page] = (s.todo.take (i + 1)).map (·.page) := by rw [tk, List.map_append, I.seen]; rfl
    cases r with
    | free n => cases o1
    | leaf lo hi ks vs =>
      obtain ⟨k1, k2, k3⟩ := okL_iff.mp ok
      have hkn : ks.Nodup := k3.2.1.imp fun h => by omega
      have hsz : vs.length ≤ 4 := by
        unfold sizeB at sz
        simp only [Bool.and_eq_true, decide_eq_true_eq] at sz
        exact sz.2
      refine ⟨_, rfl, ⟨I.head, I.ok, I.nd, seen', fun j td h1 h2 => ?_, fun j td' h1 h2 c hc => ?_, fun k v => ?_, putAll_nd I.tnd, ?_⟩⟩
      · obtain ⟨j', td', a1, a2, a3⟩ := I.par j td h1 h2
        exact ⟨j', td', by omega, a2, a3⟩
      · by_cases g : j < i
        · exact I.clo j td' g h2 c hc
        · have : j = i := by omega
          subst this
          rw [et] at h2
          cases h2
          rw [hr] at hc
          cases hc
      · show look (putAll s.table ks vs) k = some v ↔ ∃ p ∈ s.seen ++ [td.page], _
        rw [look_putAll k1 hkn]
        have hv : valOf (recAt pg td.page) k = valIn ks vs k := by rw [hr]; rfl
        constructor
        · intro h
          cases e : valIn ks vs k with
          | some y =>
            rw [e] at h
            exact ⟨td.page, by simp, by rw [hr]; rfl, by rw [hv, e]; exact h⟩
          | none =>
            rw [e] at h
            obtain ⟨p, p1, p2⟩ := (I.tab k v).mp h
            exact ⟨p, List.mem_append_left _ p1, p2⟩
        · rintro ⟨p, p1, p2, p3⟩
          rcases List.mem_append.mp p1 with p1 | p1
          · have hold := (I.tab k v).mpr ⟨p, p1, p2, p3⟩
            cases e : valIn ks vs k with
            | none => exact hold
            | some y =>
              exfalso
              have hb := val_in (P.ex.ok p) p3
              have hb2 := val_in (P.ex.ok td.page) (by rw [hv, e])
              have hlp := live_leaf p2
              have hlt := live_leaf (show (recAt pg td.page).isLeaf = true by rw [hr]; rfl)
              have := P.ex.one p td.page k hlp.1 hlt.1 (by rw [hlp.2.1, hlt.2.1]) hb hb2
              exact hseen (by rw [← this]; exact p1)
          · simp only [List.mem_singleton] at p1
            rw [p1, hv] at p3
            rw [p3]
            rfl
      · show (putAll s.table ks vs).length ≤ 4 * (s.seen ++ [td.page]).length
        have := putAll_len ks vs s.table
        rw [List.length_append, List.length_singleton]
        omega
    | inner lv lo hi ks ps =>
      obtain ⟨k0, k1, k2, k3⟩ := okI_iff.mp ok
      have hk : kidsOf (recAt pg td.page) = kidsL lo hi ks ps := by rw [hr]; rfl
      have hbl : belowL lv lo hi ks ps lv = (kidsL lo hi ks ps).map (Todo.ofKid lv) := below_kids k1
      have hpages : (belowL lv lo hi ks ps lv).map (·.page) = (kidsOf (recAt pg td.page)).map (·.1) := by rw [hbl, List.map_map, hk]; rfl
      refine ⟨_, rfl, ⟨?_, fun z hz => ?_, ?_, ?_, fun j z h1 h2 => ?_, fun j z h1 h2 c hc => ?_, fun k v => ?_, I.tnd, ?_⟩⟩
      · obtain ⟨z, z1, z2⟩ := I.head
        refine ⟨z, ?_, z2⟩
        show (s.todo ++ belowL lv lo hi ks ps lv)[0]? = some z
        rw [List.getElem?_append_left (by omega)]
        exact z1
      · have hz : z ∈ s.todo ++ belowL lv lo hi ks ps lv := hz
        rcases List.mem_append.mp hz with hz | hz
        · exact I.ok z hz
        · rw [hbl] at hz
          obtain ⟨c, c1, rfl⟩ := List.mem_map.mp hz
          obtain ⟨a1, a2, a3⟩ := P.ex.kids td.page c (by rw [hk]; exact c1)
          refine ⟨a1, a2, .inr ?_⟩
          show (recAt pg c.1).lv = lv - 1
          rw [a3, hr]; rfl
      · show ((s.todo ++ belowL lv lo hi ks ps lv).map (·.page)).Nodup
        rw [List.map_append, hpages, List.nodup_append]
        refine ⟨I.nd, P.ex.nodup td.page, fun x hx y hy e => ?_⟩
        subst e
        obtain ⟨z, z1, z2⟩ := List.mem_map.mp hx
        obtain ⟨c, c1, c2⟩ := List.mem_map.mp hy
        obtain ⟨a1, a2, a3⟩ := P.ex.kids td.page c c1
        obtain ⟨j, hj⟩ := List.mem_iff_getElem?.mp z1
        cases j with
        | zero =>
          obtain ⟨z', z3, z4⟩ := I.head
          rw [hj] at z3
          cases z3
          have e0 : c.1 = 0 := by rw [c2, ← z2, z4]
          rw [e0] at a3
          have := P.ex.top td.page (by rw [hr]; rfl)
          omega
        | succ j =>
          obtain ⟨j', td', b1, b2, b, b3⟩ := I.par (j + 1) z (Nat.succ_pos _) hj
          have e1 : td'.page = td.page := P.ex.par b3 c1 (by show z.page = c.1; rw [z2, c2])
          have f1 : (s.todo.map (·.page))[j']? = some td.page := by rw [List.getElem?_map, b2, ← e1]; rfl
          have f2 : (s.todo.map (·.page))[i]? = some td.page := by rw [List.getElem?_map, et]; rfl
          have l1 := (List.getElem?_eq_some_iff.mp f1).1
          have l2 := (List.getElem?_eq_some_iff.mp f2).1
          rw [List.getElem?_eq_getElem l1] at f1
          rw [List.getElem?_eq_getElem l2] at f2
          have := (List.getElem_inj (h₀ := l1) (h₁ := l2) I.nd).mp (by rw [Option.some.inj f1, Option.some.inj f2])
          omega
      · show s.seen ++ [td.page] = ((s.todo ++ belowL lv lo hi ks ps lv).take (i + 1)).map (·.page)
        rw [List.take_append_of_le_length (by omega)]
        exact seen'
      · have h2 : (s.todo ++ belowL lv lo hi ks ps lv)[j]? = some z := h2
        by_cases g : j < s.todo.length
        · rw [List.getElem?_append_left g] at h2
          obtain ⟨j', td', a1, a2, a3⟩ := I.par j z h1 h2
          refine ⟨j', td', by omega, ?_, a3⟩
          show (s.todo ++ belowL lv lo hi ks ps lv)[j']? = some td'
          rw [List.getElem?_append_left (List.getElem?_eq_some_iff.mp a2).1]
          exact a2
        · rw [List.getElem?_append_right (by omega)] at h2
          have := List.mem_of_getElem? h2
          rw [hbl] at this
          obtain ⟨c, c1, rfl⟩ := List.mem_map.mp this
          refine ⟨i, td, by omega, ?_, c.2, by rw [hk]; exact c1⟩
          show (s.todo ++ belowL lv lo hi ks ps lv)[i]? = some td
          rw [List.getElem?_append_left hil]
          exact et
      · have h2 : (s.todo ++ belowL lv lo hi ks ps lv)[j]? = some z := h2
        have hj : j < s.todo.length := by omega
        rw [List.getElem?_append_left hj] at h2
        show c.1 ∈ (s.todo ++ belowL lv lo hi ks ps lv).map (·.page)
        rw [List.map_append, List.mem_append]
        by_cases g : j < i
        · exact .inl (I.clo j z g h2 c hc)
        · have : j = i := by omega
          subst this
          rw [et] at h2
          cases h2
          right
          rw [hpages]
          exact List.mem_map_of_mem hc
      · show look s.table k = some v ↔ ∃ p ∈ s.seen ++ [td.page], _
        rw [I.tab]
        constructor
        · rintro ⟨p, p1, p2⟩
          exact ⟨p, List.mem_append_left _ p1, p2⟩
        · rintro ⟨p, p1, p2, p3⟩
          rcases List.mem_append.mp p1 with p1 | p1
          · exact ⟨p, p1, p2, p3⟩
          · simp only [List.mem_singleton] at p1
            rw [p1, hr] at p2
            cases p2
      · show s.table.length ≤ 4 * (s.seen ++ [td.page]).length
        rw [List.length_append]
        omega
theorem map_go (P : PgOk pg tb) : ∀ (n i : Nat) (s : MapSt), MapI pg i s → ∃ s', mapGo pg n i s = some s' ∧ MapI pg (i + n) s'
  | 0, i, s, I => ⟨s, rfl, I⟩
  | n + 1, i, s, I => by
    obtain ⟨s1, h1, I1⟩ := map_step P I
    obtain ⟨s2, h2, I2⟩ := map_go P n (i + 1) s1 I1
    refine ⟨s2, ?_, by rw [show i + (n + 1) = i + 1 + n by omega]; exact I2⟩
    unfold mapGo
    rw [h1]
    exact h2
theorem map_ok (P : PgOk pg tb) {t : Tab} (ht : ∀ k, look t k = tb k) (tnd : (t.map (·.1)).Nodup) : mapOk pg t = true := by
  have I0 : MapI pg 0 ⟨[], [⟨0, none, none, -1⟩], []⟩ := by
    refine ⟨⟨_, rfl, rfl⟩, fun td h => ?_, by simp, rfl, fun j td h1 h2 => ?_, fun j td h1 => absurd h1 (Nat.not_lt_zero j), fun k v => ?_, List.nodup_nil, Nat.le_refl _⟩
    · have h : td ∈ [Todo.mk 0 none none (-1)] := h
      simp only [List.mem_singleton] at h
      subst h
      exact ⟨P.ex.live0, P.ex.bd0, .inl (by decide)⟩
    · have h2 : [Todo.mk 0 none none (-1)][j]? = some td := h2
      cases j with
      | zero => omega
      | succ j => simp at h2
    · exact ⟨fun h => (by cases h), fun ⟨p, hp, _⟩ => (by cases hp)⟩
  obtain ⟨s, h1, I⟩ := map_go P 400 0 _ I0
  have hl := map_len P I
  have hseen : s.seen = s.todo.map (·.page) := by rw [I.seen, List.take_of_length_le (by omega)]
  have hall : ∀ p, (recAt pg p).live = true → p ∈ s.seen := fun p hp => by
    refine P.ex.all (S := fun p => p ∈ s.seen) ?_ (fun q hq c hc => ?_) hp
    · obtain ⟨z, z1, z2⟩ := I.head
      rw [hseen, ← z2]
      exact List.mem_map_of_mem (List.mem_of_getElem? z1)
    · rw [hseen] at hq ⊢
      obtain ⟨z, z1, z2⟩ := List.mem_map.mp hq
      obtain ⟨j, hj⟩ := List.mem_iff_getElem?.mp z1
      have := (List.getElem?_eq_some_iff.mp hj).1
      exact I.clo j z (by omega) hj c (by rw [z2]; exact hc)
  have hlive : ∀ p, p ∈ s.seen → (recAt pg p).live = true := fun p hp => by
    rw [hseen] at hp
    obtain ⟨z, z1, rfl⟩ := List.mem_map.mp hp
    exact (I.ok z z1).1
  have hsrt : srt s.seen = srt (liveOf pg) := by
    refine srt_same (perm_of (by rw [hseen]; exact I.nd) (List.Pairwise.filter _ P.nd) fun p => ?_)
    have hlo : p ∈ liveOf pg ↔ (recAt pg p).live = true := by
      unfold liveOf
      rw [List.mem_filter]
      unfold recAt
      constructor
      · rintro ⟨_, h⟩
        cases e : look pg p with
        | none => rw [e] at h; cases h
        | some y => rw [e] at h; exact h
      · intro h
        cases e : look pg p with
        | none => rw [e] at h; cases h
        | some y =>
          rw [e] at h
          exact ⟨key_look (by rw [e]; rfl), h⟩
    rw [hlo]
    exact ⟨hlive p, hall p⟩
  unfold mapOk mapR
  rw [h1]
  simp only [hsrt, decide_true, Bool.and_true, decide_eq_true (show pg.length ≤ 1000 by have := pg_len P; omega), if_true]
  have hlook : ∀ k, look s.table k = look t k := fun k => by
    rw [ht]
    cases e : look s.table k with
    | some v =>
      obtain ⟨p, p1, p2, p3⟩ := (I.tab k v).mp e
      rw [← P.ex.tab p p2 k (val_in (P.ex.ok p) p3), p3]
    | none =>
      cases e2 : tb k with
      | none => rfl
      | some v =>
        obtain ⟨q, q1, q2, q3⟩ := P.ex.leafAt k
        have := (I.tab k v).mpr ⟨q, hall q q1, q2, by rw [P.ex.tab q q2 k q3]; exact e2⟩
        rw [e] at this
        cases this
  unfold sameTab
  rw [Bool.and_eq_true, decide_eq_true_eq, List.all_eq_true]
  constructor
  · have key : ∀ {l m : Tab}, (l.map (·.1)).Nodup → (∀ k, look l k = look m k) → l.length ≤ m.length := fun {l m} nd h => by
      have := len_sub (l := l.map (·.1)) (m := m.map (·.1)) nd fun x hx => by
        obtain ⟨y, hy⟩ := look_key hx
        rw [h] at hy
        exact key_look (by rw [hy]; rfl)
      rw [List.length_map, List.length_map] at this
      exact this
    exact Nat.le_antisymm (key I.tnd hlook) (key tnd fun k => (hlook k).symm)
  · intro p hp
    rw [← hlook, look_nd I.tnd hp]
    exact decide_eq_true rfl
end
end Esp

/-! Plain law, part 12: how many pages. -/
namespace Esp
open PySem L2 PyProof.Rows PySem.Spec
theorem filter_two {f g h : Int → Bool} : ∀ {l : List Int}, (∀ x ∈ l, f x = true → h x = true) → (∀ x ∈ l, g x = true → h x = true) → (∀ x ∈ l, f x = true → g x = true → False) → (l.filter f).length + (l.filter g).length ≤ (l.filter h).length
  | [], _, _, _ => Nat.le_refl _
  | x :: l, a, b, c => by
    have ih := filter_two (l := l) (fun y hy => a y (List.mem_cons_of_mem _ hy)) (fun y hy => b y (List.mem_cons_of_mem _ hy)) (fun y hy => c y (List.mem_cons_of_mem _ hy))
    have a := a x List.mem_cons_self
    have b := b x List.mem_cons_self
    have c := c x List.mem_cons_self
    rw [List.filter_cons, List.filter_cons, List.filter_cons]
    cases hf : f x with
    | false =>
      cases hg : g x with
      | false => cases hh : h x <;> simp <;> omega
      | true =>
        have hh := b hg
        rw [hh]
        simp
        omega
    | true =>
      have hh := a hf
      rw [hh]
      cases hg : g x with
      | false => simp; omega
      | true => exact (c hf hg).elim
def keyL : List Int := (List.range 130).map fun (i : Nat) => (i : Int) - 65
theorem keyL_mem {k : Int} (h1 : -65 ≤ k) (h2 : k ≤ 64) : k ∈ keyL := List.mem_map.mpr ⟨(k + 65).toNat, List.mem_range.mpr (by omega), by omega⟩
def cntB (tb : Int → Option Int) (b : Bd) : Nat := ((keyL.filter fun k => (tb k).isSome).filter (inB b)).length
theorem cntB_le {tb : Int → Option Int} {b : Bd} : cntB tb b ≤ 130 := by
  unfold cntB
  refine Nat.le_trans (List.length_filter_le _ _) (Nat.le_trans (List.length_filter_le _ _) ?_)
  unfold keyL
  rw [List.length_map, List.length_range]
  exact Nat.le_refl _
section
variable {W : Int → Rec} {tb : Int → Option Int}
theorem leaf_cnt (E : Exa W tb none) (hk : ∀ k, (tb k).isSome = true → -65 ≤ k ∧ k ≤ 64) {p : Int} {lo hi : Option Int} {ks vs : List Int} (hp : W p = .leaf lo hi ks vs) : ks.length ≤ cntB tb (W p).bd := by
  have ok := E.ok p
  rw [hp] at ok
  obtain ⟨o1, _, o2⟩ := okL_iff.mp ok
  unfold cntB
  refine len_sub (o2.2.1.imp fun h => by omega) fun x hx => ?_
  obtain ⟨v, hv⟩ := valIn_some o1 hx
  have hin : inB (W p).bd x = true := val_in (E.ok p) (by rw [hp]; exact hv)
  have := E.tab p (by rw [hp]; rfl) x hin
  rw [hp] at this
  have hs : (tb x).isSome = true := by rw [← this]; show (valIn ks vs x).isSome = true; rw [hv]; rfl
  obtain ⟨z1, z2⟩ := hk x hs
  exact List.mem_filter.mpr ⟨List.mem_filter.mpr ⟨keyL_mem z1 z2, hs⟩, hin⟩
theorem kid_nz (E : Exa W tb none) {p : Int} {c : Int × Bd} (hc : c ∈ kidsOf (W p)) : c.1 ≠ 0 := fun e => by
  obtain ⟨a1, _, a3⟩ := E.kids p c hc
  have := E.top p (kids_live hc).1
  rw [e] at a3
  omega
theorem level_cnt (E : Exa W tb none) (hk : ∀ k, (tb k).isSome = true → -65 ≤ k ∧ k ≤ 64) : ∀ (n : Nat) (p : Int), (W p).live = true → (W p).lv = n → (p ≠ 0 ∨ 1 ≤ n) → 2 ^ (n + 1) ≤ cntB tb (W p).bd
  | 0, p, h1, h2, h3 => by
    have hlf : (W p).isLeaf = true := by rw [leaf_of (E.ok p) h1, h2]; rfl
    have sz := E.size p h1 (by simp)
    cases hr : W p with
    | free n => rw [hr] at hlf; cases hlf
    | inner lv lo hi ks ps => rw [hr] at hlf; cases hlf
    | leaf lo hi ks vs =>
      have := leaf_cnt E hk hr
      rw [hr] at this sz
      have ok := E.ok p
      rw [hr] at ok
      have o1 := (okL_iff.mp ok).1
      unfold sizeB at sz
      simp only [Bool.and_eq_true, Bool.or_eq_true, decide_eq_true_eq] at sz
      show 2 ≤ _
      omega
  | n + 1, p, h1, h2, _ => by
    have hlf : (W p).isLeaf = false := by rw [leaf_of (E.ok p) h1, h2]; exact decide_eq_false (by omega)
    have sz := E.size p h1 (by simp)
    have ok := E.ok p
    cases hr : W p with
    | free n => rw [hr] at h1; cases h1
    | leaf lo hi ks ps => rw [hr] at hlf; cases hlf
    | inner lv lo hi ks ps =>
      rw [hr] at sz ok
      obtain ⟨o0, o1, o2, o3⟩ := okI_iff.mp ok
      unfold sizeB at sz
      simp only [Bool.and_eq_true, decide_eq_true_eq] at sz
      have g0 : ps[0]? = some ps[0] := List.getElem?_eq_getElem (by omega)
      have g1 : ps[1]? = some ps[1] := List.getElem?_eq_getElem (by omega)
      have m0 := kid_mem ok g0
      have m1 := kid_mem ok g1
      rw [← hr] at m0 m1
      have r0 := E.kids p _ m0
      have r1 := E.kids p _ m1
      have c0 := level_cnt E hk n _ r0.1 (by rw [r0.2.2, h2]; omega) (.inl (kid_nz E m0))
      have c1 := level_cnt E hk n _ r1.1 (by rw [r1.2.2, h2]; omega) (.inl (kid_nz E m1))
      rw [r0.2.1] at c0
      rw [r1.2.1] at c1
      have := filter_two (l := keyL.filter fun k => (tb k).isSome) (f := inB (childB lo hi ks 0)) (g := inB (childB lo hi ks 1)) (h := inB (lo, hi))
        (fun x _ h => ((cov_child o3 (by omega)).mp h).1) (fun x _ h => ((cov_child o3 (by omega)).mp h).1) (fun x _ a b => by
          have := ((cov_child o3 (by omega)).mp a).2
          have := ((cov_child o3 (by omega)).mp b).2
          omega)
      show 2 ^ (n + 1 + 1) ≤ cntB tb (lo, hi)
      unfold cntB at c0 c1 ⊢
      rw [Nat.pow_succ]
      have c0 : 2 ^ (n + 1) ≤ ((keyL.filter fun k => (tb k).isSome).filter (inB (childB lo hi ks 0))).length := c0
      have c1 : 2 ^ (n + 1) ≤ ((keyL.filter fun k => (tb k).isSome).filter (inB (childB lo hi ks 1))).length := c1
      omega
/-- pages that share no key -/
theorem sum_cnt {tb : Int → Option Int} {bd : Int → Bd} {m : Nat} : ∀ (P : List Int), P.Nodup → (∀ p ∈ P, ∀ q ∈ P, ∀ k, inB (bd p) k = true → inB (bd q) k = true → p = q) → (∀ p ∈ P, m ≤ cntB tb (bd p)) → P.length * m ≤ ((keyL.filter fun k => (tb k).isSome).filter fun k => P.any fun p => inB (bd p) k).length
  | [], _, _, _ => by simp
  | p :: P, nd, h, hm => by
    obtain ⟨n1, n2⟩ := List.nodup_cons.mp nd
    have ih := sum_cnt P n2 (fun a ha b hb => h a (List.mem_cons_of_mem _ ha) b (List.mem_cons_of_mem _ hb)) (fun a ha => hm a (List.mem_cons_of_mem _ ha))
    have h1 := hm p List.mem_cons_self
    have h2 := filter_two (l := keyL.filter fun k => (tb k).isSome) (f := inB (bd p)) (g := fun k => P.any fun p => inB (bd p) k) (h := fun k => (p :: P).any fun p => inB (bd p) k)
      (fun x _ a => by rw [List.any_cons, a]; rfl) (fun x _ a => by rw [List.any_cons, a, Bool.or_true]) (fun x _ a b => by
        obtain ⟨q, q1, q2⟩ := List.any_eq_true.mp b
        have := h p List.mem_cons_self q (List.mem_cons_of_mem _ q1) x a q2
        exact n1 (by rw [this]; exact q1))
    unfold cntB at h1
    rw [List.length_cons, Nat.add_mul, Nat.one_mul]
    omega
theorem level_many (E : Exa W tb none) (hk : ∀ k, (tb k).isSome = true → -65 ≤ k ∧ k ≤ 64) (n : Nat) (P : List Int) (nd : P.Nodup) (hP : ∀ p ∈ P, (W p).live = true ∧ (W p).lv = n ∧ p ≠ 0) : P.length * 2 ^ (n + 1) ≤ 130 := by
  have := sum_cnt (tb := tb) (bd := fun p => (W p).bd) (m := 2 ^ (n + 1)) P nd (fun p hp q hq k a b => E.one p q k (hP p hp).1 (hP q hq).1 (by rw [(hP p hp).2.1, (hP q hq).2.1]) a b) (fun p hp => level_cnt E hk n p (hP p hp).1 (hP p hp).2.1 (.inl (hP p hp).2.2))
  refine Nat.le_trans this (Nat.le_trans (List.length_filter_le _ _) (Nat.le_trans (List.length_filter_le _ _) ?_))
  unfold keyL
  rw [List.length_map, List.length_range]
  exact Nat.le_refl _
theorem root_lv (E : Exa W tb none) (hk : ∀ k, (tb k).isSome = true → -65 ≤ k ∧ k ≤ 64) : (W 0).lv ≤ 6 := by
  have h0 := lv_nn (E.ok 0) E.live0
  by_cases g : (W 0).lv ≤ 6
  · exact g
  · have := level_cnt E hk (W 0).lv.toNat 0 E.live0 (by omega) (.inr (by omega))
    have h2 := Nat.le_trans this cntB_le
    have h3 : 2 ^ (7 + 1) ≤ 2 ^ ((W 0).lv.toNat + 1) := Nat.pow_le_pow_right (by decide) (by omega)
    have h4 : (2 : Nat) ^ (7 + 1) = 256 := by decide
    omega
theorem seven {f : Int → Int} : ∀ (X : List Int), (∀ x ∈ X, 0 ≤ f x ∧ f x ≤ 6) → X.length ≤ (X.filter fun x => decide (f x = 0)).length + (X.filter fun x => decide (f x = 1)).length + (X.filter fun x => decide (f x = 2)).length + (X.filter fun x => decide (f x = 3)).length + (X.filter fun x => decide (f x = 4)).length + (X.filter fun x => decide (f x = 5)).length + (X.filter fun x => decide (f x = 6)).length
  | [], _ => by simp
  | x :: X, h => by
    have ih := seven X fun y hy => h y (List.mem_cons_of_mem _ hy)
    have hx := h x List.mem_cons_self
    have : f x = 0 ∨ f x = 1 ∨ f x = 2 ∨ f x = 3 ∨ f x = 4 ∨ f x = 5 ∨ f x = 6 := by omega
    simp only [List.filter_cons]
    rcases this with e | e | e | e | e | e | e <;> rw [e] <;> simp <;> omega
end
section
variable {pg : Pgs} {tb : Int → Option Int}
theorem live_count (P : PgOk pg tb) (hk : ∀ k, (tb k).isSome = true → -65 ≤ k ∧ k ≤ 64) (X : List Int) (nd : X.Nodup) (hX : ∀ p ∈ X, (recAt pg p).live = true ∧ p ≠ 0) : X.length ≤ 128 := by
  have hl := root_lv P.ex hk
  have h7 := seven (f := fun p => (recAt pg p).lv) X fun p hp => by
    have := P.ex.top p (hX p hp).1
    have := lv_nn (P.ex.ok p) (hX p hp).1
    show 0 ≤ (recAt pg p).lv ∧ (recAt pg p).lv ≤ 6
    omega
  have lev : ∀ n : Nat, (X.filter fun p => decide ((recAt pg p).lv = (n : Int))).length * 2 ^ (n + 1) ≤ 130 := fun n => by
    refine level_many P.ex hk n _ (List.Pairwise.filter _ nd) fun p hp => ?_
    rw [List.mem_filter, decide_eq_true_eq] at hp
    exact ⟨(hX p hp.1).1, hp.2, (hX p hp.1).2⟩
  have l0 : (X.filter fun p => decide ((recAt pg p).lv = 0)).length * 2 ≤ 130 := lev 0
  have l1 : (X.filter fun p => decide ((recAt pg p).lv = 1)).length * 4 ≤ 130 := lev 1
  have l2 : (X.filter fun p => decide ((recAt pg p).lv = 2)).length * 8 ≤ 130 := lev 2
  have l3 : (X.filter fun p => decide ((recAt pg p).lv = 3)).length * 16 ≤ 130 := lev 3
  have l4 : (X.filter fun p => decide ((recAt pg p).lv = 4)).length * 32 ≤ 130 := lev 4
  have l5 : (X.filter fun p => decide ((recAt pg p).lv = 5)).length * 64 ≤ 130 := lev 5
  have l6 : (X.filter fun p => decide ((recAt pg p).lv = 6)).length * 128 ≤ 130 := lev 6
  have h7 : X.length ≤ (X.filter fun p => decide ((recAt pg p).lv = 0)).length + (X.filter fun p => decide ((recAt pg p).lv = 1)).length + (X.filter fun p => decide ((recAt pg p).lv = 2)).length + (X.filter fun p => decide ((recAt pg p).lv = 3)).length + (X.filter fun p => decide ((recAt pg p).lv = 4)).length + (X.filter fun p => decide ((recAt pg p).lv = 5)).length + (X.filter fun p => decide ((recAt pg p).lv = 6)).length := h7
  omega
theorem filter_split {f : Int → Bool} : ∀ l : List Int, (l.filter f).length + (l.filter fun x => !f x).length = l.length
  | [] => rfl
  | x :: l => by
    have ih := filter_split (f := f) l
    rw [List.filter_cons, List.filter_cons]
    cases f x <;> simp <;> omega
theorem free_many (P : PgOk pg tb) (hk : ∀ k, (tb k).isSome = true → -65 ≤ k ∧ k ≤ 64) : ∀ n, n ≤ 40 → (freeOf pg n).length = n := fun n hn => by
  unfold freeOf
  have nd : ((List.range 199).map fun (i : Nat) => 1 + (i : Int)).Nodup := by
    rw [List.Nodup, List.pairwise_map]
    exact List.Pairwise.imp (fun h => by omega) (List.nodup_range (n := 199))
  have h1 := filter_split (f := freeB pg) ((List.range 199).map fun (i : Nat) => 1 + (i : Int))
  have h2 := live_count P hk (((List.range 199).map fun (i : Nat) => 1 + (i : Int)).filter fun x => !freeB pg x) (List.Pairwise.filter _ nd) fun p hp => by
    rw [List.mem_filter, freeB_iff, Bool.not_not] at hp
    refine ⟨hp.2, ?_⟩
    obtain ⟨i, _, rfl⟩ := List.mem_map.mp hp.1
    omega
  rw [List.length_map, List.length_range] at h1
  rw [List.length_take]
  omega
end
end Esp

/-! Plain law, part 13: walkers and their turns. -/
namespace Esp
open PySem L2 PyProof.Rows PySem.Spec
structure SOk (pg : Pgs) (t : Step) : Prop where
  le : t.addr ≤ mostAddr pg
  cur : adAt pg t.page = some t.addr → look pg t.page = some (t.addr, t.rc)
  dom : (look pg t.page).isSome = true
  kd : ∀ c ∈ kidsOf t.rc, (look pg c.1).isSome = true
theorem SOk.grow {pg pg' : Pgs} {t : Step} (h : SOk pg t) (G : Grow pg pg') : SOk pg' t := by
  refine ⟨Int.le_trans h.le G.most, fun e => ?_, G.keep _ h.dom, fun c hc => G.keep _ (h.kd c hc)⟩
  have := G.same t.page t.addr e h.le
  rw [this]
  refine h.cur ?_
  unfold adAt at e ⊢
  rw [← this]
  exact e
structure Inv0 (pg : Pgs) (t : Tab) : Prop where
  pg : PgOk pg (look t)
  nd : (t.map (·.1)).Nodup
  key : ∀ k, (look t k).isSome = true → -65 ≤ k ∧ k ≤ 64
theorem Inv0.len {pg : Pgs} {t : Tab} (h : Inv0 pg t) : t.length ≤ 130 := by
  have := len_sub (l := t.map (·.1)) (m := keyL) h.nd fun x hx => by
    obtain ⟨y, hy⟩ := look_key hx
    obtain ⟨z1, z2⟩ := h.key x (by rw [hy]; rfl)
    exact keyL_mem z1 z2
  unfold keyL at this
  rw [List.length_map, List.length_map, List.length_range] at this
  exact this
section
variable {pg pg' : Pgs} {t : Tab} {w w' : Wk} {p q a : Int} {r : Rec} {x : Int}
theorem new_ok (h : Inv0 pg t) (e : look pg p = some (a, r)) : SOk pg ⟨p, a, r, x⟩ := by
  obtain ⟨e1, e2⟩ := recAt_some e
  refine ⟨addr_le e2, fun _ => e, by show (look pg p).isSome = true; rw [e]; rfl, fun c hc => ?_⟩
  have hc : c ∈ kidsOf r := hc
  rw [← e1] at hc
  exact recAt_live (h.pg.ex.kids p c hc).1
theorem new_stepR (h : Inv0 pg t) (e : look pg p = some (a, r)) (hl : r.live = true) : StepR ⟨p, a, r, x⟩ := by
  obtain ⟨e1, e2⟩ := recAt_some e
  have hl' : (recAt pg p).live = true := by rw [e1]; exact hl
  have hlv := h.pg.ex.top p hl'
  have h6 := root_lv h.pg.ex h.key
  refine ⟨by rw [← e1]; exact h.pg.ex.ok p, hl, by rw [← e1]; exact h.pg.ex.size p hl' (by simp), (h.pg.dom p (by rw [e]; rfl)).1, fun c hc => ?_, ?_⟩
  · have hc : c ∈ kidsOf r := hc
    rw [← e1] at hc
    have z1 := kid_nz h.pg.ex hc
    have z2 := (h.pg.dom c.1 (recAt_live (h.pg.ex.kids p c hc).1)).1
    omega
  · show r.lv ≤ 6
    rw [← e1]
    omega
structure WOk (pg : Pgs) (w : Wk) : Prop where
  path : PathOk w.path w.call.key
  sib : SibOk w.sib
  ps : ∀ s ∈ w.path, SOk pg s
  ss : ∀ p b, look w.sib p = some b → SOk pg b
  key : -65 ≤ w.call.key ∧ w.call.key ≤ 64
  snd : (w.sib.map (·.1)).Nodup
  sdom : ∀ p, (look w.sib p).isSome = true → (look pg p).isSome = true
  due : ∀ s, w.path.getLast? = some s → s.rc.isLeaf = true → w.due = (ansOf w.call (valOf s.rc w.call.key)).1
theorem WOk.grow (h : WOk pg w) (G : Grow pg pg') : WOk pg' w := ⟨h.path, h.sib, fun s hs => (h.ps s hs).grow G, fun p b hb => (h.ss p b hb).grow G, h.key, h.snd, fun p hp => G.keep p (h.sdom p hp), h.due⟩
theorem fresh_ok {c : Call} (hk : -65 ≤ c.key ∧ c.key ≤ 64) : WOk pg (freshW c) := by
  refine ⟨⟨fun s hs => (by cases hs), fun s hs => (by cases hs), fun i p s h1 => (by cases h1)⟩, fun p b h => (by cases h), fun s hs => (by cases hs), fun p b h => (by cases h), hk, List.nodup_nil, fun p h => (by cases h), fun s hs => (by cases hs)⟩
theorem path_lv {path : List Step} {key : Int} (h : PathOk path key) : ∀ (i : Nat) (s s0 : Step), path[0]? = some s0 → path[i]? = some s → s.rc.lv = s0.rc.lv - i
  | 0, s, s0, h0, h1 => by
    rw [h0] at h1
    cases h1
    simp
  | i + 1, s, s0, h0, h1 => by
    have hl := (List.getElem?_eq_some_iff.mp h1).1
    obtain ⟨p, hp⟩ : ∃ p, path[i]? = some p := ⟨_, List.getElem?_eq_getElem (show i < path.length by omega)⟩
    have ih := path_lv h i p s0 h0 hp
    have := (h.link i p s hp h1).2
    omega
theorem path_len {path : List Step} {key : Int} (h : PathOk path key) : path.length ≤ 7 := by
  by_cases g : path.length ≤ 7
  · exact g
  · obtain ⟨s0, h0⟩ : ∃ s, path[0]? = some s := ⟨_, List.getElem?_eq_getElem (show 0 < path.length by omega)⟩
    obtain ⟨s7, h7⟩ : ∃ s, path[7]? = some s := ⟨_, List.getElem?_eq_getElem (show 7 < path.length by omega)⟩
    have z := path_lv h 7 s7 s0 h0 h7
    have z0 := (h.step s0 (List.mem_of_getElem? h0)).1.lv
    have s := (h.step s7 (List.mem_of_getElem? h7)).1
    have z7 := lv_nn s.ok s.live
    omega
theorem held_of (h : Inv0 pg t) (hw : WOk pg w) : Held (recAt pg) (adAt pg) (look t) w.path w.sib w.call.key :=
  ⟨h.pg.ex, pg_neg h.pg, hw.path, hw.sib, fun s hs e => (recAt_some ((hw.ps s hs).cur e)).1, fun p b hb e => (recAt_some ((hw.ss p b hb).cur e)).1⟩
/-! ### the table -/
theorem due_ans (t : Tab) (c : Call) : (dueOf t c).1 = (ansOf c (look t c.key)).1 := by
  cases c with
  | put k v => by_cases g : look t k = some v <;> simp [dueOf, ansOf, Call.key, g]
  | add k v => by_cases g : (look t k).isSome = true <;> simp [dueOf, ansOf, Call.key, g]
  | change k o n =>
    by_cases g : look t k = some o
    · by_cases g2 : n = o <;> simp [dueOf, ansOf, Call.key, g, g2]
    · simp [dueOf, ansOf, Call.key, g]
  | take k => cases e : look t k <;> simp [dueOf, ansOf, Call.key, e]
  | look k => rfl
theorem due_tab {t : Tab} {c : Call} {nv : Option Int} (h : (ansOf c (look t c.key)).2 = some nv) (j : Int) : look (dueOf t c).2 j = if j = c.key then nv else look t j := by
  cases c with
  | put k v =>
    by_cases g : look t k = some v
    · simp [ansOf, Call.key, g] at h
    · simp [ansOf, Call.key, g] at h
      subst h
      exact look_put _ _ _ _
  | add k v =>
    by_cases g : (look t k).isSome = true
    · simp [ansOf, Call.key, g] at h
    · simp [ansOf, Call.key, g] at h
      subst h
      simp only [dueOf, if_neg g]
      exact look_put _ _ _ _
  | change k o n =>
    by_cases g : look t k = some o
    · by_cases g2 : n = o
      · simp [ansOf, Call.key, g, g2] at h
      · simp [ansOf, Call.key, g, g2] at h
        subst h
        simp only [dueOf, if_pos g]
        exact look_put _ _ _ _
    · simp [ansOf, Call.key, g] at h
  | take k =>
    cases e : look t k with
    | none => simp [ansOf, Call.key, e] at h
    | some y =>
      simp [ansOf, Call.key, e] at h
      subst h
      simp only [dueOf, e, Option.isSome_some, if_true]
      exact look_drop _ _ _
  | look k => simp [ansOf] at h
theorem drop_nd {t : Tab} {k : Int} (h : (t.map (·.1)).Nodup) : ((drop t k).map (·.1)).Nodup := by
  unfold drop
  exact h.sublist (List.Sublist.map _ (List.filter_sublist))
theorem due_nd {t : Tab} (c : Call) (h : (t.map (·.1)).Nodup) : (((dueOf t c).2).map (·.1)).Nodup := by
  cases c with
  | put k v => exact put_nd h
  | add k v =>
    simp only [dueOf]
    split
    · exact h
    · exact put_nd h
  | change k o n =>
    simp only [dueOf]
    split
    · exact put_nd h
    · exact h
  | take k =>
    simp only [dueOf]
    split
    · exact drop_nd h
    · exact h
  | look k => exact h
theorem due_key {t : Tab} (c : Call) {k : Int} (h : (look (dueOf t c).2 k).isSome = true) : k = c.key ∨ (look t k).isSome = true := by
  by_cases g : k = c.key
  · exact .inl g
  · right
    have main : ∀ v, look (put t c.key v) k = look t k := fun v => by rw [look_put, if_neg g]
    cases c with
    | put k' v =>
      have h : (look (put t k' v) k).isSome = true := h
      rw [show look (put t k' v) k = look t k from main v] at h
      exact h
    | add k' v =>
      simp only [dueOf] at h
      split at h
      · exact h
      · rw [← main v]; exact h
    | change k' o n =>
      simp only [dueOf] at h
      split at h
      · rw [← main n]; exact h
      · exact h
    | take k' =>
      simp only [dueOf] at h
      split at h
      · have e : look (drop t k') k = look t k := by rw [look_drop, if_neg (show ¬ k = k' from g)]
        rw [← e]; exact h
      · exact h
    | look k' => exact h
/-! ### a turn -/
theorem read_ok (h : Inv0 pg t) (hw : WOk pg w) (hl : atLeaf w.path = false) : ∃ w', readR w pg t = some w' ∧ WOk pg w' := by
  have hpl := path_len hw.path
  have htl := h.len
  -- the page that is read
  have page : ∃ q, readPage w = some q ∧ (look pg q).isSome = true ∧ (w.path = [] → q = 0) ∧ ∀ s, w.path.getLast? = some s → nextPage s.rc w.call.key = some q := by
    unfold readPage
    cases e : w.path.getLast? with
    | none =>
      exact ⟨0, rfl, recAt_live h.pg.ex.live0, fun _ => rfl, fun s hs => (by cases hs)⟩
    | some s =>
      have hm := List.mem_of_getLast? e
      obtain ⟨sr, sc⟩ := hw.path.step s hm
      have hlf : s.rc.isLeaf = false := by unfold atLeaf at hl; rw [e] at hl; exact hl
      cases hr : s.rc with
      | free n => have := sr.live; rw [hr] at this; cases this
      | leaf lo hi ks vs => rw [hr] at hlf; cases hlf
      | inner lv lo hi ks ps =>
        have ok := sr.ok
        rw [hr] at ok sc
        obtain ⟨o0, o1, o2, o3⟩ := okI_iff.mp ok
        obtain ⟨c, c1, c2, _⟩ := kids_cov o3 o1 (k := w.call.key) sc
        have hn : nextPage (.inner lv lo hi ks ps) w.call.key = some c := by
          show (if ks.length ≤ 50 then ps[childAt ks w.call.key]? else none) = some c
          rw [if_pos o2]
          exact c1
        refine ⟨c, by simp only [hr]; exact hn, (hw.ps s hm).kd _ (by rw [hr]; exact c2), fun z => ?_, fun s' hs' => ?_⟩
        · rw [z] at e; cases e
        · cases hs'; rw [hr]; exact hn
  obtain ⟨q, q1, q2, q3, q4⟩ := page
  obtain ⟨y, hy⟩ := Option.isSome_iff_exists.mp q2
  obtain ⟨a, r⟩ := y
  unfold readR
  simp only [q1, hy, if_pos (show w.path.length ≤ 4000 ∧ t.length ≤ 4000 by omega)]
  cases eb : wrongB w.path r w.call.key with
  | true => exact ⟨_, by simp, fresh_ok hw.key⟩
  | false =>
    refine ⟨⟨w.call, w.path ++ [⟨q, a, r, 1⟩], [], if r.isLeaf = true then (dueOf t w.call).1 else .o none⟩, by simp, ?_⟩
    unfold wrongB at eb
    rw [Bool.or_eq_false_iff, Bool.or_eq_false_iff, Bool.not_eq_false', Bool.not_eq_false'] at eb
    obtain ⟨b1, b2, b3⟩ := eb
    have sr := new_stepR (x := 1) h hy b1
    have so := new_ok (x := 1) h hy
    obtain ⟨r1, r2⟩ := recAt_some hy
    have lastIdx : ∀ {s : Step}, w.path.getLast? = some s → w.path[w.path.length - 1]? = some s := fun {s} e => by rw [← List.getLast?_eq_getElem?]; exact e
    refine ⟨⟨fun s hs => ?_, fun s hs => ?_, fun i p s hp hs => ?_⟩, fun p b hb => (by cases hb), fun s hs => ?_, fun p b hb => (by cases hb), hw.key, List.nodup_nil, fun p hp => (by cases hp), fun s hs hlf => ?_⟩
    · rcases List.mem_append.mp hs with hs | hs
      · exact hw.path.step s hs
      · simp only [List.mem_singleton] at hs
        subst hs
        exact ⟨sr, b2⟩
    · have hs : (w.path ++ [⟨q, a, r, 1⟩])[0]? = some s := hs
      cases e : w.path with
      | nil =>
        rw [e] at hs
        cases hs
        have q0 := q3 e
        subst q0
        refine ⟨rfl, ?_⟩
        show r.bd = (none, none)
        rw [← r1]
        exact h.pg.ex.bd0
      | cons s0 rest =>
        rw [e] at hs
        exact hw.path.root s (by rw [e]; exact hs)
    · have hp : (w.path ++ [⟨q, a, r, 1⟩])[i]? = some p := hp
      have hs : (w.path ++ [⟨q, a, r, 1⟩])[i + 1]? = some s := hs
      by_cases g : i + 1 < w.path.length
      · rw [List.getElem?_append_left g] at hs
        rw [List.getElem?_append_left (by omega)] at hp
        exact hw.path.link i p s hp hs
      · have hl2 := (List.getElem?_eq_some_iff.mp hs).1
        rw [List.length_append, List.length_singleton] at hl2
        have hi : i = w.path.length - 1 := by omega
        rw [List.getElem?_append_left (by omega)] at hp
        rw [List.getElem?_append_right (by omega), show i + 1 - w.path.length = 0 by omega] at hs
        cases hs
        have hlast : w.path.getLast? = some p := by rw [List.getLast?_eq_getElem?, ← hi]; exact hp
        refine ⟨q4 p hlast, ?_⟩
        rw [hlast] at b3
        have := of_decide_eq_false b3
        show r.lv = p.rc.lv - 1
        exact Decidable.byContradiction fun z => this z
    · rcases List.mem_append.mp hs with hs | hs
      · exact hw.ps s hs
      · simp only [List.mem_singleton] at hs
        subst hs
        exact so
    · have hs : (w.path ++ ([⟨q, a, r, 1⟩] : List Step)).getLast? = some s := hs
      rw [List.getLast?_append, List.getLast?_singleton, Option.some_or] at hs
      cases hs
      have hlf : r.isLeaf = true := hlf
      show (if r.isLeaf = true then (dueOf t w.call).1 else An.o none) = (ansOf w.call (valOf r w.call.key)).1
      rw [if_pos hlf, due_ans]
      have := h.pg.ex.tab q (by rw [r1]; exact hlf) w.call.key (by rw [r1]; exact b2)
      rw [r1] at this
      rw [this]
theorem turn_ok (h : Inv0 pg t) (hw : WOk pg w) : ∃ o pg' t', turnR w pg t = some (o, pg', t') ∧ Inv0 pg' t' ∧ (∀ w', o = some w' → WOk pg' w') ∧ Grow pg pg' := by
  have refl : Grow pg pg := ⟨fun _ h => h, Int.le_refl _, fun _ _ _ _ => rfl⟩
  have htl := h.len
  have hpl := path_len hw.path
  unfold turnR
  cases ea : atLeaf w.path with
  | false =>
    obtain ⟨w', e1, e2⟩ := read_ok h hw ea
    simp only [if_true, e1]
    exact ⟨_, _, _, rfl, h, fun w2 hw2 => (by cases hw2; exact e2), refl⟩
  | true =>
    have hlast : ∃ s, w.path.getLast? = some s ∧ s.rc.isLeaf = true := by
      unfold atLeaf at ea
      cases e : w.path.getLast? with
      | none => rw [e] at ea; cases ea
      | some s => rw [e] at ea; exact ⟨s, rfl, ea⟩
    obtain ⟨s, hs, hlf⟩ := hlast
    have C := held_of h hw
    obtain ⟨told, e1, e2, _⟩ := plan_all C (by omega) hs hlf
    simp only [Bool.true_eq_false, if_false, e1]
    cases told with
    | read q =>
      obtain ⟨q1, p, hp, b, hb⟩ := e2
      have hdom := (hw.ps p hp).kd _ hb
      obtain ⟨y, hy⟩ := Option.isSome_iff_exists.mp hdom
      obtain ⟨a, r⟩ := y
      have hy : look pg q = some (a, r) := hy
      have hsl : w.sib.length ≤ 200 := by
        rw [← List.length_map (f := fun x : Int × Step => x.1)]
        refine len_le hw.snd fun x hx => ?_
        obtain ⟨z, hz⟩ := look_key hx
        have := h.pg.dom x (hw.sdom x (by rw [hz]; rfl))
        omega
      have eb : besideR w pg q = some ⟨w.call, w.path, put w.sib q ⟨q, a, r, 1⟩, w.due⟩ := by
        unfold besideR
        simp only [hy, if_pos (show w.sib.length ≤ 4000 by omega)]
      simp only [eb]
      refine ⟨_, _, _, rfl, h, fun w2 hw2 => ?_, refl⟩
      cases hw2
      refine ⟨hw.path, fun p b hb => ?_, hw.ps, fun p b hb => ?_, hw.key, put_nd hw.snd, fun p hp => ?_, hw.due⟩
      · rw [look_put] at hb
        by_cases g : p = q
        · rw [if_pos g] at hb
          cases hb
          exact ⟨g.symm, fun hl => new_stepR h hy hl⟩
        · rw [if_neg g] at hb
          exact hw.sib p b hb
      · rw [look_put] at hb
        by_cases g : p = q
        · rw [if_pos g] at hb
          cases hb
          exact new_ok h hy
        · rw [if_neg g] at hb
          exact hw.ss p b hb
      · rw [look_put] at hp
        by_cases g : p = q
        · rw [g, hy]; rfl
        · rw [if_neg g] at hp
          exact hw.sdom p hp
    | answer a =>
      have := hw.due s hs hlf
      simp only [if_pos (show a = w.due by rw [this]; exact e2.1)]
      exact ⟨_, _, _, rfl, h, fun w2 hw2 => (by cases hw2), refl⟩
    | stale => exact ⟨_, _, _, rfl, h, fun w2 hw2 => (by cases hw2; exact fresh_ok hw.key), refl⟩
    | change a es =>
      obtain ⟨a1, a2⟩ := apply_all h.pg C (by omega) (free_many h.pg h.key) (List.mem_of_getLast? hs) hlf e2
      simp only [if_pos (show appOk pg es = true ∧ t.length ≤ 4000 from ⟨a1, by omega⟩)]
      cases ep : appliedR pg es with
      | none => exact ⟨_, _, _, rfl, h, fun w2 hw2 => (by cases hw2; exact fresh_ok hw.key), refl⟩
      | some pg' =>
        obtain ⟨nv, n1, n2, n3, n4⟩ := a2 pg' ep
        have htb : (fun j => if j = w.call.key then nv else look t j) = look (dueOf t w.call).2 := by
          funext j
          exact (due_tab n1 j).symm
        rw [htb] at n3
        have h' : Inv0 pg' (dueOf t w.call).2 := ⟨n3, due_nd w.call h.nd, fun k hk => by
          rcases due_key w.call hk with z | z
          · rw [z]; exact hw.key
          · exact h.key k z⟩
        have hm : mapOk pg' (dueOf t w.call).2 = true := map_ok n3 (fun _ => rfl) h'.nd
        simp only [if_pos (show a = (dueOf t w.call).1 ∧ mapOk pg' (dueOf t w.call).2 = true from ⟨by rw [due_ans]; exact n2, hm⟩)]
        exact ⟨_, _, _, rfl, h', fun w2 hw2 => (by cases hw2), n4⟩
end
end Esp

/-! Plain law, part 14: the tree at the start, the law. -/
namespace Esp
open PySem L2 PyProof.Rows PySem.Spec
section
variable {pg : Pgs} {t : Tab} {key : Int} {path : List Step}
theorem path_snoc {s : Step} (h : PathOk path key) (h1 : StepR s) (h2 : inB s.rc.bd key = true) (h3 : path = [] → s.page = 0 ∧ s.rc.bd = (none, none)) (h4 : ∀ p, path.getLast? = some p → nextPage p.rc key = some s.page ∧ s.rc.lv = p.rc.lv - 1) : PathOk (path ++ [s]) key := by
  refine ⟨fun z hz => ?_, fun z hz => ?_, fun i p z hp hz => ?_⟩
  · rcases List.mem_append.mp hz with hz | hz
    · exact h.step z hz
    · simp only [List.mem_singleton] at hz
      subst hz
      exact ⟨h1, h2⟩
  · cases e : path with
    | nil =>
      rw [e] at hz
      cases hz
      exact h3 e
    | cons s0 rest =>
      rw [e] at hz
      exact h.root z (by rw [e]; exact hz)
  · by_cases g : i + 1 < path.length
    · rw [List.getElem?_append_left g] at hz
      rw [List.getElem?_append_left (by omega)] at hp
      exact h.link i p z hp hz
    · have hl2 := (List.getElem?_eq_some_iff.mp hz).1
      rw [List.length_append, List.length_singleton] at hl2
      have hi : i = path.length - 1 := by omega
      rw [List.getElem?_append_left (by omega)] at hp
      rw [List.getElem?_append_right (by omega), show i + 1 - path.length = 0 by omega] at hz
      cases hz
      exact h4 p (by rw [List.getLast?_eq_getElem?, ← hi]; exact hp)
theorem walk_go (h : Inv0 pg t) : ∀ (n k : Nat) (path : List Step) (s : Step), PathOk path key → (∀ z ∈ path, look pg z.page = some (z.addr, z.rc)) → path.getLast? = some s → s.rc.lv ≤ n →
    ∃ path' s', walkGo pg key n k path = some path' ∧ PathOk path' key ∧ (∀ z ∈ path', look pg z.page = some (z.addr, z.rc)) ∧ path'.getLast? = some s' ∧ s'.rc.isLeaf = true
  | 0, k, path, s, hp, hc, hs, hl => by
    have sr := (hp.step s (List.mem_of_getLast? hs)).1
    have := lv_nn sr.ok sr.live
    exact ⟨path, s, rfl, hp, hc, hs, by rw [leaf_of sr.ok sr.live]; exact decide_eq_true (by omega)⟩
  | n + 1, k, path, s, hp, hc, hs, hl => by
    obtain ⟨sr, sc⟩ := hp.step s (List.mem_of_getLast? hs)
    unfold walkGo
    rw [hs]
    cases hr : s.rc with
    | free m => have := sr.live; rw [hr] at this; cases this
    | leaf lo hi ks vs =>
      simp only [hr]
      exact walk_go h n (k + 1) path s hp hc hs (by rw [hr]; show (0 : Int) ≤ n; omega)
    | inner lv lo hi ks ps =>
      have ok := sr.ok
      rw [hr] at ok sc
      obtain ⟨o0, o1, o2, o3⟩ := okI_iff.mp ok
      obtain ⟨c, c1, c2, c3⟩ := kids_cov o3 o1 (k := key) sc
      have hn : nextPage (.inner lv lo hi ks ps) key = some c := by
        show (if ks.length ≤ 50 then ps[childAt ks key]? else none) = some c
        rw [if_pos o2]
        exact c1
      have cs := recAt_some (hc s (List.mem_of_getLast? hs))
      obtain ⟨a1, a2, a3⟩ := h.pg.ex.kids s.page _ (by rw [cs.1, hr]; exact c2)
      obtain ⟨y, hy⟩ := Option.isSome_iff_exists.mp (recAt_live a1)
      obtain ⟨a, r⟩ := y
      have hy : look pg c = some (a, r) := hy
      have r1 : recAt pg c = r := (recAt_some hy).1
      rw [r1] at a1 a2 a3
      rw [cs.1, hr] at a3
      simp only [hr, hn, hy]
      refine walk_go h n (k + 1) _ ⟨c, a, r, (k : Int) + 2⟩ (path_snoc hp (new_stepR h hy a1) (by show inB r.bd key = true; rw [a2]; exact c3) (fun e => by rw [e] at hs; cases hs) fun p hp' => ?_) (fun z hz => ?_) (by rw [List.getLast?_append]; rfl) ?_
      · rw [hs] at hp'
        cases hp'
        rw [hr]
        exact ⟨hn, a3⟩
      · rcases List.mem_append.mp hz with hz | hz
        · exact hc z hz
        · simp only [List.mem_singleton] at hz
          subst hz
          exact hy
      · show r.lv ≤ n
        rw [hr] at hl
        have hl : lv ≤ (n + 1 : Nat) := hl
        have a3 : r.lv = lv - 1 := a3
        omega
theorem walk_ok (h : Inv0 pg t) : ∃ path s, walkR pg key = some path ∧ PathOk path key ∧ (∀ z ∈ path, look pg z.page = some (z.addr, z.rc)) ∧ path.getLast? = some s ∧ s.rc.isLeaf = true := by
  obtain ⟨y, hy⟩ := Option.isSome_iff_exists.mp (recAt_live h.pg.ex.live0)
  obtain ⟨a, r⟩ := y
  have r1 : recAt pg 0 = r := (recAt_some hy).1
  unfold walkR
  rw [hy]
  have hl : r.live = true := by rw [← r1]; exact h.pg.ex.live0
  have hb : r.bd = (none, none) := by rw [← r1]; exact h.pg.ex.bd0
  have h6 := root_lv h.pg.ex h.key
  rw [r1] at h6
  refine walk_go h 20 0 _ ⟨0, a, r, 1⟩ (path_snoc (path := []) ⟨fun z hz => (by cases hz), fun z hz => (by cases hz), fun i p z h1 => (by cases h1)⟩ (new_stepR h hy hl) (by show inB r.bd key = true; rw [hb]; rfl) (fun _ => ⟨rfl, hb⟩) fun p hp => (by cases hp)) (fun z hz => ?_) rfl (by show r.lv ≤ 20; omega)
  have hz : z ∈ [Step.mk 0 a r 1] := hz
  simp only [List.mem_singleton] at hz
  subst hz
  exact hy
theorem chain_of (h : Inv0 pg t) (hp : PathOk path key) (hc : ∀ z ∈ path, look pg z.page = some (z.addr, z.rc)) : Chain path := by
  intro j p s lv lo hi ks ps h1 h2 h3 e
  obtain ⟨n1, _⟩ := hp.link j p s h1 h2
  rw [h3] at n1
  obtain ⟨lv', lo', hi', ks', ps', e2, g⟩ := nextPage_some n1
  cases e2
  have ok := (hp.step p (List.mem_of_getElem? h1)).1.ok
  rw [h3] at ok
  have cp := (recAt_some (hc p (List.mem_of_getElem? h1))).1
  have cs := (recAt_some (hc s (List.mem_of_getElem? h2))).1
  obtain ⟨_, a2, _⟩ := h.pg.ex.kids p.page _ (by rw [cp, h3]; exact kid_mem ok g)
  have a2 : (recAt pg s.page).bd = childB lo hi ks (childAt ks key) := a2
  rw [cs] at a2
  have hlt : childAt ks key < ps.length := (List.getElem?_eq_some_iff.mp g).1
  have := List.find?_eq_none.mp e (childAt ks key) (List.mem_range.mpr hlt)
  rw [g, a2] at this
  simp at this
/-- a put into the tree as it is -/
theorem put_ok (h : Inv0 pg t) (hk : -65 ≤ key ∧ key ≤ 64) (v : Int) : (∃ a, plannedR pg (.put key v) = some (.answer a) ∧ Inv0 pg (put t key v)) ∨
    (∃ a es pg', plannedR pg (.put key v) = some (.change a es) ∧ appOk pg es = true ∧ appliedR pg es = some pg' ∧ Inv0 pg' (put t key v)) := by
  obtain ⟨path, s, w1, w2, w3, w4, w5⟩ := walk_ok (key := key) h
  have hm := List.mem_of_getLast? w4
  have hlen := path_len w2
  have C : Held (recAt pg) (adAt pg) (look t) path [] (Call.put key v).key := ⟨h.pg.ex, pg_neg h.pg, w2, fun p b hb => (by cases hb), fun z hz _ => (recAt_some (w3 z hz)).1, fun p b hb => (by cases hb)⟩
  obtain ⟨told, e1, e2, e3⟩ := plan_all (c := .put key v) C (by omega) w4 w5
  have hpl : (∀ p, told ≠ .read p) → plannedR pg (.put key v) = some told := fun hn => by
    unfold plannedR
    rw [show (Call.put key v).key = key from rfl, w1]
    show plannedGo pg (.put key v) path (9 + 1) 0 [] = _
    unfold plannedGo
    rw [e1]
    cases told with
    | read p => exact absurd rfl (hn p)
    | answer a => rfl
    | stale => rfl
    | change a es => rfl
  have hval : valOf s.rc key = look t key := by
    have z := (recAt_some (w3 s hm)).1
    have := h.pg.ex.tab s.page (by rw [z]; exact w5) key (by rw [z]; exact (w2.step s hm).2)
    rw [z] at this
    exact this
  have nd' := put_nd (k := key) (v := v) h.nd
  have key' : ∀ k, (look (put t key v) k).isSome = true → -65 ≤ k ∧ k ≤ 64 := fun k hk' => by
    rw [look_put] at hk'
    by_cases g : k = key
    · rw [g]; exact hk
    · rw [if_neg g] at hk'
      exact h.key k hk'
  rcases e3 (chain_of h w2 w3) rfl with ⟨a, rfl⟩ | ⟨a, es, rfl⟩
  · left
    refine ⟨a, hpl (fun p z => (by cases z)), ?_⟩
    have hn := e2.2
    rw [show (Call.put key v).key = key from rfl, hval] at hn
    have hv : look t key = some v := by
      by_cases g : look t key = some v
      · exact g
      · simp [ansOf, g] at hn
    have e : look (put t key v) = look t := by
      funext k
      rw [look_put]
      by_cases g : k = key
      · rw [if_pos g, g, hv]
      · rw [if_neg g]
    exact ⟨by rw [e]; exact h.pg, nd', key'⟩
  · right
    obtain ⟨a1, a2⟩ := apply_all h.pg C (by omega) (free_many h.pg h.key) hm w5 e2
    have hall : es.all (curB pg) = true := by
      obtain ⟨_, nv, sf, _, ⟨k, _, hS⟩, rfl, _⟩ := e2
      rw [List.all_eq_true]
      intro e he
      obtain ⟨f1, f2, _, _⟩ := entry_of he hS
      unfold curB
      rw [Bool.or_eq_true, decide_eq_true_eq, decide_eq_true_eq]
      by_cases g : e.page < 0
      · exact .inl g
      · right
        obtain ⟨x, hx⟩ := Option.isSome_iff_exists.mp (hS.adr e.page (by omega) f1)
        obtain ⟨z, hz, z1, z2⟩ := hS.src e.page x hx
        rcases hz with hz | ⟨q, hq⟩
        · rw [f2, hx, ← z1, w3 z hz, ← z2]
          rfl
        · cases hq
    have hap : appliedR pg es = some (applyGo (mostAddr pg) pg (es.map (placedE (namesOf pg es)))) := by
      unfold appliedR
      rw [if_pos hall]
    obtain ⟨nv, n1, n2, n3, n4⟩ := a2 _ hap
    refine ⟨a, es, _, hpl (fun p z => (by cases z)), a1, hap, ?_, nd', key'⟩
    have htb : (fun j => if j = (Call.put key v).key then nv else look t j) = look (put t key v) := by
      funext j
      exact (due_tab (c := .put key v) n1 j).symm
    rw [htb] at n3
    exact n3
theorem start_inv : Inv0 startPg [] := by
  have e0 : recAt startPg 0 = .leaf none none [] [] := rfl
  have en : ∀ p : Int, p ≠ 0 → look startPg p = none := fun p hp => by
    unfold startPg
    rw [look_cons, if_neg (fun z => hp z.symm), look_nil]
  have e1 : ∀ p : Int, p ≠ 0 → recAt startPg p = .free 0 := fun p hp => by
    unfold recAt
    rw [en p hp]
  have lv : ∀ p : Int, (recAt startPg p).live = true → p = 0 := fun p h => by
    by_cases g : p = 0
    · exact g
    · rw [e1 p g] at h; cases h
  refine ⟨⟨⟨rfl, rfl, fun p => ?_, fun p hp _ => ?_, fun p c hc => ?_, fun p q k hp hq _ _ _ => by rw [lv p hp, lv q hq], fun p hp => by rw [lv p hp]; exact Int.le_refl _, fun p hp k hk => ?_⟩, fun p hp => ?_, ?_⟩, List.nodup_nil, fun k hk => (by cases hk)⟩
  · by_cases g : p = 0
    · rw [g, e0]; rfl
    · rw [e1 p g]; rfl
  · rw [lv p hp, e0]; rfl
  · have := lv p (kids_live hc).1
    rw [this, e0] at hc
    cases hc
  · rw [lv p (live_leaf hp).1, e0]; rfl
  · by_cases g : p = 0
    · rw [g]; decide
    · rw [en p g] at hp; cases hp
  · exact List.nodup_cons.mpr ⟨fun h => (by cases h), List.nodup_nil⟩
theorem fill_go (c : Int) : ∀ (n k : Nat) (pg : Pgs) (t : Tab), Inv0 pg t → ∃ pg' t', fillGo c n k pg t = some (pg', t') ∧ Inv0 pg' t'
  | 0, k, pg, t, h => ⟨pg, t, rfl, h⟩
  | n + 1, k, pg, t, h => by
    have hl := h.len
    have hk : -65 ≤ fillKey c k ∧ fillKey c k ≤ 64 := by
      unfold fillKey
      have := Int.emod_nonneg ((k : Int) * (2 * dig c fillBs 2 + 1) + dig c fillBs 3) (show (41 : Int) ≠ 0 by decide)
      have := Int.emod_lt_of_pos ((k : Int) * (2 * dig c fillBs 2 + 1) + dig c fillBs 3) (show (0 : Int) < 41 by decide)
      omega
    unfold fillGo
    rw [if_pos (by omega)]
    rcases put_ok h hk k with ⟨a, e1, h'⟩ | ⟨a, es, pg', e1, e2, e3, h'⟩
    · rw [e1]
      exact fill_go c n (k + 1) pg _ h'
    · rw [e1]
      simp only [e2, if_true, e3]
      exact fill_go c n (k + 1) pg' _ h'
theorem call_key (h : ∀ k, (look t k).isSome = true → -65 ≤ k ∧ k ≤ 64) {w : Int} (hw : w = 6 ∨ w = 20 ∨ w = 60 ∨ w = 130) (c : Int) : -65 ≤ (callOf c w t).key ∧ (callOf c w t).key ≤ 64 := by
  have hb : ∀ b ∈ callBs w, 0 < b := by
    intro b hb
    simp only [callBs, List.mem_cons, List.not_mem_nil, or_false] at hb
    rcases hb with rfl | rfl | rfl | rfl | rfl | rfl <;> omega
  obtain ⟨_, b0, b1⟩ := dig_get (c := c) hb (i := 1) (b := w) rfl
  have k0 : -65 ≤ dig c (callBs w) 1 - w / 2 ∧ dig c (callBs w) 1 - w / 2 ≤ 64 := by omega
  have k1 : -65 ≤ callKey c w t ∧ callKey c w t ≤ 64 := by
    unfold callKey
    split
    case isFalse => exact k0
    case isTrue g =>
      have hpos : 0 < (keysOf t).length := List.length_pos_iff.mpr g.2
      have m0 := Int.emod_nonneg (dig c (callBs w) 1) (show ((keysOf t).length : Int) ≠ 0 by omega)
      have m1 := Int.emod_lt_of_pos (dig c (callBs w) 1) (show (0 : Int) < ((keysOf t).length : Int) by omega)
      have hlt : (dig c (callBs w) 1 % ((keysOf t).length : Int)).toNat < (keysOf t).length := by omega
      rw [List.getD_eq_getElem?_getD, List.getElem?_eq_getElem hlt]
      have hm : (keysOf t)[(dig c (callBs w) 1 % ((keysOf t).length : Int)).toNat] ∈ keysOf t := List.getElem_mem hlt
      have hm2 := (srt_perm _).mem_iff.mp hm
      obtain ⟨y, hy⟩ := look_key hm2
      exact h _ (by show (look t (keysOf t)[(dig c (callBs w) 1 % ((keysOf t).length : Int)).toNat]).isSome = true; rw [hy]; rfl)
  unfold callOf
  split <;> first | exact k0 | exact k1
end
def Hold (w : Int) (pg : Pgs) (t : Tab) (ws : List Wk) : Prop := (w = 6 ∨ w = 20 ∨ w = 60 ∨ w = 130) ∧ Inv0 pg t ∧ ws.length = 3 ∧ ∀ wk ∈ ws, WOk pg wk
theorem plain : Plain Hold := by
  refine ⟨fun c => ?_, fun {w pg t ws} h => ⟨h.2.2.1, by have := h.2.1.len; omega⟩, fun {w pg t ws j wk} h hj => ?_, fun {w pg t ws} h => map_ok h.2.1.pg (fun _ => rfl) h.2.1.nd⟩
  · obtain ⟨pg, t, e, h⟩ := fill_go c (fillMany c).toNat 0 startPg [] start_inv
    refine ⟨pg, t, e, by have := h.len; omega, fun w hw c0 c1 c2 => ⟨hw, h, rfl, fun wk hwk => ?_⟩⟩
    simp only [List.mem_cons, List.not_mem_nil, or_false] at hwk
    rcases hwk with rfl | rfl | rfl
    · exact fresh_ok (call_key h.key hw c0)
    · exact fresh_ok (call_key h.key hw c1)
    · exact fresh_ok (call_key h.key hw c2)
  · obtain ⟨hw, hi, hlen, hall⟩ := h
    obtain ⟨o, pg', t', e, h', h1, G⟩ := turn_ok hi (hall wk (List.mem_of_getElem? hj))
    have others : ∀ x, WOk pg' x → ∀ z ∈ ws.set j x, WOk pg' z := fun x hx z hz => by
      rcases List.mem_or_eq_of_mem_set hz with hz | rfl
      · exact (hall z hz).grow G
      · exact hx
    refine ⟨o, pg', t', e, by have := h'.len; omega, fun wk' hw' => ⟨hw, h', by rw [List.length_set]; exact hlen, others wk' (h1 wk' hw')⟩, fun _ c => ⟨hw, h', by rw [List.length_set]; exact hlen, others _ (fresh_ok (call_key h'.key hw c))⟩⟩
end Esp

namespace Esp
open PySem L2 PyProof.Rows PySem.Spec
def top (i : Nat) : Stmt := PySem.Challenge.pw_espalier_k33_whole_plans_of_old_paths.main.body.getD i (.Pass ⟨0, 0, 0, 0⟩)
abbrev s_is_integer : Stmt := top 7
abbrev s_is_bound : Stmt := top 8
abbrev s_are_integers : Stmt := top 9
abbrev s_are_ascending : Stmt := top 10
abbrev s_is_above : Stmt := top 11
abbrev s_is_below : Stmt := top 12
abbrev s_is_leaf : Stmt := top 13
abbrev s_is_inner : Stmt := top 14
abbrev s_is_record : Stmt := top 15
abbrev s_checked : Stmt := top 16
abbrev s_leaf : Stmt := top 17
abbrev s_inner : Stmt := top 18
abbrev s_level_of : Stmt := top 19
abbrev s_bounds_of : Stmt := top 20
abbrev s_size_of : Stmt := top 21
abbrev s_value_in : Stmt := top 22
abbrev s_place_of : Stmt := top 23
abbrev s_child_bounds : Stmt := top 24
abbrev s_with_value : Stmt := top 25
abbrev s_without_key : Stmt := top 26
abbrev s_with_child : Stmt := top 27
abbrev s_without_child : Stmt := top 28
abbrev s_with_separator : Stmt := top 29
abbrev s_cut : Stmt := top 30
abbrev s_joined : Stmt := top 31
abbrev s_leaf_change : Stmt := top 33
abbrev s_most_of : Stmt := top 34
abbrev s_Draft___init__ : Stmt := inClass (top 35) 0
abbrev s_Draft_give : Stmt := inClass (top 35) 1
abbrev s_Draft_add_page : Stmt := inClass (top 35) 2
abbrev s_Draft_entries : Stmt := inClass (top 35) 3
abbrev s_Draft_place_in_parent : Stmt := inClass (top 35) 4
abbrev s_Draft_settle : Stmt := inClass (top 35) 5
abbrev s_Draft_divide : Stmt := inClass (top 35) 6
abbrev s_Draft_unite : Stmt := inClass (top 35) 7
abbrev s_Draft_unite_pair : Stmt := inClass (top 35) 8
abbrev s_plan : Stmt := top 36
abbrev s_new_pages : Stmt := top 37
abbrev s_real_page : Stmt := top 38
abbrev s_placed : Stmt := top 39
abbrev s__law_cell : Stmt := top 41
abbrev s__law_digits : Stmt := top 42
abbrev s__law_many : Stmt := top 43
abbrev s__law_call : Stmt := top 44
abbrev s__law_due : Stmt := top 45
abbrev s__law_covers : Stmt := top 46
abbrev s__law_walk : Stmt := top 47
abbrev s__law_planned : Stmt := top 48
abbrev s__law_free : Stmt := top 49
abbrev s__law_applied : Stmt := top 50
abbrev s__law_ascending : Stmt := top 51
abbrev s__law_below : Stmt := top 52
abbrev s__law_fits : Stmt := top 53
abbrev s__law_map : Stmt := top 54
abbrev s__law_start : Stmt := top 55
abbrev s__law_filled : Stmt := top 56
abbrev s__law_fresh : Stmt := top 57
abbrev s__law_wrong : Stmt := top 58
abbrev s__law_read : Stmt := top 59
abbrev s__law_beside : Stmt := top 60
abbrev s__law_turn : Stmt := top 61
abbrev s_law : Stmt := top 62
def d_is_integer : He.DefD := ⟨("is_integer", none), "is_integer", "is_integer", defArgs s_is_integer, defBody s_is_integer, defScope s_is_integer, [], []⟩
def d_is_bound : He.DefD := ⟨("is_bound", none), "is_bound", "is_bound", defArgs s_is_bound, defBody s_is_bound, defScope s_is_bound, [], []⟩
def d_are_integers : He.DefD := ⟨("are_integers", none), "are_integers", "are_integers", defArgs s_are_integers, defBody s_are_integers, defScope s_are_integers, [], []⟩
def d_are_ascending : He.DefD := ⟨("are_ascending", none), "are_ascending", "are_ascending", defArgs s_are_ascending, defBody s_are_ascending, defScope s_are_ascending, [], []⟩
def d_is_above : He.DefD := ⟨("is_above", none), "is_above", "is_above", defArgs s_is_above, defBody s_is_above, defScope s_is_above, [], []⟩
def d_is_below : He.DefD := ⟨("is_below", none), "is_below", "is_below", defArgs s_is_below, defBody s_is_below, defScope s_is_below, [], []⟩
def d_is_leaf : He.DefD := ⟨("is_leaf", none), "is_leaf", "is_leaf", defArgs s_is_leaf, defBody s_is_leaf, defScope s_is_leaf, [], []⟩
def d_is_inner : He.DefD := ⟨("is_inner", none), "is_inner", "is_inner", defArgs s_is_inner, defBody s_is_inner, defScope s_is_inner, [], []⟩
def d_is_record : He.DefD := ⟨("is_record", none), "is_record", "is_record", defArgs s_is_record, defBody s_is_record, defScope s_is_record, [], []⟩
def d_checked : He.DefD := ⟨("checked", none), "checked", "checked", defArgs s_checked, defBody s_checked, defScope s_checked, [], []⟩
def d_leaf : He.DefD := ⟨("leaf", none), "leaf", "leaf", defArgs s_leaf, defBody s_leaf, defScope s_leaf, [], []⟩
def d_inner : He.DefD := ⟨("inner", none), "inner", "inner", defArgs s_inner, defBody s_inner, defScope s_inner, [], []⟩
def d_level_of : He.DefD := ⟨("level_of", none), "level_of", "level_of", defArgs s_level_of, defBody s_level_of, defScope s_level_of, [], []⟩
def d_bounds_of : He.DefD := ⟨("bounds_of", none), "bounds_of", "bounds_of", defArgs s_bounds_of, defBody s_bounds_of, defScope s_bounds_of, [], []⟩
def d_size_of : He.DefD := ⟨("size_of", none), "size_of", "size_of", defArgs s_size_of, defBody s_size_of, defScope s_size_of, [], []⟩
def d_value_in : He.DefD := ⟨("value_in", none), "value_in", "value_in", defArgs s_value_in, defBody s_value_in, defScope s_value_in, [], []⟩
def d_place_of : He.DefD := ⟨("place_of", none), "place_of", "place_of", defArgs s_place_of, defBody s_place_of, defScope s_place_of, [], []⟩
def d_child_bounds : He.DefD := ⟨("child_bounds", none), "child_bounds", "child_bounds", defArgs s_child_bounds, defBody s_child_bounds, defScope s_child_bounds, [], []⟩
def d_with_value : He.DefD := ⟨("with_value", none), "with_value", "with_value", defArgs s_with_value, defBody s_with_value, defScope s_with_value, [], []⟩
def d_without_key : He.DefD := ⟨("without_key", none), "without_key", "without_key", defArgs s_without_key, defBody s_without_key, defScope s_without_key, [], []⟩
def d_with_child : He.DefD := ⟨("with_child", none), "with_child", "with_child", defArgs s_with_child, defBody s_with_child, defScope s_with_child, [], []⟩
def d_without_child : He.DefD := ⟨("without_child", none), "without_child", "without_child", defArgs s_without_child, defBody s_without_child, defScope s_without_child, [], []⟩
def d_with_separator : He.DefD := ⟨("with_separator", none), "with_separator", "with_separator", defArgs s_with_separator, defBody s_with_separator, defScope s_with_separator, [], []⟩
def d_cut : He.DefD := ⟨("cut", none), "cut", "cut", defArgs s_cut, defBody s_cut, defScope s_cut, [], []⟩
def d_joined : He.DefD := ⟨("joined", none), "joined", "joined", defArgs s_joined, defBody s_joined, defScope s_joined, [], []⟩
def d_leaf_change : He.DefD := ⟨("leaf_change", none), "leaf_change", "leaf_change", defArgs s_leaf_change, defBody s_leaf_change, defScope s_leaf_change, [], []⟩
def d_most_of : He.DefD := ⟨("most_of", none), "most_of", "most_of", defArgs s_most_of, defBody s_most_of, defScope s_most_of, [], []⟩
def d_Draft___init__ : He.DefD := ⟨("Draft", some "__init__"), "__init__", "Draft.__init__", defArgs s_Draft___init__, defBody s_Draft___init__, defScope s_Draft___init__, [], []⟩
def d_Draft_give : He.DefD := ⟨("Draft", some "give"), "give", "Draft.give", defArgs s_Draft_give, defBody s_Draft_give, defScope s_Draft_give, [], []⟩
def d_Draft_add_page : He.DefD := ⟨("Draft", some "add_page"), "add_page", "Draft.add_page", defArgs s_Draft_add_page, defBody s_Draft_add_page, defScope s_Draft_add_page, [], []⟩
def d_Draft_entries : He.DefD := ⟨("Draft", some "entries"), "entries", "Draft.entries", defArgs s_Draft_entries, defBody s_Draft_entries, defScope s_Draft_entries, [], []⟩
def d_Draft_place_in_parent : He.DefD := ⟨("Draft", some "place_in_parent"), "place_in_parent", "Draft.place_in_parent", defArgs s_Draft_place_in_parent, defBody s_Draft_place_in_parent, defScope s_Draft_place_in_parent, [], []⟩
def d_Draft_settle : He.DefD := ⟨("Draft", some "settle"), "settle", "Draft.settle", defArgs s_Draft_settle, defBody s_Draft_settle, defScope s_Draft_settle, [], []⟩
def d_Draft_divide : He.DefD := ⟨("Draft", some "divide"), "divide", "Draft.divide", defArgs s_Draft_divide, defBody s_Draft_divide, defScope s_Draft_divide, [], []⟩
def d_Draft_unite : He.DefD := ⟨("Draft", some "unite"), "unite", "Draft.unite", defArgs s_Draft_unite, defBody s_Draft_unite, defScope s_Draft_unite, [], []⟩
def d_Draft_unite_pair : He.DefD := ⟨("Draft", some "unite_pair"), "unite_pair", "Draft.unite_pair", defArgs s_Draft_unite_pair, defBody s_Draft_unite_pair, defScope s_Draft_unite_pair, [], []⟩
def d_plan : He.DefD := ⟨("plan", none), "plan", "plan", defArgs s_plan, defBody s_plan, defScope s_plan, [], []⟩
def d_new_pages : He.DefD := ⟨("new_pages", none), "new_pages", "new_pages", defArgs s_new_pages, defBody s_new_pages, defScope s_new_pages, [], []⟩
def d_real_page : He.DefD := ⟨("real_page", none), "real_page", "real_page", defArgs s_real_page, defBody s_real_page, defScope s_real_page, [], []⟩
def d_placed : He.DefD := ⟨("placed", none), "placed", "placed", defArgs s_placed, defBody s_placed, defScope s_placed, [], []⟩
def d__law_cell : He.DefD := ⟨("_law_cell", none), "_law_cell", "_law_cell", defArgs s__law_cell, defBody s__law_cell, defScope s__law_cell, [], []⟩
def d__law_digits : He.DefD := ⟨("_law_digits", none), "_law_digits", "_law_digits", defArgs s__law_digits, defBody s__law_digits, defScope s__law_digits, [], []⟩
def d__law_many : He.DefD := ⟨("_law_many", none), "_law_many", "_law_many", defArgs s__law_many, defBody s__law_many, defScope s__law_many, [], []⟩
def d__law_call : He.DefD := ⟨("_law_call", none), "_law_call", "_law_call", defArgs s__law_call, defBody s__law_call, defScope s__law_call, [], []⟩
def d__law_due : He.DefD := ⟨("_law_due", none), "_law_due", "_law_due", defArgs s__law_due, defBody s__law_due, defScope s__law_due, [], []⟩
def d__law_covers : He.DefD := ⟨("_law_covers", none), "_law_covers", "_law_covers", defArgs s__law_covers, defBody s__law_covers, defScope s__law_covers, [], []⟩
def d__law_walk : He.DefD := ⟨("_law_walk", none), "_law_walk", "_law_walk", defArgs s__law_walk, defBody s__law_walk, defScope s__law_walk, [], []⟩
def d__law_planned : He.DefD := ⟨("_law_planned", none), "_law_planned", "_law_planned", defArgs s__law_planned, defBody s__law_planned, defScope s__law_planned, [], []⟩
def d__law_free : He.DefD := ⟨("_law_free", none), "_law_free", "_law_free", defArgs s__law_free, defBody s__law_free, defScope s__law_free, [], []⟩
def d__law_applied : He.DefD := ⟨("_law_applied", none), "_law_applied", "_law_applied", defArgs s__law_applied, defBody s__law_applied, defScope s__law_applied, [], []⟩
def d__law_ascending : He.DefD := ⟨("_law_ascending", none), "_law_ascending", "_law_ascending", defArgs s__law_ascending, defBody s__law_ascending, defScope s__law_ascending, [], []⟩
def d__law_below : He.DefD := ⟨("_law_below", none), "_law_below", "_law_below", defArgs s__law_below, defBody s__law_below, defScope s__law_below, [], []⟩
def d__law_fits : He.DefD := ⟨("_law_fits", none), "_law_fits", "_law_fits", defArgs s__law_fits, defBody s__law_fits, defScope s__law_fits, [], []⟩
def d__law_map : He.DefD := ⟨("_law_map", none), "_law_map", "_law_map", defArgs s__law_map, defBody s__law_map, defScope s__law_map, [], []⟩
def d__law_start : He.DefD := ⟨("_law_start", none), "_law_start", "_law_start", defArgs s__law_start, defBody s__law_start, defScope s__law_start, [], []⟩
def d__law_filled : He.DefD := ⟨("_law_filled", none), "_law_filled", "_law_filled", defArgs s__law_filled, defBody s__law_filled, defScope s__law_filled, [], []⟩
def d__law_fresh : He.DefD := ⟨("_law_fresh", none), "_law_fresh", "_law_fresh", defArgs s__law_fresh, defBody s__law_fresh, defScope s__law_fresh, [], []⟩
def d__law_wrong : He.DefD := ⟨("_law_wrong", none), "_law_wrong", "_law_wrong", defArgs s__law_wrong, defBody s__law_wrong, defScope s__law_wrong, [], []⟩
def d__law_read : He.DefD := ⟨("_law_read", none), "_law_read", "_law_read", defArgs s__law_read, defBody s__law_read, defScope s__law_read, [], []⟩
def d__law_beside : He.DefD := ⟨("_law_beside", none), "_law_beside", "_law_beside", defArgs s__law_beside, defBody s__law_beside, defScope s__law_beside, [], []⟩
def d__law_turn : He.DefD := ⟨("_law_turn", none), "_law_turn", "_law_turn", defArgs s__law_turn, defBody s__law_turn, defScope s__law_turn, [], []⟩
def d_law : He.DefD := ⟨("law", none), "law", "law", defArgs s_law, defBody s_law, defScope s_law, [], []⟩
def fn : List He.DefD := [d_is_integer, d_is_bound, d_are_integers, d_are_ascending, d_is_above, d_is_below, d_is_leaf, d_is_inner, d_is_record, d_checked, d_leaf, d_inner, d_level_of, d_bounds_of, d_size_of, d_value_in, d_place_of, d_child_bounds, d_with_value, d_without_key, d_with_child, d_without_child, d_with_separator, d_cut, d_joined, d_leaf_change, d_most_of, d_Draft___init__, d_Draft_give, d_Draft_add_page] ++ [d_Draft_entries, d_Draft_place_in_parent, d_Draft_settle, d_Draft_divide, d_Draft_unite, d_Draft_unite_pair, d_plan, d_new_pages, d_real_page, d_placed, d__law_cell, d__law_digits, d__law_many, d__law_call, d__law_due, d__law_covers, d__law_walk, d__law_planned, d__law_free, d__law_applied, d__law_ascending, d__law_below, d__law_fits, d__law_map, d__law_start, d__law_filled, d__law_fresh, d__law_wrong, d__law_read, d__law_beside, d__law_turn, d_law]
def fa : List He.Fa := [.glo "is_integer", .glo "is_bound", .glo "are_integers", .glo "are_ascending", .glo "is_above", .glo "is_below", .glo "is_leaf", .glo "is_inner", .glo "is_record", .glo "checked", .glo "leaf", .glo "inner", .glo "level_of", .glo "bounds_of", .glo "size_of", .glo "value_in", .glo "place_of", .glo "child_bounds", .glo "with_value", .glo "without_key", .glo "with_child", .glo "without_child", .glo "with_separator", .glo "cut", .glo "joined", .glo "leaf_change", .glo "most_of", .glo "plan", .glo "new_pages", .glo "real_page"] ++ [.glo "placed", .glo "_law_cell", .glo "_law_digits", .glo "_law_many", .glo "_law_call", .glo "_law_due", .glo "_law_covers", .glo "_law_walk", .glo "_law_planned", .glo "_law_free", .glo "_law_applied", .glo "_law_ascending", .glo "_law_below", .glo "_law_fits", .glo "_law_map", .glo "_law_start", .glo "_law_filled", .glo "_law_fresh", .glo "_law_wrong", .glo "_law_read", .glo "_law_beside", .glo "_law_turn", .glo "law", .glo "Draft", .free "isinstance", .free "int", .free "bool", .free "tuple", .free "all", .free "range"] ++ [.free "len", .free "sorted", .free "max", .free "dict", .free "list", .free "min", .int "LEAF_MOST" 4, .int "INNER_MOST" 5, .int "LEAST" 2, .cls "Draft", .noat "Draft" "path", .noat "Draft" "siblings", .noat "Draft" "records", .noat "Draft" "addresses", .noat "Draft" "fresh", .meth "Draft" "give", .meth "Draft" "add_page", .meth "Draft" "entries", .meth "Draft" "place_in_parent", .meth "Draft" "settle", .meth "Draft" "divide", .meth "Draft" "unite", .meth "Draft" "unite_pair", .mkr "Draft"]
def loose : List Str := (["EspalierError", "Broken", "LEAF_MOST", "INNER_MOST", "LEAST", "is_integer", "is_bound", "are_integers", "are_ascending", "is_above", "is_below", "is_leaf", "is_inner", "is_record", "checked", "leaf", "inner", "level_of", "bounds_of", "size_of", "value_in", "place_of", "child_bounds", "with_value", "without_key", "with_child", "without_child", "with_separator", "cut", "joined"] : List Str) ++ (["leaf_change", "most_of", "Draft", "plan", "new_pages", "real_page", "placed", "_law_cell", "_law_digits", "_law_many", "_law_call", "_law_due", "_law_covers", "_law_walk", "_law_planned", "_law_free", "_law_applied", "_law_ascending", "_law_below", "_law_fits", "_law_map", "_law_start", "_law_filled", "_law_fresh", "_law_wrong", "_law_read", "_law_beside", "_law_turn"] : List Str)
abbrev R : PySem.W.OpenRow := PySem.W.OpenLaw.row PySem.Challenge.rw_espalier_k33_whole_plans_of_old_paths
abbrev hk : PySem.W.Hook := He.hookD 4 fa fn
def ob (st : PySem.W.SharedT) : He.AlD := He.obsDG 4 fa fn (HandSHeadRun.getT st)
theorem ob_eq (st : PySem.W.SharedT) : ob st = hk.obs st.abs := He.obsDG_eq (HandSHeadRun.getT_eq st)
theorem run (w : World) : HandSHeadRun.RunEq R (PySem.W.view R.prog [62]) hk ob 6000 loose w := by
  intro os
  kernel_rfl
end Esp

/-! Printed by gen.py: the bodies of nodes.py read so -/
namespace Esp
open PySem L2 PyProof.Rows PySem.Spec
abbrev N_is_integer : List Str := ["value"]
abbrev P_is_integer : List Str := ["value"]
theorem sc_is_integer : FnScope N_is_integer P_is_integer (defScope s_is_integer) := ⟨rfl, rfl, rfl, by decide +kernel, rfl, by decide +kernel, by decide +kernel⟩
abbrev N_is_bound : List Str := ["value"]
abbrev P_is_bound : List Str := ["value"]
theorem sc_is_bound : FnScope N_is_bound P_is_bound (defScope s_is_bound) := ⟨rfl, rfl, rfl, by decide +kernel, rfl, by decide +kernel, by decide +kernel⟩
abbrev N_are_integers : List Str := ["values", "value"]
abbrev P_are_integers : List Str := ["values"]
theorem sc_are_integers : FnScope N_are_integers P_are_integers (defScope s_are_integers) := ⟨rfl, rfl, rfl, by decide +kernel, rfl, by decide +kernel, by decide +kernel⟩
abbrev N_are_ascending : List Str := ["keys", "index"]
abbrev P_are_ascending : List Str := ["keys"]
theorem sc_are_ascending : FnScope N_are_ascending P_are_ascending (defScope s_are_ascending) := ⟨rfl, rfl, rfl, by decide +kernel, rfl, by decide +kernel, by decide +kernel⟩
abbrev N_is_above : List Str := ["key", "low"]
abbrev P_is_above : List Str := ["key", "low"]
theorem sc_is_above : FnScope N_is_above P_is_above (defScope s_is_above) := ⟨rfl, rfl, rfl, by decide +kernel, rfl, by decide +kernel, by decide +kernel⟩
abbrev N_is_below : List Str := ["key", "high"]
abbrev P_is_below : List Str := ["key", "high"]
theorem sc_is_below : FnScope N_is_below P_is_below (defScope s_is_below) := ⟨rfl, rfl, rfl, by decide +kernel, rfl, by decide +kernel, by decide +kernel⟩
abbrev N_is_leaf : List Str := ["record", "low", "high", "keys", "values", "key"]
abbrev P_is_leaf : List Str := ["record"]
theorem sc_is_leaf : FnScope N_is_leaf P_is_leaf (defScope s_is_leaf) := ⟨rfl, rfl, rfl, by decide +kernel, rfl, by decide +kernel, by decide +kernel⟩
abbrev N_is_inner : List Str := ["record", "low", "high", "keys", "pages", "key"]
abbrev P_is_inner : List Str := ["record"]
theorem sc_is_inner : FnScope N_is_inner P_is_inner (defScope s_is_inner) := ⟨rfl, rfl, rfl, by decide +kernel, rfl, by decide +kernel, by decide +kernel⟩
abbrev N_is_record : List Str := ["value"]
abbrev P_is_record : List Str := ["value"]
theorem sc_is_record : FnScope N_is_record P_is_record (defScope s_is_record) := ⟨rfl, rfl, rfl, by decide +kernel, rfl, by decide +kernel, by decide +kernel⟩
abbrev N_checked : List Str := ["record"]
abbrev P_checked : List Str := ["record"]
theorem sc_checked : FnScope N_checked P_checked (defScope s_checked) := ⟨rfl, rfl, rfl, by decide +kernel, rfl, by decide +kernel, by decide +kernel⟩
abbrev N_leaf : List Str := ["low", "high", "keys", "values"]
abbrev P_leaf : List Str := ["low", "high", "keys", "values"]
theorem sc_leaf : FnScope N_leaf P_leaf (defScope s_leaf) := ⟨rfl, rfl, rfl, by decide +kernel, rfl, by decide +kernel, by decide +kernel⟩
abbrev N_inner : List Str := ["level", "low", "high", "keys", "pages"]
abbrev P_inner : List Str := ["level", "low", "high", "keys", "pages"]
theorem sc_inner : FnScope N_inner P_inner (defScope s_inner) := ⟨rfl, rfl, rfl, by decide +kernel, rfl, by decide +kernel, by decide +kernel⟩
abbrev N_level_of : List Str := ["record"]
abbrev P_level_of : List Str := ["record"]
theorem sc_level_of : FnScope N_level_of P_level_of (defScope s_level_of) := ⟨rfl, rfl, rfl, by decide +kernel, rfl, by decide +kernel, by decide +kernel⟩
abbrev N_bounds_of : List Str := ["record"]
abbrev P_bounds_of : List Str := ["record"]
theorem sc_bounds_of : FnScope N_bounds_of P_bounds_of (defScope s_bounds_of) := ⟨rfl, rfl, rfl, by decide +kernel, rfl, by decide +kernel, by decide +kernel⟩
abbrev N_size_of : List Str := ["record"]
abbrev P_size_of : List Str := ["record"]
theorem sc_size_of : FnScope N_size_of P_size_of (defScope s_size_of) := ⟨rfl, rfl, rfl, by decide +kernel, rfl, by decide +kernel, by decide +kernel⟩
abbrev N_value_in : List Str := ["record", "key", "index"]
abbrev P_value_in : List Str := ["record", "key"]
theorem sc_value_in : FnScope N_value_in P_value_in (defScope s_value_in) := ⟨rfl, rfl, rfl, by decide +kernel, rfl, by decide +kernel, by decide +kernel⟩
abbrev N_place_of : List Str := ["keys", "key", "one"]
abbrev P_place_of : List Str := ["keys", "key"]
theorem sc_place_of : FnScope N_place_of P_place_of (defScope s_place_of) := ⟨rfl, rfl, rfl, by decide +kernel, rfl, by decide +kernel, by decide +kernel⟩
abbrev N_child_bounds : List Str := ["record", "index", "low", "high", "keys"]
abbrev P_child_bounds : List Str := ["record", "index"]
theorem sc_child_bounds : FnScope N_child_bounds P_child_bounds (defScope s_child_bounds) := ⟨rfl, rfl, rfl, by decide +kernel, rfl, by decide +kernel, by decide +kernel⟩
abbrev N_with_value : List Str := ["record", "key", "value", "low", "high", "keys", "values", "place", "behind"]
abbrev P_with_value : List Str := ["record", "key", "value"]
theorem sc_with_value : FnScope N_with_value P_with_value (defScope s_with_value) := ⟨rfl, rfl, rfl, by decide +kernel, rfl, by decide +kernel, by decide +kernel⟩
abbrev N_without_key : List Str := ["record", "key", "low", "high", "keys", "values", "place"]
abbrev P_without_key : List Str := ["record", "key"]
theorem sc_without_key : FnScope N_without_key P_without_key (defScope s_without_key) := ⟨rfl, rfl, rfl, by decide +kernel, rfl, by decide +kernel, by decide +kernel⟩
abbrev N_with_child : List Str := ["record", "index", "separator", "page", "level", "low", "high", "keys", "pages"]
abbrev P_with_child : List Str := ["record", "index", "separator", "page"]
theorem sc_with_child : FnScope N_with_child P_with_child (defScope s_with_child) := ⟨rfl, rfl, rfl, by decide +kernel, rfl, by decide +kernel, by decide +kernel⟩
abbrev N_without_child : List Str := ["record", "index", "level", "low", "high", "keys", "pages"]
abbrev P_without_child : List Str := ["record", "index"]
theorem sc_without_child : FnScope N_without_child P_without_child (defScope s_without_child) := ⟨rfl, rfl, rfl, by decide +kernel, rfl, by decide +kernel, by decide +kernel⟩
abbrev N_with_separator : List Str := ["record", "index", "separator", "level", "low", "high", "keys", "pages"]
abbrev P_with_separator : List Str := ["record", "index", "separator"]
theorem sc_with_separator : FnScope N_with_separator P_with_separator (defScope s_with_separator) := ⟨rfl, rfl, rfl, by decide +kernel, rfl, by decide +kernel, by decide +kernel⟩
abbrev N_cut : List Str := ["record", "half", "low", "high", "keys", "values", "first", "level", "pages", "separator"]
abbrev P_cut : List Str := ["record"]
theorem sc_cut : FnScope N_cut P_cut (defScope s_cut) := ⟨rfl, rfl, rfl, by decide +kernel, rfl, by decide +kernel, by decide +kernel⟩
abbrev N_joined : List Str := ["first", "separator", "second", "low", "high", "keys"]
abbrev P_joined : List Str := ["first", "separator", "second"]
theorem sc_joined : FnScope N_joined P_joined (defScope s_joined) := ⟨rfl, rfl, rfl, by decide +kernel, rfl, by decide +kernel, by decide +kernel⟩
theorem ps_is_integer {P : Program} {w : World} {K : PySem.W.Frag} {mg : Str → Option Value} {base : Heap} {C : Addr} (T : Tx K mg C) {f : Addr} {cdv : Value} {A : Around} {outer : List Env} {s : Shared} {H : Hp} {E : XK}
    (hr : Room 0 (cxOf CX0 P w K mg base N_is_integer "is_integer" (defScope s_is_integer) f cdv A outer s H E).nox.A) : PSs (cxOf CX0 P w K mg base N_is_integer "is_integer" (defScope s_is_integer) f cdv A outer s H E).nox (defBody s_is_integer) (t_is_integer K) := by
  have hu := hu_of hr
  have hu64 := hr.units
  have hu0 := hr.units0
  exact (pss_one (ps_ret (pe_and (pe_callB call_isi rfl T.isinstance PyProof.Rows.boot_isinstance (pa_cons (pv 0) (pa_cons (pe_bltn rfl T.int PyProof.Rows.boot_int rfl) pa_nil))) (pe_one (pe_not (pe_callB call_isi rfl T.isinstance PyProof.Rows.boot_isinstance (pa_cons (pv 0) (pa_cons (pe_bltn rfl T.bool PyProof.Rows.boot_bool rfl) pa_nil))))))))
theorem ps_is_bound {P : Program} {w : World} {K : PySem.W.Frag} {mg : Str → Option Value} {base : Heap} {C : Addr} (T : Tx K mg C) (c_is_integer : Cal P w K mg base "is_integer" 1 P_is_integer (sp_is_integer K)) {f : Addr} {cdv : Value} {A : Around} {outer : List Env} {s : Shared} {H : Hp} {E : XK}
    (hr : Room 1 (cxOf CX0 P w K mg base N_is_bound "is_bound" (defScope s_is_bound) f cdv A outer s H E).nox.A) : PSs (cxOf CX0 P w K mg base N_is_bound "is_bound" (defScope s_is_bound) f cdv A outer s H E).nox (defBody s_is_bound) (t_is_bound K) := by
  have hu := hu_of hr
  have hu64 := hr.units
  have hu0 := hr.units0
  exact (pss_one (ps_ret (pe_or (pe_cmpR op_isN (pv 0) pe_non (nomark _)) (pe_one (pe_cal c_is_integer (hr.mono (by decide)) rfl (pa_cons (pv 0) pa_nil))))))
theorem ps_are_integers {P : Program} {w : World} {K : PySem.W.Frag} {mg : Str → Option Value} {base : Heap} {C : Addr} (T : Tx K mg C) (c_is_integer : Cal P w K mg base "is_integer" 1 P_is_integer (sp_is_integer K)) {f : Addr} {cdv : Value} {A : Around} {outer : List Env} {s : Shared} {H : Hp} {E : XK}
    (hr : Room 1 (cxOf CX0 P w K mg base N_are_integers "are_integers" (defScope s_are_integers) f cdv A outer s H E).nox.A) : PSs (cxOf CX0 P w K mg base N_are_integers "are_integers" (defScope s_are_integers) f cdv A outer s H E).nox (defBody s_are_integers) (t_are_integers K) := by
  have hu := hu_of hr
  have hu64 := hr.units
  have hu0 := hr.units0
  exact (pss_one (ps_ret (pe_and (pe_callB call_isi rfl T.isinstance PyProof.Rows.boot_isinstance (pa_cons (pv 0) (pa_cons (pe_bltn rfl T.tuple PyProof.Rows.boot_tuple rfl) pa_nil))) (pe_one (pe_callB (cr_all rfl) rfl T.all bt_all (pa_cons (pe_lc (own := [("value", 1)]) rfl sc_are_integers.nd (pi_tup (pv 0)) (blkOk_by (N := N_are_integers) (sc := defScope s_are_integers) (by decide +kernel)) (fun _ _ _ _ _ => pg_name (i := 1) sc_are_integers.nd rfl (.inl rfl)) (fun _ _ _ _ _ => pts_nil) (fun _ _ _ _ _ => (pe_cal c_is_integer (hr.mono (by decide)) rfl (pa_cons (pv 1) pa_nil)))) pa_nil))))))
theorem ps_are_ascending {P : Program} {w : World} {K : PySem.W.Frag} {mg : Str → Option Value} {base : Heap} {C : Addr} (T : Tx K mg C) {f : Addr} {cdv : Value} {A : Around} {outer : List Env} {s : Shared} {H : Hp} {E : XK}
    (hr : Room 0 (cxOf CX0 P w K mg base N_are_ascending "are_ascending" (defScope s_are_ascending) f cdv A outer s H E).nox.A) : PSs (cxOf CX0 P w K mg base N_are_ascending "are_ascending" (defScope s_are_ascending) f cdv A outer s H E).nox (defBody s_are_ascending) (t_are_ascending K) := by
  have hu := hu_of hr
  have hu64 := hr.units
  have hu0 := hr.units0
  exact (pss_cons (ps_for PassesOwn.never rfl (pi_range2 rfl T.range (pa_cons pe_int (pa_cons (pe_callB call_len_seq rfl T.len PySem.boot_len (pa_cons (pv 0) pa_nil)) pa_nil))) (pg_name (i := 1) sc_are_ascending.nd rfl (.inl rfl)) (pss_one (ps_if (pt_cmpR op_ge (pe_ix ix_tup (pv 0) (pe_op op_sub (pv 1) pe_int) (fun _ _ => rfl)) (pe_ix ix_tup (pv 0) (pv 1) (fun _ _ => rfl)) (nomark _)) (pss_one (ps_ret pe_bl)) pss_nil))) (pss_one (ps_ret pe_bl)))
theorem ps_is_above {P : Program} {w : World} {K : PySem.W.Frag} {mg : Str → Option Value} {base : Heap} {C : Addr} (T : Tx K mg C) {f : Addr} {cdv : Value} {A : Around} {outer : List Env} {s : Shared} {H : Hp} {E : XK}
    (hr : Room 0 (cxOf CX0 P w K mg base N_is_above "is_above" (defScope s_is_above) f cdv A outer s H E).nox.A) : PSs (cxOf CX0 P w K mg base N_is_above "is_above" (defScope s_is_above) f cdv A outer s H E).nox (defBody s_is_above) (t_is_above K) := by
  have hu := hu_of hr
  have hu64 := hr.units
  have hu0 := hr.units0
  exact (pss_one (ps_ret (pe_or (pe_cmpR op_isN (pv 1) pe_non (nomark _)) (pe_one (pe_cmpR op_ge (pv 0) (pv 1) (nomark _))))))
theorem ps_is_below {P : Program} {w : World} {K : PySem.W.Frag} {mg : Str → Option Value} {base : Heap} {C : Addr} (T : Tx K mg C) {f : Addr} {cdv : Value} {A : Around} {outer : List Env} {s : Shared} {H : Hp} {E : XK}
    (hr : Room 0 (cxOf CX0 P w K mg base N_is_below "is_below" (defScope s_is_below) f cdv A outer s H E).nox.A) : PSs (cxOf CX0 P w K mg base N_is_below "is_below" (defScope s_is_below) f cdv A outer s H E).nox (defBody s_is_below) (t_is_below K) := by
  have hu := hu_of hr
  have hu64 := hr.units
  have hu0 := hr.units0
  exact (pss_one (ps_ret (pe_or (pe_cmpR op_isN (pv 1) pe_non (nomark _)) (pe_one (pe_cmpR op_lt (pv 0) (pv 1) (nomark _))))))
theorem ps_is_leaf {P : Program} {w : World} {K : PySem.W.Frag} {mg : Str → Option Value} {base : Heap} {C : Addr} (T : Tx K mg C) (c_are_ascending : Cal P w K mg base "are_ascending" 1 P_are_ascending (sp_are_ascending K)) (c_are_integers : Cal P w K mg base "are_integers" 2 P_are_integers (sp_are_integers K)) (c_is_above : Cal P w K mg base "is_above" 1 P_is_above (sp_is_above K)) (c_is_below : Cal P w K mg base "is_below" 1 P_is_below (sp_is_below K)) (c_is_bound : Cal P w K mg base "is_bound" 2 P_is_bound (sp_is_bound K)) {f : Addr} {cdv : Value} {A : Around} {outer : List Env} {s : Shared} {H : Hp} {E : XK}
    (hr : Room 2 (cxOf CX0 P w K mg base N_is_leaf "is_leaf" (defScope s_is_leaf) f cdv A outer s H E).nox.A) : PSs (cxOf CX0 P w K mg base N_is_leaf "is_leaf" (defScope s_is_leaf) f cdv A outer s H E).nox (defBody s_is_leaf) (t_is_leaf K) := by
  have hu := hu_of hr
  have hu64 := hr.units
  have hu0 := hr.units0
  exact (pss_cons (ps_if (PW.pt (pw_or (pt_cmpR op_ne (pe_callB call_len_seq rfl T.len PySem.boot_len (pa_cons (pv 0) pa_nil)) pe_int (nomark _)) (pw_or (pt_not (pt_val (pe_cal c_is_bound (hr.mono (by decide)) rfl (pa_cons (pe_ix ix_tup (pv 0) pe_int (fun _ _ => rfl)) pa_nil)))) (pw_or1 (pt_not (pt_val (pe_cal c_is_bound (hr.mono (by decide)) rfl (pa_cons (pe_ix ix_tup (pv 0) pe_int (fun _ _ => rfl)) pa_nil)))))))) (pss_one (ps_ret pe_bl)) pss_nil) (pss_cons (ps_asg (pe_slice sl_tupA (pv 0) (po_some pe_int) po_none) (pg_tup rfl (pgs_cons (pg_name (i := 1) sc_is_leaf.nd rfl (.inr rfl)) (pgs_cons (pg_name (i := 2) sc_is_leaf.nd rfl (.inr rfl)) (pgs_cons (pg_name (i := 3) sc_is_leaf.nd rfl (.inl rfl)) (pgs_cons (pg_name (i := 4) sc_is_leaf.nd rfl (.inl rfl)) pgs_nil)))))) (pss_cons (ps_if (PW.pt (pw_or (pt_not (pt_val (pe_cal c_are_integers (hr.mono (by decide)) rfl (pa_cons (pv 3) pa_nil)))) (pw_or (pt_not (pt_val (pe_cal c_are_integers (hr.mono (by decide)) rfl (pa_cons (pv 4) pa_nil)))) (pw_or1 (pt_cmpR op_ne (pe_callB call_len_seq rfl T.len PySem.boot_len (pa_cons (pv 3) pa_nil)) (pe_callB call_len_seq rfl T.len PySem.boot_len (pa_cons (pv 4) pa_nil)) (nomark _)))))) (pss_one (ps_ret pe_bl)) pss_nil) (pss_cons (ps_if (PW.pt (pw_or (PW.pt (pw_and (pt_cmpR op_notN (pv 1) pe_non (nomark _)) (pw_and1 (pt_not (pt_val (pe_cal c_is_below (hr.mono (by decide)) rfl (pa_cons (pv 1) (pa_cons (pv 2) pa_nil)))))))) (pw_or1 (pt_not (pt_val (pe_cal c_are_ascending (hr.mono (by decide)) rfl (pa_cons (pv 3) pa_nil))))))) (pss_one (ps_ret pe_bl)) pss_nil) (pss_one (ps_ret (pe_callB (cr_all rfl) rfl T.all bt_all (pa_cons (pe_lc (own := [("key", 5)]) rfl sc_is_leaf.nd (pi_tup (pv 3)) (blkOk_by (N := N_is_leaf) (sc := defScope s_is_leaf) (by decide +kernel)) (fun _ _ _ _ _ => pg_name (i := 5) sc_is_leaf.nd rfl (.inl rfl)) (fun _ _ _ _ _ => pts_nil) (fun _ _ _ _ _ => (pe_and (pe_cal c_is_above (hr.mono (by decide)) rfl (pa_cons (pv 5) (pa_cons (pv 1) pa_nil))) (pe_one (pe_cal c_is_below (hr.mono (by decide)) rfl (pa_cons (pv 5) (pa_cons (pv 2) pa_nil))))))) pa_nil))))))))
theorem ps_is_inner {P : Program} {w : World} {K : PySem.W.Frag} {mg : Str → Option Value} {base : Heap} {C : Addr} (T : Tx K mg C) (c_are_ascending : Cal P w K mg base "are_ascending" 1 P_are_ascending (sp_are_ascending K)) (c_are_integers : Cal P w K mg base "are_integers" 2 P_are_integers (sp_are_integers K)) (c_is_below : Cal P w K mg base "is_below" 1 P_is_below (sp_is_below K)) (c_is_bound : Cal P w K mg base "is_bound" 2 P_is_bound (sp_is_bound K)) (c_is_integer : Cal P w K mg base "is_integer" 1 P_is_integer (sp_is_integer K)) {f : Addr} {cdv : Value} {A : Around} {outer : List Env} {s : Shared} {H : Hp} {E : XK}
    (hr : Room 2 (cxOf CX0 P w K mg base N_is_inner "is_inner" (defScope s_is_inner) f cdv A outer s H E).nox.A) : PSs (cxOf CX0 P w K mg base N_is_inner "is_inner" (defScope s_is_inner) f cdv A outer s H E).nox (defBody s_is_inner) (t_is_inner K) := by
  have hu := hu_of hr
  have hu64 := hr.units
  have hu0 := hr.units0
  exact (pss_cons (ps_if (PW.pt (pw_or (pt_cmpR op_ne (pe_callB call_len_seq rfl T.len PySem.boot_len (pa_cons (pv 0) pa_nil)) pe_int (nomark _)) (pw_or (pt_not (pt_val (pe_cal c_is_integer (hr.mono (by decide)) rfl (pa_cons (pe_ix ix_tup (pv 0) pe_int (fun _ _ => rfl)) pa_nil)))) (pw_or1 (pt_cmpR op_lt (pe_ix ix_tup (pv 0) pe_int (fun _ _ => rfl)) pe_int (nomark _)))))) (pss_one (ps_ret pe_bl)) pss_nil) (pss_cons (ps_asg (pe_slice sl_tupA (pv 0) (po_some pe_int) po_none) (pg_tup rfl (pgs_cons (pg_name (i := 1) sc_is_inner.nd rfl (.inr rfl)) (pgs_cons (pg_name (i := 2) sc_is_inner.nd rfl (.inr rfl)) (pgs_cons (pg_name (i := 3) sc_is_inner.nd rfl (.inl rfl)) (pgs_cons (pg_name (i := 4) sc_is_inner.nd rfl (.inl rfl)) pgs_nil)))))) (pss_cons (ps_if (PW.pt (pw_or (pt_not (pt_val (pe_cal c_is_bound (hr.mono (by decide)) rfl (pa_cons (pv 1) pa_nil)))) (pw_or (pt_not (pt_val (pe_cal c_is_bound (hr.mono (by decide)) rfl (pa_cons (pv 2) pa_nil)))) (pw_or (pt_not (pt_val (pe_cal c_are_integers (hr.mono (by decide)) rfl (pa_cons (pv 3) pa_nil)))) (pw_or1 (pt_not (pt_val (pe_cal c_are_integers (hr.mono (by decide)) rfl (pa_cons (pv 4) pa_nil))))))))) (pss_one (ps_ret pe_bl)) pss_nil) (pss_cons (ps_if (PW.pt (pw_and (pt_cmpR op_notN (pv 1) pe_non (nomark _)) (pw_and1 (pt_not (pt_val (pe_cal c_is_below (hr.mono (by decide)) rfl (pa_cons (pv 1) (pa_cons (pv 2) pa_nil)))))))) (pss_one (ps_ret pe_bl)) pss_nil) (pss_cons (ps_if (PW.pt (pw_or (pt_cmpR op_ne (pe_callB call_len_seq rfl T.len PySem.boot_len (pa_cons (pv 4) pa_nil)) (pe_op op_add (pe_callB call_len_seq rfl T.len PySem.boot_len (pa_cons (pv 3) pa_nil)) pe_int) (nomark _)) (pw_or1 (pt_not (pt_val (pe_cal c_are_ascending (hr.mono (by decide)) rfl (pa_cons (pv 3) pa_nil))))))) (pss_one (ps_ret pe_bl)) pss_nil) (pss_one (ps_ret (pe_callB (cr_all rfl) rfl T.all bt_all (pa_cons (pe_lc (own := [("key", 5)]) rfl sc_is_inner.nd (pi_tup (pv 3)) (blkOk_by (N := N_is_inner) (sc := defScope s_is_inner) (by decide +kernel)) (fun _ _ _ _ _ => pg_name (i := 5) sc_is_inner.nd rfl (.inl rfl)) (fun _ _ _ _ _ => pts_nil) (fun _ _ _ _ _ => (pe_and (pe_or (pe_cmpR op_isN (pv 1) pe_non (nomark _)) (pe_one (pe_cmpR op_gt (pv 5) (pv 1) (nomark _)))) (pe_one (pe_cal c_is_below (hr.mono (by decide)) rfl (pa_cons (pv 5) (pa_cons (pv 2) pa_nil))))))) pa_nil)))))))))
theorem ps_is_record {P : Program} {w : World} {K : PySem.W.Frag} {mg : Str → Option Value} {base : Heap} {C : Addr} (T : Tx K mg C) (c_is_inner : Cal P w K mg base "is_inner" 3 P_is_inner (sp_is_inner K)) (c_is_integer : Cal P w K mg base "is_integer" 1 P_is_integer (sp_is_integer K)) (c_is_leaf : Cal P w K mg base "is_leaf" 3 P_is_leaf (sp_is_leaf K)) {f : Addr} {cdv : Value} {A : Around} {outer : List Env} {s : Shared} {H : Hp} {E : XK}
    (hr : Room 3 (cxOf CX0 P w K mg base N_is_record "is_record" (defScope s_is_record) f cdv A outer s H E).nox.A) : PSs (cxOf CX0 P w K mg base N_is_record "is_record" (defScope s_is_record) f cdv A outer s H E).nox (defBody s_is_record) (t_is_record K) := by
  have hu := hu_of hr
  have hu64 := hr.units
  have hu0 := hr.units0
  exact (pss_cons (ps_if (PW.pt (pw_or (pt_not (pt_val (pe_callB call_isi rfl T.isinstance PyProof.Rows.boot_isinstance (pa_cons (pv 0) (pa_cons (pe_bltn rfl T.tuple PyProof.Rows.boot_tuple rfl) pa_nil))))) (pw_or1 (pt_cmpR op_lt (pe_callB call_len_seq rfl T.len PySem.boot_len (pa_cons (pv 0) pa_nil)) pe_int (nomark _))))) (pss_one (ps_ret pe_bl)) pss_nil) (pss_cons (ps_if (pt_cmpR op_eq (pe_ix ix_tup (pv 0) pe_int (fun _ _ => rfl)) pe_str (nomark _)) (pss_one (ps_ret (pe_cal c_is_leaf (hr.mono (by decide)) rfl (pa_cons (pv 0) pa_nil)))) pss_nil) (pss_cons (ps_if (pt_cmpR op_eq (pe_ix ix_tup (pv 0) pe_int (fun _ _ => rfl)) pe_str (nomark _)) (pss_one (ps_ret (pe_cal c_is_inner (hr.mono (by decide)) rfl (pa_cons (pv 0) pa_nil)))) pss_nil) (pss_one (ps_ret (pe_and (pe_cmpR op_eq (pe_ix ix_tup (pv 0) pe_int (fun _ _ => rfl)) pe_str (nomark _)) (pe_and (pe_cmpR op_eq (pe_callB call_len_seq rfl T.len PySem.boot_len (pa_cons (pv 0) pa_nil)) pe_int (nomark _)) (pe_one (pe_cal c_is_integer (hr.mono (by decide)) rfl (pa_cons (pe_ix ix_tup (pv 0) pe_int (fun _ _ => rfl)) pa_nil))))))))))
theorem ps_checked {P : Program} {w : World} {K : PySem.W.Frag} {mg : Str → Option Value} {base : Heap} {C : Addr} (T : Tx K mg C) (c_is_record : Cal P w K mg base "is_record" 4 P_is_record (sp_is_record K)) {f : Addr} {cdv : Value} {A : Around} {outer : List Env} {s : Shared} {H : Hp} {E : XK}
    (hr : Room 4 (cxOf CX0 P w K mg base N_checked "checked" (defScope s_checked) f cdv A outer s H E).nox.A) : PSs (cxOf CX0 P w K mg base N_checked "checked" (defScope s_checked) f cdv A outer s H E).nox (defBody s_checked) (t_checked K) := by
  have hu := hu_of hr
  have hu64 := hr.units
  have hu0 := hr.units0
  exact (pss_cons (ps_if (pt_not (pt_val (pe_cal c_is_record (hr.mono (by decide)) rfl (pa_cons (pv 0) pa_nil)))) (pss_one ps_never) pss_nil) (pss_one (ps_ret (pv 0))))
theorem ps_leaf {P : Program} {w : World} {K : PySem.W.Frag} {mg : Str → Option Value} {base : Heap} {C : Addr} (T : Tx K mg C) (c_checked : Cal P w K mg base "checked" 5 P_checked (sp_checked K)) {f : Addr} {cdv : Value} {A : Around} {outer : List Env} {s : Shared} {H : Hp} {E : XK}
    (hr : Room 5 (cxOf CX0 P w K mg base N_leaf "leaf" (defScope s_leaf) f cdv A outer s H E).nox.A) : PSs (cxOf CX0 P w K mg base N_leaf "leaf" (defScope s_leaf) f cdv A outer s H E).nox (defBody s_leaf) (t_leaf K) := by
  have hu := hu_of hr
  have hu64 := hr.units
  have hu0 := hr.units0
  exact (pss_one (ps_ret (pe_cal c_checked (hr.mono (by decide)) rfl (pa_cons (pe_tup (pa_cons pe_str (pa_cons (pv 0) (pa_cons (pv 1) (pa_cons (pe_callTy call_tuple_of rfl T.tuple PyProof.Rows.boot_tuple (pa_cons (pv 2) pa_nil)) (pa_cons (pe_callTy call_tuple_of rfl T.tuple PyProof.Rows.boot_tuple (pa_cons (pv 3) pa_nil)) pa_nil)))))) pa_nil))))
theorem ps_inner {P : Program} {w : World} {K : PySem.W.Frag} {mg : Str → Option Value} {base : Heap} {C : Addr} (T : Tx K mg C) (c_checked : Cal P w K mg base "checked" 5 P_checked (sp_checked K)) {f : Addr} {cdv : Value} {A : Around} {outer : List Env} {s : Shared} {H : Hp} {E : XK}
    (hr : Room 5 (cxOf CX0 P w K mg base N_inner "inner" (defScope s_inner) f cdv A outer s H E).nox.A) : PSs (cxOf CX0 P w K mg base N_inner "inner" (defScope s_inner) f cdv A outer s H E).nox (defBody s_inner) (t_inner K) := by
  have hu := hu_of hr
  have hu64 := hr.units
  have hu0 := hr.units0
  exact (pss_one (ps_ret (pe_cal c_checked (hr.mono (by decide)) rfl (pa_cons (pe_tup (pa_cons pe_str (pa_cons (pv 0) (pa_cons (pv 1) (pa_cons (pv 2) (pa_cons (pe_callTy call_tuple_of rfl T.tuple PyProof.Rows.boot_tuple (pa_cons (pv 3) pa_nil)) (pa_cons (pe_callTy call_tuple_of rfl T.tuple PyProof.Rows.boot_tuple (pa_cons (pv 4) pa_nil)) pa_nil))))))) pa_nil))))
theorem ps_level_of {P : Program} {w : World} {K : PySem.W.Frag} {mg : Str → Option Value} {base : Heap} {C : Addr} (T : Tx K mg C) {f : Addr} {cdv : Value} {A : Around} {outer : List Env} {s : Shared} {H : Hp} {E : XK}
    (hr : Room 0 (cxOf CX0 P w K mg base N_level_of "level_of" (defScope s_level_of) f cdv A outer s H E).nox.A) : PSs (cxOf CX0 P w K mg base N_level_of "level_of" (defScope s_level_of) f cdv A outer s H E).nox (defBody s_level_of) (t_level_of K) := by
  have hu := hu_of hr
  have hu64 := hr.units
  have hu0 := hr.units0
  exact (pss_cons (ps_if (pt_cmpR op_eq (pe_ix ix_tup (pv 0) pe_int (fun _ _ => rfl)) pe_str (nomark _)) (pss_one (ps_ret pe_int)) pss_nil) (pss_cons (ps_if (pt_cmpR op_eq (pe_ix ix_tup (pv 0) pe_int (fun _ _ => rfl)) pe_str (nomark _)) (pss_one (ps_ret (pe_ix ix_tup (pv 0) pe_int (fun _ _ => rfl)))) pss_nil) (pss_one (ps_ret (pe_un un_neg pe_int)))))
theorem ps_bounds_of {P : Program} {w : World} {K : PySem.W.Frag} {mg : Str → Option Value} {base : Heap} {C : Addr} (T : Tx K mg C) {f : Addr} {cdv : Value} {A : Around} {outer : List Env} {s : Shared} {H : Hp} {E : XK}
    (hr : Room 0 (cxOf CX0 P w K mg base N_bounds_of "bounds_of" (defScope s_bounds_of) f cdv A outer s H E).nox.A) : PSs (cxOf CX0 P w K mg base N_bounds_of "bounds_of" (defScope s_bounds_of) f cdv A outer s H E).nox (defBody s_bounds_of) (t_bounds_of K) := by
  have hu := hu_of hr
  have hu64 := hr.units
  have hu0 := hr.units0
  exact (pss_cons (ps_if (pt_cmpR op_eq (pe_ix ix_tup (pv 0) pe_int (fun _ _ => rfl)) pe_str (nomark _)) (pss_one (ps_ret (pe_tup (pa_cons (pe_ix ix_tup (pv 0) pe_int (fun _ _ => rfl)) (pa_cons (pe_ix ix_tup (pv 0) pe_int (fun _ _ => rfl)) pa_nil))))) pss_nil) (pss_one (ps_ret (pe_tup (pa_cons (pe_ix ix_tup (pv 0) pe_int (fun _ _ => rfl)) (pa_cons (pe_ix ix_tup (pv 0) pe_int (fun _ _ => rfl)) pa_nil))))))
theorem ps_size_of {P : Program} {w : World} {K : PySem.W.Frag} {mg : Str → Option Value} {base : Heap} {C : Addr} (T : Tx K mg C) {f : Addr} {cdv : Value} {A : Around} {outer : List Env} {s : Shared} {H : Hp} {E : XK}
    (hr : Room 0 (cxOf CX0 P w K mg base N_size_of "size_of" (defScope s_size_of) f cdv A outer s H E).nox.A) : PSs (cxOf CX0 P w K mg base N_size_of "size_of" (defScope s_size_of) f cdv A outer s H E).nox (defBody s_size_of) (t_size_of K) := by
  have hu := hu_of hr
  have hu64 := hr.units
  have hu0 := hr.units0
  exact (pss_one (ps_ret (pe_callB call_len_seq rfl T.len PySem.boot_len (pa_cons (pe_ix ix_tup (pv 0) (pe_un un_neg pe_int) (fun _ _ => rfl)) pa_nil))))
theorem ps_value_in {P : Program} {w : World} {K : PySem.W.Frag} {mg : Str → Option Value} {base : Heap} {C : Addr} (T : Tx K mg C) {f : Addr} {cdv : Value} {A : Around} {outer : List Env} {s : Shared} {H : Hp} {E : XK}
    (hr : Room 0 (cxOf CX0 P w K mg base N_value_in "value_in" (defScope s_value_in) f cdv A outer s H E).nox.A) : PSs (cxOf CX0 P w K mg base N_value_in "value_in" (defScope s_value_in) f cdv A outer s H E).nox (defBody s_value_in) (t_value_in K) := by
  have hu := hu_of hr
  have hu64 := hr.units
  have hu0 := hr.units0
  exact (pss_cons (ps_for PassesOwn.never rfl (pi_range1 rfl T.range (pa_cons (pe_callB call_len_seq rfl T.len PySem.boot_len (pa_cons (pe_ix ix_tup (pv 0) pe_int (fun _ _ => rfl)) pa_nil)) pa_nil)) (pg_name (i := 2) sc_value_in.nd rfl (.inl rfl)) (pss_one (ps_if (pt_cmpR op_eq (pe_ix ix_tup (pe_ix ix_tup (pv 0) pe_int (fun _ _ => rfl)) (pv 2) (fun _ _ => rfl)) (pv 1) (nomark _)) (pss_one (ps_ret (pe_ix ix_tup (pe_ix ix_tup (pv 0) pe_int (fun _ _ => rfl)) (pv 2) (fun _ _ => rfl)))) pss_nil))) (pss_one (ps_ret pe_non)))
theorem ps_place_of {P : Program} {w : World} {K : PySem.W.Frag} {mg : Str → Option Value} {base : Heap} {C : Addr} (T : Tx K mg C) {f : Addr} {cdv : Value} {A : Around} {outer : List Env} {s : Shared} {H : Hp} {E : XK}
    (hr : Room 0 (cxOf CX0 P w K mg base N_place_of "place_of" (defScope s_place_of) f cdv A outer s H E).nox.A) : PSs (cxOf CX0 P w K mg base N_place_of "place_of" (defScope s_place_of) f cdv A outer s H E).nox (defBody s_place_of) (t_place_of K) := by
  have hu := hu_of hr
  have hu64 := hr.units
  have hu0 := hr.units0
  exact (pss_one (ps_ret (pe_callB call_len_seq rfl T.len PySem.boot_len (pa_cons (pe_lc (own := [("one", 2)]) rfl sc_place_of.nd (pi_tup (pv 0)) (blkOk_by (N := N_place_of) (sc := defScope s_place_of) (by decide +kernel)) (fun _ _ _ _ _ => pg_name (i := 2) sc_place_of.nd rfl (.inl rfl)) (fun _ _ _ _ _ => pts_one (pt_cmpR op_lt (pv 2) (pv 1) (nomark _))) (fun _ _ _ _ _ => (pv 2))) pa_nil))))
theorem ps_child_bounds {P : Program} {w : World} {K : PySem.W.Frag} {mg : Str → Option Value} {base : Heap} {C : Addr} (T : Tx K mg C) {f : Addr} {cdv : Value} {A : Around} {outer : List Env} {s : Shared} {H : Hp} {E : XK}
    (hr : Room 0 (cxOf CX0 P w K mg base N_child_bounds "child_bounds" (defScope s_child_bounds) f cdv A outer s H E).nox.A) : PSs (cxOf CX0 P w K mg base N_child_bounds "child_bounds" (defScope s_child_bounds) f cdv A outer s H E).nox (defBody s_child_bounds) (t_child_bounds K) := by
  have hu := hu_of hr
  have hu64 := hr.units
  have hu0 := hr.units0
  exact (pss_cons (ps_par3 (i := 2) (j := 3) (l := 4) rfl sc_child_bounds.nd rfl rfl rfl (by decide) (by decide) (by decide) rfl rfl rfl (pa_cons (pe_ix ix_tup (pv 0) pe_int (fun _ _ => rfl)) (pa_cons (pe_ix ix_tup (pv 0) pe_int (fun _ _ => rfl)) (pa_cons (pe_ix ix_tup (pv 0) pe_int (fun _ _ => rfl)) pa_nil))) (by rfl)) (pss_cons (ps_if (pt_cmpR op_gt (pv 1) pe_int (nomark _)) (pss_one (ps_set (i := 2) sc_child_bounds.nd rfl (.inl rfl) (pe_ix ix_tup (pv 4) (pe_op op_sub (pv 1) pe_int) (fun _ _ => rfl)))) pss_nil) (pss_cons (ps_if (pt_cmpR op_lt (pv 1) (pe_callB call_len_seq rfl T.len PySem.boot_len (pa_cons (pv 4) pa_nil)) (nomark _)) (pss_one (ps_set (i := 3) sc_child_bounds.nd rfl (.inl rfl) (pe_ix ix_tup (pv 4) (pv 1) (fun _ _ => rfl)))) pss_nil) (pss_one (ps_ret (pe_tup (pa_cons (pv 2) (pa_cons (pv 3) pa_nil))))))))
theorem ps_with_value {P : Program} {w : World} {K : PySem.W.Frag} {mg : Str → Option Value} {base : Heap} {C : Addr} (T : Tx K mg C) (c_leaf : Cal P w K mg base "leaf" 6 P_leaf (sp_leaf K)) (c_place_of : Cal P w K mg base "place_of" 1 P_place_of (sp_place_of K)) {f : Addr} {cdv : Value} {A : Around} {outer : List Env} {s : Shared} {H : Hp} {E : XK}
    (hr : Room 6 (cxOf CX0 P w K mg base N_with_value "with_value" (defScope s_with_value) f cdv A outer s H E).nox.A) : PSs (cxOf CX0 P w K mg base N_with_value "with_value" (defScope s_with_value) f cdv A outer s H E).nox (defBody s_with_value) (t_with_value K) := by
  have hu := hu_of hr
  have hu64 := hr.units
  have hu0 := hr.units0
  exact (pss_cons (ps_asg (pe_slice sl_tupA (pv 0) (po_some pe_int) po_none) (pg_tup rfl (pgs_cons (pg_name (i := 3) sc_with_value.nd rfl (.inl rfl)) (pgs_cons (pg_name (i := 4) sc_with_value.nd rfl (.inl rfl)) (pgs_cons (pg_name (i := 5) sc_with_value.nd rfl (.inl rfl)) (pgs_cons (pg_name (i := 6) sc_with_value.nd rfl (.inl rfl)) pgs_nil)))))) (pss_cons (ps_set (i := 7) sc_with_value.nd rfl (.inl rfl) (pe_cal c_place_of (hr.mono (by decide)) rfl (pa_cons (pv 5) (pa_cons (pv 1) pa_nil)))) (pss_cons (ps_set (i := 8) sc_with_value.nd rfl (.inl rfl) (pv 7)) (pss_cons (ps_if (PW.pt (pw_and (pt_cmpR op_lt (pv 7) (pe_callB call_len_seq rfl T.len PySem.boot_len (pa_cons (pv 5) pa_nil)) (nomark _)) (pw_and1 (pt_cmpR op_eq (pe_ix ix_tup (pv 5) (pv 7) (fun _ _ => rfl)) (pv 1) (nomark _))))) (pss_one (ps_set (i := 8) sc_with_value.nd rfl (.inl rfl) (pe_op op_add (pv 7) pe_int))) pss_nil) (pss_cons (ps_set (i := 5) sc_with_value.nd rfl (.inl rfl) (pe_op op_catA (pe_op op_catA (pe_slice sl_tupA (pv 5) po_none (po_some (pv 7))) (pe_tup (pa_cons (pv 1) pa_nil))) (pe_slice sl_tupA (pv 5) (po_some (pv 8)) po_none))) (pss_cons (ps_set (i := 6) sc_with_value.nd rfl (.inl rfl) (pe_op op_catA (pe_op op_catA (pe_slice sl_tupA (pv 6) po_none (po_some (pv 7))) (pe_tup (pa_cons (pv 2) pa_nil))) (pe_slice sl_tupA (pv 6) (po_some (pv 8)) po_none))) (pss_one (ps_ret (pe_cal c_leaf (hr.mono (by decide)) rfl (pa_cons (pv 3) (pa_cons (pv 4) (pa_cons (pv 5) (pa_cons (pv 6) pa_nil)))))))))))))
theorem ps_without_key {P : Program} {w : World} {K : PySem.W.Frag} {mg : Str → Option Value} {base : Heap} {C : Addr} (T : Tx K mg C) (c_leaf : Cal P w K mg base "leaf" 6 P_leaf (sp_leaf K)) (c_place_of : Cal P w K mg base "place_of" 1 P_place_of (sp_place_of K)) {f : Addr} {cdv : Value} {A : Around} {outer : List Env} {s : Shared} {H : Hp} {E : XK}
    (hr : Room 6 (cxOf CX0 P w K mg base N_without_key "without_key" (defScope s_without_key) f cdv A outer s H E).nox.A) : PSs (cxOf CX0 P w K mg base N_without_key "without_key" (defScope s_without_key) f cdv A outer s H E).nox (defBody s_without_key) (t_without_key K) := by
  have hu := hu_of hr
  have hu64 := hr.units
  have hu0 := hr.units0
  exact (pss_cons (ps_asg (pe_slice sl_tupA (pv 0) (po_some pe_int) po_none) (pg_tup rfl (pgs_cons (pg_name (i := 2) sc_without_key.nd rfl (.inl rfl)) (pgs_cons (pg_name (i := 3) sc_without_key.nd rfl (.inl rfl)) (pgs_cons (pg_name (i := 4) sc_without_key.nd rfl (.inl rfl)) (pgs_cons (pg_name (i := 5) sc_without_key.nd rfl (.inl rfl)) pgs_nil)))))) (pss_cons (ps_set (i := 6) sc_without_key.nd rfl (.inl rfl) (pe_cal c_place_of (hr.mono (by decide)) rfl (pa_cons (pv 4) (pa_cons (pv 1) pa_nil)))) (pss_one (ps_ret (pe_cal c_leaf (hr.mono (by decide)) rfl (pa_cons (pv 2) (pa_cons (pv 3) (pa_cons (pe_op op_catA (pe_slice sl_tupA (pv 4) po_none (po_some (pv 6))) (pe_slice sl_tupA (pv 4) (po_some (pe_op op_add (pv 6) pe_int)) po_none)) (pa_cons (pe_op op_catA (pe_slice sl_tupA (pv 5) po_none (po_some (pv 6))) (pe_slice sl_tupA (pv 5) (po_some (pe_op op_add (pv 6) pe_int)) po_none)) pa_nil)))))))))
theorem ps_with_child {P : Program} {w : World} {K : PySem.W.Frag} {mg : Str → Option Value} {base : Heap} {C : Addr} (T : Tx K mg C) (c_inner : Cal P w K mg base "inner" 6 P_inner (sp_inner K)) {f : Addr} {cdv : Value} {A : Around} {outer : List Env} {s : Shared} {H : Hp} {E : XK}
    (hr : Room 6 (cxOf CX0 P w K mg base N_with_child "with_child" (defScope s_with_child) f cdv A outer s H E).nox.A) : PSs (cxOf CX0 P w K mg base N_with_child "with_child" (defScope s_with_child) f cdv A outer s H E).nox (defBody s_with_child) (t_with_child K) := by
  have hu := hu_of hr
  have hu64 := hr.units
  have hu0 := hr.units0
  exact (pss_cons (ps_asg (pe_slice sl_tupA (pv 0) (po_some pe_int) po_none) (pg_tup rfl (pgs_cons (pg_name (i := 4) sc_with_child.nd rfl (.inl rfl)) (pgs_cons (pg_name (i := 5) sc_with_child.nd rfl (.inl rfl)) (pgs_cons (pg_name (i := 6) sc_with_child.nd rfl (.inl rfl)) (pgs_cons (pg_name (i := 7) sc_with_child.nd rfl (.inl rfl)) (pgs_cons (pg_name (i := 8) sc_with_child.nd rfl (.inl rfl)) pgs_nil))))))) (pss_cons (ps_set (i := 7) sc_with_child.nd rfl (.inl rfl) (pe_op op_catA (pe_op op_catA (pe_slice sl_tupA (pv 7) po_none (po_some (pv 1))) (pe_tup (pa_cons (pv 2) pa_nil))) (pe_slice sl_tupA (pv 7) (po_some (pv 1)) po_none))) (pss_cons (ps_set (i := 8) sc_with_child.nd rfl (.inl rfl) (pe_op op_catA (pe_op op_catA (pe_slice sl_tupA (pv 8) po_none (po_some (pe_op op_add (pv 1) pe_int))) (pe_tup (pa_cons (pv 3) pa_nil))) (pe_slice sl_tupA (pv 8) (po_some (pe_op op_add (pv 1) pe_int)) po_none))) (pss_one (ps_ret (pe_cal c_inner (hr.mono (by decide)) rfl (pa_cons (pv 4) (pa_cons (pv 5) (pa_cons (pv 6) (pa_cons (pv 7) (pa_cons (pv 8) pa_nil)))))))))))
theorem ps_without_child {P : Program} {w : World} {K : PySem.W.Frag} {mg : Str → Option Value} {base : Heap} {C : Addr} (T : Tx K mg C) (c_inner : Cal P w K mg base "inner" 6 P_inner (sp_inner K)) {f : Addr} {cdv : Value} {A : Around} {outer : List Env} {s : Shared} {H : Hp} {E : XK}
    (hr : Room 6 (cxOf CX0 P w K mg base N_without_child "without_child" (defScope s_without_child) f cdv A outer s H E).nox.A) : PSs (cxOf CX0 P w K mg base N_without_child "without_child" (defScope s_without_child) f cdv A outer s H E).nox (defBody s_without_child) (t_without_child K) := by
  have hu := hu_of hr
  have hu64 := hr.units
  have hu0 := hr.units0
  exact (pss_cons (ps_asg (pe_slice sl_tupA (pv 0) (po_some pe_int) po_none) (pg_tup rfl (pgs_cons (pg_name (i := 2) sc_without_child.nd rfl (.inl rfl)) (pgs_cons (pg_name (i := 3) sc_without_child.nd rfl (.inl rfl)) (pgs_cons (pg_name (i := 4) sc_without_child.nd rfl (.inl rfl)) (pgs_cons (pg_name (i := 5) sc_without_child.nd rfl (.inl rfl)) (pgs_cons (pg_name (i := 6) sc_without_child.nd rfl (.inl rfl)) pgs_nil))))))) (pss_cons (ps_set (i := 5) sc_without_child.nd rfl (.inl rfl) (pe_op op_catA (pe_slice sl_tupA (pv 5) po_none (po_some (pe_op op_sub (pv 1) pe_int))) (pe_slice sl_tupA (pv 5) (po_some (pv 1)) po_none))) (pss_one (ps_ret (pe_cal c_inner (hr.mono (by decide)) rfl (pa_cons (pv 2) (pa_cons (pv 3) (pa_cons (pv 4) (pa_cons (pv 5) (pa_cons (pe_op op_catA (pe_slice sl_tupA (pv 6) po_none (po_some (pv 1))) (pe_slice sl_tupA (pv 6) (po_some (pe_op op_add (pv 1) pe_int)) po_none)) pa_nil))))))))))
theorem ps_with_separator {P : Program} {w : World} {K : PySem.W.Frag} {mg : Str → Option Value} {base : Heap} {C : Addr} (T : Tx K mg C) (c_inner : Cal P w K mg base "inner" 6 P_inner (sp_inner K)) {f : Addr} {cdv : Value} {A : Around} {outer : List Env} {s : Shared} {H : Hp} {E : XK}
    (hr : Room 6 (cxOf CX0 P w K mg base N_with_separator "with_separator" (defScope s_with_separator) f cdv A outer s H E).nox.A) : PSs (cxOf CX0 P w K mg base N_with_separator "with_separator" (defScope s_with_separator) f cdv A outer s H E).nox (defBody s_with_separator) (t_with_separator K) := by
  have hu := hu_of hr
  have hu64 := hr.units
  have hu0 := hr.units0
  exact (pss_cons (ps_asg (pe_slice sl_tupA (pv 0) (po_some pe_int) po_none) (pg_tup rfl (pgs_cons (pg_name (i := 3) sc_with_separator.nd rfl (.inl rfl)) (pgs_cons (pg_name (i := 4) sc_with_separator.nd rfl (.inl rfl)) (pgs_cons (pg_name (i := 5) sc_with_separator.nd rfl (.inl rfl)) (pgs_cons (pg_name (i := 6) sc_with_separator.nd rfl (.inl rfl)) (pgs_cons (pg_name (i := 7) sc_with_separator.nd rfl (.inl rfl)) pgs_nil))))))) (pss_one (ps_ret (pe_cal c_inner (hr.mono (by decide)) rfl (pa_cons (pv 3) (pa_cons (pv 4) (pa_cons (pv 5) (pa_cons (pe_op op_catA (pe_op op_catA (pe_slice sl_tupA (pv 6) po_none (po_some (pe_op op_sub (pv 1) pe_int))) (pe_tup (pa_cons (pv 2) pa_nil))) (pe_slice sl_tupA (pv 6) (po_some (pv 1)) po_none)) (pa_cons (pv 7) pa_nil)))))))))
theorem ps_cut {P : Program} {w : World} {K : PySem.W.Frag} {mg : Str → Option Value} {base : Heap} {C : Addr} (T : Tx K mg C) (c_inner : Cal P w K mg base "inner" 6 P_inner (sp_inner K)) (c_leaf : Cal P w K mg base "leaf" 6 P_leaf (sp_leaf K)) (c_size_of : Cal P w K mg base "size_of" 1 P_size_of (sp_size_of K)) {f : Addr} {cdv : Value} {A : Around} {outer : List Env} {s : Shared} {H : Hp} {E : XK}
    (hr : Room 6 (cxOf CX0 P w K mg base N_cut "cut" (defScope s_cut) f cdv A outer s H E).nox.A) : PSs (cxOf CX0 P w K mg base N_cut "cut" (defScope s_cut) f cdv A outer s H E).nox (defBody s_cut) (t_cut K) := by
  have hu := hu_of hr
  have hu64 := hr.units
  have hu0 := hr.units0
  exact (pss_cons (ps_set (i := 1) sc_cut.nd rfl (.inl rfl) (pe_op op_fdiv (pe_op op_add (pe_cal c_size_of (hr.mono (by decide)) rfl (pa_cons (pv 0) pa_nil)) pe_int) pe_int)) (pss_cons (ps_if (pt_cmpR op_eq (pe_ix ix_tup (pv 0) pe_int (fun _ _ => rfl)) pe_str (nomark _)) (pss_cons (ps_asg (pe_slice sl_tupA (pv 0) (po_some pe_int) po_none) (pg_tup rfl (pgs_cons (pg_name (i := 2) sc_cut.nd rfl (.inl rfl)) (pgs_cons (pg_name (i := 3) sc_cut.nd rfl (.inl rfl)) (pgs_cons (pg_name (i := 4) sc_cut.nd rfl (.inl rfl)) (pgs_cons (pg_name (i := 5) sc_cut.nd rfl (.inl rfl)) pgs_nil)))))) (pss_cons (ps_set (i := 6) sc_cut.nd rfl (.inl rfl) (pe_cal c_leaf (hr.mono (by decide)) rfl (pa_cons (pv 2) (pa_cons (pe_ix ix_tup (pv 4) (pv 1) (fun _ _ => rfl)) (pa_cons (pe_slice sl_tupA (pv 4) po_none (po_some (pv 1))) (pa_cons (pe_slice sl_tupA (pv 5) po_none (po_some (pv 1))) pa_nil)))))) (pss_one (ps_ret (pe_tup (pa_cons (pv 6) (pa_cons (pe_ix ix_tup (pv 4) (pv 1) (fun _ _ => rfl)) (pa_cons (pe_cal c_leaf (hr.mono (by decide)) rfl (pa_cons (pe_ix ix_tup (pv 4) (pv 1) (fun _ _ => rfl)) (pa_cons (pv 3) (pa_cons (pe_slice sl_tupA (pv 4) (po_some (pv 1)) po_none) (pa_cons (pe_slice sl_tupA (pv 5) (po_some (pv 1)) po_none) pa_nil))))) pa_nil)))))))) pss_nil) (pss_cons (ps_asg (pe_slice sl_tupA (pv 0) (po_some pe_int) po_none) (pg_tup rfl (pgs_cons (pg_name (i := 7) sc_cut.nd rfl (.inl rfl)) (pgs_cons (pg_name (i := 2) sc_cut.nd rfl (.inl rfl)) (pgs_cons (pg_name (i := 3) sc_cut.nd rfl (.inl rfl)) (pgs_cons (pg_name (i := 4) sc_cut.nd rfl (.inl rfl)) (pgs_cons (pg_name (i := 8) sc_cut.nd rfl (.inl rfl)) pgs_nil))))))) (pss_cons (ps_set (i := 9) sc_cut.nd rfl (.inl rfl) (pe_ix ix_tup (pv 4) (pe_op op_sub (pv 1) pe_int) (fun _ _ => rfl))) (pss_cons (ps_set (i := 6) sc_cut.nd rfl (.inl rfl) (pe_cal c_inner (hr.mono (by decide)) rfl (pa_cons (pv 7) (pa_cons (pv 2) (pa_cons (pv 9) (pa_cons (pe_slice sl_tupA (pv 4) po_none (po_some (pe_op op_sub (pv 1) pe_int))) (pa_cons (pe_slice sl_tupA (pv 8) po_none (po_some (pv 1))) pa_nil))))))) (pss_one (ps_ret (pe_tup (pa_cons (pv 6) (pa_cons (pv 9) (pa_cons (pe_cal c_inner (hr.mono (by decide)) rfl (pa_cons (pv 7) (pa_cons (pv 9) (pa_cons (pv 3) (pa_cons (pe_slice sl_tupA (pv 4) (po_some (pv 1)) po_none) (pa_cons (pe_slice sl_tupA (pv 8) (po_some (pv 1)) po_none) pa_nil)))))) pa_nil)))))))))))
theorem ps_joined {P : Program} {w : World} {K : PySem.W.Frag} {mg : Str → Option Value} {base : Heap} {C : Addr} (T : Tx K mg C) (c_bounds_of : Cal P w K mg base "bounds_of" 1 P_bounds_of (sp_bounds_of K)) (c_inner : Cal P w K mg base "inner" 6 P_inner (sp_inner K)) (c_leaf : Cal P w K mg base "leaf" 6 P_leaf (sp_leaf K)) {f : Addr} {cdv : Value} {A : Around} {outer : List Env} {s : Shared} {H : Hp} {E : XK}
    (hr : Room 6 (cxOf CX0 P w K mg base N_joined "joined" (defScope s_joined) f cdv A outer s H E).nox.A) : PSs (cxOf CX0 P w K mg base N_joined "joined" (defScope s_joined) f cdv A outer s H E).nox (defBody s_joined) (t_joined K) := by
  have hu := hu_of hr
  have hu64 := hr.units
  have hu0 := hr.units0
  exact (pss_cons (ps_set (i := 3) sc_joined.nd rfl (.inl rfl) (pe_ix ix_tup (pe_cal c_bounds_of (hr.mono (by decide)) rfl (pa_cons (pv 0) pa_nil)) pe_int (fun _ _ => rfl))) (pss_cons (ps_set (i := 4) sc_joined.nd rfl (.inl rfl) (pe_ix ix_tup (pe_cal c_bounds_of (hr.mono (by decide)) rfl (pa_cons (pv 2) pa_nil)) pe_int (fun _ _ => rfl))) (pss_cons (ps_if (pt_cmpR op_eq (pe_ix ix_tup (pv 0) pe_int (fun _ _ => rfl)) pe_str (nomark _)) (pss_one (ps_ret (pe_cal c_leaf (hr.mono (by decide)) rfl (pa_cons (pv 3) (pa_cons (pv 4) (pa_cons (pe_op op_catA (pe_ix ix_tup (pv 0) pe_int (fun _ _ => rfl)) (pe_ix ix_tup (pv 2) pe_int (fun _ _ => rfl))) (pa_cons (pe_op op_catA (pe_ix ix_tup (pv 0) pe_int (fun _ _ => rfl)) (pe_ix ix_tup (pv 2) pe_int (fun _ _ => rfl))) pa_nil))))))) pss_nil) (pss_cons (ps_set (i := 5) sc_joined.nd rfl (.inl rfl) (pe_op op_catA (pe_op op_catA (pe_ix ix_tup (pv 0) pe_int (fun _ _ => rfl)) (pe_tup (pa_cons (pv 1) pa_nil))) (pe_ix ix_tup (pv 2) pe_int (fun _ _ => rfl)))) (pss_one (ps_ret (pe_cal c_inner (hr.mono (by decide)) rfl (pa_cons (pe_ix ix_tup (pv 0) pe_int (fun _ _ => rfl)) (pa_cons (pv 3) (pa_cons (pv 4) (pa_cons (pv 5) (pa_cons (pe_op op_catA (pe_ix ix_tup (pv 0) pe_int (fun _ _ => rfl)) (pe_ix ix_tup (pv 2) pe_int (fun _ _ => rfl))) pa_nil))))))))))))
end Esp

/-! Printed by gen.py: the bodies of changes.py read so -/
namespace Esp
open PySem L2 PyProof.Rows PySem.Spec
abbrev N_leaf_change : List Str := ["call", "record", "kind", "key", "old"]
abbrev P_leaf_change : List Str := ["call", "record"]
theorem sc_leaf_change : FnScope N_leaf_change P_leaf_change (defScope s_leaf_change) := ⟨rfl, rfl, rfl, by decide +kernel, rfl, by decide +kernel, by decide +kernel⟩
abbrev N_most_of : List Str := ["record"]
abbrev P_most_of : List Str := ["record"]
theorem sc_most_of : FnScope N_most_of P_most_of (defScope s_most_of) := ⟨rfl, rfl, rfl, by decide +kernel, rfl, by decide +kernel, by decide +kernel⟩
abbrev N_Draft___init__ : List Str := ["self", "path", "siblings"]
abbrev P_Draft___init__ : List Str := ["self", "path", "siblings"]
theorem sc_Draft___init__ : FnScope N_Draft___init__ P_Draft___init__ (defScope s_Draft___init__) := ⟨rfl, rfl, rfl, by decide +kernel, rfl, by decide +kernel, by decide +kernel⟩
abbrev N_Draft_give : List Str := ["self", "step", "record"]
abbrev P_Draft_give : List Str := ["self", "step", "record"]
theorem sc_Draft_give : FnScope N_Draft_give P_Draft_give (defScope s_Draft_give) := ⟨rfl, rfl, rfl, by decide +kernel, rfl, by decide +kernel, by decide +kernel⟩
abbrev N_Draft_add_page : List Str := ["self", "record"]
abbrev P_Draft_add_page : List Str := ["self", "record"]
theorem sc_Draft_add_page : FnScope N_Draft_add_page P_Draft_add_page (defScope s_Draft_add_page) := ⟨rfl, rfl, rfl, by decide +kernel, rfl, by decide +kernel, by decide +kernel⟩
abbrev N_Draft_entries : List Str := ["self", "pages", "page", "index"]
abbrev P_Draft_entries : List Str := ["self"]
theorem sc_Draft_entries : FnScope N_Draft_entries P_Draft_entries (defScope s_Draft_entries) := ⟨rfl, rfl, rfl, by decide +kernel, rfl, by decide +kernel, by decide +kernel⟩
abbrev N_Draft_place_in_parent : List Str := ["self", "index", "parent", "page", "_", "record", "place"]
abbrev P_Draft_place_in_parent : List Str := ["self", "index"]
theorem sc_Draft_place_in_parent : FnScope N_Draft_place_in_parent P_Draft_place_in_parent (defScope s_Draft_place_in_parent) := ⟨rfl, rfl, rfl, by decide +kernel, rfl, by decide +kernel, by decide +kernel⟩
abbrev N_Draft_unite_pair : List Str := ["self", "index", "place", "left", "right", "parent", "both", "first", "separator", "second"]
abbrev P_Draft_unite_pair : List Str := ["self", "index", "place", "left", "right"]
theorem sc_Draft_unite_pair : FnScope N_Draft_unite_pair P_Draft_unite_pair (defScope s_Draft_unite_pair) := ⟨rfl, rfl, rfl, by decide +kernel, rfl, by decide +kernel, by decide +kernel⟩
abbrev N_Draft_divide : List Str := ["self", "index", "record", "first", "separator", "second", "pages", "level", "place", "page"]
abbrev P_Draft_divide : List Str := ["self", "index", "record"]
theorem sc_Draft_divide : FnScope N_Draft_divide P_Draft_divide (defScope s_Draft_divide) := ⟨rfl, rfl, rfl, by decide +kernel, rfl, by decide +kernel, by decide +kernel⟩
abbrev N_Draft_unite : List Str := ["self", "index", "record", "place", "parent", "other", "page", "sibling", "own"]
abbrev P_Draft_unite : List Str := ["self", "index", "record"]
theorem sc_Draft_unite : FnScope N_Draft_unite P_Draft_unite (defScope s_Draft_unite) := ⟨rfl, rfl, rfl, by decide +kernel, rfl, by decide +kernel, by decide +kernel⟩
abbrev N_Draft_settle : List Str := ["self", "index", "record"]
abbrev P_Draft_settle : List Str := ["self", "index", "record"]
theorem sc_Draft_settle : FnScope N_Draft_settle P_Draft_settle (defScope s_Draft_settle) := ⟨rfl, rfl, rfl, by decide +kernel, rfl, by decide +kernel, by decide +kernel⟩
abbrev N_plan : List Str := ["call", "path", "siblings", "answer", "record", "draft", "index", "kind", "value"]
abbrev P_plan : List Str := ["call", "path", "siblings"]
theorem sc_plan : FnScope N_plan P_plan (defScope s_plan) := ⟨rfl, rfl, rfl, by decide +kernel, rfl, by decide +kernel, by decide +kernel⟩
abbrev N_new_pages : List Str := ["entries", "entry"]
abbrev P_new_pages : List Str := ["entries"]
theorem sc_new_pages : FnScope N_new_pages P_new_pages (defScope s_new_pages) := ⟨rfl, rfl, rfl, by decide +kernel, rfl, by decide +kernel, by decide +kernel⟩
abbrev N_real_page : List Str := ["page", "pages"]
abbrev P_real_page : List Str := ["page", "pages"]
theorem sc_real_page : FnScope N_real_page P_real_page (defScope s_real_page) := ⟨rfl, rfl, rfl, by decide +kernel, rfl, by decide +kernel, by decide +kernel⟩
abbrev N_placed : List Str := ["entries", "pages", "out", "page", "address", "record", "inside", "below"]
abbrev P_placed : List Str := ["entries", "pages"]
theorem sc_placed : FnScope N_placed P_placed (defScope s_placed) := ⟨rfl, rfl, rfl, by decide +kernel, rfl, by decide +kernel, by decide +kernel⟩
theorem ps_leaf_change {P : Program} {w : World} {K : PySem.W.Frag} {mg : Str → Option Value} {base : Heap} {C : Addr} (T : Tx K mg C) (c_value_in : Cal P w K mg base "value_in" 1 P_value_in (sp_value_in K)) (c_with_value : Cal P w K mg base "with_value" 7 P_with_value (sp_with_value K)) (c_without_key : Cal P w K mg base "without_key" 7 P_without_key (sp_without_key K)) {f : Addr} {cdv : Value} {A : Around} {outer : List Env} {s : Shared} {H : Hp} {E : XK}
    (hr : Room 7 (cxOf CX0 P w K mg base N_leaf_change "leaf_change" (defScope s_leaf_change) f cdv A outer s H E).nox.A) : PSs (cxOf CX0 P w K mg base N_leaf_change "leaf_change" (defScope s_leaf_change) f cdv A outer s H E).nox (defBody s_leaf_change) (t_leaf_change K) := by
  have hu := hu_of hr
  have hu64 := hr.units
  have hu0 := hr.units0
  exact (pss_cons (ps_par (i := 2) (j := 3) rfl sc_leaf_change.nd rfl rfl (by decide) rfl rfl (pa_cons (pe_ix ix_tup (pv 0) pe_int (fun _ _ => rfl)) (pa_cons (pe_ix ix_tup (pv 0) pe_int (fun _ _ => rfl)) pa_nil)) (by rfl)) (pss_cons (ps_set (i := 4) sc_leaf_change.nd rfl (.inl rfl) (pe_cal c_value_in (hr.mono (by decide)) rfl (pa_cons (pv 1) (pa_cons (pv 3) pa_nil)))) (pss_cons (ps_if (PW.pt (pw_and (pt_cmpR op_eq (pv 2) pe_str (nomark _)) (pw_and1 (pt_cmpR op_ne (pv 4) (pe_ix ix_tup (pv 0) pe_int (fun _ _ => rfl)) (nomark _))))) (pss_one (ps_ret (pe_tup (pa_cons (pv 4) (pa_cons (pe_cal c_with_value (hr.mono (by decide)) rfl (pa_cons (pv 1) (pa_cons (pv 3) (pa_cons (pe_ix ix_tup (pv 0) pe_int (fun _ _ => rfl)) pa_nil)))) pa_nil))))) pss_nil) (pss_cons (ps_if (pt_cmpR op_eq (pv 2) pe_str (nomark _)) (pss_cons (ps_if (pt_cmpR op_notN (pv 4) pe_non (nomark _)) (pss_one (ps_ret (pe_tup (pa_cons pe_bl (pa_cons pe_non pa_nil))))) pss_nil) (pss_one (ps_ret (pe_tup (pa_cons pe_bl (pa_cons (pe_cal c_with_value (hr.mono (by decide)) rfl (pa_cons (pv 1) (pa_cons (pv 3) (pa_cons (pe_ix ix_tup (pv 0) pe_int (fun _ _ => rfl)) pa_nil)))) pa_nil)))))) pss_nil) (pss_cons (ps_if (pt_cmpR op_eq (pv 2) pe_str (nomark _)) (pss_cons (ps_if (PW.pt (pw_or (pt_cmpR op_isN (pv 4) pe_non (nomark _)) (pw_or1 (pt_cmpR op_ne (pv 4) (pe_ix ix_tup (pv 0) pe_int (fun _ _ => rfl)) (nomark _))))) (pss_one (ps_ret (pe_tup (pa_cons pe_bl (pa_cons pe_non pa_nil))))) pss_nil) (pss_cons (ps_if (pt_cmpR op_eq (pe_ix ix_tup (pv 0) pe_int (fun _ _ => rfl)) (pv 4) (nomark _)) (pss_one (ps_ret (pe_tup (pa_cons pe_bl (pa_cons pe_non pa_nil))))) pss_nil) (pss_one (ps_ret (pe_tup (pa_cons pe_bl (pa_cons (pe_cal c_with_value (hr.mono (by decide)) rfl (pa_cons (pv 1) (pa_cons (pv 3) (pa_cons (pe_ix ix_tup (pv 0) pe_int (fun _ _ => rfl)) pa_nil)))) pa_nil))))))) pss_nil) (pss_cons (ps_if (PW.pt (pw_and (pt_cmpR op_eq (pv 2) pe_str (nomark _)) (pw_and1 (pt_cmpR op_notN (pv 4) pe_non (nomark _))))) (pss_one (ps_ret (pe_tup (pa_cons (pv 4) (pa_cons (pe_cal c_without_key (hr.mono (by decide)) rfl (pa_cons (pv 1) (pa_cons (pv 3) pa_nil))) pa_nil))))) pss_nil) (pss_one (ps_ret (pe_tup (pa_cons (pv 4) (pa_cons pe_non pa_nil)))))))))))
theorem ps_most_of {P : Program} {w : World} {K : PySem.W.Frag} {mg : Str → Option Value} {base : Heap} {C : Addr} (T : Tx K mg C) (c_level_of : Cal P w K mg base "level_of" 1 P_level_of (sp_level_of K)) {f : Addr} {cdv : Value} {A : Around} {outer : List Env} {s : Shared} {H : Hp} {E : XK}
    (hr : Room 1 (cxOf CX0 P w K mg base N_most_of "most_of" (defScope s_most_of) f cdv A outer s H E).nox.A) : PSs (cxOf CX0 P w K mg base N_most_of "most_of" (defScope s_most_of) f cdv A outer s H E).nox (defBody s_most_of) (t_most_of K) := by
  have hu := hu_of hr
  have hu64 := hr.units
  have hu0 := hr.units0
  exact (pss_cons (ps_if (pt_cmpR op_eq (pe_cal c_level_of (hr.mono (by decide)) rfl (pa_cons (pv 0) pa_nil)) pe_int (nomark _)) (pss_one (ps_ret (pe_gint rfl T.LEAF_MOST))) pss_nil) (pss_one (ps_ret (pe_gint rfl T.INNER_MOST))))
theorem ps_Draft___init__ {P : Program} {w : World} {K : PySem.W.Frag} {mg : Str → Option Value} {base : Heap} {C : Addr} (T : Tx K mg C) {f : Addr} {cdv : Value} {A : Around} {outer : List Env} {s : Shared} {H : Hp} {E : XK}
    (hr : Room 0 (cxOf CX0 P w K mg base N_Draft___init__ "Draft.__init__" (defScope s_Draft___init__) f cdv A outer s H E).nox.A) : PSs (cxOf CX0 P w K mg base N_Draft___init__ "Draft.__init__" (defScope s_Draft___init__) f cdv A outer s H E).nox (defBody s_Draft___init__) (t_Draft___init__ K) := by
  have hu := hu_of hr
  have hu64 := hr.units
  have hu0 := hr.units0
  exact (pss_cons (ps_fld (pv 0) (pv 1) rfl) (pss_cons (ps_fld (pv 0) (pv 2) rfl) (pss_cons (ps_fld (pv 0) pe_dnewK rfl) (pss_cons (ps_fld (pv 0) pe_dnewK rfl) (pss_one (ps_fld (pv 0) pe_int rfl))))))
theorem ps_Draft_give {P : Program} {w : World} {K : PySem.W.Frag} {mg : Str → Option Value} {base : Heap} {C : Addr} (T : Tx K mg C) {f : Addr} {cdv : Value} {A : Around} {outer : List Env} {s : Shared} {H : Hp} {E : XK}
    (hr : Room 0 (cxOf CX0 P w K mg base N_Draft_give "Draft.give" (defScope s_Draft_give) f cdv A outer s H E).nox.A) : PSs (cxOf CX0 P w K mg base N_Draft_give "Draft.give" (defScope s_Draft_give) f cdv A outer s H E).nox (defBody s_Draft_give) (t_Draft_give K) := by
  have hu := hu_of hr
  have hu64 := hr.units
  have hu0 := hr.units0
  exact (pss_cons (ps_dput hu (pe_fld (pv 0) rfl) (pe_ix ix_tup (pv 1) pe_int (fun _ _ => rfl)) (pv 2) rfl) (pss_one (ps_dput hu (pe_fld (pv 0) rfl) (pe_ix ix_tup (pv 1) pe_int (fun _ _ => rfl)) (pe_ix ix_tup (pv 1) pe_int (fun _ _ => rfl)) rfl)))
theorem ps_Draft_add_page {P : Program} {w : World} {K : PySem.W.Frag} {mg : Str → Option Value} {base : Heap} {C : Addr} (T : Tx K mg C) {f : Addr} {cdv : Value} {A : Around} {outer : List Env} {s : Shared} {H : Hp} {E : XK}
    (hr : Room 0 (cxOf CX0 P w K mg base N_Draft_add_page "Draft.add_page" (defScope s_Draft_add_page) f cdv A outer s H E).nox.A) : PSs (cxOf CX0 P w K mg base N_Draft_add_page "Draft.add_page" (defScope s_Draft_add_page) f cdv A outer s H E).nox (defBody s_Draft_add_page) (t_Draft_add_page K) := by
  have hu := hu_of hr
  have hu64 := hr.units
  have hu0 := hr.units0
  exact (pss_cons (ps_fldaug (pv 0) pe_int in_sub) (pss_cons (ps_dput hu (pe_fld (pv 0) rfl) (pe_fld (pv 0) rfl) (pv 1) rfl) (pss_one (ps_ret (pe_fld (pv 0) rfl)))))
theorem ps_Draft_entries {P : Program} {w : World} {K : PySem.W.Frag} {mg : Str → Option Value} {base : Heap} {C : Addr} (T : Tx K mg C) {f : Addr} {cdv : Value} {A : Around} {outer : List Env} {s : Shared} {H : Hp} {E : XK}
    (hr : Room 0 (cxOf CX0 P w K mg base N_Draft_entries "Draft.entries" (defScope s_Draft_entries) f cdv A outer s H E).nox.A) : PSs (cxOf CX0 P w K mg base N_Draft_entries "Draft.entries" (defScope s_Draft_entries) f cdv A outer s H E).nox (defBody s_Draft_entries) (t_Draft_entries K) := by
  have hu := hu_of hr
  have hu64 := hr.units
  have hu0 := hr.units0
  exact (pss_cons (ps_set (i := 1) sc_Draft_entries.nd rfl (.inl rfl) (pe_callB cr_sortedI rfl T.sorted PyProof.Rows.boot_sorted (pa_cons (pe_lock (pe_lc (own := [("page", 2)]) rfl sc_Draft_entries.nd (pi_keys (pe_fld (pv 0) rfl)) (blkOk_by (N := N_Draft_entries) (sc := defScope s_Draft_entries) (by decide +kernel)) (fun _ _ _ _ _ => pg_name (i := 2) sc_Draft_entries.nd rfl (.inl rfl)) (fun _ _ _ _ _ => pts_one (pt_cmpR op_ge (pv 2) pe_int (nomark _))) (fun _ _ _ _ _ => (pv 2)))) pa_nil))) (pss_cons (ps_set (i := 1) sc_Draft_entries.nd rfl (.inl rfl) (pe_op op_cat (pv 1) (pe_lc (own := [("index", 3)]) rfl sc_Draft_entries.nd (pi_range1 rfl T.range (pa_cons (pe_un un_neg (pe_fld (pv 0) rfl)) pa_nil)) (blkOk_by (N := N_Draft_entries) (sc := defScope s_Draft_entries) (by decide +kernel)) (fun _ _ _ _ _ => pg_name (i := 3) sc_Draft_entries.nd rfl (.inl rfl)) (fun _ _ _ _ _ => pts_nil) (fun _ _ _ _ _ => (pe_op op_sub (pe_un un_neg pe_int) (pv 3)))))) (pss_one (ps_ret (pe_lc (own := [("page", 2)]) rfl sc_Draft_entries.nd (pi_list (pv 1)) (blkOk_by (N := N_Draft_entries) (sc := defScope s_Draft_entries) (by decide +kernel)) (fun _ _ _ _ _ => pg_name (i := 2) sc_Draft_entries.nd rfl (.inl rfl)) (fun _ _ _ _ _ => pts_nil) (fun _ _ _ _ _ => (pe_tup (pa_cons (pv 2) (pa_cons (pe_dget1 hu (pe_fld (pv 0) rfl) (pv 2) ⟨rfl, rfl, rfl, rfl⟩) (pa_cons (pe_dget hu (pe_fld (pv 0) rfl) (pv 2) (fun _ _ => rfl)) pa_nil))))))))))
theorem ps_Draft_place_in_parent {P : Program} {w : World} {K : PySem.W.Frag} {mg : Str → Option Value} {base : Heap} {C : Addr} (T : Tx K mg C) (c_bounds_of : Cal P w K mg base "bounds_of" 1 P_bounds_of (sp_bounds_of K)) (c_child_bounds : Cal P w K mg base "child_bounds" 1 P_child_bounds (sp_child_bounds K)) (c_size_of : Cal P w K mg base "size_of" 1 P_size_of (sp_size_of K)) {f : Addr} {cdv : Value} {A : Around} {outer : List Env} {s : Shared} {H : Hp} {E : XK}
    (hr : Room 1 (cxOf CX0 P w K mg base N_Draft_place_in_parent "Draft.place_in_parent" (defScope s_Draft_place_in_parent) f cdv A outer s H E).nox.A) : PSs (cxOf CX0 P w K mg base N_Draft_place_in_parent "Draft.place_in_parent" (defScope s_Draft_place_in_parent) f cdv A outer s H E).nox (defBody s_Draft_place_in_parent) (t_Draft_place_in_parent K) := by
  have hu := hu_of hr
  have hu64 := hr.units
  have hu0 := hr.units0
  exact (pss_cons (ps_set (i := 2) sc_Draft_place_in_parent.nd rfl (.inl rfl) (pe_ix ix_tup (pe_ix ix_list (pe_fld (pv 0) rfl) (pe_op op_sub (pv 1) pe_int) (fun _ _ => rfl)) pe_int (fun _ _ => rfl))) (pss_cons (ps_asg (pe_ix ix_list (pe_fld (pv 0) rfl) (pv 1) (fun _ _ => rfl)) (pg_tup rfl (pgs_cons (pg_name (i := 3) sc_Draft_place_in_parent.nd rfl (.inl rfl)) (pgs_cons (pg_name (i := 4) sc_Draft_place_in_parent.nd rfl (.inl rfl)) (pgs_cons (pg_name (i := 5) sc_Draft_place_in_parent.nd rfl (.inl rfl)) (pgs_cons (pg_name (i := 4) sc_Draft_place_in_parent.nd rfl (.inl rfl)) pgs_nil)))))) (pss_cons (ps_for PassesOwn.never rfl (pi_range1 rfl T.range (pa_cons (pe_cal c_size_of (hr.mono (by decide)) rfl (pa_cons (pv 2) pa_nil)) pa_nil)) (pg_name (i := 6) sc_Draft_place_in_parent.nd rfl (.inl rfl)) (pss_one (ps_if (PW.pt (pw_and (pt_cmpR op_eq (pe_ix ix_tup (pe_ix ix_tup (pv 2) pe_int (fun _ _ => rfl)) (pv 6) (fun _ _ => rfl)) (pv 3) (nomark _)) (pw_and1 (pt_cmpR (op_eqD hu64) (pe_cal c_child_bounds (hr.mono (by decide)) rfl (pa_cons (pv 2) (pa_cons (pv 6) pa_nil))) (pe_cal c_bounds_of (hr.mono (by decide)) rfl (pa_cons (pv 5) pa_nil)) (nomark _))))) (pss_one (ps_ret (pv 6))) pss_nil))) (pss_one (ps_ret pe_non)))))
theorem ps_Draft_unite_pair {P : Program} {w : World} {K : PySem.W.Frag} {mg : Str → Option Value} {base : Heap} {C : Addr} (T : Tx K mg C) (c_Draft_give : CalM P w K mg base C "give" 1 P_Draft_give (sp_Draft_give K C)) (c_bounds_of : Cal P w K mg base "bounds_of" 1 P_bounds_of (sp_bounds_of K)) (c_cut : Cal P w K mg base "cut" 7 P_cut (sp_cut K)) (c_joined : Cal P w K mg base "joined" 7 P_joined (sp_joined K)) (c_most_of : Cal P w K mg base "most_of" 2 P_most_of (sp_most_of K)) (c_size_of : Cal P w K mg base "size_of" 1 P_size_of (sp_size_of K)) (c_with_separator : Cal P w K mg base "with_separator" 7 P_with_separator (sp_with_separator K)) (c_without_child : Cal P w K mg base "without_child" 7 P_without_child (sp_without_child K)) {f : Addr} {cdv : Value} {A : Around} {outer : List Env} {s : Shared} {H : Hp} {E : XK}
    (hr : Room 7 (cxOf CX0 P w K mg base N_Draft_unite_pair "Draft.unite_pair" (defScope s_Draft_unite_pair) f cdv A outer s H E).nox.A) : PSs (cxOf CX0 P w K mg base N_Draft_unite_pair "Draft.unite_pair" (defScope s_Draft_unite_pair) f cdv A outer s H E).nox (defBody s_Draft_unite_pair) (t_Draft_unite_pair K C) := by
  have hu := hu_of hr
  have hu64 := hr.units
  have hu0 := hr.units0
  exact (pss_cons (ps_set (i := 5) sc_Draft_unite_pair.nd rfl (.inl rfl) (pe_ix ix_tup (pe_ix ix_list (pe_fld (pv 0) rfl) (pe_op op_sub (pv 1) pe_int) (fun _ _ => rfl)) pe_int (fun _ _ => rfl))) (pss_cons (ps_set (i := 6) sc_Draft_unite_pair.nd rfl (.inl rfl) (pe_cal c_joined (hr.mono (by decide)) rfl (pa_cons (pe_ix ix_tup (pv 3) pe_int (fun _ _ => rfl)) (pa_cons (pe_ix ix_tup (pe_cal c_bounds_of (hr.mono (by decide)) rfl (pa_cons (pe_ix ix_tup (pv 4) pe_int (fun _ _ => rfl)) pa_nil)) pe_int (fun _ _ => rfl)) (pa_cons (pe_ix ix_tup (pv 4) pe_int (fun _ _ => rfl)) pa_nil))))) (pss_cons (ps_if (pt_cmpR op_gt (pe_cal c_size_of (hr.mono (by decide)) rfl (pa_cons (pv 6) pa_nil)) (pe_cal c_most_of (hr.mono (by decide)) rfl (pa_cons (pv 6) pa_nil)) (nomark _)) (pss_cons (ps_asg (pe_cal c_cut (hr.mono (by decide)) rfl (pa_cons (pv 6) pa_nil)) (pg_tup rfl (pgs_cons (pg_name (i := 7) sc_Draft_unite_pair.nd rfl (.inl rfl)) (pgs_cons (pg_name (i := 8) sc_Draft_unite_pair.nd rfl (.inl rfl)) (pgs_cons (pg_name (i := 9) sc_Draft_unite_pair.nd rfl (.inl rfl)) pgs_nil))))) (pss_cons (ps_expr (pe_mth T.cls c_Draft_give (hr.mono (by decide)) (pv 0) (pa_cons (pe_ix ix_tup (pv 3) pe_int (fun _ _ => rfl)) (pa_cons (pv 7) pa_nil)))) (pss_cons (ps_expr (pe_mth T.cls c_Draft_give (hr.mono (by decide)) (pv 0) (pa_cons (pe_ix ix_tup (pv 4) pe_int (fun _ _ => rfl)) (pa_cons (pv 9) pa_nil)))) (pss_one (ps_ret (pe_tup (pa_cons pe_str (pa_cons (pe_cal c_with_separator (hr.mono (by decide)) rfl (pa_cons (pv 5) (pa_cons (pv 2) (pa_cons (pv 8) pa_nil)))) pa_nil)))))))) pss_nil) (pss_cons (ps_set (i := 5) sc_Draft_unite_pair.nd rfl (.inl rfl) (pe_cal c_without_child (hr.mono (by decide)) rfl (pa_cons (pv 5) (pa_cons (pv 2) pa_nil)))) (pss_cons (ps_expr (pe_mth T.cls c_Draft_give (hr.mono (by decide)) (pv 0) (pa_cons (pe_ix ix_tup (pv 4) pe_int (fun _ _ => rfl)) (pa_cons (pe_tup (pa_cons pe_str (pa_cons (pe_ix ix_tup (pe_ix ix_tup (pv 4) pe_int (fun _ _ => rfl)) pe_int (fun _ _ => rfl)) pa_nil))) pa_nil)))) (pss_cons (ps_if (PW.pt (pw_and (pt_cmpR op_eq (pv 1) pe_int (nomark _)) (pw_and1 (pt_cmpR op_eq (pe_cal c_size_of (hr.mono (by decide)) rfl (pa_cons (pv 5) pa_nil)) pe_int (nomark _))))) (pss_cons (ps_expr (pe_mth T.cls c_Draft_give (hr.mono (by decide)) (pv 0) (pa_cons (pe_ix ix_tup (pv 3) pe_int (fun _ _ => rfl)) (pa_cons (pe_tup (pa_cons pe_str (pa_cons (pe_ix ix_tup (pe_ix ix_tup (pv 3) pe_int (fun _ _ => rfl)) pe_int (fun _ _ => rfl)) pa_nil))) pa_nil)))) (pss_cons (ps_expr (pe_mth T.cls c_Draft_give (hr.mono (by decide)) (pv 0) (pa_cons (pe_ix ix_list (pe_fld (pv 0) rfl) pe_int (fun _ _ => rfl)) (pa_cons (pv 6) pa_nil)))) (pss_one (ps_ret (pe_tup (pa_cons pe_str (pa_cons pe_non pa_nil))))))) pss_nil) (pss_cons (ps_expr (pe_mth T.cls c_Draft_give (hr.mono (by decide)) (pv 0) (pa_cons (pe_ix ix_tup (pv 3) pe_int (fun _ _ => rfl)) (pa_cons (pv 6) pa_nil)))) (pss_one (ps_ret (pe_tup (pa_cons pe_str (pa_cons (pv 5) pa_nil))))))))))))
theorem ps_Draft_divide {P : Program} {w : World} {K : PySem.W.Frag} {mg : Str → Option Value} {base : Heap} {C : Addr} (T : Tx K mg C) (c_Draft_add_page : CalM P w K mg base C "add_page" 1 P_Draft_add_page (sp_Draft_add_page K C)) (c_Draft_give : CalM P w K mg base C "give" 1 P_Draft_give (sp_Draft_give K C)) (c_Draft_place_in_parent : CalM P w K mg base C "place_in_parent" 2 P_Draft_place_in_parent (sp_Draft_place_in_parent K C)) (c_cut : Cal P w K mg base "cut" 7 P_cut (sp_cut K)) (c_inner : Cal P w K mg base "inner" 6 P_inner (sp_inner K)) (c_level_of : Cal P w K mg base "level_of" 1 P_level_of (sp_level_of K)) (c_with_child : Cal P w K mg base "with_child" 7 P_with_child (sp_with_child K)) {f : Addr} {cdv : Value} {A : Around} {outer : List Env} {s : Shared} {H : Hp} {E : XK}
    (hr : Room 7 (cxOf CX0 P w K mg base N_Draft_divide "Draft.divide" (defScope s_Draft_divide) f cdv A outer s H E).nox.A) : PSs (cxOf CX0 P w K mg base N_Draft_divide "Draft.divide" (defScope s_Draft_divide) f cdv A outer s H E).nox (defBody s_Draft_divide) (t_Draft_divide K C) := by
  have hu := hu_of hr
  have hu64 := hr.units
  have hu0 := hr.units0
  exact (pss_cons (ps_asg (pe_cal c_cut (hr.mono (by decide)) rfl (pa_cons (pv 2) pa_nil)) (pg_tup rfl (pgs_cons (pg_name (i := 3) sc_Draft_divide.nd rfl (.inl rfl)) (pgs_cons (pg_name (i := 4) sc_Draft_divide.nd rfl (.inl rfl)) (pgs_cons (pg_name (i := 5) sc_Draft_divide.nd rfl (.inl rfl)) pgs_nil))))) (pss_cons (ps_if (pt_cmpR op_eq (pv 1) pe_int (nomark _)) (pss_cons (ps_set (i := 6) sc_Draft_divide.nd rfl (.inl rfl) (pe_tup (pa_cons (pe_mth T.cls c_Draft_add_page (hr.mono (by decide)) (pv 0) (pa_cons (pv 3) pa_nil)) (pa_cons (pe_mth T.cls c_Draft_add_page (hr.mono (by decide)) (pv 0) (pa_cons (pv 5) pa_nil)) pa_nil)))) (pss_cons (ps_set (i := 7) sc_Draft_divide.nd rfl (.inl rfl) (pe_op op_add (pe_cal c_level_of (hr.mono (by decide)) rfl (pa_cons (pv 2) pa_nil)) pe_int)) (pss_cons (ps_expr (pe_mth T.cls c_Draft_give (hr.mono (by decide)) (pv 0) (pa_cons (pe_ix ix_list (pe_fld (pv 0) rfl) pe_int (fun _ _ => rfl)) (pa_cons (pe_cal c_inner (hr.mono (by decide)) rfl (pa_cons (pv 7) (pa_cons pe_non (pa_cons pe_non (pa_cons (pe_tup (pa_cons (pv 4) pa_nil)) (pa_cons (pv 6) pa_nil)))))) pa_nil)))) (pss_one (ps_ret (pe_tup (pa_cons pe_str (pa_cons pe_non pa_nil)))))))) pss_nil) (pss_cons (ps_set (i := 8) sc_Draft_divide.nd rfl (.inl rfl) (pe_mth T.cls c_Draft_place_in_parent (hr.mono (by decide)) (pv 0) (pa_cons (pv 1) pa_nil))) (pss_cons (ps_if (pt_cmpR op_isN (pv 8) pe_non (nomark _)) (pss_one (ps_ret (pe_tup (pa_cons pe_str (pa_cons pe_non pa_nil))))) pss_nil) (pss_cons (ps_expr (pe_mth T.cls c_Draft_give (hr.mono (by decide)) (pv 0) (pa_cons (pe_ix ix_list (pe_fld (pv 0) rfl) (pv 1) (fun _ _ => rfl)) (pa_cons (pv 3) pa_nil)))) (pss_cons (ps_set (i := 9) sc_Draft_divide.nd rfl (.inl rfl) (pe_mth T.cls c_Draft_add_page (hr.mono (by decide)) (pv 0) (pa_cons (pv 5) pa_nil))) (pss_one (ps_ret (pe_tup (pa_cons pe_str (pa_cons (pe_cal c_with_child (hr.mono (by decide)) rfl (pa_cons (pe_ix ix_tup (pe_ix ix_list (pe_fld (pv 0) rfl) (pe_op op_sub (pv 1) pe_int) (fun _ _ => rfl)) pe_int (fun _ _ => rfl)) (pa_cons (pv 8) (pa_cons (pv 4) (pa_cons (pv 9) pa_nil))))) pa_nil)))))))))))
theorem ps_Draft_unite {P : Program} {w : World} {K : PySem.W.Frag} {mg : Str → Option Value} {base : Heap} {C : Addr} (T : Tx K mg C) (c_Draft_place_in_parent : CalM P w K mg base C "place_in_parent" 2 P_Draft_place_in_parent (sp_Draft_place_in_parent K C)) (c_Draft_unite_pair : CalM P w K mg base C "unite_pair" 8 P_Draft_unite_pair (sp_Draft_unite_pair K C)) (c_bounds_of : Cal P w K mg base "bounds_of" 1 P_bounds_of (sp_bounds_of K)) (c_child_bounds : Cal P w K mg base "child_bounds" 1 P_child_bounds (sp_child_bounds K)) (c_level_of : Cal P w K mg base "level_of" 1 P_level_of (sp_level_of K)) {f : Addr} {cdv : Value} {A : Around} {outer : List Env} {s : Shared} {H : Hp} {E : XK}
    (hr : Room 8 (cxOf CX0 P w K mg base N_Draft_unite "Draft.unite" (defScope s_Draft_unite) f cdv A outer s H E).nox.A) : PSs (cxOf CX0 P w K mg base N_Draft_unite "Draft.unite" (defScope s_Draft_unite) f cdv A outer s H E).nox (defBody s_Draft_unite) (t_Draft_unite K C) := by
  have hu := hu_of hr
  have hu64 := hr.units
  have hu0 := hr.units0
  exact (pss_cons (ps_set (i := 3) sc_Draft_unite.nd rfl (.inl rfl) (pe_mth T.cls c_Draft_place_in_parent (hr.mono (by decide)) (pv 0) (pa_cons (pv 1) pa_nil))) (pss_cons (ps_if (pt_cmpR op_isN (pv 3) pe_non (nomark _)) (pss_one (ps_ret (pe_tup (pa_cons pe_str (pa_cons pe_non pa_nil))))) pss_nil) (pss_cons (ps_set (i := 4) sc_Draft_unite.nd rfl (.inl rfl) (pe_ix ix_tup (pe_ix ix_list (pe_fld (pv 0) rfl) (pe_op op_sub (pv 1) pe_int) (fun _ _ => rfl)) pe_int (fun _ _ => rfl))) (pss_cons (ps_set (i := 5) sc_Draft_unite.nd rfl (.inl rfl) (pe_op op_sub (pv 3) pe_int)) (pss_cons (ps_if (pt_cmpR op_eq (pv 3) pe_int (nomark _)) (pss_one (ps_set (i := 5) sc_Draft_unite.nd rfl (.inl rfl) pe_int)) pss_nil) (pss_cons (ps_set (i := 6) sc_Draft_unite.nd rfl (.inl rfl) (pe_ix ix_tup (pe_ix ix_tup (pv 4) pe_int (fun _ _ => rfl)) (pv 5) (fun _ _ => rfl))) (pss_cons (ps_if (pt_cmp (pc_dnotin hu (pv 6) (pe_fld (pv 0) rfl))) (pss_one (ps_ret (pe_tup (pa_cons pe_str (pa_cons (pv 6) pa_nil))))) pss_nil) (pss_cons (ps_set (i := 7) sc_Draft_unite.nd rfl (.inl rfl) (pe_dget hu (pe_fld (pv 0) rfl) (pv 6) (fun _ _ => rfl))) (pss_cons (ps_if (pt_cmpR op_ne (pe_cal c_level_of (hr.mono (by decide)) rfl (pa_cons (pe_ix ix_tup (pv 7) pe_int (fun _ _ => rfl)) pa_nil)) (pe_cal c_level_of (hr.mono (by decide)) rfl (pa_cons (pv 2) pa_nil)) (nomark _)) (pss_one (ps_ret (pe_tup (pa_cons pe_str (pa_cons pe_non pa_nil))))) pss_nil) (pss_cons (ps_if (pt_cmpR (op_neD hu64) (pe_cal c_bounds_of (hr.mono (by decide)) rfl (pa_cons (pe_ix ix_tup (pv 7) pe_int (fun _ _ => rfl)) pa_nil)) (pe_cal c_child_bounds (hr.mono (by decide)) rfl (pa_cons (pv 4) (pa_cons (pv 5) pa_nil))) (nomark _)) (pss_one (ps_ret (pe_tup (pa_cons pe_str (pa_cons pe_non pa_nil))))) pss_nil) (pss_cons (ps_set (i := 8) sc_Draft_unite.nd rfl (.inl rfl) (pe_ix ix_list (pe_fld (pv 0) rfl) (pv 1) (fun _ _ => rfl))) (pss_cons (ps_if (pt_cmpR op_lt (pv 5) (pv 3) (nomark _)) (pss_one (ps_ret (pe_mth T.cls c_Draft_unite_pair (hr.mono (by decide)) (pv 0) (pa_cons (pv 1) (pa_cons (pv 3) (pa_cons (pe_tup (pa_cons (pv 7) (pa_cons (pe_ix ix_tup (pv 7) pe_int (fun _ _ => rfl)) pa_nil))) (pa_cons (pe_tup (pa_cons (pv 8) (pa_cons (pv 2) pa_nil))) pa_nil))))))) pss_nil) (pss_one (ps_ret (pe_mth T.cls c_Draft_unite_pair (hr.mono (by decide)) (pv 0) (pa_cons (pv 1) (pa_cons (pv 5) (pa_cons (pe_tup (pa_cons (pv 8) (pa_cons (pv 2) pa_nil))) (pa_cons (pe_tup (pa_cons (pv 7) (pa_cons (pe_ix ix_tup (pv 7) pe_int (fun _ _ => rfl)) pa_nil))) pa_nil)))))))))))))))))))
theorem ps_Draft_settle {P : Program} {w : World} {K : PySem.W.Frag} {mg : Str → Option Value} {base : Heap} {C : Addr} (T : Tx K mg C) (c_Draft_divide : CalM P w K mg base C "divide" 8 P_Draft_divide (sp_Draft_divide K C)) (c_Draft_give : CalM P w K mg base C "give" 1 P_Draft_give (sp_Draft_give K C)) (c_Draft_unite : CalM P w K mg base C "unite" 9 P_Draft_unite (sp_Draft_unite K C)) (c_most_of : Cal P w K mg base "most_of" 2 P_most_of (sp_most_of K)) (c_size_of : Cal P w K mg base "size_of" 1 P_size_of (sp_size_of K)) {f : Addr} {cdv : Value} {A : Around} {outer : List Env} {s : Shared} {H : Hp} {E : XK}
    (hr : Room 9 (cxOf CX0 P w K mg base N_Draft_settle "Draft.settle" (defScope s_Draft_settle) f cdv A outer s H E).nox.A) : PSs (cxOf CX0 P w K mg base N_Draft_settle "Draft.settle" (defScope s_Draft_settle) f cdv A outer s H E).nox (defBody s_Draft_settle) (t_Draft_settle K C) := by
  have hu := hu_of hr
  have hu64 := hr.units
  have hu0 := hr.units0
  exact (pss_cons (ps_if (pt_cmpR op_gt (pe_cal c_size_of (hr.mono (by decide)) rfl (pa_cons (pv 2) pa_nil)) (pe_cal c_most_of (hr.mono (by decide)) rfl (pa_cons (pv 2) pa_nil)) (nomark _)) (pss_one (ps_ret (pe_mth T.cls c_Draft_divide (hr.mono (by decide)) (pv 0) (pa_cons (pv 1) (pa_cons (pv 2) pa_nil))))) pss_nil) (pss_cons (ps_if (PW.pt (pw_and (pt_cmpR op_gt (pv 1) pe_int (nomark _)) (pw_and1 (pt_cmpR op_lt (pe_cal c_size_of (hr.mono (by decide)) rfl (pa_cons (pv 2) pa_nil)) (pe_gint rfl T.LEAST) (nomark _))))) (pss_one (ps_ret (pe_mth T.cls c_Draft_unite (hr.mono (by decide)) (pv 0) (pa_cons (pv 1) (pa_cons (pv 2) pa_nil))))) pss_nil) (pss_cons (ps_expr (pe_mth T.cls c_Draft_give (hr.mono (by decide)) (pv 0) (pa_cons (pe_ix ix_list (pe_fld (pv 0) rfl) (pv 1) (fun _ _ => rfl)) (pa_cons (pv 2) pa_nil)))) (pss_one (ps_ret (pe_tup (pa_cons pe_str (pa_cons pe_non pa_nil))))))))
theorem ps_plan {P : Program} {w : World} {K : PySem.W.Frag} {mg : Str → Option Value} {base : Heap} {C : Addr} (T : Tx K mg C) (c_Draft___init__ : CalI P w K mg base C 1 P_Draft___init__ (sp_Draft___init__ K C)) (c_Draft_entries : CalM P w K mg base C "entries" 1 P_Draft_entries (sp_Draft_entries K C)) (c_Draft_settle : CalM P w K mg base C "settle" 10 P_Draft_settle (sp_Draft_settle K C)) (c_leaf_change : Cal P w K mg base "leaf_change" 8 P_leaf_change (sp_leaf_change K)) {f : Addr} {cdv : Value} {A : Around} {outer : List Env} {s : Shared} {H : Hp} {E : XK}
    (hr : Room 10 (cxOf CX0 P w K mg base N_plan "plan" (defScope s_plan) f cdv A outer s H E).nox.A) : PSs (cxOf CX0 P w K mg base N_plan "plan" (defScope s_plan) f cdv A outer s H E).nox (defBody s_plan) (t_plan K C) := by
  have hu := hu_of hr
  have hu64 := hr.units
  have hu0 := hr.units0
  exact (pss_cons (ps_asg (pe_cal c_leaf_change (hr.mono (by decide)) rfl (pa_cons (pv 0) (pa_cons (pe_ix ix_tup (pe_ix ix_list (pv 1) (pe_un un_neg pe_int) (fun _ _ => rfl)) pe_int (fun _ _ => rfl)) pa_nil))) (pg_tup rfl (pgs_cons (pg_name (i := 3) sc_plan.nd rfl (.inl rfl)) (pgs_cons (pg_name (i := 4) sc_plan.nd rfl (.inl rfl)) pgs_nil)))) (pss_cons (ps_if (pt_cmpR op_isN (pv 4) pe_non (nomark _)) (pss_one (ps_ret (pe_tup (pa_cons pe_str (pa_cons (pv 3) pa_nil))))) pss_nil) (pss_cons (ps_set (i := 5) sc_plan.nd rfl (.inl rfl) (pe_mk T.gC c_Draft___init__ (hr.mono (by decide)) rfl (pa_cons (pv 1) (pa_cons (pv 2) pa_nil)))) (pss_cons (ps_for PassesOwn.never rfl (pi_range3 rfl T.range (pa_cons (pe_op op_sub (pe_callB call_len_seq rfl T.len PySem.boot_len (pa_cons (pv 1) pa_nil)) pe_int) (pa_cons (pe_un un_neg pe_int) (pa_cons (pe_un un_neg pe_int) pa_nil)))) (pg_name (i := 6) sc_plan.nd rfl (.inl rfl)) (pss_cons (ps_asg (pe_mth T.cls c_Draft_settle (hr.mono (by decide)) (pv 5) (pa_cons (pv 6) (pa_cons (pv 4) pa_nil))) (pg_tup rfl (pgs_cons (pg_name (i := 7) sc_plan.nd rfl (.inl rfl)) (pgs_cons (pg_name (i := 8) sc_plan.nd rfl (.inl rfl)) pgs_nil)))) (pss_cons (ps_if (pt_cmpR op_eq (pv 7) pe_str (nomark _)) (pss_one (ps_ret (pe_tup (pa_cons pe_str (pa_cons (pv 8) pa_nil))))) pss_nil) (pss_cons (ps_if (pt_cmpR op_eq (pv 7) pe_str (nomark _)) (pss_one (ps_ret (pe_tup (pa_cons pe_str pa_nil)))) pss_nil) (pss_cons (ps_if (pt_cmpR op_eq (pv 7) pe_str (nomark _)) (pss_one ps_break) pss_nil) (pss_one (ps_set (i := 4) sc_plan.nd rfl (.inl rfl) (pv 8)))))))) (pss_one (ps_ret (pe_tup (pa_cons pe_str (pa_cons (pv 3) (pa_cons (pe_mth0 T.cls c_Draft_entries (hr.mono (by decide)) (pv 5)) pa_nil))))))))))
theorem ps_new_pages {P : Program} {w : World} {K : PySem.W.Frag} {mg : Str → Option Value} {base : Heap} {C : Addr} (T : Tx K mg C) {f : Addr} {cdv : Value} {A : Around} {outer : List Env} {s : Shared} {H : Hp} {E : XK}
    (hr : Room 0 (cxOf CX0 P w K mg base N_new_pages "new_pages" (defScope s_new_pages) f cdv A outer s H E).nox.A) : PSs (cxOf CX0 P w K mg base N_new_pages "new_pages" (defScope s_new_pages) f cdv A outer s H E).nox (defBody s_new_pages) (t_new_pages K) := by
  have hu := hu_of hr
  have hu64 := hr.units
  have hu0 := hr.units0
  exact (pss_one (ps_ret (pe_callB call_len_seq rfl T.len PySem.boot_len (pa_cons (pe_lc (own := [("entry", 1)]) rfl sc_new_pages.nd (pi_list (pv 0)) (blkOk_by (N := N_new_pages) (sc := defScope s_new_pages) (by decide +kernel)) (fun _ _ _ _ _ => pg_name (i := 1) sc_new_pages.nd rfl (.inl rfl)) (fun _ _ _ _ _ => pts_one (pt_cmpR op_lt (pe_ix ix_tup (pv 1) pe_int (fun _ _ => rfl)) pe_int (nomark _))) (fun _ _ _ _ _ => (pv 1))) pa_nil))))
theorem ps_real_page {P : Program} {w : World} {K : PySem.W.Frag} {mg : Str → Option Value} {base : Heap} {C : Addr} (T : Tx K mg C) {f : Addr} {cdv : Value} {A : Around} {outer : List Env} {s : Shared} {H : Hp} {E : XK}
    (hr : Room 0 (cxOf CX0 P w K mg base N_real_page "real_page" (defScope s_real_page) f cdv A outer s H E).nox.A) : PSs (cxOf CX0 P w K mg base N_real_page "real_page" (defScope s_real_page) f cdv A outer s H E).nox (defBody s_real_page) (t_real_page K) := by
  have hu := hu_of hr
  have hu64 := hr.units
  have hu0 := hr.units0
  exact (pss_cons (ps_if (pt_cmpR op_lt (pv 0) pe_int (nomark _)) (pss_one (ps_ret (pe_ix ix_list (pv 1) (pe_op op_sub (pe_un un_neg pe_int) (pv 0)) (fun _ _ => rfl)))) pss_nil) (pss_one (ps_ret (pv 0))))
theorem ps_placed {P : Program} {w : World} {K : PySem.W.Frag} {mg : Str → Option Value} {base : Heap} {C : Addr} (T : Tx K mg C) (c_real_page : Cal P w K mg base "real_page" 1 P_real_page (sp_real_page K)) {f : Addr} {cdv : Value} {A : Around} {outer : List Env} {s : Shared} {H : Hp} {E : XK}
    (hr : Room 1 (cxOf CX0 P w K mg base N_placed "placed" (defScope s_placed) f cdv A outer s H E).nox.A) : PSs (cxOf CX0 P w K mg base N_placed "placed" (defScope s_placed) f cdv A outer s H E).nox (defBody s_placed) (t_placed K) := by
  have hu := hu_of hr
  have hu64 := hr.units
  have hu0 := hr.units0
  exact (pss_cons (ps_set (i := 2) sc_placed.nd rfl (.inl rfl) (pe_lst pa_nil)) (pss_cons (ps_for PassesOwn.never rfl (pi_list (pv 0)) (pg_tup rfl (pgs_cons (pg_name (i := 3) sc_placed.nd rfl (.inl rfl)) (pgs_cons (pg_name (i := 4) sc_placed.nd rfl (.inl rfl)) (pgs_cons (pg_name (i := 5) sc_placed.nd rfl (.inl rfl)) pgs_nil)))) (pss_cons (ps_if (pt_cmpR op_eq (pe_ix ix_tup (pv 5) pe_int (fun _ _ => rfl)) pe_str (nomark _)) (pss_cons (ps_set (i := 6) sc_placed.nd rfl (.inl rfl) (pe_callTy call_tuple_of rfl T.tuple PyProof.Rows.boot_tuple (pa_cons (pe_lc (own := [("below", 7)]) rfl sc_placed.nd (pi_tup (pe_ix ix_tup (pv 5) pe_int (fun _ _ => rfl))) (blkOk_by (N := N_placed) (sc := defScope s_placed) (by decide +kernel)) (fun _ _ _ _ _ => pg_name (i := 7) sc_placed.nd rfl (.inl rfl)) (fun _ _ _ _ _ => pts_nil) (fun _ _ _ _ _ => (pe_cal c_real_page (hr.mono (by decide)) rfl (pa_cons (pv 7) (pa_cons (pv 1) pa_nil))))) pa_nil))) (pss_one (ps_set (i := 5) sc_placed.nd rfl (.inl rfl) (pe_op op_catA (pe_slice sl_tupA (pv 5) po_none (po_some pe_int)) (pe_tup (pa_cons (pv 6) pa_nil)))))) pss_nil) (pss_one (ps_expr (pe_bm PySem.F.plainAttrs_list PySem.F.slot_list_append PySem.F.type_list_append mt_append (pv 2) (pa_cons (pe_tup (pa_cons (pe_cal c_real_page (hr.mono (by decide)) rfl (pa_cons (pv 3) (pa_cons (pv 1) pa_nil))) (pa_cons (pv 4) (pa_cons (pv 5) pa_nil)))) pa_nil)))))) (pss_one (ps_ret (pv 2)))))
end Esp

/-! Printed by gen.py: the bodies of the law's defs read so -/
namespace Esp
open PySem L2 PyProof.Rows PySem.Spec
abbrev N__law_cell : List Str := ["_law_script", "_law_k"]
abbrev P__law_cell : List Str := ["_law_script", "_law_k"]
theorem sc__law_cell : FnScope N__law_cell P__law_cell (defScope s__law_cell) := ⟨rfl, rfl, rfl, by decide +kernel, rfl, by decide +kernel, by decide +kernel⟩
abbrev N__law_digits : List Str := ["_law_cell_here", "_law_bases", "_law_digits_here", "_law_rest", "_law_base", "_law_mixed"]
abbrev P__law_digits : List Str := ["_law_cell_here", "_law_bases"]
theorem sc__law_digits : FnScope N__law_digits P__law_digits (defScope s__law_digits) := ⟨rfl, rfl, rfl, by decide +kernel, rfl, by decide +kernel, by decide +kernel⟩
abbrev N__law_many : List Str := ["_law_script", "_law_few", "_law_many_here"]
abbrev P__law_many : List Str := ["_law_script", "_law_few", "_law_many_here"]
theorem sc__law_many : FnScope N__law_many P__law_many (defScope s__law_many) := ⟨rfl, rfl, rfl, by decide +kernel, rfl, by decide +kernel, by decide +kernel⟩
abbrev N__law_call : List Str := ["_law_cell_here", "_law_width", "_law_table", "_law_digits_here", "_law_key", "_law_kind", "_law_keys", "_law_old"]
abbrev P__law_call : List Str := ["_law_cell_here", "_law_width", "_law_table"]
theorem sc__law_call : FnScope N__law_call P__law_call (defScope s__law_call) := ⟨rfl, rfl, rfl, by decide +kernel, rfl, by decide +kernel, by decide +kernel⟩
abbrev N__law_due : List Str := ["_law_table", "_law_call_here", "_law_after", "_law_old"]
abbrev P__law_due : List Str := ["_law_table", "_law_call_here"]
theorem sc__law_due : FnScope N__law_due P__law_due (defScope s__law_due) := ⟨rfl, rfl, rfl, by decide +kernel, rfl, by decide +kernel, by decide +kernel⟩
abbrev N__law_covers : List Str := ["_law_record", "_law_key", "_law_low", "_law_high"]
abbrev P__law_covers : List Str := ["_law_record", "_law_key"]
theorem sc__law_covers : FnScope N__law_covers P__law_covers (defScope s__law_covers) := ⟨rfl, rfl, rfl, by decide +kernel, rfl, by decide +kernel, by decide +kernel⟩
abbrev N__law_walk : List Str := ["_law_pages", "_law_key", "_law_path", "_law_k", "_law_record", "_law_below_here", "_law_one"]
abbrev P__law_walk : List Str := ["_law_pages", "_law_key"]
theorem sc__law_walk : FnScope N__law_walk P__law_walk (defScope s__law_walk) := ⟨rfl, rfl, rfl, by decide +kernel, rfl, by decide +kernel, by decide +kernel⟩
abbrev N__law_planned : List Str := ["_law_pages", "_law_call_here", "_law_path", "_law_siblings", "_law_k", "_law_told", "_law_page"]
abbrev P__law_planned : List Str := ["_law_pages", "_law_call_here"]
theorem sc__law_planned : FnScope N__law_planned P__law_planned (defScope s__law_planned) := ⟨rfl, rfl, rfl, by decide +kernel, rfl, by decide +kernel, by decide +kernel⟩
abbrev N__law_free : List Str := ["_law_pages", "_law_many_here", "_law_found", "_law_page"]
abbrev P__law_free : List Str := ["_law_pages", "_law_many_here"]
theorem sc__law_free : FnScope N__law_free P__law_free (defScope s__law_free) := ⟨rfl, rfl, rfl, by decide +kernel, rfl, by decide +kernel, by decide +kernel⟩
abbrev N__law_applied : List Str := ["_law_pages", "_law_entries", "_law_page", "_law_address", "_law_record", "_law_after", "_law_most"]
abbrev P__law_applied : List Str := ["_law_pages", "_law_entries"]
theorem sc__law_applied : FnScope N__law_applied P__law_applied (defScope s__law_applied) := ⟨rfl, rfl, rfl, by decide +kernel, rfl, by decide +kernel, by decide +kernel⟩
abbrev N__law_ascending : List Str := ["_law_keys", "_law_low", "_law_high", "_law_k"]
abbrev P__law_ascending : List Str := ["_law_keys", "_law_low", "_law_high"]
theorem sc__law_ascending : FnScope N__law_ascending P__law_ascending (defScope s__law_ascending) := ⟨rfl, rfl, rfl, by decide +kernel, rfl, by decide +kernel, by decide +kernel⟩
abbrev N__law_below : List Str := ["_law_record", "_law_level", "_law_todo", "_law_k", "_law_low", "_law_high"]
abbrev P__law_below : List Str := ["_law_record", "_law_level"]
theorem sc__law_below : FnScope N__law_below P__law_below (defScope s__law_below) := ⟨rfl, rfl, rfl, by decide +kernel, rfl, by decide +kernel, by decide +kernel⟩
abbrev N__law_fits : List Str := ["_law_page", "_law_record", "_law_low", "_law_high", "_law_level", "_law_least"]
abbrev P__law_fits : List Str := ["_law_page", "_law_record", "_law_low", "_law_high", "_law_level"]
theorem sc__law_fits : FnScope N__law_fits P__law_fits (defScope s__law_fits) := ⟨rfl, rfl, rfl, by decide +kernel, rfl, by decide +kernel, by decide +kernel⟩
abbrev N__law_map : List Str := ["_law_pages", "_law_table", "_law_todo", "_law_seen", "_law_turn_here", "_law_page", "_law_low", "_law_high", "_law_level", "_law_record", "_law_k", "_law_live"]
abbrev P__law_map : List Str := ["_law_pages"]
theorem sc__law_map : FnScope N__law_map P__law_map (defScope s__law_map) := ⟨rfl, rfl, rfl, by decide +kernel, rfl, by decide +kernel, by decide +kernel⟩
abbrev N__law_start : List Str := []
abbrev P__law_start : List Str := []
theorem sc__law_start : FnScope N__law_start P__law_start (defScope s__law_start) := ⟨rfl, rfl, rfl, by decide +kernel, rfl, by decide +kernel, by decide +kernel⟩
abbrev N__law_filled : List Str := ["_law_cell_here", "_law_digits_here", "_law_pages", "_law_table", "_law_many_here", "_law_k", "_law_key", "_law_told"]
abbrev P__law_filled : List Str := ["_law_cell_here"]
theorem sc__law_filled : FnScope N__law_filled P__law_filled (defScope s__law_filled) := ⟨rfl, rfl, rfl, by decide +kernel, rfl, by decide +kernel, by decide +kernel⟩
abbrev N__law_fresh : List Str := ["_law_call_here"]
abbrev P__law_fresh : List Str := ["_law_call_here"]
theorem sc__law_fresh : FnScope N__law_fresh P__law_fresh (defScope s__law_fresh) := ⟨rfl, rfl, rfl, by decide +kernel, rfl, by decide +kernel, by decide +kernel⟩
abbrev N__law_wrong : List Str := ["_law_path", "_law_record", "_law_key", "_law_level"]
abbrev P__law_wrong : List Str := ["_law_path", "_law_record", "_law_key"]
theorem sc__law_wrong : FnScope N__law_wrong P__law_wrong (defScope s__law_wrong) := ⟨rfl, rfl, rfl, by decide +kernel, rfl, by decide +kernel, by decide +kernel⟩
abbrev N__law_read : List Str := ["_law_walker", "_law_pages", "_law_table", "_law_path", "_law_page", "_law_record", "_law_one", "_law_step", "_law_due_here"]
abbrev P__law_read : List Str := ["_law_walker", "_law_pages", "_law_table"]
theorem sc__law_read : FnScope N__law_read P__law_read (defScope s__law_read) := ⟨rfl, rfl, rfl, by decide +kernel, rfl, by decide +kernel, by decide +kernel⟩
abbrev N__law_beside : List Str := ["_law_walker", "_law_pages", "_law_page", "_law_siblings", "_law_record", "_law_address"]
abbrev P__law_beside : List Str := ["_law_walker", "_law_pages", "_law_page"]
theorem sc__law_beside : FnScope N__law_beside P__law_beside (defScope s__law_beside) := ⟨rfl, rfl, rfl, by decide +kernel, rfl, by decide +kernel, by decide +kernel⟩
abbrev N__law_turn : List Str := ["_law_walker", "_law_pages", "_law_table", "_law_path", "_law_told", "_law_after", "_law_due_here"]
abbrev P__law_turn : List Str := ["_law_walker", "_law_pages", "_law_table"]
theorem sc__law_turn : FnScope N__law_turn P__law_turn (defScope s__law_turn) := ⟨rfl, rfl, rfl, by decide +kernel, rfl, by decide +kernel, by decide +kernel⟩
abbrev N_law : List Str := ["_law_script", "_law_pages", "_law_table", "_law_width", "_law_walkers", "_law_n", "_law_k", "_law_cell_here", "_law_turn_here", "_law_which", "_law_walker", "_law_right"]
abbrev P_law : List Str := ["_law_script"]
theorem sc_law : FnScope N_law P_law (defScope s_law) := ⟨rfl, rfl, rfl, by decide +kernel, rfl, by decide +kernel, by decide +kernel⟩
theorem ps__law_cell {P : Program} {w : World} {K : PySem.W.Frag} {mg : Str → Option Value} {base : Heap} {C : Addr} (T : Tx K mg C) {f : Addr} {cdv : Value} {A : Around} {outer : List Env} {s : Shared} {H : Hp} {E : XK}
    (hr : Room 0 (cxOf CX0 P w K mg base N__law_cell "_law_cell" (defScope s__law_cell) f cdv A outer s H E).nox.A) : PSs (cxOf CX0 P w K mg base N__law_cell "_law_cell" (defScope s__law_cell) f cdv A outer s H E).nox (defBody s__law_cell) (t__law_cell K) := by
  have hu := hu_of hr
  have hu64 := hr.units
  have hu0 := hr.units0
  exact (pss_cons (ps_if (pt_cmpR op_lt (pv 1) (pe_callB call_len_seq rfl T.len PySem.boot_len (pa_cons (pv 0) pa_nil)) (nomark _)) (pss_one (ps_ret (pe_callTy call_int1 rfl T.int PyProof.Rows.boot_int (pa_cons (pe_ix ix_list (pv 0) (pv 1) (fun _ _ => rfl)) pa_nil)))) pss_nil) (pss_one (ps_ret pe_int)))
theorem ps__law_digits {P : Program} {w : World} {K : PySem.W.Frag} {mg : Str → Option Value} {base : Heap} {C : Addr} (T : Tx K mg C) {f : Addr} {cdv : Value} {A : Around} {outer : List Env} {s : Shared} {H : Hp} {E : XK}
    (hr : Room 0 (cxOf CX0 P w K mg base N__law_digits "_law_digits" (defScope s__law_digits) f cdv A outer s H E).nox.A) : PSs (cxOf CX0 P w K mg base N__law_digits "_law_digits" (defScope s__law_digits) f cdv A outer s H E).nox (defBody s__law_digits) (t__law_digits K) := by
  have hu := hu_of hr
  have hu64 := hr.units
  have hu0 := hr.units0
  exact (pss_cons (ps_set (i := 2) sc__law_digits.nd rfl (.inl rfl) (pe_lst pa_nil)) (pss_cons (ps_set (i := 3) sc__law_digits.nd rfl (.inl rfl) (pe_callTy call_int1 rfl T.int PyProof.Rows.boot_int (pa_cons (pv 0) pa_nil))) (pss_cons (ps_for PassesOwn.never rfl (pi_list (pv 1)) (pg_name (i := 4) sc__law_digits.nd rfl (.inl rfl)) (pss_one (ps_if (pt_cmpR op_ge (pv 0) (pe_op op_pow pe_int pe_int) (nomark _)) (pss_cons (ps_expr (pe_bm PySem.F.plainAttrs_list PySem.F.slot_list_append PySem.F.type_list_append mt_append (pv 2) (pa_cons (pe_op op_mod (pe_callTy call_int1 rfl T.int PyProof.Rows.boot_int (pa_cons (pv 3) pa_nil)) (pv 4)) pa_nil))) (pss_one (ps_set (i := 3) sc__law_digits.nd rfl (.inl rfl) (pe_op op_fdiv (pv 3) (pv 4))))) (pss_cons (ps_set (i := 3) sc__law_digits.nd rfl (.inl rfl) (pe_op op_mod (pe_op op_add (pe_op op_add (pe_op op_mul (pe_callTy call_int1 rfl T.int PyProof.Rows.boot_int (pa_cons (pv 3) pa_nil)) pe_int) (pe_op op_mul pe_int (pe_callB call_len_seq rfl T.len PySem.boot_len (pa_cons (pv 2) pa_nil)))) pe_int) pe_int)) (pss_cons (ps_set (i := 5) sc__law_digits.nd rfl (.inl rfl) (pe_op op_mod (pe_op op_mul (pe_callTy call_int1 rfl T.int PyProof.Rows.boot_int (pa_cons (pv 3) pa_nil)) (pe_callTy call_int1 rfl T.int PyProof.Rows.boot_int (pa_cons (pv 3) pa_nil))) pe_int)) (pss_one (ps_expr (pe_bm PySem.F.plainAttrs_list PySem.F.slot_list_append PySem.F.type_list_append mt_append (pv 2) (pa_cons (pe_op op_mod (pe_op op_fdiv (pe_callTy call_int1 rfl T.int PyProof.Rows.boot_int (pa_cons (pv 5) pa_nil)) pe_int) (pv 4)) pa_nil))))))))) (pss_one (ps_ret (pv 2))))))
theorem ps__law_many {P : Program} {w : World} {K : PySem.W.Frag} {mg : Str → Option Value} {base : Heap} {C : Addr} (T : Tx K mg C) {f : Addr} {cdv : Value} {A : Around} {outer : List Env} {s : Shared} {H : Hp} {E : XK}
    (hr : Room 0 (cxOf CX0 P w K mg base N__law_many "_law_many" (defScope s__law_many) f cdv A outer s H E).nox.A) : PSs (cxOf CX0 P w K mg base N__law_many "_law_many" (defScope s__law_many) f cdv A outer s H E).nox (defBody s__law_many) (t__law_many K) := by
  have hu := hu_of hr
  have hu64 := hr.units
  have hu0 := hr.units0
  exact (pss_cons (ps_if (PW.pt (pw_and (pt_cmpR op_gt (pe_callB call_len_seq rfl T.len PySem.boot_len (pa_cons (pv 0) pa_nil)) pe_int (nomark _)) (pw_and1 (pt_cmpR op_eq (pe_op op_mod (pe_op op_fdiv (pe_callTy call_int1 rfl T.int PyProof.Rows.boot_int (pa_cons (pe_ix ix_list (pv 0) pe_int (fun _ _ => rfl)) pa_nil)) pe_int) pe_int) pe_int (nomark _))))) (pss_one (ps_ret (pv 2))) pss_nil) (pss_one (ps_ret (pv 1))))
theorem ps__law_call {P : Program} {w : World} {K : PySem.W.Frag} {mg : Str → Option Value} {base : Heap} {C : Addr} (T : Tx K mg C) (c__law_digits : Cal P w K mg base "_law_digits" 1 P__law_digits (sp__law_digits K)) {f : Addr} {cdv : Value} {A : Around} {outer : List Env} {s : Shared} {H : Hp} {E : XK}
    (hr : Room 1 (cxOf CX0 P w K mg base N__law_call "_law_call" (defScope s__law_call) f cdv A outer s H E).nox.A) : PSs (cxOf CX0 P w K mg base N__law_call "_law_call" (defScope s__law_call) f cdv A outer s H E).nox (defBody s__law_call) (t__law_call K) := by
  have hu := hu_of hr
  have hu64 := hr.units
  have hu0 := hr.units0
  exact (pss_cons (ps_set (i := 3) sc__law_call.nd rfl (.inl rfl) (pe_cal c__law_digits (hr.mono (by decide)) rfl (pa_cons (pv 0) (pa_cons (pe_lst (pa_cons pe_int (pa_cons (pv 1) (pa_cons pe_int (pa_cons pe_int (pa_cons pe_int (pa_cons pe_int pa_nil))))))) pa_nil)))) (pss_cons (ps_set (i := 4) sc__law_call.nd rfl (.inl rfl) (pe_op op_sub (pe_ix ix_list (pv 3) pe_int (fun _ _ => rfl)) (pe_op op_fdiv (pv 1) pe_int))) (pss_cons (ps_set (i := 5) sc__law_call.nd rfl (.inl rfl) (pe_ix ix_list (pe_lst (pa_cons pe_str (pa_cons pe_str (pa_cons pe_str (pa_cons pe_str (pa_cons pe_str (pa_cons pe_str (pa_cons pe_str pa_nil)))))))) (pe_ix ix_list (pv 3) pe_int (fun _ _ => rfl)) (fun _ _ => rfl))) (pss_cons (ps_set (i := 6) sc__law_call.nd rfl (.inl rfl) (pe_callB (call_sortedDN rfl) rfl T.sorted PyProof.Rows.boot_sorted (pa_cons (pv 2) pa_nil))) (pss_cons (ps_if (PW.pt (pw_and (pt_cmpR op_gt (pe_ix ix_list (pv 3) pe_int (fun _ _ => rfl)) pe_int (nomark _)) (pw_and (pt_cmpR op_in_seq (pv 5) (pe_tup (pa_cons pe_str (pa_cons pe_str (pa_cons pe_str pa_nil)))) (by with_unfolding_all rfl)) (pw_and1 (pt_cmpR (op_neD hu64) (pv 6) (pe_lst pa_nil) (nomark _)))))) (pss_one (ps_set (i := 4) sc__law_call.nd rfl (.inl rfl) (pe_ix ix_list (pv 6) (pe_op op_mod (pe_ix ix_list (pv 3) pe_int (fun _ _ => rfl)) (pe_callB call_len_seq rfl T.len PySem.boot_len (pa_cons (pv 6) pa_nil))) (fun _ _ => rfl)))) pss_nil) (pss_cons (ps_if (PW.pt (pw_or (pt_cmpR op_eq (pv 5) pe_str (nomark _)) (pw_or1 (pt_cmpR op_eq (pv 5) pe_str (nomark _))))) (pss_one (ps_ret (pe_tup (pa_cons (pv 5) (pa_cons (pv 4) (pa_cons (pe_ix ix_list (pv 3) pe_int (fun _ _ => rfl)) pa_nil)))))) pss_nil) (pss_cons (ps_if (pt_cmpR op_eq (pv 5) pe_str (nomark _)) (pss_cons (ps_set (i := 7) sc__law_call.nd rfl (.inl rfl) (pe_ix ix_list (pv 3) pe_int (fun _ _ => rfl))) (pss_cons (ps_if (pt_cmpR op_gt (pe_ix ix_list (pv 3) pe_int (fun _ _ => rfl)) pe_int (nomark _)) (pss_one (ps_set (i := 7) sc__law_call.nd rfl (.inl rfl) (pe_dget2 hu (pv 2) (pv 4) (pe_ix ix_list (pv 3) pe_int (fun _ _ => rfl)) ⟨rfl, rfl, rfl, rfl⟩))) pss_nil) (pss_one (ps_ret (pe_tup (pa_cons (pv 5) (pa_cons (pv 4) (pa_cons (pv 7) (pa_cons (pe_ix ix_list (pv 3) pe_int (fun _ _ => rfl)) pa_nil))))))))) pss_nil) (pss_one (ps_ret (pe_tup (pa_cons (pv 5) (pa_cons (pv 4) pa_nil))))))))))))
theorem ps__law_due {P : Program} {w : World} {K : PySem.W.Frag} {mg : Str → Option Value} {base : Heap} {C : Addr} (T : Tx K mg C) {f : Addr} {cdv : Value} {A : Around} {outer : List Env} {s : Shared} {H : Hp} {E : XK}
    (hr : Room 0 (cxOf CX0 P w K mg base N__law_due "_law_due" (defScope s__law_due) f cdv A outer s H E).nox.A) : PSs (cxOf CX0 P w K mg base N__law_due "_law_due" (defScope s__law_due) f cdv A outer s H E).nox (defBody s__law_due) (t__law_due K) := by
  have hu := hu_of hr
  have hu64 := hr.units
  have hu0 := hr.units0
  exact (pss_cons (ps_set (i := 2) sc__law_due.nd rfl (.inl rfl) (pe_callTy call_dictD rfl T.dict PyProof.Rows.boot_dict (pa_cons (pv 0) pa_nil))) (pss_cons (ps_set (i := 3) sc__law_due.nd rfl (.inl rfl) (pe_dget2 hu (pv 0) (pe_ix ix_tup (pv 1) pe_int (fun _ _ => rfl)) pe_non ⟨rfl, rfl, rfl, rfl⟩)) (pss_cons (ps_if (pt_cmpR op_eq (pe_ix ix_tup (pv 1) pe_int (fun _ _ => rfl)) pe_str (nomark _)) (pss_cons (ps_dput hu (pv 2) (pe_ix ix_tup (pv 1) pe_int (fun _ _ => rfl)) (pe_ix ix_tup (pv 1) pe_int (fun _ _ => rfl)) rfl) (pss_one (ps_ret (pe_tup (pa_cons (pv 3) (pa_cons (pv 2) pa_nil)))))) pss_nil) (pss_cons (ps_if (pt_cmpR op_eq (pe_ix ix_tup (pv 1) pe_int (fun _ _ => rfl)) pe_str (nomark _)) (pss_cons (ps_if (pt_cmpR op_isN (pv 3) pe_non (nomark _)) (pss_one (ps_dput hu (pv 2) (pe_ix ix_tup (pv 1) pe_int (fun _ _ => rfl)) (pe_ix ix_tup (pv 1) pe_int (fun _ _ => rfl)) rfl)) pss_nil) (pss_one (ps_ret (pe_tup (pa_cons (pe_cmpR op_isN (pv 3) pe_non (nomark _)) (pa_cons (pv 2) pa_nil)))))) pss_nil) (pss_cons (ps_if (pt_cmpR op_eq (pe_ix ix_tup (pv 1) pe_int (fun _ _ => rfl)) pe_str (nomark _)) (pss_cons (ps_if (PW.pt (pw_and (pt_cmpR op_notN (pv 3) pe_non (nomark _)) (pw_and1 (pt_cmpR op_eq (pv 3) (pe_ix ix_tup (pv 1) pe_int (fun _ _ => rfl)) (nomark _))))) (pss_cons (ps_dput hu (pv 2) (pe_ix ix_tup (pv 1) pe_int (fun _ _ => rfl)) (pe_ix ix_tup (pv 1) pe_int (fun _ _ => rfl)) rfl) (pss_one (ps_ret (pe_tup (pa_cons pe_bl (pa_cons (pv 2) pa_nil)))))) pss_nil) (pss_one (ps_ret (pe_tup (pa_cons pe_bl (pa_cons (pv 2) pa_nil)))))) pss_nil) (pss_cons (ps_if (PW.pt (pw_and (pt_cmpR op_eq (pe_ix ix_tup (pv 1) pe_int (fun _ _ => rfl)) pe_str (nomark _)) (pw_and1 (pt_cmpR op_notN (pv 3) pe_non (nomark _))))) (pss_one (ps_expr (pe_dpop1 (pv 2) (pe_ix ix_tup (pv 1) pe_int (fun _ _ => rfl)) ⟨rfl, rfl, rfl, rfl⟩))) pss_nil) (pss_one (ps_ret (pe_tup (pa_cons (pv 3) (pa_cons (pv 2) pa_nil)))))))))))
theorem ps__law_covers {P : Program} {w : World} {K : PySem.W.Frag} {mg : Str → Option Value} {base : Heap} {C : Addr} (T : Tx K mg C) {f : Addr} {cdv : Value} {A : Around} {outer : List Env} {s : Shared} {H : Hp} {E : XK}
    (hr : Room 0 (cxOf CX0 P w K mg base N__law_covers "_law_covers" (defScope s__law_covers) f cdv A outer s H E).nox.A) : PSs (cxOf CX0 P w K mg base N__law_covers "_law_covers" (defScope s__law_covers) f cdv A outer s H E).nox (defBody s__law_covers) (t__law_covers K) := by
  have hu := hu_of hr
  have hu64 := hr.units
  have hu0 := hr.units0
  exact (pss_cons (ps_par (i := 2) (j := 3) rfl sc__law_covers.nd rfl rfl (by decide) rfl rfl (pa_cons (pe_ix ix_tup (pv 0) (pe_un un_neg pe_int) (fun _ _ => rfl)) (pa_cons (pe_ix ix_tup (pv 0) (pe_un un_neg pe_int) (fun _ _ => rfl)) pa_nil)) (by rfl)) (pss_one (ps_ret (pe_and (pe_or (pe_cmpR op_isN (pv 2) pe_non (nomark _)) (pe_one (pe_cmpR op_le (pv 2) (pv 1) (nomark _)))) (pe_one (pe_or (pe_cmpR op_isN (pv 3) pe_non (nomark _)) (pe_one (pe_cmpR op_lt (pv 1) (pv 3) (nomark _)))))))))
theorem ps__law_walk {P : Program} {w : World} {K : PySem.W.Frag} {mg : Str → Option Value} {base : Heap} {C : Addr} (T : Tx K mg C) {f : Addr} {cdv : Value} {A : Around} {outer : List Env} {s : Shared} {H : Hp} {E : XK}
    (hr : Room 0 (cxOf CX0 P w K mg base N__law_walk "_law_walk" (defScope s__law_walk) f cdv A outer s H E).nox.A) : PSs (cxOf CX0 P w K mg base N__law_walk "_law_walk" (defScope s__law_walk) f cdv A outer s H E).nox (defBody s__law_walk) (t__law_walk K) := by
  have hu := hu_of hr
  have hu64 := hr.units
  have hu0 := hr.units0
  exact (pss_cons (ps_set (i := 2) sc__law_walk.nd rfl (.inl rfl) (pe_lst (pa_cons (pe_tup (pa_cons pe_int (pa_cons (pe_ix ix_tup (pe_dget hu (pv 0) pe_int (fun _ _ => rfl)) pe_int (fun _ _ => rfl)) (pa_cons (pe_ix ix_tup (pe_dget hu (pv 0) pe_int (fun _ _ => rfl)) pe_int (fun _ _ => rfl)) (pa_cons pe_int pa_nil))))) pa_nil))) (pss_cons (ps_for PassesOwn.never rfl (pi_range1 rfl T.range (pa_cons pe_int pa_nil)) (pg_name (i := 3) sc__law_walk.nd rfl (.inl rfl)) (pss_cons (ps_set (i := 4) sc__law_walk.nd rfl (.inl rfl) (pe_ix ix_tup (pe_ix ix_list (pv 2) (pe_un un_neg pe_int) (fun _ _ => rfl)) pe_int (fun _ _ => rfl))) (pss_one (ps_if (pt_cmpR op_eq (pe_ix ix_tup (pv 4) pe_int (fun _ _ => rfl)) pe_str (nomark _)) (pss_cons (ps_set (i := 5) sc__law_walk.nd rfl (.inl rfl) (pe_ix ix_tup (pe_ix ix_tup (pv 4) pe_int (fun _ _ => rfl)) (pe_callB call_len_seq rfl T.len PySem.boot_len (pa_cons (pe_lc (own := [("_law_one", 6)]) rfl sc__law_walk.nd (pi_tup (pe_ix ix_tup (pv 4) pe_int (fun _ _ => rfl))) (blkOk_by (N := N__law_walk) (sc := defScope s__law_walk) (by decide +kernel)) (fun _ _ _ _ _ => pg_name (i := 6) sc__law_walk.nd rfl (.inl rfl)) (fun _ _ _ _ _ => pts_one (pt_cmpR op_le (pv 6) (pv 1) (nomark _))) (fun _ _ _ _ _ => (pv 6))) pa_nil)) (fun _ _ => rfl))) (pss_one (ps_expr (pe_bm PySem.F.plainAttrs_list PySem.F.slot_list_append PySem.F.type_list_append mt_append (pv 2) (pa_cons (pe_tup (pa_cons (pv 5) (pa_cons (pe_ix ix_tup (pe_dget hu (pv 0) (pv 5) (fun _ _ => rfl)) pe_int (fun _ _ => rfl)) (pa_cons (pe_ix ix_tup (pe_dget hu (pv 0) (pv 5) (fun _ _ => rfl)) pe_int (fun _ _ => rfl)) (pa_cons (pe_op op_add (pv 3) pe_int) pa_nil))))) pa_nil))))) pss_nil)))) (pss_one (ps_ret (pv 2)))))
theorem ps__law_planned {P : Program} {w : World} {K : PySem.W.Frag} {mg : Str → Option Value} {base : Heap} {C : Addr} (T : Tx K mg C) (c__law_walk : Cal P w K mg base "_law_walk" 1 P__law_walk (sp__law_walk K)) (c_plan : Cal P w K mg base "plan" 11 P_plan (sp_plan K)) {f : Addr} {cdv : Value} {A : Around} {outer : List Env} {s : Shared} {H : Hp} {E : XK}
    (hr : Room 11 (cxOf CX0 P w K mg base N__law_planned "_law_planned" (defScope s__law_planned) f cdv A outer s H E).nox.A) : PSs (cxOf CX0 P w K mg base N__law_planned "_law_planned" (defScope s__law_planned) f cdv A outer s H E).nox (defBody s__law_planned) (t__law_planned K) := by
  have hu := hu_of hr
  have hu64 := hr.units
  have hu0 := hr.units0
  exact (pss_cons (ps_set (i := 2) sc__law_planned.nd rfl (.inl rfl) (pe_cal c__law_walk (hr.mono (by decide)) rfl (pa_cons (pv 0) (pa_cons (pe_ix ix_tup (pv 1) pe_int (fun _ _ => rfl)) pa_nil)))) (pss_cons (ps_set (i := 3) sc__law_planned.nd rfl (.inl rfl) pe_dnewK) (pss_cons (ps_for PassesOwn.never rfl (pi_range1 rfl T.range (pa_cons pe_int pa_nil)) (pg_name (i := 4) sc__law_planned.nd rfl (.inl rfl)) (pss_cons (ps_set (i := 5) sc__law_planned.nd rfl (.inl rfl) (pe_cal c_plan (hr.mono (by decide)) rfl (pa_cons (pv 1) (pa_cons (pe_callTy call_list_of rfl T.list PyProof.Rows.boot_list (pa_cons (pv 2) pa_nil)) (pa_cons (pe_callTy call_dictD rfl T.dict PyProof.Rows.boot_dict (pa_cons (pv 3) pa_nil)) pa_nil))))) (pss_cons (ps_if (pt_cmpR op_ne (pe_ix ix_tup (pv 5) pe_int (fun _ _ => rfl)) pe_str (nomark _)) (pss_one (ps_ret (pv 5))) pss_nil) (pss_cons (ps_set (i := 6) sc__law_planned.nd rfl (.inl rfl) (pe_ix ix_tup (pv 5) pe_int (fun _ _ => rfl))) (pss_one (ps_dput hu (pv 3) (pv 6) (pe_tup (pa_cons (pv 6) (pa_cons (pe_ix ix_tup (pe_dget hu (pv 0) (pv 6) (fun _ _ => rfl)) pe_int (fun _ _ => rfl)) (pa_cons (pe_ix ix_tup (pe_dget hu (pv 0) (pv 6) (fun _ _ => rfl)) pe_int (fun _ _ => rfl)) (pa_cons (pe_op op_add pe_int (pv 4)) pa_nil))))) rfl)))))) (pss_one (ps_ret (pv 5))))))
theorem ps__law_free {P : Program} {w : World} {K : PySem.W.Frag} {mg : Str → Option Value} {base : Heap} {C : Addr} (T : Tx K mg C) {f : Addr} {cdv : Value} {A : Around} {outer : List Env} {s : Shared} {H : Hp} {E : XK}
    (hr : Room 0 (cxOf CX0 P w K mg base N__law_free "_law_free" (defScope s__law_free) f cdv A outer s H E).nox.A) : PSs (cxOf CX0 P w K mg base N__law_free "_law_free" (defScope s__law_free) f cdv A outer s H E).nox (defBody s__law_free) (t__law_free K) := by
  have hu := hu_of hr
  have hu64 := hr.units
  have hu0 := hr.units0
  exact (pss_cons (ps_set (i := 2) sc__law_free.nd rfl (.inl rfl) (pe_lst pa_nil)) (pss_cons (ps_for PassesOwn.never rfl (pi_range2 rfl T.range (pa_cons pe_int (pa_cons pe_int pa_nil))) (pg_name (i := 3) sc__law_free.nd rfl (.inl rfl)) (pss_one (ps_if (PW.pt (pw_and (pt_cmpR op_lt (pe_callB call_len_seq rfl T.len PySem.boot_len (pa_cons (pv 2) pa_nil)) (pv 1) (nomark _)) (pw_and1 (PW.pt (pw_or (pt_cmp (pc_dnotin hu (pv 3) (pv 0))) (pw_or1 (pt_cmpR op_eq (pe_ix ix_tup (pe_ix ix_tup (pe_dget hu (pv 0) (pv 3) (fun _ _ => rfl)) pe_int (fun _ _ => rfl)) pe_int (fun _ _ => rfl)) pe_str (nomark _)))))))) (pss_one (ps_expr (pe_bm PySem.F.plainAttrs_list PySem.F.slot_list_append PySem.F.type_list_append mt_append (pv 2) (pa_cons (pv 3) pa_nil)))) pss_nil))) (pss_one (ps_ret (pv 2)))))
theorem ps__law_applied {P : Program} {w : World} {K : PySem.W.Frag} {mg : Str → Option Value} {base : Heap} {C : Addr} (T : Tx K mg C) (c__law_free : Cal P w K mg base "_law_free" 1 P__law_free (sp__law_free K)) (c_new_pages : Cal P w K mg base "new_pages" 1 P_new_pages (sp_new_pages K)) (c_placed : Cal P w K mg base "placed" 2 P_placed (sp_placed K)) {f : Addr} {cdv : Value} {A : Around} {outer : List Env} {s : Shared} {H : Hp} {E : XK}
    (hr : Room 2 (cxOf CX0 P w K mg base N__law_applied "_law_applied" (defScope s__law_applied) f cdv A outer s H E).nox.A) : PSs (cxOf CX0 P w K mg base N__law_applied "_law_applied" (defScope s__law_applied) f cdv A outer s H E).nox (defBody s__law_applied) (t__law_applied K) := by
  have hu := hu_of hr
  have hu64 := hr.units
  have hu0 := hr.units0
  exact (pss_cons (ps_for PassesOwn.never rfl (pi_list (pv 1)) (pg_tup rfl (pgs_cons (pg_name (i := 2) sc__law_applied.nd rfl (.inl rfl)) (pgs_cons (pg_name (i := 3) sc__law_applied.nd rfl (.inl rfl)) (pgs_cons (pg_name (i := 4) sc__law_applied.nd rfl (.inl rfl)) pgs_nil)))) (pss_one (ps_if (PW.pt (pw_and (pt_cmpR op_ge (pv 2) pe_int (nomark _)) (pw_and1 (PW.pt (pw_or (pt_cmp (pc_dnotin hu (pv 2) (pv 0))) (pw_or1 (pt_cmpR op_ne (pe_ix ix_tup (pe_dget hu (pv 0) (pv 2) (fun _ _ => rfl)) pe_int (fun _ _ => rfl)) (pv 3) (nomark _)))))))) (pss_one (ps_ret pe_non)) pss_nil))) (pss_cons (ps_set (i := 5) sc__law_applied.nd rfl (.inr rfl) (pe_callTy call_dictD rfl T.dict PyProof.Rows.boot_dict (pa_cons (pv 0) pa_nil))) (pss_cons (ps_set (i := 6) sc__law_applied.nd rfl (.inl rfl) (pe_callB (cr_max rfl) rfl T.max bt_max (pa_cons (pe_lock (pe_lc (own := [("_law_page", 2)]) rfl sc__law_applied.nd (pi_keys (pv 5)) (blkOk_by (N := N__law_applied) (sc := defScope s__law_applied) (by decide +kernel)) (fun _ _ _ _ _ => pg_name (i := 2) sc__law_applied.nd rfl (.inl rfl)) (fun _ _ _ _ _ => pts_nil) (fun _ _ _ _ _ => (pe_ix ix_tup (pe_dget hu (pv 5) (pv 2) (fun _ _ => rfl)) pe_int (fun _ _ => rfl))))) pa_nil))) (pss_cons (ps_for PassesOwn.never rfl (pi_list (pe_cal c_placed (hr.mono (by decide)) rfl (pa_cons (pv 1) (pa_cons (pe_cal c__law_free (hr.mono (by decide)) rfl (pa_cons (pv 0) (pa_cons (pe_cal c_new_pages (hr.mono (by decide)) rfl (pa_cons (pv 1) pa_nil)) pa_nil))) pa_nil)))) (pg_tup rfl (pgs_cons (pg_name (i := 2) sc__law_applied.nd rfl (.inl rfl)) (pgs_cons (pg_name (i := 3) sc__law_applied.nd rfl (.inl rfl)) (pgs_cons (pg_name (i := 4) sc__law_applied.nd rfl (.inl rfl)) pgs_nil)))) (pss_cons (ps_set (i := 6) sc__law_applied.nd rfl (.inl rfl) (pe_op op_add (pv 6) pe_int)) (pss_one (ps_dput hu (pv 5) (pv 2) (pe_tup (pa_cons (pv 6) (pa_cons (pv 4) pa_nil))) rfl)))) (pss_one (ps_ret (pv 5)))))))
theorem ps__law_ascending {P : Program} {w : World} {K : PySem.W.Frag} {mg : Str → Option Value} {base : Heap} {C : Addr} (T : Tx K mg C) {f : Addr} {cdv : Value} {A : Around} {outer : List Env} {s : Shared} {H : Hp} {E : XK}
    (hr : Room 0 (cxOf CX0 P w K mg base N__law_ascending "_law_ascending" (defScope s__law_ascending) f cdv A outer s H E).nox.A) : PSs (cxOf CX0 P w K mg base N__law_ascending "_law_ascending" (defScope s__law_ascending) f cdv A outer s H E).nox (defBody s__law_ascending) (t__law_ascending K) := by
  have hu := hu_of hr
  have hu64 := hr.units
  have hu0 := hr.units0
  exact (pss_cons (ps_for PassesOwn.never rfl (pi_range1 rfl T.range (pa_cons (pe_callB call_len_seq rfl T.len PySem.boot_len (pa_cons (pv 0) pa_nil)) pa_nil)) (pg_name (i := 3) sc__law_ascending.nd rfl (.inl rfl)) (pss_cons (ps_if (PW.pt (pw_and (pt_cmpR op_gt (pv 3) pe_int (nomark _)) (pw_and1 (pt_cmpR op_ge (pe_ix ix_tup (pv 0) (pe_op op_sub (pv 3) pe_int) (fun _ _ => rfl)) (pe_ix ix_tup (pv 0) (pv 3) (fun _ _ => rfl)) (nomark _))))) (pss_one (ps_ret pe_bl)) pss_nil) (pss_one (ps_if (PW.pt (pw_or (PW.pt (pw_and (pt_cmpR op_notN (pv 1) pe_non (nomark _)) (pw_and1 (pt_cmpR op_lt (pe_ix ix_tup (pv 0) (pv 3) (fun _ _ => rfl)) (pv 1) (nomark _))))) (pw_or1 (PW.pt (pw_and (pt_cmpR op_notN (pv 2) pe_non (nomark _)) (pw_and1 (pt_cmpR op_ge (pe_ix ix_tup (pv 0) (pv 3) (fun _ _ => rfl)) (pv 2) (nomark _)))))))) (pss_one (ps_ret pe_bl)) pss_nil)))) (pss_one (ps_ret pe_bl)))
theorem ps__law_below {P : Program} {w : World} {K : PySem.W.Frag} {mg : Str → Option Value} {base : Heap} {C : Addr} (T : Tx K mg C) {f : Addr} {cdv : Value} {A : Around} {outer : List Env} {s : Shared} {H : Hp} {E : XK}
    (hr : Room 0 (cxOf CX0 P w K mg base N__law_below "_law_below" (defScope s__law_below) f cdv A outer s H E).nox.A) : PSs (cxOf CX0 P w K mg base N__law_below "_law_below" (defScope s__law_below) f cdv A outer s H E).nox (defBody s__law_below) (t__law_below K) := by
  have hu := hu_of hr
  have hu64 := hr.units
  have hu0 := hr.units0
  exact (pss_cons (ps_set (i := 2) sc__law_below.nd rfl (.inl rfl) (pe_lst pa_nil)) (pss_cons (ps_for PassesOwn.never rfl (pi_range1 rfl T.range (pa_cons (pe_callB call_len_seq rfl T.len PySem.boot_len (pa_cons (pe_ix ix_tup (pv 0) pe_int (fun _ _ => rfl)) pa_nil)) pa_nil)) (pg_name (i := 3) sc__law_below.nd rfl (.inl rfl)) (pss_cons (ps_par (i := 4) (j := 5) rfl sc__law_below.nd rfl rfl (by decide) rfl rfl (pa_cons (pe_ix ix_tup (pv 0) pe_int (fun _ _ => rfl)) (pa_cons (pe_ix ix_tup (pv 0) pe_int (fun _ _ => rfl)) pa_nil)) (by rfl)) (pss_cons (ps_if (pt_cmpR op_gt (pv 3) pe_int (nomark _)) (pss_one (ps_set (i := 4) sc__law_below.nd rfl (.inl rfl) (pe_ix ix_tup (pe_ix ix_tup (pv 0) pe_int (fun _ _ => rfl)) (pe_op op_sub (pv 3) pe_int) (fun _ _ => rfl)))) pss_nil) (pss_cons (ps_if (pt_cmpR op_lt (pv 3) (pe_callB call_len_seq rfl T.len PySem.boot_len (pa_cons (pe_ix ix_tup (pv 0) pe_int (fun _ _ => rfl)) pa_nil)) (nomark _)) (pss_one (ps_set (i := 5) sc__law_below.nd rfl (.inl rfl) (pe_ix ix_tup (pe_ix ix_tup (pv 0) pe_int (fun _ _ => rfl)) (pv 3) (fun _ _ => rfl)))) pss_nil) (pss_one (ps_expr (pe_bm PySem.F.plainAttrs_list PySem.F.slot_list_append PySem.F.type_list_append mt_append (pv 2) (pa_cons (pe_tup (pa_cons (pe_ix ix_tup (pe_ix ix_tup (pv 0) pe_int (fun _ _ => rfl)) (pv 3) (fun _ _ => rfl)) (pa_cons (pv 4) (pa_cons (pv 5) (pa_cons (pe_op op_sub (pv 1) pe_int) pa_nil))))) pa_nil)))))))) (pss_one (ps_ret (pv 2)))))
theorem ps__law_fits {P : Program} {w : World} {K : PySem.W.Frag} {mg : Str → Option Value} {base : Heap} {C : Addr} (T : Tx K mg C) (c__law_ascending : Cal P w K mg base "_law_ascending" 1 P__law_ascending (sp__law_ascending K)) {f : Addr} {cdv : Value} {A : Around} {outer : List Env} {s : Shared} {H : Hp} {E : XK}
    (hr : Room 1 (cxOf CX0 P w K mg base N__law_fits "_law_fits" (defScope s__law_fits) f cdv A outer s H E).nox.A) : PSs (cxOf CX0 P w K mg base N__law_fits "_law_fits" (defScope s__law_fits) f cdv A outer s H E).nox (defBody s__law_fits) (t__law_fits K) := by
  have hu := hu_of hr
  have hu64 := hr.units
  have hu0 := hr.units0
  exact (pss_cons (ps_set (i := 5) sc__law_fits.nd rfl (.inl rfl) (pe_op op_mul pe_int (pe_callTy call_int1 rfl T.int PyProof.Rows.boot_int (pa_cons (pe_cmpR op_ne (pv 0) pe_int (nomark _)) pa_nil)))) (pss_cons (ps_if (PW.pt (pw_and (pt_cmpR op_eq (pe_ix ix_tup (pv 1) pe_int (fun _ _ => rfl)) pe_str (nomark _)) (pw_and1 (pt_cmpR op_eq (pe_callB call_len_seq rfl T.len PySem.boot_len (pa_cons (pv 1) pa_nil)) pe_int (nomark _))))) (pss_cons (ps_if (PW.pt (pw_or (pt_cmpR op_gt (pv 4) pe_int (nomark _)) (pw_or (pt_cmpR (op_neD hu64) (pe_slice sl_tupA (pv 1) (po_some pe_int) (po_some pe_int)) (pe_tup (pa_cons (pv 2) (pa_cons (pv 3) pa_nil))) (nomark _)) (pw_or1 (pt_not (pt_chain op_le op_le (pv 5) (pe_callB call_len_seq rfl T.len PySem.boot_len (pa_cons (pe_ix ix_tup (pv 1) pe_int (fun _ _ => rfl)) pa_nil)) pe_int)))))) (pss_one (ps_ret pe_bl)) pss_nil) (pss_one (ps_ret (pe_and (pe_cmpR op_eq (pe_callB call_len_seq rfl T.len PySem.boot_len (pa_cons (pe_ix ix_tup (pv 1) pe_int (fun _ _ => rfl)) pa_nil)) (pe_callB call_len_seq rfl T.len PySem.boot_len (pa_cons (pe_ix ix_tup (pv 1) pe_int (fun _ _ => rfl)) pa_nil)) (nomark _)) (pe_one (pe_cal c__law_ascending (hr.mono (by decide)) rfl (pa_cons (pe_ix ix_tup (pv 1) pe_int (fun _ _ => rfl)) (pa_cons (pv 2) (pa_cons (pv 3) pa_nil))))))))) pss_nil) (pss_cons (ps_if (PW.pt (pw_or (pt_cmpR op_ne (pe_ix ix_tup (pv 1) pe_int (fun _ _ => rfl)) pe_str (nomark _)) (pw_or (pt_cmpR op_ne (pe_callB call_len_seq rfl T.len PySem.boot_len (pa_cons (pv 1) pa_nil)) pe_int (nomark _)) (pw_or1 (pt_cmpR op_lt (pe_ix ix_tup (pv 1) pe_int (fun _ _ => rfl)) pe_int (nomark _)))))) (pss_one (ps_ret pe_bl)) pss_nil) (pss_cons (ps_if (PW.pt (pw_or (PW.pt (pw_and (pt_cmpR op_ge (pv 4) pe_int (nomark _)) (pw_and1 (pt_cmpR op_ne (pe_ix ix_tup (pv 1) pe_int (fun _ _ => rfl)) (pv 4) (nomark _))))) (pw_or1 (pt_cmpR (op_neD hu64) (pe_slice sl_tupA (pv 1) (po_some pe_int) (po_some pe_int)) (pe_tup (pa_cons (pv 2) (pa_cons (pv 3) pa_nil))) (nomark _))))) (pss_one (ps_ret pe_bl)) pss_nil) (pss_cons (ps_if (PW.pt (pw_or (pt_not (pt_chain op_le op_le pe_int (pe_callB call_len_seq rfl T.len PySem.boot_len (pa_cons (pe_ix ix_tup (pv 1) pe_int (fun _ _ => rfl)) pa_nil)) pe_int)) (pw_or1 (pt_cmpR op_ne (pe_callB call_len_seq rfl T.len PySem.boot_len (pa_cons (pe_ix ix_tup (pv 1) pe_int (fun _ _ => rfl)) pa_nil)) (pe_op op_sub (pe_callB call_len_seq rfl T.len PySem.boot_len (pa_cons (pe_ix ix_tup (pv 1) pe_int (fun _ _ => rfl)) pa_nil)) pe_int) (nomark _))))) (pss_one (ps_ret pe_bl)) pss_nil) (pss_one (ps_ret (pe_and (pe_cal c__law_ascending (hr.mono (by decide)) rfl (pa_cons (pe_ix ix_tup (pv 1) pe_int (fun _ _ => rfl)) (pa_cons (pv 2) (pa_cons (pv 3) pa_nil)))) (pe_one (pe_cmpR op_notIn_seq (pv 2) (pe_ix ix_tup (pv 1) pe_int (fun _ _ => rfl)) (by with_unfolding_all rfl)))))))))))
theorem ps__law_map {P : Program} {w : World} {K : PySem.W.Frag} {mg : Str → Option Value} {base : Heap} {C : Addr} (T : Tx K mg C) (c__law_below : Cal P w K mg base "_law_below" 1 P__law_below (sp__law_below K)) (c__law_fits : Cal P w K mg base "_law_fits" 2 P__law_fits (sp__law_fits K)) {f : Addr} {cdv : Value} {A : Around} {outer : List Env} {s : Shared} {H : Hp} {E : XK}
    (hr : Room 2 (cxOf CX0 P w K mg base N__law_map "_law_map" (defScope s__law_map) f cdv A outer s H E).nox.A) : PSs (cxOf CX0 P w K mg base N__law_map "_law_map" (defScope s__law_map) f cdv A outer s H E).nox (defBody s__law_map) (t__law_map K) := by
  have hu := hu_of hr
  have hu64 := hr.units
  have hu0 := hr.units0
  exact (pss_cons (ps_set (i := 1) sc__law_map.nd rfl (.inl rfl) pe_dnewK) (pss_cons (ps_set (i := 2) sc__law_map.nd rfl (.inl rfl) (pe_lst (pa_cons (pe_tup (pa_cons pe_int (pa_cons pe_non (pa_cons pe_non (pa_cons (pe_un un_neg pe_int) pa_nil))))) pa_nil))) (pss_cons (ps_set (i := 3) sc__law_map.nd rfl (.inl rfl) (pe_lst pa_nil)) (pss_cons (ps_for PassesOwn.never rfl (pi_range1 rfl T.range (pa_cons pe_int pa_nil)) (pg_name (i := 4) sc__law_map.nd rfl (.inl rfl)) (pss_one (ps_if (pt_cmpR op_lt (pv 4) (pe_callB call_len_seq rfl T.len PySem.boot_len (pa_cons (pv 2) pa_nil)) (nomark _)) (pss_cons (ps_asg (pe_ix ix_list (pv 2) (pv 4) (fun _ _ => rfl)) (pg_tup rfl (pgs_cons (pg_name (i := 5) sc__law_map.nd rfl (.inl rfl)) (pgs_cons (pg_name (i := 6) sc__law_map.nd rfl (.inl rfl)) (pgs_cons (pg_name (i := 7) sc__law_map.nd rfl (.inl rfl)) (pgs_cons (pg_name (i := 8) sc__law_map.nd rfl (.inl rfl)) pgs_nil)))))) (pss_cons (ps_if (PW.pt (pw_or (pt_cmpR op_in_seq (pv 5) (pv 3) (by with_unfolding_all rfl)) (pw_or1 (pt_cmp (pc_dnotin hu (pv 5) (pv 0)))))) (pss_one (ps_ret pe_non)) pss_nil) (pss_cons (ps_expr (pe_bm PySem.F.plainAttrs_list PySem.F.slot_list_append PySem.F.type_list_append mt_append (pv 3) (pa_cons (pv 5) pa_nil))) (pss_cons (ps_set (i := 9) sc__law_map.nd rfl (.inl rfl) (pe_ix ix_tup (pe_dget hu (pv 0) (pv 5) (fun _ _ => rfl)) pe_int (fun _ _ => rfl))) (pss_cons (ps_if (pt_not (pt_val (pe_cal c__law_fits (hr.mono (by decide)) rfl (pa_cons (pv 5) (pa_cons (pv 9) (pa_cons (pv 6) (pa_cons (pv 7) (pa_cons (pv 8) pa_nil)))))))) (pss_one (ps_ret pe_non)) pss_nil) (pss_one (ps_if (pt_cmpR op_eq (pe_ix ix_tup (pv 9) pe_int (fun _ _ => rfl)) pe_str (nomark _)) (pss_one (ps_for PassesOwn.never rfl (pi_range1 rfl T.range (pa_cons (pe_callB call_len_seq rfl T.len PySem.boot_len (pa_cons (pe_ix ix_tup (pv 9) pe_int (fun _ _ => rfl)) pa_nil)) pa_nil)) (pg_name (i := 10) sc__law_map.nd rfl (.inl rfl)) (pss_one (ps_dput hu (pv 1) (pe_ix ix_tup (pe_ix ix_tup (pv 9) pe_int (fun _ _ => rfl)) (pv 10) (fun _ _ => rfl)) (pe_ix ix_tup (pe_ix ix_tup (pv 9) pe_int (fun _ _ => rfl)) (pv 10) (fun _ _ => rfl)) rfl)))) (pss_one (ps_set (i := 2) sc__law_map.nd rfl (.inl rfl) (pe_op op_cat (pv 2) (pe_cal c__law_below (hr.mono (by decide)) rfl (pa_cons (pv 9) (pa_cons (pe_ix ix_tup (pv 9) pe_int (fun _ _ => rfl)) pa_nil))))))))))))) pss_nil))) (pss_cons (ps_lock (ps_setLc (i := 11) (own := [("_law_page", 5)]) rfl sc__law_map.nd rfl rfl (sw_true rfl rfl rfl (by decide +kernel)) (pi_keys (pv 0)) (blkOk_by (N := N__law_map) (sc := defScope s__law_map) (by decide +kernel)) (fun _ _ _ _ _ => pg_name (i := 5) sc__law_map.nd rfl (.inl rfl)) (fun _ _ _ _ _ => pts_one (pt_cmpR op_ne (pe_ix ix_tup (pe_ix ix_tup (pe_dget hu (pv 0) (pv 5) (fun _ _ => rfl)) pe_int (fun _ _ => rfl)) pe_int (fun _ _ => rfl)) pe_str (nomark _))) (fun _ _ _ _ _ => (pv 5)))) (pss_cons (ps_if (pt_cmpR (op_neD hu64) (pe_callB cr_sortedI rfl T.sorted PyProof.Rows.boot_sorted (pa_cons (pv 3) pa_nil)) (pe_callB cr_sortedI rfl T.sorted PyProof.Rows.boot_sorted (pa_cons (pv 11) pa_nil)) (nomark _)) (pss_one (ps_ret pe_non)) pss_nil) (pss_one (ps_ret (pv 1)))))))))
theorem ps__law_start {P : Program} {w : World} {K : PySem.W.Frag} {mg : Str → Option Value} {base : Heap} {C : Addr} (T : Tx K mg C) {f : Addr} {cdv : Value} {A : Around} {outer : List Env} {s : Shared} {H : Hp} {E : XK}
    (hr : Room 0 (cxOf CX0 P w K mg base N__law_start "_law_start" (defScope s__law_start) f cdv A outer s H E).nox.A) : PSs (cxOf CX0 P w K mg base N__law_start "_law_start" (defScope s__law_start) f cdv A outer s H E).nox (defBody s__law_start) (t__law_start K) := by
  have hu := hu_of hr
  have hu64 := hr.units
  have hu0 := hr.units0
  exact (pss_one (ps_ret (pe_disp (pps_cons pe_int (pe_tup (pa_cons pe_int (pa_cons (pe_tup (pa_cons pe_str (pa_cons pe_non (pa_cons pe_non (pa_cons (pe_tup pa_nil) (pa_cons (pe_tup pa_nil) pa_nil)))))) pa_nil))) (by exact pps_nil)) (by rfl) (by rfl) (fun z => by cases z) (by decide))))
theorem ps__law_filled {P : Program} {w : World} {K : PySem.W.Frag} {mg : Str → Option Value} {base : Heap} {C : Addr} (T : Tx K mg C) (c__law_applied : Cal P w K mg base "_law_applied" 3 P__law_applied (sp__law_applied K)) (c__law_digits : Cal P w K mg base "_law_digits" 1 P__law_digits (sp__law_digits K)) (c__law_planned : Cal P w K mg base "_law_planned" 12 P__law_planned (sp__law_planned K)) (c__law_start : Cal P w K mg base "_law_start" 1 P__law_start (sp__law_start K)) {f : Addr} {cdv : Value} {A : Around} {outer : List Env} {s : Shared} {H : Hp} {E : XK}
    (hr : Room 12 (cxOf CX0 P w K mg base N__law_filled "_law_filled" (defScope s__law_filled) f cdv A outer s H E).nox.A) : PSs (cxOf CX0 P w K mg base N__law_filled "_law_filled" (defScope s__law_filled) f cdv A outer s H E).nox (defBody s__law_filled) (t__law_filled K) := by
  have hu := hu_of hr
  have hu64 := hr.units
  have hu0 := hr.units0
  exact (pss_cons (ps_set (i := 1) sc__law_filled.nd rfl (.inl rfl) (pe_cal c__law_digits (hr.mono (by decide)) rfl (pa_cons (pv 0) (pa_cons (pe_lst (pa_cons pe_int (pa_cons pe_int (pa_cons pe_int (pa_cons pe_int pa_nil))))) pa_nil)))) (pss_cons (ps_set (i := 2) sc__law_filled.nd rfl (.inl rfl) (pe_cal0 c__law_start (hr.mono (by decide)) rfl)) (pss_cons (ps_set (i := 3) sc__law_filled.nd rfl (.inl rfl) pe_dnewK) (pss_cons (ps_set (i := 4) sc__law_filled.nd rfl (.inl rfl) (pe_op op_mod (pe_ix ix_list (pv 1) pe_int (fun _ _ => rfl)) pe_int)) (pss_cons (ps_if (pt_cmpR op_eq (pe_ix ix_list (pv 1) pe_int (fun _ _ => rfl)) pe_int (nomark _)) (pss_one (ps_set (i := 4) sc__law_filled.nd rfl (.inl rfl) (pe_ix ix_list (pv 1) pe_int (fun _ _ => rfl)))) pss_nil) (pss_cons (ps_for PassesOwn.never rfl (pi_range1 rfl T.range (pa_cons (pv 4) pa_nil)) (pg_name (i := 5) sc__law_filled.nd rfl (.inl rfl)) (pss_cons (ps_set (i := 6) sc__law_filled.nd rfl (.inl rfl) (pe_op op_sub (pe_op op_mul (pe_op op_mod (pe_op op_add (pe_op op_mul (pv 5) (pe_op op_add (pe_op op_mul pe_int (pe_ix ix_list (pv 1) pe_int (fun _ _ => rfl))) pe_int)) (pe_ix ix_list (pv 1) pe_int (fun _ _ => rfl))) pe_int) pe_int) pe_int)) (pss_cons (ps_set (i := 7) sc__law_filled.nd rfl (.inl rfl) (pe_cal c__law_planned (hr.mono (by decide)) rfl (pa_cons (pv 2) (pa_cons (pe_tup (pa_cons pe_str (pa_cons (pv 6) (pa_cons (pv 5) pa_nil)))) pa_nil)))) (pss_cons (ps_if (pt_cmpR op_eq (pe_ix ix_tup (pv 7) pe_int (fun _ _ => rfl)) pe_str (nomark _)) (pss_cons (ps_set (i := 2) sc__law_filled.nd rfl (.inl rfl) (pe_cal c__law_applied (hr.mono (by decide)) rfl (pa_cons (pv 2) (pa_cons (pe_ix ix_tup (pv 7) pe_int (fun _ _ => rfl)) pa_nil)))) (pss_one (ps_if (pt_cmpR op_isN (pv 2) pe_non (nomark _)) (pss_one (ps_ret (pe_tup (pa_cons pe_non (pa_cons (pv 3) pa_nil))))) pss_nil))) pss_nil) (pss_one (ps_dput hu (pv 3) (pv 6) (pv 5) rfl)))))) (pss_one (ps_ret (pe_tup (pa_cons (pv 2) (pa_cons (pv 3) pa_nil)))))))))))
theorem ps__law_fresh {P : Program} {w : World} {K : PySem.W.Frag} {mg : Str → Option Value} {base : Heap} {C : Addr} (T : Tx K mg C) {f : Addr} {cdv : Value} {A : Around} {outer : List Env} {s : Shared} {H : Hp} {E : XK}
    (hr : Room 0 (cxOf CX0 P w K mg base N__law_fresh "_law_fresh" (defScope s__law_fresh) f cdv A outer s H E).nox.A) : PSs (cxOf CX0 P w K mg base N__law_fresh "_law_fresh" (defScope s__law_fresh) f cdv A outer s H E).nox (defBody s__law_fresh) (t__law_fresh K) := by
  have hu := hu_of hr
  have hu64 := hr.units
  have hu0 := hr.units0
  exact (pss_one (ps_ret (pe_lst (pa_cons (pv 0) (pa_cons (pe_lst pa_nil) (pa_cons pe_dnewK (pa_cons pe_non (pa_cons pe_non pa_nil))))))))
theorem ps__law_wrong {P : Program} {w : World} {K : PySem.W.Frag} {mg : Str → Option Value} {base : Heap} {C : Addr} (T : Tx K mg C) (c__law_covers : Cal P w K mg base "_law_covers" 1 P__law_covers (sp__law_covers K)) {f : Addr} {cdv : Value} {A : Around} {outer : List Env} {s : Shared} {H : Hp} {E : XK}
    (hr : Room 1 (cxOf CX0 P w K mg base N__law_wrong "_law_wrong" (defScope s__law_wrong) f cdv A outer s H E).nox.A) : PSs (cxOf CX0 P w K mg base N__law_wrong "_law_wrong" (defScope s__law_wrong) f cdv A outer s H E).nox (defBody s__law_wrong) (t__law_wrong K) := by
  have hu := hu_of hr
  have hu64 := hr.units
  have hu0 := hr.units0
  exact (pss_cons (ps_if (PW.pt (pw_or (pt_cmpR op_eq (pe_ix ix_tup (pv 1) pe_int (fun _ _ => rfl)) pe_str (nomark _)) (pw_or1 (pt_not (pt_val (pe_cal c__law_covers (hr.mono (by decide)) rfl (pa_cons (pv 1) (pa_cons (pv 2) pa_nil)))))))) (pss_one (ps_ret pe_bl)) pss_nil) (pss_cons (ps_set (i := 3) sc__law_wrong.nd rfl (.inl rfl) pe_int) (pss_cons (ps_if (pt_cmpR op_eq (pe_ix ix_tup (pv 1) pe_int (fun _ _ => rfl)) pe_str (nomark _)) (pss_one (ps_set (i := 3) sc__law_wrong.nd rfl (.inl rfl) (pe_ix ix_tup (pv 1) pe_int (fun _ _ => rfl)))) pss_nil) (pss_one (ps_ret (pe_and (pe_cmpR (op_neD hu64) (pv 0) (pe_lst pa_nil) (nomark _)) (pe_one (pe_cmpR op_ne (pv 3) (pe_op op_sub (pe_ix ix_tup (pe_ix ix_tup (pe_ix ix_list (pv 0) (pe_un un_neg pe_int) (fun _ _ => rfl)) pe_int (fun _ _ => rfl)) pe_int (fun _ _ => rfl)) pe_int) (nomark _)))))))))
theorem ps__law_read {P : Program} {w : World} {K : PySem.W.Frag} {mg : Str → Option Value} {base : Heap} {C : Addr} (T : Tx K mg C) (c__law_due : Cal P w K mg base "_law_due" 1 P__law_due (sp__law_due K)) (c__law_fresh : Cal P w K mg base "_law_fresh" 1 P__law_fresh (sp__law_fresh K)) (c__law_wrong : Cal P w K mg base "_law_wrong" 2 P__law_wrong (sp__law_wrong K)) {f : Addr} {cdv : Value} {A : Around} {outer : List Env} {s : Shared} {H : Hp} {E : XK}
    (hr : Room 2 (cxOf CX0 P w K mg base N__law_read "_law_read" (defScope s__law_read) f cdv A outer s H E).nox.A) : PSs (cxOf CX0 P w K mg base N__law_read "_law_read" (defScope s__law_read) f cdv A outer s H E).nox (defBody s__law_read) (t__law_read K) := by
  have hu := hu_of hr
  have hu64 := hr.units
  have hu0 := hr.units0
  exact (pss_cons (ps_set (i := 3) sc__law_read.nd rfl (.inl rfl) (pe_ix ix_list (pv 0) pe_int (fun _ _ => rfl))) (pss_cons (ps_set (i := 4) sc__law_read.nd rfl (.inl rfl) pe_int) (pss_cons (ps_if (pt_cmpR (op_neD hu64) (pv 3) (pe_lst pa_nil) (nomark _)) (pss_cons (ps_set (i := 5) sc__law_read.nd rfl (.inl rfl) (pe_ix ix_tup (pe_ix ix_list (pv 3) (pe_un un_neg pe_int) (fun _ _ => rfl)) pe_int (fun _ _ => rfl))) (pss_one (ps_set (i := 4) sc__law_read.nd rfl (.inl rfl) (pe_ix ix_tup (pe_ix ix_tup (pv 5) pe_int (fun _ _ => rfl)) (pe_callB call_len_seq rfl T.len PySem.boot_len (pa_cons (pe_lc (own := [("_law_one", 6)]) rfl sc__law_read.nd (pi_tup (pe_ix ix_tup (pv 5) pe_int (fun _ _ => rfl))) (blkOk_by (N := N__law_read) (sc := defScope s__law_read) (by decide +kernel)) (fun _ _ _ _ _ => pg_name (i := 6) sc__law_read.nd rfl (.inl rfl)) (fun _ _ _ _ _ => pts_one (pt_cmpR op_le (pv 6) (pe_ix ix_tup (pe_ix ix_list (pv 0) pe_int (fun _ _ => rfl)) pe_int (fun _ _ => rfl)) (nomark _))) (fun _ _ _ _ _ => (pv 6))) pa_nil)) (fun _ _ => rfl))))) pss_nil) (pss_cons (ps_set (i := 7) sc__law_read.nd rfl (.inl rfl) (pe_tup (pa_cons (pv 4) (pa_cons (pe_ix ix_tup (pe_dget hu (pv 1) (pv 4) (fun _ _ => rfl)) pe_int (fun _ _ => rfl)) (pa_cons (pe_ix ix_tup (pe_dget hu (pv 1) (pv 4) (fun _ _ => rfl)) pe_int (fun _ _ => rfl)) (pa_cons pe_int pa_nil)))))) (pss_cons (ps_if (pt_val (pe_cal c__law_wrong (hr.mono (by decide)) rfl (pa_cons (pv 3) (pa_cons (pe_ix ix_tup (pv 7) pe_int (fun _ _ => rfl)) (pa_cons (pe_ix ix_tup (pe_ix ix_list (pv 0) pe_int (fun _ _ => rfl)) pe_int (fun _ _ => rfl)) pa_nil))))) (pss_one (ps_ret (pe_cal c__law_fresh (hr.mono (by decide)) rfl (pa_cons (pe_ix ix_list (pv 0) pe_int (fun _ _ => rfl)) pa_nil)))) pss_nil) (pss_cons (ps_set (i := 8) sc__law_read.nd rfl (.inl rfl) pe_non) (pss_cons (ps_if (pt_cmpR op_eq (pe_ix ix_tup (pe_ix ix_tup (pv 7) pe_int (fun _ _ => rfl)) pe_int (fun _ _ => rfl)) pe_str (nomark _)) (pss_one (ps_set (i := 8) sc__law_read.nd rfl (.inl rfl) (pe_ix ix_tup (pe_cal c__law_due (hr.mono (by decide)) rfl (pa_cons (pv 2) (pa_cons (pe_ix ix_list (pv 0) pe_int (fun _ _ => rfl)) pa_nil))) pe_int (fun _ _ => rfl)))) pss_nil) (pss_one (ps_ret (pe_lst (pa_cons (pe_ix ix_list (pv 0) pe_int (fun _ _ => rfl)) (pa_cons (pe_op op_cat (pv 3) (pe_lst (pa_cons (pv 7) pa_nil))) (pa_cons pe_dnewK (pa_cons (pv 8) (pa_cons pe_non pa_nil)))))))))))))))
theorem ps__law_beside {P : Program} {w : World} {K : PySem.W.Frag} {mg : Str → Option Value} {base : Heap} {C : Addr} (T : Tx K mg C) {f : Addr} {cdv : Value} {A : Around} {outer : List Env} {s : Shared} {H : Hp} {E : XK}
    (hr : Room 0 (cxOf CX0 P w K mg base N__law_beside "_law_beside" (defScope s__law_beside) f cdv A outer s H E).nox.A) : PSs (cxOf CX0 P w K mg base N__law_beside "_law_beside" (defScope s__law_beside) f cdv A outer s H E).nox (defBody s__law_beside) (t__law_beside K) := by
  have hu := hu_of hr
  have hu64 := hr.units
  have hu0 := hr.units0
  exact (pss_cons (ps_set (i := 3) sc__law_beside.nd rfl (.inl rfl) (pe_callTy call_dictD rfl T.dict PyProof.Rows.boot_dict (pa_cons (pe_ix ix_list (pv 0) pe_int (fun _ _ => rfl)) pa_nil))) (pss_cons (ps_set (i := 4) sc__law_beside.nd rfl (.inl rfl) (pe_tup (pa_cons pe_str (pa_cons pe_int pa_nil)))) (pss_cons (ps_set (i := 5) sc__law_beside.nd rfl (.inl rfl) (pe_un un_neg pe_int)) (pss_cons (ps_if (pt_cmp (pc_din hu (pv 2) (pv 1))) (pss_one (ps_asg (pe_dget hu (pv 1) (pv 2) (fun _ _ => rfl)) (pg_tup rfl (pgs_cons (pg_name (i := 5) sc__law_beside.nd rfl (.inl rfl)) (pgs_cons (pg_name (i := 4) sc__law_beside.nd rfl (.inl rfl)) pgs_nil))))) pss_nil) (pss_cons (ps_dput hu (pv 3) (pv 2) (pe_tup (pa_cons (pv 2) (pa_cons (pv 5) (pa_cons (pv 4) (pa_cons pe_int pa_nil))))) rfl) (pss_one (ps_ret (pe_lst (pa_cons (pe_ix ix_list (pv 0) pe_int (fun _ _ => rfl)) (pa_cons (pe_ix ix_list (pv 0) pe_int (fun _ _ => rfl)) (pa_cons (pv 3) (pa_cons (pe_ix ix_list (pv 0) pe_int (fun _ _ => rfl)) (pa_cons pe_non pa_nil)))))))))))))
theorem ps__law_turn {P : Program} {w : World} {K : PySem.W.Frag} {mg : Str → Option Value} {base : Heap} {C : Addr} (T : Tx K mg C) (c__law_applied : Cal P w K mg base "_law_applied" 3 P__law_applied (sp__law_applied K)) (c__law_beside : Cal P w K mg base "_law_beside" 1 P__law_beside (sp__law_beside K)) (c__law_due : Cal P w K mg base "_law_due" 1 P__law_due (sp__law_due K)) (c__law_fresh : Cal P w K mg base "_law_fresh" 1 P__law_fresh (sp__law_fresh K)) (c__law_map : Cal P w K mg base "_law_map" 3 P__law_map (sp__law_map K)) (c__law_read : Cal P w K mg base "_law_read" 3 P__law_read (sp__law_read K)) (c_plan : Cal P w K mg base "plan" 11 P_plan (sp_plan K)) {f : Addr} {cdv : Value} {A : Around} {outer : List Env} {s : Shared} {H : Hp} {E : XK}
    (hr : Room 11 (cxOf CX0 P w K mg base N__law_turn "_law_turn" (defScope s__law_turn) f cdv A outer s H E).nox.A) : PSs (cxOf CX0 P w K mg base N__law_turn "_law_turn" (defScope s__law_turn) f cdv A outer s H E).nox (defBody s__law_turn) (t__law_turn K) := by
  have hu := hu_of hr
  have hu64 := hr.units
  have hu0 := hr.units0
  exact (pss_cons (ps_set (i := 3) sc__law_turn.nd rfl (.inl rfl) (pe_ix ix_list (pv 0) pe_int (fun _ _ => rfl))) (pss_cons (ps_if (PW.pt (pw_or (pt_cmpR (op_eqD hu64) (pv 3) (pe_lst pa_nil) (nomark _)) (pw_or1 (pt_cmpR op_ne (pe_ix ix_tup (pe_ix ix_tup (pe_ix ix_list (pv 3) (pe_un un_neg pe_int) (fun _ _ => rfl)) pe_int (fun _ _ => rfl)) pe_int (fun _ _ => rfl)) pe_str (nomark _))))) (pss_one (ps_ret (pe_tup (pa_cons (pe_cal c__law_read (hr.mono (by decide)) rfl (pa_cons (pv 0) (pa_cons (pv 1) (pa_cons (pv 2) pa_nil)))) (pa_cons (pv 1) (pa_cons (pv 2) (pa_cons pe_bl pa_nil))))))) pss_nil) (pss_cons (ps_set (i := 4) sc__law_turn.nd rfl (.inl rfl) (pe_cal c_plan (hr.mono (by decide)) rfl (pa_cons (pe_ix ix_list (pv 0) pe_int (fun _ _ => rfl)) (pa_cons (pe_callTy call_list_of rfl T.list PyProof.Rows.boot_list (pa_cons (pv 3) pa_nil)) (pa_cons (pe_callTy call_dictD rfl T.dict PyProof.Rows.boot_dict (pa_cons (pe_ix ix_list (pv 0) pe_int (fun _ _ => rfl)) pa_nil)) pa_nil))))) (pss_cons (ps_if (pt_cmpR op_eq (pe_ix ix_tup (pv 4) pe_int (fun _ _ => rfl)) pe_str (nomark _)) (pss_one (ps_ret (pe_tup (pa_cons (pe_cal c__law_beside (hr.mono (by decide)) rfl (pa_cons (pv 0) (pa_cons (pv 1) (pa_cons (pe_ix ix_tup (pv 4) pe_int (fun _ _ => rfl)) pa_nil)))) (pa_cons (pv 1) (pa_cons (pv 2) (pa_cons pe_bl pa_nil))))))) pss_nil) (pss_cons (ps_if (pt_cmpR op_eq (pe_ix ix_tup (pv 4) pe_int (fun _ _ => rfl)) pe_str (nomark _)) (pss_one (ps_ret (pe_tup (pa_cons pe_non (pa_cons (pv 1) (pa_cons (pv 2) (pa_cons (pe_cmpR op_eq (pe_ix ix_tup (pv 4) pe_int (fun _ _ => rfl)) (pe_ix ix_list (pv 0) pe_int (fun _ _ => rfl)) (nomark _)) pa_nil))))))) pss_nil) (pss_cons (ps_if (pt_cmpR op_eq (pe_ix ix_tup (pv 4) pe_int (fun _ _ => rfl)) pe_str (nomark _)) (pss_one (ps_ret (pe_tup (pa_cons (pe_cal c__law_fresh (hr.mono (by decide)) rfl (pa_cons (pe_ix ix_list (pv 0) pe_int (fun _ _ => rfl)) pa_nil)) (pa_cons (pv 1) (pa_cons (pv 2) (pa_cons pe_bl pa_nil))))))) pss_nil) (pss_cons (ps_set (i := 5) sc__law_turn.nd rfl (.inl rfl) (pe_cal c__law_applied (hr.mono (by decide)) rfl (pa_cons (pv 1) (pa_cons (pe_ix ix_tup (pv 4) pe_int (fun _ _ => rfl)) pa_nil)))) (pss_cons (ps_if (pt_cmpR op_isN (pv 5) pe_non (nomark _)) (pss_one (ps_ret (pe_tup (pa_cons (pe_cal c__law_fresh (hr.mono (by decide)) rfl (pa_cons (pe_ix ix_list (pv 0) pe_int (fun _ _ => rfl)) pa_nil)) (pa_cons (pv 1) (pa_cons (pv 2) (pa_cons pe_bl pa_nil))))))) pss_nil) (pss_cons (ps_asg (pe_cal c__law_due (hr.mono (by decide)) rfl (pa_cons (pv 2) (pa_cons (pe_ix ix_list (pv 0) pe_int (fun _ _ => rfl)) pa_nil))) (pg_tup rfl (pgs_cons (pg_name (i := 6) sc__law_turn.nd rfl (.inl rfl)) (pgs_cons (pg_name (i := 2) sc__law_turn.nd rfl (.inl rfl)) pgs_nil)))) (pss_one (ps_ret (pe_tup (pa_cons pe_non (pa_cons (pv 5) (pa_cons (pv 2) (pa_cons (pe_and (pe_cmpR op_eq (pe_ix ix_tup (pv 4) pe_int (fun _ _ => rfl)) (pv 6) (nomark _)) (pe_one (pe_cmpR (op_eq_dictA hu0) (pe_cal c__law_map (hr.mono (by decide)) rfl (pa_cons (pv 5) pa_nil)) (pv 2) (nomark _)))) pa_nil))))))))))))))))
theorem ps_law {P : Program} {w : World} {K : PySem.W.Frag} {mg : Str → Option Value} {base : Heap} {C : Addr} (T : Tx K mg C) (c__law_call : Cal P w K mg base "_law_call" 2 P__law_call (sp__law_call K)) (c__law_cell : Cal P w K mg base "_law_cell" 1 P__law_cell (sp__law_cell K)) (c__law_filled : Cal P w K mg base "_law_filled" 13 P__law_filled (sp__law_filled K)) (c__law_fresh : Cal P w K mg base "_law_fresh" 1 P__law_fresh (sp__law_fresh K)) (c__law_many : Cal P w K mg base "_law_many" 1 P__law_many (sp__law_many K)) (c__law_map : Cal P w K mg base "_law_map" 3 P__law_map (sp__law_map K)) (c__law_turn : Cal P w K mg base "_law_turn" 12 P__law_turn (sp__law_turn K)) {f : Addr} {cdv : Value} {A : Around} {outer : List Env} {s : Shared} {H : Hp} {E : XK}
    (hr : Room 13 (cxOf CX0 P w K mg base N_law "law" (defScope s_law) f cdv A outer s H E).nox.A) : PSs (cxOf CX0 P w K mg base N_law "law" (defScope s_law) f cdv A outer s H E).nox (defBody s_law) (t_law K) := by
  have hu := hu_of hr
  have hu64 := hr.units
  have hu0 := hr.units0
  exact (pss_cons (ps_asg (pe_cal c__law_filled (hr.mono (by decide)) rfl (pa_cons (pe_cal c__law_cell (hr.mono (by decide)) rfl (pa_cons (pv 0) (pa_cons pe_int pa_nil))) pa_nil)) (pg_tup rfl (pgs_cons (pg_name (i := 1) sc_law.nd rfl (.inl rfl)) (pgs_cons (pg_name (i := 2) sc_law.nd rfl (.inr rfl)) pgs_nil)))) (pss_cons (ps_if (pt_cmpR op_isN (pv 1) pe_non (nomark _)) (pss_one (ps_ret pe_bl)) pss_nil) (pss_cons (ps_set (i := 3) sc_law.nd rfl (.inr rfl) (pe_ix ix_list (pe_lst (pa_cons pe_int (pa_cons pe_int (pa_cons pe_int (pa_cons pe_int pa_nil))))) (pe_op op_mod (pe_op op_fdiv (pe_callTy call_int1 rfl T.int PyProof.Rows.boot_int (pa_cons (pe_cal c__law_cell (hr.mono (by decide)) rfl (pa_cons (pv 0) (pa_cons pe_int pa_nil))) pa_nil)) pe_int) pe_int) (fun _ _ => rfl))) (pss_cons (ps_setLc (i := 4) (own := [("_law_n", 5)]) rfl sc_law.nd rfl rfl (sw_true rfl rfl rfl (by decide +kernel)) (pi_range1 rfl T.range (pa_cons pe_int pa_nil)) (blkOk_by (N := N_law) (sc := defScope s_law) (by decide +kernel)) (fun _ _ _ _ _ => pg_name (i := 5) sc_law.nd rfl (.inl rfl)) (fun _ _ _ _ _ => pts_nil) (fun _ _ _ _ _ => (pe_cal c__law_fresh (hr.mono (by decide)) rfl (pa_cons (pe_cal c__law_call (hr.mono (by decide)) rfl (pa_cons (pe_op op_add (pe_cal c__law_cell (hr.mono (by decide)) rfl (pa_cons (pv 0) (pa_cons (pv 5) pa_nil))) (pe_op op_mul pe_int (pv 5))) (pa_cons (pv 3) (pa_cons (pv 2) pa_nil)))) pa_nil)))) (pss_cons (ps_for PassesOwn.never rfl (pi_range1 rfl T.range (pa_cons (pe_callB (call_min2 rfl) rfl T.min bt_min (pa_cons (pe_callB call_len_seq rfl T.len PySem.boot_len (pa_cons (pv 0) pa_nil)) (pa_cons (pe_cal c__law_many (hr.mono (by decide)) rfl (pa_cons (pv 0) (pa_cons pe_int (pa_cons pe_int pa_nil)))) pa_nil))) pa_nil)) (pg_name (i := 6) sc_law.nd rfl (.inl rfl)) (pss_cons (ps_set (i := 7) sc_law.nd rfl (.inl rfl) (pe_callTy call_int1 rfl T.int PyProof.Rows.boot_int (pa_cons (pe_cal c__law_cell (hr.mono (by decide)) rfl (pa_cons (pv 0) (pa_cons (pv 6) pa_nil))) pa_nil))) (pss_one (ps_for PassesOwn.never rfl (pi_range1 rfl T.range (pa_cons (pe_op op_add pe_int (pe_op op_mod (pe_op op_fdiv (pv 7) pe_int) pe_int)) pa_nil)) (pg_name (i := 8) sc_law.nd rfl (.inl rfl)) (pss_cons (ps_set (i := 9) sc_law.nd rfl (.inl rfl) (pe_op op_mod (pe_op op_add (pv 7) (pe_op op_mul (pv 8) (pe_op op_mod (pe_op op_fdiv (pv 7) pe_int) pe_int))) pe_int)) (pss_cons (ps_asg (pe_cal c__law_turn (hr.mono (by decide)) rfl (pa_cons (pe_ix ix_list (pv 4) (pv 9) (fun _ _ => rfl)) (pa_cons (pv 1) (pa_cons (pv 2) pa_nil)))) (pg_tup rfl (pgs_cons (pg_name (i := 10) sc_law.nd rfl (.inl rfl)) (pgs_cons (pg_name (i := 1) sc_law.nd rfl (.inl rfl)) (pgs_cons (pg_name (i := 2) sc_law.nd rfl (.inr rfl)) (pgs_cons (pg_name (i := 11) sc_law.nd rfl (.inl rfl)) pgs_nil)))))) (pss_cons (ps_if (pt_not (pt_val (pv 11))) (pss_one (ps_ret pe_bl)) pss_nil) (pss_cons (ps_if (pt_cmpR op_isN (pv 10) pe_non (nomark _)) (pss_one (ps_set (i := 10) sc_law.nd rfl (.inl rfl) (pe_cal c__law_fresh (hr.mono (by decide)) rfl (pa_cons (pe_cal c__law_call (hr.mono (by decide)) rfl (pa_cons (pe_op op_add (pe_op op_add (pe_op op_fdiv (pv 7) pe_int) (pe_op op_mul pe_int (pv 6))) (pv 8)) (pa_cons (pv 3) (pa_cons (pv 2) pa_nil)))) pa_nil)))) pss_nil) (pss_one (ps_asg (pv 10) (pg_sub (pv 4) (pv 9) set_list))))))))))) (pss_one (ps_ret (pe_cmpR (op_eq_dictA hu0) (pe_cal c__law_map (hr.mono (by decide)) rfl (pa_cons (pv 1) pa_nil)) (pv 2) (nomark _)))))))))
end Esp

namespace Esp
open PySem L2 PyProof.Rows PySem.Spec
def spLaw (K : PySem.W.Frag) : Sp := fun args hp Q _ => ∃ (script : Addr) (ns : List Int), args = [.ref script] ∧ SqL K hp script (ns.map V.int) ∧ ns.length ≤ 63 ∧ ∀ hp', Q (.bl true) hp'
theorem fin (facts : ∀ {P : Program} {w : World} {K : PySem.W.Frag} {h : Heap} {mg : Str → Option Value} {f : Addr} (X : K.In h) (G : h.Ns mainGlobals mg) (hfa : mg ("law" : Str) = some (.ref f)) (c : He.SaysD fa fn K),
    ∃ fd : FuncData, (∀ (s : Shared) (v : Value), BindsTo s fd ⟨[v], []⟩ [("_law_script", v)]) ∧ ∀ base : Heap, K.In base → base.Ns mainGlobals mg → FnOk P w K mg base CX0 20 f fd ["_law_script"] (spLaw K)) :
  PySem.Challenge.rw_espalier_k33_whole_plans_of_old_paths.Holds := by
  open PySem PySem.W PySem.Calls PyProof.Rows in
  w_on; o_law
  refine HandSHeadRun.head_any (r := R) (q := view R.prog [62]) (H := hk) (ob := ob) (M := 6000) (loose := loose) (d := HandSHeadRun.topDef R.prog 62) (kwd := []) ob_eq
    (by kernel_rfl) (fun s => by kernel_rfl) run (by kernel_rfl) (by kernel_rfl) (by kernel_rfl) (by rfl) (by first | assumption | decide +kernel) (by decide +kernel) ⟨rfl, rfl, rfl, rfl, rfl, by decide +kernel⟩ ?hw ?hc
  case hw => w_witness2
  case hc =>
    refine L2.walk_ofE (l := PySem.Challenge.rw_espalier_k33_whole_plans_of_old_paths) (n := 63) (k := 20) (x := "_law_script") (CX := L2.CX0) rfl (by decide) (by kernel_rfl) ⟨rfl, by decide, by decide⟩ ?F (fun _ _ _ _ z => z)
    intro w mg fa h Y G hmg0
    obtain ⟨K, KX, c⟩ := Y
    have lawAt : mg ("law" : PySem.Str) = some (.ref fa) := by
      have e : (HandSHeadRun.topDef R.prog 62).name = ("law" : PySem.Str) := by kernel_rfl
      rw [← e]
      exact hmg0
    obtain ⟨fd, hb, hF⟩ := facts (P := R.prog) (w := w) KX G lawAt c
    exact ⟨K, fd, spLaw K, KX, hb, fun H a ns hl _ hS => ⟨a, ns, rfl, hS, hl, fun _ => rfl⟩, hF⟩
end Esp

/-! Printed by asm.py: what each def does, the law. -/
namespace Esp
open PySem L2 PyProof.Rows PySem.Spec
section
variable {P : Program} {w : World} {K : PySem.W.Frag} {mg : Str → Option Value} {base h : Heap}
theorem tx_ok (X : K.In h) (G : h.Ns mainGlobals mg) (c : He.SaysD fa fn K) : Tx K mg (He.ga K "Draft") :=
  ⟨He.free_ok X G (c.fact 54 (f := .free "isinstance")), He.free_ok X G (c.fact 55 (f := .free "int")), He.free_ok X G (c.fact 56 (f := .free "bool")), He.free_ok X G (c.fact 57 (f := .free "tuple")), He.free_ok X G (c.fact 58 (f := .free "all")), He.free_ok X G (c.fact 59 (f := .free "range")), He.free_ok X G (c.fact 60 (f := .free "len")), He.free_ok X G (c.fact 61 (f := .free "sorted")), He.free_ok X G (c.fact 62 (f := .free "max")), He.free_ok X G (c.fact 63 (f := .free "dict")), He.free_ok X G (c.fact 64 (f := .free "list")), He.free_ok X G (c.fact 65 (f := .free "min")), He.int_ok X G (c.fact 66 (f := .int "LEAF_MOST" 4)), He.int_ok X G (c.fact 67 (f := .int "INNER_MOST" 5)), He.int_ok X G (c.fact 68 (f := .int "LEAST" 2)), He.cls_ok (c.fact 69 (f := .cls "Draft")), He.glo_ok X G (c.fact 53 (f := .glo "Draft")), He.noat_ok (c.fact 70 (f := .noat "Draft" "path")), He.noat_ok (c.fact 71 (f := .noat "Draft" "siblings")), He.noat_ok (c.fact 72 (f := .noat "Draft" "records")), He.noat_ok (c.fact 73 (f := .noat "Draft" "addresses")), He.noat_ok (c.fact 74 (f := .noat "Draft" "fresh"))⟩
theorem k_is_integer (T : Tx K mg (He.ga K "Draft")) (X : K.In h) (G : h.Ns mainGlobals mg) (c : He.SaysD fa fn K) : Cal P w K mg base "is_integer" 1 P_is_integer (sp_is_integer K) := by
  obtain ⟨fd, F⟩ := c.def_ 0 (d := d_is_integer)
  have F : FunD K "is_integer" "is_integer" (defArgs s_is_integer) (defBody s_is_integer) (defScope s_is_integer) [] [] (He.ga K "is_integer") fd := F
  exact ⟨_, fd, He.glo_ok X G (c.fact 0 (f := .glo "is_integer")), F.kp, F.bindsN (fun kV doc pm an cdv ct us hl => by match us, hl with | [u0], _ => rfl), fn_D (C := He.ga K "Draft") F sc_is_integer (fun z _ => rfl) fun cdv A outer s H E z hr hd => ⟨_, ps_is_integer T hr, fun B => do_is_integer z⟩⟩
theorem k_is_bound (T : Tx K mg (He.ga K "Draft")) (X : K.In h) (G : h.Ns mainGlobals mg) (c : He.SaysD fa fn K) (c_is_integer : Cal P w K mg base "is_integer" 1 P_is_integer (sp_is_integer K)) : Cal P w K mg base "is_bound" 2 P_is_bound (sp_is_bound K) := by
  obtain ⟨fd, F⟩ := c.def_ 1 (d := d_is_bound)
  have F : FunD K "is_bound" "is_bound" (defArgs s_is_bound) (defBody s_is_bound) (defScope s_is_bound) [] [] (He.ga K "is_bound") fd := F
  exact ⟨_, fd, He.glo_ok X G (c.fact 1 (f := .glo "is_bound")), F.kp, F.bindsN (fun kV doc pm an cdv ct us hl => by match us, hl with | [u0], _ => rfl), fn_D (C := He.ga K "Draft") F sc_is_bound (fun z _ => rfl) fun cdv A outer s H E z hr hd => ⟨_, ps_is_bound T c_is_integer hr, fun B => do_is_bound z⟩⟩
theorem k_are_integers (T : Tx K mg (He.ga K "Draft")) (X : K.In h) (G : h.Ns mainGlobals mg) (c : He.SaysD fa fn K) (c_is_integer : Cal P w K mg base "is_integer" 1 P_is_integer (sp_is_integer K)) : Cal P w K mg base "are_integers" 2 P_are_integers (sp_are_integers K) := by
  obtain ⟨fd, F⟩ := c.def_ 2 (d := d_are_integers)
  have F : FunD K "are_integers" "are_integers" (defArgs s_are_integers) (defBody s_are_integers) (defScope s_are_integers) [] [] (He.ga K "are_integers") fd := F
  exact ⟨_, fd, He.glo_ok X G (c.fact 2 (f := .glo "are_integers")), F.kp, F.bindsN (fun kV doc pm an cdv ct us hl => by match us, hl with | [u0], _ => rfl), fn_D (C := He.ga K "Draft") F sc_are_integers (fun z _ => rfl) fun cdv A outer s H E z hr hd => ⟨_, ps_are_integers T c_is_integer hr, fun B => do_are_integers z hd⟩⟩
theorem k_are_ascending (T : Tx K mg (He.ga K "Draft")) (X : K.In h) (G : h.Ns mainGlobals mg) (c : He.SaysD fa fn K) : Cal P w K mg base "are_ascending" 1 P_are_ascending (sp_are_ascending K) := by
  obtain ⟨fd, F⟩ := c.def_ 3 (d := d_are_ascending)
  have F : FunD K "are_ascending" "are_ascending" (defArgs s_are_ascending) (defBody s_are_ascending) (defScope s_are_ascending) [] [] (He.ga K "are_ascending") fd := F
  exact ⟨_, fd, He.glo_ok X G (c.fact 3 (f := .glo "are_ascending")), F.kp, F.bindsN (fun kV doc pm an cdv ct us hl => by match us, hl with | [u0], _ => rfl), fn_D (C := He.ga K "Draft") F sc_are_ascending (fun z _ => rfl) fun cdv A outer s H E z hr hd => ⟨_, ps_are_ascending T hr, fun B => do_are_ascending z hd⟩⟩
theorem k_is_above (T : Tx K mg (He.ga K "Draft")) (X : K.In h) (G : h.Ns mainGlobals mg) (c : He.SaysD fa fn K) : Cal P w K mg base "is_above" 1 P_is_above (sp_is_above K) := by
  obtain ⟨fd, F⟩ := c.def_ 4 (d := d_is_above)
  have F : FunD K "is_above" "is_above" (defArgs s_is_above) (defBody s_is_above) (defScope s_is_above) [] [] (He.ga K "is_above") fd := F
  exact ⟨_, fd, He.glo_ok X G (c.fact 4 (f := .glo "is_above")), F.kp, F.bindsN (fun kV doc pm an cdv ct us hl => by match us, hl with | [u0, u1], _ => rfl), fn_D (C := He.ga K "Draft") F sc_is_above (fun z _ => rfl) fun cdv A outer s H E z hr hd => ⟨_, ps_is_above T hr, fun B => do_is_above z⟩⟩
theorem k_is_below (T : Tx K mg (He.ga K "Draft")) (X : K.In h) (G : h.Ns mainGlobals mg) (c : He.SaysD fa fn K) : Cal P w K mg base "is_below" 1 P_is_below (sp_is_below K) := by
  obtain ⟨fd, F⟩ := c.def_ 5 (d := d_is_below)
  have F : FunD K "is_below" "is_below" (defArgs s_is_below) (defBody s_is_below) (defScope s_is_below) [] [] (He.ga K "is_below") fd := F
  exact ⟨_, fd, He.glo_ok X G (c.fact 5 (f := .glo "is_below")), F.kp, F.bindsN (fun kV doc pm an cdv ct us hl => by match us, hl with | [u0, u1], _ => rfl), fn_D (C := He.ga K "Draft") F sc_is_below (fun z _ => rfl) fun cdv A outer s H E z hr hd => ⟨_, ps_is_below T hr, fun B => do_is_below z⟩⟩
theorem k_is_leaf (T : Tx K mg (He.ga K "Draft")) (X : K.In h) (G : h.Ns mainGlobals mg) (c : He.SaysD fa fn K) (c_are_ascending : Cal P w K mg base "are_ascending" 1 P_are_ascending (sp_are_ascending K)) (c_are_integers : Cal P w K mg base "are_integers" 2 P_are_integers (sp_are_integers K)) (c_is_above : Cal P w K mg base "is_above" 1 P_is_above (sp_is_above K)) (c_is_below : Cal P w K mg base "is_below" 1 P_is_below (sp_is_below K)) (c_is_bound : Cal P w K mg base "is_bound" 2 P_is_bound (sp_is_bound K)) : Cal P w K mg base "is_leaf" 3 P_is_leaf (sp_is_leaf K) := by
  obtain ⟨fd, F⟩ := c.def_ 6 (d := d_is_leaf)
  have F : FunD K "is_leaf" "is_leaf" (defArgs s_is_leaf) (defBody s_is_leaf) (defScope s_is_leaf) [] [] (He.ga K "is_leaf") fd := F
  exact ⟨_, fd, He.glo_ok X G (c.fact 6 (f := .glo "is_leaf")), F.kp, F.bindsN (fun kV doc pm an cdv ct us hl => by match us, hl with | [u0], _ => rfl), fn_D (C := He.ga K "Draft") F sc_is_leaf (fun z _ => rfl) fun cdv A outer s H E z hr hd => ⟨_, ps_is_leaf T c_are_ascending c_are_integers c_is_above c_is_below c_is_bound hr, fun B => do_is_leaf z hd⟩⟩
theorem k_is_inner (T : Tx K mg (He.ga K "Draft")) (X : K.In h) (G : h.Ns mainGlobals mg) (c : He.SaysD fa fn K) (c_are_ascending : Cal P w K mg base "are_ascending" 1 P_are_ascending (sp_are_ascending K)) (c_are_integers : Cal P w K mg base "are_integers" 2 P_are_integers (sp_are_integers K)) (c_is_below : Cal P w K mg base "is_below" 1 P_is_below (sp_is_below K)) (c_is_bound : Cal P w K mg base "is_bound" 2 P_is_bound (sp_is_bound K)) (c_is_integer : Cal P w K mg base "is_integer" 1 P_is_integer (sp_is_integer K)) : Cal P w K mg base "is_inner" 3 P_is_inner (sp_is_inner K) := by
  obtain ⟨fd, F⟩ := c.def_ 7 (d := d_is_inner)
  have F : FunD K "is_inner" "is_inner" (defArgs s_is_inner) (defBody s_is_inner) (defScope s_is_inner) [] [] (He.ga K "is_inner") fd := F
  exact ⟨_, fd, He.glo_ok X G (c.fact 7 (f := .glo "is_inner")), F.kp, F.bindsN (fun kV doc pm an cdv ct us hl => by match us, hl with | [u0], _ => rfl), fn_D (C := He.ga K "Draft") F sc_is_inner (fun z _ => rfl) fun cdv A outer s H E z hr hd => ⟨_, ps_is_inner T c_are_ascending c_are_integers c_is_below c_is_bound c_is_integer hr, fun B => do_is_inner z hd⟩⟩
theorem k_is_record (T : Tx K mg (He.ga K "Draft")) (X : K.In h) (G : h.Ns mainGlobals mg) (c : He.SaysD fa fn K) (c_is_inner : Cal P w K mg base "is_inner" 3 P_is_inner (sp_is_inner K)) (c_is_integer : Cal P w K mg base "is_integer" 1 P_is_integer (sp_is_integer K)) (c_is_leaf : Cal P w K mg base "is_leaf" 3 P_is_leaf (sp_is_leaf K)) : Cal P w K mg base "is_record" 4 P_is_record (sp_is_record K) := by
  obtain ⟨fd, F⟩ := c.def_ 8 (d := d_is_record)
  have F : FunD K "is_record" "is_record" (defArgs s_is_record) (defBody s_is_record) (defScope s_is_record) [] [] (He.ga K "is_record") fd := F
  exact ⟨_, fd, He.glo_ok X G (c.fact 8 (f := .glo "is_record")), F.kp, F.bindsN (fun kV doc pm an cdv ct us hl => by match us, hl with | [u0], _ => rfl), fn_D (C := He.ga K "Draft") F sc_is_record (fun z _ => rfl) fun cdv A outer s H E z hr hd => ⟨_, ps_is_record T c_is_inner c_is_integer c_is_leaf hr, fun B => do_is_record z hd⟩⟩
theorem k_checked (T : Tx K mg (He.ga K "Draft")) (X : K.In h) (G : h.Ns mainGlobals mg) (c : He.SaysD fa fn K) (c_is_record : Cal P w K mg base "is_record" 4 P_is_record (sp_is_record K)) : Cal P w K mg base "checked" 5 P_checked (sp_checked K) := by
  obtain ⟨fd, F⟩ := c.def_ 9 (d := d_checked)
  have F : FunD K "checked" "checked" (defArgs s_checked) (defBody s_checked) (defScope s_checked) [] [] (He.ga K "checked") fd := F
  exact ⟨_, fd, He.glo_ok X G (c.fact 9 (f := .glo "checked")), F.kp, F.bindsN (fun kV doc pm an cdv ct us hl => by match us, hl with | [u0], _ => rfl), fn_D (C := He.ga K "Draft") F sc_checked (fun z _ => rfl) fun cdv A outer s H E z hr hd => ⟨_, ps_checked T c_is_record hr, fun B => do_checked z hd⟩⟩
theorem k_leaf (T : Tx K mg (He.ga K "Draft")) (X : K.In h) (G : h.Ns mainGlobals mg) (c : He.SaysD fa fn K) (c_checked : Cal P w K mg base "checked" 5 P_checked (sp_checked K)) : Cal P w K mg base "leaf" 6 P_leaf (sp_leaf K) := by
  obtain ⟨fd, F⟩ := c.def_ 10 (d := d_leaf)
  have F : FunD K "leaf" "leaf" (defArgs s_leaf) (defBody s_leaf) (defScope s_leaf) [] [] (He.ga K "leaf") fd := F
  exact ⟨_, fd, He.glo_ok X G (c.fact 10 (f := .glo "leaf")), F.kp, F.bindsN (fun kV doc pm an cdv ct us hl => by match us, hl with | [u0, u1, u2, u3], _ => rfl), fn_D (C := He.ga K "Draft") F sc_leaf (fun z _ => rfl) fun cdv A outer s H E z hr hd => ⟨_, ps_leaf T c_checked hr, fun B => do_leaf z hd⟩⟩
theorem k_inner (T : Tx K mg (He.ga K "Draft")) (X : K.In h) (G : h.Ns mainGlobals mg) (c : He.SaysD fa fn K) (c_checked : Cal P w K mg base "checked" 5 P_checked (sp_checked K)) : Cal P w K mg base "inner" 6 P_inner (sp_inner K) := by
  obtain ⟨fd, F⟩ := c.def_ 11 (d := d_inner)
  have F : FunD K "inner" "inner" (defArgs s_inner) (defBody s_inner) (defScope s_inner) [] [] (He.ga K "inner") fd := F
  exact ⟨_, fd, He.glo_ok X G (c.fact 11 (f := .glo "inner")), F.kp, F.bindsN (fun kV doc pm an cdv ct us hl => by match us, hl with | [u0, u1, u2, u3, u4], _ => rfl), fn_D (C := He.ga K "Draft") F sc_inner (fun z _ => rfl) fun cdv A outer s H E z hr hd => ⟨_, ps_inner T c_checked hr, fun B => do_inner z hd⟩⟩
theorem k_level_of (T : Tx K mg (He.ga K "Draft")) (X : K.In h) (G : h.Ns mainGlobals mg) (c : He.SaysD fa fn K) : Cal P w K mg base "level_of" 1 P_level_of (sp_level_of K) := by
  obtain ⟨fd, F⟩ := c.def_ 12 (d := d_level_of)
  have F : FunD K "level_of" "level_of" (defArgs s_level_of) (defBody s_level_of) (defScope s_level_of) [] [] (He.ga K "level_of") fd := F
  exact ⟨_, fd, He.glo_ok X G (c.fact 12 (f := .glo "level_of")), F.kp, F.bindsN (fun kV doc pm an cdv ct us hl => by match us, hl with | [u0], _ => rfl), fn_D (C := He.ga K "Draft") F sc_level_of (fun z _ => rfl) fun cdv A outer s H E z hr hd => ⟨_, ps_level_of T hr, fun B => do_level_of z⟩⟩
theorem k_bounds_of (T : Tx K mg (He.ga K "Draft")) (X : K.In h) (G : h.Ns mainGlobals mg) (c : He.SaysD fa fn K) : Cal P w K mg base "bounds_of" 1 P_bounds_of (sp_bounds_of K) := by
  obtain ⟨fd, F⟩ := c.def_ 13 (d := d_bounds_of)
  have F : FunD K "bounds_of" "bounds_of" (defArgs s_bounds_of) (defBody s_bounds_of) (defScope s_bounds_of) [] [] (He.ga K "bounds_of") fd := F
  exact ⟨_, fd, He.glo_ok X G (c.fact 13 (f := .glo "bounds_of")), F.kp, F.bindsN (fun kV doc pm an cdv ct us hl => by match us, hl with | [u0], _ => rfl), fn_D (C := He.ga K "Draft") F sc_bounds_of (fun z _ => rfl) fun cdv A outer s H E z hr hd => ⟨_, ps_bounds_of T hr, fun B => do_bounds_of z hd⟩⟩
theorem k_size_of (T : Tx K mg (He.ga K "Draft")) (X : K.In h) (G : h.Ns mainGlobals mg) (c : He.SaysD fa fn K) : Cal P w K mg base "size_of" 1 P_size_of (sp_size_of K) := by
  obtain ⟨fd, F⟩ := c.def_ 14 (d := d_size_of)
  have F : FunD K "size_of" "size_of" (defArgs s_size_of) (defBody s_size_of) (defScope s_size_of) [] [] (He.ga K "size_of") fd := F
  exact ⟨_, fd, He.glo_ok X G (c.fact 14 (f := .glo "size_of")), F.kp, F.bindsN (fun kV doc pm an cdv ct us hl => by match us, hl with | [u0], _ => rfl), fn_D (C := He.ga K "Draft") F sc_size_of (fun z _ => rfl) fun cdv A outer s H E z hr hd => ⟨_, ps_size_of T hr, fun B => do_size_of z hd⟩⟩
theorem k_value_in (T : Tx K mg (He.ga K "Draft")) (X : K.In h) (G : h.Ns mainGlobals mg) (c : He.SaysD fa fn K) : Cal P w K mg base "value_in" 1 P_value_in (sp_value_in K) := by
  obtain ⟨fd, F⟩ := c.def_ 15 (d := d_value_in)
  have F : FunD K "value_in" "value_in" (defArgs s_value_in) (defBody s_value_in) (defScope s_value_in) [] [] (He.ga K "value_in") fd := F
  exact ⟨_, fd, He.glo_ok X G (c.fact 15 (f := .glo "value_in")), F.kp, F.bindsN (fun kV doc pm an cdv ct us hl => by match us, hl with | [u0, u1], _ => rfl), fn_D (C := He.ga K "Draft") F sc_value_in (fun z _ => rfl) fun cdv A outer s H E z hr hd => ⟨_, ps_value_in T hr, fun B => do_value_in z hd⟩⟩
theorem k_place_of (T : Tx K mg (He.ga K "Draft")) (X : K.In h) (G : h.Ns mainGlobals mg) (c : He.SaysD fa fn K) : Cal P w K mg base "place_of" 1 P_place_of (sp_place_of K) := by
  obtain ⟨fd, F⟩ := c.def_ 16 (d := d_place_of)
  have F : FunD K "place_of" "place_of" (defArgs s_place_of) (defBody s_place_of) (defScope s_place_of) [] [] (He.ga K "place_of") fd := F
  exact ⟨_, fd, He.glo_ok X G (c.fact 16 (f := .glo "place_of")), F.kp, F.bindsN (fun kV doc pm an cdv ct us hl => by match us, hl with | [u0, u1], _ => rfl), fn_D (C := He.ga K "Draft") F sc_place_of (fun z _ => rfl) fun cdv A outer s H E z hr hd => ⟨_, ps_place_of T hr, fun B => do_place_of z hd⟩⟩
theorem k_child_bounds (T : Tx K mg (He.ga K "Draft")) (X : K.In h) (G : h.Ns mainGlobals mg) (c : He.SaysD fa fn K) : Cal P w K mg base "child_bounds" 1 P_child_bounds (sp_child_bounds K) := by
  obtain ⟨fd, F⟩ := c.def_ 17 (d := d_child_bounds)
  have F : FunD K "child_bounds" "child_bounds" (defArgs s_child_bounds) (defBody s_child_bounds) (defScope s_child_bounds) [] [] (He.ga K "child_bounds") fd := F
  exact ⟨_, fd, He.glo_ok X G (c.fact 17 (f := .glo "child_bounds")), F.kp, F.bindsN (fun kV doc pm an cdv ct us hl => by match us, hl with | [u0, u1], _ => rfl), fn_D (C := He.ga K "Draft") F sc_child_bounds (fun z _ => rfl) fun cdv A outer s H E z hr hd => ⟨_, ps_child_bounds T hr, fun B => do_child_bounds z hd⟩⟩
theorem k_with_value (T : Tx K mg (He.ga K "Draft")) (X : K.In h) (G : h.Ns mainGlobals mg) (c : He.SaysD fa fn K) (c_leaf : Cal P w K mg base "leaf" 6 P_leaf (sp_leaf K)) (c_place_of : Cal P w K mg base "place_of" 1 P_place_of (sp_place_of K)) : Cal P w K mg base "with_value" 7 P_with_value (sp_with_value K) := by
  obtain ⟨fd, F⟩ := c.def_ 18 (d := d_with_value)
  have F : FunD K "with_value" "with_value" (defArgs s_with_value) (defBody s_with_value) (defScope s_with_value) [] [] (He.ga K "with_value") fd := F
  exact ⟨_, fd, He.glo_ok X G (c.fact 18 (f := .glo "with_value")), F.kp, F.bindsN (fun kV doc pm an cdv ct us hl => by match us, hl with | [u0, u1, u2], _ => rfl), fn_D (C := He.ga K "Draft") F sc_with_value (fun z _ => rfl) fun cdv A outer s H E z hr hd => ⟨_, ps_with_value T c_leaf c_place_of hr, fun B => do_with_value z hd⟩⟩
theorem k_without_key (T : Tx K mg (He.ga K "Draft")) (X : K.In h) (G : h.Ns mainGlobals mg) (c : He.SaysD fa fn K) (c_leaf : Cal P w K mg base "leaf" 6 P_leaf (sp_leaf K)) (c_place_of : Cal P w K mg base "place_of" 1 P_place_of (sp_place_of K)) : Cal P w K mg base "without_key" 7 P_without_key (sp_without_key K) := by
  obtain ⟨fd, F⟩ := c.def_ 19 (d := d_without_key)
  have F : FunD K "without_key" "without_key" (defArgs s_without_key) (defBody s_without_key) (defScope s_without_key) [] [] (He.ga K "without_key") fd := F
  exact ⟨_, fd, He.glo_ok X G (c.fact 19 (f := .glo "without_key")), F.kp, F.bindsN (fun kV doc pm an cdv ct us hl => by match us, hl with | [u0, u1], _ => rfl), fn_D (C := He.ga K "Draft") F sc_without_key (fun z _ => rfl) fun cdv A outer s H E z hr hd => ⟨_, ps_without_key T c_leaf c_place_of hr, fun B => do_without_key z hd⟩⟩
theorem k_with_child (T : Tx K mg (He.ga K "Draft")) (X : K.In h) (G : h.Ns mainGlobals mg) (c : He.SaysD fa fn K) (c_inner : Cal P w K mg base "inner" 6 P_inner (sp_inner K)) : Cal P w K mg base "with_child" 7 P_with_child (sp_with_child K) := by
  obtain ⟨fd, F⟩ := c.def_ 20 (d := d_with_child)
  have F : FunD K "with_child" "with_child" (defArgs s_with_child) (defBody s_with_child) (defScope s_with_child) [] [] (He.ga K "with_child") fd := F
  exact ⟨_, fd, He.glo_ok X G (c.fact 20 (f := .glo "with_child")), F.kp, F.bindsN (fun kV doc pm an cdv ct us hl => by match us, hl with | [u0, u1, u2, u3], _ => rfl), fn_D (C := He.ga K "Draft") F sc_with_child (fun z _ => rfl) fun cdv A outer s H E z hr hd => ⟨_, ps_with_child T c_inner hr, fun B => do_with_child z hd⟩⟩
theorem k_without_child (T : Tx K mg (He.ga K "Draft")) (X : K.In h) (G : h.Ns mainGlobals mg) (c : He.SaysD fa fn K) (c_inner : Cal P w K mg base "inner" 6 P_inner (sp_inner K)) : Cal P w K mg base "without_child" 7 P_without_child (sp_without_child K) := by
  obtain ⟨fd, F⟩ := c.def_ 21 (d := d_without_child)
  have F : FunD K "without_child" "without_child" (defArgs s_without_child) (defBody s_without_child) (defScope s_without_child) [] [] (He.ga K "without_child") fd := F
  exact ⟨_, fd, He.glo_ok X G (c.fact 21 (f := .glo "without_child")), F.kp, F.bindsN (fun kV doc pm an cdv ct us hl => by match us, hl with | [u0, u1], _ => rfl), fn_D (C := He.ga K "Draft") F sc_without_child (fun z _ => rfl) fun cdv A outer s H E z hr hd => ⟨_, ps_without_child T c_inner hr, fun B => do_without_child z hd⟩⟩
theorem k_with_separator (T : Tx K mg (He.ga K "Draft")) (X : K.In h) (G : h.Ns mainGlobals mg) (c : He.SaysD fa fn K) (c_inner : Cal P w K mg base "inner" 6 P_inner (sp_inner K)) : Cal P w K mg base "with_separator" 7 P_with_separator (sp_with_separator K) := by
  obtain ⟨fd, F⟩ := c.def_ 22 (d := d_with_separator)
  have F : FunD K "with_separator" "with_separator" (defArgs s_with_separator) (defBody s_with_separator) (defScope s_with_separator) [] [] (He.ga K "with_separator") fd := F
  exact ⟨_, fd, He.glo_ok X G (c.fact 22 (f := .glo "with_separator")), F.kp, F.bindsN (fun kV doc pm an cdv ct us hl => by match us, hl with | [u0, u1, u2], _ => rfl), fn_D (C := He.ga K "Draft") F sc_with_separator (fun z _ => rfl) fun cdv A outer s H E z hr hd => ⟨_, ps_with_separator T c_inner hr, fun B => do_with_separator z hd⟩⟩
theorem k_cut (T : Tx K mg (He.ga K "Draft")) (X : K.In h) (G : h.Ns mainGlobals mg) (c : He.SaysD fa fn K) (c_inner : Cal P w K mg base "inner" 6 P_inner (sp_inner K)) (c_leaf : Cal P w K mg base "leaf" 6 P_leaf (sp_leaf K)) (c_size_of : Cal P w K mg base "size_of" 1 P_size_of (sp_size_of K)) : Cal P w K mg base "cut" 7 P_cut (sp_cut K) := by
  obtain ⟨fd, F⟩ := c.def_ 23 (d := d_cut)
  have F : FunD K "cut" "cut" (defArgs s_cut) (defBody s_cut) (defScope s_cut) [] [] (He.ga K "cut") fd := F
  exact ⟨_, fd, He.glo_ok X G (c.fact 23 (f := .glo "cut")), F.kp, F.bindsN (fun kV doc pm an cdv ct us hl => by match us, hl with | [u0], _ => rfl), fn_D (C := He.ga K "Draft") F sc_cut (fun z _ => rfl) fun cdv A outer s H E z hr hd => ⟨_, ps_cut T c_inner c_leaf c_size_of hr, fun B => do_cut z hd⟩⟩
theorem k_joined (T : Tx K mg (He.ga K "Draft")) (X : K.In h) (G : h.Ns mainGlobals mg) (c : He.SaysD fa fn K) (c_bounds_of : Cal P w K mg base "bounds_of" 1 P_bounds_of (sp_bounds_of K)) (c_inner : Cal P w K mg base "inner" 6 P_inner (sp_inner K)) (c_leaf : Cal P w K mg base "leaf" 6 P_leaf (sp_leaf K)) : Cal P w K mg base "joined" 7 P_joined (sp_joined K) := by
  obtain ⟨fd, F⟩ := c.def_ 24 (d := d_joined)
  have F : FunD K "joined" "joined" (defArgs s_joined) (defBody s_joined) (defScope s_joined) [] [] (He.ga K "joined") fd := F
  exact ⟨_, fd, He.glo_ok X G (c.fact 24 (f := .glo "joined")), F.kp, F.bindsN (fun kV doc pm an cdv ct us hl => by match us, hl with | [u0, u1, u2], _ => rfl), fn_D (C := He.ga K "Draft") F sc_joined (fun z _ => rfl) fun cdv A outer s H E z hr hd => ⟨_, ps_joined T c_bounds_of c_inner c_leaf hr, fun B => do_joined z hd⟩⟩
theorem k_leaf_change (T : Tx K mg (He.ga K "Draft")) (X : K.In h) (G : h.Ns mainGlobals mg) (c : He.SaysD fa fn K) (c_value_in : Cal P w K mg base "value_in" 1 P_value_in (sp_value_in K)) (c_with_value : Cal P w K mg base "with_value" 7 P_with_value (sp_with_value K)) (c_without_key : Cal P w K mg base "without_key" 7 P_without_key (sp_without_key K)) : Cal P w K mg base "leaf_change" 8 P_leaf_change (sp_leaf_change K) := by
  obtain ⟨fd, F⟩ := c.def_ 25 (d := d_leaf_change)
  have F : FunD K "leaf_change" "leaf_change" (defArgs s_leaf_change) (defBody s_leaf_change) (defScope s_leaf_change) [] [] (He.ga K "leaf_change") fd := F
  exact ⟨_, fd, He.glo_ok X G (c.fact 25 (f := .glo "leaf_change")), F.kp, F.bindsN (fun kV doc pm an cdv ct us hl => by match us, hl with | [u0, u1], _ => rfl), fn_D (C := He.ga K "Draft") F sc_leaf_change (fun z _ => rfl) fun cdv A outer s H E z hr hd => ⟨_, ps_leaf_change T c_value_in c_with_value c_without_key hr, fun B => do_leaf_change z hd⟩⟩
theorem k_most_of (T : Tx K mg (He.ga K "Draft")) (X : K.In h) (G : h.Ns mainGlobals mg) (c : He.SaysD fa fn K) (c_level_of : Cal P w K mg base "level_of" 1 P_level_of (sp_level_of K)) : Cal P w K mg base "most_of" 2 P_most_of (sp_most_of K) := by
  obtain ⟨fd, F⟩ := c.def_ 26 (d := d_most_of)
  have F : FunD K "most_of" "most_of" (defArgs s_most_of) (defBody s_most_of) (defScope s_most_of) [] [] (He.ga K "most_of") fd := F
  exact ⟨_, fd, He.glo_ok X G (c.fact 26 (f := .glo "most_of")), F.kp, F.bindsN (fun kV doc pm an cdv ct us hl => by match us, hl with | [u0], _ => rfl), fn_D (C := He.ga K "Draft") F sc_most_of (fun z _ => rfl) fun cdv A outer s H E z hr hd => ⟨_, ps_most_of T c_level_of hr, fun B => do_most_of z⟩⟩
theorem k_Draft___init__ (T : Tx K mg (He.ga K "Draft")) (X : K.In h) (G : h.Ns mainGlobals mg) (c : He.SaysD fa fn K) : CalI P w K mg base (He.ga K "Draft") 1 P_Draft___init__ (sp_Draft___init__ K (He.ga K "Draft")) := by
  obtain ⟨fd, F⟩ := c.def_ 27 (d := d_Draft___init__)
  have F : FunD K "__init__" "Draft.__init__" (defArgs s_Draft___init__) (defBody s_Draft___init__) (defScope s_Draft___init__) [] [] (He.ma K (He.ga K "Draft") "__init__") fd := F
  refine ⟨_, fd, He.mkr_ok (c.fact 83 (f := .mkr "Draft")), F.bindsN (fun kV doc pm an cdv ct us hl => by match us, hl with | [u0, u1, u2], _ => rfl), F.ok sc_Draft___init__ (fun vs H Q E z => ?_) fun cdv A outer s H vs Q E hr z => ⟨_, (ps_Draft___init__ T hr).nox, raw_init T z⟩⟩
  obtain ⟨B, x, dx, p, s, us, ex, rfl, hx, hb, r, k⟩ := z
  rw [List.length_cons, r.length]
  rfl
theorem k_Draft_give (T : Tx K mg (He.ga K "Draft")) (X : K.In h) (G : h.Ns mainGlobals mg) (c : He.SaysD fa fn K) : CalM P w K mg base (He.ga K "Draft") "give" 1 P_Draft_give (sp_Draft_give K (He.ga K "Draft")) := by
  obtain ⟨fd, F⟩ := c.def_ 28 (d := d_Draft_give)
  have F : FunD K "give" "Draft.give" (defArgs s_Draft_give) (defBody s_Draft_give) (defScope s_Draft_give) [] [] (He.ma K (He.ga K "Draft") "give") fd := F
  exact ⟨_, fd, He.meth_ok (c.fact 75 (f := .meth "Draft" "give")), F.bindsN (fun kV doc pm an cdv ct us hl => by match us, hl with | [u0, u1, u2], _ => rfl), fn_M F sc_Draft_give (fun s z _ => rfl) fun cdv A outer s H E u z hr hd => ⟨_, ps_Draft_give T hr, fun B y fp => do_Draft_give T z hd⟩⟩
theorem k_Draft_add_page (T : Tx K mg (He.ga K "Draft")) (X : K.In h) (G : h.Ns mainGlobals mg) (c : He.SaysD fa fn K) : CalM P w K mg base (He.ga K "Draft") "add_page" 1 P_Draft_add_page (sp_Draft_add_page K (He.ga K "Draft")) := by
  obtain ⟨fd, F⟩ := c.def_ 29 (d := d_Draft_add_page)
  have F : FunD K "add_page" "Draft.add_page" (defArgs s_Draft_add_page) (defBody s_Draft_add_page) (defScope s_Draft_add_page) [] [] (He.ma K (He.ga K "Draft") "add_page") fd := F
  exact ⟨_, fd, He.meth_ok (c.fact 76 (f := .meth "Draft" "add_page")), F.bindsN (fun kV doc pm an cdv ct us hl => by match us, hl with | [u0, u1], _ => rfl), fn_M F sc_Draft_add_page (fun s z _ => rfl) fun cdv A outer s H E u z hr hd => ⟨_, ps_Draft_add_page T hr, fun B y fp => do_Draft_add_page T z hd⟩⟩
theorem k_Draft_entries (T : Tx K mg (He.ga K "Draft")) (X : K.In h) (G : h.Ns mainGlobals mg) (c : He.SaysD fa fn K) : CalM P w K mg base (He.ga K "Draft") "entries" 1 P_Draft_entries (sp_Draft_entries K (He.ga K "Draft")) := by
  obtain ⟨fd, F⟩ := c.def_ 30 (d := d_Draft_entries)
  have F : FunD K "entries" "Draft.entries" (defArgs s_Draft_entries) (defBody s_Draft_entries) (defScope s_Draft_entries) [] [] (He.ma K (He.ga K "Draft") "entries") fd := F
  exact ⟨_, fd, He.meth_ok (c.fact 77 (f := .meth "Draft" "entries")), F.bindsN (fun kV doc pm an cdv ct us hl => by match us, hl with | [u0], _ => rfl), fn_M F sc_Draft_entries (fun s z _ => rfl) fun cdv A outer s H E u z hr hd => ⟨_, ps_Draft_entries T hr, fun B y fp => do_Draft_entries T hd⟩⟩
theorem k_Draft_place_in_parent (T : Tx K mg (He.ga K "Draft")) (X : K.In h) (G : h.Ns mainGlobals mg) (c : He.SaysD fa fn K) (c_bounds_of : Cal P w K mg base "bounds_of" 1 P_bounds_of (sp_bounds_of K)) (c_child_bounds : Cal P w K mg base "child_bounds" 1 P_child_bounds (sp_child_bounds K)) (c_size_of : Cal P w K mg base "size_of" 1 P_size_of (sp_size_of K)) : CalM P w K mg base (He.ga K "Draft") "place_in_parent" 2 P_Draft_place_in_parent (sp_Draft_place_in_parent K (He.ga K "Draft")) := by
  obtain ⟨fd, F⟩ := c.def_ 31 (d := d_Draft_place_in_parent)
  have F : FunD K "place_in_parent" "Draft.place_in_parent" (defArgs s_Draft_place_in_parent) (defBody s_Draft_place_in_parent) (defScope s_Draft_place_in_parent) [] [] (He.ma K (He.ga K "Draft") "place_in_parent") fd := F
  exact ⟨_, fd, He.meth_ok (c.fact 78 (f := .meth "Draft" "place_in_parent")), F.bindsN (fun kV doc pm an cdv ct us hl => by match us, hl with | [u0, u1], _ => rfl), fn_M F sc_Draft_place_in_parent (fun s z _ => rfl) fun cdv A outer s H E u z hr hd => ⟨_, ps_Draft_place_in_parent T c_bounds_of c_child_bounds c_size_of hr, fun B y fp => do_Draft_place_in_parent T z hd⟩⟩
theorem k_Draft_divide (T : Tx K mg (He.ga K "Draft")) (X : K.In h) (G : h.Ns mainGlobals mg) (c : He.SaysD fa fn K) (c_Draft_add_page : CalM P w K mg base (He.ga K "Draft") "add_page" 1 P_Draft_add_page (sp_Draft_add_page K (He.ga K "Draft"))) (c_Draft_give : CalM P w K mg base (He.ga K "Draft") "give" 1 P_Draft_give (sp_Draft_give K (He.ga K "Draft"))) (c_Draft_place_in_parent : CalM P w K mg base (He.ga K "Draft") "place_in_parent" 2 P_Draft_place_in_parent (sp_Draft_place_in_parent K (He.ga K "Draft"))) (c_cut : Cal P w K mg base "cut" 7 P_cut (sp_cut K)) (c_inner : Cal P w K mg base "inner" 6 P_inner (sp_inner K)) (c_level_of : Cal P w K mg base "level_of" 1 P_level_of (sp_level_of K)) (c_with_child : Cal P w K mg base "with_child" 7 P_with_child (sp_with_child K)) : CalM P w K mg base (He.ga K "Draft") "divide" 8 P_Draft_divide (sp_Draft_divide K (He.ga K "Draft")) := by
  obtain ⟨fd, F⟩ := c.def_ 33 (d := d_Draft_divide)
  have F : FunD K "divide" "Draft.divide" (defArgs s_Draft_divide) (defBody s_Draft_divide) (defScope s_Draft_divide) [] [] (He.ma K (He.ga K "Draft") "divide") fd := F
  exact ⟨_, fd, He.meth_ok (c.fact 80 (f := .meth "Draft" "divide")), F.bindsN (fun kV doc pm an cdv ct us hl => by match us, hl with | [u0, u1, u2], _ => rfl), fn_M F sc_Draft_divide (fun s z _ => rfl) fun cdv A outer s H E u z hr hd => ⟨_, ps_Draft_divide T c_Draft_add_page c_Draft_give c_Draft_place_in_parent c_cut c_inner c_level_of c_with_child hr, fun B y fp => do_Draft_divide T z hd.1 hd.2.1 hd.2.2⟩⟩
theorem k_Draft_unite_pair (T : Tx K mg (He.ga K "Draft")) (X : K.In h) (G : h.Ns mainGlobals mg) (c : He.SaysD fa fn K) (c_Draft_give : CalM P w K mg base (He.ga K "Draft") "give" 1 P_Draft_give (sp_Draft_give K (He.ga K "Draft"))) (c_bounds_of : Cal P w K mg base "bounds_of" 1 P_bounds_of (sp_bounds_of K)) (c_cut : Cal P w K mg base "cut" 7 P_cut (sp_cut K)) (c_joined : Cal P w K mg base "joined" 7 P_joined (sp_joined K)) (c_most_of : Cal P w K mg base "most_of" 2 P_most_of (sp_most_of K)) (c_size_of : Cal P w K mg base "size_of" 1 P_size_of (sp_size_of K)) (c_with_separator : Cal P w K mg base "with_separator" 7 P_with_separator (sp_with_separator K)) (c_without_child : Cal P w K mg base "without_child" 7 P_without_child (sp_without_child K)) : CalM P w K mg base (He.ga K "Draft") "unite_pair" 8 P_Draft_unite_pair (sp_Draft_unite_pair K (He.ga K "Draft")) := by
  obtain ⟨fd, F⟩ := c.def_ 35 (d := d_Draft_unite_pair)
  have F : FunD K "unite_pair" "Draft.unite_pair" (defArgs s_Draft_unite_pair) (defBody s_Draft_unite_pair) (defScope s_Draft_unite_pair) [] [] (He.ma K (He.ga K "Draft") "unite_pair") fd := F
  exact ⟨_, fd, He.meth_ok (c.fact 82 (f := .meth "Draft" "unite_pair")), F.bindsN (fun kV doc pm an cdv ct us hl => by match us, hl with | [u0, u1, u2, u3, u4], _ => rfl), fn_M F sc_Draft_unite_pair (fun s z _ => rfl) fun cdv A outer s H E u z hr hd => ⟨_, ps_Draft_unite_pair T c_Draft_give c_bounds_of c_cut c_joined c_most_of c_size_of c_with_separator c_without_child hr, fun B y fp => do_Draft_unite_pair T z hd.1 hd.2⟩⟩
theorem k_Draft_unite (T : Tx K mg (He.ga K "Draft")) (X : K.In h) (G : h.Ns mainGlobals mg) (c : He.SaysD fa fn K) (c_Draft_place_in_parent : CalM P w K mg base (He.ga K "Draft") "place_in_parent" 2 P_Draft_place_in_parent (sp_Draft_place_in_parent K (He.ga K "Draft"))) (c_Draft_unite_pair : CalM P w K mg base (He.ga K "Draft") "unite_pair" 8 P_Draft_unite_pair (sp_Draft_unite_pair K (He.ga K "Draft"))) (c_bounds_of : Cal P w K mg base "bounds_of" 1 P_bounds_of (sp_bounds_of K)) (c_child_bounds : Cal P w K mg base "child_bounds" 1 P_child_bounds (sp_child_bounds K)) (c_level_of : Cal P w K mg base "level_of" 1 P_level_of (sp_level_of K)) : CalM P w K mg base (He.ga K "Draft") "unite" 9 P_Draft_unite (sp_Draft_unite K (He.ga K "Draft")) := by
  obtain ⟨fd, F⟩ := c.def_ 34 (d := d_Draft_unite)
  have F : FunD K "unite" "Draft.unite" (defArgs s_Draft_unite) (defBody s_Draft_unite) (defScope s_Draft_unite) [] [] (He.ma K (He.ga K "Draft") "unite") fd := F
  exact ⟨_, fd, He.meth_ok (c.fact 81 (f := .meth "Draft" "unite")), F.bindsN (fun kV doc pm an cdv ct us hl => by match us, hl with | [u0, u1, u2], _ => rfl), fn_M F sc_Draft_unite (fun s z _ => rfl) fun cdv A outer s H E u z hr hd => ⟨_, ps_Draft_unite T c_Draft_place_in_parent c_Draft_unite_pair c_bounds_of c_child_bounds c_level_of hr, fun B y fp => do_Draft_unite T z hd.1 hd.2⟩⟩
theorem k_Draft_settle (T : Tx K mg (He.ga K "Draft")) (X : K.In h) (G : h.Ns mainGlobals mg) (c : He.SaysD fa fn K) (c_Draft_divide : CalM P w K mg base (He.ga K "Draft") "divide" 8 P_Draft_divide (sp_Draft_divide K (He.ga K "Draft"))) (c_Draft_give : CalM P w K mg base (He.ga K "Draft") "give" 1 P_Draft_give (sp_Draft_give K (He.ga K "Draft"))) (c_Draft_unite : CalM P w K mg base (He.ga K "Draft") "unite" 9 P_Draft_unite (sp_Draft_unite K (He.ga K "Draft"))) (c_most_of : Cal P w K mg base "most_of" 2 P_most_of (sp_most_of K)) (c_size_of : Cal P w K mg base "size_of" 1 P_size_of (sp_size_of K)) : CalM P w K mg base (He.ga K "Draft") "settle" 10 P_Draft_settle (sp_Draft_settle K (He.ga K "Draft")) := by
  obtain ⟨fd, F⟩ := c.def_ 32 (d := d_Draft_settle)
  have F : FunD K "settle" "Draft.settle" (defArgs s_Draft_settle) (defBody s_Draft_settle) (defScope s_Draft_settle) [] [] (He.ma K (He.ga K "Draft") "settle") fd := F
  exact ⟨_, fd, He.meth_ok (c.fact 79 (f := .meth "Draft" "settle")), F.bindsN (fun kV doc pm an cdv ct us hl => by match us, hl with | [u0, u1, u2], _ => rfl), fn_M F sc_Draft_settle (fun s z _ => rfl) fun cdv A outer s H E u z hr hd => ⟨_, ps_Draft_settle T c_Draft_divide c_Draft_give c_Draft_unite c_most_of c_size_of hr, fun B y fp => do_Draft_settle T z hd⟩⟩
theorem k_plan (T : Tx K mg (He.ga K "Draft")) (X : K.In h) (G : h.Ns mainGlobals mg) (c : He.SaysD fa fn K) (c_Draft___init__ : CalI P w K mg base (He.ga K "Draft") 1 P_Draft___init__ (sp_Draft___init__ K (He.ga K "Draft"))) (c_Draft_entries : CalM P w K mg base (He.ga K "Draft") "entries" 1 P_Draft_entries (sp_Draft_entries K (He.ga K "Draft"))) (c_Draft_settle : CalM P w K mg base (He.ga K "Draft") "settle" 10 P_Draft_settle (sp_Draft_settle K (He.ga K "Draft"))) (c_leaf_change : Cal P w K mg base "leaf_change" 8 P_leaf_change (sp_leaf_change K)) : Cal P w K mg base "plan" 11 P_plan (sp_plan K) := by
  obtain ⟨fd, F⟩ := c.def_ 36 (d := d_plan)
  have F : FunD K "plan" "plan" (defArgs s_plan) (defBody s_plan) (defScope s_plan) [] [] (He.ga K "plan") fd := F
  exact ⟨_, fd, He.glo_ok X G (c.fact 27 (f := .glo "plan")), F.kp, F.bindsN (fun kV doc pm an cdv ct us hl => by match us, hl with | [u0, u1, u2], _ => rfl), fn_D (C := He.ga K "Draft") F sc_plan (fun z _ => rfl) fun cdv A outer s H E z hr hd => ⟨_, ps_plan T c_Draft___init__ c_Draft_entries c_Draft_settle c_leaf_change hr, fun B => do_plan T z hd⟩⟩
theorem k_new_pages (T : Tx K mg (He.ga K "Draft")) (X : K.In h) (G : h.Ns mainGlobals mg) (c : He.SaysD fa fn K) : Cal P w K mg base "new_pages" 1 P_new_pages (sp_new_pages K) := by
  obtain ⟨fd, F⟩ := c.def_ 37 (d := d_new_pages)
  have F : FunD K "new_pages" "new_pages" (defArgs s_new_pages) (defBody s_new_pages) (defScope s_new_pages) [] [] (He.ga K "new_pages") fd := F
  exact ⟨_, fd, He.glo_ok X G (c.fact 28 (f := .glo "new_pages")), F.kp, F.bindsN (fun kV doc pm an cdv ct us hl => by match us, hl with | [u0], _ => rfl), fn_D (C := He.ga K "Draft") F sc_new_pages (fun z _ => rfl) fun cdv A outer s H E z hr hd => ⟨_, ps_new_pages T hr, fun B => do_new_pages z hd⟩⟩
theorem k_real_page (T : Tx K mg (He.ga K "Draft")) (X : K.In h) (G : h.Ns mainGlobals mg) (c : He.SaysD fa fn K) : Cal P w K mg base "real_page" 1 P_real_page (sp_real_page K) := by
  obtain ⟨fd, F⟩ := c.def_ 38 (d := d_real_page)
  have F : FunD K "real_page" "real_page" (defArgs s_real_page) (defBody s_real_page) (defScope s_real_page) [] [] (He.ga K "real_page") fd := F
  exact ⟨_, fd, He.glo_ok X G (c.fact 29 (f := .glo "real_page")), F.kp, F.bindsN (fun kV doc pm an cdv ct us hl => by match us, hl with | [u0, u1], _ => rfl), fn_D (C := He.ga K "Draft") F sc_real_page (fun z _ => rfl) fun cdv A outer s H E z hr hd => ⟨_, ps_real_page T hr, fun B => do_real_page z hd⟩⟩
theorem k_placed (T : Tx K mg (He.ga K "Draft")) (X : K.In h) (G : h.Ns mainGlobals mg) (c : He.SaysD fa fn K) (c_real_page : Cal P w K mg base "real_page" 1 P_real_page (sp_real_page K)) : Cal P w K mg base "placed" 2 P_placed (sp_placed K) := by
  obtain ⟨fd, F⟩ := c.def_ 39 (d := d_placed)
  have F : FunD K "placed" "placed" (defArgs s_placed) (defBody s_placed) (defScope s_placed) [] [] (He.ga K "placed") fd := F
  exact ⟨_, fd, He.glo_ok X G (c.fact 30 (f := .glo "placed")), F.kp, F.bindsN (fun kV doc pm an cdv ct us hl => by match us, hl with | [u0, u1], _ => rfl), fn_D (C := He.ga K "Draft") F sc_placed (fun z _ => rfl) fun cdv A outer s H E z hr hd => ⟨_, ps_placed T c_real_page hr, fun B => do_placed z hd⟩⟩
theorem k__law_cell (T : Tx K mg (He.ga K "Draft")) (X : K.In h) (G : h.Ns mainGlobals mg) (c : He.SaysD fa fn K) : Cal P w K mg base "_law_cell" 1 P__law_cell (sp__law_cell K) := by
  obtain ⟨fd, F⟩ := c.def_ 40 (d := d__law_cell)
  have F : FunD K "_law_cell" "_law_cell" (defArgs s__law_cell) (defBody s__law_cell) (defScope s__law_cell) [] [] (He.ga K "_law_cell") fd := F
  exact ⟨_, fd, He.glo_ok X G (c.fact 31 (f := .glo "_law_cell")), F.kp, F.bindsN (fun kV doc pm an cdv ct us hl => by match us, hl with | [u0, u1], _ => rfl), fn_D (C := He.ga K "Draft") F sc__law_cell (fun z _ => rfl) fun cdv A outer s H E z hr hd => ⟨_, ps__law_cell T hr, fun B => do__law_cell z⟩⟩
theorem k__law_digits (T : Tx K mg (He.ga K "Draft")) (X : K.In h) (G : h.Ns mainGlobals mg) (c : He.SaysD fa fn K) : Cal P w K mg base "_law_digits" 1 P__law_digits (sp__law_digits K) := by
  obtain ⟨fd, F⟩ := c.def_ 41 (d := d__law_digits)
  have F : FunD K "_law_digits" "_law_digits" (defArgs s__law_digits) (defBody s__law_digits) (defScope s__law_digits) [] [] (He.ga K "_law_digits") fd := F
  exact ⟨_, fd, He.glo_ok X G (c.fact 32 (f := .glo "_law_digits")), F.kp, F.bindsN (fun kV doc pm an cdv ct us hl => by match us, hl with | [u0, u1], _ => rfl), fn_D (C := He.ga K "Draft") F sc__law_digits (fun z _ => rfl) fun cdv A outer s H E z hr hd => ⟨_, ps__law_digits T hr, fun B => do__law_digits z hd⟩⟩
theorem k__law_many (T : Tx K mg (He.ga K "Draft")) (X : K.In h) (G : h.Ns mainGlobals mg) (c : He.SaysD fa fn K) : Cal P w K mg base "_law_many" 1 P__law_many (sp__law_many K) := by
  obtain ⟨fd, F⟩ := c.def_ 42 (d := d__law_many)
  have F : FunD K "_law_many" "_law_many" (defArgs s__law_many) (defBody s__law_many) (defScope s__law_many) [] [] (He.ga K "_law_many") fd := F
  exact ⟨_, fd, He.glo_ok X G (c.fact 33 (f := .glo "_law_many")), F.kp, F.bindsN (fun kV doc pm an cdv ct us hl => by match us, hl with | [u0, u1, u2], _ => rfl), fn_D (C := He.ga K "Draft") F sc__law_many (fun z _ => rfl) fun cdv A outer s H E z hr hd => ⟨_, ps__law_many T hr, fun B => do__law_many z⟩⟩
theorem k__law_call (T : Tx K mg (He.ga K "Draft")) (X : K.In h) (G : h.Ns mainGlobals mg) (c : He.SaysD fa fn K) (c__law_digits : Cal P w K mg base "_law_digits" 1 P__law_digits (sp__law_digits K)) : Cal P w K mg base "_law_call" 2 P__law_call (sp__law_call K) := by
  obtain ⟨fd, F⟩ := c.def_ 43 (d := d__law_call)
  have F : FunD K "_law_call" "_law_call" (defArgs s__law_call) (defBody s__law_call) (defScope s__law_call) [] [] (He.ga K "_law_call") fd := F
  exact ⟨_, fd, He.glo_ok X G (c.fact 34 (f := .glo "_law_call")), F.kp, F.bindsN (fun kV doc pm an cdv ct us hl => by match us, hl with | [u0, u1, u2], _ => rfl), fn_D (C := He.ga K "Draft") F sc__law_call (fun z _ => rfl) fun cdv A outer s H E z hr hd => ⟨_, ps__law_call T c__law_digits hr, fun B => do__law_call z hd⟩⟩
theorem k__law_due (T : Tx K mg (He.ga K "Draft")) (X : K.In h) (G : h.Ns mainGlobals mg) (c : He.SaysD fa fn K) : Cal P w K mg base "_law_due" 1 P__law_due (sp__law_due K) := by
  obtain ⟨fd, F⟩ := c.def_ 44 (d := d__law_due)
  have F : FunD K "_law_due" "_law_due" (defArgs s__law_due) (defBody s__law_due) (defScope s__law_due) [] [] (He.ga K "_law_due") fd := F
  exact ⟨_, fd, He.glo_ok X G (c.fact 35 (f := .glo "_law_due")), F.kp, F.bindsN (fun kV doc pm an cdv ct us hl => by match us, hl with | [u0, u1], _ => rfl), fn_D (C := He.ga K "Draft") F sc__law_due (fun z _ => rfl) fun cdv A outer s H E z hr hd => ⟨_, ps__law_due T hr, fun B => do__law_due z hd⟩⟩
theorem k__law_covers (T : Tx K mg (He.ga K "Draft")) (X : K.In h) (G : h.Ns mainGlobals mg) (c : He.SaysD fa fn K) : Cal P w K mg base "_law_covers" 1 P__law_covers (sp__law_covers K) := by
  obtain ⟨fd, F⟩ := c.def_ 45 (d := d__law_covers)
  have F : FunD K "_law_covers" "_law_covers" (defArgs s__law_covers) (defBody s__law_covers) (defScope s__law_covers) [] [] (He.ga K "_law_covers") fd := F
  exact ⟨_, fd, He.glo_ok X G (c.fact 36 (f := .glo "_law_covers")), F.kp, F.bindsN (fun kV doc pm an cdv ct us hl => by match us, hl with | [u0, u1], _ => rfl), fn_D (C := He.ga K "Draft") F sc__law_covers (fun z _ => rfl) fun cdv A outer s H E z hr hd => ⟨_, ps__law_covers T hr, fun B => do__law_covers z hd⟩⟩
theorem k__law_walk (T : Tx K mg (He.ga K "Draft")) (X : K.In h) (G : h.Ns mainGlobals mg) (c : He.SaysD fa fn K) : Cal P w K mg base "_law_walk" 1 P__law_walk (sp__law_walk K) := by
  obtain ⟨fd, F⟩ := c.def_ 46 (d := d__law_walk)
  have F : FunD K "_law_walk" "_law_walk" (defArgs s__law_walk) (defBody s__law_walk) (defScope s__law_walk) [] [] (He.ga K "_law_walk") fd := F
  exact ⟨_, fd, He.glo_ok X G (c.fact 37 (f := .glo "_law_walk")), F.kp, F.bindsN (fun kV doc pm an cdv ct us hl => by match us, hl with | [u0, u1], _ => rfl), fn_D (C := He.ga K "Draft") F sc__law_walk (fun z _ => rfl) fun cdv A outer s H E z hr hd => ⟨_, ps__law_walk T hr, fun B => do__law_walk z hd⟩⟩
theorem k__law_planned (T : Tx K mg (He.ga K "Draft")) (X : K.In h) (G : h.Ns mainGlobals mg) (c : He.SaysD fa fn K) (c__law_walk : Cal P w K mg base "_law_walk" 1 P__law_walk (sp__law_walk K)) (c_plan : Cal P w K mg base "plan" 11 P_plan (sp_plan K)) : Cal P w K mg base "_law_planned" 12 P__law_planned (sp__law_planned K) := by
  obtain ⟨fd, F⟩ := c.def_ 47 (d := d__law_planned)
  have F : FunD K "_law_planned" "_law_planned" (defArgs s__law_planned) (defBody s__law_planned) (defScope s__law_planned) [] [] (He.ga K "_law_planned") fd := F
  exact ⟨_, fd, He.glo_ok X G (c.fact 38 (f := .glo "_law_planned")), F.kp, F.bindsN (fun kV doc pm an cdv ct us hl => by match us, hl with | [u0, u1], _ => rfl), fn_D (C := He.ga K "Draft") F sc__law_planned (fun z _ => rfl) fun cdv A outer s H E z hr hd => ⟨_, ps__law_planned T c__law_walk c_plan hr, fun B => do__law_planned z hd⟩⟩
theorem k__law_free (T : Tx K mg (He.ga K "Draft")) (X : K.In h) (G : h.Ns mainGlobals mg) (c : He.SaysD fa fn K) : Cal P w K mg base "_law_free" 1 P__law_free (sp__law_free K) := by
  obtain ⟨fd, F⟩ := c.def_ 48 (d := d__law_free)
  have F : FunD K "_law_free" "_law_free" (defArgs s__law_free) (defBody s__law_free) (defScope s__law_free) [] [] (He.ga K "_law_free") fd := F
  exact ⟨_, fd, He.glo_ok X G (c.fact 39 (f := .glo "_law_free")), F.kp, F.bindsN (fun kV doc pm an cdv ct us hl => by match us, hl with | [u0, u1], _ => rfl), fn_D (C := He.ga K "Draft") F sc__law_free (fun z _ => rfl) fun cdv A outer s H E z hr hd => ⟨_, ps__law_free T hr, fun B => do__law_free z⟩⟩
theorem k__law_applied (T : Tx K mg (He.ga K "Draft")) (X : K.In h) (G : h.Ns mainGlobals mg) (c : He.SaysD fa fn K) (c__law_free : Cal P w K mg base "_law_free" 1 P__law_free (sp__law_free K)) (c_new_pages : Cal P w K mg base "new_pages" 1 P_new_pages (sp_new_pages K)) (c_placed : Cal P w K mg base "placed" 2 P_placed (sp_placed K)) : Cal P w K mg base "_law_applied" 3 P__law_applied (sp__law_applied K) := by
  obtain ⟨fd, F⟩ := c.def_ 49 (d := d__law_applied)
  have F : FunD K "_law_applied" "_law_applied" (defArgs s__law_applied) (defBody s__law_applied) (defScope s__law_applied) [] [] (He.ga K "_law_applied") fd := F
  exact ⟨_, fd, He.glo_ok X G (c.fact 40 (f := .glo "_law_applied")), F.kp, F.bindsN (fun kV doc pm an cdv ct us hl => by match us, hl with | [u0, u1], _ => rfl), fn_D (C := He.ga K "Draft") F sc__law_applied (fun z _ => rfl) fun cdv A outer s H E z hr hd => ⟨_, ps__law_applied T c__law_free c_new_pages c_placed hr, fun B => do__law_applied z hd⟩⟩
theorem k__law_ascending (T : Tx K mg (He.ga K "Draft")) (X : K.In h) (G : h.Ns mainGlobals mg) (c : He.SaysD fa fn K) : Cal P w K mg base "_law_ascending" 1 P__law_ascending (sp__law_ascending K) := by
  obtain ⟨fd, F⟩ := c.def_ 50 (d := d__law_ascending)
  have F : FunD K "_law_ascending" "_law_ascending" (defArgs s__law_ascending) (defBody s__law_ascending) (defScope s__law_ascending) [] [] (He.ga K "_law_ascending") fd := F
  exact ⟨_, fd, He.glo_ok X G (c.fact 41 (f := .glo "_law_ascending")), F.kp, F.bindsN (fun kV doc pm an cdv ct us hl => by match us, hl with | [u0, u1, u2], _ => rfl), fn_D (C := He.ga K "Draft") F sc__law_ascending (fun z _ => rfl) fun cdv A outer s H E z hr hd => ⟨_, ps__law_ascending T hr, fun B => do__law_ascending z hd⟩⟩
theorem k__law_below (T : Tx K mg (He.ga K "Draft")) (X : K.In h) (G : h.Ns mainGlobals mg) (c : He.SaysD fa fn K) : Cal P w K mg base "_law_below" 1 P__law_below (sp__law_below K) := by
  obtain ⟨fd, F⟩ := c.def_ 51 (d := d__law_below)
  have F : FunD K "_law_below" "_law_below" (defArgs s__law_below) (defBody s__law_below) (defScope s__law_below) [] [] (He.ga K "_law_below") fd := F
  exact ⟨_, fd, He.glo_ok X G (c.fact 42 (f := .glo "_law_below")), F.kp, F.bindsN (fun kV doc pm an cdv ct us hl => by match us, hl with | [u0, u1], _ => rfl), fn_D (C := He.ga K "Draft") F sc__law_below (fun z _ => rfl) fun cdv A outer s H E z hr hd => ⟨_, ps__law_below T hr, fun B => do__law_below z hd⟩⟩
theorem k__law_fits (T : Tx K mg (He.ga K "Draft")) (X : K.In h) (G : h.Ns mainGlobals mg) (c : He.SaysD fa fn K) (c__law_ascending : Cal P w K mg base "_law_ascending" 1 P__law_ascending (sp__law_ascending K)) : Cal P w K mg base "_law_fits" 2 P__law_fits (sp__law_fits K) := by
  obtain ⟨fd, F⟩ := c.def_ 52 (d := d__law_fits)
  have F : FunD K "_law_fits" "_law_fits" (defArgs s__law_fits) (defBody s__law_fits) (defScope s__law_fits) [] [] (He.ga K "_law_fits") fd := F
  exact ⟨_, fd, He.glo_ok X G (c.fact 43 (f := .glo "_law_fits")), F.kp, F.bindsN (fun kV doc pm an cdv ct us hl => by match us, hl with | [u0, u1, u2, u3, u4], _ => rfl), fn_D (C := He.ga K "Draft") F sc__law_fits (fun z _ => rfl) fun cdv A outer s H E z hr hd => ⟨_, ps__law_fits T c__law_ascending hr, fun B => do__law_fits z hd⟩⟩
theorem k__law_map (T : Tx K mg (He.ga K "Draft")) (X : K.In h) (G : h.Ns mainGlobals mg) (c : He.SaysD fa fn K) (c__law_below : Cal P w K mg base "_law_below" 1 P__law_below (sp__law_below K)) (c__law_fits : Cal P w K mg base "_law_fits" 2 P__law_fits (sp__law_fits K)) : Cal P w K mg base "_law_map" 3 P__law_map (sp__law_map K) := by
  obtain ⟨fd, F⟩ := c.def_ 53 (d := d__law_map)
  have F : FunD K "_law_map" "_law_map" (defArgs s__law_map) (defBody s__law_map) (defScope s__law_map) [] [] (He.ga K "_law_map") fd := F
  exact ⟨_, fd, He.glo_ok X G (c.fact 44 (f := .glo "_law_map")), F.kp, F.bindsN (fun kV doc pm an cdv ct us hl => by match us, hl with | [u0], _ => rfl), fn_D (C := He.ga K "Draft") F sc__law_map (fun z _ => rfl) fun cdv A outer s H E z hr hd => ⟨_, ps__law_map T c__law_below c__law_fits hr, fun B => do__law_map z hd⟩⟩
theorem k__law_start (T : Tx K mg (He.ga K "Draft")) (X : K.In h) (G : h.Ns mainGlobals mg) (c : He.SaysD fa fn K) : Cal P w K mg base "_law_start" 1 P__law_start (sp__law_start K) := by
  obtain ⟨fd, F⟩ := c.def_ 54 (d := d__law_start)
  have F : FunD K "_law_start" "_law_start" (defArgs s__law_start) (defBody s__law_start) (defScope s__law_start) [] [] (He.ga K "_law_start") fd := F
  exact ⟨_, fd, He.glo_ok X G (c.fact 45 (f := .glo "_law_start")), F.kp, F.bindsN (fun kV doc pm an cdv ct us hl => by match us, hl with | [], _ => rfl), fn_D (C := He.ga K "Draft") F sc__law_start (fun z _ => rfl) fun cdv A outer s H E z hr hd => ⟨_, ps__law_start T hr, fun B => do__law_start ⟩⟩
theorem k__law_filled (T : Tx K mg (He.ga K "Draft")) (X : K.In h) (G : h.Ns mainGlobals mg) (c : He.SaysD fa fn K) (c__law_applied : Cal P w K mg base "_law_applied" 3 P__law_applied (sp__law_applied K)) (c__law_digits : Cal P w K mg base "_law_digits" 1 P__law_digits (sp__law_digits K)) (c__law_planned : Cal P w K mg base "_law_planned" 12 P__law_planned (sp__law_planned K)) (c__law_start : Cal P w K mg base "_law_start" 1 P__law_start (sp__law_start K)) : Cal P w K mg base "_law_filled" 13 P__law_filled (sp__law_filled K) := by
  obtain ⟨fd, F⟩ := c.def_ 55 (d := d__law_filled)
  have F : FunD K "_law_filled" "_law_filled" (defArgs s__law_filled) (defBody s__law_filled) (defScope s__law_filled) [] [] (He.ga K "_law_filled") fd := F
  exact ⟨_, fd, He.glo_ok X G (c.fact 46 (f := .glo "_law_filled")), F.kp, F.bindsN (fun kV doc pm an cdv ct us hl => by match us, hl with | [u0], _ => rfl), fn_D (C := He.ga K "Draft") F sc__law_filled (fun z _ => rfl) fun cdv A outer s H E z hr hd => ⟨_, ps__law_filled T c__law_applied c__law_digits c__law_planned c__law_start hr, fun B => do__law_filled z hd⟩⟩
theorem k__law_fresh (T : Tx K mg (He.ga K "Draft")) (X : K.In h) (G : h.Ns mainGlobals mg) (c : He.SaysD fa fn K) : Cal P w K mg base "_law_fresh" 1 P__law_fresh (sp__law_fresh K) := by
  obtain ⟨fd, F⟩ := c.def_ 56 (d := d__law_fresh)
  have F : FunD K "_law_fresh" "_law_fresh" (defArgs s__law_fresh) (defBody s__law_fresh) (defScope s__law_fresh) [] [] (He.ga K "_law_fresh") fd := F
  exact ⟨_, fd, He.glo_ok X G (c.fact 47 (f := .glo "_law_fresh")), F.kp, F.bindsN (fun kV doc pm an cdv ct us hl => by match us, hl with | [u0], _ => rfl), fn_D (C := He.ga K "Draft") F sc__law_fresh (fun z _ => rfl) fun cdv A outer s H E z hr hd => ⟨_, ps__law_fresh T hr, fun B => do__law_fresh z⟩⟩
theorem k__law_wrong (T : Tx K mg (He.ga K "Draft")) (X : K.In h) (G : h.Ns mainGlobals mg) (c : He.SaysD fa fn K) (c__law_covers : Cal P w K mg base "_law_covers" 1 P__law_covers (sp__law_covers K)) : Cal P w K mg base "_law_wrong" 2 P__law_wrong (sp__law_wrong K) := by
  obtain ⟨fd, F⟩ := c.def_ 57 (d := d__law_wrong)
  have F : FunD K "_law_wrong" "_law_wrong" (defArgs s__law_wrong) (defBody s__law_wrong) (defScope s__law_wrong) [] [] (He.ga K "_law_wrong") fd := F
  exact ⟨_, fd, He.glo_ok X G (c.fact 48 (f := .glo "_law_wrong")), F.kp, F.bindsN (fun kV doc pm an cdv ct us hl => by match us, hl with | [u0, u1, u2], _ => rfl), fn_D (C := He.ga K "Draft") F sc__law_wrong (fun z _ => rfl) fun cdv A outer s H E z hr hd => ⟨_, ps__law_wrong T c__law_covers hr, fun B => do__law_wrong z hd⟩⟩
theorem k__law_read (T : Tx K mg (He.ga K "Draft")) (X : K.In h) (G : h.Ns mainGlobals mg) (c : He.SaysD fa fn K) (c__law_due : Cal P w K mg base "_law_due" 1 P__law_due (sp__law_due K)) (c__law_fresh : Cal P w K mg base "_law_fresh" 1 P__law_fresh (sp__law_fresh K)) (c__law_wrong : Cal P w K mg base "_law_wrong" 2 P__law_wrong (sp__law_wrong K)) : Cal P w K mg base "_law_read" 3 P__law_read (sp__law_read K) := by
  obtain ⟨fd, F⟩ := c.def_ 58 (d := d__law_read)
  have F : FunD K "_law_read" "_law_read" (defArgs s__law_read) (defBody s__law_read) (defScope s__law_read) [] [] (He.ga K "_law_read") fd := F
  exact ⟨_, fd, He.glo_ok X G (c.fact 49 (f := .glo "_law_read")), F.kp, F.bindsN (fun kV doc pm an cdv ct us hl => by match us, hl with | [u0, u1, u2], _ => rfl), fn_D (C := He.ga K "Draft") F sc__law_read (fun z _ => rfl) fun cdv A outer s H E z hr hd => ⟨_, ps__law_read T c__law_due c__law_fresh c__law_wrong hr, fun B => do__law_read z hd⟩⟩
theorem k__law_beside (T : Tx K mg (He.ga K "Draft")) (X : K.In h) (G : h.Ns mainGlobals mg) (c : He.SaysD fa fn K) : Cal P w K mg base "_law_beside" 1 P__law_beside (sp__law_beside K) := by
  obtain ⟨fd, F⟩ := c.def_ 59 (d := d__law_beside)
  have F : FunD K "_law_beside" "_law_beside" (defArgs s__law_beside) (defBody s__law_beside) (defScope s__law_beside) [] [] (He.ga K "_law_beside") fd := F
  exact ⟨_, fd, He.glo_ok X G (c.fact 50 (f := .glo "_law_beside")), F.kp, F.bindsN (fun kV doc pm an cdv ct us hl => by match us, hl with | [u0, u1, u2], _ => rfl), fn_D (C := He.ga K "Draft") F sc__law_beside (fun z _ => rfl) fun cdv A outer s H E z hr hd => ⟨_, ps__law_beside T hr, fun B => do__law_beside z hd⟩⟩
theorem k__law_turn (T : Tx K mg (He.ga K "Draft")) (X : K.In h) (G : h.Ns mainGlobals mg) (c : He.SaysD fa fn K) (c__law_applied : Cal P w K mg base "_law_applied" 3 P__law_applied (sp__law_applied K)) (c__law_beside : Cal P w K mg base "_law_beside" 1 P__law_beside (sp__law_beside K)) (c__law_due : Cal P w K mg base "_law_due" 1 P__law_due (sp__law_due K)) (c__law_fresh : Cal P w K mg base "_law_fresh" 1 P__law_fresh (sp__law_fresh K)) (c__law_map : Cal P w K mg base "_law_map" 3 P__law_map (sp__law_map K)) (c__law_read : Cal P w K mg base "_law_read" 3 P__law_read (sp__law_read K)) (c_plan : Cal P w K mg base "plan" 11 P_plan (sp_plan K)) : Cal P w K mg base "_law_turn" 12 P__law_turn (sp__law_turn K) := by
  obtain ⟨fd, F⟩ := c.def_ 60 (d := d__law_turn)
  have F : FunD K "_law_turn" "_law_turn" (defArgs s__law_turn) (defBody s__law_turn) (defScope s__law_turn) [] [] (He.ga K "_law_turn") fd := F
  exact ⟨_, fd, He.glo_ok X G (c.fact 51 (f := .glo "_law_turn")), F.kp, F.bindsN (fun kV doc pm an cdv ct us hl => by match us, hl with | [u0, u1, u2], _ => rfl), fn_D (C := He.ga K "Draft") F sc__law_turn (fun z _ => rfl) fun cdv A outer s H E z hr hd => ⟨_, ps__law_turn T c__law_applied c__law_beside c__law_due c__law_fresh c__law_map c__law_read c_plan hr, fun B => do__law_turn z hd⟩⟩
theorem k_law (X : K.In h) (G : h.Ns mainGlobals mg) (c : He.SaysD fa fn K) {fd : FuncData} (F : FunD K "law" "law" (defArgs s_law) (defBody s_law) (defScope s_law) [] [] (He.ga K "law") fd) : FnOk P w K mg base CX0 20 (He.ga K "law") fd P_law (spLaw K) := by
  have T := tx_ok X G c
  have c_is_integer : Cal P w K mg base "is_integer" 1 P_is_integer (sp_is_integer K) := k_is_integer T X G c
  have c_is_bound : Cal P w K mg base "is_bound" 2 P_is_bound (sp_is_bound K) := k_is_bound T X G c c_is_integer
  have c_are_integers : Cal P w K mg base "are_integers" 2 P_are_integers (sp_are_integers K) := k_are_integers T X G c c_is_integer
  have c_are_ascending : Cal P w K mg base "are_ascending" 1 P_are_ascending (sp_are_ascending K) := k_are_ascending T X G c
  have c_is_above : Cal P w K mg base "is_above" 1 P_is_above (sp_is_above K) := k_is_above T X G c
  have c_is_below : Cal P w K mg base "is_below" 1 P_is_below (sp_is_below K) := k_is_below T X G c
  have c_is_leaf : Cal P w K mg base "is_leaf" 3 P_is_leaf (sp_is_leaf K) := k_is_leaf T X G c c_are_ascending c_are_integers c_is_above c_is_below c_is_bound
  have c_is_inner : Cal P w K mg base "is_inner" 3 P_is_inner (sp_is_inner K) := k_is_inner T X G c c_are_ascending c_are_integers c_is_below c_is_bound c_is_integer
  have c_is_record : Cal P w K mg base "is_record" 4 P_is_record (sp_is_record K) := k_is_record T X G c c_is_inner c_is_integer c_is_leaf
  have c_checked : Cal P w K mg base "checked" 5 P_checked (sp_checked K) := k_checked T X G c c_is_record
  have c_leaf : Cal P w K mg base "leaf" 6 P_leaf (sp_leaf K) := k_leaf T X G c c_checked
  have c_inner : Cal P w K mg base "inner" 6 P_inner (sp_inner K) := k_inner T X G c c_checked
  have c_level_of : Cal P w K mg base "level_of" 1 P_level_of (sp_level_of K) := k_level_of T X G c
  have c_bounds_of : Cal P w K mg base "bounds_of" 1 P_bounds_of (sp_bounds_of K) := k_bounds_of T X G c
  have c_size_of : Cal P w K mg base "size_of" 1 P_size_of (sp_size_of K) := k_size_of T X G c
  have c_value_in : Cal P w K mg base "value_in" 1 P_value_in (sp_value_in K) := k_value_in T X G c
  have c_place_of : Cal P w K mg base "place_of" 1 P_place_of (sp_place_of K) := k_place_of T X G c
  have c_child_bounds : Cal P w K mg base "child_bounds" 1 P_child_bounds (sp_child_bounds K) := k_child_bounds T X G c
  have c_with_value : Cal P w K mg base "with_value" 7 P_with_value (sp_with_value K) := k_with_value T X G c c_leaf c_place_of
  have c_without_key : Cal P w K mg base "without_key" 7 P_without_key (sp_without_key K) := k_without_key T X G c c_leaf c_place_of
  have c_with_child : Cal P w K mg base "with_child" 7 P_with_child (sp_with_child K) := k_with_child T X G c c_inner
  have c_without_child : Cal P w K mg base "without_child" 7 P_without_child (sp_without_child K) := k_without_child T X G c c_inner
  have c_with_separator : Cal P w K mg base "with_separator" 7 P_with_separator (sp_with_separator K) := k_with_separator T X G c c_inner
  have c_cut : Cal P w K mg base "cut" 7 P_cut (sp_cut K) := k_cut T X G c c_inner c_leaf c_size_of
  have c_joined : Cal P w K mg base "joined" 7 P_joined (sp_joined K) := k_joined T X G c c_bounds_of c_inner c_leaf
  have c_leaf_change : Cal P w K mg base "leaf_change" 8 P_leaf_change (sp_leaf_change K) := k_leaf_change T X G c c_value_in c_with_value c_without_key
  have c_most_of : Cal P w K mg base "most_of" 2 P_most_of (sp_most_of K) := k_most_of T X G c c_level_of
  have c_Draft___init__ : CalI P w K mg base (He.ga K "Draft") 1 P_Draft___init__ (sp_Draft___init__ K (He.ga K "Draft")) := k_Draft___init__ T X G c
  have c_Draft_give : CalM P w K mg base (He.ga K "Draft") "give" 1 P_Draft_give (sp_Draft_give K (He.ga K "Draft")) := k_Draft_give T X G c
  have c_Draft_add_page : CalM P w K mg base (He.ga K "Draft") "add_page" 1 P_Draft_add_page (sp_Draft_add_page K (He.ga K "Draft")) := k_Draft_add_page T X G c
  have c_Draft_entries : CalM P w K mg base (He.ga K "Draft") "entries" 1 P_Draft_entries (sp_Draft_entries K (He.ga K "Draft")) := k_Draft_entries T X G c
  have c_Draft_place_in_parent : CalM P w K mg base (He.ga K "Draft") "place_in_parent" 2 P_Draft_place_in_parent (sp_Draft_place_in_parent K (He.ga K "Draft")) := k_Draft_place_in_parent T X G c c_bounds_of c_child_bounds c_size_of
  have c_Draft_divide : CalM P w K mg base (He.ga K "Draft") "divide" 8 P_Draft_divide (sp_Draft_divide K (He.ga K "Draft")) := k_Draft_divide T X G c c_Draft_add_page c_Draft_give c_Draft_place_in_parent c_cut c_inner c_level_of c_with_child
  have c_Draft_unite_pair : CalM P w K mg base (He.ga K "Draft") "unite_pair" 8 P_Draft_unite_pair (sp_Draft_unite_pair K (He.ga K "Draft")) := k_Draft_unite_pair T X G c c_Draft_give c_bounds_of c_cut c_joined c_most_of c_size_of c_with_separator c_without_child
  have c_Draft_unite : CalM P w K mg base (He.ga K "Draft") "unite" 9 P_Draft_unite (sp_Draft_unite K (He.ga K "Draft")) := k_Draft_unite T X G c c_Draft_place_in_parent c_Draft_unite_pair c_bounds_of c_child_bounds c_level_of
  have c_Draft_settle : CalM P w K mg base (He.ga K "Draft") "settle" 10 P_Draft_settle (sp_Draft_settle K (He.ga K "Draft")) := k_Draft_settle T X G c c_Draft_divide c_Draft_give c_Draft_unite c_most_of c_size_of
  have c_plan : Cal P w K mg base "plan" 11 P_plan (sp_plan K) := k_plan T X G c c_Draft___init__ c_Draft_entries c_Draft_settle c_leaf_change
  have c_new_pages : Cal P w K mg base "new_pages" 1 P_new_pages (sp_new_pages K) := k_new_pages T X G c
  have c_real_page : Cal P w K mg base "real_page" 1 P_real_page (sp_real_page K) := k_real_page T X G c
  have c_placed : Cal P w K mg base "placed" 2 P_placed (sp_placed K) := k_placed T X G c c_real_page
  have c__law_cell : Cal P w K mg base "_law_cell" 1 P__law_cell (sp__law_cell K) := k__law_cell T X G c
  have c__law_digits : Cal P w K mg base "_law_digits" 1 P__law_digits (sp__law_digits K) := k__law_digits T X G c
  have c__law_many : Cal P w K mg base "_law_many" 1 P__law_many (sp__law_many K) := k__law_many T X G c
  have c__law_call : Cal P w K mg base "_law_call" 2 P__law_call (sp__law_call K) := k__law_call T X G c c__law_digits
  have c__law_due : Cal P w K mg base "_law_due" 1 P__law_due (sp__law_due K) := k__law_due T X G c
  have c__law_covers : Cal P w K mg base "_law_covers" 1 P__law_covers (sp__law_covers K) := k__law_covers T X G c
  have c__law_walk : Cal P w K mg base "_law_walk" 1 P__law_walk (sp__law_walk K) := k__law_walk T X G c
  have c__law_planned : Cal P w K mg base "_law_planned" 12 P__law_planned (sp__law_planned K) := k__law_planned T X G c c__law_walk c_plan
  have c__law_free : Cal P w K mg base "_law_free" 1 P__law_free (sp__law_free K) := k__law_free T X G c
  have c__law_applied : Cal P w K mg base "_law_applied" 3 P__law_applied (sp__law_applied K) := k__law_applied T X G c c__law_free c_new_pages c_placed
  have c__law_ascending : Cal P w K mg base "_law_ascending" 1 P__law_ascending (sp__law_ascending K) := k__law_ascending T X G c
  have c__law_below : Cal P w K mg base "_law_below" 1 P__law_below (sp__law_below K) := k__law_below T X G c
  have c__law_fits : Cal P w K mg base "_law_fits" 2 P__law_fits (sp__law_fits K) := k__law_fits T X G c c__law_ascending
  have c__law_map : Cal P w K mg base "_law_map" 3 P__law_map (sp__law_map K) := k__law_map T X G c c__law_below c__law_fits
  have c__law_start : Cal P w K mg base "_law_start" 1 P__law_start (sp__law_start K) := k__law_start T X G c
  have c__law_filled : Cal P w K mg base "_law_filled" 13 P__law_filled (sp__law_filled K) := k__law_filled T X G c c__law_applied c__law_digits c__law_planned c__law_start
  have c__law_fresh : Cal P w K mg base "_law_fresh" 1 P__law_fresh (sp__law_fresh K) := k__law_fresh T X G c
  have c__law_wrong : Cal P w K mg base "_law_wrong" 2 P__law_wrong (sp__law_wrong K) := k__law_wrong T X G c c__law_covers
  have c__law_read : Cal P w K mg base "_law_read" 3 P__law_read (sp__law_read K) := k__law_read T X G c c__law_due c__law_fresh c__law_wrong
  have c__law_beside : Cal P w K mg base "_law_beside" 1 P__law_beside (sp__law_beside K) := k__law_beside T X G c
  have c__law_turn : Cal P w K mg base "_law_turn" 12 P__law_turn (sp__law_turn K) := k__law_turn T X G c c__law_applied c__law_beside c__law_due c__law_fresh c__law_map c__law_read c_plan
  have k : FnOk P w K mg base CX0 14 (He.ga K "law") fd P_law (spD K (fun ns : List Int => [D.scr ns]) (fun ns => ns.length ≤ 63) (fun _ => D.bl true)) :=
    fn_D (C := He.ga K "Draft") F sc_law (fun z _ => rfl) fun cdv A outer s H E z hr hd => ⟨_, ps_law T c__law_call c__law_cell c__law_filled c__law_fresh c__law_many c__law_map c__law_turn hr, fun B => do_law plain z hd⟩
  refine (k.imp fun vs H Q E z => ?_).mono (by decide)
  obtain ⟨a, ns, rfl, hS, hlen, hq⟩ := z
  exact ⟨H, ns, Same.refl H, .cons (.scr hS) .nil, hlen, fun v B' H' _ r => by cases r; exact hq H'⟩
end
theorem holds : PySem.Challenge.rw_espalier_k33_whole_plans_of_old_paths.Holds := by
  refine fin fun {P w K h mg f} X G hfa c => ?_
  obtain ⟨fd, F⟩ := c.def_ 61 (d := d_law)
  have F : FunD K "law" "law" (defArgs s_law) (defBody s_law) (defScope s_law) [] [] (He.ga K "law") fd := F
  have hf : mg ("law" : Str) = some (.ref (He.ga K "law")) := He.glo_ok X G (c.fact 52 (f := .glo "law"))
  have e : f = He.ga K "law" := by
    rw [hfa] at hf
    cases hf
    rfl
  subst e
  refine ⟨fd, fun s v => F.bindsA (ps := ["_law_script"]) (fun kV doc pm an cdv ct us hl => by match us, hl with | [u0], _ => rfl) s [v] rfl, fun base X' G' => k_law X' G' c F⟩
end Esp

theorem PySem.Challenge.cw_espalier_k33_whole_plans_of_old_paths_holds : PySem.Challenge.rw_espalier_k33_whole_plans_of_old_paths.Holds := by
  exact Esp.holds
