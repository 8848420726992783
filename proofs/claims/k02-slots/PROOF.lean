import PyProof.Rows.All
import Wide.All
import OpenK.AllK
import Wide.FinOn
import HandS.ForMost
import HandS.ForExc
import HandS.More
import HandS.CallSlots
import HandS.IsInst
import HandS.ExcIs
import HandS.SortInts
import HandS.Wide
import HandS.SetFor
import HandS.HotCalls
import HandS.Conv
import PySem.Challenge.RW_lastwill_k02_slots
set_option Elab.async false
set_option linter.all false
set_option maxRecDepth 100000
/-! Data, what represents it, owned cells, the state. -/
namespace Lw
open PySem L2

/-- plain data; obj: a bare reference; ty: a built-in type -/
inductive D where
  | non
  | bl (b : Bool)
  | int (i : Int)
  | str (x : Str)
  | obj (a : Addr)
  | ty (n : String)
  | tup (ds : List D)
  | lst (ds : List D)

mutual
def Rep (S : Hp) : D → V → Prop
  | .non, v => v = .non
  | .bl b, v => v = .bl b
  | .int i, v => v = .int i
  | .str x, v => v = .str x
  | .obj a, v => v = .ref a
  | .ty n, v => v = .ty n
  | .tup ds, v => ∃ a xs, v = .ref a ∧ S a = some (.tup xs) ∧ RepL S ds xs
  | .lst ds, v => ∃ a xs, v = .ref a ∧ S a = some (.lst xs) ∧ RepL S ds xs
def RepL (S : Hp) : List D → List V → Prop
  | [], xs => xs = []
  | d :: ds, xs => ∃ x r, xs = x :: r ∧ Rep S d x ∧ RepL S ds r
end

def Ex (H H' : Hp) : Prop := ∀ a o, H a = some o → H' a = some o
theorem Ex.refl (H : Hp) : Ex H H := fun _ _ h => h
theorem Ex.trans {H H1 H2 : Hp} (a : Ex H H1) (b : Ex H1 H2) : Ex H H2 := fun x o h => b x o (a x o h)
theorem Ex.new {H H' : Hp} {p : Addr} {o : HO} (e : Ex H H') (h : H' p = none) : Ex H (upd H' p o) := fun a u ha => by
  rw [upd_ne (ne_of_none (e a u ha) h)]
  exact e a u ha
theorem Ex.free {H H' : Hp} {p : Addr} (e : Ex H H') (h : H' p = none) : H p = none := by
  cases q : H p with
  | none => rfl
  | some o => rw [e p o q] at h; cases h
theorem Ex.both {H H' : Hp} {p : Addr} {o : HO} (e : Ex H H') : Ex (upd H p o) (upd H' p o) := fun a u ha => by
  by_cases z : a = p
  · subst z; rw [upd_same] at ha ⊢; exact ha
  · rw [upd_ne z] at ha ⊢; exact e a u ha
/-- an object that H does not know may change -/
theorem Ex.mut {H H' : Hp} {p : Addr} {o : HO} (e : Ex H H') (h : H p = none) : Ex H (upd H' p o) := fun a u ha => by
  rw [upd_ne (ne_of_none ha h)]
  exact e a u ha

mutual
theorem Rep.mono {S S' : Hp} (e : Ex S S') : ∀ (d : D) (v : V), Rep S d v → Rep S' d v
  | .non, _, h => h
  | .bl _, _, h => h
  | .int _, _, h => h
  | .str _, _, h => h
  | .obj _, _, h => h
  | .ty _, _, h => h
  | .tup ds, _, ⟨a, xs, e1, e2, e3⟩ => ⟨a, xs, e1, e a _ e2, RepL.mono e ds xs e3⟩
  | .lst ds, _, ⟨a, xs, e1, e2, e3⟩ => ⟨a, xs, e1, e a _ e2, RepL.mono e ds xs e3⟩
theorem RepL.mono {S S' : Hp} (e : Ex S S') : ∀ (ds : List D) (xs : List V), RepL S ds xs → RepL S' ds xs
  | [], _, h => h
  | d :: ds, _, ⟨x, r, e1, e2, e3⟩ => ⟨x, r, e1, Rep.mono e d x e2, RepL.mono e ds r e3⟩
end
theorem RepL.length {S : Hp} : ∀ {ds : List D} {xs : List V}, RepL S ds xs → ds.length = xs.length
  | [], _, h => by cases h; rfl
  | d :: ds, _, ⟨x, r, e1, _, e3⟩ => by subst e1; simp [RepL.length e3]
theorem RepL.cons {S : Hp} {d : D} {ds : List D} {x : V} {xs : List V} (h : Rep S d x) (t : RepL S ds xs) : RepL S (d :: ds) (x :: xs) := ⟨x, xs, rfl, h, t⟩
theorem RepL.hd {S : Hp} {d : D} {ds : List D} {x : V} {xs : List V} (h : RepL S (d :: ds) (x :: xs)) : Rep S d x := by
  obtain ⟨y, r, e, h1, _⟩ := h; cases e; exact h1
theorem RepL.tl {S : Hp} {d : D} {ds : List D} {x : V} {xs : List V} (h : RepL S (d :: ds) (x :: xs)) : RepL S ds xs := by
  obtain ⟨y, r, e, _, h1⟩ := h; cases e; exact h1
theorem RepL.app {S : Hp} : ∀ {ds es : List D} {xs ys : List V}, RepL S ds xs → RepL S es ys → RepL S (ds ++ es) (xs ++ ys)
  | [], _, _, _, h, k => by cases h; exact k
  | d :: ds, _, _, _, ⟨x, r, e1, e2, e3⟩, k => by subst e1; exact ⟨x, r ++ _, rfl, e2, RepL.app e3 k⟩
theorem RepL.split {S : Hp} : ∀ {ds es : List D} {zs : List V}, RepL S (ds ++ es) zs → ∃ xs ys, zs = xs ++ ys ∧ RepL S ds xs ∧ RepL S es ys
  | [], _, zs, h => ⟨[], zs, rfl, rfl, h⟩
  | d :: ds, es, zs, ⟨x, r, e1, e2, e3⟩ => by
    obtain ⟨xs, ys, q1, q2, q3⟩ := RepL.split e3
    exact ⟨x :: xs, ys, by rw [e1, q1]; rfl, ⟨x, xs, rfl, e2, q2⟩, q3⟩
theorem RepL.at {S : Hp} : ∀ {ds : List D} {xs : List V} {i : Nat} {d : D}, RepL S ds xs → ds[i]? = some d → ∃ x, xs[i]? = some x ∧ Rep S d x
  | [], _, _, _, _, e => by simp at e
  | _ :: _, _, 0, _, ⟨x, r, e1, e2, _⟩, e => by subst e1; simp at e; subst e; exact ⟨x, rfl, e2⟩
  | _ :: _, _, i + 1, d, ⟨x, r, e1, _, e3⟩, e => by
    subst e1
    obtain ⟨y, h1, h2⟩ := RepL.at (i := i) (d := d) e3 (by simpa using e)
    exact ⟨y, by simpa using h1, h2⟩
theorem RepL.at' {S : Hp} {ds : List D} {xs : List V} {i : Nat} {x : V} (h : RepL S ds xs) (e : xs[i]? = some x) : ∃ d, ds[i]? = some d ∧ Rep S d x := by
  have hi := (List.getElem?_eq_some_iff.mp e).1
  have hi' : i < ds.length := by rw [h.length]; exact hi
  obtain ⟨y, h1, h2⟩ := h.at (List.getElem?_eq_getElem hi')
  rw [e] at h1; cases h1
  exact ⟨_, List.getElem?_eq_getElem hi', h2⟩
theorem RepL.set {S : Hp} : ∀ {ds : List D} {xs : List V} (i : Nat) {d : D} {x : V}, RepL S ds xs → Rep S d x → RepL S (ds.set i d) (xs.set i x)
  | [], _, _, _, _, h, _ => by cases h; exact rfl
  | _ :: _, _, 0, _, _, ⟨x, r, e1, _, e3⟩, k => by subst e1; exact ⟨_, r, rfl, k, e3⟩
  | _ :: _, _, i + 1, _, _, ⟨x, r, e1, e2, e3⟩, k => by subst e1; exact ⟨x, _, rfl, e2, RepL.set i e3 k⟩
theorem RepL.take {S : Hp} : ∀ {ds : List D} {xs : List V} (n : Nat), RepL S ds xs → RepL S (ds.take n) (xs.take n)
  | [], _, n, h => by cases h; simp [RepL]
  | _ :: _, _, 0, _ => by simp [RepL]
  | _ :: _, _, n + 1, ⟨x, r, e1, e2, e3⟩ => by subst e1; exact ⟨x, r.take n, rfl, e2, RepL.take n e3⟩
theorem RepL.drop {S : Hp} : ∀ {ds : List D} {xs : List V} (n : Nat), RepL S ds xs → RepL S (ds.drop n) (xs.drop n)
  | [], _, n, h => by cases h; simp [RepL]
  | _ :: _, _, 0, h => h
  | _ :: _, _, n + 1, ⟨x, r, e1, e2, e3⟩ => by subst e1; exact RepL.drop n e3
theorem RepL.dropLast {S : Hp} {ds : List D} {xs : List V} (h : RepL S ds xs) : RepL S ds.dropLast xs.dropLast := by
  rw [List.dropLast_eq_take, List.dropLast_eq_take, h.length]; exact h.take _
theorem RepL.eraseIdx {S : Hp} {ds : List D} {xs : List V} (n : Nat) (h : RepL S ds xs) : RepL S (ds.eraseIdx n) (xs.eraseIdx n) := by
  rw [List.eraseIdx_eq_take_drop_succ, List.eraseIdx_eq_take_drop_succ]; exact (h.take _).app (h.drop _)
theorem RepL.ints {S : Hp} : ∀ (ns : List Int) {xs : List V}, RepL S (ns.map D.int) xs ↔ xs = ns.map V.int
  | [], _ => Iff.rfl
  | n :: ns, xs => by
    constructor
    · rintro ⟨x, r, rfl, e2, e3⟩
      have e2' : x = V.int n := e2
      rw [e2', (RepL.ints ns).mp e3]; rfl
    · intro e; exact ⟨.int n, ns.map V.int, e, rfl, (RepL.ints ns).mpr rfl⟩
theorem RepL.bls {S : Hp} : ∀ (ns : List Bool) {xs : List V}, RepL S (ns.map D.bl) xs ↔ xs = ns.map V.bl
  | [], _ => Iff.rfl
  | n :: ns, xs => by
    constructor
    · rintro ⟨x, r, rfl, e2, e3⟩
      have e2' : x = V.bl n := e2
      rw [e2', (RepL.bls ns).mp e3]; rfl
    · intro e; exact ⟨.bl n, ns.map V.bl, e, rfl, (RepL.bls ns).mpr rfl⟩
theorem RepL.strs {S : Hp} : ∀ (ns : List Str) {xs : List V}, RepL S (ns.map D.str) xs ↔ xs = ns.map V.str
  | [], _ => Iff.rfl
  | n :: ns, xs => by
    constructor
    · rintro ⟨x, r, rfl, e2, e3⟩
      have e2' : x = V.str n := e2
      rw [e2', (RepL.strs ns).mp e3]; rfl
    · intro e; exact ⟨.str n, ns.map V.str, e, rfl, (RepL.strs ns).mpr rfl⟩
theorem RepL.rep {S : Hp} {d : D} {v : V} (h : Rep S d v) : ∀ n : Nat, RepL S (List.replicate n d) (List.replicate n v)
  | 0 => rfl
  | n + 1 => ⟨v, _, rfl, h, RepL.rep h n⟩

/-! ### tables with whole-number keys -/
section
variable {α β : Type}
def aGet (l : List (Int × α)) (k : Int) : Option α := (l.find? fun p => decide (p.1 = k)).map (·.2)
def aPut (l : List (Int × α)) (k : Int) (v : α) : List (Int × α) :=
  if (l.any fun p => decide (p.1 = k)) = true then l.map (fun p => if p.1 = k then (p.1, v) else p) else l ++ [(k, v)]
def aDrop (l : List (Int × α)) (k : Int) : List (Int × α) := l.filter fun p => decide (p.1 ≠ k)
/-- a table's entries, one by one -/
def KVr (R : α → V → Prop) : List (Int × α) → List (Key × V) → Prop := Paired fun p q => q.1 = Sum.inl p.1 ∧ R p.2 q.2
variable {R R' : α → V → Prop} {l : List (Int × α)} {kvs : List (Key × V)}
theorem KVr.mono (h : KVr R l kvs) (f : ∀ a v, R a v → R' a v) : KVr R' l kvs := Paired.mapP h fun _ _ x => ⟨x.1, f _ _ x.2⟩
theorem KVr.length (h : KVr R l kvs) : l.length = kvs.length := Paired.length h
theorem inl_dec {a b : Int} : decide ((Sum.inl a : Key) = Sum.inl b) = decide (a = b) := by
  by_cases e : a = b
  · subst e; simp
  · have : ¬ ((Sum.inl a : Key) = Sum.inl b) := fun q => e (Sum.inl.inj q)
    rw [decide_eq_false e, decide_eq_false this]
theorem KVr.get (k : Int) : ∀ {l : List (Int × α)} {kvs : List (Key × V)}, KVr R l kvs → (aGet l k = none ∧ valV kvs (Sum.inl k) = none) ∨ ∃ a v, aGet l k = some a ∧ valV kvs (Sum.inl k) = some v ∧ R a v
  | _, _, .nil => .inl ⟨rfl, rfl⟩
  | (p :: l), (q :: kvs), .cons ⟨e, r⟩ t => by
    by_cases h : p.1 = k
    · refine .inr ⟨p.2, q.2, ?_, ?_, r⟩
      · simp [aGet, h]
      · exact valV_pos (by rw [e, h])
    · have h' : ¬ q.1 = Sum.inl k := by rw [e]; exact fun z => h (Sum.inl.inj z)
      have e1 : aGet (p :: l) k = aGet l k := by simp [aGet, h]
      rw [e1, valV_neg h']
      exact KVr.get k t
theorem KVr.any (h : KVr R l kvs) (k : Int) : (kvs.any fun kv => decide (kv.1 = (Sum.inl k : Key))) = l.any fun p => decide (p.1 = k) := by
  induction h with
  | nil => rfl
  | cons r t ih => rw [List.any_cons, List.any_cons, ih, r.1, inl_dec]
theorem KVr.put (h : KVr R l kvs) (k : Int) {a : α} {v : V} (r : R a v) : KVr R (aPut l k a) (putK kvs (Sum.inl k) v) := by
  unfold aPut putK
  rw [h.any k]
  split
  · have mp : ∀ {l : List (Int × α)} {kvs : List (Key × V)}, KVr R l kvs → KVr R (l.map fun p => if p.1 = k then (p.1, a) else p) (kvs.map fun kv => if kv.1 = Sum.inl k then (kv.1, v) else kv) := by
      intro l kvs h
      induction h with
      | nil => exact .nil
      | @cons p q l kvs x t ih =>
        refine .cons ?_ ih
        obtain ⟨e, y⟩ := x
        show (if q.1 = Sum.inl k then (q.1, v) else q).1 = Sum.inl (if p.1 = k then (p.1, a) else p).1 ∧ R (if p.1 = k then (p.1, a) else p).2 (if q.1 = Sum.inl k then (q.1, v) else q).2
        by_cases z : p.1 = k
        · rw [if_pos z, if_pos (by rw [e, z])]; exact ⟨e, r⟩
        · rw [if_neg z, if_neg (by rw [e]; exact fun w => z (Sum.inl.inj w))]; exact ⟨e, y⟩
    exact mp h
  · have app : ∀ {l : List (Int × α)} {kvs : List (Key × V)}, KVr R l kvs → KVr R (l ++ [(k, a)]) (kvs ++ [(Sum.inl k, v)]) := by
      intro l kvs h
      induction h with
      | nil => exact .cons ⟨rfl, r⟩ .nil
      | cons x t ih => exact .cons x ih
    exact app h
theorem KVr.drop (h : KVr R l kvs) (k : Int) : KVr R (aDrop l k) (dropK kvs (Sum.inl k)) := by
  unfold aDrop dropK
  induction h with
  | nil => exact .nil
  | @cons p q l kvs x t ih =>
    obtain ⟨e, y⟩ := x
    by_cases z : p.1 = k
    · rw [List.filter_cons_of_neg (by simp [z]), List.filter_cons_of_neg (by simp [e, z])]; exact ih
    · rw [List.filter_cons_of_pos (by simp [z]), List.filter_cons_of_pos (by simp only [e, ne_eq, decide_not, Bool.not_eq_true', decide_eq_false_iff_not]; exact fun w => z (Sum.inl.inj w))]
      exact .cons ⟨e, y⟩ ih
theorem KVr.keys (h : KVr R l kvs) : kvs.map (·.1) = (l.map (·.1)).map Sum.inl := by
  induction h with
  | nil => rfl
  | cons x t ih => rw [List.map_cons, List.map_cons, List.map_cons, ih, x.1]
theorem KVr.at (h : KVr R l kvs) {i : Nat} {p : Int × α} (e : l[i]? = some p) : ∃ v, kvs[i]? = some (Sum.inl p.1, v) ∧ R p.2 v := by
  induction h generalizing i with
  | nil => simp at e
  | cons x t ih =>
    cases i with
    | zero => simp at e; subst e; exact ⟨_, by simp [← x.1], x.2⟩
    | succ i => obtain ⟨v, h1, h2⟩ := ih (i := i) (by simpa using e); exact ⟨v, by simpa using h1, h2⟩
end
theorem aGet_put {α : Type} (l : List (Int × α)) (k j : Int) (v : α) : aGet (aPut l k v) j = if j = k then some v else aGet l j := by
  unfold aPut
  by_cases h : (l.any fun p => decide (p.1 = k)) = true
  · rw [if_pos h]
    induction l with
    | nil => simp at h
    | cons p l ih =>
      rw [List.map_cons]
      by_cases e : p.1 = k
      · rw [if_pos e]
        by_cases ej : j = k
        · subst ej; simp [aGet, e]
        · rw [if_neg ej]
          have n1 : ¬ p.1 = j := by rw [e]; exact fun z => ej z.symm
          have q1 : aGet ((p.1, v) :: l.map fun p => if p.1 = k then (p.1, v) else p) j = aGet (l.map fun p => if p.1 = k then (p.1, v) else p) j := by simp [aGet, n1]
          have q2 : aGet (p :: l) j = aGet l j := by simp [aGet, n1]
          rw [q1, q2]
          by_cases h2 : (l.any fun p => decide (p.1 = k)) = true
          · rw [ih h2, if_neg ej]
          · have : (l.map fun p => if p.1 = k then (p.1, v) else p) = l := by
              have hn : ∀ x ∈ l, ¬ x.1 = k := by
                intro x hx ex; exact h2 (List.any_eq_true.mpr ⟨x, hx, by simp [ex]⟩)
              clear ih h h2 q1 q2
              induction l with
              | nil => rfl
              | cons y l ih2 => rw [List.map_cons, if_neg (hn y (List.mem_cons_self)), ih2 fun x hx => hn x (List.mem_cons_of_mem _ hx)]
            rw [this]
      · rw [if_neg e]
        have h2 : (l.any fun p => decide (p.1 = k)) = true := by simpa [e] using h
        by_cases e1 : p.1 = j
        · have : ¬ j = k := by rw [← e1]; exact e
          rw [if_neg this]; simp [aGet, e1]
        · have q1 : aGet (p :: l.map fun p => if p.1 = k then (p.1, v) else p) j = aGet (l.map fun p => if p.1 = k then (p.1, v) else p) j := by simp [aGet, e1]
          have q2 : aGet (p :: l) j = aGet l j := by simp [aGet, e1]
          rw [q1, q2, ih h2]
  · rw [if_neg h]
    have hn : aGet l k = none := by
      unfold aGet
      rw [Option.map_eq_none_iff, List.find?_eq_none]
      intro x hx ex; exact h (List.any_eq_true.mpr ⟨x, hx, ex⟩)
    unfold aGet at hn ⊢
    rw [List.find?_append]
    by_cases ej : j = k
    · subst ej
      rw [if_pos rfl]
      have : (l.find? fun p => decide (p.1 = j)) = none := by simpa using hn
      rw [this]; simp
    · rw [if_neg ej]
      cases q : l.find? fun p => decide (p.1 = j) with
      | some x => simp
      | none =>
        have : ¬ k = j := fun z => ej z.symm
        simp [this]
end Lw

/-! Owned cells, the state, its moves. -/
namespace Lw
open PySem L2

inductive Deed where
  | up
  | down (o : Int)
  | hang (o s : Int) (h : Bool)
  deriving DecidableEq
/-- boxes with their slots, hands, pairs, wills, the numbers that come next -/
structure CS where
  slots : List (Int × List (Option (Int × Bool)))
  held : List Int
  paired : List (Int × (Int × Int × Int))
  wills : List (Int × List Deed)
  coming : Int
  next : Int
def Deed.d : Deed → D
  | .up => .tup [.str "up"]
  | .down o => .tup [.str "down", .int o]
  | .hang o s h => .tup [.str "hang", .int o, .int s, .bl h]
def slotD : Option (Int × Bool) → D
  | none => .non
  | some (o, h) => .tup [.int o, .bl h]
def pairD (p : Int × Int × Int) : D := .tup [.int p.1, .int p.2.1, .int p.2.2]
def heldT (l : List Int) : List (Int × D) := l.map fun b => (b, .bl true)
def pairT (l : List (Int × (Int × Int × Int))) : List (Int × D) := l.map fun p => (p.1, pairD p.2)
def willT (l : List (Int × List Deed)) : List (Int × D) := l.map fun p => (p.1, .lst (p.2.map Deed.d))
/-- the slots' lists at their places -/
def SlotsAre (kvs : List (Int × (Addr × List D))) (l : List (Int × List (Option (Int × Bool)))) : Prop := kvs.map (fun p => (p.1, p.2.2)) = l.map fun p => (p.1, p.2.map slotD)

inductive Own where
  | emp
  | ol (ds : List D)
  | od (kvs : List (Int × D))
  | odF (kvs : List (Int × D))
  | dol (kvs : List (Int × (Addr × List D)))
  | dolF (kvs : List (Int × (Addr × List D)))
  | ins (C : Addr) (fs : List (Str × D))
  | scr (ns : List Int)
  | chest (C : Addr) (c : CS)
  | world (w : CS)
  | view (w : CS)
abbrev Rs := List (Addr × Own)

def FsR (S : Hp) : List (Str × D) → List (Str × V) → Prop := Paired fun p q => q.1 = p.1 ∧ Rep S p.2 q.2
def Lists (S T : Hp) (kvs : List (Int × (Addr × List D))) : Prop := (kvs.map (·.1)).Nodup ∧ (kvs.map (·.2.1)).Nodup ∧ ∀ p ∈ kvs, ∃ xs, T p.2.1 = some (.lst xs) ∧ RepL S p.2.2 xs
/-- the plain cells -/
def BasAt (K : PySem.W.Frag) (S T : Hp) (a : Addr) : Own → Prop
  | .emp => True
  | .ol ds => ∃ xs, T a = some (.lst xs) ∧ RepL S ds xs
  | .od kvs => ∃ kv, T a = some (.dK kv) ∧ KVr (Rep S) kvs kv
  | .odF kvs => ∃ o kv, T a = some (.frz o (.dK kv)) ∧ KVr (Rep S) kvs kv
  | .dol kvs => (∃ kv, T a = some (.dK kv) ∧ KVr (fun p v => v = .ref p.1) kvs kv) ∧ Lists S T kvs
  | .dolF kvs => (∃ o kv, T a = some (.frz o (.dK kv)) ∧ KVr (fun p v => v = .ref p.1) kvs kv) ∧ Lists S T kvs
  | .ins C fs => ∃ dx fv, T a = some (.ins C dx fv) ∧ FsR S fs fv
  | .scr ns => SqL K T a (ns.map V.int)
  | _ => False
/-- several plain cells, apart -/
def Star (K : PySem.W.Frag) (S T : Hp) (l : Rs) : Prop := ∃ Ts : Nat → Hp, (∀ k, Ex (Ts k) T) ∧ (∀ j k b, j ≠ k → Ts j b ≠ none → Ts k b = none) ∧ ∀ k a o, l[k]? = some (a, o) → BasAt K S (Ts k) a o
def chestFs (d1 d2 d3 d4 : Addr) (c : CS) : List (Str × D) := [("slots", .obj d1), ("held", .obj d2), ("paired", .obj d3), ("wills", .obj d4), ("coming", .int c.coming), ("next_pair", .int c.next)]
def four (d1 d2 d3 d4 : Addr) (kvs : List (Int × (Addr × List D))) (c : CS) : Rs := [(d1, .dol kvs), (d2, .od (heldT c.held)), (d3, .od (pairT c.paired)), (d4, .od (willT c.wills))]
def OwnAt (K : PySem.W.Frag) (S T : Hp) (a : Addr) : Own → Prop
  | .chest C c => ∃ d1 d2 d3 d4 kvs, SlotsAre kvs c.slots ∧ Star K S T ((a, .ins C (chestFs d1 d2 d3 d4 c)) :: four d1 d2 d3 d4 kvs c)
  | .world c => ∃ d1 d2 d3 d4 e kvs, SlotsAre kvs c.slots ∧ Star K S T ((a, .ol [.obj d1, .obj d2, .obj d3, .obj d4, .obj e]) :: (e, .ol [.int c.coming, .int c.next]) :: four d1 d2 d3 d4 kvs c)
  | .view c => ∃ d1 d2 d3 d4 kvs, SlotsAre kvs c.slots ∧ Star K S T ((a, .ol [.obj d1, .obj d2, .obj d3, .obj d4]) :: four d1 d2 d3 d4 kvs c)
  | o => BasAt K S T a o

section
variable {K : PySem.W.Frag} {S S' T T' : Hp} {a : Addr}
theorem Lists.mono {kvs : List (Int × (Addr × List D))} (e : Ex S S') (t : Ex T T') (h : Lists S T kvs) : Lists S' T' kvs := ⟨h.1, h.2.1, fun p hp => let ⟨xs, h1, h2⟩ := h.2.2 p hp; ⟨xs, t _ _ h1, h2.mono e⟩⟩
theorem Ex.sql {xs : List V} (e : Ex T T') (h : SqL K T a xs) : SqL K T' a xs := by
  rcases h with (h | ⟨o, h⟩) | h
  · exact .inl (.inl (e _ _ h))
  · exact .inl (.inr ⟨o, e _ _ h⟩)
  · exact .inr h
theorem FsR.mono {fs : List (Str × D)} {fv : List (Str × V)} (e : Ex S S') (h : FsR S fs fv) : FsR S' fs fv := Paired.mapP h fun _ _ x => ⟨x.1, x.2.mono e⟩
theorem BasAt.mono (e : Ex S S') (t : Ex T T') : ∀ {o : Own}, BasAt K S T a o → BasAt K S' T' a o
  | .emp, h => h
  | .ol _, ⟨xs, h1, h2⟩ => ⟨xs, t _ _ h1, h2.mono e⟩
  | .od _, ⟨kv, h1, h2⟩ => ⟨kv, t _ _ h1, h2.mono fun d v x => Rep.mono e d v x⟩
  | .odF _, ⟨o, kv, h1, h2⟩ => ⟨o, kv, t _ _ h1, h2.mono fun d v x => Rep.mono e d v x⟩
  | .dol _, ⟨⟨kv, h1, h2⟩, h3⟩ => ⟨⟨kv, t _ _ h1, h2⟩, h3.mono e t⟩
  | .dolF _, ⟨⟨o, kv, h1, h2⟩, h3⟩ => ⟨⟨o, kv, t _ _ h1, h2⟩, h3.mono e t⟩
  | .ins _ _, ⟨dx, fv, h1, h2⟩ => ⟨dx, fv, t _ _ h1, h2.mono e⟩
  | .scr _, h => t.sql h
  | .chest _ _, h => h
  | .world _, h => h
  | .view _, h => h
theorem Star.mono {l : Rs} (e : Ex S S') (t : Ex T T') : Star K S T l → Star K S' T' l := fun ⟨Ts, h1, h2, h3⟩ => ⟨Ts, fun k => (h1 k).trans t, h2, fun k a o q => (h3 k a o q).mono e (Ex.refl _)⟩
theorem OwnAt.mono (e : Ex S S') (t : Ex T T') : ∀ {o : Own}, OwnAt K S T a o → OwnAt K S' T' a o
  | .emp, h => h
  | .ol ds, h => BasAt.mono (K := K) (o := .ol ds) e t h
  | .od kvs, h => BasAt.mono (K := K) (o := .od kvs) e t h
  | .odF kvs, h => BasAt.mono (K := K) (o := .odF kvs) e t h
  | .dol kvs, h => BasAt.mono (K := K) (o := .dol kvs) e t h
  | .dolF kvs, h => BasAt.mono (K := K) (o := .dolF kvs) e t h
  | .ins C fs, h => BasAt.mono (K := K) (o := .ins C fs) e t h
  | .scr ns, h => BasAt.mono (K := K) (o := .scr ns) e t h
  | .chest _ _, ⟨d1, d2, d3, d4, kvs, h1, h2⟩ => ⟨d1, d2, d3, d4, kvs, h1, h2.mono e t⟩
  | .world _, ⟨d1, d2, d3, d4, e', kvs, h1, h2⟩ => ⟨d1, d2, d3, d4, e', kvs, h1, h2.mono e t⟩
  | .view _, ⟨d1, d2, d3, d4, kvs, h1, h2⟩ => ⟨d1, d2, d3, d4, kvs, h1, h2.mono e t⟩
end

/-- the entry of a def: its stable heap, what is owned, its heap -/
structure Base where
  S : Hp
  F : Addr → Prop
  H : Hp
/-- the values of the slots -/
def EnvD (S : Hp) (δ : List (Option D)) (σ : St) : Prop := δ.length = σ.length ∧ ∀ (i : Nat) (d : D), δ[i]? = some (some d) → ∃ v, σ[i]? = some (some v) ∧ Rep S d v
structure Sta (K : PySem.W.Frag) (B : Base) (δ : List (Option D)) (ρ : Rs) (σ : St) (H : Hp) (ds : List D) (vs : List V) (S : Hp) (T : Nat → Hp) : Prop where
  exS : Ex S H
  exT : ∀ k, Ex (T k) H
  dS : ∀ k b, T k b ≠ none → S b = none
  dT : ∀ j k b, j ≠ k → T j b ≠ none → T k b = none
  own : ∀ k a o, ρ[k]? = some (a, o) → OwnAt K S (T k) a o
  env : EnvD S δ σ
  tmp : RepL S ds vs
  bS : Ex B.S S
  bF : ∀ b o, B.H b = some o → ¬ B.F b → H b = some o ∧ ∀ k, T k b = none
  bN : ∀ b, B.H b ≠ none → B.S b = none → S b = none
  bH : ∀ b, B.H b ≠ none → H b ≠ none
def StV (K : PySem.W.Frag) (B : Base) (δ : List (Option D)) (ρ : Rs) (σ : St) (H : Hp) (ds : List D) (vs : List V) : Prop := ∃ S T, Sta K B δ ρ σ H ds vs S T

section
variable {K : PySem.W.Frag} {B : Base} {δ δ' : List (Option D)} {ρ ρ' : Rs} {σ σ' : St} {H H' : Hp} {ds es : List D} {vs ws : List V} {S : Hp} {T : Nat → Hp} {a p : Addr} {k : Nat}
theorem EnvD.mono {S' : Hp} (e : Ex S S') (h : EnvD S δ σ) : EnvD S' δ σ := ⟨h.1, fun i d q => let ⟨v, h1, h2⟩ := h.2 i d q; ⟨v, h1, h2.mono e⟩⟩
theorem EnvD.set {i : Nat} {d : D} {v : V} (h : EnvD S δ σ) (r : Rep S d v) : EnvD S (δ.set i (some d)) (σ.set i (some v)) := by
  refine ⟨by simp [h.1], fun j d' q => ?_⟩
  by_cases e : i = j
  · subst e
    have hi : i < δ.length := by simpa using (List.getElem?_eq_some_iff.mp q).1
    rw [List.getElem?_set_self hi] at q; cases q
    exact ⟨v, by rw [List.getElem?_set_self (by rw [← h.1]; exact hi)], r⟩
  · rw [List.getElem?_set_ne e] at q ⊢
    exact h.2 j d' q
theorem EnvD.nil : EnvD S [] [] := ⟨rfl, fun i d q => by simp at q⟩
/-- another reading of the slots, other temporaries -/
theorem Sta.re (s : Sta K B δ ρ σ H ds vs S T) (e : EnvD S δ' σ') (t : RepL S es ws) : Sta K B δ' ρ σ' H es ws S T := ⟨s.exS, s.exT, s.dS, s.dT, s.own, e, t, s.bS, s.bF, s.bN, s.bH⟩
theorem StV.pop {d : D} {v : V} (h : StV K B δ ρ σ H (d :: ds) (v :: vs)) : StV K B δ ρ σ H ds vs := let ⟨S, T, s⟩ := h; ⟨S, T, s.re s.env s.tmp.tl⟩
theorem StV.no (h : StV K B δ ρ σ H ds vs) : StV K B [] ρ [] H [] [] := let ⟨S, T, s⟩ := h; ⟨S, T, s.re .nil rfl⟩
theorem StV.one {d : D} {v : V} (h : StV K B δ ρ σ H (d :: ds) (v :: vs)) : StV K B [] ρ [] H [d] [v] := let ⟨S, T, s⟩ := h; ⟨S, T, s.re .nil ⟨v, [], rfl, s.tmp.hd, rfl⟩⟩
theorem StV.get {i : Nat} {d : D} (h : StV K B δ ρ σ H ds vs) (q : δ[i]? = some (some d)) : ∃ v, σ[i]? = some (some v) ∧ StV K B δ ρ σ H (d :: ds) (v :: vs) :=
  let ⟨S, T, s⟩ := h
  let ⟨v, h1, h2⟩ := s.env.2 i d q
  ⟨v, h1, S, T, s.re s.env (.cons h2 s.tmp)⟩
theorem StV.set {i : Nat} {d : D} {v : V} (h : StV K B δ ρ σ H (d :: ds) (v :: vs)) : StV K B (δ.set i (some d)) ρ (σ.set i (some v)) H ds vs :=
  let ⟨S, T, s⟩ := h
  ⟨S, T, s.re (s.env.set s.tmp.hd) s.tmp.tl⟩
/-- a value that leans on nothing -/
theorem StV.push {d : D} {v : V} (h : StV K B δ ρ σ H ds vs) (r : ∀ S, Rep S d v) : StV K B δ ρ σ H (d :: ds) (v :: vs) := let ⟨S, T, s⟩ := h; ⟨S, T, s.re s.env (.cons (r S) s.tmp)⟩
/-- the temporaries otherwise -/
theorem StV.tmps (h : StV K B δ ρ σ H ds vs) (r : ∀ S, Ex S H → RepL S ds vs → RepL S es ws) : StV K B δ ρ σ H es ws := let ⟨S, T, s⟩ := h; ⟨S, T, s.re s.env (r S s.exS s.tmp)⟩
/-- a stable object is laid -/
theorem Sta.lay {u : HO} {d : D} (s : Sta K B δ ρ σ H ds vs S T) (hp : H p = none) (r : Rep (upd S p u) d (.ref p)) : Sta K B δ ρ σ (upd H p u) (d :: ds) (.ref p :: vs) (upd S p u) T := by
  have sp : S p = none := s.exS.free hp
  have e : Ex S (upd S p u) := (Ex.refl S).new sp
  have tp : ∀ k, T k p = none := fun k => (s.exT k).free hp
  refine ⟨s.exS.both, fun k => (s.exT k).new hp, fun k b h => ?_, s.dT, fun k a o q => (s.own k a o q).mono e (Ex.refl _), s.env.mono e, .cons r (s.tmp.mono e), s.bS.trans e, fun b o h1 h2 => ?_, fun b h1 h2 => ?_, fun b h1 => ?_⟩
  · have : b ≠ p := fun z => by subst z; exact h (tp k)
    rw [upd_ne this]; exact s.dS k b h
  · obtain ⟨q1, q2⟩ := s.bF b o h1 h2
    exact ⟨by rw [upd_ne (ne_of_none q1 hp)]; exact q1, q2⟩
  · have : b ≠ p := fun z => by subst z; exact s.bH b h1 hp
    rw [upd_ne this]; exact s.bN b h1 h2
  · have : b ≠ p := fun z => by subst z; exact s.bH b h1 hp
    rw [upd_ne this]; exact s.bH b h1
theorem StV.lay {u : HO} {d : D} (h : StV K B δ ρ σ H ds vs) (hp : H p = none) (r : ∀ S, Ex S H → RepL S ds vs → S p = none → Rep (upd S p u) d (.ref p)) : StV K B δ ρ σ (upd H p u) (d :: ds) (.ref p :: vs) :=
  let ⟨S, T, s⟩ := h
  ⟨upd S p u, T, s.lay hp (r S s.exS s.tmp (s.exS.free hp))⟩
def consT (t : Hp) (T : Nat → Hp) : Nat → Hp
  | 0 => t
  | k + 1 => T k
def single (p : Addr) (u : HO) : Hp := fun b => if b = p then some u else none
theorem single_same {u : HO} : single p u p = some u := if_pos rfl
theorem single_ne {u : HO} {b : Addr} (h : single p u b ≠ none) : b = p := by
  unfold single at h
  by_cases e : b = p
  · exact e
  · rw [if_neg e] at h; exact absurd rfl h
/-- an owned cell is laid -/
theorem Sta.lay1 {u : HO} {o : Own} (s : Sta K B δ ρ σ H ds vs S T) (hp : H p = none) (ho : OwnAt K S (single p u) p o) : Sta K B δ ((p, o) :: ρ) σ (upd H p u) (.obj p :: ds) (.ref p :: vs) S (consT (single p u) T) := by
  have sp : S p = none := s.exS.free hp
  have tp : ∀ k, T k p = none := fun k => (s.exT k).free hp
  have nb : ∀ b, B.H b ≠ none → b ≠ p := fun b h z => by subst z; exact s.bH b h hp
  refine ⟨s.exS.new hp, fun k => ?_, fun k b h => ?_, fun j k b n h => ?_, fun k a o' q => ?_, s.env, .cons rfl s.tmp, s.bS, fun b o h1 h2 => ?_, s.bN, fun b h1 => ?_⟩
  · cases k with
    | zero => intro b w h
              have e := single_ne (p := p) (u := u) (b := b) (by rw [show single p u b = some w from h]; simp)
              subst e
              rw [upd_same, ← show single b u b = some w from h, single_same]
    | succ k => exact (s.exT k).new hp
  · cases k with
    | zero => have e := single_ne (p := p) (u := u) h
              subst e; exact sp
    | succ k => exact s.dS k b h
  · cases j with
    | zero =>
      have e := single_ne (p := p) (u := u) h
      cases k with
      | zero => exact absurd rfl n
      | succ k => subst e; exact tp k
    | succ j =>
      cases k with
      | zero =>
        show single p u b = none
        unfold single
        rw [if_neg]
        intro z; subst z; exact h (tp j)
      | succ k => exact s.dT j k b (fun z => n (by rw [z])) h
  · cases k with
    | zero => simp at q; obtain ⟨rfl, rfl⟩ := q; exact ho
    | succ k => exact s.own k a o' (by simpa using q)
  · obtain ⟨q1, q2⟩ := s.bF b o h1 h2
    have n := nb b (by rw [h1]; simp)
    refine ⟨by rw [upd_ne n]; exact q1, fun k => ?_⟩
    cases k with
    | zero => show single p u b = none
              unfold single
              rw [if_neg n]
    | succ k => exact q2 k
  · rw [upd_ne (nb b h1)]; exact s.bH b h1
theorem StV.lay1 {u : HO} {o : Own} (h : StV K B δ ρ σ H ds vs) (hp : H p = none) (ho : ∀ S, RepL S ds vs → OwnAt K S (single p u) p o) : StV K B δ ((p, o) :: ρ) σ (upd H p u) (.obj p :: ds) (.ref p :: vs) ∧ B.H p = none :=
  let ⟨S, T, s⟩ := h
  ⟨⟨S, consT (single p u) T, s.lay1 hp (ho S s.tmp)⟩, by
    cases q : B.H p with
    | none => rfl
    | some w => exact absurd hp (s.bH p (by rw [q]; simp))⟩
def setT (T : Nat → Hp) (k : Nat) (t : Hp) : Nat → Hp := fun j => if j = k then t else T j
/-- an owned cell is written: its part of the heap t' where T k was -/
theorem Sta.put {o : Own} {t' : Hp} (s : Sta K B δ ρ σ H ds vs S T) (hk : ρ[k]? = some (a, o)) {o' : Own} (x : Addr) (u : HO) (hx : T k x ≠ none) (ht : t' = upd (T k) x u) (ho : OwnAt K S t' a o') :
    Sta K B δ (ρ.set k (a, o')) σ (upd H x u) ds vs S (setT T k t') := by
  subst ht
  have sx := s.dS k x hx
  have hH : H x ≠ none := by
    cases q : T k x with
    | none => exact absurd q hx
    | some w => rw [s.exT k x w q]; simp
  have own : ∀ b w, B.H b = some w → ¬ B.F b → b ≠ x := fun b w h1 h2 z => by
    subst z; exact hx ((s.bF b w h1 h2).2 k)
  refine ⟨fun b w h => ?_, fun j b w h => ?_, fun j b h => ?_, fun i j b n h => ?_, fun j c w q => ?_, s.env, s.tmp, s.bS, fun b w h1 h2 => ?_, s.bN, fun b h1 => ?_⟩
  · have : b ≠ x := fun z => by subst z; rw [sx] at h; cases h
    rw [upd_ne this]; exact s.exS b w h
  · unfold setT at h
    by_cases e : j = k
    · subst e
      rw [if_pos rfl] at h
      by_cases z : b = x
      · subst z; rw [upd_same] at h ⊢; exact h
      · rw [upd_ne z] at h ⊢; exact s.exT j b w h
    · rw [if_neg e] at h
      have : b ≠ x := fun z => by subst z; rw [s.dT k j b (fun z => e z.symm) hx] at h; cases h
      rw [upd_ne this]; exact s.exT j b w h
  · unfold setT at h
    by_cases e : j = k
    · subst e
      rw [if_pos rfl] at h
      by_cases z : b = x
      · subst z; exact sx
      · rw [upd_ne z] at h; exact s.dS j b h
    · rw [if_neg e] at h; exact s.dS j b h
  · unfold setT at h ⊢
    by_cases e : i = k
    · subst e
      rw [if_pos rfl] at h
      rw [if_neg (fun z => n z.symm)]
      by_cases z : b = x
      · subst z; exact s.dT i j b n hx
      · rw [upd_ne z] at h; exact s.dT i j b n h
    · rw [if_neg e] at h
      by_cases e2 : j = k
      · subst e2
        rw [if_pos rfl]
        have : b ≠ x := fun z => by subst z; exact h (s.dT j i b (fun z => e z.symm) hx)
        rw [upd_ne this]; exact s.dT i j b n h
      · rw [if_neg e2]; exact s.dT i j b n h
  · unfold setT
    by_cases e : j = k
    · subst e
      rw [if_pos rfl]
      have hl := (List.getElem?_eq_some_iff.mp hk).1
      rw [List.getElem?_set_self hl] at q
      cases q; exact ho
    · rw [if_neg e]
      rw [List.getElem?_set_ne (fun z => e z.symm)] at q
      exact s.own j c w q
  · obtain ⟨q1, q2⟩ := s.bF b w h1 h2
    refine ⟨by rw [upd_ne (own b w h1 h2)]; exact q1, fun j => ?_⟩
    unfold setT
    by_cases e : j = k
    · rw [if_pos e, upd_ne (own b w h1 h2)]; exact q2 k
    · rw [if_neg e]; exact q2 j
  · by_cases z : b = x
    · subst z; rw [upd_same]; simp
    · rw [upd_ne z]; exact s.bH b h1
/-- a cell seen otherwise, the heap as it is -/
theorem Sta.sub {o : Own} {t' : Hp} (s : Sta K B δ ρ σ H ds vs S T) (hk : ρ[k]? = some (a, o)) {r : Addr × Own} (ht : Ex t' (T k)) (ho : OwnAt K S t' r.1 r.2) : Sta K B δ (ρ.set k r) σ H ds vs S (setT T k t') := by
  have nn : ∀ b, t' b ≠ none → T k b ≠ none := fun b h => by
    cases q : t' b with
    | none => exact absurd q h
    | some w => rw [ht b w q]; simp
  have nz : ∀ b, T k b = none → t' b = none := fun b h => ht.free h
  refine ⟨s.exS, fun j => ?_, fun j b h => ?_, fun i j b n h => ?_, fun j c w q => ?_, s.env, s.tmp, s.bS, fun b w h1 h2 => ?_, s.bN, s.bH⟩
  · unfold setT
    by_cases e : j = k
    · rw [if_pos e]; exact ht.trans (s.exT k)
    · rw [if_neg e]; exact s.exT j
  · unfold setT at h
    by_cases e : j = k
    · rw [if_pos e] at h; exact s.dS k b (nn b h)
    · rw [if_neg e] at h; exact s.dS j b h
  · unfold setT at h ⊢
    by_cases e : i = k
    · subst e
      rw [if_pos rfl] at h
      rw [if_neg (fun z => n z.symm)]
      exact s.dT i j b n (nn b h)
    · rw [if_neg e] at h
      by_cases e2 : j = k
      · subst e2
        rw [if_pos rfl]
        exact nz b (s.dT i j b n h)
      · rw [if_neg e2]; exact s.dT i j b n h
  · unfold setT
    by_cases e : j = k
    · subst e
      rw [if_pos rfl]
      have hl := (List.getElem?_eq_some_iff.mp hk).1
      rw [List.getElem?_set_self hl] at q
      cases q; exact ho
    · rw [if_neg e]
      rw [List.getElem?_set_ne (fun z => e z.symm)] at q
      exact s.own j c w q
  · obtain ⟨q1, q2⟩ := s.bF b w h1 h2
    refine ⟨q1, fun j => ?_⟩
    unfold setT
    by_cases e : j = k
    · rw [if_pos e]; exact nz b (q2 k)
    · rw [if_neg e]; exact q2 j
/-- a view shift: the same heap, other words for what is owned -/
def Sh (K : PySem.W.Frag) (B : Base) (ρ ρ' : Rs) : Prop := ∀ δ σ H ds vs, StV K B δ ρ σ H ds vs → StV K B δ ρ' σ H ds vs
theorem Sh.refl : Sh K B ρ ρ := fun _ _ _ _ _ h => h
theorem Sh.trans {ρ2 : Rs} (a : Sh K B ρ ρ') (b : Sh K B ρ' ρ2) : Sh K B ρ ρ2 := fun _ _ _ _ _ h => b _ _ _ _ _ (a _ _ _ _ _ h)
/-- the first cell is forgotten -/
theorem Sh.drop {r : Addr × Own} : Sh K B (r :: ρ) ρ := fun δ σ H ds vs ⟨S, T, s⟩ =>
  ⟨S, fun k => T (k + 1), s.exS, fun k => s.exT _, fun k b => s.dS _ b, fun j k b n => s.dT _ _ b (fun z => n (Nat.succ.inj z)), fun k a o q => s.own (k + 1) a o (by simpa using q), s.env, s.tmp, s.bS, fun b o h1 h2 => ⟨(s.bF b o h1 h2).1, fun k => (s.bF b o h1 h2).2 _⟩, s.bN, s.bH⟩
theorem Sh.emp {k : Nat} {r : Addr × Own} (hk : ρ[k]? = some r) : Sh K B ρ (ρ.set k (r.1, .emp)) := fun δ σ H ds vs ⟨S, T, s⟩ =>
  ⟨S, _, s.sub (t' := fun _ => none) (a := r.1) (o := r.2) hk (r := (r.1, .emp)) (fun _ _ h => by cases h) trivial⟩
/-- a bundle of plain cells is opened: the first stays in its place, the others stand in front -/
theorem Sta.opened {o : Own} {r : Addr × Own} {l : Rs} (s : Sta K B δ ρ σ H ds vs S T) (hk : ρ[k]? = some (a, o)) (hs : Star K S (T k) (r :: l)) (hb : ∀ x ∈ r :: l, ∀ T', BasAt K S T' x.1 x.2 → OwnAt K S T' x.1 x.2) : StV K B δ (l ++ ρ.set k r) σ H ds vs := by
  obtain ⟨Ts, h1, h2, h3⟩ := hs
  have s1 : Sta K B δ (ρ.set k r) σ H ds vs S (setT T k (Ts 0)) := s.sub hk (h1 0) (hb r (List.mem_cons_self) _ (h3 0 r.1 r.2 rfl))
  refine ⟨S, fun j => if j < l.length then Ts (j + 1) else setT T k (Ts 0) (j - l.length), s1.exS, fun j => ?_, fun j b h => ?_, fun i j b n h => ?_, fun j c w q => ?_, s1.env, s1.tmp, s1.bS, fun b w q1 q2 => ⟨(s1.bF b w q1 q2).1, fun j => ?_⟩, s1.bN, s1.bH⟩
  · show Ex (if j < l.length then Ts (j + 1) else _) H
    split
    · exact (h1 _).trans (s.exT k)
    · exact s1.exT _
  · have h' : (if j < l.length then Ts (j + 1) else setT T k (Ts 0) (j - l.length)) b ≠ none := h
    split at h'
    · refine s.dS k b ?_
      cases q : Ts (j + 1) b with
      | none => exact absurd q h'
      | some w => rw [h1 _ b w q]; simp
    · exact s1.dS _ b h'
  · have h' : (if i < l.length then Ts (i + 1) else setT T k (Ts 0) (i - l.length)) b ≠ none := h
    have part : ∀ m, Ts (m + 1) b ≠ none → ∀ j', setT T k (Ts 0) j' b = none := fun m hm j' => by
      unfold setT
      by_cases e : j' = k
      · rw [if_pos e]; exact h2 _ _ b (by omega) hm
      · rw [if_neg e]
        refine s.dT k j' b (fun z => e z.symm) ?_
        cases q : Ts (m + 1) b with
        | none => exact absurd q hm
        | some w => rw [h1 _ b w q]; simp
    show (if j < l.length then Ts (j + 1) else setT T k (Ts 0) (j - l.length)) b = none
    split at h'
    · split
      · exact h2 _ _ b (by omega) h'
      · exact part i h' _
    · split
      · rename_i hi hj
        cases q : Ts (j + 1) b with
        | none => rfl
        | some w =>
          have := part j (by rw [q]; simp) (i - l.length)
          exact absurd this h'
      · exact s1.dT _ _ b (by omega) h'
  · show OwnAt K S (if j < l.length then Ts (j + 1) else setT T k (Ts 0) (j - l.length)) c w
    by_cases hj : j < l.length
    · rw [if_pos hj]
      rw [List.getElem?_append_left hj] at q
      exact hb (c, w) (List.mem_cons_of_mem _ (List.mem_of_getElem? q)) _ (h3 (j + 1) c w (by simpa using q))
    · rw [if_neg hj]
      rw [List.getElem?_append_right (by omega)] at q
      exact s1.own _ c w q
  · show (if j < l.length then Ts (j + 1) else setT T k (Ts 0) (j - l.length)) b = none
    split
    · cases q : Ts (j + 1) b with
      | none => rfl
      | some z =>
        have h0 := (s.bF b w q1 q2).2 k
        rw [h1 _ b z q] at h0; cases h0
    · exact (s1.bF b w q1 q2).2 _
end
end Lw

set_option maxHeartbeats 1000000
/-! The judgements over data, and the rules of expressions. -/
namespace Lw
open PySem PySem.Spec PyProof.Rows L2

section
variable {K : PySem.W.Frag} {B : Base} {δ δ' : List (Option D)} {ρ ρ' : Rs} {σ σ' : L2.St} {H H' : Hp} {ds es : List D} {vs ws : List V} {S : Hp} {T : Nat → Hp} {a p : Addr} {k : Nat}
/-- the parts of a heap, joined: t0, and the first n of T -/
def joinT (t0 : Hp) (T : Nat → Hp) : Nat → Hp
  | 0 => t0
  | n + 1 => fun b => match T n b with
    | some w => some w
    | none => joinT t0 T n b
theorem joinT_0 {t0 : Hp} (h : ∀ j b, t0 b ≠ none → T j b = none) : ∀ n, Ex t0 (joinT t0 T n)
  | 0 => Ex.refl _
  | n + 1 => fun b w e => by
    show (match T n b with | some w => some w | none => joinT t0 T n b) = some w
    rw [h n b (by rw [e]; simp)]
    exact joinT_0 h n b w e
theorem joinT_at {t0 : Hp} (hd : ∀ i j b, i ≠ j → T i b ≠ none → T j b = none) : ∀ n j, j < n → Ex (T j) (joinT t0 T n)
  | n + 1, j, hj => fun b w e => by
    show (match T n b with | some w => some w | none => joinT t0 T n b) = some w
    by_cases q : j = n
    · subst q; rw [e]
    · rw [hd j n b q (by rw [e]; simp)]
      exact joinT_at hd n j (by omega) b w e
theorem joinT_of {t0 : Hp} {b : Addr} : ∀ n, joinT t0 T n b ≠ none → t0 b ≠ none ∨ ∃ j, j < n ∧ T j b ≠ none
  | 0, h => .inl h
  | n + 1, h => by
    have h' : (match T n b with | some w => some w | none => joinT t0 T n b) ≠ none := h
    cases q : T n b with
    | some w => exact .inr ⟨n, Nat.lt_succ_self n, by rw [q]; simp⟩
    | none =>
      rw [q] at h'
      rcases joinT_of n h' with z | ⟨j, h1, h2⟩
      · exact .inl z
      · exact .inr ⟨j, Nat.lt_succ_of_lt h1, h2⟩
theorem joinT_ex {t0 : Hp} (h0 : Ex t0 H) (h : ∀ j, Ex (T j) H) : ∀ n, Ex (joinT t0 T n) H
  | 0 => h0
  | n + 1 => fun b w e => by
    have e' : (match T n b with | some w => some w | none => joinT t0 T n b) = some w := e
    cases q : T n b with
    | some w' => rw [q] at e'; cases e'; exact h n b _ q
    | none => rw [q] at e'; exact joinT_ex h0 h n b w e'
/-- the cells in front, with the one in its place, become one bundle again -/
theorem Sh.closed {l : Rs} {r : Addr × Own} {a : Addr} {o : Own} (hk : ρ[k]? = some r) (ho : ∀ S T', Star K S T' (r :: l) → (∀ x ∈ r :: l, ∀ T', OwnAt K S T' x.1 x.2 → BasAt K S T' x.1 x.2) → OwnAt K S T' a o)
    (hb : ∀ S, ∀ x ∈ r :: l, ∀ T', OwnAt K S T' x.1 x.2 → BasAt K S T' x.1 x.2) : Sh K B (l ++ ρ) (ρ.set k (a, o)) := fun δ σ H ds vs ⟨S, T, s⟩ => by
  have hkl : (l ++ ρ)[l.length + k]? = some r := by rw [List.getElem?_append_right (by omega)]; rw [show l.length + k - l.length = k by omega]; exact hk
  let U := joinT (T (l.length + k)) T l.length
  have h0 : ∀ j b, j < l.length → T (l.length + k) b ≠ none → T j b = none := fun j b hj h => s.dT _ j b (by omega) h
  -- only the first l.length parts are joined: the others are cut off
  let T2 : Nat → Hp := fun j => if j < l.length then T j else fun _ => none
  let U := joinT (T (l.length + k)) T2 l.length
  have d2 : ∀ i j b, i ≠ j → T2 i b ≠ none → T2 j b = none := fun i j b n h => by
    show (if j < l.length then T j else fun _ => none) b = none
    have h' : (if i < l.length then T i else fun _ => none) b ≠ none := h
    split at h'
    · split
      · exact s.dT i j b n h'
      · rfl
    · exact absurd rfl h'
  have d0 : ∀ j b, T (l.length + k) b ≠ none → T2 j b = none := fun j b h => by
    show (if j < l.length then T j else fun _ => none) b = none
    split
    · exact s.dT _ j b (by omega) h
    · rfl
  have e2 : ∀ j, j < l.length → T2 j = T j := fun j hj => if_pos hj
  have x2 : ∀ j, Ex (T2 j) H := fun j => by
    show Ex (if j < l.length then T j else fun _ => none) H
    split
    · exact s.exT j
    · exact fun _ _ h => by cases h
  have ofU : ∀ b, U b ≠ none → ∃ j, T j b ≠ none ∧ (j < l.length ∨ j = l.length + k) := fun b h => by
    rcases joinT_of _ h with z | ⟨j, h1, h2⟩
    · exact ⟨_, z, .inr rfl⟩
    · rw [e2 j h1] at h2; exact ⟨j, h2, .inl h1⟩
  have st : Star K S U (r :: l) := by
    refine ⟨fun j => match j with | 0 => T (l.length + k) | j + 1 => T2 j, fun j => ?_, fun i j b n h => ?_, fun j c w q => ?_⟩
    · cases j with
      | zero => exact joinT_0 d0 _
      | succ j =>
        by_cases hj : j < l.length
        · exact joinT_at d2 _ j hj
        · intro b w e
          have e' : (if j < l.length then T j else fun _ => none) b = some w := e
          rw [if_neg hj] at e'; cases e'
    · cases i with
      | zero =>
        cases j with
        | zero => exact absurd rfl n
        | succ j => exact d0 j b h
      | succ i =>
        cases j with
        | zero =>
          show T (l.length + k) b = none
          cases q : T (l.length + k) b with
          | none => rfl
          | some w => exact absurd (d0 i b (by rw [q]; simp)) h
        | succ j => exact d2 i j b (fun z => n (by rw [z])) h
    · cases j with
      | zero =>
        simp at q; subst q
        exact hb S _ List.mem_cons_self _ (s.own _ _ _ hkl)
      | succ j =>
        have q' : l[j]? = some (c, w) := by simpa using q
        have hj := (List.getElem?_eq_some_iff.mp q').1
        show BasAt K S (T2 j) c w
        rw [e2 j hj]
        exact hb S (c, w) (List.mem_cons_of_mem _ (List.mem_of_getElem? q')) _ (s.own j c w (by rw [List.getElem?_append_left hj]; exact q'))
  refine ⟨S, fun j => if j = k then U else T (l.length + j), s.exS, fun j => ?_, fun j b h => ?_, fun i j b n h => ?_, fun j c w q => ?_, s.env, s.tmp, s.bS, fun b w q1 q2 => ⟨(s.bF b w q1 q2).1, fun j => ?_⟩, s.bN, s.bH⟩
  · show Ex (if j = k then U else T (l.length + j)) H
    split
    · exact joinT_ex (s.exT _) x2 _
    · exact s.exT _
  · have h' : (if j = k then U else T (l.length + j)) b ≠ none := h
    split at h'
    · obtain ⟨i, h1, _⟩ := ofU b h'; exact s.dS i b h1
    · exact s.dS _ b h'
  · have h' : (if i = k then U else T (l.length + i)) b ≠ none := h
    show (if j = k then U else T (l.length + j)) b = none
    split at h'
    · rw [if_neg (by omega)]
      obtain ⟨m, h1, h2⟩ := ofU b h'
      exact s.dT m _ b (by omega) h1
    · split
      · cases q : U b with
        | none => rfl
        | some w =>
          obtain ⟨m, h1, h2⟩ := ofU b (by rw [q]; simp)
          exact absurd (s.dT m _ b (by omega) h1) h'
      · exact s.dT _ _ b (by omega) h'
  · show OwnAt K S (if j = k then U else T (l.length + j)) c w
    by_cases e : j = k
    · subst e
      rw [if_pos rfl]
      rw [List.getElem?_set_self (List.getElem?_eq_some_iff.mp hk).1] at q
      cases q
      exact ho S U st (hb S)
    · rw [if_neg e]
      rw [List.getElem?_set_ne (fun z => e z.symm)] at q
      exact s.own _ c w (by rw [List.getElem?_append_right (by omega)]; rw [show l.length + j - l.length = j by omega]; exact q)
  · show (if j = k then U else T (l.length + j)) b = none
    split
    · cases q : U b with
      | none => rfl
      | some z =>
        obtain ⟨m, h1, _⟩ := ofU b (by rw [q]; simp)
        exact absurd ((s.bF b w q1 q2).2 m) h1
    · exact (s.bF b w q1 q2).2 _
/-- behind a call -/
theorem StV.after {d : D} {v : V} (s : Sta K B δ ρ σ H es ws S T) (t : RepL S ds vs) (h : StV K ⟨S, fun b => ∃ k, T k b ≠ none, H⟩ [] ρ' [] H' [d] [v]) : StV K B δ ρ' σ H' (d :: ds) (v :: vs) := by
  obtain ⟨S', T', s'⟩ := h
  have bS : Ex S S' := s'.bS
  refine ⟨S', T', s'.exS, s'.exT, s'.dS, s'.dT, s'.own, s.env.mono bS, .cons s'.tmp.hd (t.mono bS), s.bS.trans bS, fun b o h1 h2 => ?_, fun b h1 h2 => ?_, fun b h1 => ?_⟩
  · obtain ⟨q1, q2⟩ := s.bF b o h1 h2
    exact s'.bF b o q1 fun ⟨k, z⟩ => z (q2 k)
  · exact s'.bN b (s.bH b h1) (s.bN b h1 h2)
  · exact s'.bH b (s.bH b h1)
theorem StV.after0 (s : Sta K B δ ρ σ H es ws S T) (t : RepL S ds vs) (h : StV K ⟨S, fun b => ∃ k, T k b ≠ none, H⟩ [] ρ' [] H' [] []) : StV K B δ ρ' σ H' ds vs := by
  obtain ⟨S', T', s'⟩ := h
  have bS : Ex S S' := s'.bS
  refine ⟨S', T', s'.exS, s'.exT, s'.dS, s'.dT, s'.own, s.env.mono bS, t.mono bS, s.bS.trans bS, fun b o h1 h2 => ?_, fun b h1 h2 => ?_, fun b h1 => ?_⟩
  · obtain ⟨q1, q2⟩ := s.bF b o h1 h2
    exact s'.bF b o q1 fun ⟨k, z⟩ => z (q2 k)
  · exact s'.bN b (s.bH b h1) (s.bN b h1 h2)
  · exact s'.bH b (s.bH b h1)
/-- at the entry of a def: its base is the state as it stands -/
theorem Sta.entry (s : Sta K B δ ρ σ H es ws S T) (t : RepL S ds vs) (e : EnvD S δ' σ') : StV K ⟨S, fun b => ∃ k, T k b ≠ none, H⟩ δ' ρ σ' H ds vs :=
  ⟨S, T, s.exS, s.exT, s.dS, s.dT, s.own, e, t, Ex.refl _, fun b o h1 h2 => ⟨h1, fun k => by
    cases q : T k b with
    | none => rfl
    | some w => exact absurd ⟨k, by rw [q]; simp⟩ h2⟩, fun _ _ h => h, fun _ h => h⟩
end

/-! ### canonical readings -/
section
variable (X : Cx)
def tE (e : Expr) : TE := fun σ H Q => ∀ (pins : List (Addr × Obj)) (s : Shared), Inv X pins σ H s → wpAny (model X.prog X.w) X.A (eval e X.env) (EP X pins σ Q) X.xe s
def tT (e : Expr) : TT := fun σ H Q => ∀ (pins : List (Addr × Obj)) (s : Shared), Inv X pins σ H s → wpAny (model X.prog X.w) X.A (isTrue e X.env (eval e X.env)) (TP X pins σ Q) X.xe s
def tW (e : Expr) : TT := fun σ H Q => ∀ (whole : Sem Value) (pins : List (Addr × Obj)) (s : Shared), Inv X pins σ H s → wpAny (model X.prog X.w) X.A (isTrue e X.env whole) (TP X pins σ Q) X.xe s
def tA (es : List Expr) : TA := fun σ H Q => ∀ (pos : Pos) (pins : List (Addr × Obj)) (s : Shared), Inv X pins σ H s → wpAny (model X.prog X.w) X.A (spliced (backTo pos (starEach es X.env))) (AP X pins σ Q) X.xe s
def tO (e : Option Expr) : TO := fun σ H Q => ∀ (pins : List (Addr × Obj)) (s : Shared), Inv X pins σ H s → wpAny (model X.prog X.w) X.A (evalPart e X.env) (fun u s' => ∃ o H', Inv X pins σ H' s' ∧ IsPart u o ∧ Q o H') X.xe s
def tS (st : Stmt) : TS := fun D σ H => ∀ (pins : List (Addr × Obj)) (s : Shared), Inv X pins σ H s → wpAny (model X.prog X.w) X.A (exec st X.env) (SP X pins D) X.xe s
def tSs (st : List Stmt) : TS := fun D σ H => ∀ (pins : List (Addr × Obj)) (s : Shared), Inv X pins σ H s → wpAny (model X.prog X.w) X.A (execs st X.env) (SP X pins D) X.xe s
def tR2 (f : Value → Value → Sem Value) : R2 := fun x y H Q => ∀ (pins : List (Addr × Obj)) (s : Shared) (σ : L2.St) (v u : Value), Inv X pins σ H s → RelV x v → RelV y u → wpAny (model X.prog X.w) X.A (f v u) (EP X pins σ Q) X.xe s
def tR1 (f : Value → Sem Value) : V → Hp → VK → Prop := fun x H Q => ∀ (pins : List (Addr × Obj)) (s : Shared) (σ : L2.St) (v : Value), Inv X pins σ H s → RelV x v → wpAny (model X.prog X.w) X.A (f v) (EP X pins σ Q) X.xe s
def tRC (f : Value) : List V → Hp → VK → Prop := fun xs H Q => ∀ (pins : List (Addr × Obj)) (s : Shared) (σ : L2.St) (us : List Value), Inv X pins σ H s → Vals xs us → wpAny (model X.prog X.w) X.A (call f us) (EP X pins σ Q) X.xe s
def tRM (id : String) : V → List V → Hp → VK → Prop := fun x xs H Q => ∀ (pins : List (Addr × Obj)) (s : Shared) (σ : L2.St) (v : Value) (us : List Value), Inv X pins σ H s → RelV x v → Vals xs us → wpAny (model X.prog X.w) X.A (call (.builtin id) (v :: us)) (EP X pins σ Q) X.xe s
def tRT : V → Hp → (Bool → Hp → Prop) → Prop := fun x H Q => ∀ (pins : List (Addr × Obj)) (s : Shared) (σ : L2.St) (v : Value), Inv X pins σ H s → RelV x v → wpAny (model X.prog X.w) X.A (truthy v) (TP X pins σ Q) X.xe s
def tRI : R2 := fun x y H Q => ∀ (value slice : Expr) (pins : List (Addr × Obj)) (s : Shared) (σ : L2.St) (v u : Value), Inv X pins σ H s → RelV x v → RelV y u →
  subscripted slice false v u = operate [v, u] (getItem v u) → wpAny (model X.prog X.w) X.A (subscriptTail value slice v u) (EP X pins σ Q) X.xe s
def tRS : TSet := fun o i v H Q => ∀ (pins : List (Addr × Obj)) (s : Shared) (σ : L2.St) (ov iv u : Value), Inv X pins σ H s → RelV o ov → RelV i iv → RelV v u → wpAny (model X.prog X.w) X.A (setItem ov iv u) (fun _ s' => ∃ H', Inv X pins σ H' s' ∧ Q H') X.xe s
end
section
variable {X : Cx}
theorem pE (e : Expr) : PE X e (tE X e) := ⟨fun pins s σ H Q I h => h pins s I⟩
theorem pT (e : Expr) : PT X e (tT X e) := ⟨fun pins s σ H Q I h => h pins s I⟩
theorem pW (e : Expr) : PW X e (tW X e) := ⟨fun w pins s σ H Q I h => h w pins s I⟩
theorem pA (es : List Expr) : PA X es (tA X es) := ⟨fun pos pins s σ H Q I h => h pos pins s I⟩
theorem pO (e : Option Expr) : PO X e (tO X e) := ⟨fun pins s σ H Q I h => h pins s I⟩
theorem pS (st : Stmt) : PS X st (tS X st) := ⟨fun pins s σ H D I h => h pins s I⟩
theorem pSs (st : List Stmt) : PSs X st (tSs X st) := ⟨fun pins s σ H D I h => h pins s I⟩
theorem pR2 (f : Value → Value → Sem Value) : OpR X f (tR2 X f) := fun pins s σ H x y v u Q I r1 r2 h => h pins s σ v u I r1 r2
theorem pR1 (f : Value → Sem Value) : UnR X f (tR1 X f) := fun pins s σ H x v Q I r1 h => h pins s σ v I r1
theorem pRC (f : Value) : CallR X f (tRC X f) := fun pins s σ H xs us Q I r h => h pins s σ us I r
theorem pRM (id : String) : MtR X id (tRM X id) := fun pins s σ H x xs v us Q I r1 r h => h pins s σ v us I r1 r
theorem pRT : TruR X (tRT X) := fun pins s σ H x v Q I r h => h pins s σ v I r
theorem pRI : IxR X (tRI X) := fun a b pins s σ H x y v u Q I r1 r2 h q => h a b pins s σ v u I r1 r2 q
theorem pRS : PSet X (tRS X) := fun pins s σ H o i v ov iv u Q I r1 r2 r3 h => h pins s σ ov iv u I r1 r2 r3
theorem _root_.L2.PE.to {e : Expr} {t : TE} (h : PE X e t) {σ : L2.St} {H : Hp} {Q : VK} (q : t σ H Q) : tE X e σ H Q := fun pins s I => h.run pins s σ H Q I q
theorem _root_.L2.PT.to {e : Expr} {t : TT} (h : PT X e t) {σ : L2.St} {H : Hp} {Q : Bool → Hp → Prop} (q : t σ H Q) : tT X e σ H Q := fun pins s I => h.run pins s σ H Q I q
theorem _root_.L2.PW.to {e : Expr} {t : TT} (h : PW X e t) {σ : L2.St} {H : Hp} {Q : Bool → Hp → Prop} (q : t σ H Q) : tW X e σ H Q := fun w pins s I => h.run w pins s σ H Q I q
theorem _root_.L2.PA.to {es : List Expr} {t : TA} (h : PA X es t) {σ : L2.St} {H : Hp} {Q : List V → Hp → Prop} (q : t σ H Q) : tA X es σ H Q := fun pos pins s I => h.run pos pins s σ H Q I q
theorem _root_.L2.PO.to {e : Option Expr} {t : TO} (h : PO X e t) {σ : L2.St} {H : Hp} {Q : Option Int → Hp → Prop} (q : t σ H Q) : tO X e σ H Q := fun pins s I => h.run pins s σ H Q I q
theorem _root_.L2.PS.to {st : Stmt} {t : TS} (h : PS X st t) {σ : L2.St} {H : Hp} {D : Ends} (q : t D σ H) : tS X st D σ H := fun pins s I => h.run pins s σ H D I q
theorem _root_.L2.PSs.to {st : List Stmt} {t : TS} (h : PSs X st t) {σ : L2.St} {H : Hp} {D : Ends} (q : t D σ H) : tSs X st D σ H := fun pins s I => h.run pins s σ H D I q
end

/-! ### the judgements -/
section
variable (X : Cx) (B : Base)
def PostE (δ : List (Option D)) (σ : L2.St) (ds : List D) (vs : List V) (Φ : D → Rs → Prop) (Q : VK) : Prop := ∀ d ρ' v H', Φ d ρ' → StV X.K B δ ρ' σ H' (d :: ds) (v :: vs) → Q v H'
def PostT (δ : List (Option D)) (σ : L2.St) (ds : List D) (vs : List V) (Φ : Bool → Rs → Prop) (Q : Bool → Hp → Prop) : Prop := ∀ b ρ' H', Φ b ρ' → StV X.K B δ ρ' σ H' ds vs → Q b H'
def EvP (e : Expr) (δ : List (Option D)) (ρ : Rs) (Φ : D → Rs → Prop) : Prop := ∀ σ H ds vs Q, StV X.K B δ ρ σ H ds vs → PostE X B δ σ ds vs Φ Q → tE X e σ H Q
def TsP (e : Expr) (δ : List (Option D)) (ρ : Rs) (Φ : Bool → Rs → Prop) : Prop := ∀ σ H ds vs Q, StV X.K B δ ρ σ H ds vs → PostT X B δ σ ds vs Φ Q → tT X e σ H Q
/-- for and, or: whatever the whole is -/
def TwP (e : Expr) (δ : List (Option D)) (ρ : Rs) (Φ : Bool → Rs → Prop) : Prop := ∀ σ H ds vs Q, StV X.K B δ ρ σ H ds vs → PostT X B δ σ ds vs Φ Q → tW X e σ H Q
def AgP (es : List Expr) (δ : List (Option D)) (ρ : Rs) (Φ : List D → Rs → Prop) : Prop := ∀ σ H ds vs (Q : List V → Hp → Prop), StV X.K B δ ρ σ H ds vs →
  (∀ as ρ' xs H', Φ as ρ' → as.length = xs.length → StV X.K B δ ρ' σ H' (as ++ ds) (xs ++ vs) → Q xs H') → tA X es σ H Q
def PtP (e : Option Expr) (δ : List (Option D)) (ρ : Rs) (Φ : Option Int → Rs → Prop) : Prop := ∀ σ H ds vs Q, StV X.K B δ ρ σ H ds vs → (∀ o ρ' H', Φ o ρ' → StV X.K B δ ρ' σ H' ds vs → Q o H') → tO X e σ H Q
/-- by values -/
def BiP (f : Value → Value → Sem Value) (x y : D) (ρ : Rs) (Φ : D → Rs → Prop) : Prop := ∀ δ σ H ds vs a b Q, StV X.K B δ ρ σ H (y :: x :: ds) (b :: a :: vs) → PostE X B δ σ ds vs Φ Q → tR2 X f a b H Q
def UnP (f : Value → Sem Value) (x : D) (ρ : Rs) (Φ : D → Rs → Prop) : Prop := ∀ δ σ H ds vs a Q, StV X.K B δ ρ σ H (x :: ds) (a :: vs) → PostE X B δ σ ds vs Φ Q → tR1 X f a H Q
def ClP (f : Value) (as : List D) (ρ : Rs) (Φ : D → Rs → Prop) : Prop := ∀ δ σ H ds vs xs Q, as.length = xs.length → StV X.K B δ ρ σ H (as ++ ds) (xs ++ vs) → PostE X B δ σ ds vs Φ Q → tRC X f xs H Q
def MtP (id : String) (o : D) (as : List D) (ρ : Rs) (Φ : D → Rs → Prop) : Prop := ∀ δ σ H ds vs a xs Q, as.length = xs.length → StV X.K B δ ρ σ H (as ++ o :: ds) (xs ++ a :: vs) → PostE X B δ σ ds vs Φ Q → tRM X id a xs H Q
def TrP (x : D) (ρ : Rs) (Φ : Bool → Rs → Prop) : Prop := ∀ δ σ H ds vs a Q, StV X.K B δ ρ σ H (x :: ds) (a :: vs) → PostT X B δ σ ds vs Φ Q → tRT X a H Q
def IxP (x y : D) (ρ : Rs) (Φ : D → Rs → Prop) : Prop := ∀ δ σ H ds vs a b Q, StV X.K B δ ρ σ H (y :: x :: ds) (b :: a :: vs) → PostE X B δ σ ds vs Φ Q → tRI X a b H Q
/-- o[i] = v: v stands first, then o, then i -/
def StI (o i v : D) (ρ : Rs) (Φ : Rs → Prop) : Prop := ∀ δ σ H ds vs a b c Q, StV X.K B δ ρ σ H (i :: o :: v :: ds) (b :: a :: c :: vs) → (∀ ρ' H', Φ ρ' → StV X.K B δ ρ' σ H' ds vs → Q H') → tRS X a b c H Q
def TyP (T : String) (x : D) (ρ : Rs) : Prop := ∀ δ σ H ds vs a, StV X.K B δ ρ σ H (x :: ds) (a :: vs) → tyV X.K T a H
end

section
variable {X : Cx} {B : Base} {δ : List (Option D)} {ρ : Rs} {Φ : D → Rs → Prop} {a b c e : Expr} {pos : Pos}
theorem EvP.mono {Φ' : D → Rs → Prop} (h : EvP X B e δ ρ Φ') (f : ∀ d ρ', Φ' d ρ' → Φ d ρ') : EvP X B e δ ρ Φ := fun σ H ds vs Q st q => h σ H ds vs Q st fun d ρ' v H' w => q d ρ' v H' (f _ _ w)
/-! names and constants -/
theorem ev_name {i : Nat} {x : Str} {d : D} (hN : X.N[i]? = some x) (hv : Vis X.env.scope x) (hi : δ[i]? = some (some d)) (h : Φ d ρ) (hd : (x == ("__debug__" : Str)) = false := by decide) (hcd : (x == ("__classdict__" : Str)) = false := by decide) : EvP X B (.Name x pos) δ ρ Φ := fun σ H ds vs Q st q => by
  obtain ⟨v, h1, h2⟩ := st.get hi
  exact (pe_var hN hv hd hcd).to ⟨v, h1, q d ρ v H h h2⟩
theorem ev_c {d : D} {v : V} (hp : PE X e (tC v)) (r : ∀ S, Rep S d v) (h : Φ d ρ) : EvP X B e δ ρ Φ := fun σ H ds vs Q st q => hp.to (q d ρ v H h (st.push r))
theorem ev_int {i j} (h : Φ (.int i) ρ) : EvP X B (.Constant (.int i) j pos) δ ρ Φ := ev_c (d := .int i) pe_int (fun _ => rfl) h
theorem ev_bl {b j} (h : Φ (.bl b) ρ) : EvP X B (.Constant (.bool b) j pos) δ ρ Φ := ev_c (d := .bl b) pe_bl (fun _ => rfl) h
theorem ev_non {j} (h : Φ .non ρ) : EvP X B (.Constant .none j pos) δ ρ Φ := ev_c (d := .non) pe_non (fun _ => rfl) h
theorem ev_str {x j} (h : Φ (.str x) ρ) : EvP X B (.Constant (.str x) j pos) δ ρ Φ := ev_c (d := .str x) pe_str (fun _ => rfl) h
/-- a constant of the module: an int -/
theorem ev_gint {x : Str} {i : Int} (hg : Gl X x) (hm : ∃ t, X.mg x = some (.int i t)) (h : Φ (.int i) ρ) (hd : (x == ("__debug__" : Str)) = false := by decide) : EvP X B (.Name x pos) δ ρ Φ := by
  obtain ⟨t, hm⟩ := hm
  exact ev_c (d := .int i) (v := .int i) (pe_glob hg hm ⟨t, rfl⟩ hd) (fun _ => rfl) h
theorem ev_gstr {x y : Str} (hg : Gl X x) (hm : ∃ t, X.mg x = some (.str y t)) (h : Φ (.str y) ρ) (hd : (x == ("__debug__" : Str)) = false := by decide) : EvP X B (.Name x pos) δ ρ Φ := by
  obtain ⟨t, hm⟩ := hm
  exact ev_c (d := .str y) (v := .str y) (pe_glob hg hm ⟨t, rfl⟩ hd) (fun _ => rfl) h
/-- a class of the module -/
theorem ev_gref {x : Str} {C : Addr} (hg : Gl X x) (hm : X.mg x = some (.ref C)) (h : Φ (.obj C) ρ) (hd : (x == ("__debug__" : Str)) = false := by decide) : EvP X B (.Name x pos) δ ρ Φ :=
  ev_c (d := .obj C) (v := .ref C) (pe_glob hg hm (v := .ref C) rfl hd) (fun _ => rfl) h
/-- a built-in type as a value -/
theorem ev_ty {x : Str} {n : String} (hg : Gl X x) (hm : X.mg x = none) (hv : bootBuiltins x = some (.type n)) (h : Φ (.ty n) ρ) (hn : x ≠ "__name__" := by decide) (hd : (x == ("__debug__" : Str)) = false := by decide) : EvP X B (.Name x pos) δ ρ Φ :=
  ev_c (d := .ty n) (v := .ty n) (pe_bltn hg hm hv (v := .ty n) rfl hn hd) (fun _ => rfl) h
/-! operators -/
theorem ev_bin {op : Operator} (h : EvP X B a δ ρ fun x ρ1 => EvP X B b δ ρ1 fun y ρ2 => BiP X B (binaryOp op) x y ρ2 Φ) : EvP X B (.BinOp a op b pos) δ ρ Φ := fun σ H ds vs Q st q =>
  (pe_op (pR2 _) (pE a) (pE b)).to (h σ H ds vs _ st fun x ρ1 v H1 h1 st1 => h1 σ H1 _ _ _ st1 fun y ρ2 w H2 h2 st2 => h2 δ σ H2 ds vs v w _ st2 q)
theorem ev_un {op : UnaryOp} (h : EvP X B a δ ρ fun x ρ1 => UnP X B (unaryOp op) x ρ1 Φ) : EvP X B (.UnaryOp op a pos) δ ρ Φ := fun σ H ds vs Q st q =>
  (pe_un (pR1 _) (pE a)).to (h σ H ds vs _ st fun x ρ1 v H1 h1 st1 => h1 δ σ H1 ds vs v _ st1 q)
theorem ev_cmp {op : CmpOp} (hm : behindInMarks op b = false) (h : EvP X B a δ ρ fun x ρ1 => EvP X B b δ ρ1 fun y ρ2 => BiP X B (compareOp op) x y ρ2 Φ) : EvP X B (.Compare a [op] [b] pos) δ ρ Φ := fun σ H ds vs Q st q =>
  (pe_cmpR (pR2 _) (pE a) (pE b) hm).to (h σ H ds vs _ st fun x ρ1 v H1 h1 st1 => h1 σ H1 _ _ _ st1 fun y ρ2 w H2 h2 st2 => h2 δ σ H2 ds vs v w _ st2 q)
/-- as a test: what comes is a bool -/
theorem ts_cmp {op : CmpOp} {Φ : Bool → Rs → Prop} (hm : behindInMarks op b = false) (h : EvP X B a δ ρ fun x ρ1 => EvP X B b δ ρ1 fun y ρ2 => BiP X B (compareOp op) x y ρ2 fun d ρ3 => ∃ k, d = .bl k ∧ Φ k ρ3) : TsP X B (.Compare a [op] [b] pos) δ ρ Φ := fun σ H ds vs Q st q =>
  (pt_cmpR (pR2 _) (pE a) (pE b) hm).to (h σ H ds vs _ st fun x ρ1 v H1 h1 st1 => h1 σ H1 _ _ _ st1 fun y ρ2 w H2 h2 st2 => h2 δ σ H2 ds vs v w _ st2 fun d ρ3 z H3 h3 st3 => by
    obtain ⟨k, rfl, h4⟩ := h3
    obtain ⟨S, T, s⟩ := id st3
    have e : z = .bl k := s.tmp.hd
    exact ⟨k, e, q k ρ3 H3 h4 st3.pop⟩)
theorem ev_chain {op op' : CmpOp} (hm : lastMarks [op, op'] [b, c] = false) (h : EvP X B a δ ρ fun x ρ1 => EvP X B b δ ρ1 fun y ρ2 => BiP X B (compareOp op) x y ρ2 fun d ρ3 => ∃ k, d = .bl k ∧
      (k = true → ∀ δ', δ' = δ → EvP X B c δ ρ3 fun z ρ4 => BiP X B (compareOp op') y z ρ4 Φ) ∧ (k = false → Φ (.bl false) ρ3)) : EvP X B (.Compare a [op, op'] [b, c] pos) δ ρ Φ := fun σ H ds vs Q st q =>
  (pe_chain (pR2 _) (pR2 _) (pE a) (pE b) (pE c) hm).to (h σ H ds vs _ st fun x ρ1 v H1 h1 st1 => h1 σ H1 _ _ _ st1 fun y ρ2 w H2 h2 st2 => by
    refine h2 δ σ H2 (y :: ds) (w :: vs) v w _ (st2.tmps fun S _ r => ?_) fun d ρ3 z H3 h3 st3 => ?_
    · obtain ⟨_, _, e1, r1, r2⟩ := r; cases e1
      obtain ⟨_, _, e2, r3, r4⟩ := r2; cases e2
      exact .cons r1 (.cons r3 (.cons r1 r4))
    · obtain ⟨k, rfl, h4, h5⟩ := h3
      obtain ⟨S, T, s⟩ := id st3
      have e : z = .bl k := s.tmp.hd
      refine ⟨k, e, ?_⟩
      cases k with
      | true =>
        show tE X c σ H3 _
        exact h4 rfl δ rfl σ H3 _ _ _ st3.pop fun z ρ4 u H4 h6 st4 => h6 δ σ H4 ds vs w u _ st4 q
      | false =>
        show Q (.bl false) H3
        exact q _ ρ3 _ H3 (h5 rfl) (st3.pop.pop.push fun _ => rfl))
/-! tests -/
theorem ts_val {Φ : Bool → Rs → Prop} (he : ∀ {t : TE}, PE X e t → PT X e (tB t)) (h : EvP X B e δ ρ fun d ρ1 => ∃ k, d = .bl k ∧ Φ k ρ1) : TsP X B e δ ρ Φ := fun σ H ds vs Q st q =>
  (he (pE e)).to (h σ H ds vs _ st fun d ρ1 v H1 h1 st1 => by
    obtain ⟨k, rfl, h2⟩ := h1
    obtain ⟨S, T, s⟩ := id st1
    have e : v = .bl k := s.tmp.hd
    exact ⟨k, e, q k ρ1 H1 h2 st1.pop⟩)
theorem ts_tru {Φ : Bool → Rs → Prop} (he : ∀ whole, isTrue e X.env whole = (do let v ← whole; standAt e.pos; holding [v] (truthy v))) (h : EvP X B e δ ρ fun d ρ1 => TrP X B d ρ1 Φ) : TsP X B e δ ρ Φ := fun σ H ds vs Q st q pins s I => by
  rw [he]
  refine wpAny_bind (thn (h σ H ds vs _ st (fun d ρ1 v H1 h1 st1 => (show (fun v H1 => ∀ pins s u, Inv X pins σ H1 s → RelV v u → wpAny (model X.prog X.w) X.A (truthy u) (TP X pins σ Q) X.xe s) v H1 from fun pins s u I r => h1 δ σ H1 ds vs v Q st1 q pins s σ u I r)) pins s I) fun u s1 ⟨v, H1, I1, r1, q1⟩ => ?_)
  exact wpAny_bind (wpAny_standAt (wpAny_holding (q1 pins s1 u I1 r1)))
end
end Lw

set_option maxHeartbeats 1000000
/-! Tests, arguments, displays, calls. -/
namespace Lw
open PySem PySem.Spec PyProof.Rows L2

/-- what a context has for calls: no handled exception, room, where exceptions go -/
structure CxOk (X : Cx) (B : Base) (W : WX) (Ψ : Addr → List (Option D) → Rs → Prop) (k : Nat) : Prop where
  calm : X.calm = true
  takes : Takes X W
  own : PassesOwn (model X.prog X.w) X.A X.env X.xe
  psi : ∀ C δ ρ σ H ds vs, Ψ C δ ρ → StV X.K B δ ρ σ H ds vs → W (.ref C) none σ H
  room : Room k X.A
  nd : X.N.Nodup
section
variable {X : Cx} {B : Base} {W : WX} {Ψ : Addr → List (Option D) → Rs → Prop} {k : Nat} {δ : List (Option D)} {ρ : Rs} {Φ : D → Rs → Prop} {a b c e : Expr} {rest es : List Expr} {pos : Pos}
/-! ### tests -/
theorem ts_w {Φ : Bool → Rs → Prop} (h : TwP X B e δ ρ Φ) : TsP X B e δ ρ Φ := fun σ H ds vs Q st q => (pW e).pt.to (h σ H ds vs Q st q)
theorem tw_and1 {Φ : Bool → Rs → Prop} (h : TsP X B a δ ρ Φ) : TwP X B (.BoolOp .And [a] pos) δ ρ Φ := fun σ H ds vs Q st q => (pw_and1 (pT a)).to (h σ H ds vs Q st q)
theorem tw_or1 {Φ : Bool → Rs → Prop} (h : TsP X B a δ ρ Φ) : TwP X B (.BoolOp .Or [a] pos) δ ρ Φ := fun σ H ds vs Q st q => (pw_or1 (pT a)).to (h σ H ds vs Q st q)
theorem tw_and {Φ : Bool → Rs → Prop} (h : TsP X B a δ ρ fun k ρ1 => (k = true → TwP X B (.BoolOp .And (b :: rest) pos) δ ρ1 Φ) ∧ (k = false → Φ false ρ1)) : TwP X B (.BoolOp .And (a :: b :: rest) pos) δ ρ Φ := fun σ H ds vs Q st q =>
  (pw_and (pT a) (pW _)).to (h σ H ds vs _ st fun k ρ1 H1 h1 st1 => by
    cases k with
    | true => exact h1.1 rfl σ H1 ds vs Q st1 q
    | false => exact q false ρ1 H1 (h1.2 rfl) st1)
theorem tw_or {Φ : Bool → Rs → Prop} (h : TsP X B a δ ρ fun k ρ1 => (k = true → Φ true ρ1) ∧ (k = false → TwP X B (.BoolOp .Or (b :: rest) pos) δ ρ1 Φ)) : TwP X B (.BoolOp .Or (a :: b :: rest) pos) δ ρ Φ := fun σ H ds vs Q st q =>
  (pw_or (pT a) (pW _)).to (h σ H ds vs _ st fun k ρ1 H1 h1 st1 => by
    cases k with
    | true => exact q true ρ1 H1 (h1.1 rfl) st1
    | false => exact h1.2 rfl σ H1 ds vs Q st1 q)
theorem ts_not {Φ : Bool → Rs → Prop} (h : TsP X B a δ ρ fun k ρ1 => Φ (!k) ρ1) : TsP X B (.UnaryOp .Not a pos) δ ρ Φ := fun σ H ds vs Q st q =>
  (pt_not (pT a)).to (h σ H ds vs _ st fun k ρ1 H1 h1 st1 => q (!k) ρ1 H1 h1 st1)
theorem ev_and1 {op : BoolOp} (h : EvP X B a δ ρ Φ) : EvP X B (.BoolOp op [a] pos) δ ρ Φ := fun σ H ds vs Q st q => (pe_one (pE a)).to (h σ H ds vs Q st q)
theorem ev_and (h : EvP X B a δ ρ fun x ρ1 => ∃ k, x = .bl k ∧ (k = true → EvP X B (.BoolOp .And (b :: rest) pos) δ ρ1 Φ) ∧ (k = false → Φ (.bl false) ρ1)) : EvP X B (.BoolOp .And (a :: b :: rest) pos) δ ρ Φ := fun σ H ds vs Q st q =>
  (pe_and (pE a) (pE _)).to (h σ H ds vs _ st fun x ρ1 v H1 h1 st1 => by
    obtain ⟨k, rfl, h2, h3⟩ := h1
    obtain ⟨S, T, s⟩ := id st1
    refine ⟨k, s.tmp.hd, ?_⟩
    cases k with
    | true => exact h2 rfl σ H1 ds vs Q st1.pop q
    | false => exact q _ ρ1 _ H1 (h3 rfl) (st1.pop.push fun _ => rfl))
theorem ev_or (h : EvP X B a δ ρ fun x ρ1 => ∃ k, x = .bl k ∧ (k = true → Φ (.bl true) ρ1) ∧ (k = false → EvP X B (.BoolOp .Or (b :: rest) pos) δ ρ1 Φ)) : EvP X B (.BoolOp .Or (a :: b :: rest) pos) δ ρ Φ := fun σ H ds vs Q st q =>
  (pe_or (pE a) (pE _)).to (h σ H ds vs _ st fun x ρ1 v H1 h1 st1 => by
    obtain ⟨k, rfl, h2, h3⟩ := h1
    obtain ⟨S, T, s⟩ := id st1
    refine ⟨k, s.tmp.hd, ?_⟩
    cases k with
    | true => exact q _ ρ1 _ H1 (h2 rfl) (st1.pop.push fun _ => rfl)
    | false => exact h3 rfl σ H1 ds vs Q st1.pop q)
theorem ev_not (h : EvP X B a δ ρ fun x ρ1 => ∃ k, x = .bl k ∧ Φ (.bl (!k)) ρ1) : EvP X B (.UnaryOp .Not a pos) δ ρ Φ := fun σ H ds vs Q st q =>
  (pe_not (pE a)).to (h σ H ds vs _ st fun x ρ1 v H1 h1 st1 => by
    obtain ⟨k, rfl, h2⟩ := h1
    obtain ⟨S, T, s⟩ := id st1
    exact ⟨k, s.tmp.hd, q _ ρ1 _ H1 h2 (st1.pop.push fun _ => rfl)⟩)
theorem ev_ifx (h : TsP X B c δ ρ fun k ρ1 => (k = true → EvP X B a δ ρ1 Φ) ∧ (k = false → EvP X B b δ ρ1 Φ)) : EvP X B (.IfExp c a b pos) δ ρ Φ := fun σ H ds vs Q st q =>
  (pe_ifExp (pT c) (pE a) (pE b)).to (h σ H ds vs _ st fun k ρ1 H1 h1 st1 => by
    cases k with
    | true => exact h1.1 rfl σ H1 ds vs Q st1 q
    | false => exact h1.2 rfl σ H1 ds vs Q st1 q)
theorem tr_bl {k : Bool} {Φ : Bool → Rs → Prop} (h : Φ k ρ) : TrP X B (.bl k) ρ Φ := fun δ σ H ds vs a Q st q pins s σ' v I r => by
  obtain ⟨S, T, s0⟩ := id st
  have e : a = .bl k := s0.tmp.hd
  exact tru_ok pins s σ' H a v Q I r ⟨k, by rw [e]; rfl, q k ρ H h st.pop⟩
theorem tr_int {i : Int} {Φ : Bool → Rs → Prop} (h : Φ (i != 0) ρ) : TrP X B (.int i) ρ Φ := fun δ σ H ds vs a Q st q pins s σ' v I r => by
  obtain ⟨S, T, s0⟩ := id st
  have e : a = .int i := s0.tmp.hd
  exact tru_ok pins s σ' H a v Q I r ⟨i != 0, by rw [e]; rfl, q _ ρ H h st.pop⟩
theorem tr_non {Φ : Bool → Rs → Prop} (h : Φ false ρ) : TrP X B .non ρ Φ := fun δ σ H ds vs a Q st q pins s σ' v I r => by
  obtain ⟨S, T, s0⟩ := id st
  have e : a = .non := s0.tmp.hd
  exact tru_ok pins s σ' H a v Q I r ⟨false, by rw [e]; rfl, q _ ρ H h st.pop⟩
theorem tr_str {x : Str} {Φ : Bool → Rs → Prop} (hz : x.length ≤ sizeLine) (h : Φ ((x.length : Int) != 0) ρ) : TrP X B (.str x) ρ Φ := fun δ σ H ds vs a Q st q pins s σ' v I r => by
  obtain ⟨S, T, s0⟩ := id st
  have e : a = .str x := s0.tmp.hd
  exact tru_ok pins s σ' H a v Q I r ⟨_, by rw [e]; exact ⟨hz, rfl⟩, q _ ρ H h st.pop⟩

/-! ### lists that stand somewhere: stable, or owned -/
def LstAt (ρ : Rs) (d : D) (xs : List D) : Prop := d = .lst xs ∨ ∃ (k : Nat) (a : Addr), d = .obj a ∧ (ρ[k]? = some (a, Own.ol xs) ∨ ∃ (j : Nat) (p : Addr) (kvs : List (Int × (Addr × List D))), (ρ[j]? = some (p, Own.dol kvs) ∨ ρ[j]? = some (p, Own.dolF kvs)) ∧ ∃ q ∈ kvs, q.2 = (a, xs))
theorem LstAt.l {ρ : Rs} {xs : List D} : LstAt ρ (.lst xs) xs := Or.inl rfl
theorem LstAt.o {ρ : Rs} {xs : List D} {a : Addr} (k : Nat) (h : ρ[k]? = some (a, .ol xs)) : LstAt ρ (.obj a) xs := Or.inr ⟨k, a, rfl, Or.inl h⟩
theorem LstAt.sq {K : PySem.W.Frag} {σ : L2.St} {H : Hp} {ds : List D} {vs : List V} {d : D} {v : V} {xs : List D} {S : Hp} {T : Nat → Hp} (h : LstAt ρ d xs) (s : Sta K B δ ρ σ H ds vs S T) (r : Rep S d v) : ∃ p ys, v = .ref p ∧ H p = some (.lst ys) ∧ RepL S xs ys := by
  rcases h with rfl | ⟨k, a, rfl, h | ⟨j, p, kvs, h, q, hq, e⟩⟩
  · obtain ⟨p, ys, e1, e2, e3⟩ := r
    exact ⟨p, ys, e1, s.exS _ _ e2, e3⟩
  · obtain ⟨ys, h1, h2⟩ := s.own k a _ h
    exact ⟨a, ys, r, s.exT k _ _ h1, h2⟩
  · have hl : Lists S (T j) kvs := by
      rcases h with h | h
      · exact (s.own j p _ h).2
      · exact (s.own j p _ h).2
    obtain ⟨ys, h1, h2⟩ := hl.2.2 q hq
    rw [e] at h1 h2
    exact ⟨a, ys, r, s.exT j _ _ h1, h2⟩
theorem tr_lst {d : D} {xs : List D} {Φ : Bool → Rs → Prop} (hl : LstAt ρ d xs) (h : Φ (!xs.isEmpty) ρ) : TrP X B d ρ Φ := fun δ σ H ds vs a Q st q pins s σ' v I r => by
  obtain ⟨S, T, s0⟩ := id st
  obtain ⟨p, ys, e, e2, e3⟩ := hl.sq s0 s0.tmp.hd
  have el : (!ys.isEmpty) = !xs.isEmpty := by
    have := e3.length
    cases xs <;> cases ys <;> simp_all
  exact tru_ok pins s σ' H a v Q I r ⟨!xs.isEmpty, by rw [e]; exact .inl ⟨ys, SqL.of e2, el.symm⟩, q _ ρ H h st.pop⟩

/-! ### arguments, displays -/
theorem ag_nil {Φ : List D → Rs → Prop} (h : Φ [] ρ) : AgP X B [] δ ρ Φ := fun σ H ds vs Q st q => pa_nil.to (q [] ρ [] H h rfl st)
theorem ag_cons {Φ : List D → Rs → Prop} (hs : starEach (e :: es) X.env = (false, eval e X.env) :: starEach es X.env) (h : EvP X B e δ ρ fun d ρ1 => AgP X B es δ ρ1 fun as ρ2 => Φ (d :: as) ρ2) : AgP X B (e :: es) δ ρ Φ := fun σ H ds vs Q st q =>
  (pa_cons (pE e) (pA es) hs).to (h σ H ds vs _ st fun d ρ1 v H1 h1 st1 => h1 σ H1 _ _ _ st1 fun as ρ2 xs H2 h2 el st2 => by
    refine q (d :: as) ρ2 (v :: xs) H2 h2 (by simp [el]) (st2.tmps fun S _ r => ?_)
    obtain ⟨ys, zs, e1, r1, r2⟩ := RepL.split r
    have hl : xs.length = ys.length := by rw [← el, r1.length]
    obtain ⟨e2, e3⟩ := List.append_inj e1 hl
    subst e2 e3
    obtain ⟨_, _, e4, r3, r4⟩ := r2
    cases e4
    exact .cons r3 (r1.app r4))
theorem ev_tup {x1} (h : AgP X B es δ ρ fun as ρ1 => as.length ≤ sizeLine ∧ Φ (.tup as) ρ1) : EvP X B (.Tuple es x1 pos) δ ρ Φ := fun σ H ds vs Q st q =>
  (pe_tup (pA es)).to (h σ H ds vs _ st fun as ρ1 xs H1 h1 el st1 => ⟨by rw [← el]; exact h1.1, fun p hp => by
    refine q _ ρ1 _ _ h1.2 ((st1.lay (u := .tup xs) (d := .tup as) hp fun S eS r sp => ?_).tmps fun S _ r => ?_)
    · obtain ⟨ys, zs, e1, r1, r2⟩ := RepL.split r
      obtain ⟨e2, e3⟩ := List.append_inj e1 (by rw [← el, r1.length])
      subst e2
      exact ⟨p, xs, rfl, upd_same, r1.mono ((Ex.refl S).new sp)⟩
    · obtain ⟨_, _, e4, r3, r4⟩ := r
      cases e4
      obtain ⟨ys, zs, e1, r1, r2⟩ := RepL.split r4
      obtain ⟨e2, e3⟩ := List.append_inj e1 (by rw [← el, r1.length])
      subst e3
      exact .cons r3 r2⟩)
theorem ev_lst (h : AgP X B es δ ρ fun as ρ1 => as.length ≤ sizeLine ∧ Φ (.lst as) ρ1) : EvP X B (.List es pos) δ ρ Φ := fun σ H ds vs Q st q =>
  (pe_lst (pA es)).to (h σ H ds vs _ st fun as ρ1 xs H1 h1 el st1 => ⟨by rw [← el]; exact h1.1, fun p hp => by
    refine q _ ρ1 _ _ h1.2 ((st1.lay (u := .lst xs) (d := .lst as) hp fun S eS r sp => ?_).tmps fun S _ r => ?_)
    · obtain ⟨ys, zs, e1, r1, r2⟩ := RepL.split r
      obtain ⟨e2, e3⟩ := List.append_inj e1 (by rw [← el, r1.length])
      subst e2
      exact ⟨p, xs, rfl, upd_same, r1.mono ((Ex.refl S).new sp)⟩
    · obtain ⟨_, _, e4, r3, r4⟩ := r
      cases e4
      obtain ⟨ys, zs, e1, r1, r2⟩ := RepL.split r4
      obtain ⟨e2, e3⟩ := List.append_inj e1 (by rw [← el, r1.length])
      subst e3
      exact .cons r3 r2⟩)
/-- a list of our own, to be changed -/
theorem ev_lsto (h : AgP X B es δ ρ fun as ρ1 => as.length ≤ sizeLine ∧ ∀ p, B.H p = none → Φ (.obj p) ((p, .ol as) :: ρ1)) : EvP X B (.List es pos) δ ρ Φ := fun σ H ds vs Q st q =>
  (pe_lst (pA es)).to (h σ H ds vs _ st fun as ρ1 xs H1 h1 el st1 => ⟨by rw [← el]; exact h1.1, fun p hp => by
    obtain ⟨st2, hb⟩ := st1.lay1 (u := .lst xs) (o := .ol as) hp fun S r => by
      obtain ⟨ys, zs, e1, r1, r2⟩ := RepL.split r
      obtain ⟨e2, e3⟩ := List.append_inj e1 (by rw [← el, r1.length])
      subst e2
      exact ⟨xs, single_same, r1⟩
    refine q _ _ _ _ (h1.2 p hb) (st2.tmps fun S _ r => ?_)
    obtain ⟨_, _, e4, r3, r4⟩ := r
    cases e4
    obtain ⟨ys, zs, e1, r1, r2⟩ := RepL.split r4
    obtain ⟨e2, e3⟩ := List.append_inj e1 (by rw [← el, r1.length])
    subst e3
    exact .cons r3 r2⟩)
/-- {} of our own -/
theorem ev_dct (h : ∀ p, B.H p = none → Φ (.obj p) ((p, .od []) :: ρ)) : EvP X B (.Dict [] [] pos) δ ρ Φ := fun σ H ds vs Q st q =>
  pe_dnewK.to fun p hp => by
    obtain ⟨st2, hb⟩ := st.lay1 (u := .dK []) (o := .od []) hp fun S r => ⟨[], single_same, .nil⟩
    exact q _ _ _ _ (h p hb) st2
theorem ev_dctl (h : ∀ p, B.H p = none → Φ (.obj p) ((p, .dol []) :: ρ)) : EvP X B (.Dict [] [] pos) δ ρ Φ := fun σ H ds vs Q st q =>
  pe_dnewK.to fun p hp => by
    obtain ⟨st2, hb⟩ := st.lay1 (u := .dK []) (o := .dol []) hp fun S r => ⟨⟨[], single_same, .nil⟩, List.nodup_nil, List.nodup_nil, fun _ h => nomatch h⟩
    exact q _ _ _ _ (h p hb) st2
/-! ### calls of what is built in -/
theorem ev_callB {x : Str} {p : Pos} {id : String} (hg : Gl X x) (hm : X.mg x = none) (hv : bootBuiltins x = some (.builtin id)) (h : AgP X B (e :: es) δ ρ fun as ρ1 => ClP X B (.builtin id) as ρ1 Φ)
    (hn : x ≠ "__name__" := by decide) (hdb : (x == ("__debug__" : Str)) = false := by decide) (he : starEach (e :: es) X.env = (false, eval e X.env) :: starEach es X.env := by rfl) (hpl : (backTo pos (starEach es X.env)).any (·.1) = false := by rfl) : EvP X B (.Call (.Name x p) (e :: es) [] pos) δ ρ Φ := fun σ H ds vs Q st q =>
  (pe_callB (pRC _) hg hm hv (pA _) hn hdb he hpl).to (h σ H ds vs _ st fun as ρ1 xs H1 h1 el st1 => h1 δ σ H1 ds vs xs Q el st1 q)
theorem ev_callTy {x : Str} {p : Pos} {T : String} (hg : Gl X x) (hm : X.mg x = none) (hv : bootBuiltins x = some (.type T)) (h : AgP X B (e :: es) δ ρ fun as ρ1 => ClP X B (.type T) as ρ1 Φ)
    (hn : x ≠ "__name__" := by decide) (hdb : (x == ("__debug__" : Str)) = false := by decide) (he : starEach (e :: es) X.env = (false, eval e X.env) :: starEach es X.env := by rfl) (hpl : (backTo pos (starEach es X.env)).any (·.1) = false := by rfl) : EvP X B (.Call (.Name x p) (e :: es) [] pos) δ ρ Φ := fun σ H ds vs Q st q =>
  (pe_callTy (pRC _) hg hm hv (pA _) hn hdb he hpl).to (h σ H ds vs _ st fun as ρ1 xs H1 h1 el st1 => h1 δ σ H1 ds vs xs Q el st1 q)
/-- o.m(..), a method of a built-in type -/
theorem ev_bm {o : Expr} {name : Str} {apos : Pos} {T id : String} (pa : PlainAttrs T) (slot : Slot T name id) (hty : typeOf (.builtin id) = pure (.type "method_descriptor"))
    (hbase : attributeBase o name X.env (eval o X.env) = eval o X.env)
    (hfew : ((backTo pos (starEach (e :: es) X.env)).all (fun x => !x.1) && (backToKw pos (keywordEach [] X.env)).all (fun x => x.1.isSome) && decide ((e :: es).length + ([] : List Keyword).length + (if ([] : List Keyword).isEmpty then 0 else 1) < 30)) = true)
    (hline : (apos.endLine == pos.line) = true) (hs : starEach (e :: es) X.env = (false, eval e X.env) :: starEach es X.env) (hplain : (backTo pos (starEach es X.env)).any (·.1) = false)
    (h : EvP X B o δ ρ fun d ρ1 => TyP X B T d ρ1 ∧ AgP X B (e :: es) δ ρ1 fun as ρ2 => MtP X B id d as ρ2 Φ) : EvP X B (.Call (.Attribute o name apos) (e :: es) [] pos) δ ρ Φ := fun σ H ds vs Q st q =>
  (pe_bm pa slot hty (pRM _) (pE o) (pA _) hbase hfew hline hs hplain).to (h σ H ds vs _ st fun d ρ1 v H1 h1 st1 => ⟨h1.1 δ σ H1 ds vs v st1, h1.2 σ H1 _ _ _ st1 fun as ρ2 xs H2 h2 el st2 => h2 δ σ H2 ds vs v xs Q el st2 q⟩)
theorem ev_bm0 {o : Expr} {name : Str} {apos : Pos} {T id : String} (pa : PlainAttrs T) (slot : Slot T name id) (hty : typeOf (.builtin id) = pure (.type "method_descriptor"))
    (hbase : attributeBase o name X.env (eval o X.env) = eval o X.env) (hline : (apos.endLine == pos.line) = true)
    (h : EvP X B o δ ρ fun d ρ1 => TyP X B T d ρ1 ∧ MtP X B id d [] ρ1 Φ) : EvP X B (.Call (.Attribute o name apos) [] [] pos) δ ρ Φ := fun σ H ds vs Q st q =>
  (pe_bm0 pa slot hty (pRM _) (pE o) hbase hline).to (h σ H ds vs _ st fun d ρ1 v H1 h1 st1 => ⟨h1.1 δ σ H1 ds vs v st1, h1.2 δ σ H1 ds vs v [] Q rfl st1 q⟩)
/-! ### subscripts, slices, attributes -/
theorem ev_sub (hs : PlainIx b) (h : EvP X B a δ ρ fun x ρ1 => EvP X B b δ ρ1 fun y ρ2 => IxP X B x y ρ2 Φ) : EvP X B (.Subscript a b pos) δ ρ Φ := fun σ H ds vs Q st q =>
  (pe_ix pRI (pE a) (pE b) hs).to (h σ H ds vs _ st fun x ρ1 v H1 h1 st1 => h1 σ H1 _ _ _ st1 fun y ρ2 w H2 h2 st2 => h2 δ σ H2 ds vs v w _ st2 q)
theorem pt_none {Φ : Option Int → Rs → Prop} (h : Φ none ρ) : PtP X B none δ ρ Φ := fun σ H ds vs Q st q => po_none.to (q none ρ H h st)
theorem pt_some {Φ : Option Int → Rs → Prop} (h : EvP X B e δ ρ fun d ρ1 => ∃ i, d = .int i ∧ Φ (some i) ρ1) : PtP X B (some e) δ ρ Φ := fun σ H ds vs Q st q =>
  (po_some (pE e)).to (h σ H ds vs _ st fun d ρ1 v H1 h1 st1 => by
    obtain ⟨i, rfl, h2⟩ := h1
    obtain ⟨S, T, s⟩ := id st1
    exact ⟨i, s.tmp.hd, q _ ρ1 H1 h2 st1.pop⟩)
/-- a slice, by values -/
def tSR (X : Cx) : V → Option Int → Option Int → Hp → VK → Prop := fun x lo hi H Q => ∀ (pins : List (Addr × Obj)) (s : Shared) (σ : L2.St) (v vl vu : Value) (sl : Addr), Inv X pins σ H s → RelV x v → s.heap.IsSliceOf sl vl vu .none → IsPart vl lo → IsPart vu hi →
    ∃ T id, typeLookup (.type T) "__getitem__" = pure (some (.builtin id)) ∧ s.TypeIs v T ∧ wpAny (model X.prog X.w) X.A (getItem v (.ref sl)) (EP X pins σ Q) X.xe s
theorem pSR : SlR X (tSR X) := fun pins s σ H x v vl vu lo hi sl Q I r1 r2 r3 r4 h => h pins s σ v vl vu sl I r1 r2 r3 r4
def SlP (X : Cx) (B : Base) (x : D) (lo hi : Option Int) (ρ : Rs) (Φ : D → Rs → Prop) : Prop := ∀ δ σ H ds vs a Q, StV X.K B δ ρ σ H (x :: ds) (a :: vs) → PostE X B δ σ ds vs Φ Q → tSR X a lo hi H Q
theorem ev_slice {lo hi : Option Expr} {p2 : Pos} (h : EvP X B a δ ρ fun x ρ1 => PtP X B lo δ ρ1 fun l ρ2 => PtP X B hi δ ρ2 fun u ρ3 => SlP X B x l u ρ3 Φ) : EvP X B (.Subscript a (.Slice lo hi none p2) pos) δ ρ Φ := fun σ H ds vs Q st q =>
  (pe_slice pSR (pE a) (pO lo) (pO hi)).to (h σ H ds vs _ st fun x ρ1 v H1 h1 st1 => h1 σ H1 _ _ _ st1 fun l ρ2 H2 h2 st2 => h2 σ H2 _ _ _ st2 fun u ρ3 H3 h3 st3 => h3 δ σ H3 ds vs v _ st3 q)
/-- o.f, an attribute of an instance of our own -/
theorem ev_attr {o : Expr} {f : Str} (hb : attributeBase o f X.env (eval o X.env) = eval o X.env)
    (h : EvP X B o δ ρ fun d ρ1 => ∃ (k : Nat) (p C : Addr) (fs : List (Str × D)) (v : D), d = .obj p ∧ ρ1[k]? = some (p, Own.ins C fs) ∧ Cls X.K C ∧ NoAttr X.K C f ∧ fs.lookup f = some v ∧ Φ v ρ1) : EvP X B (.Attribute o f pos) δ ρ Φ := fun σ H ds vs Q st q =>
  (pe_fld (pE o) hb).to (h σ H ds vs _ st fun d ρ1 v H1 h1 st1 => by
    obtain ⟨k, p, C, fs, w, rfl, hk, c, n, l, h2⟩ := h1
    obtain ⟨S, T, s⟩ := id st1
    obtain ⟨dx, fv, e1, e2⟩ := s.own k p _ hk
    have ev : v = .ref p := s.tmp.hd
    have look : ∀ {fs : List (Str × D)} {fv : List (Str × V)}, FsR S fs fv → fs.lookup f = some w → ∃ z, fv.lookup f = some z ∧ Rep S w z := by
      intro fs fv r
      induction r with
      | nil => intro h; cases h
      | @cons x y xs ys r t ih =>
        intro h
        obtain ⟨a1, a2⟩ := x
        obtain ⟨b1, b2⟩ := y
        obtain ⟨q1, q2⟩ := r
        have q1' : b1 = a1 := q1
        subst q1'
        rw [List.lookup_cons] at h ⊢
        cases hf : f == b1 with
        | true => rw [hf] at h; cases h; exact ⟨b2, rfl, q2⟩
        | false => rw [hf] at h; exact ih h
    obtain ⟨z, l2, r2⟩ := look e2 l
    exact ⟨p, C, dx, fv, z, ev, s.exT k _ _ e1, c, n, l2, q w ρ1 z H1 h2 ⟨S, T, s.re s.env (.cons r2 s.tmp.tl)⟩⟩)
end
end Lw

set_option maxHeartbeats 1000000
/-! Statements, defs. -/
namespace Lw
open PySem PySem.Spec PyProof.Rows L2

abbrev Dl := List (Option D)
structure EK where
  nx : Dl → Rs → Prop
  rt : D → Rs → Prop
  bk : Dl → Rs → Prop := fun _ _ => False
  ct : Dl → Rs → Prop := fun _ _ => False
structure LiftE (X : Cx) (B : Base) (K : EK) (ds : List D) (vs : List V) (Dn : Ends) : Prop where
  nx : ∀ δ ρ σ H, K.nx δ ρ → StV X.K B δ ρ σ H ds vs → Dn.nx σ H
  rt : ∀ d ρ v H, K.rt d ρ → StV X.K B [] ρ [] H [d] [v] → Dn.rt v H
  bk : ∀ δ ρ σ H, K.bk δ ρ → StV X.K B δ ρ σ H ds vs → Dn.bk σ H
  ct : ∀ δ ρ σ H, K.ct δ ρ → StV X.K B δ ρ σ H ds vs → Dn.ct σ H
def StP (X : Cx) (B : Base) (st : Stmt) (δ : Dl) (ρ : Rs) (K : EK) : Prop := ∀ σ H ds vs Dn, StV X.K B δ ρ σ H ds vs → LiftE X B K ds vs Dn → tS X st Dn σ H
def StPs (X : Cx) (B : Base) (sts : List Stmt) (δ : Dl) (ρ : Rs) (K : EK) : Prop := ∀ σ H ds vs Dn, StV X.K B δ ρ σ H ds vs → LiftE X B K ds vs Dn → tSs X sts Dn σ H
def tG (X : Cx) (tg : Expr) : TG := fun v σ H Q => ∀ (pins : List (Addr × Obj)) (s : Shared) (u : Value), Inv X pins σ H s → RelV v u → wpAny (model X.prog X.w) X.A (assign tg X.env u) (fun _ s' => ∃ σ' H', Inv X pins σ' H' s' ∧ Q σ' H') X.xe s
theorem pG {X : Cx} (tg : Expr) : PG X tg (tG X tg) := ⟨fun pins s σ H v u Q I r h => h pins s u I r⟩
theorem _root_.L2.PG.to {X : Cx} {tg : Expr} {t : TG} (h : PG X tg t) {v : V} {σ : L2.St} {H : Hp} {Q : L2.St → Hp → Prop} (q : t v σ H Q) : tG X tg v σ H Q := fun pins s u I r => h.run pins s σ H v u Q I r q
def TgP (X : Cx) (B : Base) (tg : Expr) (d : D) (δ : Dl) (ρ : Rs) (Φ : Dl → Rs → Prop) : Prop := ∀ σ H ds vs v Q, StV X.K B δ ρ σ H (d :: ds) (v :: vs) → (∀ δ' ρ' σ' H', Φ δ' ρ' → StV X.K B δ' ρ' σ' H' ds vs → Q σ' H') → tG X tg v σ H Q
section
variable {X : Cx} {B : Base} {W : WX} {Ψ : Addr → Dl → Rs → Prop} {k : Nat} {δ : Dl} {ρ : Rs} {K : EK} {Φ : D → Rs → Prop} {a b c e : Expr} {st : Stmt} {rest body sts sa sb : List Stmt} {es : List Expr} {pos : Pos} {ds : List D} {vs : List V} {Dn : Ends}
theorem LiftE.pop {d : D} {v : V} (h : LiftE X B K ds vs Dn) : LiftE X B K (d :: ds) (v :: vs) Dn := ⟨fun δ ρ σ H q st => h.nx δ ρ σ H q st.pop, h.rt, fun δ ρ σ H q st => h.bk δ ρ σ H q st.pop, fun δ ρ σ H q st => h.ct δ ρ σ H q st.pop⟩
theorem StPs.mono {K' : EK} (h : StPs X B sts δ ρ K') (h1 : ∀ δ ρ, K'.nx δ ρ → K.nx δ ρ) (h2 : ∀ d ρ, K'.rt d ρ → K.rt d ρ) (h3 : ∀ δ ρ, K'.bk δ ρ → K.bk δ ρ) (h4 : ∀ δ ρ, K'.ct δ ρ → K.ct δ ρ) : StPs X B sts δ ρ K := fun σ H ds vs Dn s l =>
  h σ H ds vs Dn s ⟨fun δ ρ σ H q => l.nx δ ρ σ H (h1 _ _ q), fun d ρ v H q => l.rt d ρ v H (h2 _ _ q), fun δ ρ σ H q => l.bk δ ρ σ H (h3 _ _ q), fun δ ρ σ H q => l.ct δ ρ σ H (h4 _ _ q)⟩
/-! ### blocks -/
theorem sts_nil (h : K.nx δ ρ) : StPs X B [] δ ρ K := fun σ H ds vs Dn s l => pss_nil.to (l.nx δ ρ σ H h s)
theorem sts_cons (h : StP X B st δ ρ { K with nx := fun δ' ρ' => StPs X B rest δ' ρ' K }) : StPs X B (st :: rest) δ ρ K := fun σ H ds vs Dn s l =>
  (pss_cons (pS st) (pSs rest)).to (h σ H ds vs _ s ⟨fun δ' ρ' σ' H' q s' => q σ' H' ds vs Dn s' l, l.rt, l.bk, l.ct⟩)
theorem sts_one (h : StP X B st δ ρ K) : StPs X B [st] δ ρ K := fun σ H ds vs Dn s l => (pss_one (pS st)).to (h σ H ds vs _ s l)
/-- what follows is shown once, from M -/
theorem sts_cut (M : Dl → Rs → Prop) (h : StP X B st δ ρ { K with nx := M }) (h2 : ∀ δ' ρ', M δ' ρ' → StPs X B rest δ' ρ' K) : StPs X B (st :: rest) δ ρ K :=
  sts_cons fun σ H ds vs Dn s l => h σ H ds vs Dn s ⟨fun δ' ρ' σ' H' q s' => l.nx δ' ρ' σ' H' (h2 _ _ q) s', l.rt, l.bk, l.ct⟩
theorem sts_sh {ρ' : Rs} (f : Sh X.K B ρ ρ') (h : StPs X B sts δ ρ' K) : StPs X B sts δ ρ K := fun σ H ds vs Dn s l => h σ H ds vs Dn (f _ _ _ _ _ s) l
theorem st_sh {ρ' : Rs} (f : Sh X.K B ρ ρ') (h : StP X B st δ ρ' K) : StP X B st δ ρ K := fun σ H ds vs Dn s l => h σ H ds vs Dn (f _ _ _ _ _ s) l
theorem ev_sh {ρ' : Rs} (f : Sh X.K B ρ ρ') (h : EvP X B e δ ρ' Φ) : EvP X B e δ ρ Φ := fun σ H ds vs Q s q => h σ H ds vs Q (f _ _ _ _ _ s) q
/-- what the state says besides -/
theorem sts_fact {p : Prop} (f : ∀ σ H ds vs, StV X.K B δ ρ σ H ds vs → p) (h : p → StPs X B sts δ ρ K) : StPs X B sts δ ρ K := fun σ H ds vs Dn s l => h (f _ _ _ _ s) σ H ds vs Dn s l
/-! ### small statements -/
theorem st_set {i : Nat} {x : Str} {pos' : Pos} (c : CxOk X B W Ψ k) (hi : X.N[i]? = some x) (hx : Loc X.env.scope x) (hs : swapsWith e (some (.Name x pos')) pos.line X.env = pure false) (hf : X.fn x = true ∨ X.env.scope.names.lookup x = some .local)
    (h : EvP X B e δ ρ fun d ρ1 => K.nx (δ.set i (some d)) ρ1) : StP X B (.Assign [.Name x pos'] e pos) δ ρ K := fun σ H ds vs Dn s l =>
  (ps_set c.nd hi hx (pE e) hs hf).to (h σ H ds vs _ s fun d ρ1 v H1 h1 s1 => l.nx _ _ _ _ h1 s1.set)
theorem st_expr (hs : swapsWith e none pos.line X.env = pure false) (h : EvP X B e δ ρ fun _ ρ1 => K.nx δ ρ1) : StP X B (.Expr e pos) δ ρ K := fun σ H ds vs Dn s l =>
  (ps_expr (pE e) hs).to (h σ H ds vs _ s fun d ρ1 v H1 h1 s1 => l.nx _ _ _ _ h1 s1.pop)
theorem st_doc {x j pos'} (h : K.nx δ ρ) : StP X B (.Expr (.Constant (.str x) j pos) pos') δ ρ K := fun σ H ds vs Dn s l => ps_doc.to (l.nx _ _ _ _ h s)
theorem st_ret (h : EvP X B e δ ρ fun d ρ1 => K.rt d ρ1) : StP X B (.Return (some e) pos) δ ρ K := fun σ H ds vs Dn s l =>
  (ps_ret (pE e)).to (h σ H ds vs _ s fun d ρ1 v H1 h1 s1 => l.rt d ρ1 v H1 h1 s1.one)
theorem st_retN (h : K.rt .non ρ) : StP X B (.Return none pos) δ ρ K := fun σ H ds vs Dn s l => ps_retN.to (l.rt .non ρ .non H h (s.push (d := .non) (v := .non) fun _ => rfl).one)
theorem st_if (h : TsP X B c δ ρ fun k ρ1 => (k = true → StPs X B sa δ ρ1 K) ∧ (k = false → StPs X B sb δ ρ1 K)) : StP X B (.If c sa sb pos) δ ρ K := fun σ H ds vs Dn s l =>
  (ps_if (pT c) (pSs sa) (pSs sb)).to (h σ H ds vs _ s fun k ρ1 H1 h1 s1 => by
    cases k with
    | true => exact h1.1 rfl σ H1 ds vs Dn s1 l
    | false => exact h1.2 rfl σ H1 ds vs Dn s1 l)
theorem st_pass (h : K.nx δ ρ) : StP X B (.Pass pos) δ ρ K := fun σ H ds vs Dn s l => ps_pass.to (l.nx _ _ _ _ h s)
theorem st_break (h : K.bk δ ρ) : StP X B (.Break pos) δ ρ K := fun σ H ds vs Dn s l => ps_break.to (l.bk _ _ _ _ h s)
theorem st_cont (h : K.ct δ ρ) : StP X B (.Continue pos) δ ρ K := fun σ H ds vs Dn s l => ps_continue.to (l.ct _ _ _ _ h s)
/-- o[i] = v -/
theorem st_sub {o i : Expr} {pos' : Pos} (ha : ∀ v, assign (.Subscript o i pos') X.env v = (do
      let ov ← holding [v] (eval o X.env)
      let iv ← holding [v, ov] (eval i X.env)
      standAt pos'
      holding [v, ov, iv] (setItem ov iv v)
      release [v, ov, iv] [])) (hs : swapsWithSole [.Subscript o i pos'] e pos.line X.env = pure false) (hw : swappedStores [.Subscript o i pos'] e X.env = pure none) (h1 : (assignEach [.Subscript o i pos'] X.env).map (·.2) = [assign (.Subscript o i pos') X.env])
    (h : EvP X B e δ ρ fun v ρ1 => EvP X B o δ ρ1 fun od ρ2 => EvP X B i δ ρ2 fun id ρ3 => StI X B od id v ρ3 fun ρ4 => K.nx δ ρ4) : StP X B (.Assign [.Subscript o i pos'] e pos) δ ρ K := fun σ H ds vs Dn s l =>
  (ps_asg (pE e) (pg_sub (pE o) (pE i) pRS ha) hs hw h1).to (h σ H ds vs _ s fun v ρ1 z H1 h1 s1 => h1 σ H1 _ _ _ s1 fun od ρ2 y H2 h2 s2 => h2 σ H2 _ _ _ s2 fun id ρ3 x H3 h3 s3 => h3 δ σ H3 ds vs y x z _ s3 fun ρ4 H4 h4 s4 => l.nx _ _ _ _ h4 s4)
def putD (f : Str) (v : D) : List (Str × D) → List (Str × D)
  | [] => [(f, v)]
  | (g, x) :: r => if g = f then (g, v) :: r else (g, x) :: putD f v r
theorem FsR.put {S : Hp} {f : Str} {d : D} {v : V} (r : Rep S d v) : ∀ {fs : List (Str × D)} {fv : List (Str × V)}, FsR S fs fv → FsR S (putD f d fs) (putF f v fv)
  | _, _, .nil => .cons ⟨rfl, r⟩ .nil
  | (g, x) :: fs, (g', x') :: fv, .cons q t => by
    have e : g' = g := q.1
    subst e
    unfold putD putF
    by_cases z : g' = f
    · rw [if_pos z, if_pos z]; exact .cons ⟨rfl, r⟩ t
    · rw [if_neg z, if_neg z]; exact .cons q (FsR.put r t)
/-- o.f = v -/
theorem st_attr {o : Expr} {f : Str} {pos' : Pos} (hs : swapsWith e (some (.Attribute o f pos')) pos.line X.env = pure false)
    (h : EvP X B e δ ρ fun v ρ1 => EvP X B o δ ρ1 fun od ρ2 => ∃ (k : Nat) (p C : Addr) (fs : List (Str × D)), od = .obj p ∧ ρ2[k]? = some (p, Own.ins C fs) ∧ Cls X.K C ∧ NoAttr X.K C f ∧ fs.length < 1000 ∧ K.nx δ (ρ2.set k (p, .ins C (putD f v fs)))) : StP X B (.Assign [.Attribute o f pos'] e pos) δ ρ K := fun σ H ds vs Dn s l =>
  (ps_fld (pE o) (pE e) hs).to (h σ H ds vs _ s fun v ρ1 z H1 h1 s1 => h1 σ H1 _ _ _ s1 fun od ρ2 y H2 h2 s2 => by
    obtain ⟨k, p, C, fs, rfl, hk, c1, c2, c3, h3⟩ := h2
    obtain ⟨S, T, t⟩ := id s2
    obtain ⟨dx, fv, e1, e2⟩ := t.own k p _ hk
    have ey : y = .ref p := t.tmp.hd
    have el : fs.length = fv.length := Paired.length e2
    refine ⟨p, C, dx, fv, ey, t.exT k _ _ e1, c1, c2, by omega, l.nx _ _ _ _ h3 ?_⟩
    exact ⟨S, _, (t.re t.env t.tmp.tl.tl).put hk p (.ins C dx (putF f z fv)) (by rw [e1]; simp) rfl ⟨dx, _, upd_same, FsR.put t.tmp.tl.hd e2⟩⟩)
/-! ### targets -/
theorem tg_name {i : Nat} {x : Str} {d : D} {Φ : Dl → Rs → Prop} (c : CxOk X B W Ψ k) (hi : X.N[i]? = some x) (hx : Loc X.env.scope x) (hf : X.fn x = true ∨ X.env.scope.names.lookup x = some .local) (h : Φ (δ.set i (some d)) ρ) : TgP X B (.Name x pos) d δ ρ Φ := fun σ H ds vs v Q s q =>
  (pg_name c.nd hi hx hf).to (q _ _ _ _ h s.set)
/-- several names, from the left -/
def tGs (X : Cx) (ts : List Expr) : TGs := fun vs σ H Q => ∀ (pins : List (Addr × Obj)) (s : Shared) (us : List Value), Inv X pins σ H s → Vals vs us → wpAny (model X.prog X.w) X.A (assignInOrder ((assignEach ts X.env).map (·.2)) us) (fun _ s' => ∃ σ' H', Inv X pins σ' H' s' ∧ Q σ' H') X.xe s
theorem pGs (ts : List Expr) : PGs X ts (tGs X ts) := ⟨fun pins s σ H vs us Q I r h => h pins s us I r⟩
theorem _root_.L2.PGs.to {X : Cx} {ts : List Expr} {t : TGs} (h : PGs X ts t) {vs : List V} {σ : L2.St} {H : Hp} {Q : L2.St → Hp → Prop} (q : t vs σ H Q) : tGs X ts vs σ H Q := fun pins s us I r => h.run pins s σ H vs us Q I r q
def TgsP (X : Cx) (B : Base) (ts : List Expr) (xs : List D) (δ : Dl) (ρ : Rs) (Φ : Dl → Rs → Prop) : Prop := ∀ σ H ds vs ys Q, xs.length = ys.length → StV X.K B δ ρ σ H (xs ++ ds) (ys ++ vs) → (∀ δ' ρ' σ' H', Φ δ' ρ' → StV X.K B δ' ρ' σ' H' ds vs → Q σ' H') → tGs X ts ys σ H Q
theorem tgs_nil {Φ : Dl → Rs → Prop} (h : Φ δ ρ) : TgsP X B [] [] δ ρ Φ := fun σ H ds vs ys Q el s q => by
  have : ys = [] := List.length_eq_zero_iff.mp el.symm
  subst this
  exact pgs_nil.to ⟨rfl, q _ _ _ _ h s⟩
theorem tgs_cons {d : D} {xs : List D} {Φ : Dl → Rs → Prop} (hs : (assignEach (e :: es) X.env).map (·.2) = assign e X.env :: (assignEach es X.env).map (·.2)) (h : TgP X B e d δ ρ fun δ' ρ' => TgsP X B es xs δ' ρ' Φ) : TgsP X B (e :: es) (d :: xs) δ ρ Φ := fun σ H ds vs ys Q el s q => by
  cases ys with
  | nil => cases el
  | cons y ys =>
    exact (pgs_cons (pG e) (pGs es) hs).to ⟨y, ys, rfl, h σ H _ _ y _ s fun δ' ρ' σ' H' h' s' => h' σ' H' ds vs ys Q (by simpa using el) s' q⟩
theorem tg_tup {n : Nat} {xs : List D} {Φ : Dl → Rs → Prop} (c : CxOk X B W Ψ k) (hn : (assignEach es X.env).length = xs.length) (hst : (assignEach es X.env).findIdx? (·.1) = none) (h : TgsP X B es xs δ ρ Φ) : TgP X B (.Tuple es n pos) (.tup xs) δ ρ Φ := fun σ H ds vs v Q s q =>
  (pg_tup c.calm (pGs es) hn hst).to (by
    obtain ⟨S, T, t⟩ := id s
    obtain ⟨p, ys, e1, e2, e3⟩ := t.tmp.hd
    exact ⟨p, ys, e1, SqT.of (t.exS _ _ e2), e3.length.symm, h σ H ds vs ys Q e3.length ⟨S, T, t.re t.env (e3.app t.tmp.tl)⟩ q⟩)
/-! ### loops -/
/-- for x in a list -/
theorem st_forL {tg iter : Expr} (c : CxOk X B W Ψ k) (hs : ∀ x, foldedSetIterable iter X.env x = pure x) (h : EvP X B iter δ ρ fun d ρ1 => ∃ xs, LstAt ρ1 d xs ∧ ∃ I : Nat → Dl → Rs → Prop, I 0 δ ρ1 ∧ (∀ i δ ρ, I i δ ρ → LstAt ρ d xs) ∧
      (∀ i x δ ρ, xs[i]? = some x → I i δ ρ → TgP X B tg x δ ρ fun δ' ρ' => StPs X B body δ' ρ' { K with nx := I (i + 1), ct := I (i + 1), bk := K.nx }) ∧ (∀ δ ρ, I xs.length δ ρ → K.nx δ ρ)) : StP X B (.For tg iter body [] pos) δ ρ K := fun σ H ds vs Dn s l =>
  (ps_for c.own c.calm (pi_list (pE iter)) (pG tg) (pSs body) hs).to (h σ H ds vs _ s fun d ρ1 v H1 h1 s1 => by
    obtain ⟨xs, hl, I, h0, hst, hb, hd⟩ := h1
    obtain ⟨S, T, t⟩ := id s1
    obtain ⟨p, ys, e1, e2, e3⟩ := hl.sq t t.tmp.hd
    subst e1
    have again : ∀ {δ ρ σ H}, LstAt ρ d xs → StV X.K B δ ρ σ H (d :: ds) (.ref p :: vs) → ∃ zs, H p = some (.lst zs) ∧ xs.length = zs.length ∧ ∀ (i : Nat) y, zs[i]? = some y → ∃ x, xs[i]? = some x ∧ StV X.K B δ ρ σ H (x :: d :: ds) (y :: .ref p :: vs) := fun hl ⟨S, T, t⟩ => by
      obtain ⟨q, zs, e1, e2, e3⟩ := hl.sq t t.tmp.hd
      cases e1
      refine ⟨zs, e2, e3.length, fun i y hy => ?_⟩
      obtain ⟨x, hx, r⟩ := e3.at' hy
      exact ⟨x, hx, S, T, t.re t.env (.cons r t.tmp)⟩
    refine ⟨p, rfl, ⟨ys, SqL.of e2⟩, fun i m σ H => m = xs.length - i ∧ i ≤ xs.length ∧ ∃ δ ρ, I i δ ρ ∧ StV X.K B δ ρ σ H (d :: ds) (.ref p :: vs), ⟨_, rfl, Nat.zero_le _, δ, ρ1, h0, s1⟩, ?_⟩
    rintro i m σ H ⟨rfl, hi, δ', ρ', hI, s2⟩
    obtain ⟨zs, e4, el, look⟩ := again (hst i δ' ρ' hI) s2
    by_cases hlt : i < xs.length
    · refine .inr ⟨⟨zs, zs[i]'(by omega), SqL.of e4, List.getElem?_eq_getElem (by omega)⟩, fun σ H => ∃ δ ρ, I (i + 1) δ ρ ∧ StV X.K B δ ρ σ H (d :: ds) (.ref p :: vs), fun σ' H' ⟨δ, ρ, a, b⟩ => ⟨xs.length - (i + 1), by omega, rfl, hlt, δ, ρ, a, b⟩, fun y H' hy => ?_⟩
      obtain ⟨eH, hy⟩ := hy
      subst eH
      obtain ⟨x, hx, s3⟩ := look i y (hy zs (SqL.of e4))
      refine hb i x δ' ρ' hx hI σ H' _ _ y _ s3 fun δ2 ρ2 σ2 H2 h2 s4 => h2 σ2 H2 (d :: ds) (.ref p :: vs) _ s4 ⟨fun δ ρ σ H q s => ⟨δ, ρ, q, s⟩, l.rt, fun δ ρ σ H q s => l.nx δ ρ σ H q s.pop, fun δ ρ σ H q s => ⟨δ, ρ, q, s⟩⟩
    · have e : i = xs.length := by omega
      subst e
      exact .inl ⟨⟨zs, SqL.of e4, by omega⟩, l.nx _ _ _ _ (hd _ _ hI) s2.pop⟩)
/-- for x in a tuple -/
theorem st_forT {tg iter : Expr} (c : CxOk X B W Ψ k) (hs : ∀ x, foldedSetIterable iter X.env x = pure x) (h : EvP X B iter δ ρ fun d ρ1 => ∃ xs, d = .tup xs ∧ ∃ I : Nat → Dl → Rs → Prop, I 0 δ ρ1 ∧
      (∀ i x δ ρ, xs[i]? = some x → I i δ ρ → TgP X B tg x δ ρ fun δ' ρ' => StPs X B body δ' ρ' { K with nx := I (i + 1), ct := I (i + 1), bk := K.nx }) ∧ (∀ δ ρ, I xs.length δ ρ → K.nx δ ρ)) : StP X B (.For tg iter body [] pos) δ ρ K := fun σ H ds vs Dn s l =>
  (ps_for c.own c.calm (pi_tup (pE iter)) (pG tg) (pSs body) hs).to (h σ H ds vs _ s fun d ρ1 v H1 h1 s1 => by
    obtain ⟨xs, rfl, I, h0, hb, hd⟩ := h1
    obtain ⟨S, T, t⟩ := id s1
    obtain ⟨p, ys, e1, e2, e3⟩ := t.tmp.hd
    subst e1
    have again : ∀ {δ ρ σ H}, StV X.K B δ ρ σ H (.tup xs :: ds) (.ref p :: vs) → ∃ zs, H p = some (.tup zs) ∧ xs.length = zs.length ∧ ∀ (i : Nat) y, zs[i]? = some y → ∃ x, xs[i]? = some x ∧ StV X.K B δ ρ σ H (x :: .tup xs :: ds) (y :: .ref p :: vs) := fun ⟨S, T, t⟩ => by
      obtain ⟨q, zs, e1, e2, e3⟩ := t.tmp.hd
      cases e1
      refine ⟨zs, t.exS _ _ e2, e3.length, fun i y hy => ?_⟩
      obtain ⟨x, hx, r⟩ := e3.at' hy
      exact ⟨x, hx, S, T, t.re t.env (.cons r t.tmp)⟩
    refine ⟨p, rfl, ⟨ys, SqT.of (t.exS _ _ e2)⟩, fun i m σ H => m = xs.length - i ∧ i ≤ xs.length ∧ ∃ δ ρ, I i δ ρ ∧ StV X.K B δ ρ σ H (.tup xs :: ds) (.ref p :: vs), ⟨_, rfl, Nat.zero_le _, δ, ρ1, h0, s1⟩, ?_⟩
    rintro i m σ H ⟨rfl, hi, δ', ρ', hI, s2⟩
    obtain ⟨zs, e4, el, look⟩ := again s2
    by_cases hlt : i < xs.length
    · refine .inr ⟨⟨zs, zs[i]'(by omega), SqT.of e4, List.getElem?_eq_getElem (by omega)⟩, fun σ H => ∃ δ ρ, I (i + 1) δ ρ ∧ StV X.K B δ ρ σ H (.tup xs :: ds) (.ref p :: vs), fun σ' H' ⟨δ, ρ, a, b⟩ => ⟨xs.length - (i + 1), by omega, rfl, hlt, δ, ρ, a, b⟩, fun y H' hy => ?_⟩
      obtain ⟨eH, hy⟩ := hy
      subst eH
      obtain ⟨x, hx, s3⟩ := look i y (hy zs (SqT.of e4))
      refine hb i x δ' ρ' hx hI σ H' _ _ y _ s3 fun δ2 ρ2 σ2 H2 h2 s4 => h2 σ2 H2 (.tup xs :: ds) (.ref p :: vs) _ s4 ⟨fun δ ρ σ H q s => ⟨δ, ρ, q, s⟩, l.rt, fun δ ρ σ H q s => l.nx δ ρ σ H q s.pop, fun δ ρ σ H q s => ⟨δ, ρ, q, s⟩⟩
    · have e : i = xs.length := by omega
      subst e
      exact .inl ⟨⟨zs, SqT.of e4, by omega⟩, l.nx _ _ _ _ (hd _ _ hI) s2.pop⟩)
/-- the turns of a range -/
theorem for_rangeD {tg : Expr} {lo : Int} {n : Nat} {σ : L2.St} {H : Hp} (l : LiftE X B K ds vs Dn) (I : Nat → Dl → Rs → Prop) (h0 : ∃ δ ρ, I 0 δ ρ ∧ StV X.K B δ ρ σ H ds vs)
    (hb : ∀ i δ ρ, i < n → I i δ ρ → TgP X B tg (.int (lo + i)) δ ρ fun δ' ρ' => StPs X B body δ' ρ' { K with nx := I (i + 1), ct := I (i + 1), bk := K.nx }) (hd : ∀ δ ρ, I n δ ρ → K.nx δ ρ) :
    ∃ W : Nat → Nat → L2.St → Hp → Prop, (∃ m, W 0 m σ H) ∧ ∀ i m σ H, W i m σ H →
      ((Itr lo n).stop i H ∧ Dn.nx σ H) ∨ ((Itr lo n).go i H ∧ ∃ N : L2.St → Hp → Prop, (∀ σ' H', N σ' H' → ∃ m', m' < m ∧ W (i + 1) m' σ' H') ∧ ∀ x H', (Itr lo n).yld i H x H' → tG X tg x σ H' fun σ2 H2 => tSs X body { Dn with nx := N, ct := N, bk := Dn.nx } σ2 H2) := by
  refine for_range (lo := lo) (n := n) (fun i σ H => ∃ δ ρ, I i δ ρ ∧ StV X.K B δ ρ σ H ds vs) h0 ?_ fun σ H ⟨δ, ρ, q, s⟩ => l.nx _ _ _ _ (hd _ _ q) s
  rintro i σ H hi ⟨δ, ρ, hI, s⟩
  exact hb i δ ρ hi hI σ H ds vs _ _ (s.push fun _ => rfl) fun δ2 ρ2 σ2 H2 h2 s4 => h2 σ2 H2 ds vs _ s4 ⟨fun δ ρ σ H q s => ⟨δ, ρ, q, s⟩, l.rt, fun δ ρ σ H q s => l.nx δ ρ σ H q s, fun δ ρ σ H q s => ⟨δ, ρ, q, s⟩⟩
theorem st_forR1 {tg : Expr} {p ps : Pos} (c : CxOk X B W Ψ k) (hg : Gl X "range") (hm : X.mg "range" = none) (hs : starEach [a] X.env = [(false, eval a X.env)]) (hf : ∀ x, foldedSetIterable (.Call (.Name "range" p) [a] [] ps) X.env x = pure x)
    (h : EvP X B a δ ρ fun d ρ1 => ∃ j : Int, d = .int j ∧ -(2 ^ 62) ≤ j ∧ j < 2 ^ 62 ∧ ∃ I : Nat → Dl → Rs → Prop, I 0 δ ρ1 ∧
      (∀ i δ ρ, i < j.toNat → I i δ ρ → TgP X B tg (.int (0 + i)) δ ρ fun δ' ρ' => StPs X B body δ' ρ' { K with nx := I (i + 1), ct := I (i + 1), bk := K.nx }) ∧ (∀ δ ρ, I j.toNat δ ρ → K.nx δ ρ)) : StP X B (.For tg (.Call (.Name "range" p) [a] [] ps) body [] pos) δ ρ K := fun σ H ds vs Dn s l =>
  (ps_for c.own c.calm (pi_range1 hg hm (pa_cons (pE a) pa_nil hs) hs) (pG tg) (pSs body) hf).to (h σ H ds vs _ s fun d ρ1 v H1 h1 s1 => by
    obtain ⟨j, rfl, q1, q2, I, h0, hb, hd⟩ := h1
    obtain ⟨S, T, t⟩ := id s1
    exact ⟨j, by rw [show v = V.int j from t.tmp.hd], q1, q2, for_rangeD l I ⟨δ, ρ1, h0, s1.pop⟩ hb hd⟩)
theorem st_forR2 {tg : Expr} {p ps : Pos} (c : CxOk X B W Ψ k) (hg : Gl X "range") (hm : X.mg "range" = none) (hs : starEach [a, b] X.env = [(false, eval a X.env), (false, eval b X.env)]) (hs2 : starEach [b] X.env = [(false, eval b X.env)]) (hf : ∀ x, foldedSetIterable (.Call (.Name "range" p) [a, b] [] ps) X.env x = pure x)
    (h : EvP X B a δ ρ fun d1 ρ1 => EvP X B b δ ρ1 fun d2 ρ2 => ∃ i j : Int, d1 = .int i ∧ d2 = .int j ∧ (-(2 ^ 62) ≤ i ∧ i < 2 ^ 62 ∧ -(2 ^ 62) ≤ j ∧ j < 2 ^ 62) ∧ ∃ I : Nat → Dl → Rs → Prop, I 0 δ ρ2 ∧
      (∀ m δ ρ, m < (j - i).toNat → I m δ ρ → TgP X B tg (.int (i + m)) δ ρ fun δ' ρ' => StPs X B body δ' ρ' { K with nx := I (m + 1), ct := I (m + 1), bk := K.nx }) ∧ (∀ δ ρ, I (j - i).toNat δ ρ → K.nx δ ρ)) : StP X B (.For tg (.Call (.Name "range" p) [a, b] [] ps) body [] pos) δ ρ K := fun σ H ds vs Dn s l =>
  (ps_for c.own c.calm (pi_range2 hg hm (pa_cons (pE a) (pa_cons (pE b) pa_nil hs2) (by rw [hs, hs2])) hs hs2) (pG tg) (pSs body) hf).to (h σ H ds vs _ s fun d1 ρ1 v H1 h1 s1 => h1 σ H1 _ _ _ s1 fun d2 ρ2 u H2 h2 s2 => by
    obtain ⟨i, j, rfl, rfl, q1, I, h0, hb, hd⟩ := h2
    obtain ⟨S, T, t⟩ := id s2
    refine ⟨i, j, ?_, q1, for_rangeD l I ⟨δ, ρ2, h0, s2.pop.pop⟩ hb hd⟩
    rw [show u = V.int j from t.tmp.hd, show v = V.int i from t.tmp.tl.hd])
theorem st_while (I : Nat → Dl → Rs → Prop) (m0 : Nat) {cnd : Expr} (c : CxOk X B W Ψ k) (h0 : I m0 δ ρ)
    (h : ∀ m δ ρ, I m δ ρ → TsP X B cnd δ ρ fun k ρ1 => (k = true → StPs X B body δ ρ1 { K with nx := fun δ' ρ' => ∃ m', m' < m ∧ I m' δ' ρ', ct := fun δ' ρ' => ∃ m', m' < m ∧ I m' δ' ρ', bk := K.nx }) ∧ (k = false → K.nx δ ρ1)) : StP X B (.While cnd body [] pos) δ ρ K := fun σ H ds vs Dn s l =>
  (ps_while c.own (pT cnd) (pSs body)).to ⟨fun m σ H => ∃ δ ρ, I m δ ρ ∧ StV X.K B δ ρ σ H ds vs, ⟨m0, δ, ρ, h0, s⟩, fun m σ H ⟨δ, ρ, hI, s⟩ => h m δ ρ hI σ H ds vs _ s fun k ρ1 H1 h1 s1 => by
    cases k with
    | true =>
      show ∃ N : L2.St → Hp → Prop, _
      exact ⟨fun σ' H' => ∃ δ ρ, (∃ m', m' < m ∧ I m' δ ρ) ∧ StV X.K B δ ρ σ' H' ds vs, fun σ' H' ⟨δ, ρ, ⟨m', q1, q2⟩, s⟩ => ⟨m', q1, δ, ρ, q2, s⟩, h1.1 rfl σ H1 ds vs _ s1 ⟨fun δ ρ σ H q s => ⟨δ, ρ, q, s⟩, l.rt, fun δ ρ σ H q s => l.nx δ ρ σ H q s, fun δ ρ σ H q s => ⟨δ, ρ, q, s⟩⟩⟩
    | false => exact l.nx _ _ _ _ (h1.2 rfl) s1⟩
end
end Lw

set_option maxHeartbeats 1000000
/-! Defs and their calls. -/
namespace Lw
open PySem PySem.Spec PyProof.Rows L2

/-- a promise over data: arguments, what is owned, what is wanted of the answer, of an exception -/
abbrev WP := List D → Rs → (D → Rs → Prop) → (Addr → Rs → Prop) → Prop
def baseOf (S : Hp) (T : Nat → Hp) (H : Hp) : Base := ⟨S, fun b => ∃ k, T k b ≠ none, H⟩
def spW (K : PySem.W.Frag) (n : Nat) (Wp : WP) : Sp := fun vs H Q E => ∃ (B0 : Base) (δ0 : Dl) (σ0 : L2.St) (ds0 : List D) (vs0 : List V) (S : Hp) (T : Nat → Hp) (ρ : Rs) (as : List D) (Φ : D → Rs → Prop) (Ψ : Addr → Rs → Prop),
  Sta K B0 δ0 ρ σ0 H ds0 vs0 S T ∧ RepL S as vs ∧ as.length = n ∧ vs.length = n ∧ Wp as ρ Φ Ψ ∧
    (∀ d ρ' v H', Φ d ρ' → StV K (baseOf S T H) [] ρ' [] H' [d] [v] → Q v H') ∧ (∀ C ρ' H', Ψ C ρ' → StV K (baseOf S T H) [] ρ' [] H' [] [] → E (.ref C) none H')
/-- the end of a def: what is left over is let go -/
def kOf (K : PySem.W.Frag) (B : Base) (Φ : D → Rs → Prop) : EK := { nx := fun _ ρ => ∃ ρ', Sh K B ρ ρ' ∧ Φ .non ρ', rt := fun d ρ => ∃ ρ', Sh K B ρ ρ' ∧ Φ d ρ' }
def psiOf (K : PySem.W.Frag) (B : Base) (Ψ : Addr → Rs → Prop) : Addr → Dl → Rs → Prop := fun C _ ρ => ∃ ρ', Sh K B ρ ρ' ∧ Ψ C ρ'
def startD (N : List Str) (as : List D) : Dl := as.map some ++ List.replicate (N.length - as.length) none
theorem env_start {S : Hp} {as : List D} {vs : List V} {N : List Str} (r : RepL S as vs) : EnvD S (startD N as) (L2.start N vs) := by
  unfold startD L2.start
  rw [r.length]
  refine ⟨by simp [r.length], fun i d q => ?_⟩
  by_cases h : i < as.length
  · rw [List.getElem?_append_left (by simpa using h), List.getElem?_map] at q
    cases e : as[i]? with
    | none => rw [e] at q; simp at q
    | some x =>
      rw [e] at q
      simp at q; subst q
      obtain ⟨v, h1, h2⟩ := r.at e
      refine ⟨v, ?_, h2⟩
      rw [List.getElem?_append_left (by simpa [← r.length] using h), List.getElem?_map, h1]; rfl
  · rw [List.getElem?_append_right (by simpa using h)] at q
    rw [List.getElem?_replicate] at q
    split at q <;> simp at q
section
variable {P : Program} {w : World} {K : PySem.W.Frag} {mg : Str → Option Value} {base : Heap}
/-- THE RULE for a def -/
theorem okW {x qual : Str} {st : Stmt} {f : Addr} {fd : FuncData} {N ps : List Str} {k : Nat} {Wp : WP} (F : Fun K x qual st f fd) (S : FnScope N ps (defScope st))
    (hbody : ∀ (cdv : Value) (A : Around) (outer : List Env) (s : Shared) (H : Hp) (E : XK) (B : Base) (Φ : D → Rs → Prop) (Ψ : Addr → Rs → Prop) (as : List D) (ρ : Rs),
      CxOk (cxOf (L2.CX P w) P w K mg base N qual (defScope st) f cdv A outer s H E) B (fun cls d _ H => E cls d H) (psiOf K B Ψ) k → as.length = ps.length → Wp as ρ Φ Ψ →
      StPs (cxOf (L2.CX P w) P w K mg base N qual (defScope st) f cdv A outer s H E) B (defBody st) (startD N as) ρ (kOf K B Φ)) : FnOk P w K mg base (L2.CX P w) (k + 1) f fd ps (spW K ps.length Wp) := by
  refine F.okX S (fun vs H Q E h => ?_) (fun cdv A outer s H vs Q E hr h => ?_)
  · obtain ⟨_, _, _, _, _, _, _, _, _, _, _, _, _, _, h, _⟩ := h
    exact h
  · obtain ⟨B0, δ0, σ0, ds0, vs0, Sx, T, ρ, as, Φ, Ψ, st0, r, hl, hl2, hw, q1, q2⟩ := h
    let X := cxOf (L2.CX P w) P w K mg base N qual (defScope st) f cdv A outer s H E
    have hx : X.xe = fun e s' => wpAny (model P w) X.A (leaving X.env e) (fun _ s'' => L2.CX P w outer H s E e s'') (fun e' s'' => L2.CX P w outer H s E e' s'') s' := rfl
    have c : CxOk X (baseOf Sx T H) (fun cls d _ H => E cls d H) (psiOf K (baseOf Sx T H) Ψ) k := by
      refine ⟨rfl, takes_of rfl rfl rfl hx, passes_of hx, ?_, hr, S.nd⟩
      rintro C δ ρ' σ H' ds vs ⟨ρ2, f, q⟩ s'
      exact q2 C ρ2 H' q (f _ _ _ _ _ s').no
    refine ⟨tSs X (defBody st), pSs _, ?_⟩
    refine hbody cdv A outer s H E (baseOf Sx T H) Φ Ψ as ρ c hl hw (L2.start N vs) H [] [] _ (st0.entry rfl (env_start r)) ⟨?_, ?_, fun _ _ _ _ h _ => h.elim, fun _ _ _ _ h _ => h.elim⟩
    · rintro δ ρ' σ H' ⟨ρ2, f, q⟩ s'
      exact q1 .non ρ2 .non H' q (f _ _ _ _ _ (s'.push (d := .non) (v := .non) fun _ => rfl).one)
    · rintro d ρ' v H' ⟨ρ2, f, q⟩ s'
      exact q1 d ρ2 v H' q (f _ _ _ _ _ s')
/-- a def of the module, to be called by its name -/
def DefOk (P : Program) (w : World) (K : PySem.W.Frag) (mg : Str → Option Value) (base : Heap) (x : Str) (j n : Nat) (Wp : WP) : Prop :=
  ∃ (f : Addr) (fd : FuncData) (ps : List Str), FnOk P w K mg base (L2.CX P w) j f fd ps (spW K n Wp) ∧ mg x = some (.ref f) ∧ PySem.W.keepIn K (.ref f) = true ∧ Binds K fd ps [] 
/-- a method of the class at C -/
def MetOk (P : Program) (w : World) (K : PySem.W.Frag) (mg : Str → Option Value) (base : Heap) (C : Addr) (m : Str) (j n : Nat) (Wp : WP) : Prop :=
  ∃ (f : Addr) (fd : FuncData) (ps : List Str), FnOk P w K mg base (L2.CX P w) j f fd ps (spW K n Wp) ∧ Meth K C m f ∧ Cls K C ∧ Binds K fd ps []
end
section
variable {X : Cx} {B : Base} {W : WX} {Ψ : Addr → Dl → Rs → Prop} {k j n : Nat} {δ : Dl} {ρ : Rs} {Φ : D → Rs → Prop} {a b c e o : Expr} {es : List Expr} {pos : Pos} {Wp : WP}
/-- the call's promise is met -/
theorem spW_of (c : CxOk X B W Ψ k) {σ : L2.St} {H : Hp} {ds as : List D} {vs xs : List V} {Q : VK} (el : as.length = n) (el2 : as.length = xs.length) (st : StV X.K B δ ρ σ H (as ++ ds) (xs ++ vs)) (hw : Wp as ρ Φ fun C ρ' => Ψ C δ ρ') (q : PostE X B δ σ ds vs Φ Q) : spW X.K n Wp xs H Q (WE W σ) := by
  obtain ⟨S, T, s⟩ := st
  obtain ⟨ys, zs, e1, r1, r2⟩ := RepL.split s.tmp
  obtain ⟨e2, e3⟩ := List.append_inj e1 (by rw [← el2, r1.length])
  subst e2 e3
  exact ⟨B, δ, σ, _, _, S, T, ρ, as, Φ, fun C ρ' => Ψ C δ ρ', s, r1, el, by rw [← el2, el], hw, fun d ρ' v H' h1 h2 => q d ρ' v H' h1 (StV.after s r2 h2), fun C ρ' H' h1 h2 => c.psi C δ ρ' σ H' ds vs h1 (StV.after0 s r2 h2)⟩
theorem ev_call {x : Str} {p : Pos} (c : CxOk X B W Ψ k) (F : DefOk X.prog X.w X.K X.mg X.base x j n Wp) (hj : j ≤ k) (hg : Gl X x) (h : AgP X B (e :: es) δ ρ fun as ρ1 => as.length = n ∧ Wp as ρ1 Φ fun C ρ' => Ψ C δ ρ')
    (hdb : (x == ("__debug__" : Str)) = false := by decide) (he : starEach (e :: es) X.env = (false, eval e X.env) :: starEach es X.env := by rfl) (hpl : (backTo pos (starEach es X.env)).any (·.1) = false := by rfl) : EvP X B (.Call (.Name x p) (e :: es) [] pos) δ ρ Φ := fun σ H ds vs Q st q => by
  obtain ⟨f, fd, ps, F, hm, kp, b⟩ := F
  exact (pe_callS (F.mono hj) c.room hg hm kp b (E := WE W) (fun σ => passAt c.takes σ) (pA _) hdb he hpl).to (h σ H ds vs _ st fun as ρ1 xs H1 h1 el st1 => spW_of c h1.1 el st1 h1.2 q)
theorem pe_callS0 {f : Addr} {fd : FuncData} {ps : List Str} {sp : Sp} {E : L2.St → XK} {CX : CXT} {x : Str} {p : Pos} (F : FnOk X.prog X.w X.K X.mg X.base CX k f fd ps sp) (hr : Room k X.A) (hg : Gl X x) (hm : X.mg x = some (.ref f)) (hk : PySem.W.keepIn X.K (.ref f) = true) (hb : Binds X.K fd ps []) (hx : ∀ σ, PassesAt CX X σ (E σ))
    (hdb : (x == ("__debug__" : Str)) = false := by decide) : PE X (.Call (.Name x p) [] [] pos) (tCallS sp E tNil) := by
  refine ⟨fun pins s σ H Q I h => ?_⟩
  refine wpAny_Call_Name_kw (ld_glob I hg hm ?_ hdb)
  exact PySem.W.callWith_K0 I.kIn hk (run_fnS (us := []) F hr hb (hx σ) I .nil h)
theorem ev_call0 {x : Str} {p : Pos} (c : CxOk X B W Ψ k) (F : DefOk X.prog X.w X.K X.mg X.base x j 0 Wp) (hj : j ≤ k) (hg : Gl X x) (h : Wp [] ρ Φ fun C ρ' => Ψ C δ ρ')
    (hdb : (x == ("__debug__" : Str)) = false := by decide) : EvP X B (.Call (.Name x p) [] [] pos) δ ρ Φ := fun σ H ds vs Q st q => by
  obtain ⟨f, fd, ps, F, hm, kp, b⟩ := F
  exact (pe_callS0 (F.mono hj) c.room hg hm kp b (E := WE W) (fun σ => passAt c.takes σ) hdb).to (spW_of (as := []) (xs := []) c rfl rfl st h q)
/-- an instance whose class has the method m, not hidden by a field -/
def chestNames : List Str := ["slots", "held", "paired", "wills", "coming", "next_pair"]
def InsAt (ρ : Rs) (d : D) (C : Addr) (m : Str) : Prop := ∃ (k : Nat) (p : Addr), d = .obj p ∧ ((∃ fs : List (Str × D), ρ[k]? = some (p, Own.ins C fs) ∧ fs.lookup m = none) ∨ ∃ c : CS, ρ[k]? = some (p, Own.chest C c) ∧ m ∉ chestNames)
theorem lookup_none {α : Type} {m : Str} : ∀ {fs : List (Str × α)}, m ∉ fs.map (·.1) → fs.lookup m = none
  | [], _ => rfl
  | (g, x) :: fs, h => by
    rw [List.lookup_cons]
    have n1 : ¬ m = g := fun z => h (by rw [z]; exact List.mem_cons_self)
    rw [show (m == g) = false from beq_eq_false_iff_ne.mpr n1]
    exact lookup_none fun z => h (List.mem_cons_of_mem _ z)
theorem fsR_none {S : Hp} {m : Str} : ∀ {fs : List (Str × D)} {fv : List (Str × V)}, FsR S fs fv → fs.lookup m = none → fv.lookup m = none
  | _, _, .nil, _ => rfl
  | (g, x) :: fs, (g', x') :: fv, .cons q t, h => by
    have e : g' = g := q.1
    subst e
    rw [List.lookup_cons] at h ⊢
    cases hf : m == g' with
    | true => rw [hf] at h; cases h
    | false => rw [hf] at h; exact fsR_none t h
theorem InsAt.at {ρ : Rs} {d : D} {C : Addr} {m : Str} (h : InsAt ρ d C m) {K : PySem.W.Frag} {σ : L2.St} {H : Hp} {ds : List D} {vs : List V} {v : V} {S : Hp} {T : Nat → Hp} (s : Sta K B δ ρ σ H ds vs S T) (r : Rep S d v) : ∃ a dx fs, v = .ref a ∧ H a = some (.ins C dx fs) ∧ fs.lookup m = none := by
  obtain ⟨k, p, rfl, ⟨fs, h1, h2⟩ | ⟨c, h1, h2⟩⟩ := h
  · obtain ⟨dx, fv, e1, e2⟩ := s.own k p _ h1
    exact ⟨p, dx, fv, r, s.exT k _ _ e1, fsR_none e2 h2⟩
  · obtain ⟨d1, d2, d3, d4, kvs, _, Ts, t1, t2, t3⟩ := s.own k p _ h1
    obtain ⟨dx, fv, e1, e2⟩ := t3 0 p _ rfl
    exact ⟨p, dx, fv, r, s.exT k _ _ (t1 0 _ _ e1), fsR_none e2 (lookup_none h2)⟩
theorem pe_methS' {ta : TE} {t : TA} {CX : CXT} {C f : Addr} {m : Str} {fd : FuncData} {ps : List Str} {sp : Sp} {E : L2.St → XK} {apos : Pos} {pl : Sem Bool} (he : PE X o ta) (c : Cls X.K C) (hm : Meth X.K C m f) (F : FnOk X.prog X.w X.K X.mg X.base CX k f fd ps sp) (hr : Room k X.A) (hb : Binds X.K fd ps []) (hx : ∀ σ, PassesAt CX X σ (E σ)) (ha : PA X (e :: es) t)
    (hst : starEach (e :: es) X.env = (false, eval e X.env) :: starEach es X.env := by rfl) (hpl : (backTo pos (starEach es X.env)).any (·.1) = false := by rfl)
    (ht : eval (.Call (.Attribute o m apos) (e :: es) [] pos) X.env = (do
      let ov ← eval o X.env
      standAt apos.atName
      let (f, first) ← holding [ov] (getMethod ov m pl)
      callWith pos f first (backTo pos (starEach (e :: es) X.env)) (backToKw pos (keywordEach [] X.env))) := by rfl) :
    PE X (.Call (.Attribute o m apos) (e :: es) [] pos) (fun σ H Q => ta σ H fun x H1 => ∃ a dx fs, x = .ref a ∧ H1 a = some (.ins C dx fs) ∧ fs.lookup m = none ∧ t σ H1 fun vs H2 => sp (x :: vs) H2 Q (E σ)) := by
  refine ⟨fun pins s σ H Q I h => ?_⟩
  refine PySem.W.methodCall_KW (pl := pl) (thn (he.run pins s σ H _ I h) fun u s1 ⟨x, H1, I1, rx, a, dx, fs, ex, ea, l, q⟩ => ?_) ht
  subst ex
  obtain rfl : u = Value.ref a := rx
  refine getmeth_ok I1 ea c hm l ?_
  refine PySem.W.callWith_K (first := [.ref a]) (h₀ := X.base) I.ok.mod.kin hm.kp (thn (ha.run pos pins s1 σ H1 _ I1 q) fun us s2 ⟨vs, H2, I2, r, q2⟩ => ⟨I2.kIn, ?_⟩) hst hpl
  exact run_fnS (us := .ref a :: us) (vs := .ref a :: vs) F hr hb (hx σ) I2 (.cons rfl r) q2
theorem pe_methS0 {ta : TE} {CX : CXT} {C f : Addr} {m : Str} {fd : FuncData} {ps : List Str} {sp : Sp} {E : L2.St → XK} {apos : Pos} {pl : Sem Bool} (he : PE X o ta) (c : Cls X.K C) (hm : Meth X.K C m f) (F : FnOk X.prog X.w X.K X.mg X.base CX k f fd ps sp) (hr : Room k X.A) (hb : Binds X.K fd ps []) (hx : ∀ σ, PassesAt CX X σ (E σ))
    (ht : eval (.Call (.Attribute o m apos) [] [] pos) X.env = (do
      let ov ← eval o X.env
      standAt apos.atName
      let (f, first) ← holding [ov] (getMethod ov m pl)
      callWith pos f first (backTo pos (starEach [] X.env)) (backToKw pos (keywordEach [] X.env))) := by rfl) :
    PE X (.Call (.Attribute o m apos) [] [] pos) (fun σ H Q => ta σ H fun x H1 => ∃ a dx fs, x = .ref a ∧ H1 a = some (.ins C dx fs) ∧ fs.lookup m = none ∧ sp [x] H1 Q (E σ)) := by
  refine ⟨fun pins s σ H Q I h => ?_⟩
  refine PySem.W.methodCall_KW (pl := pl) (thn (he.run pins s σ H _ I h) fun u s1 ⟨x, H1, I1, rx, a, dx, fs, ex, ea, l, q⟩ => ?_) ht
  subst ex
  obtain rfl : u = Value.ref a := rx
  refine getmeth_ok I1 ea c hm l ?_
  exact PySem.W.callWith_K0 (first := [.ref a]) I1.kIn hm.kp (run_fnS (us := [.ref a]) (vs := [.ref a]) F hr hb (hx σ) I1 (.cons rfl .nil) q)
theorem ev_meth {C : Addr} {m : Str} {apos : Pos} {pl : Sem Bool} (c : CxOk X B W Ψ k) (F : MetOk X.prog X.w X.K X.mg X.base C m j (n + 1) Wp) (hj : j ≤ k)
    (hst : starEach (e :: es) X.env = (false, eval e X.env) :: starEach es X.env) (hpl : (backTo pos (starEach es X.env)).any (·.1) = false)
    (ht : eval (.Call (.Attribute o m apos) (e :: es) [] pos) X.env = (do
      let ov ← eval o X.env
      standAt apos.atName
      let (f, first) ← holding [ov] (getMethod ov m pl)
      callWith pos f first (backTo pos (starEach (e :: es) X.env)) (backToKw pos (keywordEach [] X.env))))
    (h : EvP X B o δ ρ fun d ρ1 => InsAt ρ1 d C m ∧ AgP X B (e :: es) δ ρ1 fun as ρ2 => as.length = n ∧ Wp (d :: as) ρ2 Φ fun C ρ' => Ψ C δ ρ') : EvP X B (.Call (.Attribute o m apos) (e :: es) [] pos) δ ρ Φ := fun σ H ds vs Q st q => by
  obtain ⟨f, fd, ps, F, hm, cl, b⟩ := F
  exact (pe_methS' (pE o) cl hm (F.mono hj) c.room b (E := WE W) (fun σ => passAt c.takes σ) (pA _) hst hpl ht).to (h σ H ds vs _ st fun d ρ1 v H1 h1 st1 => by
    obtain ⟨S, T, s⟩ := id st1
    obtain ⟨p, dx, fs, e1, e2, e3⟩ := h1.1.at s s.tmp.hd
    refine ⟨p, dx, fs, e1, e2, e3, h1.2 σ H1 _ _ _ st1 fun as ρ2 xs H2 h2 el st2 => spW_of (as := d :: as) (xs := v :: xs) c (by simp [h2.1]) (by simp [el]) (st2.tmps fun S _ r => ?_) h2.2 q⟩
    obtain ⟨ys, zs, q1, r1, r2⟩ := RepL.split r
    obtain ⟨q2, q3⟩ := List.append_inj q1 (by rw [← el, r1.length])
    subst q2 q3
    obtain ⟨_, _, e4, r3, r4⟩ := r2
    cases e4
    exact .cons r3 (r1.app r4))
theorem ev_meth0 {C : Addr} {m : Str} {apos : Pos} {pl : Sem Bool} (c : CxOk X B W Ψ k) (F : MetOk X.prog X.w X.K X.mg X.base C m j 1 Wp) (hj : j ≤ k)
    (ht : eval (.Call (.Attribute o m apos) [] [] pos) X.env = (do
      let ov ← eval o X.env
      standAt apos.atName
      let (f, first) ← holding [ov] (getMethod ov m pl)
      callWith pos f first (backTo pos (starEach [] X.env)) (backToKw pos (keywordEach [] X.env))))
    (h : EvP X B o δ ρ fun d ρ1 => InsAt ρ1 d C m ∧ Wp [d] ρ1 Φ fun C ρ' => Ψ C δ ρ') : EvP X B (.Call (.Attribute o m apos) [] [] pos) δ ρ Φ := fun σ H ds vs Q st q => by
  obtain ⟨f, fd, ps, F, hm, cl, b⟩ := F
  exact (pe_methS0 (pE o) cl hm (F.mono hj) c.room b (E := WE W) (fun σ => passAt c.takes σ) ht).to (h σ H ds vs _ st fun d ρ1 v H1 h1 st1 => by
    obtain ⟨S, T, s⟩ := id st1
    obtain ⟨p, dx, fs, e1, e2, e3⟩ := h1.1.at s s.tmp.hd
    exact ⟨p, dx, fs, e1, e2, e3, spW_of (as := [d]) (xs := [v]) c rfl rfl st1 h1.2 q⟩)
/-- an object that nothing tells of is laid -/
theorem StV.grow {K : PySem.W.Frag} {σ : L2.St} {H : Hp} {ds : List D} {vs : List V} {p : Addr} {u : HO} (h : StV K B δ ρ σ H ds vs) (hp : H p = none) : StV K B δ ρ σ (upd H p u) ds vs := by
  obtain ⟨S, T, s⟩ := h
  have nb : ∀ b, B.H b ≠ none → b ≠ p := fun b h z => by subst z; exact s.bH b h hp
  refine ⟨S, T, s.exS.new hp, fun k => (s.exT k).new hp, s.dS, s.dT, s.own, s.env, s.tmp, s.bS, fun b o h1 h2 => ?_, s.bN, fun b h1 => ?_⟩
  · obtain ⟨q1, q2⟩ := s.bF b o h1 h2
    exact ⟨by rw [upd_ne (nb b (by rw [h1]; simp))]; exact q1, q2⟩
  · rw [upd_ne (nb b h1)]; exact s.bH b h1
/-- C(), C a class of our own whose __init__ is told by Wp -/
theorem ev_make {x : Str} {p : Pos} {C f : Addr} {fd : FuncData} {ps : List Str} (c : CxOk X B W Ψ (k + 1)) (M : Mk X.K C f) (F : FnOk X.prog X.w X.K X.mg X.base (L2.CX X.prog X.w) k f fd ps (spW X.K 1 Wp)) (hb : Binds X.K fd ps []) (hg : Gl X x) (hm : X.mg x = some (.ref C))
    (h : ∀ q, B.H q = none → Wp [.obj q] ((q, .ins C []) :: ρ) (fun d ρ' => d = .non ∧ Φ (.obj q) ρ') fun _ _ => False) (hdb : (x == ("__debug__" : Str)) = false := by decide) : EvP X B (.Call (.Name x p) [] [] pos) δ ρ Φ := fun σ H ds vs Q st q => by
  have hx : Passes (L2.CX X.prog X.w) X E0 := passL
  refine (pe_make0 M F c.room hg hm hb .nil hx hdb).to ?_
  intro y dy ny ndy ne
  have st1 := st.grow (p := dy) (u := .own y) ndy
  have ny1 : upd H dy (.own y) y = none := by rw [upd_ne (fun z => ne z.symm)]; exact ny
  obtain ⟨st2, hb2⟩ := st1.lay1 (u := .ins C dy []) (o := .ins C []) ny1 fun S r => ⟨dy, [], single_same, .nil⟩
  obtain ⟨S, T, s⟩ := id st2
  refine ⟨B, δ, σ, _, _, S, T, _, [.obj y], (fun d ρ' => d = .non ∧ Φ (.obj y) ρ'), (fun _ _ => False), s, .cons rfl rfl, rfl, rfl, h y hb2, fun d ρ' v H' h1 h2 => ?_, fun _ _ _ h _ => h.elim⟩
  obtain ⟨rfl, h1⟩ := h1
  have s3 := StV.after s s.tmp.tl h2
  obtain ⟨S', T', s'⟩ := id s3
  exact ⟨s'.tmp.hd, q _ _ _ _ h1 (s3.pop.push fun _ => rfl)⟩
/-- raise C('..') -/
theorem st_raise {x m : Str} {i : Nat} {p p2 cpos : Pos} {C : Addr} {B' : String} {newId initId : String} {bmB : List Value} {K : EK} (c : CxOk X B W Ψ k) (Fx : ExcBaseFacts B' newId initId bmB) (q : PySem.W.excIn X.K C bmB newId = true) (gC : X.mg x = some (.ref C)) (kC : PySem.W.keepIn X.K (.ref C) = true) (r : Raises X (.ref C)) (hg : Gl X x)
    (h : Ψ C δ ρ) (hdb : (x == ("__debug__" : Str)) = false := by decide) : StP X B (.Raise (some (.Call (.Name x p) [.Constant (.str m) i p2] [] cpos)) none pos) δ ρ K := fun σ H ds vs Dn s l =>
  (ps_raise c.calm c.takes (pmk_own Fx q gC kC r hg hdb)).to (c.psi C δ ρ σ H ds vs h s)
end
end Lw

set_option maxHeartbeats 1000000
/-! What is done with values. -/
namespace Lw
open PySem PySem.Spec PyProof.Rows L2

/-! ### rising lists -/
def ins (a : Int) : List Int → List Int
  | [] => [a]
  | b :: l => if a ≤ b then a :: b :: l else b :: ins a l
def srt : List Int → List Int
  | [] => []
  | a :: l => ins a (srt l)
theorem ins_perm (a : Int) : ∀ l, (ins a l).Perm (a :: l)
  | [] => .refl _
  | b :: l => by
    unfold ins
    split
    · exact .refl _
    · exact ((ins_perm a l).cons b).trans (.swap a b l)
theorem srt_perm : ∀ l, (srt l).Perm l
  | [] => .refl _
  | a :: l => (ins_perm a _).trans ((srt_perm l).cons a)
theorem ins_sorted (a : Int) : ∀ l, l.Pairwise (· ≤ ·) → (ins a l).Pairwise (· ≤ ·)
  | [], _ => by simp [ins]
  | b :: l, h => by
    rw [List.pairwise_cons] at h
    unfold ins
    split
    · rename_i hab
      refine List.pairwise_cons.mpr ⟨fun c hc => ?_, List.pairwise_cons.mpr h⟩
      rcases List.mem_cons.mp hc with rfl | hc
      · exact hab
      · exact Int.le_trans hab (h.1 c hc)
    · rename_i hab
      refine List.pairwise_cons.mpr ⟨fun c hc => ?_, ins_sorted a l h.2⟩
      rcases List.mem_cons.mp ((ins_perm a l).mem_iff.mp hc) with rfl | hc
      · omega
      · exact h.1 c hc
theorem srt_sorted : ∀ l, (srt l).Pairwise (· ≤ ·)
  | [] => .nil
  | a :: l => ins_sorted a _ (srt_sorted l)
theorem sorted_unique : ∀ {l l' : List Int}, l.Perm l' → l.Pairwise (· ≤ ·) → l'.Pairwise (· ≤ ·) → l = l'
  | [], l', p, _, _ => by rw [List.nil_perm.mp p]
  | a :: l, [], p, _, _ => absurd p.length_eq (by simp)
  | a :: l, b :: l', p, h, h' => by
    rw [List.pairwise_cons] at h h'
    have e : a = b := by
      have ha : a ∈ b :: l' := p.mem_iff.mp List.mem_cons_self
      have hb : b ∈ a :: l := p.mem_iff.mpr List.mem_cons_self
      rcases List.mem_cons.mp ha with e | ha
      · exact e
      · rcases List.mem_cons.mp hb with e | hb
        · exact e.symm
        · have := h.1 b hb; have := h'.1 a ha; omega
    subst e
    rw [sorted_unique p.cons_inv h.2 h'.2]
theorem srt_unique {l l' : List Int} (p : l.Perm l') (h : l.Pairwise (· ≤ ·)) : l = srt l' := sorted_unique (p.trans (srt_perm l').symm) h (srt_sorted l')
theorem mem_srt {l : List Int} {a : Int} : a ∈ srt l ↔ a ∈ l := (srt_perm l).mem_iff
theorem srt_length {l : List Int} : (srt l).length = l.length := (srt_perm l).length_eq
theorem srt_id {l : List Int} (h : l.Pairwise (· ≤ ·)) : srt l = l := (srt_unique (.refl l) h).symm

/-! ### data as the library's data -/
mutual
def D.py : D → PyData
  | .non => .none
  | .bl b => .bool b
  | .int i => .int i
  | .str x => .str x
  | .obj _ => .none
  | .ty _ => .none
  | .tup ds => .tuple (pyL ds)
  | .lst ds => .list (pyL ds)
def pyL : List D → List PyData
  | [] => []
  | d :: ds => d.py :: pyL ds
end
mutual
/-- no bare reference in it -/
def D.pure : D → Bool
  | .obj _ => false
  | .ty _ => false
  | .tup ds => pureL ds
  | .lst ds => pureL ds
  | _ => true
def pureL : List D → Bool
  | [] => true
  | d :: ds => d.pure && pureL ds
end
mutual
theorem dp_of {K : PySem.W.Frag} {S H : Hp} (e : Ex S H) : ∀ (d : D) (v : V), d.pure = true → Rep S d v → Dp K H v d.py
  | .non, v, _, h => by have h' : v = .non := h; subst h'; exact .non
  | .bl b, v, _, h => by have h' : v = .bl b := h; subst h'; exact .bl b
  | .int b, v, _, h => by have h' : v = .int b := h; subst h'; exact .int b
  | .str b, v, _, h => by have h' : v = .str b := h; subst h'; exact .str b
  | .obj _, _, h, _ => by cases h
  | .ty _, _, h, _ => by cases h
  | .tup ds, v, p, ⟨a, xs, e1, e2, e3⟩ => by subst e1; exact .tup (SqT.of (e _ _ e2)) (dps_of e ds xs p e3)
  | .lst ds, v, p, ⟨a, xs, e1, e2, e3⟩ => by subst e1; exact .lst (SqL.of (e _ _ e2)) (dps_of e ds xs p e3)
theorem dps_of {K : PySem.W.Frag} {S H : Hp} (e : Ex S H) : ∀ (ds : List D) (xs : List V), pureL ds = true → RepL S ds xs → DpAll K H xs (pyL ds)
  | [], xs, _, h => by have h' : xs = [] := h; subst h'; exact .nil
  | d :: ds, xs, p, ⟨x, r, e1, e2, e3⟩ => by
    subst e1
    have p' : (d.pure && pureL ds) = true := p
    rw [Bool.and_eq_true] at p'
    exact .cons (dp_of e d x p'.1 e2) (dps_of e ds r p'.2 e3)
end
/-- == over data -/
def D.eqv (x y : D) : Bool := PyData.eqv x.py y.py
def D.fine (x : D) : Bool := x.pure && SeqAt.shaped x.py
def D.flat : D → Bool
  | .non => true | .bl _ => true | .int _ => true | .str _ => true
  | _ => false
theorem flat_v {S : Hp} {d : D} {v : V} (h : d.flat = true) (r : Rep S d v) : flatV v = true := by
  cases d <;> first | cases h; done | (have e : v = _ := r; subst e; rfl)
def eqF : D → D → Bool
  | .non, .non => true
  | .bl a, .bl b => a == b
  | .bl a, .int b => (if a then 1 else 0) == b
  | .int a, .bl b => a == (if b then 1 else 0)
  | .int a, .int b => a == b
  | .str a, .str b => a == b
  | _, _ => false
theorem eqF_v {S : Hp} {d e : D} {v u : V} (h : d.flat = true) (h' : e.flat = true) (r : Rep S d v) (q : Rep S e u) : eqV v u = eqF d e := by
  cases d <;> first | cases h; done | skip
  all_goals (have e1 : v = _ := r; subst e1; cases e <;> first | cases h'; done | skip)
  all_goals (have e2 : u = _ := q; subst e2; rfl)
def inF (x : D) (xs : List D) : Bool := xs.any fun y => eqF y x
theorem inF_v {S : Hp} {x : D} {v : V} (h : x.flat = true) (r : Rep S x v) : ∀ {xs : List D} {vs : List V}, xs.all D.flat = true → RepL S xs vs → inV v vs = inF x xs ∧ vs.all flatV = true
  | [], _, _, q => by cases q; exact ⟨rfl, rfl⟩
  | y :: xs, _, hf, ⟨u, us, e1, e2, e3⟩ => by
    subst e1
    rw [List.all_cons, Bool.and_eq_true] at hf
    obtain ⟨q1, q2⟩ := inF_v h r hf.2 e3
    unfold inV inF at q1 ⊢
    rw [List.any_cons, List.any_cons, q1, eqF_v hf.1 h e2 r, List.all_cons, q2, flat_v hf.1 e2]
    exact ⟨rfl, rfl⟩
section
variable {X : Cx} {B : Base} {W : WX} {Ψ : Addr → Dl → Rs → Prop} {k : Nat} {δ : Dl} {ρ : Rs} {Φ : D → Rs → Prop} {x y : D}
/-! ### operators -/
theorem bi_of {f : Value → Value → Sem Value} {r : R2} (hr : OpR X f r) (h : ∀ δ σ H ds vs a b Q, StV X.K B δ ρ σ H (y :: x :: ds) (b :: a :: vs) → PostE X B δ σ ds vs Φ Q → r a b H Q) : BiP X B f x y ρ Φ := fun δ σ H ds vs a b Q st q pins s σ' v u I r1 r2 => hr pins s σ' H a b v u Q I r1 r2 (h δ σ H ds vs a b Q st q)
theorem two_of {P : V → V → Prop} {σ : L2.St} {H : Hp} {ds : List D} {vs : List V} {a b : V} (st : StV X.K B δ ρ σ H (y :: x :: ds) (b :: a :: vs)) (h : ∀ S, Rep S x a → Rep S y b → P a b) : P a b := let ⟨S, T, s⟩ := st; h S s.tmp.tl.hd s.tmp.hd
theorem bi_int {f : Value → Value → Sem Value} {C : Int → Int → Prop} {g : Int → Int → V} {i j : Int} {d : D} (hr : OpR X f (rI C g)) (hc : C i j) (h : Φ d ρ) (hg : ∀ S, Rep S d (g i j)) : BiP X B f (.int i) (.int j) ρ Φ := bi_of hr fun δ σ H ds vs a b Q st q => by
  obtain ⟨e1, e2⟩ := two_of (P := fun a b => a = .int i ∧ b = .int j) st fun S h1 h2 => ⟨h1, h2⟩
  exact ⟨i, j, e1, e2, hc, q _ _ _ _ h (st.pop.pop.push hg)⟩
theorem bi_int0 {f : Value → Value → Sem Value} {g : Int → Int → V} {i j : Int} {d : D} (hr : OpR X f (rI0 g)) (h : Φ d ρ) (hg : ∀ S, Rep S d (g i j)) : BiP X B f (.int i) (.int j) ρ Φ := bi_of hr fun δ σ H ds vs a b Q st q => by
  obtain ⟨e1, e2⟩ := two_of (P := fun a b => a = .int i ∧ b = .int j) st fun S h1 h2 => ⟨h1, h2⟩
  exact ⟨i, j, e1, e2, q _ _ _ _ h (st.pop.pop.push hg)⟩
variable {i j : Int}
theorem bi_add (h : Φ (.int (i + j)) ρ) : BiP X B (binaryOp .Add) (.int i) (.int j) ρ Φ := bi_int0 op_add h fun _ => rfl
theorem bi_sub (h : Φ (.int (i - j)) ρ) : BiP X B (binaryOp .Sub) (.int i) (.int j) ρ Φ := bi_int0 op_sub h fun _ => rfl
theorem bi_mul (hc : CMul i j) (h : Φ (.int (i * j)) ρ) : BiP X B (binaryOp .Mult) (.int i) (.int j) ρ Φ := bi_int op_mul hc h fun _ => rfl
theorem bi_fdiv (hc : 0 < j ∧ j < 1073741824) (h : Φ (.int (i / j)) ρ) : BiP X B (binaryOp .FloorDiv) (.int i) (.int j) ρ Φ := bi_int op_fdiv hc h fun _ => rfl
theorem bi_mod (hc : 0 < j) (h : Φ (.int (i % j)) ρ) : BiP X B (binaryOp .Mod) (.int i) (.int j) ρ Φ := bi_int (C := fun _ j => 0 < j) op_mod hc h fun _ => rfl
theorem bi_pow (hc : CPow i j) (h : Φ (.int (i ^ j.toNat)) ρ) : BiP X B (binaryOp .Pow) (.int i) (.int j) ρ Φ := bi_int op_pow hc h fun _ => rfl
theorem bi_lt (h : Φ (.bl (decide (i < j))) ρ) : BiP X B (compareOp .Lt) (.int i) (.int j) ρ Φ := bi_int0 op_lt h fun _ => rfl
theorem bi_le (h : Φ (.bl (decide (i ≤ j))) ρ) : BiP X B (compareOp .LtE) (.int i) (.int j) ρ Φ := bi_int0 op_le h fun _ => rfl
theorem bi_gt (h : Φ (.bl (decide (j < i))) ρ) : BiP X B (compareOp .Gt) (.int i) (.int j) ρ Φ := bi_int0 op_gt h fun _ => rfl
theorem bi_ge (h : Φ (.bl (decide (j ≤ i))) ρ) : BiP X B (compareOp .GtE) (.int i) (.int j) ρ Φ := bi_int0 op_ge h fun _ => rfl
theorem un_neg' (h : Φ (.int (-i)) ρ) : UnP X B (unaryOp .USub) (.int i) ρ Φ := fun δ σ H ds vs a Q st q pins s σ' v I r1 => by
  obtain ⟨S, T, t⟩ := id st
  exact un_neg pins s σ' H a v Q I r1 ⟨i, t.tmp.hd, q _ _ _ _ h (st.pop.push fun _ => rfl)⟩
theorem bi_addS {u w : Str} (hz : u.length + w.length ≤ sizeLine) (h : Φ (.str (u ++ w)) ρ) : BiP X B (binaryOp .Add) (.str u) (.str w) ρ Φ := bi_of op_add_str fun δ σ H ds vs a b Q st q => by
  obtain ⟨e1, e2⟩ := two_of (P := fun a b => a = .str u ∧ b = .str w) st fun S h1 h2 => ⟨h1, h2⟩
  exact ⟨u, w, e1, e2, hz, q _ _ _ _ h (st.pop.pop.push fun _ => rfl)⟩
/-- == of ints, bools, texts, None among themselves and of a number and a text -/
theorem bi_eqI (h : Φ (.bl (decide (i = j))) ρ) : BiP X B (compareOp .Eq) (.int i) (.int j) ρ Φ := bi_of op_eq fun δ σ H ds vs a b Q st q => by
  obtain ⟨e1, e2⟩ := two_of (P := fun a b => a = .int i ∧ b = .int j) st fun S h1 h2 => ⟨h1, h2⟩
  subst e1 e2
  refine ⟨rfl, ?_⟩
  rw [dec_int, show (i == j) = decide (i = j) from Bool.beq_eq_decide_eq i j]
  exact q _ _ _ _ h (st.pop.pop.push fun _ => rfl)
theorem bi_neI (h : Φ (.bl (!decide (i = j))) ρ) : BiP X B (compareOp .NotEq) (.int i) (.int j) ρ Φ := bi_of op_ne fun δ σ H ds vs a b Q st q => by
  obtain ⟨e1, e2⟩ := two_of (P := fun a b => a = .int i ∧ b = .int j) st fun S h1 h2 => ⟨h1, h2⟩
  subst e1 e2
  refine ⟨rfl, ?_⟩
  rw [dec_int, show (i == j) = decide (i = j) from Bool.beq_eq_decide_eq i j]
  exact q _ _ _ _ h (st.pop.pop.push fun _ => rfl)
theorem bi_eqS {u w : Str} (h : Φ (.bl (decide (u = w))) ρ) : BiP X B (compareOp .Eq) (.str u) (.str w) ρ Φ := bi_of op_eq fun δ σ H ds vs a b Q st q => by
  obtain ⟨e1, e2⟩ := two_of (P := fun a b => a = .str u ∧ b = .str w) st fun S h1 h2 => ⟨h1, h2⟩
  subst e1 e2
  refine ⟨rfl, ?_⟩
  have : decide (V.str u = V.str w) = decide (u = w) := by by_cases e : u = w <;> simp [e]
  rw [this]
  exact q _ _ _ _ h (st.pop.pop.push fun _ => rfl)
theorem bi_neS {u w : Str} (h : Φ (.bl (!decide (u = w))) ρ) : BiP X B (compareOp .NotEq) (.str u) (.str w) ρ Φ := bi_of op_ne fun δ σ H ds vs a b Q st q => by
  obtain ⟨e1, e2⟩ := two_of (P := fun a b => a = .str u ∧ b = .str w) st fun S h1 h2 => ⟨h1, h2⟩
  subst e1 e2
  refine ⟨rfl, ?_⟩
  have : decide (V.str u = V.str w) = decide (u = w) := by by_cases e : u = w <;> simp [e]
  rw [this]
  exact q _ _ _ _ h (st.pop.pop.push fun _ => rfl)
theorem bi_eqD (hu : X.A.units + 64 < cLine) (hx : x.fine = true) (hy : y.fine = true) (h : Φ (.bl (D.eqv x y)) ρ) : BiP X B (compareOp .Eq) x y ρ Φ := bi_of (op_eqD hu) fun δ σ H ds vs a b Q st q => by
  obtain ⟨S, T, s⟩ := id st
  rw [D.fine, Bool.and_eq_true] at hx hy
  exact ⟨x.py, y.py, dp_of s.exS x a hx.1 s.tmp.tl.hd, dp_of s.exS y b hy.1 s.tmp.hd, hx.2, hy.2, q _ _ _ _ h (st.pop.pop.push fun _ => rfl)⟩
theorem bi_neD (hu : X.A.units + 64 < cLine) (hx : x.fine = true) (hy : y.fine = true) (h : Φ (.bl (!D.eqv x y)) ρ) : BiP X B (compareOp .NotEq) x y ρ Φ := bi_of (op_neD hu) fun δ σ H ds vs a b Q st q => by
  obtain ⟨S, T, s⟩ := id st
  rw [D.fine, Bool.and_eq_true] at hx hy
  exact ⟨x.py, y.py, dp_of s.exS x a hx.1 s.tmp.tl.hd, dp_of s.exS y b hy.1 s.tmp.hd, hx.2, hy.2, q _ _ _ _ h (st.pop.pop.push fun _ => rfl)⟩
def D.isNon : D → Bool
  | .non => true
  | _ => false
theorem isNon_v {S : Hp} {d : D} {v : V} (r : Rep S d v) : decide (v = .non) = d.isNon := by
  cases d with
  | non => have e : v = .non := r; subst e; rfl
  | bl b => have e : v = _ := r; subst e; rfl
  | int b => have e : v = _ := r; subst e; rfl
  | str b => have e : v = _ := r; subst e; rfl
  | obj b => have e : v = _ := r; subst e; rfl
  | ty b => have e : v = _ := r; subst e; rfl
  | tup b => obtain ⟨a, xs, e, _⟩ := r; subst e; rfl
  | lst b => obtain ⟨a, xs, e, _⟩ := r; subst e; rfl
theorem bi_isN (h : Φ (.bl x.isNon) ρ) : BiP X B (compareOp .Is) x .non ρ Φ := bi_of op_isN fun δ σ H ds vs a b Q st q => by
  obtain ⟨S, T, s⟩ := id st
  refine ⟨s.tmp.hd, ?_⟩
  rw [isNon_v s.tmp.tl.hd]
  exact q _ _ _ _ h (st.pop.pop.push fun _ => rfl)
theorem bi_notN (h : Φ (.bl (!x.isNon)) ρ) : BiP X B (compareOp .IsNot) x .non ρ Φ := bi_of op_notN fun δ σ H ds vs a b Q st q => by
  obtain ⟨S, T, s⟩ := id st
  refine ⟨s.tmp.hd, ?_⟩
  rw [isNon_v s.tmp.tl.hd]
  exact q _ _ _ _ h (st.pop.pop.push fun _ => rfl)
/-- x in a list of flat things -/
theorem bi_inL {xs : List D} (hl : LstAt ρ y xs) (hx : x.flat = true) (hf : xs.all D.flat = true) (h : Φ (.bl (inF x xs)) ρ) : BiP X B (compareOp .In) x y ρ Φ := bi_of op_in_seq fun δ σ H ds vs a b Q st q => by
  obtain ⟨S, T, s⟩ := id st
  obtain ⟨p, zs, e1, e2, e3⟩ := hl.sq s s.tmp.hd
  obtain ⟨q1, q2⟩ := inF_v hx s.tmp.tl.hd hf e3
  refine ⟨p, zs, e1, .inl (SqL.of e2), flat_v hx s.tmp.tl.hd, q2, ?_⟩
  rw [if_neg Bool.false_ne_true, q1]
  exact q _ _ _ _ h (st.pop.pop.push fun _ => rfl)
theorem bi_ninL {xs : List D} (hl : LstAt ρ y xs) (hx : x.flat = true) (hf : xs.all D.flat = true) (h : Φ (.bl (!inF x xs)) ρ) : BiP X B (compareOp .NotIn) x y ρ Φ := bi_of op_notIn_seq fun δ σ H ds vs a b Q st q => by
  obtain ⟨S, T, s⟩ := id st
  obtain ⟨p, zs, e1, e2, e3⟩ := hl.sq s s.tmp.hd
  obtain ⟨q1, q2⟩ := inF_v hx s.tmp.tl.hd hf e3
  refine ⟨p, zs, e1, .inl (SqL.of e2), flat_v hx s.tmp.tl.hd, q2, ?_⟩
  rw [if_pos rfl, q1]
  exact q _ _ _ _ h (st.pop.pop.push fun _ => rfl)
theorem bi_inT {xs : List D} (hx : x.flat = true) (hf : xs.all D.flat = true) (h : Φ (.bl (inF x xs)) ρ) : BiP X B (compareOp .In) x (.tup xs) ρ Φ := bi_of op_in_seq fun δ σ H ds vs a b Q st q => by
  obtain ⟨S, T, s⟩ := id st
  obtain ⟨p, zs, e1, e2, e3⟩ := s.tmp.hd
  obtain ⟨q1, q2⟩ := inF_v hx s.tmp.tl.hd hf e3
  refine ⟨p, zs, e1, .inr (SqT.of (s.exS _ _ e2)), flat_v hx s.tmp.tl.hd, q2, ?_⟩
  rw [if_neg Bool.false_ne_true, q1]
  exact q _ _ _ _ h (st.pop.pop.push fun _ => rfl)
theorem bi_ninT {xs : List D} (hx : x.flat = true) (hf : xs.all D.flat = true) (h : Φ (.bl (!inF x xs)) ρ) : BiP X B (compareOp .NotIn) x (.tup xs) ρ Φ := bi_of op_notIn_seq fun δ σ H ds vs a b Q st q => by
  obtain ⟨S, T, s⟩ := id st
  obtain ⟨p, zs, e1, e2, e3⟩ := s.tmp.hd
  obtain ⟨q1, q2⟩ := inF_v hx s.tmp.tl.hd hf e3
  refine ⟨p, zs, e1, .inr (SqT.of (s.exS _ _ e2)), flat_v hx s.tmp.tl.hd, q2, ?_⟩
  rw [if_pos rfl, q1]
  exact q _ _ _ _ h (st.pop.pop.push fun _ => rfl)
/-- lists joined: a new one, stable or our own -/
theorem bi_cat {xs ys : List D} (hx : LstAt ρ x xs) (hy : LstAt ρ y ys) (hz : xs.length + ys.length ≤ sizeLine) (h : Φ (.lst (xs ++ ys)) ρ) : BiP X B (binaryOp .Add) x y ρ Φ := bi_of op_cat fun δ σ H ds vs a b Q st q => by
  obtain ⟨S, T, s⟩ := id st
  obtain ⟨p, us, e1, e2, e3⟩ := hx.sq s s.tmp.tl.hd
  obtain ⟨p', ws, e1', e2', e3'⟩ := hy.sq s s.tmp.hd
  refine ⟨p, p', us, ws, e1, e1', e2, e2', by rw [← e3.length, ← e3'.length]; exact hz, fun r hr => ?_⟩
  exact q _ _ _ _ h ⟨_, T, (s.re s.env s.tmp.tl.tl).lay hr ⟨r, _, rfl, upd_same, (e3.app e3').mono ((Ex.refl S).new (s.exS.free hr))⟩⟩
theorem bi_cato {xs ys : List D} (hx : LstAt ρ x xs) (hy : LstAt ρ y ys) (hz : xs.length + ys.length ≤ sizeLine) (h : ∀ p, B.H p = none → Φ (.obj p) ((p, .ol (xs ++ ys)) :: ρ)) : BiP X B (binaryOp .Add) x y ρ Φ := bi_of op_cat fun δ σ H ds vs a b Q st q => by
  obtain ⟨S, T, s⟩ := id st
  obtain ⟨p, us, e1, e2, e3⟩ := hx.sq s s.tmp.tl.hd
  obtain ⟨p', ws, e1', e2', e3'⟩ := hy.sq s s.tmp.hd
  refine ⟨p, p', us, ws, e1, e1', e2, e2', by rw [← e3.length, ← e3'.length]; exact hz, fun r hr => ?_⟩
  have s0 : Sta X.K B δ ρ σ H ds vs S T := s.re s.env s.tmp.tl.tl
  have hb : B.H r = none := by
    cases z : B.H r with
    | none => rfl
    | some w => exact absurd hr (s.bH r (by rw [z]; simp))
  exact q _ _ _ _ (h r hb) ⟨S, _, s0.lay1 hr ⟨_, single_same, e3.app e3'⟩⟩
/-- tuples joined, none of them empty -/
theorem bi_catT {xs ys : List D} (h0 : xs ≠ []) (h1 : ys ≠ []) (hz : xs.length + ys.length ≤ sizeLine) (h : Φ (.tup (xs ++ ys)) ρ) : BiP X B (binaryOp .Add) (.tup xs) (.tup ys) ρ Φ := bi_of op_catT fun δ σ H ds vs a b Q st q => by
  obtain ⟨S, T, s⟩ := id st
  obtain ⟨p, us, e1, e2, e3⟩ := s.tmp.tl.hd
  obtain ⟨p', ws, e1', e2', e3'⟩ := s.tmp.hd
  have n1 : us ≠ [] := fun z => h0 (List.length_eq_zero_iff.mp (by rw [e3.length, z]; rfl))
  have n2 : ws ≠ [] := fun z => h1 (List.length_eq_zero_iff.mp (by rw [e3'.length, z]; rfl))
  refine ⟨p, p', us, ws, e1, e1', SqT.of (s.exS _ _ e2), SqT.of (s.exS _ _ e2'), n1, by rw [← e3.length, ← e3'.length]; exact hz, fun z => absurd z n2, fun _ r hr => ?_⟩
  exact q _ _ _ _ h ⟨_, T, (s.re s.env s.tmp.tl.tl).lay hr ⟨r, _, rfl, upd_same, (e3.app e3').mono ((Ex.refl S).new (s.exS.free hr))⟩⟩
theorem bi_catT0 {xs : List D} (h0 : xs ≠ []) (hz : xs.length ≤ sizeLine) (h : Φ (.tup xs) ρ) : BiP X B (binaryOp .Add) (.tup xs) (.tup []) ρ Φ := bi_of op_catT fun δ σ H ds vs a b Q st q => by
  obtain ⟨S, T, s⟩ := id st
  obtain ⟨p, us, e1, e2, e3⟩ := id s.tmp.tl.hd
  obtain ⟨p', ws, e1', e2', e3'⟩ := s.tmp.hd
  have ez : ws = [] := e3'
  subst ez
  have n1 : us ≠ [] := fun z => h0 (List.length_eq_zero_iff.mp (by rw [e3.length, z]; rfl))
  refine ⟨p, p', us, [], e1, e1', SqT.of (s.exS _ _ e2), SqT.of (s.exS _ _ e2'), n1, by rw [← e3.length]; exact hz, fun _ => ?_, fun z => absurd rfl z⟩
  exact q _ _ _ _ h ⟨S, T, s.re s.env (.cons (by rw [← e1]; exact s.tmp.tl.hd) s.tmp.tl.tl)⟩
/-- [v] * n of our own -/
theorem bi_rep {d : D} {n : Int} (hx : LstAt ρ x [d]) (hn : 0 ≤ n ∧ n ≤ 1000) (h : ∀ p, B.H p = none → Φ (.obj p) ((p, .ol (List.replicate n.toNat d)) :: ρ)) : BiP X B (binaryOp .Mult) x (.int n) ρ Φ := bi_of op_rep fun δ σ H ds vs a b Q st q => by
  obtain ⟨S, T, s⟩ := id st
  obtain ⟨p, us, e1, e2, e3⟩ := hx.sq s s.tmp.tl.hd
  obtain ⟨z, r, rfl, z1, z2⟩ := e3
  have z2' : r = [] := z2
  subst z2'
  refine ⟨p, n, [z], e1, s.tmp.hd, e2, by omega, by omega, ?_, fun r hr => ?_⟩
  · show 1 * n.toNat ≤ sizeLine
    have : (1000 : Nat) ≤ sizeLine := by decide
    omega
  · have fl : (List.replicate n.toNat [z]).flatten = List.replicate n.toNat z := by
      induction n.toNat with
      | zero => rfl
      | succ m ih => rw [List.replicate_succ, List.flatten_cons, ih, List.replicate_succ]; rfl
    rw [fl]
    have s0 : Sta X.K B δ ρ σ H ds vs S T := s.re s.env s.tmp.tl.tl
    have hb : B.H r = none := by
      cases z : B.H r with
      | none => rfl
      | some w => exact absurd hr (s.bH r (by rw [z]; simp))
    exact q _ _ _ _ (h r hb) ⟨S, _, s0.lay1 hr ⟨_, single_same, RepL.rep z1 _⟩⟩
/-! ### built-in calls -/
theorem cl_of {f : Value} {as : List D} {r : List V → Hp → VK → Prop} (hr : CallR X f r) (h : ∀ δ σ H ds vs xs Q, as.length = xs.length → StV X.K B δ ρ σ H (as ++ ds) (xs ++ vs) → PostE X B δ σ ds vs Φ Q → r xs H Q) : ClP X B f as ρ Φ := fun δ σ H ds vs xs Q el st q pins s σ' us I r1 => hr pins s σ' H xs us Q I r1 (h δ σ H ds vs xs Q el st q)
theorem cl1_of {f : Value} {r : List V → Hp → VK → Prop} (hr : CallR X f r) (h : ∀ δ σ H ds vs a Q, StV X.K B δ ρ σ H (x :: ds) (a :: vs) → PostE X B δ σ ds vs Φ Q → r [a] H Q) : ClP X B f [x] ρ Φ := cl_of hr fun δ σ H ds vs xs Q el st q => by
  match xs, el with
  | [a], _ => exact h δ σ H ds vs a Q st q
theorem cl2_of {f : Value} {r : List V → Hp → VK → Prop} (hr : CallR X f r) (h : ∀ δ σ H ds vs a b Q, StV X.K B δ ρ σ H (x :: y :: ds) (a :: b :: vs) → PostE X B δ σ ds vs Φ Q → r [a, b] H Q) : ClP X B f [x, y] ρ Φ := cl_of hr fun δ σ H ds vs xs Q el st q => by
  match xs, el with
  | [a, b], _ => exact h δ σ H ds vs a b Q st q
theorem cl_lenL {xs : List D} (hl : LstAt ρ x xs) (h : Φ (.int xs.length) ρ) : ClP X B (.builtin "len") [x] ρ Φ := cl1_of call_len_seq fun δ σ H ds vs a Q st q => by
  obtain ⟨S, T, s⟩ := id st
  obtain ⟨p, zs, e1, e2, e3⟩ := hl.sq s s.tmp.hd
  refine ⟨p, zs, by rw [e1], .inl (SqL.of e2), ?_⟩
  rw [← e3.length]
  exact q _ _ _ _ h (st.pop.push fun _ => rfl)
theorem cl_lenT {xs : List D} (h : Φ (.int xs.length) ρ) : ClP X B (.builtin "len") [.tup xs] ρ Φ := cl1_of call_len_seq fun δ σ H ds vs a Q st q => by
  obtain ⟨S, T, s⟩ := id st
  obtain ⟨p, zs, e1, e2, e3⟩ := s.tmp.hd
  refine ⟨p, zs, by rw [e1], .inr (SqT.of (s.exS _ _ e2)), ?_⟩
  rw [← e3.length]
  exact q _ _ _ _ h (st.pop.push fun _ => rfl)
theorem cl_lenS {u : Str} (hz : u.length ≤ sizeLine) (h : Φ (.int u.length) ρ) : ClP X B (.builtin "len") [.str u] ρ Φ := cl1_of call_len_str fun δ σ H ds vs a Q st q => by
  obtain ⟨S, T, s⟩ := id st
  exact ⟨u, by rw [show a = V.str u from s.tmp.hd], hz, q _ _ _ _ h (st.pop.push fun _ => rfl)⟩
theorem cl_max (hc : X.calm = true) (h : Φ (.int (if j > i then j else i)) ρ) : ClP X B (.builtin "max") [.int i, .int j] ρ Φ := cl2_of (call_max2 hc) fun δ σ H ds vs a b Q st q => by
  obtain ⟨S, T, s⟩ := id st
  exact ⟨i, j, by rw [show a = V.int i from s.tmp.hd, show b = V.int j from s.tmp.tl.hd], q _ _ _ _ h (st.pop.pop.push fun _ => rfl)⟩
theorem cl_min (hc : X.calm = true) (h : Φ (.int (if j < i then j else i)) ρ) : ClP X B (.builtin "min") [.int i, .int j] ρ Φ := cl2_of (call_min2 hc) fun δ σ H ds vs a b Q st q => by
  obtain ⟨S, T, s⟩ := id st
  exact ⟨i, j, by rw [show a = V.int i from s.tmp.hd, show b = V.int j from s.tmp.tl.hd], q _ _ _ _ h (st.pop.pop.push fun _ => rfl)⟩
theorem cl_intB {b : Bool} (h : Φ (.int (if b then 1 else 0)) ρ) : ClP X B (.type "int") [.bl b] ρ Φ := cl1_of call_int1 fun δ σ H ds vs a Q st q => by
  obtain ⟨S, T, s⟩ := id st
  exact .inr ⟨b, by rw [show a = V.bl b from s.tmp.hd], q _ _ _ _ h (st.pop.push fun _ => rfl)⟩
/-- list(xs): a new list, stable or our own -/
theorem cl_list {xs : List D} (hl : LstAt ρ x xs) (h : Φ (.lst xs) ρ) : ClP X B (.type "list") [x] ρ Φ := cl1_of call_list_of fun δ σ H ds vs a Q st q => by
  obtain ⟨S, T, s⟩ := id st
  obtain ⟨p, zs, e1, e2, e3⟩ := hl.sq s s.tmp.hd
  refine ⟨p, zs, by rw [e1], .inl (SqL.of e2), fun r hr => ?_⟩
  exact q _ _ _ _ h ⟨_, T, (s.re s.env s.tmp.tl).lay hr ⟨r, zs, rfl, upd_same, e3.mono ((Ex.refl S).new (s.exS.free hr))⟩⟩
theorem cl_listo {xs : List D} (hl : LstAt ρ x xs) (h : ∀ p, B.H p = none → Φ (.obj p) ((p, .ol xs) :: ρ)) : ClP X B (.type "list") [x] ρ Φ := cl1_of call_list_of fun δ σ H ds vs a Q st q => by
  obtain ⟨S, T, s⟩ := id st
  obtain ⟨p, zs, e1, e2, e3⟩ := hl.sq s s.tmp.hd
  refine ⟨p, zs, by rw [e1], .inl (SqL.of e2), fun r hr => ?_⟩
  have hb : B.H r = none := by
    cases z : B.H r with
    | none => rfl
    | some w => exact absurd hr (s.bH r (by rw [z]; simp))
  exact q _ _ _ _ (h r hb) ⟨S, _, (s.re s.env s.tmp.tl).lay1 hr ⟨zs, single_same, e3⟩⟩
theorem cl_all (hc : X.calm = true) {bs : List Bool} (hl : LstAt ρ x (bs.map D.bl)) (h : Φ (.bl (bs.all id)) ρ) : ClP X B (.builtin "all") [x] ρ Φ := cl1_of (cr_all hc) fun δ σ H ds vs a Q st q => by
  obtain ⟨S, T, s⟩ := id st
  obtain ⟨p, zs, e1, e2, e3⟩ := hl.sq s s.tmp.hd
  rw [(RepL.bls bs).mp e3] at e2
  exact ⟨p, bs, by rw [e1], SqL.of e2, q _ _ _ _ h (st.pop.push fun _ => rfl)⟩
theorem cl_any (hc : X.calm = true) {bs : List Bool} (hl : LstAt ρ x (bs.map D.bl)) (h : Φ (.bl (bs.any id)) ρ) : ClP X B (.builtin "any") [x] ρ Φ := cl1_of (cr_any hc) fun δ σ H ds vs a Q st q => by
  obtain ⟨S, T, s⟩ := id st
  obtain ⟨p, zs, e1, e2, e3⟩ := hl.sq s s.tmp.hd
  rw [(RepL.bls bs).mp e3] at e2
  exact ⟨p, bs, by rw [e1], SqL.of e2, q _ _ _ _ h (st.pop.push fun _ => rfl)⟩
theorem cl_sorted {ns : List Int} (hl : LstAt ρ x (ns.map D.int)) (h : Φ (.lst ((srt ns).map D.int)) ρ) : ClP X B (.builtin "sorted") [x] ρ Φ := cl1_of cr_sortedI fun δ σ H ds vs a Q st q => by
  obtain ⟨S, T, s⟩ := id st
  obtain ⟨p, zs, e1, e2, e3⟩ := hl.sq s s.tmp.hd
  rw [(RepL.ints ns).mp e3] at e2
  refine ⟨p, ns, by rw [e1], SqL.of e2, fun ns' r hp hs hr => ?_⟩
  rw [srt_unique hp hs]
  exact q _ _ _ _ h ⟨_, T, (s.re s.env s.tmp.tl).lay hr ⟨r, _, rfl, upd_same, (RepL.ints _).mpr rfl⟩⟩
/-! ### dicts -/
/-- a dict as it may be read: what it gives, its keys -/
def DctAt (ρ : Rs) (d : D) (g : Int → Option D) (ks : List Int) : Prop := ∃ (k : Nat) (a : Addr), d = .obj a ∧
  ((∃ kvs : List (Int × D), (ρ[k]? = some (a, Own.od kvs) ∨ ρ[k]? = some (a, Own.odF kvs)) ∧ g = aGet kvs ∧ ks = kvs.map (·.1)) ∨
    ∃ kvs : List (Int × (Addr × List D)), (ρ[k]? = some (a, Own.dol kvs) ∨ ρ[k]? = some (a, Own.dolF kvs)) ∧ (g = fun i => (aGet kvs i).map fun p => D.obj p.1) ∧ ks = kvs.map (·.1))
theorem DctAt.o {ρ : Rs} {a : Addr} {kvs : List (Int × D)} (k : Nat) (h : ρ[k]? = some (a, Own.od kvs)) : DctAt ρ (.obj a) (aGet kvs) (kvs.map (·.1)) := ⟨k, a, rfl, .inl ⟨kvs, .inl h, rfl, rfl⟩⟩
theorem DctAt.oF {ρ : Rs} {a : Addr} {kvs : List (Int × D)} (k : Nat) (h : ρ[k]? = some (a, Own.odF kvs)) : DctAt ρ (.obj a) (aGet kvs) (kvs.map (·.1)) := ⟨k, a, rfl, .inl ⟨kvs, .inr h, rfl, rfl⟩⟩
theorem DctAt.l {ρ : Rs} {a : Addr} {kvs : List (Int × (Addr × List D))} (k : Nat) (h : ρ[k]? = some (a, Own.dol kvs)) : DctAt ρ (.obj a) (fun i => (aGet kvs i).map fun p => D.obj p.1) (kvs.map (·.1)) := ⟨k, a, rfl, .inr ⟨kvs, .inl h, rfl, rfl⟩⟩
theorem DctAt.lF {ρ : Rs} {a : Addr} {kvs : List (Int × (Addr × List D))} (k : Nat) (h : ρ[k]? = some (a, Own.dolF kvs)) : DctAt ρ (.obj a) (fun i => (aGet kvs i).map fun p => D.obj p.1) (kvs.map (·.1)) := ⟨k, a, rfl, .inr ⟨kvs, .inr h, rfl, rfl⟩⟩
theorem DctAt.rd {ρ : Rs} {d : D} {g : Int → Option D} {ks : List Int} (h : DctAt ρ d g ks) {K : PySem.W.Frag} {σ : L2.St} {H : Hp} {ds : List D} {vs : List V} {v : V} {S : Hp} {T : Nat → Hp} (s : Sta K B δ ρ σ H ds vs S T) (r : Rep S d v) :
    ∃ a kv, v = .ref a ∧ Rd H a (.dK kv) ∧ kv.map (·.1) = ks.map Sum.inl ∧ ∀ i : Int, (g i = none ∧ valV kv (Sum.inl i) = none) ∨ ∃ d v, g i = some d ∧ valV kv (Sum.inl i) = some v ∧ Rep S d v := by
  obtain ⟨k, a, rfl, ⟨kvs, h, rfl, rfl⟩ | ⟨kvs, h, rfl, rfl⟩⟩ := h
  · have : ∃ kv, Rd H a (.dK kv) ∧ KVr (Rep S) kvs kv := by
      rcases h with h | h
      · obtain ⟨kv, h1, h2⟩ := s.own k a _ h
        exact ⟨kv, .inl (s.exT k _ _ h1), h2⟩
      · obtain ⟨o, kv, h1, h2⟩ := s.own k a _ h
        exact ⟨kv, .inr ⟨o, s.exT k _ _ h1⟩, h2⟩
    obtain ⟨kv, h1, h2⟩ := this
    exact ⟨a, kv, r, h1, h2.keys, fun i => h2.get i⟩
  · have : ∃ kv, Rd H a (.dK kv) ∧ KVr (fun (p : Addr × List D) v => v = .ref p.1) kvs kv := by
      rcases h with h | h
      · obtain ⟨⟨kv, h1, h2⟩, _⟩ := s.own k a _ h
        exact ⟨kv, .inl (s.exT k _ _ h1), h2⟩
      · obtain ⟨⟨o, kv, h1, h2⟩, _⟩ := s.own k a _ h
        exact ⟨kv, .inr ⟨o, s.exT k _ _ h1⟩, h2⟩
    obtain ⟨kv, h1, h2⟩ := this
    refine ⟨a, kv, r, h1, h2.keys, fun i => ?_⟩
    rcases h2.get i with ⟨e1, e2⟩ | ⟨p, v, e1, e2, e3⟩
    · exact .inl ⟨by show (aGet kvs i).map _ = _; rw [e1]; rfl, e2⟩
    · exact .inr ⟨.obj p.1, v, by show (aGet kvs i).map _ = _; rw [e1]; rfl, e2, e3⟩
theorem dget_of {H : Hp} {a : Addr} {kv : List (Key × V)} (h : Rd H a (.dK kv)) (i : Int) : DGet H a (.int i) (valV kv (Sum.inl i)) := .inl ⟨kv, Sum.inl i, h, rfl, rfl⟩
theorem op_inDict (hu : X.A.units + 1 < cLine) : OpR X (compareOp .In) (fun y x H Q => ∃ a o, x = .ref a ∧ DGet H a y o ∧ Q (.bl o.isSome) H) := fun pins s σ H y x u v Q I ry rx h => by
  obtain ⟨a, o, rfl, g, q⟩ := h
  cases rx
  exact d_in hu I g ry fun s' I' => ⟨.bl o.isSome, H, I', rfl, q⟩
theorem op_ninDict (hu : X.A.units + 1 < cLine) : OpR X (compareOp .NotIn) (fun y x H Q => ∃ a o, x = .ref a ∧ DGet H a y o ∧ Q (.bl (!o.isSome)) H) := fun pins s σ H y x u v Q I ry rx h => by
  obtain ⟨a, o, rfl, g, q⟩ := h
  cases rx
  exact d_notIn hu I g ry fun s' I' => ⟨.bl (!o.isSome), H, I', rfl, q⟩
theorem bi_inD {g : Int → Option D} {ks : List Int} (hu : X.A.units + 64 < cLine) (hd : DctAt ρ y g ks) (h : Φ (.bl (g i).isSome) ρ) : BiP X B (compareOp .In) (.int i) y ρ Φ := bi_of (op_inDict (by omega)) fun δ σ H ds vs a b Q st q => by
  obtain ⟨S, T, s⟩ := id st
  obtain ⟨p, kv, e1, e2, _, e3⟩ := hd.rd s s.tmp.hd
  have ea : a = .int i := s.tmp.tl.hd
  subst ea
  refine ⟨p, valV kv (Sum.inl i), e1, dget_of e2 i, ?_⟩
  have : (valV kv (Sum.inl i)).isSome = (g i).isSome := by
    rcases e3 i with ⟨q1, q2⟩ | ⟨d, v, q1, q2, _⟩ <;> rw [q1, q2] <;> rfl
  rw [this]
  exact q _ _ _ _ h (st.pop.pop.push fun _ => rfl)
theorem bi_ninD {g : Int → Option D} {ks : List Int} (hu : X.A.units + 64 < cLine) (hd : DctAt ρ y g ks) (h : Φ (.bl (!(g i).isSome)) ρ) : BiP X B (compareOp .NotIn) (.int i) y ρ Φ := bi_of (op_ninDict (by omega)) fun δ σ H ds vs a b Q st q => by
  obtain ⟨S, T, s⟩ := id st
  obtain ⟨p, kv, e1, e2, _, e3⟩ := hd.rd s s.tmp.hd
  have ea : a = .int i := s.tmp.tl.hd
  subst ea
  refine ⟨p, valV kv (Sum.inl i), e1, dget_of e2 i, ?_⟩
  have : (valV kv (Sum.inl i)).isSome = (g i).isSome := by
    rcases e3 i with ⟨q1, q2⟩ | ⟨d, v, q1, q2, _⟩ <;> rw [q1, q2] <;> rfl
  rw [this]
  exact q _ _ _ _ h (st.pop.pop.push fun _ => rfl)
theorem call_lenDct : CallR X (.builtin "len") (fun xs H Q => ∃ a kvs, xs = [.ref a] ∧ Rd H a (.dK kvs) ∧ Q (.int kvs.length) H) := fun pins s σ H xs us Q I r h => by
  obtain ⟨a, kvs, rfl, hd, q⟩ := h
  rw [Vals.ref1 r]
  exact d_len I hd fun t s' I' => ⟨.int kvs.length, H, I', ⟨t, rfl⟩, q⟩
theorem cl_lenD {g : Int → Option D} {ks : List Int} (hd : DctAt ρ x g ks) (h : Φ (.int ks.length) ρ) : ClP X B (.builtin "len") [x] ρ Φ := cl1_of call_lenDct fun δ σ H ds vs a Q st q => by
  obtain ⟨S, T, s⟩ := id st
  obtain ⟨p, kv, e1, e2, e3, _⟩ := hd.rd s s.tmp.hd
  refine ⟨p, kv, by rw [e1], e2, ?_⟩
  have : kv.length = ks.length := by have := congrArg List.length e3; simpa using this
  rw [this]
  exact q _ _ _ _ h (st.pop.push fun _ => rfl)
theorem cl_sortedD {g : Int → Option D} {ks : List Int} (hc : X.calm = true) (hd : DctAt ρ x g ks) (hz : ks.length < 64) (h : Φ (.lst ((srt ks).map D.int)) ρ) : ClP X B (.builtin "sorted") [x] ρ Φ := cl1_of (call_sortedDI hc) fun δ σ H ds vs a Q st q => by
  obtain ⟨S, T, s⟩ := id st
  obtain ⟨p, kv, e1, e2, e3, _⟩ := hd.rd s s.tmp.hd
  refine ⟨p, kv, ks, by rw [e1], e2, e3, hz, fun ns' r hp hs hr => ?_⟩
  rw [srt_unique hp hs]
  exact q _ _ _ _ h ⟨_, T, (s.re s.env s.tmp.tl).lay hr ⟨r, _, rfl, upd_same, (RepL.ints _).mpr rfl⟩⟩
theorem cl_listD {g : Int → Option D} {ks : List Int} (hc : X.calm = true) (hd : DctAt ρ x g ks) (h : Φ (.lst (ks.map D.int)) ρ) : ClP X B (.type "list") [x] ρ Φ := cl1_of (call_listD hc) fun δ σ H ds vs a Q st q => by
  obtain ⟨S, T, s⟩ := id st
  obtain ⟨p, kv, e1, e2, e3, _⟩ := hd.rd s s.tmp.hd
  refine ⟨p, kv, by rw [e1], e2, fun r hr => ?_⟩
  have : (kv.map fun kv => kV kv.1) = ks.map V.int := by
    have := congrArg (List.map kV) e3
    rw [List.map_map, List.map_map] at this
    exact this
  rw [this]
  exact q _ _ _ _ h ⟨_, T, (s.re s.env s.tmp.tl).lay hr ⟨r, _, rfl, upd_same, (RepL.ints _).mpr rfl⟩⟩
theorem cl_listDo {g : Int → Option D} {ks : List Int} (hc : X.calm = true) (hd : DctAt ρ x g ks) (h : ∀ p, B.H p = none → Φ (.obj p) ((p, .ol (ks.map D.int)) :: ρ)) : ClP X B (.type "list") [x] ρ Φ := cl1_of (call_listD hc) fun δ σ H ds vs a Q st q => by
  obtain ⟨S, T, s⟩ := id st
  obtain ⟨p, kv, e1, e2, e3, _⟩ := hd.rd s s.tmp.hd
  refine ⟨p, kv, by rw [e1], e2, fun r hr => ?_⟩
  have : (kv.map fun kv => kV kv.1) = ks.map V.int := by
    have := congrArg (List.map kV) e3
    rw [List.map_map, List.map_map] at this
    exact this
  rw [this]
  have hb : B.H r = none := by
    cases z : B.H r with
    | none => rfl
    | some w => exact absurd hr (s.bH r (by rw [z]; simp))
  exact q _ _ _ _ (h r hb) ⟨S, _, (s.re s.env s.tmp.tl).lay1 hr ⟨_, single_same, (RepL.ints _).mpr rfl⟩⟩
/-! ### subscripts -/
theorem ix_of {r : R2} (hr : IxR X r) (h : ∀ δ σ H ds vs a b Q, StV X.K B δ ρ σ H (y :: x :: ds) (b :: a :: vs) → PostE X B δ σ ds vs Φ Q → r a b H Q) : IxP X B x y ρ Φ := fun δ σ H ds vs a b Q st q e1 e2 pins s σ' v u I r1 r2 hs => hr e1 e2 pins s σ' H a b v u Q I r1 r2 (h δ σ H ds vs a b Q st q) hs
theorem atI_map {α β : Type} (f : α → β) (xs : List α) (i : Int) : atI (xs.map f) i = (atI xs i).map f := by
  unfold atI
  rw [List.length_map]
  cases ixN xs.length i with
  | none => rfl
  | some j => simp
theorem atI_rep {S : Hp} {xs : List D} {vs : List V} {d : D} (r : RepL S xs vs) (h : atI xs i = some d) : ∃ v, atI vs i = some v ∧ Rep S d v := by
  unfold atI at h ⊢
  rw [← r.length]
  cases e : ixN xs.length i with
  | none => rw [e] at h; cases h
  | some j =>
    rw [e] at h
    exact r.at (i := j) (d := d) h
theorem ix_lst {xs : List D} {d : D} (hl : LstAt ρ x xs) (ha : atI xs i = some d) (h : Φ d ρ) : IxP X B x (.int i) ρ Φ := ix_of ix_list fun δ σ H ds vs a b Q st q => by
  obtain ⟨S, T, s⟩ := id st
  obtain ⟨p, zs, e1, e2, e3⟩ := hl.sq s s.tmp.tl.hd
  obtain ⟨v, h1, h2⟩ := atI_rep e3 ha
  exact ⟨p, zs, i, v, e1, s.tmp.hd, SqL.of e2, h1, q _ _ _ _ h ⟨S, T, s.re s.env (.cons h2 s.tmp.tl.tl)⟩⟩
theorem ix_tpl {xs : List D} {d : D} (ha : atI xs i = some d) (h : Φ d ρ) : IxP X B (.tup xs) (.int i) ρ Φ := ix_of ix_tup fun δ σ H ds vs a b Q st q => by
  obtain ⟨S, T, s⟩ := id st
  obtain ⟨p, zs, e1, e2, e3⟩ := s.tmp.tl.hd
  obtain ⟨v, h1, h2⟩ := atI_rep e3 ha
  exact ⟨p, zs, i, v, e1, s.tmp.hd, SqT.of (s.exS _ _ e2), h1, q _ _ _ _ h ⟨S, T, s.re s.env (.cons h2 s.tmp.tl.tl)⟩⟩
theorem ix_txt {z : Str} {c : Nat} (hz : z.length ≤ sizeLine) (ha : atI z.cps.toList i = some c) (h : Φ (.str ⟨#[c]⟩) ρ) : IxP X B (.str z) (.int i) ρ Φ := ix_of ix_str fun δ σ H ds vs a b Q st q => by
  obtain ⟨S, T, s⟩ := id st
  exact ⟨z, i, c, s.tmp.tl.hd, s.tmp.hd, hz, ha, q _ _ _ _ h (st.pop.pop.push fun _ => rfl)⟩
theorem ix_dictR (hu : X.A.units + 1 < cLine) : IxR X (fun x y H Q => ∃ a v, x = .ref a ∧ DGet H a y (some v) ∧ Q v H) := fun value slice pins s σ H x y v u Q I rx ry h hs => by
  obtain ⟨a, w, rfl, g, q⟩ := h
  cases rx
  exact tail_any (dict_typeIs I g) PySem.F.slot_dict_getitem.lookup (d_getItem hu I g ry fun w' s3 I3 rw' => ⟨w, H, I3, rw', q⟩) hs
theorem ix_dct {g : Int → Option D} {ks : List Int} {d : D} (hu : X.A.units + 64 < cLine) (hd : DctAt ρ x g ks) (hg : g i = some d) (h : Φ d ρ) : IxP X B x (.int i) ρ Φ := ix_of (ix_dictR (by omega)) fun δ σ H ds vs a b Q st q => by
  obtain ⟨S, T, s⟩ := id st
  obtain ⟨p, kv, e1, e2, _, e3⟩ := hd.rd s s.tmp.tl.hd
  have eb : b = .int i := s.tmp.hd
  subst eb
  rcases e3 i with ⟨q1, _⟩ | ⟨d', v, q1, q2, q3⟩
  · rw [q1] at hg; cases hg
  · rw [q1] at hg; cases hg
    have := dget_of e2 i
    rw [q2] at this
    exact ⟨p, v, e1, this, q _ _ _ _ h ⟨S, T, s.re s.env (.cons q3 s.tmp.tl.tl)⟩⟩
end
end Lw

set_option maxHeartbeats 1000000
/-! What is written: lists, dicts. Slices, comprehensions, bundles. -/
namespace Lw
open PySem PySem.Spec PyProof.Rows L2
section
variable {X : Cx} {B : Base} {W : WX} {Ψ : Addr → Dl → Rs → Prop} {k : Nat} {δ : Dl} {ρ : Rs} {Φ : D → Rs → Prop} {x y o v : D} {i j : Int}
theorem fresh_base {σ : L2.St} {H : Hp} {ds : List D} {vs : List V} {S : Hp} {T : Nat → Hp} {K : PySem.W.Frag} (s : Sta K B δ ρ σ H ds vs S T) {r : Addr} (hr : H r = none) : B.H r = none := by
  cases z : B.H r with
  | none => rfl
  | some w => exact absurd hr (s.bH r (by rw [z]; simp))
/-! ### the store o[i] = v -/
theorem si_list {a : Addr} {xs : List D} {n m : Nat} {Ψr : Rs → Prop} (hk : ρ[n]? = some (a, Own.ol xs)) (hi : ixN xs.length i = some m) (h : Ψr (ρ.set n (a, .ol (xs.set m v)))) : StI X B (.obj a) (.int i) v ρ Ψr := fun δ σ H ds vs p q r Q st post pins s σ' ov iv u I r1 r2 r3 => by
  obtain ⟨S, T, t⟩ := id st
  obtain ⟨ys, e1, e2⟩ := t.own n a _ hk
  have ep : p = .ref a := t.tmp.tl.hd
  refine set_list pins s σ' H p q r ov iv u _ I r1 r2 r3 ⟨a, ys, i, m, ep, t.tmp.hd, t.exT n _ _ e1, by rw [← e2.length]; exact hi, post _ _ h ?_⟩
  exact ⟨S, _, (t.re t.env t.tmp.tl.tl.tl).put hk a (.lst (ys.set m r)) (by rw [e1]; simp) rfl ⟨_, upd_same, e2.set m t.tmp.tl.tl.hd⟩⟩
theorem nodup_at {α : Type} {l : List α} (h : l.Nodup) (i j : Nat) (hi : i < l.length) (hj : j < l.length) (e : l[i] = l[j]) : i = j := (List.getElem_inj h).mp e
theorem dolPut {kvs : List (Int × (Addr × List D))} {b : Int} {l : Addr} {xs zs : List D} (h1 : (kvs.map (·.1)).Nodup) (h2 : (kvs.map (·.2.1)).Nodup) (hq : (b, (l, xs)) ∈ kvs) : aPut kvs b (l, zs) = kvs.map fun p => if p.2.1 = l then (p.1, (l, zs)) else p := by
  have ha : (kvs.any fun p => decide (p.1 = b)) = true := List.any_eq_true.mpr ⟨_, hq, by simp⟩
  unfold aPut
  rw [if_pos ha]
  have key : ∀ p ∈ kvs, (p.1 = b ↔ p.2.1 = l) := by
    intro p hp
    constructor
    · intro e
      obtain ⟨i, hi, ei⟩ := List.getElem_of_mem hp
      obtain ⟨j, hj, ej⟩ := List.getElem_of_mem hq
      have : i = j := by
        refine nodup_at h1 i j ?_ ?_ ?_
        · simpa using hi
        · simpa using hj
        · simp [ei, ej, e]
      subst this
      rw [← ei, ej]
    · intro e
      obtain ⟨i, hi, ei⟩ := List.getElem_of_mem hp
      obtain ⟨j, hj, ej⟩ := List.getElem_of_mem hq
      have : i = j := by
        refine nodup_at h2 i j ?_ ?_ ?_
        · simpa using hi
        · simpa using hj
        · simp [ei, ej, e]
      subst this
      rw [← ei, ej]
  refine List.map_congr_left fun p hp => ?_
  by_cases e : p.1 = b
  · rw [if_pos e, if_pos ((key p hp).mp e)]
  · rw [if_neg e, if_neg (fun z => e ((key p hp).mpr z))]
/-- a slot of a box: the inner list of a dict of lists -/
theorem si_inner {a p : Addr} {xs : List D} {kvs : List (Int × (Addr × List D))} {b : Int} {n m : Nat} {Ψr : Rs → Prop} (hk : ρ[n]? = some (p, Own.dol kvs)) (hq : (b, (a, xs)) ∈ kvs) (hi : ixN xs.length i = some m) (h : Ψr (ρ.set n (p, .dol (aPut kvs b (a, xs.set m v))))) : StI X B (.obj a) (.int i) v ρ Ψr := fun δ σ H ds vs z q r Q st post pins s σ' ov iv u I r1 r2 r3 => by
  obtain ⟨S, T, t⟩ := id st
  obtain ⟨⟨kv, c1, c2⟩, c3, c4, c5⟩ := t.own n p _ hk
  obtain ⟨ys, e1, e2⟩ := c5 _ hq
  have ep : z = .ref a := t.tmp.tl.hd
  have ne : p ≠ a := ne_of c1 e1 (by intro w; cases w)
  refine set_list pins s σ' H z q r ov iv u _ I r1 r2 r3 ⟨a, ys, i, m, ep, t.tmp.hd, t.exT n _ _ e1, by rw [← e2.length]; exact hi, post _ _ h ?_⟩
  refine ⟨S, _, (t.re t.env t.tmp.tl.tl.tl).put hk a (.lst (ys.set m r)) (by rw [e1]; simp) rfl ?_⟩
  rw [dolPut c3 c4 hq]
  have em1 : (kvs.map fun p => if p.2.1 = a then (p.1, (a, xs.set m v)) else p).map (·.1) = kvs.map (·.1) := by
    rw [List.map_map]; refine List.map_congr_left fun p hp => ?_
    show (if p.2.1 = a then (p.1, (a, xs.set m v)) else p).1 = p.1
    split <;> rfl
  have em2 : (kvs.map fun p => if p.2.1 = a then (p.1, (a, xs.set m v)) else p).map (·.2.1) = kvs.map (·.2.1) := by
    rw [List.map_map]; refine List.map_congr_left fun p hp => ?_
    show (if p.2.1 = a then (p.1, (a, xs.set m v)) else p).2.1 = p.2.1
    split
    · rename_i w; exact w.symm
    · rfl
  refine ⟨⟨kv, by rw [upd_ne ne]; exact c1, ?_⟩, by rw [em1]; exact c3, by rw [em2]; exact c4, fun w hw => ?_⟩
  · have mp : ∀ {l1 : List (Int × (Addr × List D))} {l2 : List (Key × V)}, KVr (fun p v => v = V.ref p.1) l1 l2 → KVr (fun p v => v = V.ref p.1) (l1.map fun p => if p.2.1 = a then (p.1, (a, xs.set m v)) else p) l2 := by
      intro l1 l2 h
      induction h with
      | nil => exact .nil
      | @cons x y l1 l2 r t ih =>
        refine .cons ⟨?_, ?_⟩ ih
        · rw [r.1]; show _ = Sum.inl (if x.2.1 = a then (x.1, (a, xs.set m v)) else x).1; split <;> rfl
        · rw [r.2]; show V.ref x.2.1 = V.ref (if x.2.1 = a then (x.1, (a, xs.set m v)) else x).2.1
          split
          · rename_i w; rw [w]
          · rfl
    exact mp c2
  · obtain ⟨w0, hw0, rfl⟩ := List.mem_map.mp hw
    by_cases e : w0.2.1 = a
    · rw [if_pos e]
      exact ⟨_, upd_same, e2.set m t.tmp.tl.tl.hd⟩
    · rw [if_neg e]
      obtain ⟨us, d1, d2⟩ := c5 w0 hw0
      exact ⟨us, by rw [upd_ne e]; exact d1, d2⟩
theorem pset_dict (hu : X.A.units + 1 < cLine) : PSet X (fun o i v H Q => ∃ a H', o = .ref a ∧ DPut H a i v H' ∧ Q H') := fun pins s σ H o i v ov iv u Q I r1 r2 r3 h => by
  obtain ⟨a, H', rfl, g, q⟩ := h
  cases r1
  exact d_setItem hu I g r2 r3 fun s' I' => ⟨H', I', q⟩
theorem si_dict {a : Addr} {kvs : List (Int × D)} {n : Nat} {Ψr : Rs → Prop} (hu : X.A.units + 64 < cLine) (hk : ρ[n]? = some (a, Own.od kvs)) (hz : kvs.length ≤ 100000) (h : Ψr (ρ.set n (a, .od (aPut kvs i v)))) : StI X B (.obj a) (.int i) v ρ Ψr := fun δ σ H ds vs p q r Q st post pins s σ' ov iv u I r1 r2 r3 => by
  obtain ⟨S, T, t⟩ := id st
  obtain ⟨kv, e1, e2⟩ := t.own n a _ hk
  have ep : p = .ref a := t.tmp.tl.hd
  have eq : q = .int i := t.tmp.hd
  subst eq
  refine pset_dict (by omega) pins s σ' H p _ r ov iv u _ I r1 r2 r3 ⟨a, _, ep, DPut.k (k := Sum.inl i) (t.exT n _ _ e1) ?_, post _ _ h ?_⟩
  · rw [← e2.length]; exact Nat.lt_of_le_of_lt hz (by decide)
  · exact ⟨S, _, (t.re t.env t.tmp.tl.tl.tl).put hk a (.dK (putK kv (Sum.inl i) r)) (by rw [e1]; simp) rfl ⟨_, upd_same, e2.put i t.tmp.tl.tl.hd⟩⟩
/-- two parts of what is owned are made one -/
theorem Sta.merge {K : PySem.W.Frag} {σ : L2.St} {H : Hp} {ds : List D} {vs : List V} {S : Hp} {T : Nat → Hp} {l : Addr} {o1 : Own} {p : Addr} {o2 : Own} {n : Nat} (t : Sta K B δ ((l, o1) :: ρ) σ H ds vs S T) (hk : ρ[n]? = some (p, o2)) :
    Sta K B δ (ρ.set n (p, .emp)) σ H ds vs S (fun j => if j = n then (fun b => match T 0 b with | some w => some w | none => T (n + 1) b) else T (j + 1)) := by
  have un : ∀ b, (match T 0 b with | some w => some w | none => T (n + 1) b) ≠ none → T 0 b ≠ none ∨ T (n + 1) b ≠ none := fun b h => by
    cases q : T 0 b with
    | some w => exact .inl (by simp)
    | none => rw [q] at h; exact .inr h
  refine ⟨t.exS, fun j => ?_, fun j b h => ?_, fun i j b ne h => ?_, fun j c w q => ?_, t.env, t.tmp, t.bS, fun b w q1 q2 => ⟨(t.bF b w q1 q2).1, fun j => ?_⟩, t.bN, t.bH⟩
  · show Ex (if j = n then _ else T (j + 1)) H
    split
    · intro b w e
      have e' : (match T 0 b with | some w => some w | none => T (n + 1) b) = some w := e
      cases q : T 0 b with
      | some w' => rw [q] at e'; cases e'; exact t.exT 0 b _ q
      | none => rw [q] at e'; exact t.exT _ b w e'
    · exact t.exT _
  · have h' : (if j = n then (fun b => match T 0 b with | some w => some w | none => T (n + 1) b) else T (j + 1)) b ≠ none := h
    split at h'
    · rcases un b h' with z | z
      · exact t.dS _ b z
      · exact t.dS _ b z
    · exact t.dS _ b h'
  · have h' : (if i = n then (fun b => match T 0 b with | some w => some w | none => T (n + 1) b) else T (i + 1)) b ≠ none := h
    show (if j = n then (fun b => match T 0 b with | some w => some w | none => T (n + 1) b) else T (j + 1)) b = none
    split at h'
    · rw [if_neg (by omega)]
      rcases un b h' with z | z
      · exact t.dT 0 _ b (by omega) z
      · exact t.dT _ _ b (by omega) z
    · split
      · show (match T 0 b with | some w => some w | none => T (n + 1) b) = none
        rw [t.dT _ 0 b (by omega) h']
        exact t.dT _ _ b (by omega) h'
      · exact t.dT _ _ b (by omega) h'
  · by_cases e : j = n
    · subst e
      rw [List.getElem?_set_self (List.getElem?_eq_some_iff.mp hk).1] at q
      cases q; exact trivial
    · rw [List.getElem?_set_ne (fun z => e z.symm)] at q
      show OwnAt K S (if j = n then _ else T (j + 1)) c w
      rw [if_neg e]
      exact t.own (j + 1) c w (by simpa using q)
  · show (if j = n then (fun b => match T 0 b with | some w => some w | none => T (n + 1) b) else T (j + 1)) b = none
    split
    · show (match T 0 b with | some w => some w | none => T (n + 1) b) = none
      rw [(t.bF b w q1 q2).2 0]; exact (t.bF b w q1 q2).2 _
    · exact (t.bF b w q1 q2).2 _
theorem nodup_put {α : Type} {kvs : List (Int × α)} {b : Int} {z : α} (h : (kvs.map (·.1)).Nodup) : ((aPut kvs b z).map (·.1)).Nodup := by
  unfold aPut
  split
  · have : (kvs.map fun p => if p.1 = b then (p.1, z) else p).map (·.1) = kvs.map (·.1) := by
      rw [List.map_map]; refine List.map_congr_left fun p hp => ?_
      show (if p.1 = b then (p.1, z) else p).1 = p.1
      split <;> rfl
    rw [this]; exact h
  · rename_i hn
    rw [List.map_append]
    refine List.nodup_append.mpr ⟨h, by simp, fun x hx y hy e => ?_⟩
    simp at hy
    subst hy; subst e
    obtain ⟨p, hp, rfl⟩ := List.mem_map.mp hx
    exact hn (List.any_eq_true.mpr ⟨p, hp, by simp⟩)
theorem nodup_drop {α : Type} {kvs : List (Int × α)} {b : Int} (h : (kvs.map (·.1)).Nodup) : ((aDrop kvs b).map (·.1)).Nodup := h.sublist ((List.filter_sublist).map _)
/-- d[i] = a list of our own, which goes into a dict of lists -/
theorem si_dol {a l : Addr} {xs : List D} {kvs : List (Int × (Addr × List D))} {n : Nat} {Ψr : Rs → Prop} (hu : X.A.units + 64 < cLine) (hk : ρ[n]? = some (a, Own.dol kvs)) (hz : kvs.length ≤ 100000) (h : l ∉ kvs.map (·.2.1) → Ψr (ρ.set n (a, .dol (aPut kvs i (l, xs))))) : StI X B (.obj a) (.int i) (.obj l) ((l, .ol xs) :: ρ) Ψr := fun δ σ H ds vs p q r Q st post pins s σ' ov iv u I r1 r2 r3 => by
  obtain ⟨S, T, t⟩ := id st
  obtain ⟨⟨kv, c1, c2⟩, c3, c4, c5⟩ := t.own (n + 1) a _ (by simpa using hk)
  obtain ⟨ys, f1, f2⟩ := t.own 0 l _ rfl
  have ep : p = .ref a := t.tmp.tl.hd
  have eq : q = .int i := t.tmp.hd
  have er : r = .ref l := t.tmp.tl.tl.hd
  subst eq
  subst er
  have nl : l ∉ kvs.map (·.2.1) := by
    intro hm
    obtain ⟨w, hw, e⟩ := List.mem_map.mp hm
    obtain ⟨us, d1, _⟩ := c5 w hw
    rw [e] at d1
    have := t.dT (n + 1) 0 l (by omega) (by rw [d1]; simp)
    rw [f1] at this; cases this
  refine pset_dict (by omega) pins s σ' H p _ _ ov iv u _ I r1 r2 r3 ⟨a, _, ep, DPut.k (k := Sum.inl i) (t.exT (n + 1) _ _ c1) ?_, post _ _ (h nl) ?_⟩
  · rw [← c2.length]; exact Nat.lt_of_le_of_lt hz (by decide)
  · have t0 : Sta X.K B δ ((l, .ol xs) :: ρ) σ H ds vs S T := t.re t.env t.tmp.tl.tl.tl
    have t1 := t0.merge hk
    have hk1 : (ρ.set n (a, Own.emp))[n]? = some (a, .emp) := List.getElem?_set_self (List.getElem?_eq_some_iff.mp hk).1
    have ha0 : T 0 a = none := t.dT (n + 1) 0 a (by omega) (by rw [c1]; simp)
    have tn : (fun j => if j = n then (fun b => match T 0 b with | some w => some w | none => T (n + 1) b) else T (j + 1)) n = fun b => match T 0 b with | some w => some w | none => T (n + 1) b := if_pos rfl
    have t2 := t1.put hk1 (o' := .dol (aPut kvs i (l, xs))) a (.dK (putK kv (Sum.inl i) (.ref l))) (by show (if n = n then (fun b => match T 0 b with | some w => some w | none => T (n + 1) b) else T (n + 1)) a ≠ none; rw [if_pos rfl]; show (match T 0 a with | some w => some w | none => T (n + 1) a) ≠ none; rw [ha0]; show T (n + 1) a ≠ none; rw [c1]; simp) rfl ?_
    · rw [List.set_set] at t2
      exact ⟨S, _, t2⟩
    · rw [if_pos rfl]
      refine ⟨⟨_, upd_same, c2.put i rfl⟩, nodup_put c3, ?_, fun w hw => ?_⟩
      · unfold aPut
        split
        · rename_i hany
          -- the old list at this key is let go
          have sub : ∀ (L : List (Int × (Addr × List D))), (L.map (·.1)).Nodup → (L.map (·.2.1)).Nodup → l ∉ L.map (·.2.1) → ((L.map fun p => if p.1 = i then (p.1, (l, xs)) else p).map (·.2.1)).Nodup := by
            intro L
            induction L with
            | nil => intro _ _ _; exact List.nodup_nil
            | cons w L ih =>
              intro a1 a2 a3
              rw [List.map_cons, List.nodup_cons] at a1 a2
              rw [List.map_cons, List.mem_cons, not_or] at a3
              have im : ∀ z ∈ (L.map fun p => if p.1 = i then (p.1, (l, xs)) else p).map (·.2.1), z = l ∧ (∃ p ∈ L, p.1 = i) ∨ z ∈ L.map (·.2.1) := by
                intro z hz
                obtain ⟨p, hp, rfl⟩ := List.mem_map.mp hz
                obtain ⟨p0, hp0, rfl⟩ := List.mem_map.mp hp
                by_cases e : p0.1 = i
                · rw [if_pos e]; exact .inl ⟨rfl, p0, hp0, e⟩
                · rw [if_neg e]; exact .inr (List.mem_map.mpr ⟨p0, hp0, rfl⟩)
              rw [List.map_cons, List.map_cons, List.nodup_cons]
              refine ⟨fun hz => ?_, ih a1.2 a2.2 a3.2⟩
              by_cases e : w.1 = i
              · rw [if_pos e] at hz
                rcases im _ hz with ⟨_, p, hp, ep⟩ | hz
                · exact a1.1 (List.mem_map.mpr ⟨p, hp, by rw [ep, e]⟩)
                · exact a3.2 hz
              · rw [if_neg e] at hz
                rcases im _ hz with ⟨z, _⟩ | hz
                · exact a3.1 z.symm
                · exact a2.1 hz
          exact sub kvs c3 c4 nl
        · rw [List.map_append]
          refine List.nodup_append.mpr ⟨c4, by simp, fun x hx y hy e => ?_⟩
          simp at hy
          subst hy; subst e
          exact nl hx
      · have hw' : w = (i, (l, xs)) ∨ w ∈ kvs := by
          unfold aPut at hw
          split at hw
          · obtain ⟨p0, hp0, rfl⟩ := List.mem_map.mp hw
            by_cases e : p0.1 = i
            · rw [if_pos e, e]; exact .inl rfl
            · rw [if_neg e]; exact .inr hp0
          · rcases List.mem_append.mp hw with h | h
            · exact .inr h
            · simp at h; exact .inl h
        rcases hw' with rfl | hw'
        · have nla : l ≠ a := fun z => by subst z; rw [ha0] at f1; cases f1
          refine ⟨ys, ?_, f2⟩
          rw [upd_ne nla]
          show (match T 0 l with | some w => some w | none => T (n + 1) l) = _
          rw [f1]
        · obtain ⟨us, d1, d2⟩ := c5 w hw'
          have nwa : w.2.1 ≠ a := fun z => by rw [z, c1] at d1; cases d1
          refine ⟨us, ?_, d2⟩
          rw [upd_ne nwa]
          show (match T 0 w.2.1 with | some w => some w | none => T (n + 1) w.2.1) = _
          rw [t.dT (n + 1) 0 w.2.1 (by omega) (by rw [d1]; simp)]
          exact d1
/-! ### methods of lists -/
theorem ty_list {xs : List D} (h : LstAt ρ x xs) : TyP X B "list" x ρ := fun δ σ H ds vs a st => by
  obtain ⟨S, T, s⟩ := st
  obtain ⟨p, zs, e1, e2, e3⟩ := h.sq s s.tmp.hd
  subst e1
  exact .inl ⟨rfl, zs, SqL.of e2⟩
theorem ty_str {z : Str} : TyP X B "str" (.str z) ρ := fun δ σ H ds vs a st => by
  obtain ⟨S, T, s⟩ := st
  have e : a = .str z := s.tmp.hd
  subst e
  exact rfl
theorem mt_of {id : String} {as : List D} {r : V → List V → Hp → VK → Prop} (hr : MtR X id r) (h : ∀ δ σ H ds vs a xs Q, as.length = xs.length → StV X.K B δ ρ σ H (as ++ o :: ds) (xs ++ a :: vs) → PostE X B δ σ ds vs Φ Q → r a xs H Q) : MtP X B id o as ρ Φ := fun δ σ H ds vs a xs Q el st q pins s σ' v us I r1 r2 => hr pins s σ' H a xs v us Q I r1 r2 (h δ σ H ds vs a xs Q el st q)
theorem mt0_of {id : String} {r : V → List V → Hp → VK → Prop} (hr : MtR X id r) (h : ∀ δ σ H ds vs a Q, StV X.K B δ ρ σ H (o :: ds) (a :: vs) → PostE X B δ σ ds vs Φ Q → r a [] H Q) : MtP X B id o [] ρ Φ := mt_of hr fun δ σ H ds vs a xs Q el st q => by
  match xs, el with
  | [], _ => exact h δ σ H ds vs a Q st q
theorem mt1_of {id : String} {r : V → List V → Hp → VK → Prop} (hr : MtR X id r) (h : ∀ δ σ H ds vs a b Q, StV X.K B δ ρ σ H (x :: o :: ds) (b :: a :: vs) → PostE X B δ σ ds vs Φ Q → r a [b] H Q) : MtP X B id o [x] ρ Φ := mt_of hr fun δ σ H ds vs a xs Q el st q => by
  match xs, el with
  | [b], _ => exact h δ σ H ds vs a b Q st q
theorem mt_append' {a : Addr} {xs : List D} {n : Nat} (hk : ρ[n]? = some (a, Own.ol xs)) (hz : xs.length ≤ 100000) (h : Φ .non (ρ.set n (a, .ol (xs ++ [x])))) : MtP X B "list.append" (.obj a) [x] ρ Φ := mt1_of mt_append fun δ σ H ds vs p b Q st q => by
  obtain ⟨S, T, t⟩ := id st
  obtain ⟨ys, e1, e2⟩ := t.own n a _ hk
  refine ⟨a, ys, b, t.tmp.tl.hd, rfl, t.exT n _ _ e1, by rw [← e2.length]; exact Nat.lt_of_le_of_lt hz (by decide), ?_⟩
  refine q _ _ _ _ h (StV.push ⟨S, _, (t.re t.env t.tmp.tl.tl).put hk a (.lst (ys ++ [b])) (by rw [e1]; simp) rfl ⟨_, upd_same, e2.app (.cons t.tmp.hd rfl)⟩⟩ fun _ => rfl)
theorem mt_extend' {a : Addr} {xs zs : List D} {n : Nat} (hk : ρ[n]? = some (a, Own.ol xs)) (hl : LstAt ρ x zs) (hz : xs.length + zs.length ≤ 100000) (h : Φ .non (ρ.set n (a, .ol (xs ++ zs)))) : MtP X B "list.extend" (.obj a) [x] ρ Φ := mt1_of mt_extend fun δ σ H ds vs p b Q st q => by
  obtain ⟨S, T, t⟩ := id st
  obtain ⟨ys, e1, e2⟩ := t.own n a _ hk
  obtain ⟨c, us, d1, d2, d3⟩ := hl.sq t t.tmp.hd
  subst d1
  refine ⟨a, c, ys, us, t.tmp.tl.hd, rfl, t.exT n _ _ e1, d2, by rw [← e2.length, ← d3.length]; exact Nat.le_trans hz (by decide), ?_⟩
  refine q _ _ _ _ h (StV.push ⟨S, _, (t.re t.env t.tmp.tl.tl).put hk a (.lst (ys ++ us)) (by rw [e1]; simp) rfl ⟨_, upd_same, e2.app d3⟩⟩ fun _ => rfl)
theorem mt_pop' {a : Addr} {xs : List D} {d : D} {n : Nat} (hk : ρ[n]? = some (a, Own.ol (xs ++ [d]))) (h : Φ d (ρ.set n (a, .ol xs))) : MtP X B "list.pop" (.obj a) [] ρ Φ := mt0_of mt_pop fun δ σ H ds vs p Q st q => by
  obtain ⟨S, T, t⟩ := id st
  obtain ⟨ys, e1, e2⟩ := t.own n a _ hk
  have hl : ys.length = xs.length + 1 := by rw [← e2.length]; simp
  obtain ⟨z, z1, z2⟩ := e2.at (i := xs.length) (d := d) (by simp)
  have e3 : RepL S xs ys.dropLast := by have := e2.dropLast; rwa [List.dropLast_concat] at this
  refine ⟨a, ys, z, t.tmp.hd, rfl, t.exT n _ _ e1, by rw [hl]; simpa using z1, ?_⟩
  have t1 := (t.re t.env t.tmp.tl).put hk (o' := .ol xs) a (.lst ys.dropLast) (by rw [e1]; simp) rfl ⟨_, upd_same, e3⟩
  exact q _ _ _ _ h ⟨S, _, t1.re t1.env (.cons z2 t1.tmp)⟩
theorem mt_remove' {a : Addr} {ns : List Int} {n : Nat} (hk : ρ[n]? = some (a, Own.ol (ns.map D.int))) (hm : i ∈ ns) (h : Φ .non (ρ.set n (a, .ol ((ns.erase i).map D.int)))) : MtP X B "list.remove" (.obj a) [.int i] ρ Φ := mt1_of mt_remove fun δ σ H ds vs p b Q st q => by
  obtain ⟨S, T, t⟩ := id st
  obtain ⟨ys, e1, e2⟩ := t.own n a _ hk
  rw [(RepL.ints ns).mp e2] at e1
  have eb : b = .int i := t.tmp.hd
  subst eb
  have fst : ∀ {l : List Int}, i ∈ l → ∃ j, l[j]? = some i ∧ (∀ m : Nat, m < j → l[m]? ≠ some i) ∧ l.eraseIdx j = l.erase i := by
    intro l
    induction l with
    | nil => intro h; cases h
    | cons w l ih =>
      intro h
      by_cases e : w = i
      · subst e; exact ⟨0, rfl, fun m hm => absurd hm (Nat.not_lt_zero _), by simp⟩
      · obtain ⟨j, j1, j2, j3⟩ := ih ((List.mem_cons.mp h).resolve_left fun z => e z.symm)
        refine ⟨j + 1, by simpa using j1, fun m hm => ?_, ?_⟩
        · cases m with
          | zero => simpa using e
          | succ m => simpa using j2 m (by omega)
        · rw [List.eraseIdx_cons_succ, j3, List.erase_cons_tail (by simpa using e)]
  obtain ⟨j, j1, j2, j3⟩ := fst hm
  refine ⟨a, ns, i, j, t.tmp.tl.hd, rfl, t.exT n _ _ e1, j1, j2, ?_⟩
  rw [j3]
  exact q _ _ _ _ h (StV.push ⟨S, _, (t.re t.env t.tmp.tl.tl).put hk a (.lst ((ns.erase i).map V.int)) (by rw [e1]; simp) rfl ⟨_, upd_same, (RepL.ints _).mpr rfl⟩⟩ fun _ => rfl)
/-! ### methods of dicts -/
variable {eo ee ef : Expr} {pos apos : Pos}
theorem ev_dget2 (hu : X.A.units + 64 < cLine) (m : M2 X eo "get" apos ee ef pos) (h : EvP X B eo δ ρ fun d ρ1 => (∃ g ks, DctAt ρ1 d g ks) ∧ EvP X B ee δ ρ1 fun y ρ2 => EvP X B ef δ ρ2 fun z ρ3 => ∃ (i : Int) (g : Int → Option D) (ks : List Int), y = .int i ∧ DctAt ρ3 d g ks ∧ Φ ((g i).getD z) ρ3) : EvP X B (.Call (.Attribute eo "get" apos) [ee, ef] [] pos) δ ρ Φ := fun σ H ds vs Q st q =>
  (pe_dget2 (by omega) (pE eo) (pE ee) (pE ef) m).to (h σ H ds vs _ st fun d ρ1 v H1 h1 st1 => by
    obtain ⟨⟨g, ks, hd⟩, h1⟩ := h1
    obtain ⟨S, T, s⟩ := id st1
    obtain ⟨a, kv, e1, e2, _, _⟩ := hd.rd s s.tmp.hd
    refine ⟨a, e1, .inl ⟨kv, e2⟩, h1 σ H1 _ _ _ st1 fun y ρ2 w H2 h2 st2 => h2 σ H2 _ _ _ st2 fun z ρ3 u H3 h3 st3 => ?_⟩
    obtain ⟨i, g, ks, rfl, hd, h4⟩ := h3
    obtain ⟨S, T, s⟩ := id st3
    obtain ⟨a', kv, e3, e4, _, e5⟩ := hd.rd s s.tmp.tl.tl.hd
    rw [e1] at e3; cases e3
    have ew : w = .int i := s.tmp.tl.hd
    subst ew
    refine ⟨_, dget_of e4 i, ?_⟩
    rcases e5 i with ⟨q1, q2⟩ | ⟨d', v', q1, q2, q3⟩
    · rw [q1] at h4; rw [q2]
      exact q _ _ _ _ h4 ⟨S, T, s.re s.env (.cons s.tmp.hd s.tmp.tl.tl.tl)⟩
    · rw [q1] at h4; rw [q2]
      exact q _ _ _ _ h4 ⟨S, T, s.re s.env (.cons q3 s.tmp.tl.tl.tl)⟩)
/-- d.pop(k), there -/
theorem ev_dpop (m : M1 X eo "pop" apos ee pos) (h : EvP X B eo δ ρ fun d ρ1 => (∃ g ks, DctAt ρ1 d g ks) ∧ EvP X B ee δ ρ1 fun y ρ2 => ∃ (i : Int) (n : Nat) (a : Addr) (kvs : List (Int × D)) (v : D), y = .int i ∧ d = .obj a ∧ ρ2[n]? = some (a, Own.od kvs) ∧ aGet kvs i = some v ∧ Φ v (ρ2.set n (a, .od (aDrop kvs i)))) : EvP X B (.Call (.Attribute eo "pop" apos) [ee] [] pos) δ ρ Φ := fun σ H ds vs Q st q =>
  (pe_dpop1 (pE eo) (pE ee) m).to (h σ H ds vs _ st fun d ρ1 v H1 h1 st1 => by
    obtain ⟨⟨g, ks, hd⟩, h1⟩ := h1
    obtain ⟨S, T, s⟩ := id st1
    obtain ⟨a, kv, e1, e2, _, _⟩ := hd.rd s s.tmp.hd
    refine ⟨a, e1, .inl ⟨kv, e2⟩, h1 σ H1 _ _ _ st1 fun y ρ2 w H2 h2 st2 => ?_⟩
    obtain ⟨i, n, a', kvs, v', rfl, rfl, hk, hg, h4⟩ := h2
    obtain ⟨S, T, s⟩ := id st2
    obtain ⟨kv, c1, c2⟩ := s.own n a' _ hk
    have ea : v = .ref a' := s.tmp.tl.hd
    rw [e1] at ea; cases ea
    have ew : w = .int i := s.tmp.hd
    subst ew
    rcases c2.get i with ⟨q1, _⟩ | ⟨d', z, q1, q2, q3⟩
    · rw [q1] at hg; cases hg
    · rw [q1] at hg; cases hg
      refine ⟨kv, Sum.inl i, z, s.exT n _ _ c1, rfl, q2, ?_⟩
      have t1 := (s.re s.env s.tmp.tl.tl).put hk (o' := .od (aDrop kvs i)) a (.dK (dropK kv (Sum.inl i))) (by rw [c1]; simp) rfl ⟨_, upd_same, c2.drop i⟩
      exact q _ _ _ _ h4 ⟨S, _, t1.re t1.env (.cons q3 t1.tmp)⟩)
/-- a box goes, with its slots -/
theorem ev_dpopl (m : M1 X eo "pop" apos ee pos) (h : EvP X B eo δ ρ fun d ρ1 => (∃ g ks, DctAt ρ1 d g ks) ∧ EvP X B ee δ ρ1 fun y ρ2 => ∃ (i : Int) (n : Nat) (a : Addr) (kvs : List (Int × (Addr × List D))) (v : Addr × List D), y = .int i ∧ d = .obj a ∧ ρ2[n]? = some (a, Own.dol kvs) ∧ aGet kvs i = some v ∧ Φ (.obj v.1) (ρ2.set n (a, .dol (aDrop kvs i)))) : EvP X B (.Call (.Attribute eo "pop" apos) [ee] [] pos) δ ρ Φ := fun σ H ds vs Q st q =>
  (pe_dpop1 (pE eo) (pE ee) m).to (h σ H ds vs _ st fun d ρ1 v H1 h1 st1 => by
    obtain ⟨⟨g, ks, hd⟩, h1⟩ := h1
    obtain ⟨S, T, s⟩ := id st1
    obtain ⟨a, kv, e1, e2, _, _⟩ := hd.rd s s.tmp.hd
    refine ⟨a, e1, .inl ⟨kv, e2⟩, h1 σ H1 _ _ _ st1 fun y ρ2 w H2 h2 st2 => ?_⟩
    obtain ⟨i, n, a', kvs, v', rfl, rfl, hk, hg, h4⟩ := h2
    obtain ⟨S, T, s⟩ := id st2
    obtain ⟨⟨kv, c1, c2⟩, c3, c4, c5⟩ := s.own n a' _ hk
    have ea : v = .ref a' := s.tmp.tl.hd
    rw [e1] at ea; cases ea
    have ew : w = .int i := s.tmp.hd
    subst ew
    rcases c2.get i with ⟨q1, _⟩ | ⟨d', z, q1, q2, q3⟩
    · rw [q1] at hg; cases hg
    · rw [q1] at hg; cases hg
      refine ⟨kv, Sum.inl i, z, s.exT n _ _ c1, rfl, q2, ?_⟩
      have t1 := (s.re s.env s.tmp.tl.tl).put hk (o' := .dol (aDrop kvs i)) a (.dK (dropK kv (Sum.inl i))) (by rw [c1]; simp) rfl ⟨⟨_, upd_same, c2.drop i⟩, nodup_drop c3, c4.sublist ((List.filter_sublist).map _), fun w hw => by
        have hw' := (List.mem_filter.mp hw).1
        obtain ⟨us, d1, d2⟩ := c5 w hw'
        exact ⟨us, by rw [upd_ne (fun z => by rw [z, c1] at d1; cases d1)]; exact d1, d2⟩⟩
      exact q _ _ _ _ h4 ⟨S, _, t1.re t1.env (.cons q3 t1.tmp)⟩)
/-! ### slices -/
def cutD (xs : List D) (lo hi : Option Int) : List D := (xs.drop (HT.sIx xs.length 0 lo)).take (HT.sIx xs.length xs.length hi - HT.sIx xs.length 0 lo)
theorem cut_rep {S : Hp} {xs : List D} {vs : List V} (r : RepL S xs vs) (lo hi : Option Int) : RepL S (cutD xs lo hi) (cutV vs lo hi) := by
  unfold cutD cutV
  rw [r.length]
  exact (r.drop _).take _
variable {lo hi : Option Int}
theorem sl_lst {xs : List D} (hl : LstAt ρ x xs) (h : Φ (.lst (cutD xs lo hi)) ρ) : SlP X B x lo hi ρ Φ := fun δ σ H ds vs a Q st q pins s σ' v vl vu sl I r1 r2 r3 r4 => by
  obtain ⟨S, T, t⟩ := id st
  obtain ⟨p, zs, e1, e2, e3⟩ := hl.sq t t.tmp.hd
  refine sl_list pins s σ' H a v vl vu lo hi sl Q I r1 r2 r3 r4 ⟨p, zs, e1, SqL.of e2, fun r hr => ?_⟩
  exact q _ _ _ _ h ⟨_, T, (t.re t.env t.tmp.tl).lay hr ⟨r, _, rfl, upd_same, (cut_rep e3 lo hi).mono ((Ex.refl S).new (t.exS.free hr))⟩⟩
theorem sl_lsto {xs : List D} (hl : LstAt ρ x xs) (h : ∀ p, B.H p = none → Φ (.obj p) ((p, .ol (cutD xs lo hi)) :: ρ)) : SlP X B x lo hi ρ Φ := fun δ σ H ds vs a Q st q pins s σ' v vl vu sl I r1 r2 r3 r4 => by
  obtain ⟨S, T, t⟩ := id st
  obtain ⟨p, zs, e1, e2, e3⟩ := hl.sq t t.tmp.hd
  refine sl_list pins s σ' H a v vl vu lo hi sl Q I r1 r2 r3 r4 ⟨p, zs, e1, SqL.of e2, fun r hr => ?_⟩
  exact q _ _ _ _ (h r (fresh_base t hr)) ⟨S, _, (t.re t.env t.tmp.tl).lay1 hr ⟨_, single_same, cut_rep e3 lo hi⟩⟩
/-- a slice of the script -/
theorem sl_scr {a : Addr} {ns : List Int} {n : Nat} (hk : ρ[n]? = some (a, Own.scr ns)) (h : Φ (.lst (cutD (ns.map D.int) lo hi)) ρ) : SlP X B (.obj a) lo hi ρ Φ := fun δ σ H ds vs p Q st q pins s σ' v vl vu sl I r1 r2 r3 r4 => by
  obtain ⟨S, T, t⟩ := id st
  have hs : SqL X.K (T n) a (ns.map V.int) := t.own n a _ hk
  refine sl_list pins s σ' H p v vl vu lo hi sl Q I r1 r2 r3 r4 ⟨a, ns.map V.int, t.tmp.hd, (t.exT n).sql hs, fun r hr => ?_⟩
  exact q _ _ _ _ h ⟨_, T, (t.re t.env t.tmp.tl).lay hr ⟨r, _, rfl, upd_same, cut_rep ((RepL.ints ns).mpr rfl) lo hi⟩⟩
theorem sl_tpl {xs : List D} (hw : ¬ (HT.sIx xs.length 0 lo = 0 ∧ HT.sIx xs.length xs.length hi = xs.length)) (h : Φ (.tup (cutD xs lo hi)) ρ) : SlP X B (.tup xs) lo hi ρ Φ := fun δ σ H ds vs a Q st q pins s σ' v vl vu sl I r1 r2 r3 r4 => by
  obtain ⟨S, T, t⟩ := id st
  obtain ⟨p, zs, e1, e2, e3⟩ := t.tmp.hd
  refine sl_tup pins s σ' H a v vl vu lo hi sl Q I r1 r2 r3 r4 ⟨p, zs, e1, SqT.of (t.exS _ _ e2), by rw [← e3.length]; exact hw, fun r hr => ?_⟩
  exact q _ _ _ _ h ⟨_, T, (t.re t.env t.tmp.tl).lay hr ⟨r, _, rfl, upd_same, (cut_rep e3 lo hi).mono ((Ex.refl S).new (t.exS.free hr))⟩⟩
theorem sl_txt {z : Str} (hz : z.length ≤ sizeLine) (h : Φ (.str (cutS z lo hi)) ρ) : SlP X B (.str z) lo hi ρ Φ := fun δ σ H ds vs a Q st q pins s σ' v vl vu sl I r1 r2 r3 r4 => by
  obtain ⟨S, T, t⟩ := id st
  exact sl_str pins s σ' H a v vl vu lo hi sl Q I r1 r2 r3 r4 ⟨z, t.tmp.hd, hz, q _ _ _ _ h (st.pop.push fun _ => rfl)⟩
/-! ### the script -/
theorem cl_lenX {a : Addr} {ns : List Int} {n : Nat} (hk : ρ[n]? = some (a, Own.scr ns)) (h : Φ (.int ns.length) ρ) : ClP X B (.builtin "len") [.obj a] ρ Φ := cl1_of call_len_seq fun δ σ H ds vs p Q st q => by
  obtain ⟨S, T, s⟩ := id st
  have hs : SqL X.K (T n) a (ns.map V.int) := s.own n a _ hk
  refine ⟨a, ns.map V.int, by rw [show p = V.ref a from s.tmp.hd], .inl ((s.exT n).sql hs), ?_⟩
  rw [List.length_map]
  exact q _ _ _ _ h (st.pop.push fun _ => rfl)
theorem ix_scr {a : Addr} {ns : List Int} {n : Nat} (hk : ρ[n]? = some (a, Own.scr ns)) (ha : atI ns i = some j) (h : Φ (.int j) ρ) : IxP X B (.obj a) (.int i) ρ Φ := ix_of ix_list fun δ σ H ds vs p b Q st q => by
  obtain ⟨S, T, s⟩ := id st
  have hs : SqL X.K (T n) a (ns.map V.int) := s.own n a _ hk
  exact ⟨a, ns.map V.int, i, .int j, s.tmp.tl.hd, s.tmp.hd, (s.exT n).sql hs, by rw [atI_map, ha]; rfl, q _ _ _ _ h (st.pop.pop.push fun _ => rfl)⟩
/-! ### isinstance -/
def TyD (ρ : Rs) : D → String → Prop
  | .non, t => t = "NoneType"
  | .bl _, t => t = "bool"
  | .int _, t => t = "int"
  | .str _, t => t = "str"
  | .tup _, t => t = "tuple"
  | .lst _, t => t = "list"
  | .obj a, t => t = "list" ∧ ∃ (k : Nat) (xs : List D), ρ[k]? = some (a, Own.ol xs)
  | .ty _, _ => False
theorem cl_isi {t u : String} {b : Bool} (ht : TyD ρ x t) (hb : kitB t u = some b) (h : Φ (.bl b) ρ) : ClP X B (.builtin "isinstance") [x, .ty u] ρ Φ := cl2_of call_isi fun δ σ H ds vs a c Q st q => by
  obtain ⟨S, T, s⟩ := id st
  have ec : c = .ty u := s.tmp.tl.hd
  subst ec
  have ty : TyOf X.K H a (.type t) := by
    have r := s.tmp.hd
    cases x with
    | non => have e : a = _ := r; have e2 : t = _ := ht; subst e e2; exact .non
    | bl b => have e : a = _ := r; have e2 : t = _ := ht; subst e e2; exact .bl b
    | int b => have e : a = _ := r; have e2 : t = _ := ht; subst e e2; exact .int b
    | str b => have e : a = _ := r; have e2 : t = _ := ht; subst e e2; exact .str b
    | tup b =>
      obtain ⟨p, xs, e1, e2, e3⟩ := r
      have e4 : t = _ := ht
      subst e1 e4
      exact .tup (s.exS _ _ e2)
    | lst b =>
      obtain ⟨p, xs, e1, e2, e3⟩ := r
      have e4 : t = _ := ht
      subst e1 e4
      exact .lst (s.exS _ _ e2)
    | obj p =>
      obtain ⟨e4, k, xs, hk⟩ := ht
      have e : a = _ := r
      subst e e4
      obtain ⟨ys, e1, e2⟩ := s.own k p _ hk
      exact .lst (s.exT k _ _ e1)
    | ty _ => exact ht.elim
  exact ⟨a, .ty u, .type t, .type u, b, rfl, .ty u, .base ty, kit_ty hb, q _ _ _ _ h (st.pop.pop.push fun _ => rfl)⟩
/-! ### an owned list becomes stable -/
theorem Sta.freeze {K : PySem.W.Frag} {σ : L2.St} {H : Hp} {ds : List D} {vs : List V} {S : Hp} {T : Nat → Hp} {a : Addr} {xs : List D} (t : Sta K B δ ((a, .ol xs) :: ρ) σ H ds vs S T) (hb : B.H a = none) : ∃ S' T' ys, Sta K B δ ρ σ H ds vs S' T' ∧ S' a = some (.lst ys) ∧ RepL S' xs ys ∧ Ex S S' := by
  obtain ⟨ys, e1, e2⟩ := t.own 0 a _ rfl
  have sa : S a = none := t.dS 0 a (by rw [e1]; simp)
  have e : Ex S (upd S a (.lst ys)) := (Ex.refl S).new sa
  have ta : ∀ k, T (k + 1) a = none := fun k => t.dT 0 _ a (by omega) (by rw [e1]; simp)
  refine ⟨upd S a (.lst ys), fun k => T (k + 1), ys, ⟨fun b w h => ?_, fun k => t.exT _, fun k b h => ?_, fun i j b n h => t.dT _ _ b (by omega) h, fun k c w q => (t.own (k + 1) c w (by simpa using q)).mono e (Ex.refl _), t.env.mono e, t.tmp.mono e, t.bS.trans e, fun b w h1 h2 => ⟨(t.bF b w h1 h2).1, fun k => (t.bF b w h1 h2).2 _⟩, fun b h1 h2 => ?_, t.bH⟩, upd_same, e2.mono e, e⟩
  · by_cases z : b = a
    · subst z; rw [upd_same] at h; cases h; exact t.exT 0 _ _ e1
    · rw [upd_ne z] at h; exact t.exS b w h
  · have : b ≠ a := fun z => by subst z; exact h (ta k)
    rw [upd_ne this]; exact t.dS _ b h
  · have : b ≠ a := fun z => by subst z; exact h1 hb
    rw [upd_ne this]; exact t.bN b h1 h2
/-- the list at the head of what is owned, in slot i, is changed no more -/
theorem sts_freeze {a : Addr} {xs : List D} {n : Nat} {sts : List Stmt} {K : EK} (hb : B.H a = none) (hi : δ[n]? = some (some (.obj a))) (h : StPs X B sts (δ.set n (some (.lst xs))) ρ K) : StPs X B sts δ ((a, .ol xs) :: ρ) K := fun σ H ds vs Dn s l => by
  obtain ⟨S, T, t⟩ := s
  obtain ⟨S', T', ys, t', e1, e2, e⟩ := t.freeze hb
  refine h σ H ds vs Dn ⟨S', T', t'.re ?_ t'.tmp⟩ l
  obtain ⟨v, v1, v2⟩ := t'.env.2 n _ hi
  have ev : v = .ref a := v2
  subst ev
  have := t'.env.set (i := n) (d := .lst xs) (v := .ref a) ⟨a, ys, rfl, e1, e2⟩
  have es : σ.set n (some (V.ref a)) = σ := by
    have hl := (List.getElem?_eq_some_iff.mp v1).1
    apply List.ext_getElem?
    intro m
    by_cases hm : n = m
    · subst hm; rw [List.getElem?_set_self hl, v1]
    · rw [List.getElem?_set_ne hm]
  rwa [es] at this
/-- an owned list is handed back -/
theorem st_retl {e : Expr} {K : EK} {pos : Pos} (h : EvP X B e δ ρ fun d ρ1 => ∃ (a : Addr) (xs : List D) (ρ2 : Rs), d = .obj a ∧ ρ1 = (a, .ol xs) :: ρ2 ∧ B.H a = none ∧ K.rt (.lst xs) ρ2) : StP X B (.Return (some e) pos) δ ρ K := fun σ H ds vs Dn s l =>
  (ps_ret (pE e)).to (h σ H ds vs _ s fun d ρ1 v H1 h1 s1 => by
    obtain ⟨a, xs, ρ2, rfl, rfl, hb, h2⟩ := h1
    obtain ⟨S, T, t⟩ := s1.one
    obtain ⟨S', T', ys, t', e1, e2, e⟩ := t.freeze hb
    have ev : v = .ref a := t.tmp.hd
    subst ev
    exact l.rt _ _ _ H1 h2 ⟨S', T', t'.re .nil (.cons ⟨a, ys, rfl, e1, e2⟩ rfl)⟩)
theorem ev_frz {e : Expr} (h : EvP X B e δ ρ fun d ρ1 => ∃ (a : Addr) (xs : List D) (ρ2 : Rs), d = .obj a ∧ ρ1 = (a, .ol xs) :: ρ2 ∧ B.H a = none ∧ Φ (.lst xs) ρ2) : EvP X B e δ ρ Φ := fun σ H ds vs Q s q =>
  h σ H ds vs Q s fun d ρ1 v H1 h1 s1 => by
    obtain ⟨a, xs, ρ2, rfl, rfl, hb, h2⟩ := h1
    obtain ⟨S, T, t⟩ := id s1
    obtain ⟨S', T', ys, t', e1, e2, e⟩ := t.freeze hb
    have ev : v = .ref a := t.tmp.hd
    subst ev
    exact q _ _ _ _ h2 ⟨S', T', t'.re t'.env (.cons ⟨a, ys, rfl, e1, e2⟩ t'.tmp.tl)⟩
end
end Lw

set_option maxHeartbeats 1000000
/-! Comprehensions, bundles opened and closed, walks of a dict. -/
namespace Lw
open PySem PySem.Spec PyProof.Rows L2
/-! ### comprehensions -/
def wipeD (δ : Dl) : List Nat → Dl
  | [] => δ
  | v :: vs => (wipeD δ vs).set v none
theorem EnvD.unset {S : Hp} {δ : Dl} {σ : L2.St} (h : EnvD S δ σ) (i : Nat) : EnvD S (δ.set i none) (σ.set i none) := by
  refine ⟨by simp [h.1], fun j d q => ?_⟩
  by_cases e : i = j
  · subst e
    have hi : i < δ.length := by simpa using (List.getElem?_eq_some_iff.mp q).1
    rw [List.getElem?_set_self hi] at q; simp at q
  · rw [List.getElem?_set_ne e] at q ⊢; exact h.2 j d q
theorem EnvD.wipe {S : Hp} {δ : Dl} {σ : L2.St} (h : EnvD S δ σ) : ∀ vs : List Nat, EnvD S (wipeD δ vs) (L2.wipe σ vs)
  | [] => h
  | v :: vs => (EnvD.wipe h vs).unset v
/-- the slots' values as temporaries, and back -/
theorem env_tmps {S : Hp} : ∀ {δ : Dl} {σ : L2.St}, EnvD S δ σ → ∃ es ws, RepL S es ws ∧ ∀ S', RepL S' es ws → EnvD S' δ σ
  | [], σ, h => by
    have : σ = [] := List.length_eq_zero_iff.mp h.1.symm
    subst this
    exact ⟨[], [], rfl, fun _ _ => .nil⟩
  | o :: δ, [], h => absurd h.1 (by simp)
  | o :: δ, u :: σ, h => by
    have h' : EnvD S δ σ := ⟨by have := h.1; simpa using this, fun i d q => by simpa using h.2 (i + 1) d (by simpa using q)⟩
    obtain ⟨es, ws, r, back⟩ := env_tmps h'
    cases o with
    | none =>
      refine ⟨es, ws, r, fun S' q => ⟨by simp [(back S' q).1], fun i d z => ?_⟩⟩
      cases i with
      | zero => simp at z
      | succ i => simpa using (back S' q).2 i d (by simpa using z)
    | some d0 =>
      obtain ⟨v, h1, h2⟩ := h.2 0 d0 rfl
      simp at h1; subst h1
      refine ⟨d0 :: es, v :: ws, .cons h2 r, fun S' q => ⟨by simp [(back S' q.tl).1], fun i d z => ?_⟩⟩
      cases i with
      | zero => simp at z; subst z; exact ⟨v, rfl, q.hd⟩
      | succ i => simpa using (back S' q.tl).2 i d (by simpa using z)
/-- tests of a clause -/
def tTs (X : Cx) (ifs : List Expr) : TT := fun σ H Q => ∀ (pins : List (Addr × Obj)) (s : Shared), Inv X pins σ H s → wpAny (model X.prog X.w) X.A (forIn ifs true fun c r => if r = true then do let ok ← isTrue c X.env (eval c X.env); pure (ForInStep.yield ok) else pure (ForInStep.yield r)) (TP X pins σ Q) X.xe s
theorem pTs {X : Cx} (ifs : List Expr) : PTs X ifs (tTs X ifs) := ⟨fun pins s σ H Q I h => h pins s I⟩
def TssP (X : Cx) (B : Base) (ifs : List Expr) (δ : Dl) (ρ : Rs) (Φ : Bool → Rs → Prop) : Prop := ∀ σ H ds vs Q, StV X.K B δ ρ σ H ds vs → PostT X B δ σ ds vs Φ Q → tTs X ifs σ H Q
section
variable {X : Cx} {B : Base} {W : WX} {Ψ : Addr → Dl → Rs → Prop} {k : Nat} {δ : Dl} {ρ : Rs} {Φ : D → Rs → Prop} {pos : Pos} {elt tg iter : Expr} {ifs : List Expr} {scope : Scope} {own : List (Str × Nat)}
theorem tss_nil {Φ : Bool → Rs → Prop} (h : Φ true ρ) : TssP X B [] δ ρ Φ := fun σ H ds vs Q st q pins s I => pts_nil.run pins s σ H Q I (q true ρ H h st)
theorem tss_one {c : Expr} {Φ : Bool → Rs → Prop} (h : TsP X B c δ ρ Φ) : TssP X B [c] δ ρ Φ := fun σ H ds vs Q st q pins s I => (pts_one (pT c)).run pins s σ H Q I (h σ H ds vs Q st q)
abbrev Blk (X : Cx) (scope : Scope) (s : Shared) (H : Hp) (C : Addr) (cl : List (Str × Addr)) (fp : List Addr) : Cx := X.blk s H scope (compEnvC scope cl C X.env) fp
theorem CxOk.blk (c : CxOk X B W Ψ k) (s : Shared) (H : Hp) (C : Addr) (cl : List (Str × Addr)) (fp : List Addr) : CxOk (Blk X scope s H C cl fp) B (fun _ _ _ _ => False) (fun _ _ _ => False) k :=
  ⟨c.calm, takes0, PassesOwn.never, fun _ _ _ _ _ _ _ h => h.elim, c.room, c.nd⟩
def tEb (X : Cx) (scope : Scope) (e : Expr) : TE := fun σ H Q => ∀ (s : Shared) (H0 : Hp) (C : Addr) (cl : List (Str × Addr)) (fp : List Addr), tE (Blk X scope s H0 C cl fp) e σ H Q
def tTb (X : Cx) (scope : Scope) (ifs : List Expr) : TT := fun σ H Q => ∀ (s : Shared) (H0 : Hp) (C : Addr) (cl : List (Str × Addr)) (fp : List Addr), tTs (Blk X scope s H0 C cl fp) ifs σ H Q
/-- the target of a clause: the slots that it sets, how -/
structure Tgt (X : Cx) (scope : Scope) (tg : Expr) (g : TG) (vs : List Nat) (f : D → Dl → Dl → Prop) : Prop where
  pg : ∀ (s : Shared) (H : Hp) (C : Addr) (cl : List (Str × Addr)) (fp : List Addr), PG (Blk X scope s H C cl fp) tg g
  go : ∀ {S : Hp} {T : Nat → Hp} {B : Base} {δ δ' : Dl} {ρ : Rs} {σ : L2.St} {H : Hp} {ds : List D} {ws : List V} {x : D} {v : V} {Q : L2.St → Hp → Prop}, f x (wipeD δ vs) δ' → Sta X.K B δ ρ σ H ds ws S T → Rep S x v → (∀ σ', EnvD S δ' σ' → L2.wipe σ' vs = L2.wipe σ vs → Q σ' H) → g v (L2.wipe σ vs) H Q
theorem tgt_name {i : Nat} (pg : ∀ (s : Shared) (H : Hp) (C : Addr) (cl : List (Str × Addr)) (fp : List Addr), PG (Blk X scope s H C cl fp) tg (gName i)) : Tgt X scope tg (gName i) [i] (fun x δ δ' => δ' = δ.set i (some x)) where
  pg := pg
  go := fun e s r q => by
    subst e
    refine q _ ((s.env.wipe _).set r) ?_
    show (((L2.wipe _ []).set i none).set i (some _)).set i none = (L2.wipe _ []).set i none
    rw [List.set_set, List.set_set]
theorem tgt_two {i j : Nat} (hij : i ≠ j) (pg : ∀ (s : Shared) (H : Hp) (C : Addr) (cl : List (Str × Addr)) (fp : List Addr), PG (Blk X scope s H C cl fp) tg (gTup X.K 2 (gCons (gName i) (gCons (gName j) gNil)))) : Tgt X scope tg (gTup X.K 2 (gCons (gName i) (gCons (gName j) gNil))) [i, j] (fun x δ δ' => ∃ a b, x = .tup [a, b] ∧ δ' = (δ.set i (some a)).set j (some b)) where
  pg := pg
  go := fun {S T B δ δ' ρ σ H ds ws x v Q} e s r q => by
    obtain ⟨a, b, rfl, rfl⟩ := e
    obtain ⟨p, xs, rfl, e2, u, us, rfl, r1, w, ws', rfl, r2, e3⟩ := r
    have e3' : ws' = [] := e3
    subst e3'
    refine ⟨p, [u, w], rfl, SqT.of (s.exS _ _ e2), rfl, u, [w], rfl, w, [], rfl, rfl, ?_⟩
    refine q _ (((s.env.wipe _).set r1).set r2) ?_
    show (((((σ.set j none).set i none).set i (some u)).set j (some w)).set j none).set i none = (σ.set j none).set i none
    rw [List.set_set, List.set_set, List.set_comm _ _ (fun z => hij z.symm : j ≠ i), List.set_set, List.set_comm _ _ hij, List.set_set, List.set_comm _ _ (fun z => hij z.symm : j ≠ i)]
/-- the loop of a comprehension over data; d: what is walked -/
theorem lc_loop {J : It} {n : Nat} {item : Nat → D} {g : TG} {vs : List Nat} {f : D → Dl → Dl → Prop} {σ : L2.St} {H1 : Hp} {ds : List D} {ws : List V} {Q : VK} (tgt : Tgt X scope tg g vs f) (I : Nat → List D → Rs → Prop)
    (hJ : ∀ m acc ρ H p, I m acc ρ → StV X.K B δ ((p, .ol acc) :: ρ) σ H ds ws → (n ≤ m → J.stop m H) ∧ (m < n → J.go m H ∧ ∀ x H', J.yld m H x H' → H' = H ∧ StV X.K B δ ((p, .ol acc) :: ρ) σ H (item m :: ds) (x :: ws)))
    (h0 : I 0 [] ρ) (st : StV X.K B δ ρ σ H1 ds ws)
    (hb : ∀ m acc ρ p, m < n → I m acc ρ → ∃ δ', f (item m) (wipeD δ vs) δ' ∧ ∀ (s : Shared) (H0 : Hp) (C : Addr) (cl : List (Str × Addr)) (fp : List Addr), TssP (Blk X scope s H0 C cl fp) B ifs δ' ((p, .ol acc) :: ρ) fun b ρ2 =>
      (b = true → ∀ (s : Shared) (H0 : Hp) (C : Addr) (cl : List (Str × Addr)) (fp : List Addr), EvP (Blk X scope s H0 C cl fp) B elt δ' ρ2 fun y ρ3 => ∃ ρ4, ρ3 = (p, .ol acc) :: ρ4 ∧ acc.length ≤ 100000 ∧ I (m + 1) (acc ++ [y]) ρ4) ∧ (b = false → ∃ ρ4, ρ2 = (p, .ol acc) :: ρ4 ∧ I (m + 1) acc ρ4))
    (hd : ∀ acc ρ p, I n acc ρ → B.H p = none → Φ (.obj p) ((p, .ol acc) :: ρ)) (q : PostE X B δ σ ds ws Φ Q) :
    ∀ D, H1 D = none → ∃ W : Nat → Nat → Hp → Prop, (∃ m, W 0 m (upd H1 D (.lst []))) ∧ ∀ i m H, W i m H →
      (J.stop i H ∧ Q (.ref D) H) ∨ (J.go i H ∧ ∃ Nx : Hp → Prop, (∀ H', Nx H' → ∃ m', m' < m ∧ W (i + 1) m' H') ∧ ∀ x H', J.yld i H x H' → g x (L2.wipe σ vs) H' fun σ2 H2 => L2.wipe σ2 vs = L2.wipe σ vs ∧ tTb X scope ifs σ2 H2 fun b H3 =>
        if b = true then tEb X scope elt σ2 H3 fun y H4 => ∃ acc, H4 D = some (.lst acc) ∧ acc.length < sizeLine ∧ Nx (upd H4 D (.lst (acc ++ [y]))) else Nx H3) := by
  intro p hp
  obtain ⟨st1, hbp⟩ := st.lay1 (u := .lst []) (o := .ol []) hp fun S r => ⟨[], single_same, rfl⟩
  refine ⟨fun i m H => m = n - i ∧ i ≤ n ∧ ∃ acc ρ, I i acc ρ ∧ StV X.K B δ ((p, .ol acc) :: ρ) σ H ds ws, ⟨_, rfl, Nat.zero_le _, [], ρ, h0, st1.pop⟩, ?_⟩
  rintro i m H ⟨rfl, hi, acc, ρ', hI, s⟩
  by_cases hlt : i < n
  · obtain ⟨g1, g2⟩ := (hJ i acc ρ' H p hI s).2 hlt
    refine .inr ⟨g1, fun H => ∃ acc ρ, I (i + 1) acc ρ ∧ StV X.K B δ ((p, .ol acc) :: ρ) σ H ds ws, fun H' ⟨acc, ρ, a, b⟩ => ⟨n - (i + 1), by omega, rfl, hlt, acc, ρ, a, b⟩, fun x H' hy => ?_⟩
    obtain ⟨rfl, s2⟩ := g2 x H' hy
    obtain ⟨δ', hf, ht⟩ := hb i acc ρ' p hlt hI
    obtain ⟨S, T, t⟩ := s2
    obtain ⟨es, es', r, back⟩ := env_tmps t.env
    refine tgt.go hf (t.re t.env t.tmp.tl) t.tmp.hd fun σ' e' ew => ⟨ew, ?_⟩
    have t2 : StV X.K B δ' ((p, .ol acc) :: ρ') σ' H' (es ++ ds) (es' ++ ws) := ⟨S, T, t.re e' (r.app t.tmp.tl)⟩
    have reb : ∀ {ρ H ds0 vs0}, ds0.length = vs0.length → StV X.K B δ' ρ σ' H (ds0 ++ (es ++ ds)) (vs0 ++ (es' ++ ws)) → StV X.K B δ ρ σ H (ds0 ++ ds) (vs0 ++ ws) := fun {ρ H ds0 vs0} hl ⟨S, T, u⟩ => by
      obtain ⟨a1, a2, e1, r1, r2⟩ := RepL.split u.tmp
      obtain ⟨q1, q2⟩ := List.append_inj e1 (by rw [← hl, r1.length])
      subst q1 q2
      obtain ⟨b1, b2, e2, r3, r4⟩ := RepL.split r2
      obtain ⟨q3, q4⟩ := List.append_inj e2 (by rw [← r.length, r3.length])
      subst q3 q4
      exact ⟨S, T, u.re (back S r3) (r1.app r4)⟩
    intro s0 H0 C cl fp
    refine ht s0 H0 C cl fp σ' H' _ _ _ t2 fun b ρ2 H3 h3 s3 => ?_
    cases b with
    | true =>
      show tEb X scope elt σ' H3 _
      intro s0 H0 C cl fp
      refine h3.1 rfl s0 H0 C cl fp σ' H3 _ _ _ s3 fun y ρ3 v H4 h4 s4 => ?_
      obtain ⟨ρ4, rfl, hz, h5⟩ := h4
      have s5 := reb (ds0 := [y]) (vs0 := [v]) rfl s4
      obtain ⟨S, T, u⟩ := id s5
      obtain ⟨ys, e1, e2⟩ := u.own 0 p _ rfl
      refine ⟨ys, u.exT 0 _ _ e1, by rw [← e2.length]; exact Nat.lt_of_le_of_lt hz (by decide), acc ++ [y], ρ4, h5, ?_⟩
      exact ⟨S, _, (u.re u.env u.tmp.tl).put (k := 0) rfl (o' := .ol (acc ++ [y])) p (.lst (ys ++ [v])) (by rw [e1]; simp) rfl ⟨_, upd_same, e2.app (.cons u.tmp.hd rfl)⟩⟩
    | false =>
      obtain ⟨ρ4, rfl, h5⟩ := h3.2 rfl
      exact ⟨acc, ρ4, h5, reb (ds0 := []) (vs0 := []) rfl s3⟩
  · have e : i = n := by omega
    subst e
    exact .inl ⟨(hJ i acc ρ' H p hI s).1 (Nat.le_refl _), q _ _ _ _ (hd acc ρ' p hI hbp) (s.push fun _ => rfl)⟩
/-- what a comprehension's body must show -/
def LcBody (X : Cx) (B : Base) (scope : Scope) (ifs : List Expr) (elt : Expr) (vs : List Nat) (f : D → Dl → Dl → Prop) (δ : Dl) (I : Nat → List D → Rs → Prop) (m : Nat) (x : D) : Prop :=
  ∀ acc ρ p, I m acc ρ → ∃ δ', f x (wipeD δ vs) δ' ∧ ∀ (s : Shared) (H0 : Hp) (C : Addr) (cl : List (Str × Addr)) (fp : List Addr), TssP (Blk X scope s H0 C cl fp) B ifs δ' ((p, .ol acc) :: ρ) fun b ρ2 =>
      (b = true → ∀ (s : Shared) (H0 : Hp) (C : Addr) (cl : List (Str × Addr)) (fp : List Addr), EvP (Blk X scope s H0 C cl fp) B elt δ' ρ2 fun y ρ3 => ∃ ρ4, ρ3 = (p, .ol acc) :: ρ4 ∧ acc.length ≤ 100000 ∧ I (m + 1) (acc ++ [y]) ρ4) ∧ (b = false → ∃ ρ4, ρ2 = (p, .ol acc) :: ρ4 ∧ I (m + 1) acc ρ4)
theorem LstAt.cons {ρ : Rs} {d : D} {xs : List D} (h : LstAt ρ d xs) (r : Addr × Own) : LstAt (r :: ρ) d xs := by
  rcases h with h | ⟨k, a, h1, h2 | ⟨j, p, kvs, h2, h3⟩⟩
  · exact Or.inl h
  · exact Or.inr ⟨k + 1, a, h1, Or.inl (by simpa using h2)⟩
  · exact Or.inr ⟨k + 1, a, h1, Or.inr ⟨j + 1, p, kvs, by simpa using h2, h3⟩⟩
theorem it_list {d : D} {xs : List D} {σ : L2.St} {ds : List D} {ws : List V} {a : Addr} {ρ : Rs} {H : Hp} (hl : LstAt ρ d xs) (s : StV X.K B δ ρ σ H (d :: ds) (.ref a :: ws)) (m : Nat) :
    (xs.length ≤ m → (Itl X.K a).stop m H) ∧ (m < xs.length → (Itl X.K a).go m H ∧ ∀ x H', (Itl X.K a).yld m H x H' → H' = H ∧ StV X.K B δ ρ σ H ((xs.getD m .non) :: d :: ds) (x :: .ref a :: ws)) := by
  obtain ⟨S, T, t⟩ := id s
  obtain ⟨p, zs, e1, e2, e3⟩ := hl.sq t t.tmp.hd
  cases e1
  refine ⟨fun h => ⟨zs, SqL.of e2, by rw [← e3.length]; exact h⟩, fun h => ⟨⟨zs, zs[m]'(by rw [← e3.length]; exact h), SqL.of e2, List.getElem?_eq_getElem _⟩, fun x H' hy => ?_⟩⟩
  obtain ⟨eH, hy⟩ := hy
  obtain ⟨d', h1, h2⟩ := e3.at' (hy zs (SqL.of e2))
  refine ⟨eH, S, T, t.re t.env (.cons ?_ t.tmp)⟩
  rw [List.getD_eq_getElem?_getD, h1]; exact h2
/-- [elt for target in a list if ..]: a list of our own -/
theorem ev_lcL {g : TG} {vs : List Nat} {f : D → Dl → Dl → Prop} (c : CxOk X B W Ψ k) (ok : BlkOk X.N X.env.scope scope own) (hv : own.map (·.2) = vs) (tgt : Tgt X scope tg g vs f) (hs : ∀ x, foldedSetIterable iter X.env x = pure x)
    (h : EvP X B iter δ ρ fun d ρ1 => ∃ xs, LstAt ρ1 d xs ∧ ∃ I : Nat → List D → Rs → Prop, I 0 [] ρ1 ∧ (∀ i acc ρ, I i acc ρ → LstAt ρ d xs) ∧
      (∀ m x, xs[m]? = some x → LcBody X B scope ifs elt vs f δ I m x) ∧ (∀ acc ρ p, I xs.length acc ρ → B.H p = none → Φ (.obj p) ((p, .ol acc) :: ρ))) : EvP X B (.ListComp elt [⟨tg, iter, ifs, 0⟩] scope pos) δ ρ Φ := fun σ H ds ws Q st q => by
  subst hv
  refine (pe_lc (g := g) (tt := tTb X scope ifs) (te := tEb X scope elt) c.calm c.nd (pi_list (pE iter)) ok tgt.pg (fun s H C cl fp => ⟨fun pins s' σ H Q I h => h s _ C cl fp pins s' I⟩) (fun s H C cl fp => ⟨fun pins s' σ H Q I h => h s _ C cl fp pins s' I⟩) hs).to ?_
  refine h σ H ds ws _ st fun d ρ1 v H1 h1 s1 => ?_
  obtain ⟨xs, hl, I, h0, hst, hb, hd⟩ := h1
  obtain ⟨S, T, t⟩ := id s1
  obtain ⟨a, ys, e1, e2, e3⟩ := hl.sq t t.tmp.hd
  subst e1
  refine ⟨a, rfl, ⟨ys, SqL.of e2⟩, lc_loop (n := xs.length) (item := fun m => xs.getD m .non) tgt I (fun m acc ρ H p hI s => it_list ((hst m acc ρ hI).cons _) s m) h0 s1 (fun m acc ρ p hm hI => ?_) hd fun d ρ' v H' h2 s2 => ?_⟩
  · refine hb m _ ?_ acc ρ p hI
    rw [List.getD_eq_getElem?_getD, List.getElem?_eq_getElem hm]; rfl
  · obtain ⟨S, T, t⟩ := s2
    exact q d ρ' v H' h2 ⟨S, T, t.re t.env (.cons t.tmp.hd t.tmp.tl.tl)⟩
/-- [elt for target in range(n) if ..] -/
theorem ev_lcR {a : Expr} {p ps : Pos} {g : TG} {vs : List Nat} {f : D → Dl → Dl → Prop} (c : CxOk X B W Ψ k) (ok : BlkOk X.N X.env.scope scope own) (hv : own.map (·.2) = vs) (tgt : Tgt X scope tg g vs f) (hg : Gl X "range") (hm : X.mg "range" = none) (hs : starEach [a] X.env = [(false, eval a X.env)]) (hf : ∀ x, foldedSetIterable (.Call (.Name "range" p) [a] [] ps) X.env x = pure x)
    (h : EvP X B a δ ρ fun d ρ1 => ∃ j : Int, d = .int j ∧ -(2 ^ 62) ≤ j ∧ j < 2 ^ 62 ∧ ∃ I : Nat → List D → Rs → Prop, I 0 [] ρ1 ∧
      (∀ m : Nat, m < j.toNat → LcBody X B scope ifs elt vs f δ I m (.int m)) ∧ (∀ acc ρ p, I j.toNat acc ρ → B.H p = none → Φ (.obj p) ((p, .ol acc) :: ρ))) : EvP X B (.ListComp elt [⟨tg, .Call (.Name "range" p) [a] [] ps, ifs, 0⟩] scope pos) δ ρ Φ := fun σ H ds ws Q st q => by
  subst hv
  refine (pe_lc (g := g) (tt := tTb X scope ifs) (te := tEb X scope elt) c.calm c.nd (pi_range1 hg hm (pa_cons (pE a) pa_nil hs) hs) ok tgt.pg (fun s H C cl fp => ⟨fun pins s' σ H Q I h => h s _ C cl fp pins s' I⟩) (fun s H C cl fp => ⟨fun pins s' σ H Q I h => h s _ C cl fp pins s' I⟩) hf).to ?_
  refine h σ H ds ws _ st fun d ρ1 v H1 h1 s1 => ?_
  obtain ⟨j, rfl, q1, q2, I, h0, hb, hd⟩ := h1
  obtain ⟨S, T, t⟩ := id s1
  refine ⟨j, by rw [show v = V.int j from t.tmp.hd], q1, q2, lc_loop (n := j.toNat) (item := fun m => .int m) tgt I (fun m acc ρ H p hI s => ⟨fun h => h, fun h => ⟨h, fun x H' hy => ?_⟩⟩) h0 s1.pop (fun m acc ρ p hm hI => hb m hm acc ρ p hI) hd q⟩
  obtain ⟨e1, e2⟩ := hy
  subst e2
  refine ⟨e1, s.push fun _ => ?_⟩
  show V.int (0 + (m : Int)) = V.int m
  rw [Int.zero_add]
/-! ### bundles -/
section
variable {K : PySem.W.Frag} {S T : Hp} {a : Addr}
theorem bas_own : ∀ {o : Own}, (∀ C c, o ≠ .chest C c) → (∀ c, o ≠ .world c) → (∀ c, o ≠ .view c) → (BasAt K S T a o ↔ OwnAt K S T a o)
  | .emp, _, _, _ => Iff.rfl
  | .ol _, _, _, _ => Iff.rfl
  | .od _, _, _, _ => Iff.rfl
  | .odF _, _, _, _ => Iff.rfl
  | .dol _, _, _, _ => Iff.rfl
  | .dolF _, _, _, _ => Iff.rfl
  | .ins _ _, _, _, _ => Iff.rfl
  | .scr _, _, _, _ => Iff.rfl
  | .chest C c, h, _, _ => absurd rfl (h C c)
  | .world c, _, h, _ => absurd rfl (h c)
  | .view c, _, _, h => absurd rfl (h c)
theorem four_plain {d1 d2 d3 d4 : Addr} {kvs : List (Int × (Addr × List D))} {c : CS} {r : Addr × Own} (hr : ∀ S T, BasAt K S T r.1 r.2 ↔ OwnAt K S T r.1 r.2) : ∀ x ∈ r :: four d1 d2 d3 d4 kvs c, ∀ S T, BasAt K S T x.1 x.2 ↔ OwnAt K S T x.1 x.2 := fun x hx S T => by
  unfold four at hx
  simp only [List.mem_cons, List.not_mem_nil, or_false] at hx
  rcases hx with rfl | rfl | rfl | rfl | rfl
  · exact hr S T
  all_goals exact Iff.rfl
end
theorem open_chest {n : Nat} {p C : Addr} {c : CS} {δ : Dl} {ρ : Rs} {σ : L2.St} {H : Hp} {ds : List D} {vs : List V} {K : PySem.W.Frag} (hk : ρ[n]? = some (p, Own.chest C c)) (s : StV K B δ ρ σ H ds vs) :
    ∃ d1 d2 d3 d4 kvs, SlotsAre kvs c.slots ∧ StV K B δ (four d1 d2 d3 d4 kvs c ++ ρ.set n (p, .ins C (chestFs d1 d2 d3 d4 c))) σ H ds vs := by
  obtain ⟨S, T, t⟩ := s
  obtain ⟨d1, d2, d3, d4, kvs, h1, h2⟩ := t.own n p _ hk
  exact ⟨d1, d2, d3, d4, kvs, h1, t.opened hk h2 fun x hx T' h => (four_plain (r := (p, .ins C (chestFs d1 d2 d3 d4 c))) (fun _ _ => Iff.rfl) x hx S T').mp h⟩
theorem sts_open {n : Nat} {p C : Addr} {c : CS} {sts : List Stmt} {K : EK} (hk : ρ[n]? = some (p, Own.chest C c)) (h : ∀ d1 d2 d3 d4 kvs, SlotsAre kvs c.slots → StPs X B sts δ ((d1, .dol kvs) :: (d2, .od (heldT c.held)) :: (d3, .od (pairT c.paired)) :: (d4, .od (willT c.wills)) :: ρ.set n (p, .ins C (chestFs d1 d2 d3 d4 c))) K) : StPs X B sts δ ρ K := fun σ H ds vs Dn s l => by
  obtain ⟨d1, d2, d3, d4, kvs, h1, s'⟩ := open_chest hk s
  exact h d1 d2 d3 d4 kvs h1 σ H ds vs Dn s' l
theorem close_chest {K : PySem.W.Frag} {n : Nat} {p C d1 d2 d3 d4 : Addr} {c : CS} {kvs : List (Int × (Addr × List D))} {fs : List (Str × D)} {h2 h3 h4 : List (Int × D)} (hk : ρ[n]? = some (p, Own.ins C fs)) (e1 : SlotsAre kvs c.slots) (e2 : h2 = heldT c.held) (e3 : h3 = pairT c.paired) (e4 : h4 = willT c.wills) (ef : fs = chestFs d1 d2 d3 d4 c) :
    Sh K B ((d1, .dol kvs) :: (d2, .od h2) :: (d3, .od h3) :: (d4, .od h4) :: ρ) (ρ.set n (p, .chest C c)) := by
  subst e2 e3 e4 ef
  exact Sh.closed (l := four d1 d2 d3 d4 kvs c) hk (fun S T' st _ => ⟨d1, d2, d3, d4, kvs, e1, st⟩) fun S x hx T' h => (four_plain (r := (p, .ins C (chestFs d1 d2 d3 d4 c))) (fun _ _ => Iff.rfl) x hx S T').mpr h
theorem open_world {n : Nat} {p : Addr} {c : CS} {δ : Dl} {ρ : Rs} {σ : L2.St} {H : Hp} {ds : List D} {vs : List V} {K : PySem.W.Frag} (hk : ρ[n]? = some (p, Own.world c)) (s : StV K B δ ρ σ H ds vs) :
    ∃ d1 d2 d3 d4 e kvs, SlotsAre kvs c.slots ∧ StV K B δ ((e, .ol [.int c.coming, .int c.next]) :: four d1 d2 d3 d4 kvs c ++ ρ.set n (p, .ol [.obj d1, .obj d2, .obj d3, .obj d4, .obj e])) σ H ds vs := by
  obtain ⟨S, T, t⟩ := s
  obtain ⟨d1, d2, d3, d4, e, kvs, h1, h2⟩ := t.own n p _ hk
  refine ⟨d1, d2, d3, d4, e, kvs, h1, t.opened hk h2 fun x hx T' h => ?_⟩
  rcases List.mem_cons.mp hx with rfl | hx
  · exact h
  · exact (four_plain (r := (e, .ol [.int c.coming, .int c.next])) (fun _ _ => Iff.rfl) x hx S T').mp h
theorem sts_openW {n : Nat} {p : Addr} {c : CS} {sts : List Stmt} {K : EK} (hk : ρ[n]? = some (p, Own.world c)) (h : ∀ d1 d2 d3 d4 e kvs, SlotsAre kvs c.slots → StPs X B sts δ ((e, .ol [.int c.coming, .int c.next]) :: (d1, .dol kvs) :: (d2, .od (heldT c.held)) :: (d3, .od (pairT c.paired)) :: (d4, .od (willT c.wills)) :: ρ.set n (p, .ol [.obj d1, .obj d2, .obj d3, .obj d4, .obj e])) K) : StPs X B sts δ ρ K := fun σ H ds vs Dn s l => by
  obtain ⟨d1, d2, d3, d4, e, kvs, h1, s'⟩ := open_world hk s
  exact h d1 d2 d3 d4 e kvs h1 σ H ds vs Dn s' l
theorem close_world {K : PySem.W.Frag} {n : Nat} {p d1 d2 d3 d4 e : Addr} {c : CS} {kvs : List (Int × (Addr × List D))} {fs es : List D} {h2 h3 h4 : List (Int × D)} (hk : ρ[n]? = some (p, Own.ol fs)) (e1 : SlotsAre kvs c.slots) (e2 : h2 = heldT c.held) (e3 : h3 = pairT c.paired) (e4 : h4 = willT c.wills) (e5 : es = [.int c.coming, .int c.next]) (ef : fs = [.obj d1, .obj d2, .obj d3, .obj d4, .obj e]) :
    Sh K B ((e, .ol es) :: (d1, .dol kvs) :: (d2, .od h2) :: (d3, .od h3) :: (d4, .od h4) :: ρ) (ρ.set n (p, .world c)) := by
  subst e2 e3 e4 ef e5
  refine Sh.closed (l := (e, .ol [.int c.coming, .int c.next]) :: four d1 d2 d3 d4 kvs c) hk (fun S T' st _ => ⟨d1, d2, d3, d4, e, kvs, e1, st⟩) fun S x hx T' h => ?_
  rcases List.mem_cons.mp hx with rfl | hx
  · exact h
  · exact (four_plain (r := (e, .ol [.int c.coming, .int c.next])) (fun _ _ => Iff.rfl) x hx S T').mpr h
end
end Lw
namespace Lw
open PySem L2
theorem LstAt.i {ρ : Rs} {n : Nat} {p a : Addr} {b : Int} {xs : List D} {kvs : List (Int × (Addr × List D))} (h : ρ[n]? = some (p, Own.dol kvs)) (hq : (b, (a, xs)) ∈ kvs) : LstAt ρ (.obj a) xs := Or.inr ⟨0, a, rfl, Or.inr ⟨n, p, kvs, Or.inl h, _, hq, rfl⟩⟩
theorem InsAt.c {ρ : Rs} {n : Nat} {p C : Addr} {c : CS} {m : Str} (h : ρ[n]? = some (p, Own.chest C c)) (hm : m ∉ chestNames) : InsAt ρ (.obj p) C m := ⟨n, p, rfl, Or.inr ⟨c, h, hm⟩⟩
end Lw
namespace Lw
open PySem PySem.Spec PyProof.Rows L2
theorem ts_chain {X : Cx} {B : Base} {δ : Dl} {ρ : Rs} {Φ : Bool → Rs → Prop} {a b c : Expr} {pos : Pos} {op op' : CmpOp} (hm : lastMarks [op, op'] [b, c] = false) (h : EvP X B a δ ρ fun x ρ1 => EvP X B b δ ρ1 fun y ρ2 => BiP X B (compareOp op) x y ρ2 fun d ρ3 => ∃ k, d = .bl k ∧
      (k = true → EvP X B c δ ρ3 fun z ρ4 => BiP X B (compareOp op') y z ρ4 fun d ρ5 => ∃ k', d = .bl k' ∧ Φ k' ρ5) ∧ (k = false → Φ false ρ3)) : TsP X B (.Compare a [op, op'] [b, c] pos) δ ρ Φ := fun σ H ds vs Q st q =>
  (pt_chain (pR2 _) (pR2 _) (pE a) (pE b) (pE c) hm).to (h σ H ds vs _ st fun x ρ1 v H1 h1 st1 => h1 σ H1 _ _ _ st1 fun y ρ2 w H2 h2 st2 => by
    refine h2 δ σ H2 (y :: ds) (w :: vs) v w _ (st2.tmps fun S _ r => ?_) fun d ρ3 z H3 h3 st3 => ?_
    · obtain ⟨_, _, e1, r1, r2⟩ := r; cases e1
      obtain ⟨_, _, e2, r3, r4⟩ := r2; cases e2
      exact .cons r1 (.cons r3 (.cons r1 r4))
    · obtain ⟨k, rfl, h4, h5⟩ := h3
      obtain ⟨S, T, s⟩ := id st3
      have e : z = .bl k := s.tmp.hd
      refine ⟨k, e, ?_⟩
      cases k with
      | true =>
        show tE X c σ H3 _
        exact h4 rfl σ H3 _ _ _ st3.pop fun z ρ4 u H4 h6 st4 => h6 δ σ H4 ds vs w u _ st4 fun d ρ5 z5 H5 h7 st5 => by
          obtain ⟨k', rfl, h8⟩ := h7
          obtain ⟨S, T, s⟩ := id st5
          exact ⟨k', s.tmp.hd, q k' ρ5 H5 h8 st5.pop⟩
      | false =>
        show ∃ k, V.bl false = .bl k ∧ Q k H3
        exact ⟨false, rfl, q false ρ3 H3 (h5 rfl) st3.pop.pop⟩)
theorem at_hd {r : Addr × Own} {ρ : Rs} : (r :: ρ)[0]? = some r := rfl
theorem at_tl {r x : Addr × Own} {ρ : Rs} {n : Nat} (h : ρ[n]? = some r) : (x :: ρ)[n + 1]? = some r := h
theorem at_set {r r0 : Addr × Own} {ρ : Rs} {n : Nat} (h : ρ[n]? = some r0) : (ρ.set n r)[n]? = some r := List.getElem?_set_self (List.getElem?_eq_some_iff.mp h).1
theorem at_ne {r r0 : Addr × Own} {ρ : Rs} {n m : Nat} (h : ρ[n]? = some r) (ne : n ≠ m) : (ρ.set m r0)[n]? = some r := by rw [List.getElem?_set_ne (Ne.symm ne)]; exact h
theorem set_id {r : Addr × Own} {ρ : Rs} {n : Nat} (h : ρ[n]? = some r) : ρ.set n r = ρ := by
  have hl := (List.getElem?_eq_some_iff.mp h).1
  apply List.ext_getElem?
  intro m
  by_cases hm : n = m
  · subst hm; rw [List.getElem?_set_self hl, h]
  · rw [List.getElem?_set_ne hm]
end Lw
namespace Lw
open PySem L2
/-- what is owned, in another order -/
theorem Sh.re {K : PySem.W.Frag} {B : Base} {ρ ρ' : Rs} (π : Nat → Nat) (inj : ∀ i j, π i = π j → i = j) (h : ∀ (k : Nat) (r : Addr × Own), ρ'[k]? = some r → ρ[π k]? = some r) : Sh K B ρ ρ' := fun δ σ H ds vs ⟨S, T, s⟩ =>
  ⟨S, fun k => T (π k), s.exS, fun k => s.exT _, fun k b => s.dS _ b, fun i j b n => s.dT _ _ b fun z => n (inj i j z), fun k a o q => s.own _ a o (h k _ q), s.env, s.tmp, s.bS, fun b o h1 h2 => ⟨(s.bF b o h1 h2).1, fun k => (s.bF b o h1 h2).2 _⟩, s.bN, s.bH⟩
def rev4 : Nat → Nat
  | 0 => 3 | 1 => 2 | 2 => 1 | 3 => 0 | k => k
theorem rev4_rev (k : Nat) : rev4 (rev4 k) = k := by
  match k with
  | 0 => rfl | 1 => rfl | 2 => rfl | 3 => rfl | k + 4 => rfl
theorem Sh.rev4 {K : PySem.W.Frag} {B : Base} {a b c d : Addr × Own} {ρ : Rs} : Sh K B (a :: b :: c :: d :: ρ) (d :: c :: b :: a :: ρ) :=
  Sh.re Lw.rev4 (fun i j h => by have := congrArg Lw.rev4 h; rwa [rev4_rev, rev4_rev] at this) fun k r q => by
    match k, q with
    | 0, q => exact q
    | 1, q => exact q
    | 2, q => exact q
    | 3, q => exact q
    | k + 4, q => exact q
/-! ### tables and their pictures -/
theorem aPut_map {α β : Type} (f : α → β) (l : List (Int × α)) (b : Int) (v : α) : (aPut l b v).map (fun p => (p.1, f p.2)) = aPut (l.map fun p => (p.1, f p.2)) b (f v) := by
  unfold aPut
  have e : ((l.map fun p => (p.1, f p.2)).any fun p => decide (p.1 = b)) = l.any fun p => decide (p.1 = b) := by rw [List.any_map]; rfl
  rw [e]
  split
  · rw [List.map_map, List.map_map]
    refine List.map_congr_left fun p hp => ?_
    show ((if p.1 = b then (p.1, v) else p).1, f (if p.1 = b then (p.1, v) else p).2) = (if p.1 = b then (p.1, f v) else (p.1, f p.2))
    split <;> rfl
  · rw [List.map_append]; rfl
theorem aDrop_map {α β : Type} (f : α → β) (l : List (Int × α)) (b : Int) : (aDrop l b).map (fun p => (p.1, f p.2)) = aDrop (l.map fun p => (p.1, f p.2)) b := by
  unfold aDrop
  rw [List.filter_map]; rfl
theorem aGet_map {α β : Type} (f : α → β) (l : List (Int × α)) (b : Int) : aGet (l.map fun p => (p.1, f p.2)) b = (aGet l b).map f := by
  unfold aGet
  rw [List.find?_map, Option.map_map, Option.map_map]; rfl
theorem slots_put {kvs : List (Int × (Addr × List D))} {l : List (Int × List (Option (Int × Bool)))} {b : Int} {a : Addr} {xs : List (Option (Int × Bool))} (h : SlotsAre kvs l) : SlotsAre (aPut kvs b (a, xs.map slotD)) (aPut l b xs) := by
  unfold SlotsAre at h ⊢
  rw [aPut_map (fun p : Addr × List D => p.2) kvs, h, aPut_map (fun xs : List (Option (Int × Bool)) => xs.map slotD)]
theorem slots_drop {kvs : List (Int × (Addr × List D))} {l : List (Int × List (Option (Int × Bool)))} {b : Int} (h : SlotsAre kvs l) : SlotsAre (aDrop kvs b) (aDrop l b) := by
  unfold SlotsAre at h ⊢
  rw [aDrop_map (fun p : Addr × List D => p.2) kvs, h, aDrop_map (fun xs : List (Option (Int × Bool)) => xs.map slotD)]
/-- hands: added, taken away -/
def hAdd (l : List Int) (b : Int) : List Int := if b ∈ l then l else l ++ [b]
def hDel (l : List Int) (b : Int) : List Int := l.filter fun x => decide (x ≠ b)
theorem heldT_add (l : List Int) (b : Int) : heldT (hAdd l b) = aPut (heldT l) b (.bl true) := by
  unfold aPut heldT hAdd
  have e : ((l.map fun b => (b, D.bl true)).any fun p => decide (p.1 = b)) = decide (b ∈ l) := by
    rw [List.any_map, Bool.eq_iff_iff]
    simp only [List.any_eq_true, Function.comp_apply, decide_eq_true_eq]
    exact ⟨fun ⟨x, hx, e⟩ => e ▸ hx, fun h => ⟨b, h, rfl⟩⟩
  rw [e]
  by_cases h : b ∈ l
  · rw [if_pos h, if_pos (by simpa using h), List.map_map]
    refine List.map_congr_left fun x hx => ?_
    show (x, D.bl true) = if x = b then (x, D.bl true) else (x, D.bl true)
    split <;> rfl
  · rw [if_neg h, if_neg (by simpa using h), List.map_append]; rfl
theorem heldT_del (l : List Int) (b : Int) : heldT (hDel l b) = aDrop (heldT l) b := by
  unfold aDrop heldT hDel
  rw [List.filter_map]; rfl
theorem heldT_get (l : List Int) (b : Int) : aGet (heldT l) b = if b ∈ l then some (.bl true) else none := by
  unfold heldT
  induction l with
  | nil => rfl
  | cons x l ih =>
    rw [List.map_cons]
    by_cases e : x = b
    · subst e; simp [aGet]
    · have : aGet ((x, D.bl true) :: l.map fun b => (b, D.bl true)) b = aGet (l.map fun b => (b, D.bl true)) b := by simp [aGet, e]
      rw [this, ih]
      have e' : ¬ b = x := fun z => e z.symm
      simp [e']
theorem heldT_keys (l : List Int) : (heldT l).map (·.1) = l := by
  unfold heldT; rw [List.map_map]; exact List.map_id' l
theorem pairT_put (l : List (Int × (Int × Int × Int))) (n : Int) (v : Int × Int × Int) : pairT (aPut l n v) = aPut (pairT l) n (pairD v) := aPut_map pairD l n v
theorem pairT_drop (l : List (Int × (Int × Int × Int))) (n : Int) : pairT (aDrop l n) = aDrop (pairT l) n := aDrop_map pairD l n
theorem pairT_get (l : List (Int × (Int × Int × Int))) (n : Int) : aGet (pairT l) n = (aGet l n).map pairD := aGet_map pairD l n
theorem pairT_keys (l : List (Int × (Int × Int × Int))) : (pairT l).map (·.1) = l.map (·.1) := by unfold pairT; rw [List.map_map]; rfl
theorem willT_put (l : List (Int × List Deed)) (n : Int) (v : List Deed) : willT (aPut l n v) = aPut (willT l) n (.lst (v.map Deed.d)) := aPut_map (fun v : List Deed => D.lst (v.map Deed.d)) l n v
theorem willT_drop (l : List (Int × List Deed)) (n : Int) : willT (aDrop l n) = aDrop (willT l) n := aDrop_map (fun v : List Deed => D.lst (v.map Deed.d)) l n
theorem willT_get (l : List (Int × List Deed)) (n : Int) : aGet (willT l) n = (aGet l n).map fun v => D.lst (v.map Deed.d) := aGet_map (fun v : List Deed => D.lst (v.map Deed.d)) l n
theorem willT_keys (l : List (Int × List Deed)) : (willT l).map (·.1) = l.map (·.1) := by unfold willT; rw [List.map_map]; rfl
/-! ### what the methods do -/
def CS.nil : CS := ⟨[], [], [], [], 0, 0⟩
def CS.make (c : CS) (size : Int) : CS := { c with slots := aPut c.slots c.coming (List.replicate size.toNat none), held := hAdd c.held c.coming, coming := c.coming + 1 }
def CS.willOf (c : CS) (b : Int) : List Deed := (aGet c.wills b).getD []
theorem atI_some {α : Type} {xs : List α} {i : Int} (d : α) (h : 0 ≤ i ∧ i < xs.length) : atI xs i = some (xs.getD i.toNat d) := by
  obtain ⟨h1, h2⟩ := h
  obtain ⟨j, rfl⟩ : ∃ j : Nat, i = j := ⟨i.toNat, by omega⟩
  have hl : j < xs.length := by omega
  refine atI_nat ?_
  rw [Int.toNat_natCast, List.getD_eq_getElem?_getD, List.getElem?_eq_getElem hl]
  rfl
theorem getD_map {α β : Type} (f : α → β) (xs : List α) (i : Nat) (d : α) : (xs.map f).getD i (f d) = f (xs.getD i d) := by
  rw [List.getD_eq_getElem?_getD, List.getD_eq_getElem?_getD, List.getElem?_map]
  cases xs[i]? <;> rfl
theorem putD_le (f : Str) (v : D) : ∀ fs : List (Str × D), (putD f v fs).length ≤ fs.length + 1
  | [] => Nat.le_refl _
  | (g, x) :: r => by
    unfold putD
    split
    · simp
    · simp only [List.length_cons]; have := putD_le f v r; omega
theorem put_lt {f : Str} {v : D} {fs : List (Str × D)} {n : Nat} (h : fs.length < n) : (putD f v fs).length < n + 1 := by have := putD_le f v fs; omega
end Lw

set_option maxHeartbeats 1000000
/-! try: .. except C as e: .., a def called from the suite. -/
namespace Lw
open PySem PySem.Spec PyProof.Rows L2

/-! ### a def that is told the caught exception -/
def Hot (D : Addr) (p : Addr × Obj) : Prop := Zc (.ref D) none p.2 ∧ ∃ vs, p.2.data = .fields vs
/-- the answer's promise -/
def wpH (a : Addr) (n : Str) : WP := fun as ρ Φ _ => as = [.obj a] ∧ Φ (.str n) ρ
/-- R D w: the text w is the answer for an exception of class D -/
structure FnW (P : Program) (w : World) (K : PySem.W.Frag) (mg : Str → Option Value) (base : Heap) (k : Nat) (f : Addr) (fd : FuncData) (ps : List Str) (R : Addr → Str → Prop) : Prop where
  run : ∀ (A : Around) (outer : List Env) (s : Shared) (H : Hp) (args : Args) (us : List Value) (vs : List V) (Q : VK) (E : XK) (p : Addr × Obj) (D : Addr) (n : Str), L2H.RoomH k A → Hot D p → L2H.PinOk outer H s p → Env0 P w K mg base A outer s H → BindsTo s fd args (ps.zip us) → Vals vs us → R D n →
    spW K 1 (wpH p.1 n) vs H Q E → codeAny (model P w) A (.call (.ref f) args) (CR (L2.CX P w) outer P w H s Q E) s
  len : ps.length = 1
section
variable {P : Program} {w : World} {K : PySem.W.Frag} {mg : Str → Option Value} {base : Heap}
theorem FnW.mono {j k : Nat} {f : Addr} {fd : FuncData} {ps : List Str} {R : Addr → Str → Prop} (F : FnW P w K mg base j f fd ps R) (h : j ≤ k) : FnW P w K mg base k f fd ps R := ⟨fun A outer s H args us vs Q E p D n hr => F.run A outer s H args us vs Q E p D n (hr.mono h), F.len⟩
theorem fnW {x qual : Str} {st : Stmt} {f : Addr} {fd : FuncData} {N ps : List Str} {k : Nat} {R : Addr → Str → Prop} (F : Fun K x qual st f fd) (S : FnScope N ps (defScope st)) (h1 : ps.length = 1)
    (hbody : ∀ (cdv : Value) (A : Around) (outer : List Env) (s : Shared) (H : Hp) (E : XK) (B : Base) (Φ : D → Rs → Prop) (ρ : Rs) (p : Addr × Obj) (D : Addr) (n : Str),
      Hot D p → R D n → (∀ ρ', ρ' = ρ → Φ (.str n) ρ') → B.H p.1 = none → L2H.RoomH k (A.deeper (envOfC qual (defScope st) s.heap.objs.size f cdv)) →
      StPs (L2H.cxH (L2.CX P w) P w K mg base N qual (defScope st) f cdv A outer s H E p) B (defBody st) (startD N [.obj p.1]) ρ (kOf K B Φ)) : FnW P w K mg base (k + 1) f fd ps R := by
  obtain ⟨oc, od, kV, doc, pm, an, cdv, ct, osl, rfl, lk, hcd⟩ := F.ex
  refine ⟨fun A outer s H args us vs Q E p D n hr hot hpin e0 hb r hR hsp => ?_, h1⟩
  obtain ⟨B0, δ0, σ0, ds0, vs0, Sx, T, ρ, as, Φ, Ψ, st0, rl, hl1, hl2, ⟨rfl, hw⟩, q1, q2⟩ := hsp
  have hl : vs.length = ps.length := by rw [hl2, h1]
  have KX : K.In s.heap := e0.mod.kin.keeps fun b o e => (e0.bs b o e).1
  have lim : s.heap.NoLimit := e0.mod.nolimit.keeps fun b o e => (e0.bs b o e).1
  have hkind : ∀ y ∈ ps.zip us, (defScope st).names.lookup y.1 = some .local ∨ ((defScope st).names.lookup y.1 = some .cell ∧ ((cellsFrom (s.heap.objs.size + 1) (defScope st).names []).lookup y.1).isSome = true) := fun ⟨n, v⟩ hy => by
    rcases S.par n (List.of_mem_zip hy).1 with q | q
    · exact .inl q
    · exact .inr ⟨q, PySem.W.cellsFrom_some _ _ _ (.inl q)⟩
  refine codeAny_call_function hr.depth (KX _ _ lk) rfl S.co S.gen rfl (PySem.W.codeRec_of KX hcd) (hb _ _ _ _ ?_)
  refine wpAny_newFunctionEnv_cells S.kind hkind fun env he s1 x => ?_
  subst he
  refine ⟨lim.keeps x.toInCall.keep, codeAny_func ?_⟩
  have I := L2H.inv_startH (CX := L2.CX P w) (E := E) S hpin e0 hl r x
  have hbd := hbody cdv A outer s H E (baseOf Sx T H) (fun d ρ' => d = .str n ∧ ρ' = ρ) ρ p D n hot hR (fun _ e => ⟨rfl, e⟩) hpin.free (hr.deeper _) (L2.start N vs) H [] [] { nx := fun _ H' => Q .non H', rt := Q } (st0.entry rfl (env_start rl)) ⟨?_, ?_, fun _ _ _ _ h _ => h.elim, fun _ _ _ _ h _ => h.elim⟩
  · refine wpAny_mono (hbd [] s1 I) (fun fl s' hs => ?_) fun e s' hs => hs
    cases fl with
    | ret u =>
      obtain ⟨v, σ', H', J, rv, q⟩ := hs
      exact ⟨v, H', J.os, J.bare, J.base, J.hok, rv, q⟩
    | next =>
      obtain ⟨σ', H', J, q⟩ := hs
      exact ⟨.non, H', J.os, J.bare, J.base, J.hok, rfl, q⟩
    | brk =>
      obtain ⟨_, _, _, q⟩ := hs
      exact False.elim q
    | cont =>
      obtain ⟨_, _, _, q⟩ := hs
      exact False.elim q
  · rintro δ ρ' σ H' ⟨ρ2, f, q, _⟩ s'
    cases q
  · rintro d ρ' v H' ⟨ρ2, f, rfl, rfl⟩ s'
    exact q1 _ _ v H' hw (f _ _ _ _ _ s')
end
section
variable {X : Cx} {B : Base} {δ : Dl} {ρ : Rs} {Φ : D → Rs → Prop} {e : Expr} {pos q : Pos} {k : Nat} {R : Addr → Str → Prop}
/-- the suite's context bears a caught exception of class D -/
def HotX (X : Cx) (a D : Addr) : Prop := ∃ oe, (a, oe) ∈ X.pn ∧ Hot D (a, oe)
theorem run_fnW {f : Addr} {fd : FuncData} {ps : List Str} {a D : Addr} {n : Str} {E : XK} {pins : List (Addr × Obj)} {σ : L2.St} {H : Hp} {s : Shared} {Q : VK} {us : List Value} {vs : List V} (F : FnW X.prog X.w X.K X.mg X.base k f fd ps R) (hr : L2H.RoomH k X.A) (hc : HotX X a D) (hR : R D n) (hb : Binds X.K fd ps []) (hx : PassesAt (L2.CX X.prog X.w) X σ E)
    (I : Inv X pins σ H s) (r : Vals vs us) (h : spW X.K 1 (wpH a n) vs H Q E) : wpAny (model X.prog X.w) X.A (call (.ref f) us) (EP X pins σ Q) X.xe s := by
  obtain ⟨oe, hp, hot⟩ := hc
  have hl : us.length = ps.length := by
    obtain ⟨_, _, _, _, _, _, _, _, _, _, _, _, _, _, hv, _⟩ := h
    rw [← r.length, F.len, hv]
  have b := hb s us I.kIn (by rw [List.append_nil]; exact hl)
  rw [List.append_nil] at b
  have P1 := I.pin (a, oe) (List.mem_append_left _ hp)
  have hpin : L2H.PinOk X.stack H s (a, oe) := ⟨P1.1, P1.2.1, fun hm => (List.mem_cons.mp (I.stkSub a hm)).elim P1.2.2.1 P1.2.2.2.1, P1.2.2.2.2⟩
  refine wpAny_call (codeAny_mono (F.run X.A X.stack s H ⟨us, []⟩ us vs Q E (a, oe) D n hr hot hpin I.env0 b r hR h) fun r s' hq => ?_)
  cases r with
  | error e => exact hx pins H s e s' I hq
  | ok fl =>
    cases fl with
    | ret u => exact I.after hq
    | next => exact False.elim hq
    | brk => exact False.elim hq
    | cont => exact False.elim hq
/-- f(e) in the suite, e the caught exception -/
theorem ev_callW {x : Str} {a D : Addr} {n : Str} (hr : L2H.RoomH k X.A) (hc : HotX X a D) (hR : R D n)
    (F : ∃ (f : Addr) (fd : FuncData) (ps : List Str), FnW X.prog X.w X.K X.mg X.base k f fd ps R ∧ X.mg x = some (.ref f) ∧ PySem.W.keepIn X.K (.ref f) = true ∧ Binds X.K fd ps []) (hg : Gl X x) (h : EvP X B e δ ρ fun d ρ1 => d = .obj a ∧ Φ (.str n) ρ1)
    (hdb : (x == ("__debug__" : Str)) = false := by decide) (he : starEach [e] X.env = (false, eval e X.env) :: starEach [] X.env := by rfl) (hpl : (backTo pos (starEach [] X.env)).any (·.1) = false := by rfl) : EvP X B (.Call (.Name x q) [e] [] pos) δ ρ Φ := fun σ H ds vs Q st post => by
  obtain ⟨f, fd, ps, F, hm, kp, b⟩ := F
  have ha : AgP X B [e] δ ρ fun as ρ1 => as = [.obj a] ∧ Φ (.str n) ρ1 := ag_cons he (fun σ H ds vs Q st post => h σ H ds vs Q st fun d ρ1 v H1 h1 st1 => post d ρ1 v H1 (ag_nil ⟨by rw [h1.1], h1.2⟩) st1)
  refine (show PE X (.Call (.Name x q) [e] [] pos) (tCallS (spW X.K 1 (wpH a n)) (fun _ => E0) (tA X [e])) from ⟨fun pins s σ H Q I h => ?_⟩).to ?_
  · refine wpAny_Call_Name_kw (ld_glob I hg hm ?_ hdb)
    refine PySem.W.callWith_K (h₀ := X.base) I.ok.mod.kin kp (thn ((pA [e]).run pos pins s σ H _ I h) fun us s1 ⟨vs, H1, I1, r, q⟩ => ⟨I1.kIn, ?_⟩) he hpl
    exact run_fnW F hr hc hR b (fun pins H s e s' I h => passL pins σ H s e s' I h) I1 r q
  · exact ha σ H ds vs _ st fun as ρ1 xs H1 h1 el st1 => by
      obtain ⟨rfl, h1⟩ := h1
      obtain ⟨S, T, s⟩ := st1
      obtain ⟨ys, zs, e1, r1, r2⟩ := RepL.split s.tmp
      obtain ⟨e2, e3⟩ := List.append_inj e1 (by rw [← el, r1.length])
      subst e2 e3
      exact ⟨B, δ, σ, _, _, S, T, ρ1, [.obj a], (fun d ρ' => d = .str n ∧ ρ' = ρ1), (fun _ _ => False), s, r1, rfl, by rw [← el]; rfl, ⟨rfl, rfl, rfl⟩, fun d ρ' v H' q1 q2 => post d ρ' v H' (by rw [q1.1, q1.2]; exact h1) (StV.after s r2 q2), fun _ _ _ q1 _ => q1.elim⟩
/-- isinstance(e, c) of the caught exception -/
theorem call_isW {a D : Addr} (C : ExcC X.K D) (hc : HotX X a D) : CallR X (.builtin "isinstance") (rIsE X.K D a) := by
  intro pins s σ H xs us Q I r h
  obtain ⟨c, cv, b, rfl, hcv, e, q⟩ := h
  obtain ⟨⟨oc, od, oda, osl⟩, hp, ⟨z1, z2⟩, vs, hv⟩ := hc
  cases r with
  | cons rx rr =>
    cases rr with
    | cons rt rr =>
      cases rr
      cases rx
      have ec := hcv _ rt
      subst ec
      have hget := (I.pin _ (List.mem_append_left _ hp)).1
      dsimp only at z1 z2 hv
      subst z1 z2 hv
      exact PySem.W.kia_one (PySem.W.handS_kitx_exc C.hg C.hk C.hs C.hd C.ha C.hn C.ht C.hm) I.kIn ⟨hget, rfl, rfl, trivial⟩ e (fun z => nomatch z) fun tk => ⟨.bl b, H, I.kept (t' := tk) fun _ _ z => z, rfl, q⟩
theorem cl_isW {a Dc : Addr} {c : D} {cv : Value} {b : Bool} (C : ExcC X.K Dc) (hc : HotX X a Dc) (hv : (∃ u, c = .obj u ∧ cv = .ref u) ∨ ∃ t, c = .ty t ∧ cv = .type t) (hb : PySem.W.kitOne X.K (.ref Dc) cv = some b) (h : Φ (.bl b) ρ) : ClP X B (.builtin "isinstance") [.obj a, c] ρ Φ := cl2_of (call_isW C hc) fun δ σ H ds vs x y Q st q => by
  obtain ⟨S, T, s⟩ := id st
  have e1 : x = .ref a := s.tmp.hd
  have e2 := s.tmp.tl.hd
  refine ⟨y, cv, b, by rw [e1], ?_, hb, q _ _ _ _ h (st.pop.pop.push fun _ => rfl)⟩
  rcases hv with ⟨u, rfl, rfl⟩ | ⟨t, rfl, rfl⟩
  · have e3 : y = .ref u := e2
    subst e3
    intro u' r; exact r
  · have e3 : y = .ty t := e2
    subst e3
    intro u' r; exact r
theorem st_setN {i : Nat} {x : Str} {pos' : Pos} {K : EK} (nd : X.N.Nodup) (hi : X.N[i]? = some x) (hx : Loc X.env.scope x) (hs : swapsWith e (some (.Name x pos')) pos.line X.env = pure false) (hf : X.fn x = true ∨ X.env.scope.names.lookup x = some .local)
    (h : EvP X B e δ ρ fun d ρ1 => K.nx (δ.set i (some d)) ρ1) : StP X B (.Assign [.Name x pos'] e pos) δ ρ K := fun σ H ds vs Dn s l =>
  (ps_set nd hi hx (pE e) hs hf).to (h σ H ds vs _ s fun d ρ1 v H1 h1 s1 => l.nx _ _ _ _ h1 s1.set)
end

/-! ### at a def's own level -/
def StP0 (X : Cx) (B : Base) (st : Stmt) (δ : Dl) (ρ : Rs) (K : EK) : Prop := ∀ σ H Dn, StV X.K B δ ρ σ H [] [] → LiftE X B K [] [] Dn → tS X st Dn σ H
def StPs0 (X : Cx) (B : Base) (sts : List Stmt) (δ : Dl) (ρ : Rs) (K : EK) : Prop := ∀ σ H Dn, StV X.K B δ ρ σ H [] [] → LiftE X B K [] [] Dn → tSs X sts Dn σ H
section
variable {X : Cx} {B : Base} {W : WX} {Ψ : Addr → Dl → Rs → Prop} {k : Nat} {δ : Dl} {ρ : Rs} {K : EK} {st : Stmt} {sts rest : List Stmt}
theorem StPs.top (h : StPs X B sts δ ρ K) : StPs0 X B sts δ ρ K := fun σ H Dn s l => h σ H [] [] Dn s l
theorem StP.top (h : StP X B st δ ρ K) : StP0 X B st δ ρ K := fun σ H Dn s l => h σ H [] [] Dn s l
theorem sts0_cons (h : StP0 X B st δ ρ { K with nx := fun δ' ρ' => StPs0 X B rest δ' ρ' K }) : StPs0 X B (st :: rest) δ ρ K := fun σ H Dn s l =>
  (pss_cons (pS st) (pSs rest)).to (h σ H _ s ⟨fun δ' ρ' σ' H' q s' => q σ' H' Dn s' l, l.rt, l.bk, l.ct⟩)
theorem sts0_one (h : StP0 X B st δ ρ K) : StPs0 X B [st] δ ρ K := fun σ H Dn s l => (pss_one (pS st)).to (h σ H _ s l)
theorem StV.top {K : PySem.W.Frag} {σ : L2.St} {H : Hp} {ds : List D} {vs : List V} (h : StV K B δ ρ σ H ds vs) : StV K B δ ρ σ H [] [] := let ⟨S, T, s⟩ := h; ⟨S, T, s.re s.env rfl⟩
/-- try: body, except x as n: suite; Ψc: what holds where the body raises -/
theorem st0_try {x n : Str} {cv : Value} {i : Nat} {body suite : List Stmt} {b0 : Stmt} {np pos pos' : Pos} (c : CxOk X B W Ψ k) (hs : X.stack = X.env :: X.outer) (hf : X.env.frame = some X.env.locals) (hi : X.N[i]? = some n) (hln : X.env.kindOf n = some .local) (hc : Names X x cv)
    (Ψc : Addr → Dl → Rs → Prop) (hb : ∀ (W' : WX) (pn : List (Addr × Obj)) (xe : Value → Shared → Prop), CxOk (X.tr pn xe) B W' Ψc k → StPs (X.tr pn xe) B body δ ρ K)
    (hx : ∀ C δ ρ, Ψc C δ ρ → PySem.W.exmOne X.K (.ref C) cv = some true)
    (hsu : ∀ (a C : Addr) (oe : Obj) (pn : List (Addr × Obj)) (δ : Dl) (ρ : Rs), Ψc C δ ρ → HotX (X.suite a ((a, oe) :: pn)) a C → L2H.RoomH k (X.suite a ((a, oe) :: pn)).A →
      StPs0 (X.suite a ((a, oe) :: pn)) B (b0 :: suite) (δ.set i (some (.obj a))) ρ { nx := fun δ ρ => K.nx (δ.set i none) ρ, rt := K.rt, bk := fun δ ρ => K.bk (δ.set i none) ρ, ct := fun δ ρ => K.ct (δ.set i none) ρ }) :
    StP0 X B (.Try body [.ExceptHandler (some (.Name x np)) (some n) (b0 :: suite) pos'] [] [] pos) δ ρ K := fun σ H Dn s l => by
  have un : ∀ {δ : Dl} {ρ : Rs} {σ : L2.St} {H : Hp}, StV X.K B δ ρ σ H [] [] → StV X.K B (δ.set i none) ρ (σ.set i none) H [] [] := fun ⟨S, T, t⟩ => ⟨S, T, t.re (t.env.unset i) t.tmp⟩
  refine (ps_try_as (tb := fun W' => fun D σ H => ∀ pn xe, Takes (X.tr pn xe) W' → PassesOwn (model X.prog X.w) X.A X.env xe → tSs (X.tr pn xe) body D σ H)
    (ts := fun a cls d => fun D σ H => ∀ oe pn, Zc cls d oe → (∃ vs, oe.data = .fields vs) → tSs (X.suite a ((a, oe) :: pn)) (b0 :: suite) D σ H) hs hf c.nd hi hln hc c.takes
    (fun W' pn xe h1 h2 => ⟨fun pins s σ H D I h => h pn xe h1 h2 pins s I⟩) (fun a oe cls d pn h1 h2 => ⟨fun pins s σ H D I h => h oe pn h1 h2 pins s I⟩)).to ?_
  intro pn xe h1 h2
  refine hb _ pn xe ⟨c.calm, h1, h2, ?_, c.room, c.nd⟩ σ H [] [] Dn s ⟨l.nx, l.rt, l.bk, l.ct⟩
  intro C δ' ρ' σ' H' ds vs hC st
  refine ⟨true, hx C δ' ρ' hC, fun _ a ha oe pn hz hd => ?_, fun z => nomatch z⟩
  have st1 : StV X.K B (δ'.set i (some (.obj a))) ρ' (σ'.set i (some (.ref a))) H' [] [] := (st.top.push (d := .obj a) (v := .ref a) fun _ => rfl).set
  exact hsu a C oe pn δ' ρ' hC ⟨oe, List.mem_cons_self, hz, hd⟩ ⟨c.room.dp, c.room.un⟩ _ _ _ st1 ⟨fun δ ρ σ H q s => l.nx _ _ _ _ q (un s), l.rt, fun δ ρ σ H q s => l.bk _ _ _ _ q (un s), fun δ ρ σ H q s => l.ct _ _ _ _ q (un s)⟩
end
section
variable {P : Program} {w : World} {K : PySem.W.Frag} {mg : Str → Option Value} {base : Heap}
theorem okW0 {x qual : Str} {st : Stmt} {f : Addr} {fd : FuncData} {N ps : List Str} {k : Nat} {Wp : WP} (F : Fun K x qual st f fd) (S : FnScope N ps (defScope st))
    (hbody : ∀ (cdv : Value) (A : Around) (outer : List Env) (s : Shared) (H : Hp) (E : XK) (B : Base) (Φ : D → Rs → Prop) (Ψ : Addr → Rs → Prop) (as : List D) (ρ : Rs),
      CxOk (cxOf (L2.CX P w) P w K mg base N qual (defScope st) f cdv A outer s H E) B (fun cls d _ H => E cls d H) (psiOf K B Ψ) k → as.length = ps.length → Wp as ρ Φ Ψ →
      StPs0 (cxOf (L2.CX P w) P w K mg base N qual (defScope st) f cdv A outer s H E) B (defBody st) (startD N as) ρ (kOf K B Φ)) : FnOk P w K mg base (L2.CX P w) (k + 1) f fd ps (spW K ps.length Wp) := by
  refine F.okX S (fun vs H Q E h => ?_) (fun cdv A outer s H vs Q E hr h => ?_)
  · obtain ⟨_, _, _, _, _, _, _, _, _, _, _, _, _, _, h, _⟩ := h
    exact h
  · obtain ⟨B0, δ0, σ0, ds0, vs0, Sx, T, ρ, as, Φ, Ψ, st0, r, hl, hl2, hw, q1, q2⟩ := h
    let X := cxOf (L2.CX P w) P w K mg base N qual (defScope st) f cdv A outer s H E
    have hx : X.xe = fun e s' => wpAny (model P w) X.A (leaving X.env e) (fun _ s'' => L2.CX P w outer H s E e s'') (fun e' s'' => L2.CX P w outer H s E e' s'') s' := rfl
    have c : CxOk X (baseOf Sx T H) (fun cls d _ H => E cls d H) (psiOf K (baseOf Sx T H) Ψ) k := by
      refine ⟨rfl, takes_of rfl rfl rfl hx, passes_of hx, ?_, hr, S.nd⟩
      rintro C δ ρ' σ H' ds vs ⟨ρ2, f, q⟩ s'
      exact q2 C ρ2 H' q (f _ _ _ _ _ s').no
    refine ⟨tSs X (defBody st), pSs _, ?_⟩
    refine hbody cdv A outer s H E (baseOf Sx T H) Φ Ψ as ρ c hl hw (L2.start N vs) H _ (st0.entry rfl (env_start r)) ⟨?_, ?_, fun _ _ _ _ h _ => h.elim, fun _ _ _ _ h _ => h.elim⟩
    · rintro δ ρ' σ H' ⟨ρ2, f, q⟩ s'
      exact q1 .non ρ2 .non H' q (f _ _ _ _ _ (s'.push (d := .non) (v := .non) fun _ => rfl).one)
    · rintro d ρ' v H' ⟨ρ2, f, q⟩ s'
      exact q1 d ρ2 v H' q (f _ _ _ _ _ s')
end
end Lw

set_option maxHeartbeats 1000000
/-! More values. -/
namespace Lw
open PySem PySem.Spec PyProof.Rows L2
/-- 0, .. n - 1 -/
def rgI (n : Nat) : List Int := (List.range n).map fun i : Nat => (i : Int)
def rot4 : Nat → Nat
  | 0 => 1 | 1 => 2 | 2 => 3 | 3 => 4 | 4 => 0 | k => k
theorem Sh.rot4 {K : PySem.W.Frag} {B : Base} {r a b c d : Addr × Own} {ρ : Rs} : Sh K B (r :: a :: b :: c :: d :: ρ) (a :: b :: c :: d :: r :: ρ) :=
  Sh.re Lw.rot4 (fun i j h => by
    rcases i with _ | _ | _ | _ | _ | i <;> rcases j with _ | _ | _ | _ | _ | j <;> simp [Lw.rot4] at h <;> omega) fun k r' h => by
    rcases k with _ | _ | _ | _ | _ | k <;> exact h
section
variable {X : Cx} {B : Base} {W : WX} {Ψ : Addr → Dl → Rs → Prop} {k : Nat} {δ : Dl} {ρ : Rs} {Φ : D → Rs → Prop} {a e : Expr} {x : D} {pos p ps q : Pos}
/-- list(range(n)) -/
theorem ev_listRg (c : CxOk X B W Ψ k) (hg : Gl X "list") (hm : X.mg "list" = none) (hg2 : Gl X "range") (hm2 : X.mg "range" = none) (h : EvP X B a δ ρ fun d ρ1 => ∃ n : Nat, d = .int n ∧ n ≤ 1000 ∧ Φ (.lst ((rgI n).map D.int)) ρ1)
    (na : starEach [a] X.env = (false, eval a X.env) :: starEach [] X.env := by rfl) (nb : starEach [.Call (.Name "range" q) [a] [] ps] X.env = (false, eval (.Call (.Name "range" q) [a] [] ps) X.env) :: starEach [] X.env := by rfl) :
    EvP X B (.Call (.Name "list" p) [.Call (.Name "range" q) [a] [] ps] [] pos) δ ρ Φ := fun σ H ds vs Q st post =>
  (pe_listRg c.calm hg hm (prg_1 hg2 hm2 (pE a) na) nb).to (h σ H ds vs _ st fun d ρ1 v H1 h1 st1 => by
    obtain ⟨n, rfl, hn, h1⟩ := h1
    obtain ⟨S, T, s⟩ := id st1
    refine ⟨n, s.tmp.hd, ⟨by decide, by decide, by omega, by omega, by omega⟩, fun r hr => post _ _ _ _ h1 ⟨_, T, (s.re s.env s.tmp.tl).lay hr ⟨r, _, rfl, upd_same, ?_⟩⟩⟩
    refine (RepL.ints _).mpr ?_
    unfold rgV rgI
    rw [List.map_map, show (((n : Int) - 0).toNat) = n by omega]
    refine List.map_congr_left fun i _ => ?_
    show V.int (0 + (i : Int)) = V.int i
    rw [Int.zero_add])
theorem cl_sortedDo {g : Int → Option D} {ks : List Int} (hc : X.calm = true) (hd : DctAt ρ x g ks) (hz : ks.length < 64) (h : ∀ p, B.H p = none → Φ (.obj p) ((p, .ol ((srt ks).map D.int)) :: ρ)) : ClP X B (.builtin "sorted") [x] ρ Φ := cl1_of (call_sortedDI hc) fun δ σ H ds vs a Q st q => by
  obtain ⟨S, T, s⟩ := id st
  obtain ⟨p, kv, e1, e2, e3, _⟩ := hd.rd s s.tmp.hd
  refine ⟨p, kv, ks, by rw [e1], e2, e3, hz, fun ns' r hp hs hr => ?_⟩
  rw [srt_unique hp hs]
  have hb : B.H r = none := by
    cases z : B.H r with
    | none => rfl
    | some w => exact absurd hr (s.bH r (by rw [z]; simp))
  exact q _ _ _ _ (h r hb) ⟨S, _, (s.re s.env s.tmp.tl).lay1 hr ⟨_, single_same, (RepL.ints _).mpr rfl⟩⟩
/-- xs.append(e) -/
theorem ev_append {o : Expr} {apos : Pos} (h : EvP X B o δ ρ fun d ρ1 => (∃ xs, LstAt ρ1 d xs) ∧ EvP X B e δ ρ1 fun y ρ2 => ∃ (n : Nat) (a : Addr) (xs : List D), d = .obj a ∧ ρ2[n]? = some (a, Own.ol xs) ∧ xs.length ≤ 100000 ∧ Φ .non (ρ2.set n (a, .ol (xs ++ [y]))))
    (hbase : attributeBase o "append" X.env (eval o X.env) = eval o X.env := by rfl)
    (hfew : ((backTo pos (starEach [e] X.env)).all (fun x => !x.1) && (backToKw pos (keywordEach [] X.env)).all (fun x => x.1.isSome) && decide ([e].length + ([] : List Keyword).length + (if ([] : List Keyword).isEmpty then 0 else 1) < 30)) = true := by rfl)
    (hline : (apos.endLine == pos.line) = true := by rfl) (hs : starEach [e] X.env = (false, eval e X.env) :: starEach [] X.env := by rfl) (hplain : (backTo pos (starEach [] X.env)).any (·.1) = false := by rfl) : EvP X B (.Call (.Attribute o "append" apos) [e] [] pos) δ ρ Φ :=
  ev_bm PySem.F.plainAttrs_list PySem.F.slot_list_append PySem.F.type_list_append hbase hfew hline hs hplain fun σ H ds vs Q st q => h σ H ds vs Q st fun d ρ1 v H1 h1 st1 => q d ρ1 v H1 ⟨ty_list h1.1.choose_spec, ag_cons hs fun σ H ds vs Q st q => h1.2 σ H ds vs Q st fun y ρ2 v H1 h2 st2 => q y ρ2 v H1 (ag_nil (by
    obtain ⟨n, a, xs, rfl, hk, hz, h3⟩ := h2
    exact mt_append' hk hz h3)) st2⟩ st1
theorem atI_ints {l : List Int} {j : Int} (h : 0 ≤ j ∧ j < l.length) : atI (l.map D.int) j = some (D.int (l.getD j.toNat 0)) := by
  rw [atI_some (D.int 0) (by simpa using h), getD_map]
end
/-! ### looking up, quickly -/
theorem nm_z {x : Str} {l : List Str} : (x :: l)[0]? = some x := rfl
theorem nm_s {x y : Str} {l : List Str} {i : Nat} (h : l[i]? = some x) : (y :: l)[i + 1]? = some x := h
theorem cx_N {CX : CXT} {P : Program} {w : World} {K : PySem.W.Frag} {mg : Str → Option Value} {base : Heap} {N : List Str} {qual : Str} {sc : Scope} {f : Addr} {cd : Value} {A : Around} {outer : List Env} {s : Shared} {H : Hp} {E : XK} : (cxOf CX P w K mg base N qual sc f cd A outer s H E).N = N := rfl
theorem cxH_N {CX : CXT} {P : Program} {w : World} {K : PySem.W.Frag} {mg : Str → Option Value} {base : Heap} {N : List Str} {qual : Str} {sc : Scope} {f : Addr} {cd : Value} {A : Around} {outer : List Env} {s : Shared} {H : Hp} {E : XK} {p : Addr × Obj} : (L2H.cxH CX P w K mg base N qual sc f cd A outer s H E p).N = N := rfl
theorem blk_N {X : Cx} {sc : Scope} {s : Shared} {H : Hp} {C : Addr} {cl : List (Str × Addr)} {fp : List Addr} {N : List Str} (h : X.N = N) : (Blk X sc s H C cl fp).N = N := h
theorem tr_N {X : Cx} {pn : List (Addr × Obj)} {xe : Value → Shared → Prop} {N : List Str} (h : X.N = N) : (X.tr pn xe).N = N := h
theorem suite_N {X : Cx} {a : Addr} {pn : List (Addr × Obj)} {N : List Str} (h : X.N = N) : (X.suite a pn).N = N := h
structure CxE (X : Cx) (P : Program) (w : World) (K : PySem.W.Frag) (mg : Str → Option Value) (base : Heap) : Prop where
  p : X.prog = P
  w : X.w = w
  K : X.K = K
  mg : X.mg = mg
  b : X.base = base
theorem cx_E {CX : CXT} {P : Program} {w : World} {K : PySem.W.Frag} {mg : Str → Option Value} {base : Heap} {N : List Str} {qual : Str} {sc : Scope} {f : Addr} {cd : Value} {A : Around} {outer : List Env} {s : Shared} {H : Hp} {E : XK} : CxE (cxOf CX P w K mg base N qual sc f cd A outer s H E) P w K mg base := ⟨rfl, rfl, rfl, rfl, rfl⟩
section
variable {P : Program} {w : World} {K : PySem.W.Frag} {mg : Str → Option Value} {base : Heap}
variable {X : Cx} {B : Base} {W : WX} {Ψ : Addr → Dl → Rs → Prop} {k j n : Nat} {δ : Dl} {ρ : Rs} {Φ : D → Rs → Prop} {a b e o : Expr} {es : List Expr} {x : D} {pos p ps q : Pos} {Wp : WP}
theorem blk_E {sc : Scope} {s : Shared} {H : Hp} {C : Addr} {cl : List (Str × Addr)} {fp : List Addr} (h : CxE X P w K mg base) : CxE (Blk X sc s H C cl fp) P w K mg base := ⟨h.p, h.w, h.K, h.mg, h.b⟩
theorem tr_E {pn : List (Addr × Obj)} {xe : Value → Shared → Prop} (h : CxE X P w K mg base) : CxE (X.tr pn xe) P w K mg base := ⟨h.p, h.w, h.K, h.mg, h.b⟩
theorem ev_nameN {N : List Str} {i : Nat} {x : Str} (hX : X.N = N) (hN : N[i]? = some x) (hv : Vis X.env.scope x) (h : ∃ d, δ[i]? = some (some d) ∧ Φ d ρ) (hd : (x == ("__debug__" : Str)) = false := by decide) (hcd : (x == ("__classdict__" : Str)) = false := by decide) : EvP X B (.Name x pos) δ ρ Φ :=
  ev_name (i := i) (by rw [hX]; exact hN) hv h.choose_spec.1 h.choose_spec.2 hd hcd
theorem st_setM {N : List Str} {i : Nat} {x : Str} {pos' : Pos} {K : EK} (c : CxOk X B W Ψ k) (hX : X.N = N) (hi : N[i]? = some x) (hx : Loc X.env.scope x) (hs : swapsWith e (some (.Name x pos')) pos.line X.env = pure false) (hf : X.fn x = true ∨ X.env.scope.names.lookup x = some .local)
    (h : EvP X B e δ ρ fun d ρ1 => K.nx (δ.set i (some d)) ρ1) : StP X B (.Assign [.Name x pos'] e pos) δ ρ K := st_set c (by rw [hX]; exact hi) hx hs hf h
theorem tg_nameN {N : List Str} {i : Nat} {x : Str} {d : D} {Φ : Dl → Rs → Prop} (c : CxOk X B W Ψ k) (hX : X.N = N) (hi : N[i]? = some x) (hx : Loc X.env.scope x) (hf : X.fn x = true ∨ X.env.scope.names.lookup x = some .local) (h : Φ (δ.set i (some d)) ρ) : TgP X B (.Name x pos) d δ ρ Φ := tg_name c (by rw [hX]; exact hi) hx hf h
theorem ev_callN {x : Str} (c : CxOk X B W Ψ k) (E : CxE X P w K mg base) (F : DefOk P w K mg base x j n Wp) (hj : j ≤ k) (hg : Gl X x) (h : AgP X B (e :: es) δ ρ fun as ρ1 => as.length = n ∧ Wp as ρ1 Φ fun C ρ' => Ψ C δ ρ')
    (hdb : (x == ("__debug__" : Str)) = false := by decide) (he : starEach (e :: es) X.env = (false, eval e X.env) :: starEach es X.env := by rfl) (hpl : (backTo pos (starEach es X.env)).any (·.1) = false := by rfl) : EvP X B (.Call (.Name x p) (e :: es) [] pos) δ ρ Φ := by
  obtain ⟨rfl, rfl, rfl, rfl, rfl⟩ := E
  exact ev_call c F hj hg h hdb he hpl
theorem ev_callN0 {x : Str} (c : CxOk X B W Ψ k) (E : CxE X P w K mg base) (F : DefOk P w K mg base x j 0 Wp) (hj : j ≤ k) (hg : Gl X x) (h : Wp [] ρ Φ fun C ρ' => Ψ C δ ρ') (hdb : (x == ("__debug__" : Str)) = false := by decide) : EvP X B (.Call (.Name x p) [] [] pos) δ ρ Φ := by
  obtain ⟨rfl, rfl, rfl, rfl, rfl⟩ := E
  exact ev_call0 c F hj hg h hdb
theorem ev_methN {C : Addr} {m : Str} {apos : Pos} {pl : Sem Bool} (c : CxOk X B W Ψ k) (E : CxE X P w K mg base) (F : MetOk P w K mg base C m j (n + 1) Wp) (hj : j ≤ k)
    (hst : starEach (e :: es) X.env = (false, eval e X.env) :: starEach es X.env) (hpl : (backTo pos (starEach es X.env)).any (·.1) = false)
    (ht : eval (.Call (.Attribute o m apos) (e :: es) [] pos) X.env = (do
      let ov ← eval o X.env
      standAt apos.atName
      let (f, first) ← holding [ov] (getMethod ov m pl)
      callWith pos f first (backTo pos (starEach (e :: es) X.env)) (backToKw pos (keywordEach [] X.env))))
    (h : EvP X B o δ ρ fun d ρ1 => InsAt ρ1 d C m ∧ AgP X B (e :: es) δ ρ1 fun as ρ2 => as.length = n ∧ Wp (d :: as) ρ2 Φ fun C ρ' => Ψ C δ ρ') : EvP X B (.Call (.Attribute o m apos) (e :: es) [] pos) δ ρ Φ := by
  obtain ⟨rfl, rfl, rfl, rfl, rfl⟩ := E
  exact ev_meth c F hj hst hpl ht h
theorem ev_methN0 {C : Addr} {m : Str} {apos : Pos} {pl : Sem Bool} (c : CxOk X B W Ψ k) (E : CxE X P w K mg base) (F : MetOk P w K mg base C m j 1 Wp) (hj : j ≤ k)
    (ht : eval (.Call (.Attribute o m apos) [] [] pos) X.env = (do
      let ov ← eval o X.env
      standAt apos.atName
      let (f, first) ← holding [ov] (getMethod ov m pl)
      callWith pos f first (backTo pos (starEach [] X.env)) (backToKw pos (keywordEach [] X.env))))
    (h : EvP X B o δ ρ fun d ρ1 => InsAt ρ1 d C m ∧ Wp [d] ρ1 Φ fun C ρ' => Ψ C δ ρ') : EvP X B (.Call (.Attribute o m apos) [] [] pos) δ ρ Φ := by
  obtain ⟨rfl, rfl, rfl, rfl, rfl⟩ := E
  exact ev_meth0 c F hj ht h
/-- x = [1, 2, ..]: whole numbers as they are written -/
def litsOf : List Expr → Option (List Int)
  | [] => some []
  | .Constant (.int i) _ _ :: r => (litsOf r).map (i :: ·)
  | _ => none
theorem ag_lits : ∀ {es : List Expr} {ns : List Int} {Φ : List D → Rs → Prop}, litsOf es = some ns → Φ (ns.map D.int) ρ → AgP X B es δ ρ Φ
  | [], ns, Φ, h, q => by
    cases h
    exact ag_nil q
  | .Constant (.int i) j p :: r, ns, Φ, h, q => by
    unfold litsOf at h
    cases e : litsOf r with
    | none => rw [e] at h; cases h
    | some ms =>
      rw [e] at h
      cases h
      exact ag_cons rfl (ev_int (ag_lits e q))
theorem sts_lits {N : List Str} {i : Nat} {x : Str} {pos' p2 : Pos} {ns : List Int} {rest : List Stmt} {K : EK} (c : CxOk X B W Ψ k) (hX : X.N = N) (hi : N[i]? = some x) (hx : Loc X.env.scope x) (hf : X.fn x = true ∨ X.env.scope.names.lookup x = some .local)
    (h : litsOf es = some ns) (hz : ns.length ≤ sizeLine) (q : StPs X B rest (δ.set i (some (.lst (ns.map D.int)))) ρ K) : StPs X B (.Assign [.Name x pos'] (.List es p2) pos :: rest) δ ρ K :=
  sts_cons (st_setM c hX hi hx rfl hf (ev_lst (ag_lits h ⟨by simpa using hz, q⟩)))
end
end Lw

set_option maxHeartbeats 1000000
/-! name = [.. for ..] on one line. -/
namespace Lw
open PySem PySem.Spec PyProof.Rows L2
section
variable {X : Cx} {B : Base} {W : WX} {Ψ : Addr → Dl → Rs → Prop} {k : Nat} {δ : Dl} {ρ : Rs} {K : EK} {elt tg iter : Expr} {ifs : List Expr} {scope : Scope} {own : List (Str × Nat)} {pos spos py : Pos} {y : Str} {i : Nat}
theorem st_setLcR {N : List Str} {a : Expr} {p ps : Pos} {g : TG} {vs : List Nat} {f : D → Dl → Dl → Prop} (c : CxOk X B W Ψ k) (hX : X.N = N) (hi : N[i]? = some y) (hyl : X.env.scope.names.lookup y = some .local) (ok : BlkOk X.N X.env.scope scope own) (hv : own.map (·.2) = vs) (tgt : Tgt X scope tg g vs f) (hg : Gl X "range") (hm : X.mg "range" = none) (hs : starEach [a] X.env = [(false, eval a X.env)]) (hf : ∀ x, foldedSetIterable (.Call (.Name "range" p) [a] [] ps) X.env x = pure x)
    (hsw : swapsWith (.ListComp elt [⟨tg, .Call (.Name "range" p) [a] [] ps, ifs, 0⟩] scope pos) (some (.Name y py)) spos.line X.env = pure true)
    (h : EvP X B a δ ρ fun d ρ1 => ∃ j : Int, d = .int j ∧ -(2 ^ 62) ≤ j ∧ j < 2 ^ 62 ∧ ∃ I : Nat → List D → Rs → Prop, I 0 [] ρ1 ∧
      (∀ m : Nat, m < j.toNat → LcBody X B scope ifs elt vs f δ I m (.int m)) ∧ (∀ acc ρ p, I j.toNat acc ρ → B.H p = none → K.nx (δ.set i (some (.obj p))) ((p, .ol acc) :: ρ))) : StP X B (.Assign [.Name y py] (.ListComp elt [⟨tg, .Call (.Name "range" p) [a] [] ps, ifs, 0⟩] scope pos) spos) δ ρ K := fun σ H ds ws Dn st l => by
  subst hv hX
  refine (ps_setLc (g := g) (tt := tTb X scope ifs) (te := tEb X scope elt) c.calm c.nd hi hyl hsw (pi_range1 hg hm (pa_cons (pE a) pa_nil hs) hs) ok tgt.pg (fun s H C cl fp => ⟨fun pins s' σ H Q I h => h s _ C cl fp pins s' I⟩) (fun s H C cl fp => ⟨fun pins s' σ H Q I h => h s _ C cl fp pins s' I⟩) hf).to ?_
  refine h σ H ds ws _ st fun d ρ1 v H1 h1 s1 => ?_
  obtain ⟨j, rfl, q1, q2, I, h0, hb, hd⟩ := h1
  obtain ⟨S, T, t⟩ := id s1
  refine ⟨j, by rw [show v = V.int j from t.tmp.hd], q1, q2, lc_loop (Φ := fun d ρ' => K.nx (δ.set i (some d)) ρ') (n := j.toNat) (item := fun m => .int m) tgt I (fun m acc ρ H p hI s => ⟨fun h => h, fun h => ⟨h, fun x H' hy => ?_⟩⟩) h0 s1.pop (fun m acc ρ p hm hI => hb m hm acc ρ p hI) hd fun d ρ' v H' h2 s2 => l.nx _ _ _ _ h2 s2.set⟩
  obtain ⟨e1, e2⟩ := hy
  subst e2
  refine ⟨e1, s.push fun _ => ?_⟩
  show V.int (0 + (m : Int)) = V.int m
  rw [Int.zero_add]
theorem st_setLcL {N : List Str} {g : TG} {vs : List Nat} {f : D → Dl → Dl → Prop} (c : CxOk X B W Ψ k) (hX : X.N = N) (hi : N[i]? = some y) (hyl : X.env.scope.names.lookup y = some .local) (ok : BlkOk X.N X.env.scope scope own) (hv : own.map (·.2) = vs) (tgt : Tgt X scope tg g vs f) (hs : ∀ x, foldedSetIterable iter X.env x = pure x)
    (hsw : swapsWith (.ListComp elt [⟨tg, iter, ifs, 0⟩] scope pos) (some (.Name y py)) spos.line X.env = pure true)
    (h : EvP X B iter δ ρ fun d ρ1 => ∃ xs, LstAt ρ1 d xs ∧ ∃ I : Nat → List D → Rs → Prop, I 0 [] ρ1 ∧ (∀ i acc ρ, I i acc ρ → LstAt ρ d xs) ∧
      (∀ m x, xs[m]? = some x → LcBody X B scope ifs elt vs f δ I m x) ∧ (∀ acc ρ p, I xs.length acc ρ → B.H p = none → K.nx (δ.set i (some (.obj p))) ((p, .ol acc) :: ρ))) : StP X B (.Assign [.Name y py] (.ListComp elt [⟨tg, iter, ifs, 0⟩] scope pos) spos) δ ρ K := fun σ H ds ws Dn st l => by
  subst hv hX
  refine (ps_setLc (g := g) (tt := tTb X scope ifs) (te := tEb X scope elt) c.calm c.nd hi hyl hsw (pi_list (pE iter)) ok tgt.pg (fun s H C cl fp => ⟨fun pins s' σ H Q I h => h s _ C cl fp pins s' I⟩) (fun s H C cl fp => ⟨fun pins s' σ H Q I h => h s _ C cl fp pins s' I⟩) hs).to ?_
  refine h σ H ds ws _ st fun d ρ1 v H1 h1 s1 => ?_
  obtain ⟨xs, hl, I, h0, hst, hb, hd⟩ := h1
  obtain ⟨S, T, t⟩ := id s1
  obtain ⟨a, ys, e1, e2, e3⟩ := hl.sq t t.tmp.hd
  subst e1
  refine ⟨a, rfl, ⟨ys, SqL.of e2⟩, lc_loop (Φ := fun d ρ' => K.nx (δ.set i (some d)) ρ') (Q := fun v H' => Dn.nx (σ.set i (some v)) H') (n := xs.length) (item := fun m => xs.getD m .non) tgt I (fun m acc ρ H p hI s => it_list ((hst m acc ρ hI).cons _) s m) h0 s1 (fun m acc ρ p hm hI => ?_) hd fun d ρ' v H' h2 s2 => ?_⟩
  · refine hb m _ ?_ acc ρ p hI
    rw [List.getD_eq_getElem?_getD, List.getElem?_eq_getElem hm]; rfl
  · obtain ⟨S, T, t⟩ := s2
    have s3 : StV X.K B δ ρ' σ H' (d :: ds) (v :: ws) := ⟨S, T, t.re t.env (.cons t.tmp.hd t.tmp.tl.tl)⟩
    exact l.nx _ _ _ _ h2 s3.set
end
end Lw

set_option maxHeartbeats 2000000
namespace Lw
open PySem PySem.Spec PyProof.Rows L2
def top (i : Nat) : Stmt := PySem.Challenge.pw_lastwill_k02_slots.main.body.getD i (.Pass ⟨0, 0, 0, 0⟩)
abbrev sf_is_deed : Stmt := top 14
abbrev nf_is_deed : List Str := ["deed", "at"]
theorem scf_is_deed : FnScope nf_is_deed ["deed"] (defScope sf_is_deed) := ⟨rfl, rfl, rfl, by decide +kernel, rfl, by decide +kernel, by decide +kernel⟩
abbrev sm_init : Stmt := inClass (top 15) 0
abbrev nm_init : List Str := ["self"]
theorem scm_init : FnScope nm_init ["self"] (defScope sm_init) := ⟨rfl, rfl, rfl, by decide +kernel, rfl, by decide +kernel, by decide +kernel⟩
abbrev sm_need_box : Stmt := inClass (top 15) 1
abbrev nm_need_box : List Str := ["self", "box"]
theorem scm_need_box : FnScope nm_need_box ["self", "box"] (defScope sm_need_box) := ⟨rfl, rfl, rfl, by decide +kernel, rfl, by decide +kernel, by decide +kernel⟩
abbrev sm_need_slot : Stmt := inClass (top 15) 2
abbrev nm_need_slot : List Str := ["self", "box", "slot"]
theorem scm_need_slot : FnScope nm_need_slot ["self", "box", "slot"] (defScope sm_need_slot) := ⟨rfl, rfl, rfl, by decide +kernel, rfl, by decide +kernel, by decide +kernel⟩
abbrev sm_make : Stmt := inClass (top 15) 3
abbrev nm_make : List Str := ["self", "size", "box"]
theorem scm_make : FnScope nm_make ["self", "size"] (defScope sm_make) := ⟨rfl, rfl, rfl, by decide +kernel, rfl, by decide +kernel, by decide +kernel⟩
abbrev sm_boxes : Stmt := inClass (top 15) 4
abbrev nm_boxes : List Str := ["self"]
theorem scm_boxes : FnScope nm_boxes ["self"] (defScope sm_boxes) := ⟨rfl, rfl, rfl, by decide +kernel, rfl, by decide +kernel, by decide +kernel⟩
abbrev sm_size : Stmt := inClass (top 15) 5
abbrev nm_size : List Str := ["self", "box"]
theorem scm_size : FnScope nm_size ["self", "box"] (defScope sm_size) := ⟨rfl, rfl, rfl, by decide +kernel, rfl, by decide +kernel, by decide +kernel⟩
abbrev sm_put : Stmt := inClass (top 15) 6
abbrev nm_put : List Str := ["self", "box", "slot", "other", "holds"]
theorem scm_put : FnScope nm_put ["self", "box", "slot", "other", "holds"] (defScope sm_put) := ⟨rfl, rfl, rfl, by decide +kernel, rfl, by decide +kernel, by decide +kernel⟩
abbrev sm_empty : Stmt := inClass (top 15) 7
abbrev nm_empty : List Str := ["self", "box", "slot"]
theorem scm_empty : FnScope nm_empty ["self", "box", "slot"] (defScope sm_empty) := ⟨rfl, rfl, rfl, by decide +kernel, rfl, by decide +kernel, by decide +kernel⟩
abbrev sm_told : Stmt := inClass (top 15) 8
abbrev nm_told : List Str := ["self", "box", "slot"]
theorem scm_told : FnScope nm_told ["self", "box", "slot"] (defScope sm_told) := ⟨rfl, rfl, rfl, by decide +kernel, rfl, by decide +kernel, by decide +kernel⟩
abbrev sm_take : Stmt := inClass (top 15) 9
abbrev nm_take : List Str := ["self", "box"]
theorem scm_take : FnScope nm_take ["self", "box"] (defScope sm_take) := ⟨rfl, rfl, rfl, by decide +kernel, rfl, by decide +kernel, by decide +kernel⟩
abbrev sm_drop : Stmt := inClass (top 15) 10
abbrev nm_drop : List Str := ["self", "box"]
theorem scm_drop : FnScope nm_drop ["self", "box"] (defScope sm_drop) := ⟨rfl, rfl, rfl, by decide +kernel, rfl, by decide +kernel, by decide +kernel⟩
abbrev sm_hands : Stmt := inClass (top 15) 11
abbrev nm_hands : List Str := ["self"]
theorem scm_hands : FnScope nm_hands ["self"] (defScope sm_hands) := ⟨rfl, rfl, rfl, by decide +kernel, rfl, by decide +kernel, by decide +kernel⟩
abbrev sm_pair : Stmt := inClass (top 15) 12
abbrev nm_pair : List Str := ["self", "home", "key", "other", "box", "number"]
theorem scm_pair : FnScope nm_pair ["self", "home", "key", "other"] (defScope sm_pair) := ⟨rfl, rfl, rfl, by decide +kernel, rfl, by decide +kernel, by decide +kernel⟩
abbrev sm_unpair : Stmt := inClass (top 15) 13
abbrev nm_unpair : List Str := ["self", "pair"]
theorem scm_unpair : FnScope nm_unpair ["self", "pair"] (defScope sm_unpair) := ⟨rfl, rfl, rfl, by decide +kernel, rfl, by decide +kernel, by decide +kernel⟩
abbrev sm_pairs : Stmt := inClass (top 15) 14
abbrev nm_pairs : List Str := ["self", "number"]
theorem scm_pairs : FnScope nm_pairs ["self"] (defScope sm_pairs) := ⟨rfl, rfl, rfl, by decide +kernel, rfl, by decide +kernel, by decide +kernel⟩
abbrev sm_bequeath : Stmt := inClass (top 15) 15
abbrev nm_bequeath : List Str := ["self", "box", "deeds", "deed"]
theorem scm_bequeath : FnScope nm_bequeath ["self", "box", "deeds"] (defScope sm_bequeath) := ⟨rfl, rfl, rfl, by decide +kernel, rfl, by decide +kernel, by decide +kernel⟩
abbrev sm_will : Stmt := inClass (top 15) 16
abbrev nm_will : List Str := ["self", "box"]
theorem scm_will : FnScope nm_will ["self", "box"] (defScope sm_will) := ⟨rfl, rfl, rfl, by decide +kernel, rfl, by decide +kernel, by decide +kernel⟩
abbrev sf_law_cell_at : Stmt := top 17
abbrev nf_law_cell_at : List Str := ["_law_script", "_law_k"]
theorem scf_law_cell_at : FnScope nf_law_cell_at ["_law_script", "_law_k"] (defScope sf_law_cell_at) := ⟨rfl, rfl, rfl, by decide +kernel, rfl, by decide +kernel, by decide +kernel⟩
abbrev sf_law_whole : Stmt := top 18
abbrev nf_law_whole : List Str := ["_law_found"]
theorem scf_law_whole : FnScope nf_law_whole ["_law_found"] (defScope sf_law_whole) := ⟨rfl, rfl, rfl, by decide +kernel, rfl, by decide +kernel, by decide +kernel⟩
abbrev sf_law_mixed : Stmt := top 19
abbrev nf_law_mixed : List Str := ["_law_cell", "_law_k", "_law_many", "_law_some", "_law_made_here"]
theorem scf_law_mixed : FnScope nf_law_mixed ["_law_cell", "_law_k", "_law_many"] (defScope sf_law_mixed) := ⟨rfl, rfl, rfl, by decide +kernel, rfl, by decide +kernel, by decide +kernel⟩
abbrev sf_law_numbers : Stmt := top 20
abbrev nf_law_numbers : List Str := ["_law_found", "_law_due", "_law_k"]
theorem scf_law_numbers : FnScope nf_law_numbers ["_law_found", "_law_due"] (defScope sf_law_numbers) := ⟨rfl, rfl, rfl, by decide +kernel, rfl, by decide +kernel, by decide +kernel⟩
abbrev sf_law_class : Stmt := top 21
abbrev nf_law_class : List Str := ["_law_e", "_law_words"]
theorem scf_law_class : FnScope nf_law_class ["_law_e"] (defScope sf_law_class) := ⟨rfl, rfl, rfl, by decide +kernel, rfl, by decide +kernel, by decide +kernel⟩
abbrev sf_law_world : Stmt := top 22
abbrev nf_law_world : List Str := []
theorem scf_law_world : FnScope nf_law_world [] (defScope sf_law_world) := ⟨rfl, rfl, rfl, by decide +kernel, rfl, by decide +kernel, by decide +kernel⟩
abbrev sf_law_no_slot : Stmt := top 23
abbrev nf_law_no_slot : List Str := ["_law_world_here", "_law_box", "_law_slot"]
theorem scf_law_no_slot : FnScope nf_law_no_slot ["_law_world_here", "_law_box", "_law_slot"] (defScope sf_law_no_slot) := ⟨rfl, rfl, rfl, by decide +kernel, rfl, by decide +kernel, by decide +kernel⟩
abbrev sf_law_made : Stmt := top 24
abbrev nf_law_made : List Str := ["_law_world_here", "_law_size", "_law_box"]
theorem scf_law_made : FnScope nf_law_made ["_law_world_here", "_law_size"] (defScope sf_law_made) := ⟨rfl, rfl, rfl, by decide +kernel, rfl, by decide +kernel, by decide +kernel⟩
abbrev sf_law_put_by : Stmt := top 25
abbrev nf_law_put_by : List Str := ["_law_world_here", "_law_deed", "_law_word_here"]
theorem scf_law_put_by : FnScope nf_law_put_by ["_law_world_here", "_law_deed"] (defScope sf_law_put_by) := ⟨rfl, rfl, rfl, by decide +kernel, rfl, by decide +kernel, by decide +kernel⟩
abbrev sf_law_hand_by : Stmt := top 26
abbrev nf_law_hand_by : List Str := ["_law_world_here", "_law_deed"]
theorem scf_law_hand_by : FnScope nf_law_hand_by ["_law_world_here", "_law_deed"] (defScope sf_law_hand_by) := ⟨rfl, rfl, rfl, by decide +kernel, rfl, by decide +kernel, by decide +kernel⟩
abbrev sf_law_pair_by : Stmt := top 27
abbrev nf_law_pair_by : List Str := ["_law_world_here", "_law_deed", "_law_box"]
theorem scf_law_pair_by : FnScope nf_law_pair_by ["_law_world_here", "_law_deed"] (defScope sf_law_pair_by) := ⟨rfl, rfl, rfl, by decide +kernel, rfl, by decide +kernel, by decide +kernel⟩
abbrev sf_law_will_by : Stmt := top 28
abbrev nf_law_will_by : List Str := ["_law_world_here", "_law_deed", "_law_one"]
theorem scf_law_will_by : FnScope nf_law_will_by ["_law_world_here", "_law_deed"] (defScope sf_law_will_by) := ⟨rfl, rfl, rfl, by decide +kernel, rfl, by decide +kernel, by decide +kernel⟩
abbrev sf_law_done_by : Stmt := top 29
abbrev nf_law_done_by : List Str := ["_law_world_here", "_law_deed"]
theorem scf_law_done_by : FnScope nf_law_done_by ["_law_world_here", "_law_deed"] (defScope sf_law_done_by) := ⟨rfl, rfl, rfl, by decide +kernel, rfl, by decide +kernel, by decide +kernel⟩
abbrev sf_law_told : Stmt := top 30
abbrev nf_law_told : List Str := ["_law_chest", "_law_deed"]
theorem scf_law_told : FnScope nf_law_told ["_law_chest", "_law_deed"] (defScope sf_law_told) := ⟨rfl, rfl, rfl, by decide +kernel, rfl, by decide +kernel, by decide +kernel⟩
abbrev sf_law_word : Stmt := top 31
abbrev nf_law_word : List Str := ["_law_chest", "_law_deed", "_law_e"]
theorem scf_law_word : FnScope nf_law_word ["_law_chest", "_law_deed"] (defScope sf_law_word) := ⟨rfl, rfl, rfl, by decide +kernel, rfl, by decide +kernel, by decide +kernel⟩
abbrev sf_law_step : Stmt := top 32
abbrev nf_law_step : List Str := ["_law_chest", "_law_world_here", "_law_deed", "_law_found", "_law_due"]
theorem scf_law_step : FnScope nf_law_step ["_law_chest", "_law_world_here", "_law_deed"] (defScope sf_law_step) := ⟨rfl, rfl, rfl, by decide +kernel, rfl, by decide +kernel, by decide +kernel⟩
abbrev sf_law_slot_is : Stmt := top 33
abbrev nf_law_slot_is : List Str := ["_law_found", "_law_due"]
theorem scf_law_slot_is : FnScope nf_law_slot_is ["_law_found", "_law_due"] (defScope sf_law_slot_is) := ⟨rfl, rfl, rfl, by decide +kernel, rfl, by decide +kernel, by decide +kernel⟩
abbrev sf_law_rows : Stmt := top 34
abbrev nf_law_rows : List Str := ["_law_found", "_law_due", "_law_k", "_law_one"]
theorem scf_law_rows : FnScope nf_law_rows ["_law_found", "_law_due"] (defScope sf_law_rows) := ⟨rfl, rfl, rfl, by decide +kernel, rfl, by decide +kernel, by decide +kernel⟩
abbrev sf_law_deeds_are : Stmt := top 35
abbrev nf_law_deeds_are : List Str := ["_law_found", "_law_due", "_law_k"]
theorem scf_law_deeds_are : FnScope nf_law_deeds_are ["_law_found", "_law_due"] (defScope sf_law_deeds_are) := ⟨rfl, rfl, rfl, by decide +kernel, rfl, by decide +kernel, by decide +kernel⟩
abbrev sf_law_asked : Stmt := top 36
abbrev nf_law_asked : List Str := ["_law_chest", "_law_world_here", "_law_way", "_law_kept", "_law_found", "_law_pair", "_law_box", "_law_dues", "_law_slot"]
theorem scf_law_asked : FnScope nf_law_asked ["_law_chest", "_law_world_here", "_law_way", "_law_kept"] (defScope sf_law_asked) := ⟨rfl, rfl, rfl, by decide +kernel, rfl, by decide +kernel, by decide +kernel⟩
abbrev sf_law_like : Stmt := top 37
abbrev nf_law_like : List Str := ["_law_chest", "_law_world_here", "_law_cell", "_law_kept", "_law_turn", "_law_step_here", "_law_k"]
theorem scf_law_like : FnScope nf_law_like ["_law_chest", "_law_world_here", "_law_cell", "_law_kept"] (defScope sf_law_like) := ⟨rfl, rfl, rfl, by decide +kernel, rfl, by decide +kernel, by decide +kernel⟩
abbrev sf_law_stay : Stmt := top 38
abbrev nf_law_stay : List Str := ["_law_kept", "_law_one"]
theorem scf_law_stay : FnScope nf_law_stay ["_law_kept"] (defScope sf_law_stay) := ⟨rfl, rfl, rfl, by decide +kernel, rfl, by decide +kernel, by decide +kernel⟩
abbrev sf_law_slots_are : Stmt := top 39
abbrev nf_law_slots_are : List Str := ["_law_chest", "_law_world_here", "_law_box", "_law_slots", "_law_slot"]
theorem scf_law_slots_are : FnScope nf_law_slots_are ["_law_chest", "_law_world_here", "_law_box"] (defScope sf_law_slots_are) := ⟨rfl, rfl, rfl, by decide +kernel, rfl, by decide +kernel, by decide +kernel⟩
abbrev sf_law : Stmt := top 40
abbrev nf_law : List Str := ["_law_script", "_law_many", "_law_chest", "_law_world_here", "_law_box", "_law_cell", "_law_other", "_law_slot", "_law_deed"]
theorem scf_law : FnScope nf_law ["_law_script"] (defScope sf_law) := ⟨rfl, rfl, rfl, by decide +kernel, rfl, by decide +kernel, by decide +kernel⟩
/-! the classes, what the module has -/
structure Gn where
  willErr : Addr
  C : Addr
  noBox : Addr
  noSlot : Addr
  noHand : Addr
  noPair : Addr
  noWill : Addr
  tooMany : Addr
  noText : Addr
structure ExF (K : PySem.W.Frag) (mg : Str → Option Value) (x : Str) (C : Addr) : Prop where
  gP : mg x = some (.ref C)
  xP : PySem.W.excIn K C [.type "ValueError", .type "Exception", .type "BaseException", .type "object"] "ValueError.__new__" = true
  kP : PySem.W.keepIn K (.ref C) = true
  bP : PySem.W.subIn K (.ref C) (.type "BaseException") = some true
  tP : PySem.W.typeIn K (.ref C) = some (.type "type")
theorem st_rs {X : Cx} {B : Base} {W : WX} {Ψ : Addr → Dl → Rs → Prop} {k : Nat} {δ : Dl} {ρ : Rs} {x m : Str} {i : Nat} {p p2 cpos pos : Pos} {C : Addr} {K : EK} (e : ExF X.K X.mg x C) (c : CxOk X B W Ψ k) (hg : Gl X x) (h : Ψ C δ ρ) (hdb : (x == ("__debug__" : Str)) = false := by decide) :
    StP X B (.Raise (some (.Call (.Name x p) [.Constant (.str m) i p2] [] cpos)) none pos) δ ρ K := st_raise c PySem.F.excBase_ValueError e.xP e.gP e.kP (raises_own e.bP e.tP) hg h hdb
structure Txt (K : PySem.W.Frag) (mg : Str → Option Value) (G : Gn) : Prop where
  cl : Cls K G.C
  n1 : NoAttr K G.C "slots"
  n2 : NoAttr K G.C "held"
  n3 : NoAttr K G.C "paired"
  n4 : NoAttr K G.C "wills"
  n5 : NoAttr K G.C "coming"
  n6 : NoAttr K G.C "next_pair"
  ms : ∃ t, mg "MOST_SLOTS" = some (.int 9 t)
  mb : ∃ t, mg "MOST_BOXES" = some (.int 60 t)
  len : mg "len" = none
  sorted : mg "sorted" = none
  isi : mg "isinstance" = none
  all : mg "all" = none
  min : mg "min" = none
  max : mg "max" = none
  list : mg "list" = none
  int : mg "int" = none
  bool : mg "bool" = none
  tuple : mg "tuple" = none
  range : mg "range" = none
  x1 : ExF K mg "NoBox" G.noBox
  x2 : ExF K mg "NoSlot" G.noSlot
  x3 : ExF K mg "NoHand" G.noHand
  x4 : ExF K mg "NoPair" G.noPair
  x5 : ExF K mg "NoWill" G.noWill
  x6 : ExF K mg "TooMany" G.tooMany
  x7 : ExF K mg "NoText" G.noText
  ve : mg "ValueError" = none
-- the walk over data: one step after another
local macro_rules | `(tactic| wtm_at "L.vis") => `(tactic| first | exact Or.inl rfl | exact Or.inr (Or.inl rfl) | exact Or.inr (Or.inr rfl))
local macro_rules | `(tactic| wtm_at "L.loc") => `(tactic| first | exact Or.inl rfl | exact Or.inr rfl)
local macro_rules | `(tactic| wtm_at "L.at") => `(tactic| first | with_reducible assumption | with_reducible exact at_hd | with_reducible exact at_set (by with_reducible assumption) | with_reducible exact at_ne (by with_reducible assumption) (by with_reducible assumption) | (with_reducible apply at_tl; wtm_at "L.at"))
local macro_rules | `(tactic| wtm_at "L.cx") => `(tactic| first | with_reducible assumption | exact CxOk.blk (by with_reducible assumption) _ _ _ _ _)
local macro_rules | `(tactic| wtm_at "L.N") => `(tactic| with_reducible first | exact cx_N | exact blk_N cx_N | exact tr_N cx_N | exact suite_N cx_N | exact cxH_N | exact blk_N (tr_N cx_N))
local macro_rules | `(tactic| wtm_at "L.ix") => `(tactic| first | with_reducible exact nm_z | (with_reducible apply nm_s; wtm_at "L.ix"))
local macro_rules | `(tactic| wtm_at "L.E") => `(tactic| with_reducible first | exact cx_E | exact blk_E cx_E | exact tr_E cx_E | exact blk_E (tr_E cx_E))
local macro_rules | `(tactic| wtm_at "L.nm") => `(tactic| (((with_reducible show EvP _ _ (Expr.Name _ _) _ _ _)); refine ev_nameN (by wtm_at "L.N") (by wtm_at "L.ix") (by wtm_at "L.vis") ?_; refine ⟨_, rfl, ?_⟩))
local macro_rules | `(tactic| wtm_at "L.set") => `(tactic| (((with_reducible show StP _ _ (Stmt.Assign [Expr.Name _ _] _ _) _ _ _)); refine st_setM (by with_reducible assumption) (by wtm_at "L.N") (by wtm_at "L.ix") (by wtm_at "L.loc") rfl (Or.inl rfl) ?_))
local macro_rules | `(tactic| wtm_at "L.tgn") => `(tactic| (((with_reducible show TgP _ _ (Expr.Name _ _) _ _ _ _)); refine tg_nameN (by with_reducible assumption) (by wtm_at "L.N") (by wtm_at "L.ix") (by wtm_at "L.loc") (Or.inl rfl) ?_))

local macro_rules | `(tactic| wtm_at "L.lst") => `(tactic| first | with_reducible exact LstAt.l | exact LstAt.o _ (by wtm_at "L.at") | with_reducible assumption | exact LstAt.i (by wtm_at "L.at") (by with_reducible assumption))
local macro_rules | `(tactic| wtm_at "L.dct") => `(tactic| first | exact DctAt.o _ (by wtm_at "L.at") | exact DctAt.l _ (by wtm_at "L.at") | exact DctAt.oF _ (by wtm_at "L.at") | exact DctAt.lF _ (by wtm_at "L.at") | with_reducible assumption)
local macro_rules | `(tactic| wtm_at "L.txt") => `(tactic| with_reducible assumption)
local macro_rules | `(tactic| wtm_at "L.attr") => `(tactic| (((with_reducible show EvP _ _ (Expr.Attribute _ _ _) _ _ _)); refine ev_attr rfl ?_; wtm_at "L.nm"; refine ⟨_, _, _, _, _, rfl, (by wtm_at "L.at"), Txt.cl (by assumption), ?_, rfl, ?_⟩; first
  | ((with_reducible show NoAttr _ _ "slots"); exact Txt.n1 (by assumption)) | ((with_reducible show NoAttr _ _ "held"); exact Txt.n2 (by assumption)) | ((with_reducible show NoAttr _ _ "paired"); exact Txt.n3 (by assumption)) | ((with_reducible show NoAttr _ _ "wills"); exact Txt.n4 (by assumption)) | ((with_reducible show NoAttr _ _ "coming"); exact Txt.n5 (by assumption)) | ((with_reducible show NoAttr _ _ "next_pair"); exact Txt.n6 (by assumption))))
local macro_rules | `(tactic| wtm_at "L.units") => `(tactic| exact (CxOk.room (by wtm_at "L.cx")).units)
local macro_rules | `(tactic| wtm_at "L.cls") => `(tactic| ((with_reducible show EvP _ _ (Expr.Name _ _) _ _ _); first
  | ((with_reducible show EvP _ _ (Expr.Name "NoBox" _) _ _ _); refine ev_gref rfl (ExF.gP (Txt.x1 (by assumption))) ?_)
  | ((with_reducible show EvP _ _ (Expr.Name "NoSlot" _) _ _ _); refine ev_gref rfl (ExF.gP (Txt.x2 (by assumption))) ?_)
  | ((with_reducible show EvP _ _ (Expr.Name "NoHand" _) _ _ _); refine ev_gref rfl (ExF.gP (Txt.x3 (by assumption))) ?_)
  | ((with_reducible show EvP _ _ (Expr.Name "NoPair" _) _ _ _); refine ev_gref rfl (ExF.gP (Txt.x4 (by assumption))) ?_)
  | ((with_reducible show EvP _ _ (Expr.Name "NoWill" _) _ _ _); refine ev_gref rfl (ExF.gP (Txt.x5 (by assumption))) ?_)
  | ((with_reducible show EvP _ _ (Expr.Name "TooMany" _) _ _ _); refine ev_gref rfl (ExF.gP (Txt.x6 (by assumption))) ?_)
  | ((with_reducible show EvP _ _ (Expr.Name "NoText" _) _ _ _); refine ev_gref rfl (ExF.gP (Txt.x7 (by assumption))) ?_)
  | ((with_reducible show EvP _ _ (Expr.Name "int" _) _ _ _); refine ev_ty (n := "int") rfl (Txt.int (by assumption)) (by decide +kernel) ?_)
  | ((with_reducible show EvP _ _ (Expr.Name "bool" _) _ _ _); refine ev_ty (n := "bool") rfl (Txt.bool (by assumption)) (by decide +kernel) ?_)
  | ((with_reducible show EvP _ _ (Expr.Name "list" _) _ _ _); refine ev_ty (n := "list") rfl (Txt.list (by assumption)) (by decide +kernel) ?_)
  | ((with_reducible show EvP _ _ (Expr.Name "ValueError" _) _ _ _); refine ev_ty (n := "ValueError") rfl (Txt.ve (by assumption)) (by decide +kernel) ?_)
  | ((with_reducible show EvP _ _ (Expr.Name "MOST_SLOTS" _) _ _ _); refine ev_gint rfl (Txt.ms (by assumption)) ?_)
  | ((with_reducible show EvP _ _ (Expr.Name "MOST_BOXES" _) _ _ _); refine ev_gint rfl (Txt.mb (by assumption)) ?_)))
local macro_rules | `(tactic| wtm_at "L.e") => `(tactic| ((with_reducible show EvP _ _ _ _ _ _); first
  | wtm_at "L.cls" | wtm_at "L.nm" | with_reducible refine ev_int ?_ | with_reducible refine ev_str ?_ | with_reducible refine ev_bl ?_ | with_reducible refine ev_non ?_
  | with_reducible refine ev_bin ?_ | wtm_at "L.attr" | wtm_at "L.cmp" | with_reducible refine ev_un ?_ | wtm_at "L.sub" | wtm_at "L.callB"))
local macro_rules | `(tactic| wtm_at "L.tcmp") => `(tactic| ((with_reducible show TsP _ _ (Expr.Compare _ _ _ _) _ _ _); first | refine ts_cmp (nomark _) ?_ | refine ts_cmp rfl ?_ | refine ts_chain rfl ?_))
local macro_rules | `(tactic| wtm_at "L.t") => `(tactic| ((with_reducible show TsP _ _ _ _ _ _); first | wtm_at "L.tcmp" | with_reducible refine ts_not ?_ | (with_reducible show TsP _ _ (Expr.BoolOp _ _ _) _ _ _; with_reducible refine ts_w ?_) | refine ts_tru (fun _ => rfl) ?_))
local macro_rules | `(tactic| wtm_at "L.w") => `(tactic| ((with_reducible show TwP _ _ _ _ _ _); with_reducible first | refine tw_and1 ?_ | refine tw_or1 ?_ | refine tw_and ?_ | refine tw_or ?_))
local macro_rules | `(tactic| wtm_at "L.cmp") => `(tactic| ((with_reducible show EvP _ _ (Expr.Compare _ _ _ _) _ _ _); first | refine ev_cmp (nomark _) ?_ | refine ev_cmp rfl ?_))
local macro_rules | `(tactic| wtm_at "L.sub") => `(tactic| ((with_reducible show EvP _ _ (Expr.Subscript _ _ _) _ _ _); first | with_reducible refine ev_slice ?_ | refine ev_sub (fun _ _ => rfl) ?_))
local macro_rules | `(tactic| wtm_at "L.b") => `(tactic| ((with_reducible show BiP _ _ _ _ _ _ _); first
  | with_reducible refine bi_add ?_ | with_reducible refine bi_sub ?_ | with_reducible refine bi_lt ?_ | with_reducible refine bi_le ?_ | with_reducible refine bi_gt ?_ | with_reducible refine bi_ge ?_
  | with_reducible refine bi_eqI ?_ | with_reducible refine bi_neI ?_ | with_reducible refine bi_eqS ?_ | with_reducible refine bi_neS ?_ | with_reducible refine bi_isN ?_ | with_reducible refine bi_notN ?_
  | with_reducible refine bi_mod (by decide) ?_ | with_reducible refine bi_fdiv (by decide) ?_
  | refine bi_inD (by wtm_at "L.units") (by wtm_at "L.dct") ?_ | refine bi_ninD (by wtm_at "L.units") (by wtm_at "L.dct") ?_))
local macro_rules | `(tactic| wtm_at "L.a") => `(tactic| ((with_reducible show AgP _ _ _ _ _ _); first | with_reducible refine ag_nil ?_ | refine ag_cons rfl ?_))
local macro_rules | `(tactic| wtm_at "L.o") => `(tactic| ((with_reducible show PtP _ _ _ _ _ _); first | with_reducible refine pt_none ?_ | with_reducible refine pt_some ?_))
local macro_rules | `(tactic| wtm_at "L.c") => `(tactic| ((with_reducible show ClP _ _ _ _ _ _); first
  | refine cl_lenL (by wtm_at "L.lst") ?_ | with_reducible refine cl_lenT ?_ | refine cl_lenD (by wtm_at "L.dct") ?_ | refine cl_lenX (by wtm_at "L.at") ?_))
local macro_rules | `(tactic| wtm_at "L.callB") => `(tactic| ((with_reducible show EvP _ _ (Expr.Call (Expr.Name _ _) _ _ _) _ _ _); first
  | ((with_reducible show EvP _ _ (Expr.Call (Expr.Name "len" _) _ _ _) _ _ _); refine ev_callB (id := "len") rfl (Txt.len (by assumption)) (by decide +kernel) ?_)
  | ((with_reducible show EvP _ _ (Expr.Call (Expr.Name "sorted" _) _ _ _) _ _ _); refine ev_callB (id := "sorted") rfl (Txt.sorted (by assumption)) (by decide +kernel) ?_)
  | ((with_reducible show EvP _ _ (Expr.Call (Expr.Name "isinstance" _) _ _ _) _ _ _); refine ev_callB (id := "isinstance") rfl (Txt.isi (by assumption)) (by decide +kernel) ?_)
  | ((with_reducible show EvP _ _ (Expr.Call (Expr.Name "all" _) _ _ _) _ _ _); refine ev_callB (id := "all") rfl (Txt.all (by assumption)) (by decide +kernel) ?_)
  | ((with_reducible show EvP _ _ (Expr.Call (Expr.Name "min" _) _ _ _) _ _ _); refine ev_callB (id := "min") rfl (Txt.min (by assumption)) (by decide +kernel) ?_)
  | ((with_reducible show EvP _ _ (Expr.Call (Expr.Name "max" _) _ _ _) _ _ _); refine ev_callB (id := "max") rfl (Txt.max (by assumption)) (by decide +kernel) ?_)
  | ((with_reducible show EvP _ _ (Expr.Call (Expr.Name "list" _) _ _ _) _ _ _); refine ev_callTy (T := "list") rfl (Txt.list (by assumption)) (by decide +kernel) ?_)
  | ((with_reducible show EvP _ _ (Expr.Call (Expr.Name "int" _) _ _ _) _ _ _); refine ev_callTy (T := "int") rfl (Txt.int (by assumption)) (by decide +kernel) ?_)
  ))
local macro_rules | `(tactic| wtm_at "L.meth") => `(tactic| ((with_reducible show EvP _ _ (Expr.Call (Expr.Attribute _ _ _) _ _ _) _ _ _); first
  | refine ev_methN (by wtm_at "L.cx") (by wtm_at "L.E") (by with_reducible assumption) (by decide) rfl rfl rfl ?_ | refine ev_methN0 (by wtm_at "L.cx") (by wtm_at "L.E") (by with_reducible assumption) (by decide) rfl ?_))
local macro_rules | `(tactic| wtm_at "L.ins") => `(tactic| exact InsAt.c (by wtm_at "L.at") (by decide +kernel))
local macro_rules | `(tactic| wtm_at "L.call") => `(tactic| ((with_reducible show EvP _ _ (Expr.Call (Expr.Name _ _) _ _ _) _ _ _); first
  | refine ev_callN (by wtm_at "L.cx") (by wtm_at "L.E") (by with_reducible assumption) (by decide) rfl ?_ | refine ev_callN0 (by wtm_at "L.cx") (by wtm_at "L.E") (by with_reducible assumption) (by decide) rfl ?_))
local macro_rules | `(tactic| wtm_at "L.tr") => `(tactic| ((with_reducible show TrP _ _ _ _ _); first | with_reducible refine tr_bl ?_ | with_reducible refine tr_int ?_ | with_reducible refine tr_non ?_ | refine tr_lst (by wtm_at "L.lst") ?_))
local macro_rules | `(tactic| wtm_at "L.n") => `(tactic| simp only [List.set_cons_succ, List.set_cons_zero, List.set_set])
local macro_rules | `(tactic| wtm_at "L.u") => `(tactic| ((with_reducible show UnP _ _ _ _ _ _); with_reducible refine un_neg' ?_))
local macro_rules | `(tactic| wtm_at "L.app") => `(tactic| (((with_reducible show EvP _ _ (Expr.Call (Expr.Attribute _ _ _) _ _ _) _ _ _)); refine ev_append ?_))
local macro_rules | `(tactic| wtm_at "L.wd") => `(tactic| (refine tr_bl ?_; first
  | refine ⟨fun q => absurd q (by decide), fun _ => sts_nil ?_⟩
  | (refine ⟨fun _ => sts_one (st_expr rfl ?_), fun q => absurd q (by decide)⟩; wtm_at "L.app"; wtm_at "L.nm"; refine ⟨⟨_, by wtm_at "L.lst"⟩, ?_⟩; refine ev_str ?_; refine ⟨0, _, _, rfl, by exact at_hd, by decide, ?_⟩; wtm_at "L.n")))
local macro_rules | `(tactic| wtm_at "L.i") => `(tactic| ((with_reducible show IxP _ _ (D.tup _) (D.int _) _ _); refine ix_tpl rfl ?_))
local macro_rules | `(tactic| wtm_at "L.ev1") => `(tactic| first | wtm_at "L.e" | wtm_at "L.b" | wtm_at "L.t" | wtm_at "L.w" | wtm_at "L.tr" | wtm_at "L.a" | wtm_at "L.c" | wtm_at "L.o" | wtm_at "L.u" | wtm_at "L.i")
local macro_rules | `(tactic| wtm_at "L.ev") => `(tactic| repeat (wtm_at "L.ev1"))

section
theorem slots_get {kvs : List (Int × (Addr × List D))} {l : List (Int × List (Option (Int × Bool)))} (b : Int) : SlotsAre kvs l → (aGet kvs b).map (·.2) = (aGet l b).map fun xs => xs.map slotD := by
  unfold SlotsAre
  induction kvs generalizing l with
  | nil =>
    intro h
    cases l with
    | nil => rfl
    | cons y l => simp at h
  | cons x kvs ih =>
    intro h
    cases l with
    | nil => simp at h
    | cons y l =>
      rw [List.map_cons, List.map_cons] at h
      injection h with h1 h2
      injection h1 with h3 h4
      by_cases e : x.1 = b
      · have e' : y.1 = b := by rw [← h3]; exact e
        simp [aGet, e, e', h4]
      · have e' : ¬ y.1 = b := by rw [← h3]; exact e
        have q1 : aGet (x :: kvs) b = aGet kvs b := by simp [aGet, e]
        have q2 : aGet (y :: l) b = aGet l b := by simp [aGet, e']
        rw [q1, q2]; exact ih h2
theorem slots_keys {kvs : List (Int × (Addr × List D))} {l : List (Int × List (Option (Int × Bool)))} (h : SlotsAre kvs l) : kvs.map (·.1) = l.map (·.1) := by
  have := congrArg (List.map (·.1)) h
  rw [List.map_map, List.map_map] at this
  exact this
theorem slots_some {kvs : List (Int × (Addr × List D))} {l : List (Int × List (Option (Int × Bool)))} {b : Int} {xs : List (Option (Int × Bool))} (h : SlotsAre kvs l) (g : aGet l b = some xs) : ∃ a, aGet kvs b = some (a, xs.map slotD) ∧ (b, (a, xs.map slotD)) ∈ kvs := by
  have := slots_get b h
  rw [g] at this
  cases e : aGet kvs b with
  | none => rw [e] at this; cases this
  | some p =>
    rw [e] at this
    obtain ⟨a, ds⟩ := p
    have q : ds = xs.map slotD := by simpa using this
    subst q
    refine ⟨a, rfl, ?_⟩
    unfold aGet at e
    cases f : kvs.find? (fun p => decide (p.1 = b)) with
    | none => rw [f] at e; cases e
    | some z =>
      rw [f] at e
      have h1 := List.mem_of_find?_eq_some f
      have h2 := List.find?_some f
      obtain ⟨z1, z2⟩ := z
      simp at e h2
      rw [← e, ← h2]; exact h1
theorem slots_none {kvs : List (Int × (Addr × List D))} {l : List (Int × List (Option (Int × Bool)))} {b : Int} (h : SlotsAre kvs l) (g : aGet l b = none) : aGet kvs b = none := by
  have := slots_get b h
  rw [g] at this
  cases e : aGet kvs b with
  | none => rfl
  | some p => rw [e] at this; cases this
end
section
variable {P : Program} {w : World} {K : PySem.W.Frag} {mg : Str → Option Value} {base : Heap} {G : Gn}
variable {f : Addr} {fd : FuncData}
/-- closing what was opened, nothing changed -/
theorem shut {B : Base} {n : Nat} {p C d1 d2 d3 d4 : Addr} {c : CS} {kvs : List (Int × (Addr × List D))} {ρ : Rs} (hk : ρ[n]? = some (p, Own.chest C c)) (hs : SlotsAre kvs c.slots) : Sh K B ((d1, .dol kvs) :: (d2, .od (heldT c.held)) :: (d3, .od (pairT c.paired)) :: (d4, .od (willT c.wills)) :: ρ.set n (p, .ins C (chestFs d1 d2 d3 d4 c))) ρ := by
  have h := close_chest (B := B) (K := K) (ρ := ρ.set n (p, .ins C (chestFs d1 d2 d3 d4 c))) (at_set hk) hs rfl rfl rfl rfl
  rw [List.set_set] at h
  have e : ρ.set n (p, Own.chest C c) = ρ := by
    have hl := (List.getElem?_eq_some_iff.mp hk).1
    apply List.ext_getElem?
    intro m
    by_cases hm : n = m
    · subst hm; rw [List.getElem?_set_self hl, hk]
    · rw [List.getElem?_set_ne hm]
  rw [e] at h
  exact h
def wNeedBox (G : Gn) : WP := fun as ρ Φ Ψ => ∃ (n : Nat) (p : Addr) (c : CS) (b : Int), as = [.obj p, .int b] ∧ ρ[n]? = some (p, Own.chest G.C c) ∧ (∀ xs, aGet c.slots b = some xs → Φ .non ρ) ∧ (aGet c.slots b = none → Ψ G.noBox ρ)
theorem ok_need_box (M : Txt K mg G) (F : Fun K "need_box" "Chest.need_box" sm_need_box f fd) : FnOk P w K mg base (L2.CX P w) 1 f fd ["self", "box"] (spW K 2 (wNeedBox G)) := by
  refine okW F scm_need_box fun cdv A outer s H E B Φ Ψ as ρ c hl hw => ?_
  obtain ⟨n, p, ch, b, rfl, hk, h1, h2⟩ := hw
  refine sts_open hk fun d1 d2 d3 d4 kvs hs => ?_
  refine sts_one (st_if (ts_cmp rfl ?_))
  wtm_at "L.ev"
  refine ⟨_, rfl, fun q => ?_, fun q => ?_⟩
  · refine sts_one (st_rs M.x1 (by assumption) rfl ?_)
    refine ⟨_, shut hk hs, h2 ?_⟩
    cases e : aGet ch.slots b with
    | none => rfl
    | some xs =>
      obtain ⟨a, e1, _⟩ := slots_some hs e
      rw [e1] at q; simp at q
  · refine sts_nil ⟨_, shut hk hs, ?_⟩
    cases e : aGet ch.slots b with
    | none => rw [slots_none hs e] at q; simp at q
    | some xs => exact h1 xs e
end
end Lw

set_option maxHeartbeats 4000000
namespace Lw
open PySem PySem.Spec PyProof.Rows L2
-- the walk over data: one step after another
local macro_rules | `(tactic| wtm_at "L.vis") => `(tactic| first | exact Or.inl rfl | exact Or.inr (Or.inl rfl) | exact Or.inr (Or.inr rfl))
local macro_rules | `(tactic| wtm_at "L.loc") => `(tactic| first | exact Or.inl rfl | exact Or.inr rfl)
local macro_rules | `(tactic| wtm_at "L.at") => `(tactic| first | with_reducible assumption | with_reducible exact at_hd | with_reducible exact at_set (by with_reducible assumption) | with_reducible exact at_ne (by with_reducible assumption) (by with_reducible assumption) | (with_reducible apply at_tl; wtm_at "L.at"))
local macro_rules | `(tactic| wtm_at "L.cx") => `(tactic| first | with_reducible assumption | exact CxOk.blk (by with_reducible assumption) _ _ _ _ _)
local macro_rules | `(tactic| wtm_at "L.N") => `(tactic| with_reducible first | exact cx_N | exact blk_N cx_N | exact tr_N cx_N | exact suite_N cx_N | exact cxH_N | exact blk_N (tr_N cx_N))
local macro_rules | `(tactic| wtm_at "L.ix") => `(tactic| first | with_reducible exact nm_z | (with_reducible apply nm_s; wtm_at "L.ix"))
local macro_rules | `(tactic| wtm_at "L.E") => `(tactic| with_reducible first | exact cx_E | exact blk_E cx_E | exact tr_E cx_E | exact blk_E (tr_E cx_E))
local macro_rules | `(tactic| wtm_at "L.nm") => `(tactic| (((with_reducible show EvP _ _ (Expr.Name _ _) _ _ _)); refine ev_nameN (by wtm_at "L.N") (by wtm_at "L.ix") (by wtm_at "L.vis") ?_; refine ⟨_, rfl, ?_⟩))
local macro_rules | `(tactic| wtm_at "L.set") => `(tactic| (((with_reducible show StP _ _ (Stmt.Assign [Expr.Name _ _] _ _) _ _ _)); refine st_setM (by with_reducible assumption) (by wtm_at "L.N") (by wtm_at "L.ix") (by wtm_at "L.loc") rfl (Or.inl rfl) ?_))
local macro_rules | `(tactic| wtm_at "L.tgn") => `(tactic| (((with_reducible show TgP _ _ (Expr.Name _ _) _ _ _ _)); refine tg_nameN (by with_reducible assumption) (by wtm_at "L.N") (by wtm_at "L.ix") (by wtm_at "L.loc") (Or.inl rfl) ?_))

local macro_rules | `(tactic| wtm_at "L.lst") => `(tactic| first | with_reducible exact LstAt.l | exact LstAt.o _ (by wtm_at "L.at") | with_reducible assumption | exact LstAt.i (by wtm_at "L.at") (by with_reducible assumption))
local macro_rules | `(tactic| wtm_at "L.dct") => `(tactic| first | exact DctAt.o _ (by wtm_at "L.at") | exact DctAt.l _ (by wtm_at "L.at") | exact DctAt.oF _ (by wtm_at "L.at") | exact DctAt.lF _ (by wtm_at "L.at") | with_reducible assumption)
local macro_rules | `(tactic| wtm_at "L.txt") => `(tactic| with_reducible assumption)
local macro_rules | `(tactic| wtm_at "L.attr") => `(tactic| (((with_reducible show EvP _ _ (Expr.Attribute _ _ _) _ _ _)); refine ev_attr rfl ?_; wtm_at "L.nm"; refine ⟨_, _, _, _, _, rfl, (by wtm_at "L.at"), Txt.cl (by assumption), ?_, rfl, ?_⟩; first
  | ((with_reducible show NoAttr _ _ "slots"); exact Txt.n1 (by assumption)) | ((with_reducible show NoAttr _ _ "held"); exact Txt.n2 (by assumption)) | ((with_reducible show NoAttr _ _ "paired"); exact Txt.n3 (by assumption)) | ((with_reducible show NoAttr _ _ "wills"); exact Txt.n4 (by assumption)) | ((with_reducible show NoAttr _ _ "coming"); exact Txt.n5 (by assumption)) | ((with_reducible show NoAttr _ _ "next_pair"); exact Txt.n6 (by assumption))))
local macro_rules | `(tactic| wtm_at "L.units") => `(tactic| exact (CxOk.room (by wtm_at "L.cx")).units)
local macro_rules | `(tactic| wtm_at "L.cls") => `(tactic| ((with_reducible show EvP _ _ (Expr.Name _ _) _ _ _); first
  | ((with_reducible show EvP _ _ (Expr.Name "NoBox" _) _ _ _); refine ev_gref rfl (ExF.gP (Txt.x1 (by assumption))) ?_)
  | ((with_reducible show EvP _ _ (Expr.Name "NoSlot" _) _ _ _); refine ev_gref rfl (ExF.gP (Txt.x2 (by assumption))) ?_)
  | ((with_reducible show EvP _ _ (Expr.Name "NoHand" _) _ _ _); refine ev_gref rfl (ExF.gP (Txt.x3 (by assumption))) ?_)
  | ((with_reducible show EvP _ _ (Expr.Name "NoPair" _) _ _ _); refine ev_gref rfl (ExF.gP (Txt.x4 (by assumption))) ?_)
  | ((with_reducible show EvP _ _ (Expr.Name "NoWill" _) _ _ _); refine ev_gref rfl (ExF.gP (Txt.x5 (by assumption))) ?_)
  | ((with_reducible show EvP _ _ (Expr.Name "TooMany" _) _ _ _); refine ev_gref rfl (ExF.gP (Txt.x6 (by assumption))) ?_)
  | ((with_reducible show EvP _ _ (Expr.Name "NoText" _) _ _ _); refine ev_gref rfl (ExF.gP (Txt.x7 (by assumption))) ?_)
  | ((with_reducible show EvP _ _ (Expr.Name "int" _) _ _ _); refine ev_ty (n := "int") rfl (Txt.int (by assumption)) (by decide +kernel) ?_)
  | ((with_reducible show EvP _ _ (Expr.Name "bool" _) _ _ _); refine ev_ty (n := "bool") rfl (Txt.bool (by assumption)) (by decide +kernel) ?_)
  | ((with_reducible show EvP _ _ (Expr.Name "list" _) _ _ _); refine ev_ty (n := "list") rfl (Txt.list (by assumption)) (by decide +kernel) ?_)
  | ((with_reducible show EvP _ _ (Expr.Name "ValueError" _) _ _ _); refine ev_ty (n := "ValueError") rfl (Txt.ve (by assumption)) (by decide +kernel) ?_)
  | ((with_reducible show EvP _ _ (Expr.Name "MOST_SLOTS" _) _ _ _); refine ev_gint rfl (Txt.ms (by assumption)) ?_)
  | ((with_reducible show EvP _ _ (Expr.Name "MOST_BOXES" _) _ _ _); refine ev_gint rfl (Txt.mb (by assumption)) ?_)))
local macro_rules | `(tactic| wtm_at "L.e") => `(tactic| ((with_reducible show EvP _ _ _ _ _ _); first
  | wtm_at "L.cls" | wtm_at "L.nm" | with_reducible refine ev_int ?_ | with_reducible refine ev_str ?_ | with_reducible refine ev_bl ?_ | with_reducible refine ev_non ?_
  | with_reducible refine ev_bin ?_ | wtm_at "L.attr" | wtm_at "L.cmp" | with_reducible refine ev_un ?_ | wtm_at "L.sub" | wtm_at "L.callB"))
local macro_rules | `(tactic| wtm_at "L.tcmp") => `(tactic| ((with_reducible show TsP _ _ (Expr.Compare _ _ _ _) _ _ _); first | refine ts_cmp (nomark _) ?_ | refine ts_cmp rfl ?_ | refine ts_chain rfl ?_))
local macro_rules | `(tactic| wtm_at "L.t") => `(tactic| ((with_reducible show TsP _ _ _ _ _ _); first | wtm_at "L.tcmp" | with_reducible refine ts_not ?_ | (with_reducible show TsP _ _ (Expr.BoolOp _ _ _) _ _ _; with_reducible refine ts_w ?_) | refine ts_tru (fun _ => rfl) ?_))
local macro_rules | `(tactic| wtm_at "L.w") => `(tactic| ((with_reducible show TwP _ _ _ _ _ _); with_reducible first | refine tw_and1 ?_ | refine tw_or1 ?_ | refine tw_and ?_ | refine tw_or ?_))
local macro_rules | `(tactic| wtm_at "L.cmp") => `(tactic| ((with_reducible show EvP _ _ (Expr.Compare _ _ _ _) _ _ _); first | refine ev_cmp (nomark _) ?_ | refine ev_cmp rfl ?_))
local macro_rules | `(tactic| wtm_at "L.sub") => `(tactic| ((with_reducible show EvP _ _ (Expr.Subscript _ _ _) _ _ _); first | with_reducible refine ev_slice ?_ | refine ev_sub (fun _ _ => rfl) ?_))
local macro_rules | `(tactic| wtm_at "L.b") => `(tactic| ((with_reducible show BiP _ _ _ _ _ _ _); first
  | with_reducible refine bi_add ?_ | with_reducible refine bi_sub ?_ | with_reducible refine bi_lt ?_ | with_reducible refine bi_le ?_ | with_reducible refine bi_gt ?_ | with_reducible refine bi_ge ?_
  | with_reducible refine bi_eqI ?_ | with_reducible refine bi_neI ?_ | with_reducible refine bi_eqS ?_ | with_reducible refine bi_neS ?_ | with_reducible refine bi_isN ?_ | with_reducible refine bi_notN ?_
  | with_reducible refine bi_mod (by decide) ?_ | with_reducible refine bi_fdiv (by decide) ?_
  | refine bi_inD (by wtm_at "L.units") (by wtm_at "L.dct") ?_ | refine bi_ninD (by wtm_at "L.units") (by wtm_at "L.dct") ?_))
local macro_rules | `(tactic| wtm_at "L.a") => `(tactic| ((with_reducible show AgP _ _ _ _ _ _); first | with_reducible refine ag_nil ?_ | refine ag_cons rfl ?_))
local macro_rules | `(tactic| wtm_at "L.o") => `(tactic| ((with_reducible show PtP _ _ _ _ _ _); first | with_reducible refine pt_none ?_ | with_reducible refine pt_some ?_))
local macro_rules | `(tactic| wtm_at "L.c") => `(tactic| ((with_reducible show ClP _ _ _ _ _ _); first
  | refine cl_lenL (by wtm_at "L.lst") ?_ | with_reducible refine cl_lenT ?_ | refine cl_lenD (by wtm_at "L.dct") ?_ | refine cl_lenX (by wtm_at "L.at") ?_))
local macro_rules | `(tactic| wtm_at "L.callB") => `(tactic| ((with_reducible show EvP _ _ (Expr.Call (Expr.Name _ _) _ _ _) _ _ _); first
  | ((with_reducible show EvP _ _ (Expr.Call (Expr.Name "len" _) _ _ _) _ _ _); refine ev_callB (id := "len") rfl (Txt.len (by assumption)) (by decide +kernel) ?_)
  | ((with_reducible show EvP _ _ (Expr.Call (Expr.Name "sorted" _) _ _ _) _ _ _); refine ev_callB (id := "sorted") rfl (Txt.sorted (by assumption)) (by decide +kernel) ?_)
  | ((with_reducible show EvP _ _ (Expr.Call (Expr.Name "isinstance" _) _ _ _) _ _ _); refine ev_callB (id := "isinstance") rfl (Txt.isi (by assumption)) (by decide +kernel) ?_)
  | ((with_reducible show EvP _ _ (Expr.Call (Expr.Name "all" _) _ _ _) _ _ _); refine ev_callB (id := "all") rfl (Txt.all (by assumption)) (by decide +kernel) ?_)
  | ((with_reducible show EvP _ _ (Expr.Call (Expr.Name "min" _) _ _ _) _ _ _); refine ev_callB (id := "min") rfl (Txt.min (by assumption)) (by decide +kernel) ?_)
  | ((with_reducible show EvP _ _ (Expr.Call (Expr.Name "max" _) _ _ _) _ _ _); refine ev_callB (id := "max") rfl (Txt.max (by assumption)) (by decide +kernel) ?_)
  | ((with_reducible show EvP _ _ (Expr.Call (Expr.Name "list" _) _ _ _) _ _ _); refine ev_callTy (T := "list") rfl (Txt.list (by assumption)) (by decide +kernel) ?_)
  | ((with_reducible show EvP _ _ (Expr.Call (Expr.Name "int" _) _ _ _) _ _ _); refine ev_callTy (T := "int") rfl (Txt.int (by assumption)) (by decide +kernel) ?_)
  ))
local macro_rules | `(tactic| wtm_at "L.meth") => `(tactic| ((with_reducible show EvP _ _ (Expr.Call (Expr.Attribute _ _ _) _ _ _) _ _ _); first
  | refine ev_methN (by wtm_at "L.cx") (by wtm_at "L.E") (by with_reducible assumption) (by decide) rfl rfl rfl ?_ | refine ev_methN0 (by wtm_at "L.cx") (by wtm_at "L.E") (by with_reducible assumption) (by decide) rfl ?_))
local macro_rules | `(tactic| wtm_at "L.ins") => `(tactic| exact InsAt.c (by wtm_at "L.at") (by decide +kernel))
local macro_rules | `(tactic| wtm_at "L.call") => `(tactic| ((with_reducible show EvP _ _ (Expr.Call (Expr.Name _ _) _ _ _) _ _ _); first
  | refine ev_callN (by wtm_at "L.cx") (by wtm_at "L.E") (by with_reducible assumption) (by decide) rfl ?_ | refine ev_callN0 (by wtm_at "L.cx") (by wtm_at "L.E") (by with_reducible assumption) (by decide) rfl ?_))
local macro_rules | `(tactic| wtm_at "L.tr") => `(tactic| ((with_reducible show TrP _ _ _ _ _); first | with_reducible refine tr_bl ?_ | with_reducible refine tr_int ?_ | with_reducible refine tr_non ?_ | refine tr_lst (by wtm_at "L.lst") ?_))
local macro_rules | `(tactic| wtm_at "L.n") => `(tactic| simp only [List.set_cons_succ, List.set_cons_zero, List.set_set])
local macro_rules | `(tactic| wtm_at "L.u") => `(tactic| ((with_reducible show UnP _ _ _ _ _ _); with_reducible refine un_neg' ?_))
local macro_rules | `(tactic| wtm_at "L.app") => `(tactic| (((with_reducible show EvP _ _ (Expr.Call (Expr.Attribute _ _ _) _ _ _) _ _ _)); refine ev_append ?_))
local macro_rules | `(tactic| wtm_at "L.wd") => `(tactic| (refine tr_bl ?_; first
  | refine ⟨fun q => absurd q (by decide), fun _ => sts_nil ?_⟩
  | (refine ⟨fun _ => sts_one (st_expr rfl ?_), fun q => absurd q (by decide)⟩; wtm_at "L.app"; wtm_at "L.nm"; refine ⟨⟨_, by wtm_at "L.lst"⟩, ?_⟩; refine ev_str ?_; refine ⟨0, _, _, rfl, by exact at_hd, by decide, ?_⟩; wtm_at "L.n")))
local macro_rules | `(tactic| wtm_at "L.i") => `(tactic| ((with_reducible show IxP _ _ (D.tup _) (D.int _) _ _); refine ix_tpl rfl ?_))
local macro_rules | `(tactic| wtm_at "L.ev1") => `(tactic| first | wtm_at "L.e" | wtm_at "L.b" | wtm_at "L.t" | wtm_at "L.w" | wtm_at "L.tr" | wtm_at "L.a" | wtm_at "L.c" | wtm_at "L.o" | wtm_at "L.u" | wtm_at "L.i")
local macro_rules | `(tactic| wtm_at "L.ev") => `(tactic| repeat (wtm_at "L.ev1"))

section
variable {P : Program} {w : World} {K : PySem.W.Frag} {mg : Str → Option Value} {base : Heap} {G : Gn}
variable {f : Addr} {fd : FuncData}
def wNeedSlot (G : Gn) : WP := fun as ρ Φ Ψ => ∃ (n : Nat) (p : Addr) (c : CS) (b s : Int), as = [.obj p, .int b, .int s] ∧ ρ[n]? = some (p, Own.chest G.C c) ∧ (aGet c.slots b = none → Ψ G.noBox ρ) ∧
  ∀ xs, aGet c.slots b = some xs → (0 ≤ s ∧ s < xs.length → Φ .non ρ) ∧ (¬ (0 ≤ s ∧ s < xs.length) → Ψ G.noSlot ρ)
theorem ok_need_slot (M : Txt K mg G) (F : Fun K "need_slot" "Chest.need_slot" sm_need_slot f fd) (D1 : MetOk P w K mg base G.C "need_box" 1 2 (wNeedBox G)) : FnOk P w K mg base (L2.CX P w) 2 f fd ["self", "box", "slot"] (spW K 3 (wNeedSlot G)) := by
  refine okW F scm_need_slot fun cdv A outer s H E B Φ Ψ as ρ c hl hw => ?_
  obtain ⟨n, p, ch, b, sl, rfl, hk, h1, h2⟩ := hw
  refine sts_cons (st_expr rfl ?_)
  wtm_at "L.meth"
  wtm_at "L.nm"
  refine ⟨by wtm_at "L.ins", ?_⟩
  wtm_at "L.ev"
  refine ⟨rfl, n, p, ch, b, rfl, hk, fun xs e => ?_, fun e => ⟨ρ, Sh.refl, h1 e⟩⟩
  obtain ⟨h3, h4⟩ := h2 xs e
  refine sts_open hk fun d1 d2 d3 d4 kvs hs => ?_
  obtain ⟨a, e1, e2⟩ := slots_some hs e
  refine sts_one (st_if ?_)
  wtm_at "L.ev"
  refine ⟨_, rfl, fun q1 => ?_, fun q1 => ⟨fun _ => ?_, fun q => by simp at q⟩⟩
  · have q1' : 0 ≤ sl := by simpa using q1
    wtm_at "L.ev"
    refine ix_dct (by wtm_at "L.units") (by wtm_at "L.dct") (d := .obj a) (by show Option.map _ _ = _; rw [e1]; rfl) ?_
    wtm_at "L.ev"
    refine ⟨_, rfl, fun q => ?_, fun q => ?_⟩
    · refine sts_one (st_rs M.x2 (by assumption) rfl ?_)
      refine ⟨_, shut hk hs, h4 ?_⟩
      simp at q; omega
    · refine sts_nil ⟨_, shut hk hs, h3 ?_⟩
      simp at q; omega
  · refine sts_one (st_rs M.x2 (by assumption) rfl ?_)
    refine ⟨_, shut hk hs, h4 ?_⟩
    simp at q1; omega
end
end Lw

set_option maxHeartbeats 4000000
namespace Lw
open PySem PySem.Spec PyProof.Rows L2
-- the walk over data: one step after another
local macro_rules | `(tactic| wtm_at "L.vis") => `(tactic| first | exact Or.inl rfl | exact Or.inr (Or.inl rfl) | exact Or.inr (Or.inr rfl))
local macro_rules | `(tactic| wtm_at "L.loc") => `(tactic| first | exact Or.inl rfl | exact Or.inr rfl)
local macro_rules | `(tactic| wtm_at "L.at") => `(tactic| first | with_reducible assumption | with_reducible exact at_hd | with_reducible exact at_set (by with_reducible assumption) | with_reducible exact at_ne (by with_reducible assumption) (by with_reducible assumption) | (with_reducible apply at_tl; wtm_at "L.at"))
local macro_rules | `(tactic| wtm_at "L.cx") => `(tactic| first | with_reducible assumption | exact CxOk.blk (by with_reducible assumption) _ _ _ _ _)
local macro_rules | `(tactic| wtm_at "L.N") => `(tactic| with_reducible first | exact cx_N | exact blk_N cx_N | exact tr_N cx_N | exact suite_N cx_N | exact cxH_N | exact blk_N (tr_N cx_N))
local macro_rules | `(tactic| wtm_at "L.ix") => `(tactic| first | with_reducible exact nm_z | (with_reducible apply nm_s; wtm_at "L.ix"))
local macro_rules | `(tactic| wtm_at "L.E") => `(tactic| with_reducible first | exact cx_E | exact blk_E cx_E | exact tr_E cx_E | exact blk_E (tr_E cx_E))
local macro_rules | `(tactic| wtm_at "L.nm") => `(tactic| (((with_reducible show EvP _ _ (Expr.Name _ _) _ _ _)); refine ev_nameN (by wtm_at "L.N") (by wtm_at "L.ix") (by wtm_at "L.vis") ?_; refine ⟨_, rfl, ?_⟩))
local macro_rules | `(tactic| wtm_at "L.set") => `(tactic| (((with_reducible show StP _ _ (Stmt.Assign [Expr.Name _ _] _ _) _ _ _)); refine st_setM (by with_reducible assumption) (by wtm_at "L.N") (by wtm_at "L.ix") (by wtm_at "L.loc") rfl (Or.inl rfl) ?_))
local macro_rules | `(tactic| wtm_at "L.tgn") => `(tactic| (((with_reducible show TgP _ _ (Expr.Name _ _) _ _ _ _)); refine tg_nameN (by with_reducible assumption) (by wtm_at "L.N") (by wtm_at "L.ix") (by wtm_at "L.loc") (Or.inl rfl) ?_))

local macro_rules | `(tactic| wtm_at "L.lst") => `(tactic| first | with_reducible exact LstAt.l | exact LstAt.o _ (by wtm_at "L.at") | with_reducible assumption | exact LstAt.i (by wtm_at "L.at") (by with_reducible assumption))
local macro_rules | `(tactic| wtm_at "L.dct") => `(tactic| first | exact DctAt.o _ (by wtm_at "L.at") | exact DctAt.l _ (by wtm_at "L.at") | exact DctAt.oF _ (by wtm_at "L.at") | exact DctAt.lF _ (by wtm_at "L.at") | with_reducible assumption)
local macro_rules | `(tactic| wtm_at "L.txt") => `(tactic| with_reducible assumption)
local macro_rules | `(tactic| wtm_at "L.attr") => `(tactic| (((with_reducible show EvP _ _ (Expr.Attribute _ _ _) _ _ _)); refine ev_attr rfl ?_; wtm_at "L.nm"; refine ⟨_, _, _, _, _, rfl, (by wtm_at "L.at"), Txt.cl (by assumption), ?_, rfl, ?_⟩; first
  | ((with_reducible show NoAttr _ _ "slots"); exact Txt.n1 (by assumption)) | ((with_reducible show NoAttr _ _ "held"); exact Txt.n2 (by assumption)) | ((with_reducible show NoAttr _ _ "paired"); exact Txt.n3 (by assumption)) | ((with_reducible show NoAttr _ _ "wills"); exact Txt.n4 (by assumption)) | ((with_reducible show NoAttr _ _ "coming"); exact Txt.n5 (by assumption)) | ((with_reducible show NoAttr _ _ "next_pair"); exact Txt.n6 (by assumption))))
local macro_rules | `(tactic| wtm_at "L.units") => `(tactic| exact (CxOk.room (by wtm_at "L.cx")).units)
local macro_rules | `(tactic| wtm_at "L.cls") => `(tactic| ((with_reducible show EvP _ _ (Expr.Name _ _) _ _ _); first
  | ((with_reducible show EvP _ _ (Expr.Name "NoBox" _) _ _ _); refine ev_gref rfl (ExF.gP (Txt.x1 (by assumption))) ?_)
  | ((with_reducible show EvP _ _ (Expr.Name "NoSlot" _) _ _ _); refine ev_gref rfl (ExF.gP (Txt.x2 (by assumption))) ?_)
  | ((with_reducible show EvP _ _ (Expr.Name "NoHand" _) _ _ _); refine ev_gref rfl (ExF.gP (Txt.x3 (by assumption))) ?_)
  | ((with_reducible show EvP _ _ (Expr.Name "NoPair" _) _ _ _); refine ev_gref rfl (ExF.gP (Txt.x4 (by assumption))) ?_)
  | ((with_reducible show EvP _ _ (Expr.Name "NoWill" _) _ _ _); refine ev_gref rfl (ExF.gP (Txt.x5 (by assumption))) ?_)
  | ((with_reducible show EvP _ _ (Expr.Name "TooMany" _) _ _ _); refine ev_gref rfl (ExF.gP (Txt.x6 (by assumption))) ?_)
  | ((with_reducible show EvP _ _ (Expr.Name "NoText" _) _ _ _); refine ev_gref rfl (ExF.gP (Txt.x7 (by assumption))) ?_)
  | ((with_reducible show EvP _ _ (Expr.Name "int" _) _ _ _); refine ev_ty (n := "int") rfl (Txt.int (by assumption)) (by decide +kernel) ?_)
  | ((with_reducible show EvP _ _ (Expr.Name "bool" _) _ _ _); refine ev_ty (n := "bool") rfl (Txt.bool (by assumption)) (by decide +kernel) ?_)
  | ((with_reducible show EvP _ _ (Expr.Name "list" _) _ _ _); refine ev_ty (n := "list") rfl (Txt.list (by assumption)) (by decide +kernel) ?_)
  | ((with_reducible show EvP _ _ (Expr.Name "ValueError" _) _ _ _); refine ev_ty (n := "ValueError") rfl (Txt.ve (by assumption)) (by decide +kernel) ?_)
  | ((with_reducible show EvP _ _ (Expr.Name "MOST_SLOTS" _) _ _ _); refine ev_gint rfl (Txt.ms (by assumption)) ?_)
  | ((with_reducible show EvP _ _ (Expr.Name "MOST_BOXES" _) _ _ _); refine ev_gint rfl (Txt.mb (by assumption)) ?_)))
local macro_rules | `(tactic| wtm_at "L.e") => `(tactic| ((with_reducible show EvP _ _ _ _ _ _); first
  | wtm_at "L.cls" | wtm_at "L.nm" | with_reducible refine ev_int ?_ | with_reducible refine ev_str ?_ | with_reducible refine ev_bl ?_ | with_reducible refine ev_non ?_
  | with_reducible refine ev_bin ?_ | wtm_at "L.attr" | wtm_at "L.cmp" | with_reducible refine ev_un ?_ | wtm_at "L.sub" | wtm_at "L.callB"))
local macro_rules | `(tactic| wtm_at "L.tcmp") => `(tactic| ((with_reducible show TsP _ _ (Expr.Compare _ _ _ _) _ _ _); first | refine ts_cmp (nomark _) ?_ | refine ts_cmp rfl ?_ | refine ts_chain rfl ?_))
local macro_rules | `(tactic| wtm_at "L.t") => `(tactic| ((with_reducible show TsP _ _ _ _ _ _); first | wtm_at "L.tcmp" | with_reducible refine ts_not ?_ | (with_reducible show TsP _ _ (Expr.BoolOp _ _ _) _ _ _; with_reducible refine ts_w ?_) | refine ts_tru (fun _ => rfl) ?_))
local macro_rules | `(tactic| wtm_at "L.w") => `(tactic| ((with_reducible show TwP _ _ _ _ _ _); with_reducible first | refine tw_and1 ?_ | refine tw_or1 ?_ | refine tw_and ?_ | refine tw_or ?_))
local macro_rules | `(tactic| wtm_at "L.cmp") => `(tactic| ((with_reducible show EvP _ _ (Expr.Compare _ _ _ _) _ _ _); first | refine ev_cmp (nomark _) ?_ | refine ev_cmp rfl ?_))
local macro_rules | `(tactic| wtm_at "L.sub") => `(tactic| ((with_reducible show EvP _ _ (Expr.Subscript _ _ _) _ _ _); first | with_reducible refine ev_slice ?_ | refine ev_sub (fun _ _ => rfl) ?_))
local macro_rules | `(tactic| wtm_at "L.b") => `(tactic| ((with_reducible show BiP _ _ _ _ _ _ _); first
  | with_reducible refine bi_add ?_ | with_reducible refine bi_sub ?_ | with_reducible refine bi_lt ?_ | with_reducible refine bi_le ?_ | with_reducible refine bi_gt ?_ | with_reducible refine bi_ge ?_
  | with_reducible refine bi_eqI ?_ | with_reducible refine bi_neI ?_ | with_reducible refine bi_eqS ?_ | with_reducible refine bi_neS ?_ | with_reducible refine bi_isN ?_ | with_reducible refine bi_notN ?_
  | with_reducible refine bi_mod (by decide) ?_ | with_reducible refine bi_fdiv (by decide) ?_
  | refine bi_inD (by wtm_at "L.units") (by wtm_at "L.dct") ?_ | refine bi_ninD (by wtm_at "L.units") (by wtm_at "L.dct") ?_))
local macro_rules | `(tactic| wtm_at "L.a") => `(tactic| ((with_reducible show AgP _ _ _ _ _ _); first | with_reducible refine ag_nil ?_ | refine ag_cons rfl ?_))
local macro_rules | `(tactic| wtm_at "L.o") => `(tactic| ((with_reducible show PtP _ _ _ _ _ _); first | with_reducible refine pt_none ?_ | with_reducible refine pt_some ?_))
local macro_rules | `(tactic| wtm_at "L.c") => `(tactic| ((with_reducible show ClP _ _ _ _ _ _); first
  | refine cl_lenL (by wtm_at "L.lst") ?_ | with_reducible refine cl_lenT ?_ | refine cl_lenD (by wtm_at "L.dct") ?_ | refine cl_lenX (by wtm_at "L.at") ?_))
local macro_rules | `(tactic| wtm_at "L.callB") => `(tactic| ((with_reducible show EvP _ _ (Expr.Call (Expr.Name _ _) _ _ _) _ _ _); first
  | ((with_reducible show EvP _ _ (Expr.Call (Expr.Name "len" _) _ _ _) _ _ _); refine ev_callB (id := "len") rfl (Txt.len (by assumption)) (by decide +kernel) ?_)
  | ((with_reducible show EvP _ _ (Expr.Call (Expr.Name "sorted" _) _ _ _) _ _ _); refine ev_callB (id := "sorted") rfl (Txt.sorted (by assumption)) (by decide +kernel) ?_)
  | ((with_reducible show EvP _ _ (Expr.Call (Expr.Name "isinstance" _) _ _ _) _ _ _); refine ev_callB (id := "isinstance") rfl (Txt.isi (by assumption)) (by decide +kernel) ?_)
  | ((with_reducible show EvP _ _ (Expr.Call (Expr.Name "all" _) _ _ _) _ _ _); refine ev_callB (id := "all") rfl (Txt.all (by assumption)) (by decide +kernel) ?_)
  | ((with_reducible show EvP _ _ (Expr.Call (Expr.Name "min" _) _ _ _) _ _ _); refine ev_callB (id := "min") rfl (Txt.min (by assumption)) (by decide +kernel) ?_)
  | ((with_reducible show EvP _ _ (Expr.Call (Expr.Name "max" _) _ _ _) _ _ _); refine ev_callB (id := "max") rfl (Txt.max (by assumption)) (by decide +kernel) ?_)
  | ((with_reducible show EvP _ _ (Expr.Call (Expr.Name "list" _) _ _ _) _ _ _); refine ev_callTy (T := "list") rfl (Txt.list (by assumption)) (by decide +kernel) ?_)
  | ((with_reducible show EvP _ _ (Expr.Call (Expr.Name "int" _) _ _ _) _ _ _); refine ev_callTy (T := "int") rfl (Txt.int (by assumption)) (by decide +kernel) ?_)
  ))
local macro_rules | `(tactic| wtm_at "L.meth") => `(tactic| ((with_reducible show EvP _ _ (Expr.Call (Expr.Attribute _ _ _) _ _ _) _ _ _); first
  | refine ev_methN (by wtm_at "L.cx") (by wtm_at "L.E") (by with_reducible assumption) (by decide) rfl rfl rfl ?_ | refine ev_methN0 (by wtm_at "L.cx") (by wtm_at "L.E") (by with_reducible assumption) (by decide) rfl ?_))
local macro_rules | `(tactic| wtm_at "L.ins") => `(tactic| exact InsAt.c (by wtm_at "L.at") (by decide +kernel))
local macro_rules | `(tactic| wtm_at "L.call") => `(tactic| ((with_reducible show EvP _ _ (Expr.Call (Expr.Name _ _) _ _ _) _ _ _); first
  | refine ev_callN (by wtm_at "L.cx") (by wtm_at "L.E") (by with_reducible assumption) (by decide) rfl ?_ | refine ev_callN0 (by wtm_at "L.cx") (by wtm_at "L.E") (by with_reducible assumption) (by decide) rfl ?_))
local macro_rules | `(tactic| wtm_at "L.tr") => `(tactic| ((with_reducible show TrP _ _ _ _ _); first | with_reducible refine tr_bl ?_ | with_reducible refine tr_int ?_ | with_reducible refine tr_non ?_ | refine tr_lst (by wtm_at "L.lst") ?_))
local macro_rules | `(tactic| wtm_at "L.n") => `(tactic| simp only [List.set_cons_succ, List.set_cons_zero, List.set_set])
local macro_rules | `(tactic| wtm_at "L.u") => `(tactic| ((with_reducible show UnP _ _ _ _ _ _); with_reducible refine un_neg' ?_))
local macro_rules | `(tactic| wtm_at "L.app") => `(tactic| (((with_reducible show EvP _ _ (Expr.Call (Expr.Attribute _ _ _) _ _ _) _ _ _)); refine ev_append ?_))
local macro_rules | `(tactic| wtm_at "L.wd") => `(tactic| (refine tr_bl ?_; first
  | refine ⟨fun q => absurd q (by decide), fun _ => sts_nil ?_⟩
  | (refine ⟨fun _ => sts_one (st_expr rfl ?_), fun q => absurd q (by decide)⟩; wtm_at "L.app"; wtm_at "L.nm"; refine ⟨⟨_, by wtm_at "L.lst"⟩, ?_⟩; refine ev_str ?_; refine ⟨0, _, _, rfl, by exact at_hd, by decide, ?_⟩; wtm_at "L.n")))
local macro_rules | `(tactic| wtm_at "L.i") => `(tactic| ((with_reducible show IxP _ _ (D.tup _) (D.int _) _ _); refine ix_tpl rfl ?_))
local macro_rules | `(tactic| wtm_at "L.ev1") => `(tactic| first | wtm_at "L.e" | wtm_at "L.b" | wtm_at "L.t" | wtm_at "L.w" | wtm_at "L.tr" | wtm_at "L.a" | wtm_at "L.c" | wtm_at "L.o" | wtm_at "L.u" | wtm_at "L.i")
local macro_rules | `(tactic| wtm_at "L.ev") => `(tactic| repeat (wtm_at "L.ev1"))

section
variable {P : Program} {w : World} {K : PySem.W.Frag} {mg : Str → Option Value} {base : Heap} {G : Gn}
variable {f : Addr} {fd : FuncData}
def wInit (G : Gn) : WP := fun as ρ Φ _ => ∃ (n : Nat) (p : Addr), as = [.obj p] ∧ ρ[n]? = some (p, Own.ins G.C []) ∧ Φ .non (ρ.set n (p, .chest G.C CS.nil))
theorem ok_init (M : Txt K mg G) (F : Fun K "__init__" "Chest.__init__" sm_init f fd) : FnOk P w K mg base (L2.CX P w) 1 f fd ["self"] (spW K 1 (wInit G)) := by
  refine okW F scm_init fun cdv A outer s H E B Φ Ψ as ρ c hl hw => ?_
  obtain ⟨n, p, rfl, hk, h⟩ := hw
  refine sts_cons (st_attr rfl (ev_dctl fun d1 b1 => ?_))
  wtm_at "L.nm"
  refine ⟨_, _, _, _, rfl, (by wtm_at "L.at"), M.cl, M.n1, by decide, ?_⟩
  refine sts_cons (st_attr rfl (ev_dct fun d2 b2 => ?_))
  wtm_at "L.nm"
  refine ⟨n + 2, _, _, _, rfl, at_tl (at_tl (at_set hk)), M.cl, M.n2, put_lt (by decide : 0 < 999), ?_⟩
  refine sts_cons (st_attr rfl (ev_dct fun d3 b3 => ?_))
  wtm_at "L.nm"
  refine ⟨n + 3, _, _, _, rfl, at_tl (at_tl (at_tl (at_set (at_set hk)))), M.cl, M.n3, put_lt (put_lt (by decide : 0 < 998)), ?_⟩
  refine sts_cons (st_attr rfl (ev_dct fun d4 b4 => ?_))
  wtm_at "L.nm"
  refine ⟨n + 4, _, _, _, rfl, at_tl (at_tl (at_tl (at_tl (at_set (at_set (at_set hk)))))), M.cl, M.n4, put_lt (put_lt (put_lt (by decide : 0 < 997))), ?_⟩
  refine sts_cons (st_attr rfl (ev_int ?_))
  wtm_at "L.nm"
  refine ⟨n + 4, _, _, _, rfl, at_tl (at_tl (at_tl (at_tl (at_set (at_set (at_set (at_set hk))))))), M.cl, M.n5, put_lt (put_lt (put_lt (put_lt (by decide : 0 < 996)))), ?_⟩
  refine sts_one (st_attr rfl (ev_int ?_))
  wtm_at "L.nm"
  refine ⟨n + 4, _, _, _, rfl, at_tl (at_tl (at_tl (at_tl (at_set (at_set (at_set (at_set (at_set hk)))))))), M.cl, M.n6, put_lt (put_lt (put_lt (put_lt (put_lt (by decide : 0 < 995))))), ?_⟩
  refine ⟨_, Sh.rev4.trans (close_chest (c := CS.nil) (C := G.C) (d1 := d1) (d2 := d2) (d3 := d3) (d4 := d4) (at_set (at_set (at_set (at_set (at_set (at_set hk)))))) rfl rfl rfl rfl rfl), ?_⟩
  simp only [List.set_set]
  exact h
def wMake (G : Gn) : WP := fun as ρ Φ Ψ => ∃ (n : Nat) (p : Addr) (c : CS) (z : Int), as = [.obj p, .int z] ∧ ρ[n]? = some (p, Own.chest G.C c) ∧ c.slots.length ≤ 1000 ∧ c.held.length ≤ 1000 ∧
  (¬ (0 ≤ z ∧ z ≤ 9) → Ψ G.noSlot ρ) ∧ (0 ≤ z ∧ z ≤ 9 → c.slots.length = 60 → Ψ G.tooMany ρ) ∧ (0 ≤ z ∧ z ≤ 9 → c.slots.length ≠ 60 → Φ (.int c.coming) (ρ.set n (p, .chest G.C (c.make z))))
theorem ok_make (M : Txt K mg G) (F : Fun K "make" "Chest.make" sm_make f fd) : FnOk P w K mg base (L2.CX P w) 1 f fd ["self", "size"] (spW K 2 (wMake G)) := by
  refine okW F scm_make fun cdv A outer s H E B Φ Ψ as ρ c hl hw => ?_
  obtain ⟨n, p, ch, z, rfl, hk, hz1, hz2, h1, h2, h3⟩ := hw
  refine sts_cut (fun δ' ρ' => δ' = startD nm_make [D.obj p, D.int z] ∧ ρ' = ρ ∧ 0 ≤ z ∧ z ≤ 9) (st_if ?_) ?_
  · wtm_at "L.ev"
    refine ⟨_, rfl, fun q1 => ?_, fun q1 => ⟨fun _ => ?_, fun q => by simp at q⟩⟩
    · wtm_at "L.ev"
      refine ⟨_, rfl, fun q => ?_, fun q => ?_⟩
      · refine sts_one (st_rs M.x2 (by assumption) rfl ?_)
        refine ⟨_, Sh.refl, h1 ?_⟩
        simp at q; omega
      · simp at q1 q
        exact sts_nil ⟨rfl, rfl, q1, q⟩
    · refine sts_one (st_rs M.x2 (by assumption) rfl ?_)
      refine ⟨_, Sh.refl, h1 ?_⟩
      simp at q1; omega
  · rintro δ' ρ' ⟨rfl, rfl, z0, z9⟩
    refine sts_open hk fun d1 d2 d3 d4 kvs hs => ?_
    have hkl : kvs.length = ch.slots.length := by have := congrArg List.length (slots_keys hs); simpa using this
    refine sts_cons (st_if ?_)
    wtm_at "L.ev"
    wtm_at "L.ev"
    rw [List.length_map]
    refine ⟨_, rfl, fun q => ?_, fun q => ?_⟩
    · refine sts_one (st_rs M.x6 (by assumption) rfl ?_)
      refine ⟨_, shut hk hs, h2 ⟨z0, z9⟩ ?_⟩
      simp at q; omega
    · have q' : ch.slots.length ≠ 60 := by simp at q; omega
      refine sts_nil (sts_cons ?_)
      wtm_at "L.set"
      wtm_at "L.ev"
      refine sts_cons (st_attr rfl ?_)
      wtm_at "L.ev"
      refine ⟨n + 4, _, _, _, rfl, at_tl (at_tl (at_tl (at_tl (at_set hk)))), M.cl, M.n5, (by show 6 < 1000; decide), ?_⟩
      wtm_at "L.n"
      refine sts_cons (st_sub (fun _ => rfl) rfl rfl rfl (ev_bin (ev_lst ?_)))
      wtm_at "L.ev"
      refine ⟨by decide, ?_⟩
      wtm_at "L.nm"
      refine bi_rep LstAt.l ⟨z0, by omega⟩ fun l hl => ?_
      wtm_at "L.ev"
      refine si_dol (n := 0) (kvs := kvs) (by wtm_at "L.units") (by exact at_hd) (by omega) fun nl => ?_
      wtm_at "L.n"
      refine sts_cons (st_sub (fun _ => rfl) rfl rfl rfl ?_)
      wtm_at "L.ev"
      refine si_dict (n := 1) (kvs := heldT ch.held) (by wtm_at "L.units") (by exact at_tl at_hd) (by unfold heldT; rw [List.length_map]; omega) ?_
      wtm_at "L.n"
      refine sts_one (st_ret ?_)
      wtm_at "L.nm"
      refine ⟨_, close_chest (c := ch.make z) (C := G.C) (at_set hk) (by
        have := slots_put (b := ch.coming) (a := l) (xs := List.replicate z.toNat none) hs
        rw [List.map_replicate] at this
        exact this) (heldT_add _ _).symm rfl rfl rfl, ?_⟩
      simp only [List.set_set]
      exact h3 ⟨z0, z9⟩ q'
def wTold (G : Gn) : WP := fun as ρ Φ Ψ => ∃ (n : Nat) (p : Addr) (c : CS) (b s : Int), as = [.obj p, .int b, .int s] ∧ ρ[n]? = some (p, Own.chest G.C c) ∧ (aGet c.slots b = none → Ψ G.noBox ρ) ∧
  ∀ xs, aGet c.slots b = some xs → (0 ≤ s ∧ s < xs.length → Φ (slotD (xs.getD s.toNat none)) ρ) ∧ (¬ (0 ≤ s ∧ s < xs.length) → Ψ G.noSlot ρ)
theorem ok_told (M : Txt K mg G) (F : Fun K "told" "Chest.told" sm_told f fd) (D1 : MetOk P w K mg base G.C "need_slot" 2 3 (wNeedSlot G)) : FnOk P w K mg base (L2.CX P w) 3 f fd ["self", "box", "slot"] (spW K 3 (wTold G)) := by
  refine okW F scm_told fun cdv A outer s H E B Φ Ψ as ρ c hl hw => ?_
  obtain ⟨n, p, ch, b, sl, rfl, hk, h1, h2⟩ := hw
  refine sts_cons (st_expr rfl ?_)
  wtm_at "L.meth"
  wtm_at "L.nm"
  refine ⟨by wtm_at "L.ins", ?_⟩
  wtm_at "L.ev"
  refine ⟨rfl, n, p, ch, b, sl, rfl, hk, fun e => ⟨ρ, Sh.refl, h1 e⟩, fun xs e => ⟨fun hs0 => ?_, fun hs0 => ⟨ρ, Sh.refl, (h2 xs e).2 hs0⟩⟩⟩
  refine sts_open hk fun d1 d2 d3 d4 kvs hs => ?_
  obtain ⟨a, e1, e2⟩ := slots_some hs e
  refine sts_one (st_ret ?_)
  wtm_at "L.ev"
  refine ix_dct (by wtm_at "L.units") (by wtm_at "L.dct") (d := .obj a) (by show Option.map _ _ = _; rw [e1]; rfl) ?_
  wtm_at "L.ev"
  refine ix_lst (LstAt.i (n := 0) rfl e2) (atI_some (slotD none) (by rw [List.length_map]; exact hs0)) ?_
  rw [getD_map]
  exact ⟨_, shut hk hs, (h2 xs e).1 hs0⟩
end
end Lw

set_option maxHeartbeats 4000000
namespace Lw
open PySem PySem.Spec PyProof.Rows L2
-- the walk over data: one step after another
local macro_rules | `(tactic| wtm_at "L.vis") => `(tactic| first | exact Or.inl rfl | exact Or.inr (Or.inl rfl) | exact Or.inr (Or.inr rfl))
local macro_rules | `(tactic| wtm_at "L.loc") => `(tactic| first | exact Or.inl rfl | exact Or.inr rfl)
local macro_rules | `(tactic| wtm_at "L.at") => `(tactic| first | with_reducible assumption | with_reducible exact at_hd | with_reducible exact at_set (by with_reducible assumption) | with_reducible exact at_ne (by with_reducible assumption) (by with_reducible assumption) | (with_reducible apply at_tl; wtm_at "L.at"))
local macro_rules | `(tactic| wtm_at "L.cx") => `(tactic| first | with_reducible assumption | exact CxOk.blk (by with_reducible assumption) _ _ _ _ _)
local macro_rules | `(tactic| wtm_at "L.N") => `(tactic| with_reducible first | exact cx_N | exact blk_N cx_N | exact tr_N cx_N | exact suite_N cx_N | exact cxH_N | exact blk_N (tr_N cx_N))
local macro_rules | `(tactic| wtm_at "L.ix") => `(tactic| first | with_reducible exact nm_z | (with_reducible apply nm_s; wtm_at "L.ix"))
local macro_rules | `(tactic| wtm_at "L.E") => `(tactic| with_reducible first | exact cx_E | exact blk_E cx_E | exact tr_E cx_E | exact blk_E (tr_E cx_E))
local macro_rules | `(tactic| wtm_at "L.nm") => `(tactic| (((with_reducible show EvP _ _ (Expr.Name _ _) _ _ _)); refine ev_nameN (by wtm_at "L.N") (by wtm_at "L.ix") (by wtm_at "L.vis") ?_; refine ⟨_, rfl, ?_⟩))
local macro_rules | `(tactic| wtm_at "L.set") => `(tactic| (((with_reducible show StP _ _ (Stmt.Assign [Expr.Name _ _] _ _) _ _ _)); refine st_setM (by with_reducible assumption) (by wtm_at "L.N") (by wtm_at "L.ix") (by wtm_at "L.loc") rfl (Or.inl rfl) ?_))
local macro_rules | `(tactic| wtm_at "L.tgn") => `(tactic| (((with_reducible show TgP _ _ (Expr.Name _ _) _ _ _ _)); refine tg_nameN (by with_reducible assumption) (by wtm_at "L.N") (by wtm_at "L.ix") (by wtm_at "L.loc") (Or.inl rfl) ?_))

local macro_rules | `(tactic| wtm_at "L.lst") => `(tactic| first | with_reducible exact LstAt.l | exact LstAt.o _ (by wtm_at "L.at") | with_reducible assumption | exact LstAt.i (by wtm_at "L.at") (by with_reducible assumption))
local macro_rules | `(tactic| wtm_at "L.dct") => `(tactic| first | exact DctAt.o _ (by wtm_at "L.at") | exact DctAt.l _ (by wtm_at "L.at") | exact DctAt.oF _ (by wtm_at "L.at") | exact DctAt.lF _ (by wtm_at "L.at") | with_reducible assumption)
local macro_rules | `(tactic| wtm_at "L.txt") => `(tactic| with_reducible assumption)
local macro_rules | `(tactic| wtm_at "L.attr") => `(tactic| (((with_reducible show EvP _ _ (Expr.Attribute _ _ _) _ _ _)); refine ev_attr rfl ?_; wtm_at "L.nm"; refine ⟨_, _, _, _, _, rfl, (by wtm_at "L.at"), Txt.cl (by assumption), ?_, rfl, ?_⟩; first
  | ((with_reducible show NoAttr _ _ "slots"); exact Txt.n1 (by assumption)) | ((with_reducible show NoAttr _ _ "held"); exact Txt.n2 (by assumption)) | ((with_reducible show NoAttr _ _ "paired"); exact Txt.n3 (by assumption)) | ((with_reducible show NoAttr _ _ "wills"); exact Txt.n4 (by assumption)) | ((with_reducible show NoAttr _ _ "coming"); exact Txt.n5 (by assumption)) | ((with_reducible show NoAttr _ _ "next_pair"); exact Txt.n6 (by assumption))))
local macro_rules | `(tactic| wtm_at "L.units") => `(tactic| exact (CxOk.room (by wtm_at "L.cx")).units)
local macro_rules | `(tactic| wtm_at "L.cls") => `(tactic| ((with_reducible show EvP _ _ (Expr.Name _ _) _ _ _); first
  | ((with_reducible show EvP _ _ (Expr.Name "NoBox" _) _ _ _); refine ev_gref rfl (ExF.gP (Txt.x1 (by assumption))) ?_)
  | ((with_reducible show EvP _ _ (Expr.Name "NoSlot" _) _ _ _); refine ev_gref rfl (ExF.gP (Txt.x2 (by assumption))) ?_)
  | ((with_reducible show EvP _ _ (Expr.Name "NoHand" _) _ _ _); refine ev_gref rfl (ExF.gP (Txt.x3 (by assumption))) ?_)
  | ((with_reducible show EvP _ _ (Expr.Name "NoPair" _) _ _ _); refine ev_gref rfl (ExF.gP (Txt.x4 (by assumption))) ?_)
  | ((with_reducible show EvP _ _ (Expr.Name "NoWill" _) _ _ _); refine ev_gref rfl (ExF.gP (Txt.x5 (by assumption))) ?_)
  | ((with_reducible show EvP _ _ (Expr.Name "TooMany" _) _ _ _); refine ev_gref rfl (ExF.gP (Txt.x6 (by assumption))) ?_)
  | ((with_reducible show EvP _ _ (Expr.Name "NoText" _) _ _ _); refine ev_gref rfl (ExF.gP (Txt.x7 (by assumption))) ?_)
  | ((with_reducible show EvP _ _ (Expr.Name "int" _) _ _ _); refine ev_ty (n := "int") rfl (Txt.int (by assumption)) (by decide +kernel) ?_)
  | ((with_reducible show EvP _ _ (Expr.Name "bool" _) _ _ _); refine ev_ty (n := "bool") rfl (Txt.bool (by assumption)) (by decide +kernel) ?_)
  | ((with_reducible show EvP _ _ (Expr.Name "list" _) _ _ _); refine ev_ty (n := "list") rfl (Txt.list (by assumption)) (by decide +kernel) ?_)
  | ((with_reducible show EvP _ _ (Expr.Name "ValueError" _) _ _ _); refine ev_ty (n := "ValueError") rfl (Txt.ve (by assumption)) (by decide +kernel) ?_)
  | ((with_reducible show EvP _ _ (Expr.Name "MOST_SLOTS" _) _ _ _); refine ev_gint rfl (Txt.ms (by assumption)) ?_)
  | ((with_reducible show EvP _ _ (Expr.Name "MOST_BOXES" _) _ _ _); refine ev_gint rfl (Txt.mb (by assumption)) ?_)))
local macro_rules | `(tactic| wtm_at "L.e") => `(tactic| ((with_reducible show EvP _ _ _ _ _ _); first
  | wtm_at "L.cls" | wtm_at "L.nm" | with_reducible refine ev_int ?_ | with_reducible refine ev_str ?_ | with_reducible refine ev_bl ?_ | with_reducible refine ev_non ?_
  | with_reducible refine ev_bin ?_ | wtm_at "L.attr" | wtm_at "L.cmp" | with_reducible refine ev_un ?_ | wtm_at "L.sub" | wtm_at "L.callB"))
local macro_rules | `(tactic| wtm_at "L.tcmp") => `(tactic| ((with_reducible show TsP _ _ (Expr.Compare _ _ _ _) _ _ _); first | refine ts_cmp (nomark _) ?_ | refine ts_cmp rfl ?_ | refine ts_chain rfl ?_))
local macro_rules | `(tactic| wtm_at "L.t") => `(tactic| ((with_reducible show TsP _ _ _ _ _ _); first | wtm_at "L.tcmp" | with_reducible refine ts_not ?_ | (with_reducible show TsP _ _ (Expr.BoolOp _ _ _) _ _ _; with_reducible refine ts_w ?_) | refine ts_tru (fun _ => rfl) ?_))
local macro_rules | `(tactic| wtm_at "L.w") => `(tactic| ((with_reducible show TwP _ _ _ _ _ _); with_reducible first | refine tw_and1 ?_ | refine tw_or1 ?_ | refine tw_and ?_ | refine tw_or ?_))
local macro_rules | `(tactic| wtm_at "L.cmp") => `(tactic| ((with_reducible show EvP _ _ (Expr.Compare _ _ _ _) _ _ _); first | refine ev_cmp (nomark _) ?_ | refine ev_cmp rfl ?_))
local macro_rules | `(tactic| wtm_at "L.sub") => `(tactic| ((with_reducible show EvP _ _ (Expr.Subscript _ _ _) _ _ _); first | with_reducible refine ev_slice ?_ | refine ev_sub (fun _ _ => rfl) ?_))
local macro_rules | `(tactic| wtm_at "L.b") => `(tactic| ((with_reducible show BiP _ _ _ _ _ _ _); first
  | with_reducible refine bi_add ?_ | with_reducible refine bi_sub ?_ | with_reducible refine bi_lt ?_ | with_reducible refine bi_le ?_ | with_reducible refine bi_gt ?_ | with_reducible refine bi_ge ?_
  | with_reducible refine bi_eqI ?_ | with_reducible refine bi_neI ?_ | with_reducible refine bi_eqS ?_ | with_reducible refine bi_neS ?_ | with_reducible refine bi_isN ?_ | with_reducible refine bi_notN ?_
  | with_reducible refine bi_mod (by decide) ?_ | with_reducible refine bi_fdiv (by decide) ?_
  | refine bi_inD (by wtm_at "L.units") (by wtm_at "L.dct") ?_ | refine bi_ninD (by wtm_at "L.units") (by wtm_at "L.dct") ?_))
local macro_rules | `(tactic| wtm_at "L.a") => `(tactic| ((with_reducible show AgP _ _ _ _ _ _); first | with_reducible refine ag_nil ?_ | refine ag_cons rfl ?_))
local macro_rules | `(tactic| wtm_at "L.o") => `(tactic| ((with_reducible show PtP _ _ _ _ _ _); first | with_reducible refine pt_none ?_ | with_reducible refine pt_some ?_))
local macro_rules | `(tactic| wtm_at "L.c") => `(tactic| ((with_reducible show ClP _ _ _ _ _ _); first
  | refine cl_lenL (by wtm_at "L.lst") ?_ | with_reducible refine cl_lenT ?_ | refine cl_lenD (by wtm_at "L.dct") ?_ | refine cl_lenX (by wtm_at "L.at") ?_))
local macro_rules | `(tactic| wtm_at "L.callB") => `(tactic| ((with_reducible show EvP _ _ (Expr.Call (Expr.Name _ _) _ _ _) _ _ _); first
  | ((with_reducible show EvP _ _ (Expr.Call (Expr.Name "len" _) _ _ _) _ _ _); refine ev_callB (id := "len") rfl (Txt.len (by assumption)) (by decide +kernel) ?_)
  | ((with_reducible show EvP _ _ (Expr.Call (Expr.Name "sorted" _) _ _ _) _ _ _); refine ev_callB (id := "sorted") rfl (Txt.sorted (by assumption)) (by decide +kernel) ?_)
  | ((with_reducible show EvP _ _ (Expr.Call (Expr.Name "isinstance" _) _ _ _) _ _ _); refine ev_callB (id := "isinstance") rfl (Txt.isi (by assumption)) (by decide +kernel) ?_)
  | ((with_reducible show EvP _ _ (Expr.Call (Expr.Name "all" _) _ _ _) _ _ _); refine ev_callB (id := "all") rfl (Txt.all (by assumption)) (by decide +kernel) ?_)
  | ((with_reducible show EvP _ _ (Expr.Call (Expr.Name "min" _) _ _ _) _ _ _); refine ev_callB (id := "min") rfl (Txt.min (by assumption)) (by decide +kernel) ?_)
  | ((with_reducible show EvP _ _ (Expr.Call (Expr.Name "max" _) _ _ _) _ _ _); refine ev_callB (id := "max") rfl (Txt.max (by assumption)) (by decide +kernel) ?_)
  | ((with_reducible show EvP _ _ (Expr.Call (Expr.Name "list" _) _ _ _) _ _ _); refine ev_callTy (T := "list") rfl (Txt.list (by assumption)) (by decide +kernel) ?_)
  | ((with_reducible show EvP _ _ (Expr.Call (Expr.Name "int" _) _ _ _) _ _ _); refine ev_callTy (T := "int") rfl (Txt.int (by assumption)) (by decide +kernel) ?_)
  ))
local macro_rules | `(tactic| wtm_at "L.meth") => `(tactic| ((with_reducible show EvP _ _ (Expr.Call (Expr.Attribute _ _ _) _ _ _) _ _ _); first
  | refine ev_methN (by wtm_at "L.cx") (by wtm_at "L.E") (by with_reducible assumption) (by decide) rfl rfl rfl ?_ | refine ev_methN0 (by wtm_at "L.cx") (by wtm_at "L.E") (by with_reducible assumption) (by decide) rfl ?_))
local macro_rules | `(tactic| wtm_at "L.ins") => `(tactic| exact InsAt.c (by wtm_at "L.at") (by decide +kernel))
local macro_rules | `(tactic| wtm_at "L.call") => `(tactic| ((with_reducible show EvP _ _ (Expr.Call (Expr.Name _ _) _ _ _) _ _ _); first
  | refine ev_callN (by wtm_at "L.cx") (by wtm_at "L.E") (by with_reducible assumption) (by decide) rfl ?_ | refine ev_callN0 (by wtm_at "L.cx") (by wtm_at "L.E") (by with_reducible assumption) (by decide) rfl ?_))
local macro_rules | `(tactic| wtm_at "L.tr") => `(tactic| ((with_reducible show TrP _ _ _ _ _); first | with_reducible refine tr_bl ?_ | with_reducible refine tr_int ?_ | with_reducible refine tr_non ?_ | refine tr_lst (by wtm_at "L.lst") ?_))
local macro_rules | `(tactic| wtm_at "L.n") => `(tactic| simp only [List.set_cons_succ, List.set_cons_zero, List.set_set])
local macro_rules | `(tactic| wtm_at "L.u") => `(tactic| ((with_reducible show UnP _ _ _ _ _ _); with_reducible refine un_neg' ?_))
local macro_rules | `(tactic| wtm_at "L.app") => `(tactic| (((with_reducible show EvP _ _ (Expr.Call (Expr.Attribute _ _ _) _ _ _) _ _ _)); refine ev_append ?_))
local macro_rules | `(tactic| wtm_at "L.wd") => `(tactic| (refine tr_bl ?_; first
  | refine ⟨fun q => absurd q (by decide), fun _ => sts_nil ?_⟩
  | (refine ⟨fun _ => sts_one (st_expr rfl ?_), fun q => absurd q (by decide)⟩; wtm_at "L.app"; wtm_at "L.nm"; refine ⟨⟨_, by wtm_at "L.lst"⟩, ?_⟩; refine ev_str ?_; refine ⟨0, _, _, rfl, by exact at_hd, by decide, ?_⟩; wtm_at "L.n")))
local macro_rules | `(tactic| wtm_at "L.i") => `(tactic| ((with_reducible show IxP _ _ (D.tup _) (D.int _) _ _); refine ix_tpl rfl ?_))
local macro_rules | `(tactic| wtm_at "L.ev1") => `(tactic| first | wtm_at "L.e" | wtm_at "L.b" | wtm_at "L.t" | wtm_at "L.w" | wtm_at "L.tr" | wtm_at "L.a" | wtm_at "L.c" | wtm_at "L.o" | wtm_at "L.u" | wtm_at "L.i")
local macro_rules | `(tactic| wtm_at "L.ev") => `(tactic| repeat (wtm_at "L.ev1"))

/-- the answer to an exception of class C is n -/
structure CatV (K : PySem.W.Frag) (G : Gn) (C : Addr) (v : Nat) : Prop where
  ec : ExcC K C
  c1 : PySem.W.kitOne K (.ref C) (.ref G.noBox) = some (decide (v = 0))
  c2 : PySem.W.kitOne K (.ref C) (.ref G.noSlot) = some (decide (v = 1))
  c3 : PySem.W.kitOne K (.ref C) (.ref G.noHand) = some (decide (v = 2))
  c4 : PySem.W.kitOne K (.ref C) (.ref G.noPair) = some (decide (v = 3))
  c5 : PySem.W.kitOne K (.ref C) (.ref G.noWill) = some (decide (v = 4))
  c6 : PySem.W.kitOne K (.ref C) (.ref G.tooMany) = some (decide (v = 5))
  c7 : PySem.W.kitOne K (.ref C) (.ref G.noText) = some (decide (v = 6))
  c8 : PySem.W.kitOne K (.ref C) (.type "ValueError") = some true
  cx : PySem.W.exmOne K (.ref C) (.ref G.willErr) = some true
def Cat (K : PySem.W.Frag) (G : Gn) (C : Addr) (n : Str) : Prop := (n = "box" ∧ CatV K G C 0) ∨ (n = "slot" ∧ CatV K G C 1) ∨ (n = "hand" ∧ CatV K G C 2) ∨ (n = "pair" ∧ CatV K G C 3) ∨ (n = "will" ∧ CatV K G C 4) ∨ (n = "many" ∧ CatV K G C 5) ∨ (n = "text" ∧ CatV K G C 6)
theorem Cat.cx {K : PySem.W.Frag} {G : Gn} {C : Addr} {n : Str} : Cat K G C n → PySem.W.exmOne K (.ref C) (.ref G.willErr) = some true
  | .inl h => h.2.cx | .inr (.inl h) => h.2.cx | .inr (.inr (.inl h)) => h.2.cx | .inr (.inr (.inr (.inl h))) => h.2.cx | .inr (.inr (.inr (.inr (.inl h)))) => h.2.cx | .inr (.inr (.inr (.inr (.inr (.inl h))))) => h.2.cx | .inr (.inr (.inr (.inr (.inr (.inr h))))) => h.2.cx
structure TxtC (K : PySem.W.Frag) (mg : Str → Option Value) (G : Gn) : Prop where
  we : mg "WillError" = some (.ref G.willErr)
  k1 : Cat K G G.noBox "box"
  k2 : Cat K G G.noSlot "slot"
  k3 : Cat K G G.noHand "hand"
  k4 : Cat K G G.noPair "pair"
  k5 : Cat K G G.noWill "will"
  k6 : Cat K G G.tooMany "many"
  k7 : Cat K G G.noText "text"
def DefW (P : Program) (w : World) (K : PySem.W.Frag) (mg : Str → Option Value) (base : Heap) (x : Str) (k : Nat) (R : Addr → Str → Prop) : Prop := ∃ (f : Addr) (fd : FuncData) (ps : List Str), FnW P w K mg base k f fd ps R ∧ mg x = some (.ref f) ∧ PySem.W.keepIn K (.ref f) = true ∧ Binds K fd ps []
theorem DefW.mono {P : Program} {w : World} {K : PySem.W.Frag} {mg : Str → Option Value} {base : Heap} {x : Str} {j k : Nat} {R : Addr → Str → Prop} (h : j ≤ k) : DefW P w K mg base x j R → DefW P w K mg base x k R := fun ⟨f, fd, ps, F, r⟩ => ⟨f, fd, ps, F.mono h, r⟩
section
variable {P : Program} {w : World} {K : PySem.W.Frag} {mg : Str → Option Value} {base : Heap} {G : Gn}
variable {f : Addr} {fd : FuncData}
def wordOf : Nat → Str
  | 0 => "box" | 1 => "slot" | 2 => "hand" | 3 => "pair" | 4 => "will" | 5 => "many" | _ => "text"
def wordsTo (i v : Nat) : List D := if v < i then [.str (wordOf v)] else []
theorem words_t {i v : Nat} (h : decide (v = i) = true) : wordsTo i v ++ [.str (wordOf i)] = wordsTo (i + 1) v := by
  have e : v = i := of_decide_eq_true h
  subst e
  unfold wordsTo
  rw [if_neg (Nat.lt_irrefl _), if_pos (Nat.lt_succ_self _)]; rfl
theorem words_f {i v : Nat} (h : decide (v = i) = false) : wordsTo i v = wordsTo (i + 1) v := by
  have e : ¬ v = i := of_decide_eq_false h
  unfold wordsTo
  by_cases c : v < i
  · rw [if_pos c, if_pos (by omega)]
  · rw [if_neg c, if_neg (by omega)]
theorem words_len (i v : Nat) : (wordsTo i v).length ≤ 100000 := by
  unfold wordsTo
  split <;> simp
theorem Cat.at {K : PySem.W.Frag} {G : Gn} {C : Addr} {n : Str} : Cat K G C n → ∃ v, v < 7 ∧ n = wordOf v ∧ CatV K G C v
  | .inl h => ⟨0, by decide, h.1, h.2⟩ | .inr (.inl h) => ⟨1, by decide, h.1, h.2⟩ | .inr (.inr (.inl h)) => ⟨2, by decide, h.1, h.2⟩ | .inr (.inr (.inr (.inl h))) => ⟨3, by decide, h.1, h.2⟩ | .inr (.inr (.inr (.inr (.inl h)))) => ⟨4, by decide, h.1, h.2⟩
  | .inr (.inr (.inr (.inr (.inr (.inl h))))) => ⟨5, by decide, h.1, h.2⟩ | .inr (.inr (.inr (.inr (.inr (.inr h))))) => ⟨6, by decide, h.1, h.2⟩
theorem ok_class (M : Txt K mg G) (F : Fun K "_law_class" "_law_class" sf_law_class f fd) : FnW P w K mg base 1 f fd ["_law_e"] (Cat K G) := by
  refine fnW F scf_law_class rfl fun cdv A outer s H E B Φ ρ p C n hot ct hΦ hB hr => ?_
  have hx : HotX (L2H.cxH (L2.CX P w) P w K mg base nf_law_class "_law_class" (defScope sf_law_class) f cdv A outer s H E p) p.1 C := ⟨p.2, List.mem_cons_self, hot⟩
  refine sts_cons (st_setN (i := 1) scf_law_class.nd rfl (Or.inl rfl) rfl (Or.inl rfl) (ev_lsto (ag_nil ⟨by decide, fun q hq => ?_⟩)))
  obtain ⟨v, hv, rfl, ec, c1, c2, c3, c4, c5, c6, c7, c8, cx⟩ := ct.at
  refine sts_cut (fun δ' ρ' => δ' = [some (.obj p.1), some (.obj q)] ∧ ρ' = (q, .ol (wordsTo 1 v)) :: ρ) (st_if ?_) ?_
  · wtm_at "L.ev"
    refine cl_isW ec hx (.inl ⟨_, rfl, rfl⟩) c1 (tr_bl ⟨fun h => sts_one (st_expr rfl ?_), fun h => sts_nil ⟨rfl, by rw [← words_f h]; try rfl⟩⟩)
    wtm_at "L.app"
    wtm_at "L.nm"
    refine ⟨⟨_, by wtm_at "L.lst"⟩, ev_str ⟨0, _, _, rfl, by exact at_hd, words_len 0 v, rfl, ?_⟩⟩
    rw [← words_t h]
    all_goals rfl
  rintro δ' ρ' ⟨rfl, rfl⟩
  refine sts_cut (fun δ' ρ' => δ' = [some (.obj p.1), some (.obj q)] ∧ ρ' = (q, .ol (wordsTo 2 v)) :: ρ) (st_if ?_) ?_
  · wtm_at "L.ev"
    refine cl_isW ec hx (.inl ⟨_, rfl, rfl⟩) c2 (tr_bl ⟨fun h => sts_one (st_expr rfl ?_), fun h => sts_nil ⟨rfl, by rw [← words_f h]; try rfl⟩⟩)
    wtm_at "L.app"
    wtm_at "L.nm"
    refine ⟨⟨_, by wtm_at "L.lst"⟩, ev_str ⟨0, _, _, rfl, by exact at_hd, words_len _ _, rfl, ?_⟩⟩
    rw [← words_t h]
    all_goals rfl
  rintro δ' ρ' ⟨rfl, rfl⟩
  refine sts_cut (fun δ' ρ' => δ' = [some (.obj p.1), some (.obj q)] ∧ ρ' = (q, .ol (wordsTo 3 v)) :: ρ) (st_if ?_) ?_
  · wtm_at "L.ev"
    refine cl_isW ec hx (.inl ⟨_, rfl, rfl⟩) c3 (tr_bl ⟨fun h => sts_one (st_expr rfl ?_), fun h => sts_nil ⟨rfl, by rw [← words_f h]; try rfl⟩⟩)
    wtm_at "L.app"
    wtm_at "L.nm"
    refine ⟨⟨_, by wtm_at "L.lst"⟩, ev_str ⟨0, _, _, rfl, by exact at_hd, words_len _ _, rfl, ?_⟩⟩
    rw [← words_t h]
    all_goals rfl
  rintro δ' ρ' ⟨rfl, rfl⟩
  refine sts_cut (fun δ' ρ' => δ' = [some (.obj p.1), some (.obj q)] ∧ ρ' = (q, .ol (wordsTo 4 v)) :: ρ) (st_if ?_) ?_
  · wtm_at "L.ev"
    refine cl_isW ec hx (.inl ⟨_, rfl, rfl⟩) c4 (tr_bl ⟨fun h => sts_one (st_expr rfl ?_), fun h => sts_nil ⟨rfl, by rw [← words_f h]; try rfl⟩⟩)
    wtm_at "L.app"
    wtm_at "L.nm"
    refine ⟨⟨_, by wtm_at "L.lst"⟩, ev_str ⟨0, _, _, rfl, by exact at_hd, words_len _ _, rfl, ?_⟩⟩
    rw [← words_t h]
    all_goals rfl
  rintro δ' ρ' ⟨rfl, rfl⟩
  refine sts_cut (fun δ' ρ' => δ' = [some (.obj p.1), some (.obj q)] ∧ ρ' = (q, .ol (wordsTo 5 v)) :: ρ) (st_if ?_) ?_
  · wtm_at "L.ev"
    refine cl_isW ec hx (.inl ⟨_, rfl, rfl⟩) c5 (tr_bl ⟨fun h => sts_one (st_expr rfl ?_), fun h => sts_nil ⟨rfl, by rw [← words_f h]; try rfl⟩⟩)
    wtm_at "L.app"
    wtm_at "L.nm"
    refine ⟨⟨_, by wtm_at "L.lst"⟩, ev_str ⟨0, _, _, rfl, by exact at_hd, words_len _ _, rfl, ?_⟩⟩
    rw [← words_t h]
    all_goals rfl
  rintro δ' ρ' ⟨rfl, rfl⟩
  refine sts_cut (fun δ' ρ' => δ' = [some (.obj p.1), some (.obj q)] ∧ ρ' = (q, .ol (wordsTo 6 v)) :: ρ) (st_if ?_) ?_
  · wtm_at "L.ev"
    refine cl_isW ec hx (.inl ⟨_, rfl, rfl⟩) c6 (tr_bl ⟨fun h => sts_one (st_expr rfl ?_), fun h => sts_nil ⟨rfl, by rw [← words_f h]; try rfl⟩⟩)
    wtm_at "L.app"
    wtm_at "L.nm"
    refine ⟨⟨_, by wtm_at "L.lst"⟩, ev_str ⟨0, _, _, rfl, by exact at_hd, words_len _ _, rfl, ?_⟩⟩
    rw [← words_t h]
    all_goals rfl
  rintro δ' ρ' ⟨rfl, rfl⟩
  refine sts_cut (fun δ' ρ' => δ' = [some (.obj p.1), some (.obj q)] ∧ ρ' = (q, .ol (wordsTo 7 v)) :: ρ) (st_if ?_) ?_
  · wtm_at "L.ev"
    refine cl_isW ec hx (.inl ⟨_, rfl, rfl⟩) c7 (tr_bl ⟨fun h => sts_one (st_expr rfl ?_), fun h => sts_nil ⟨rfl, by rw [← words_f h]; try rfl⟩⟩)
    wtm_at "L.app"
    wtm_at "L.nm"
    refine ⟨⟨_, by wtm_at "L.lst"⟩, ev_str ⟨0, _, _, rfl, by exact at_hd, words_len _ _, rfl, ?_⟩⟩
    rw [← words_t h]
    all_goals rfl
  rintro δ' ρ' ⟨rfl, rfl⟩
  refine sts_cons (st_if ?_)
  have e7 : wordsTo 7 v = [.str (wordOf v)] := if_pos hv
  rw [e7]
  wtm_at "L.ev"
  refine ⟨_, rfl, fun _ => ?_, fun q => by simp at q⟩
  wtm_at "L.ev"
  refine cl_isW ec hx (.inr ⟨_, rfl, rfl⟩) c8 ?_
  wtm_at "L.ev"
  refine ⟨fun _ => ?_, fun q => absurd q (by decide)⟩
  refine sts_one (st_ret ?_)
  wtm_at "L.ev"
  refine ix_lst (LstAt.o 0 (by exact at_hd)) rfl ?_
  exact ⟨_, Sh.drop, hΦ _ rfl⟩
def wCellAt : WP := fun as ρ Φ _ => ∃ (n : Nat) (a : Addr) (ns : List Int) (k : Int), as = [.obj a, .int k] ∧ ρ[n]? = some (a, Own.scr ns) ∧ 0 ≤ k ∧ Φ (.int (ns.getD k.toNat 0)) ρ
theorem ok_cell_at (M : Txt K mg G) (F : Fun K "_law_cell_at" "_law_cell_at" sf_law_cell_at f fd) : FnOk P w K mg base (L2.CX P w) 1 f fd ["_law_script", "_law_k"] (spW K 2 wCellAt) := by
  refine okW F scf_law_cell_at fun cdv A outer s H E B Φ Ψ as ρ c hl hw => ?_
  obtain ⟨n, a, ns, k, rfl, hk, hz, h⟩ := hw
  refine sts_cons (st_if (ts_cmp rfl ?_))
  wtm_at "L.ev"
  refine ⟨_, rfl, fun q => ?_, fun q => sts_nil ?_⟩
  · simp at q
    refine sts_one (st_ret ?_)
    wtm_at "L.ev"
    refine ix_scr hk (atI_some 0 ⟨hz, q⟩) ?_
    exact ⟨_, Sh.refl, h⟩
  · simp at q
    refine sts_one (st_ret (ev_int ⟨_, Sh.refl, ?_⟩))
    rw [List.getD_eq_getElem?_getD, List.getElem?_eq_none (by omega)] at h
    exact h
def wWhole : WP := fun as ρ Φ _ => ∃ i : Int, as = [.int i] ∧ Φ (.bl true) ρ
theorem ok_whole (M : Txt K mg G) (F : Fun K "_law_whole" "_law_whole" sf_law_whole f fd) : FnOk P w K mg base (L2.CX P w) 1 f fd ["_law_found"] (spW K 1 wWhole) := by
  refine okW F scf_law_whole fun cdv A outer s H E B Φ Ψ as ρ c hl hw => ?_
  obtain ⟨i, rfl, h⟩ := hw
  refine sts_one (st_ret (ev_and ?_))
  wtm_at "L.ev"
  refine cl_isi (t := "int") (u := "int") (b := true) rfl rfl ?_
  refine ⟨_, rfl, fun _ => ev_and1 (ev_not ?_), fun q => nomatch q⟩
  wtm_at "L.ev"
  refine cl_isi (t := "int") (u := "bool") (b := false) rfl (by decide +kernel) ?_
  exact ⟨_, rfl, _, Sh.refl, h⟩
def wMixed : WP := fun as ρ Φ _ => ∃ i k m : Int, as = [.int i, .int k, .int m] ∧ 0 < m ∧ ∀ z, 0 ≤ z → z < m → Φ (.int z) ρ
def someL : List Int := [99991, 99989, 99971, 99961, 99929, 99923, 99907, 99901, 99881, 99877, 99871]
theorem someL_d : [D.int 99991, D.int 99989, D.int 99971, D.int 99961, D.int 99929, D.int 99923, D.int 99907, D.int 99901, D.int 99881, D.int 99877, D.int 99871] = someL.map D.int := rfl
theorem someL_mem : ∀ x ∈ someL, 0 < x ∧ x < 100000 := by
  intro x hx
  unfold someL at hx
  simp only [List.mem_cons, List.not_mem_nil, or_false] at hx
  omega
theorem some_at (j : Int) (h : 0 ≤ j ∧ j < 11) : ∃ v : Int, atI (someL.map D.int) j = some (.int v) ∧ 0 < v ∧ v < 100000 := by
  have hl : j.toNat < someL.length := by show j.toNat < 11; omega
  refine ⟨someL.getD j.toNat 0, atI_ints ⟨h.1, by show j < 11; omega⟩, ?_⟩
  refine someL_mem _ ?_
  rw [List.getD_eq_getElem?_getD, List.getElem?_eq_getElem hl]
  exact List.getElem_mem hl
theorem ok_mixed (M : Txt K mg G) (F : Fun K "_law_mixed" "_law_mixed" sf_law_mixed f fd) : FnOk P w K mg base (L2.CX P w) 1 f fd ["_law_cell", "_law_k", "_law_many"] (spW K 3 wMixed) := by
  refine okW F scf_law_mixed fun cdv A outer s H E B Φ Ψ as ρ c hl hw => ?_
  obtain ⟨i, k, m, rfl, hm, h⟩ := hw
  refine sts_cons ?_
  generalize hes : [Expr.Constant (Const.int 99991) 0 _, _, _, _, _, _, _, _, _, _, _] = es
  have hlit : litsOf es = some someL := by rw [← hes]; rfl
  clear hes
  refine st_setM (i := 3) c cx_N rfl (Or.inl rfl) rfl (Or.inl rfl) (ev_lst (ag_lits hlit ⟨(by show 11 ≤ sizeLine; decide), ?_⟩))
  refine sts_cons ?_
  wtm_at "L.set"
  wtm_at "L.ev"
  refine bi_mul (Or.inl ⟨by omega, by omega⟩) ?_
  wtm_at "L.ev"
  refine bi_mul (Or.inr ⟨by omega, by omega⟩) ?_
  wtm_at "L.ev"
  obtain ⟨v, e1, e2, e3⟩ := some_at (k % 11) ⟨Int.emod_nonneg _ (by decide), Int.emod_lt_of_pos _ (by decide)⟩
  refine ix_lst LstAt.l e1 (bi_mod e2 ?_)
  have b1 := Int.emod_nonneg ((i + 7 * k) * 48271) (show v ≠ 0 by omega)
  have b2 := Int.emod_lt_of_pos ((i + 7 * k) * 48271) e2
  refine sts_one (st_ret ?_)
  wtm_at "L.ev"
  refine bi_mul (Or.inl (by omega)) ?_
  wtm_at "L.ev"
  refine bi_mul (Or.inr ⟨by omega, by omega⟩) ?_
  wtm_at "L.ev"
  refine bi_mod hm ?_
  exact ⟨_, Sh.refl, h _ (Int.emod_nonneg _ (by omega)) (Int.emod_lt_of_pos _ hm)⟩
end
end Lw

set_option maxHeartbeats 4000000
namespace Lw
open PySem PySem.Spec PyProof.Rows L2
-- the walk over data: one step after another
local macro_rules | `(tactic| wtm_at "L.vis") => `(tactic| first | exact Or.inl rfl | exact Or.inr (Or.inl rfl) | exact Or.inr (Or.inr rfl))
local macro_rules | `(tactic| wtm_at "L.loc") => `(tactic| first | exact Or.inl rfl | exact Or.inr rfl)
local macro_rules | `(tactic| wtm_at "L.at") => `(tactic| first | with_reducible assumption | with_reducible exact at_hd | with_reducible exact at_set (by with_reducible assumption) | with_reducible exact at_ne (by with_reducible assumption) (by with_reducible assumption) | (with_reducible apply at_tl; wtm_at "L.at"))
local macro_rules | `(tactic| wtm_at "L.cx") => `(tactic| first | with_reducible assumption | exact CxOk.blk (by with_reducible assumption) _ _ _ _ _)
local macro_rules | `(tactic| wtm_at "L.N") => `(tactic| with_reducible first | exact cx_N | exact blk_N cx_N | exact tr_N cx_N | exact suite_N cx_N | exact cxH_N | exact blk_N (tr_N cx_N))
local macro_rules | `(tactic| wtm_at "L.ix") => `(tactic| first | with_reducible exact nm_z | (with_reducible apply nm_s; wtm_at "L.ix"))
local macro_rules | `(tactic| wtm_at "L.E") => `(tactic| with_reducible first | exact cx_E | exact blk_E cx_E | exact tr_E cx_E | exact blk_E (tr_E cx_E))
local macro_rules | `(tactic| wtm_at "L.nm") => `(tactic| (((with_reducible show EvP _ _ (Expr.Name _ _) _ _ _)); refine ev_nameN (by wtm_at "L.N") (by wtm_at "L.ix") (by wtm_at "L.vis") ?_; refine ⟨_, rfl, ?_⟩))
local macro_rules | `(tactic| wtm_at "L.set") => `(tactic| (((with_reducible show StP _ _ (Stmt.Assign [Expr.Name _ _] _ _) _ _ _)); refine st_setM (by with_reducible assumption) (by wtm_at "L.N") (by wtm_at "L.ix") (by wtm_at "L.loc") rfl (Or.inl rfl) ?_))
local macro_rules | `(tactic| wtm_at "L.tgn") => `(tactic| (((with_reducible show TgP _ _ (Expr.Name _ _) _ _ _ _)); refine tg_nameN (by with_reducible assumption) (by wtm_at "L.N") (by wtm_at "L.ix") (by wtm_at "L.loc") (Or.inl rfl) ?_))

local macro_rules | `(tactic| wtm_at "L.lst") => `(tactic| first | with_reducible exact LstAt.l | exact LstAt.o _ (by wtm_at "L.at") | with_reducible assumption | exact LstAt.i (by wtm_at "L.at") (by with_reducible assumption))
local macro_rules | `(tactic| wtm_at "L.dct") => `(tactic| first | exact DctAt.o _ (by wtm_at "L.at") | exact DctAt.l _ (by wtm_at "L.at") | exact DctAt.oF _ (by wtm_at "L.at") | exact DctAt.lF _ (by wtm_at "L.at") | with_reducible assumption)
local macro_rules | `(tactic| wtm_at "L.txt") => `(tactic| with_reducible assumption)
local macro_rules | `(tactic| wtm_at "L.attr") => `(tactic| (((with_reducible show EvP _ _ (Expr.Attribute _ _ _) _ _ _)); refine ev_attr rfl ?_; wtm_at "L.nm"; refine ⟨_, _, _, _, _, rfl, (by wtm_at "L.at"), Txt.cl (by assumption), ?_, rfl, ?_⟩; first
  | ((with_reducible show NoAttr _ _ "slots"); exact Txt.n1 (by assumption)) | ((with_reducible show NoAttr _ _ "held"); exact Txt.n2 (by assumption)) | ((with_reducible show NoAttr _ _ "paired"); exact Txt.n3 (by assumption)) | ((with_reducible show NoAttr _ _ "wills"); exact Txt.n4 (by assumption)) | ((with_reducible show NoAttr _ _ "coming"); exact Txt.n5 (by assumption)) | ((with_reducible show NoAttr _ _ "next_pair"); exact Txt.n6 (by assumption))))
local macro_rules | `(tactic| wtm_at "L.units") => `(tactic| exact (CxOk.room (by wtm_at "L.cx")).units)
local macro_rules | `(tactic| wtm_at "L.cls") => `(tactic| ((with_reducible show EvP _ _ (Expr.Name _ _) _ _ _); first
  | ((with_reducible show EvP _ _ (Expr.Name "NoBox" _) _ _ _); refine ev_gref rfl (ExF.gP (Txt.x1 (by assumption))) ?_)
  | ((with_reducible show EvP _ _ (Expr.Name "NoSlot" _) _ _ _); refine ev_gref rfl (ExF.gP (Txt.x2 (by assumption))) ?_)
  | ((with_reducible show EvP _ _ (Expr.Name "NoHand" _) _ _ _); refine ev_gref rfl (ExF.gP (Txt.x3 (by assumption))) ?_)
  | ((with_reducible show EvP _ _ (Expr.Name "NoPair" _) _ _ _); refine ev_gref rfl (ExF.gP (Txt.x4 (by assumption))) ?_)
  | ((with_reducible show EvP _ _ (Expr.Name "NoWill" _) _ _ _); refine ev_gref rfl (ExF.gP (Txt.x5 (by assumption))) ?_)
  | ((with_reducible show EvP _ _ (Expr.Name "TooMany" _) _ _ _); refine ev_gref rfl (ExF.gP (Txt.x6 (by assumption))) ?_)
  | ((with_reducible show EvP _ _ (Expr.Name "NoText" _) _ _ _); refine ev_gref rfl (ExF.gP (Txt.x7 (by assumption))) ?_)
  | ((with_reducible show EvP _ _ (Expr.Name "int" _) _ _ _); refine ev_ty (n := "int") rfl (Txt.int (by assumption)) (by decide +kernel) ?_)
  | ((with_reducible show EvP _ _ (Expr.Name "bool" _) _ _ _); refine ev_ty (n := "bool") rfl (Txt.bool (by assumption)) (by decide +kernel) ?_)
  | ((with_reducible show EvP _ _ (Expr.Name "list" _) _ _ _); refine ev_ty (n := "list") rfl (Txt.list (by assumption)) (by decide +kernel) ?_)
  | ((with_reducible show EvP _ _ (Expr.Name "ValueError" _) _ _ _); refine ev_ty (n := "ValueError") rfl (Txt.ve (by assumption)) (by decide +kernel) ?_)
  | ((with_reducible show EvP _ _ (Expr.Name "MOST_SLOTS" _) _ _ _); refine ev_gint rfl (Txt.ms (by assumption)) ?_)
  | ((with_reducible show EvP _ _ (Expr.Name "MOST_BOXES" _) _ _ _); refine ev_gint rfl (Txt.mb (by assumption)) ?_)))
local macro_rules | `(tactic| wtm_at "L.e") => `(tactic| ((with_reducible show EvP _ _ _ _ _ _); first
  | wtm_at "L.cls" | wtm_at "L.nm" | with_reducible refine ev_int ?_ | with_reducible refine ev_str ?_ | with_reducible refine ev_bl ?_ | with_reducible refine ev_non ?_
  | with_reducible refine ev_bin ?_ | wtm_at "L.attr" | wtm_at "L.cmp" | with_reducible refine ev_un ?_ | wtm_at "L.sub" | wtm_at "L.callB"))
local macro_rules | `(tactic| wtm_at "L.tcmp") => `(tactic| ((with_reducible show TsP _ _ (Expr.Compare _ _ _ _) _ _ _); first | refine ts_cmp (nomark _) ?_ | refine ts_cmp rfl ?_ | refine ts_chain rfl ?_))
local macro_rules | `(tactic| wtm_at "L.t") => `(tactic| ((with_reducible show TsP _ _ _ _ _ _); first | wtm_at "L.tcmp" | with_reducible refine ts_not ?_ | (with_reducible show TsP _ _ (Expr.BoolOp _ _ _) _ _ _; with_reducible refine ts_w ?_) | refine ts_tru (fun _ => rfl) ?_))
local macro_rules | `(tactic| wtm_at "L.w") => `(tactic| ((with_reducible show TwP _ _ _ _ _ _); with_reducible first | refine tw_and1 ?_ | refine tw_or1 ?_ | refine tw_and ?_ | refine tw_or ?_))
local macro_rules | `(tactic| wtm_at "L.cmp") => `(tactic| ((with_reducible show EvP _ _ (Expr.Compare _ _ _ _) _ _ _); first | refine ev_cmp (nomark _) ?_ | refine ev_cmp rfl ?_))
local macro_rules | `(tactic| wtm_at "L.sub") => `(tactic| ((with_reducible show EvP _ _ (Expr.Subscript _ _ _) _ _ _); first | with_reducible refine ev_slice ?_ | refine ev_sub (fun _ _ => rfl) ?_))
local macro_rules | `(tactic| wtm_at "L.b") => `(tactic| ((with_reducible show BiP _ _ _ _ _ _ _); first
  | with_reducible refine bi_add ?_ | with_reducible refine bi_sub ?_ | with_reducible refine bi_lt ?_ | with_reducible refine bi_le ?_ | with_reducible refine bi_gt ?_ | with_reducible refine bi_ge ?_
  | with_reducible refine bi_eqI ?_ | with_reducible refine bi_neI ?_ | with_reducible refine bi_eqS ?_ | with_reducible refine bi_neS ?_ | with_reducible refine bi_isN ?_ | with_reducible refine bi_notN ?_
  | with_reducible refine bi_mod (by decide) ?_ | with_reducible refine bi_fdiv (by decide) ?_
  | refine bi_inD (by wtm_at "L.units") (by wtm_at "L.dct") ?_ | refine bi_ninD (by wtm_at "L.units") (by wtm_at "L.dct") ?_))
local macro_rules | `(tactic| wtm_at "L.a") => `(tactic| ((with_reducible show AgP _ _ _ _ _ _); first | with_reducible refine ag_nil ?_ | refine ag_cons rfl ?_))
local macro_rules | `(tactic| wtm_at "L.o") => `(tactic| ((with_reducible show PtP _ _ _ _ _ _); first | with_reducible refine pt_none ?_ | with_reducible refine pt_some ?_))
local macro_rules | `(tactic| wtm_at "L.c") => `(tactic| ((with_reducible show ClP _ _ _ _ _ _); first
  | refine cl_lenL (by wtm_at "L.lst") ?_ | with_reducible refine cl_lenT ?_ | refine cl_lenD (by wtm_at "L.dct") ?_ | refine cl_lenX (by wtm_at "L.at") ?_))
local macro_rules | `(tactic| wtm_at "L.callB") => `(tactic| ((with_reducible show EvP _ _ (Expr.Call (Expr.Name _ _) _ _ _) _ _ _); first
  | ((with_reducible show EvP _ _ (Expr.Call (Expr.Name "len" _) _ _ _) _ _ _); refine ev_callB (id := "len") rfl (Txt.len (by assumption)) (by decide +kernel) ?_)
  | ((with_reducible show EvP _ _ (Expr.Call (Expr.Name "sorted" _) _ _ _) _ _ _); refine ev_callB (id := "sorted") rfl (Txt.sorted (by assumption)) (by decide +kernel) ?_)
  | ((with_reducible show EvP _ _ (Expr.Call (Expr.Name "isinstance" _) _ _ _) _ _ _); refine ev_callB (id := "isinstance") rfl (Txt.isi (by assumption)) (by decide +kernel) ?_)
  | ((with_reducible show EvP _ _ (Expr.Call (Expr.Name "all" _) _ _ _) _ _ _); refine ev_callB (id := "all") rfl (Txt.all (by assumption)) (by decide +kernel) ?_)
  | ((with_reducible show EvP _ _ (Expr.Call (Expr.Name "min" _) _ _ _) _ _ _); refine ev_callB (id := "min") rfl (Txt.min (by assumption)) (by decide +kernel) ?_)
  | ((with_reducible show EvP _ _ (Expr.Call (Expr.Name "max" _) _ _ _) _ _ _); refine ev_callB (id := "max") rfl (Txt.max (by assumption)) (by decide +kernel) ?_)
  | ((with_reducible show EvP _ _ (Expr.Call (Expr.Name "list" _) _ _ _) _ _ _); refine ev_callTy (T := "list") rfl (Txt.list (by assumption)) (by decide +kernel) ?_)
  | ((with_reducible show EvP _ _ (Expr.Call (Expr.Name "int" _) _ _ _) _ _ _); refine ev_callTy (T := "int") rfl (Txt.int (by assumption)) (by decide +kernel) ?_)
  ))
local macro_rules | `(tactic| wtm_at "L.meth") => `(tactic| ((with_reducible show EvP _ _ (Expr.Call (Expr.Attribute _ _ _) _ _ _) _ _ _); first
  | refine ev_methN (by wtm_at "L.cx") (by wtm_at "L.E") (by with_reducible assumption) (by decide) rfl rfl rfl ?_ | refine ev_methN0 (by wtm_at "L.cx") (by wtm_at "L.E") (by with_reducible assumption) (by decide) rfl ?_))
local macro_rules | `(tactic| wtm_at "L.ins") => `(tactic| exact InsAt.c (by wtm_at "L.at") (by decide +kernel))
local macro_rules | `(tactic| wtm_at "L.call") => `(tactic| ((with_reducible show EvP _ _ (Expr.Call (Expr.Name _ _) _ _ _) _ _ _); first
  | refine ev_callN (by wtm_at "L.cx") (by wtm_at "L.E") (by with_reducible assumption) (by decide) rfl ?_ | refine ev_callN0 (by wtm_at "L.cx") (by wtm_at "L.E") (by with_reducible assumption) (by decide) rfl ?_))
local macro_rules | `(tactic| wtm_at "L.tr") => `(tactic| ((with_reducible show TrP _ _ _ _ _); first | with_reducible refine tr_bl ?_ | with_reducible refine tr_int ?_ | with_reducible refine tr_non ?_ | refine tr_lst (by wtm_at "L.lst") ?_))
local macro_rules | `(tactic| wtm_at "L.n") => `(tactic| simp only [List.set_cons_succ, List.set_cons_zero, List.set_set])
local macro_rules | `(tactic| wtm_at "L.u") => `(tactic| ((with_reducible show UnP _ _ _ _ _ _); with_reducible refine un_neg' ?_))
local macro_rules | `(tactic| wtm_at "L.app") => `(tactic| (((with_reducible show EvP _ _ (Expr.Call (Expr.Attribute _ _ _) _ _ _) _ _ _)); refine ev_append ?_))
local macro_rules | `(tactic| wtm_at "L.wd") => `(tactic| (refine tr_bl ?_; first
  | refine ⟨fun q => absurd q (by decide), fun _ => sts_nil ?_⟩
  | (refine ⟨fun _ => sts_one (st_expr rfl ?_), fun q => absurd q (by decide)⟩; wtm_at "L.app"; wtm_at "L.nm"; refine ⟨⟨_, by wtm_at "L.lst"⟩, ?_⟩; refine ev_str ?_; refine ⟨0, _, _, rfl, by exact at_hd, by decide, ?_⟩; wtm_at "L.n")))
local macro_rules | `(tactic| wtm_at "L.i") => `(tactic| ((with_reducible show IxP _ _ (D.tup _) (D.int _) _ _); refine ix_tpl rfl ?_))
local macro_rules | `(tactic| wtm_at "L.ev1") => `(tactic| first | wtm_at "L.e" | wtm_at "L.b" | wtm_at "L.t" | wtm_at "L.w" | wtm_at "L.tr" | wtm_at "L.a" | wtm_at "L.c" | wtm_at "L.o" | wtm_at "L.u" | wtm_at "L.i")
local macro_rules | `(tactic| wtm_at "L.ev") => `(tactic| repeat (wtm_at "L.ev1"))

section
variable {P : Program} {w : World} {K : PySem.W.Frag} {mg : Str → Option Value} {base : Heap} {G : Gn}
variable {f : Addr} {fd : FuncData}
/-- slot s of box b tells v -/
def CS.setSlot (c : CS) (b : Int) (xs : List (Option (Int × Bool))) (s : Int) (v : Option (Int × Bool)) : CS := { c with slots := aPut c.slots b (xs.set s.toNat v) }
theorem ixN_in {n : Nat} {i : Int} (h : 0 ≤ i ∧ i < n) : ixN n i = some i.toNat := by
  unfold ixN
  rw [if_pos h.1, if_pos h.2]
theorem slots_setSlot {kvs : List (Int × (Addr × List D))} {c : CS} {b s : Int} {a : Addr} {xs : List (Option (Int × Bool))} {v : Option (Int × Bool)} (h : SlotsAre kvs c.slots) : SlotsAre (aPut kvs b (a, (xs.map slotD).set s.toNat (slotD v))) (c.setSlot b xs s v).slots := by
  rw [← List.map_set]
  exact slots_put h
def wPut (G : Gn) : WP := fun as ρ Φ Ψ => ∃ (n : Nat) (p : Addr) (c : CS) (b s o : Int) (hh : Bool), as = [.obj p, .int b, .int s, .int o, .bl hh] ∧ ρ[n]? = some (p, Own.chest G.C c) ∧ (aGet c.slots b = none → Ψ G.noBox ρ) ∧
  ∀ xs, aGet c.slots b = some xs → (¬ (0 ≤ s ∧ s < xs.length) → Ψ G.noSlot ρ) ∧ (0 ≤ s ∧ s < xs.length → (aGet c.slots o = none → Ψ G.noBox ρ) ∧ ∀ ys, aGet c.slots o = some ys → Φ .non (ρ.set n (p, .chest G.C (c.setSlot b xs s (some (o, hh))))))
theorem ok_put (M : Txt K mg G) (F : Fun K "put" "Chest.put" sm_put f fd) (D1 : MetOk P w K mg base G.C "need_slot" 2 3 (wNeedSlot G)) (D2 : MetOk P w K mg base G.C "need_box" 1 2 (wNeedBox G)) : FnOk P w K mg base (L2.CX P w) 3 f fd ["self", "box", "slot", "other", "holds"] (spW K 5 (wPut G)) := by
  refine okW F scm_put fun cdv A outer s H E B Φ Ψ as ρ c hl hw => ?_
  obtain ⟨n, p, ch, b, sl, o, hh, rfl, hk, h1, h2⟩ := hw
  refine sts_cons (st_expr rfl ?_)
  wtm_at "L.meth"
  wtm_at "L.nm"
  refine ⟨by wtm_at "L.ins", ?_⟩
  wtm_at "L.ev"
  refine ⟨rfl, n, p, ch, b, sl, rfl, hk, fun e => ⟨ρ, Sh.refl, h1 e⟩, fun xs e => ⟨fun hs0 => ?_, fun hs0 => ⟨ρ, Sh.refl, (h2 xs e).1 hs0⟩⟩⟩
  obtain ⟨h3, h4⟩ := (h2 xs e).2 hs0
  refine sts_cons (st_expr rfl ?_)
  wtm_at "L.meth"
  wtm_at "L.nm"
  refine ⟨by wtm_at "L.ins", ?_⟩
  wtm_at "L.ev"
  refine ⟨rfl, n, p, ch, o, rfl, hk, fun ys eo => ?_, fun e => ⟨ρ, Sh.refl, h3 e⟩⟩
  refine sts_open hk fun d1 d2 d3 d4 kvs hs => ?_
  obtain ⟨a, e1, e2⟩ := slots_some hs e
  refine sts_one (st_sub (fun _ => rfl) rfl rfl rfl (ev_tup ?_))
  wtm_at "L.ev"
  refine ⟨(by show (2 : Nat) ≤ sizeLine; decide), ?_⟩
  wtm_at "L.ev"
  refine ix_dct (by wtm_at "L.units") (by wtm_at "L.dct") (d := .obj a) (by show Option.map _ _ = _; rw [e1]; rfl) ?_
  wtm_at "L.ev"
  refine si_inner (n := 0) (b := b) rfl e2 (ixN_in (by rw [List.length_map]; exact hs0)) ?_
  refine ⟨_, close_chest (c := ch.setSlot b xs sl (some (o, hh))) (C := G.C) (at_set hk) (slots_setSlot (v := some (o, hh)) hs) rfl rfl rfl rfl, ?_⟩
  rw [List.set_set]
  exact h4 ys eo
def wEmpty (G : Gn) : WP := fun as ρ Φ Ψ => ∃ (n : Nat) (p : Addr) (c : CS) (b s : Int), as = [.obj p, .int b, .int s] ∧ ρ[n]? = some (p, Own.chest G.C c) ∧ (aGet c.slots b = none → Ψ G.noBox ρ) ∧
  ∀ xs, aGet c.slots b = some xs → (¬ (0 ≤ s ∧ s < xs.length) → Ψ G.noSlot ρ) ∧ (0 ≤ s ∧ s < xs.length → Φ .non (ρ.set n (p, .chest G.C (c.setSlot b xs s none))))
theorem ok_empty (M : Txt K mg G) (F : Fun K "empty" "Chest.empty" sm_empty f fd) (D1 : MetOk P w K mg base G.C "need_slot" 2 3 (wNeedSlot G)) : FnOk P w K mg base (L2.CX P w) 3 f fd ["self", "box", "slot"] (spW K 3 (wEmpty G)) := by
  refine okW F scm_empty fun cdv A outer s H E B Φ Ψ as ρ c hl hw => ?_
  obtain ⟨n, p, ch, b, sl, rfl, hk, h1, h2⟩ := hw
  refine sts_cons (st_expr rfl ?_)
  wtm_at "L.meth"
  wtm_at "L.nm"
  refine ⟨by wtm_at "L.ins", ?_⟩
  wtm_at "L.ev"
  refine ⟨rfl, n, p, ch, b, sl, rfl, hk, fun e => ⟨ρ, Sh.refl, h1 e⟩, fun xs e => ⟨fun hs0 => ?_, fun hs0 => ⟨ρ, Sh.refl, (h2 xs e).1 hs0⟩⟩⟩
  refine sts_open hk fun d1 d2 d3 d4 kvs hs => ?_
  obtain ⟨a, e1, e2⟩ := slots_some hs e
  refine sts_one (st_sub (fun _ => rfl) rfl rfl rfl ?_)
  wtm_at "L.ev"
  refine ix_dct (by wtm_at "L.units") (by wtm_at "L.dct") (d := .obj a) (by show Option.map _ _ = _; rw [e1]; rfl) ?_
  wtm_at "L.ev"
  refine si_inner (n := 0) (b := b) rfl e2 (ixN_in (by rw [List.length_map]; exact hs0)) ?_
  refine ⟨_, close_chest (c := ch.setSlot b xs sl none) (C := G.C) (at_set hk) (slots_setSlot (v := none) hs) rfl rfl rfl rfl, ?_⟩
  rw [List.set_set]
  exact (h2 xs e).2 hs0
/-! ### the world -/
def wWorld : WP := fun as ρ Φ _ => as = [] ∧ ∀ q, Φ (.obj q) ((q, .world CS.nil) :: ρ)
theorem shutW {B : Base} {n : Nat} {p d1 d2 d3 d4 e : Addr} {c : CS} {kvs : List (Int × (Addr × List D))} {ρ : Rs} (hk : ρ[n]? = some (p, Own.world c)) (hs : SlotsAre kvs c.slots) : Sh K B ((e, .ol [.int c.coming, .int c.next]) :: (d1, .dol kvs) :: (d2, .od (heldT c.held)) :: (d3, .od (pairT c.paired)) :: (d4, .od (willT c.wills)) :: ρ.set n (p, .ol [.obj d1, .obj d2, .obj d3, .obj d4, .obj e])) ρ := by
  have h := close_world (B := B) (K := K) (ρ := ρ.set n (p, .ol [.obj d1, .obj d2, .obj d3, .obj d4, .obj e])) (at_set hk) hs rfl rfl rfl rfl rfl
  rw [List.set_set, set_id hk] at h
  exact h
/-- what is said of slot s of box b -/
def slotWord (c : CS) (b s : Int) : Str := match aGet c.slots b with
  | none => "box"
  | some xs => if 0 ≤ s ∧ s < xs.length then "" else "slot"
def wNoSlot : WP := fun as ρ Φ _ => ∃ (n : Nat) (p : Addr) (c : CS) (b s : Int), as = [.obj p, .int b, .int s] ∧ ρ[n]? = some (p, Own.world c) ∧ Φ (.str (slotWord c b s)) ρ
theorem ok_no_slot (M : Txt K mg G) (F : Fun K "_law_no_slot" "_law_no_slot" sf_law_no_slot f fd) : FnOk P w K mg base (L2.CX P w) 1 f fd ["_law_world_here", "_law_box", "_law_slot"] (spW K 3 wNoSlot) := by
  refine okW F scf_law_no_slot fun cdv A outer s H E B Φ Ψ as ρ c hl hw => ?_
  obtain ⟨n, p, ch, b, sl, rfl, hk, h⟩ := hw
  refine sts_openW hk fun d1 d2 d3 d4 e kvs hs => ?_
  refine sts_cons (st_if (ts_cmp rfl ?_))
  wtm_at "L.ev"
  refine ix_lst (by wtm_at "L.lst") rfl ?_
  wtm_at "L.ev"
  refine ⟨_, rfl, fun q => ?_, fun q => sts_nil ?_⟩
  · refine sts_one (st_ret (ev_str ⟨_, shutW hk hs, ?_⟩))
    have e0 : aGet ch.slots b = none := by
      cases g : aGet ch.slots b with
      | none => rfl
      | some xs =>
        obtain ⟨a, e1, _⟩ := slots_some hs g
        rw [e1] at q; simp at q
    unfold slotWord at h
    rw [e0] at h
    exact h
  · obtain ⟨xs, g⟩ : ∃ xs, aGet ch.slots b = some xs := by
      cases g : aGet ch.slots b with
      | none => rw [slots_none hs g] at q; simp at q
      | some xs => exact ⟨xs, rfl⟩
    obtain ⟨a, e1, e2⟩ := slots_some hs g
    unfold slotWord at h
    rw [g] at h
    refine sts_cons (st_if ?_)
    wtm_at "L.ev"
    refine ⟨_, rfl, fun q1 => ⟨fun _ => sts_one (st_ret (ev_str ⟨_, shutW hk hs, ?_⟩)), fun q => absurd q (by decide)⟩, fun q1 => ?_⟩
    · have e3 : ¬ (0 ≤ sl ∧ sl < xs.length) := by simp at q1; omega
      have h' : Φ (.str (if 0 ≤ sl ∧ sl < xs.length then ("" : Str) else "slot")) ρ := h
      rw [if_neg e3] at h'
      exact h'
    · wtm_at "L.ev"
      refine ix_lst (by wtm_at "L.lst") rfl ?_
      wtm_at "L.ev"
      refine ix_dct (by wtm_at "L.units") (by wtm_at "L.dct") (d := .obj a) (by show Option.map _ _ = _; rw [e1]; rfl) ?_
      wtm_at "L.ev"
      rw [List.length_map]
      have h' : Φ (.str (if 0 ≤ sl ∧ sl < xs.length then ("" : Str) else "slot")) ρ := h
      refine ⟨_, rfl, fun q2 => sts_one (st_ret (ev_str ⟨_, shutW hk hs, ?_⟩)), fun q2 => sts_nil (sts_one (st_ret (ev_str ⟨_, shutW hk hs, ?_⟩)))⟩
      · rw [if_neg (by simp at q2; omega)] at h'
        exact h'
      · rw [if_pos (by simp at q1 q2; omega)] at h'
        exact h'
def wMadeW : WP := fun as ρ Φ _ => ∃ (n : Nat) (p : Addr) (c : CS) (z : Int), as = [.obj p, .int z] ∧ ρ[n]? = some (p, Own.world c) ∧ c.slots.length ≤ 1000 ∧ c.held.length ≤ 1000 ∧
  (¬ (0 ≤ z ∧ z ≤ 9) → Φ (.tup [.str "slot", .non]) ρ) ∧ (0 ≤ z ∧ z ≤ 9 → c.slots.length = 60 → Φ (.tup [.str "many", .non]) ρ) ∧ (0 ≤ z ∧ z ≤ 9 → c.slots.length ≠ 60 → Φ (.tup [.str "", .int c.coming]) (ρ.set n (p, .world (c.make z))))
theorem ok_madeW (M : Txt K mg G) (F : Fun K "_law_made" "_law_made" sf_law_made f fd) : FnOk P w K mg base (L2.CX P w) 1 f fd ["_law_world_here", "_law_size"] (spW K 2 wMadeW) := by
  refine okW F scf_law_made fun cdv A outer s H E B Φ Ψ as ρ c hl hw => ?_
  obtain ⟨n, p, ch, z, rfl, hk, hz1, hz2, h1, h2, h3⟩ := hw
  refine sts_cons (st_if ?_)
  wtm_at "L.ev"
  refine ⟨_, rfl, fun q1 => ⟨fun _ => sts_one (st_ret (ev_tup ?_)), fun q => absurd q (by decide)⟩, fun q1 => ?_⟩
  · wtm_at "L.ev"
    exact ⟨by decide, _, Sh.refl, h1 (by simp at q1; omega)⟩
  wtm_at "L.ev"
  refine ⟨_, rfl, fun q2 => sts_one (st_ret (ev_tup ?_)), fun q2 => sts_nil ?_⟩
  · wtm_at "L.ev"
    exact ⟨by decide, _, Sh.refl, h1 (by simp at q2; omega)⟩
  have z0 : 0 ≤ z ∧ z ≤ 9 := by simp at q1 q2; omega
  refine sts_openW hk fun d1 d2 d3 d4 e kvs hs => ?_
  have hkl : kvs.length = ch.slots.length := by have := congrArg List.length (slots_keys hs); simpa using this
  refine sts_cons (st_if (ts_cmp rfl ?_))
  wtm_at "L.callB"
  refine ag_cons rfl ?_
  wtm_at "L.ev"
  refine ix_lst (by wtm_at "L.lst") rfl ?_
  wtm_at "L.ev"
  rw [List.length_map]
  refine ⟨_, rfl, fun q => sts_one (st_ret (ev_tup ?_)), fun q => sts_nil ?_⟩
  · wtm_at "L.ev"
    exact ⟨by decide, _, shutW hk hs, h2 z0 (by simp at q; omega)⟩
  have q' : ch.slots.length ≠ 60 := by simp at q; omega
  refine sts_cons ?_
  wtm_at "L.set"
  wtm_at "L.ev"
  refine ix_lst (by wtm_at "L.lst") rfl ?_
  wtm_at "L.ev"
  refine ix_lst (by wtm_at "L.lst") rfl ?_
  refine sts_cons (st_sub (fun _ => rfl) rfl rfl rfl ?_)
  wtm_at "L.ev"
  refine ix_lst (by wtm_at "L.lst") rfl ?_
  wtm_at "L.ev"
  refine si_list (n := 0) (m := 0) rfl rfl ?_
  refine sts_cons (st_sub (fun _ => rfl) rfl rfl rfl (ev_bin (ev_lst ?_)))
  wtm_at "L.ev"
  refine ⟨by decide, ?_⟩
  wtm_at "L.nm"
  refine bi_rep LstAt.l ⟨z0.1, by omega⟩ fun l hl => ?_
  wtm_at "L.ev"
  refine ix_lst (LstAt.o (n + 6) (by exact at_tl (at_tl (at_tl (at_tl (at_tl (at_tl (at_set hk)))))))) rfl ?_
  wtm_at "L.ev"
  refine si_dol (n := 1) (kvs := kvs) (by wtm_at "L.units") rfl (by omega) fun nl => ?_
  refine sts_cons (st_sub (fun _ => rfl) rfl rfl rfl ?_)
  wtm_at "L.ev"
  refine ix_lst (LstAt.o (n + 5) (by exact at_tl (at_tl (at_tl (at_tl (at_tl (at_set hk))))))) rfl ?_
  wtm_at "L.ev"
  refine si_dict (n := 2) (kvs := heldT ch.held) (by wtm_at "L.units") rfl (by unfold heldT; rw [List.length_map]; omega) ?_
  refine sts_one (st_ret (ev_tup ?_))
  wtm_at "L.ev"
  refine ⟨(by show (2 : Nat) ≤ sizeLine; decide), _, close_world (c := ch.make z) (at_set hk) (by
    have := slots_put (b := ch.coming) (a := l) (xs := List.replicate z.toNat none) hs
    rw [List.map_replicate] at this
    exact this) (heldT_add _ _).symm rfl rfl rfl rfl, ?_⟩
  rw [List.set_set]
  exact h3 z0 q'
end
end Lw

set_option maxHeartbeats 4000000
namespace Lw
open PySem PySem.Spec PyProof.Rows L2
-- the walk over data: one step after another
local macro_rules | `(tactic| wtm_at "L.vis") => `(tactic| first | exact Or.inl rfl | exact Or.inr (Or.inl rfl) | exact Or.inr (Or.inr rfl))
local macro_rules | `(tactic| wtm_at "L.loc") => `(tactic| first | exact Or.inl rfl | exact Or.inr rfl)
local macro_rules | `(tactic| wtm_at "L.at") => `(tactic| first | with_reducible assumption | with_reducible exact at_hd | with_reducible exact at_set (by with_reducible assumption) | with_reducible exact at_ne (by with_reducible assumption) (by with_reducible assumption) | (with_reducible apply at_tl; wtm_at "L.at"))
local macro_rules | `(tactic| wtm_at "L.cx") => `(tactic| first | with_reducible assumption | exact CxOk.blk (by with_reducible assumption) _ _ _ _ _)
local macro_rules | `(tactic| wtm_at "L.N") => `(tactic| with_reducible first | exact cx_N | exact blk_N cx_N | exact tr_N cx_N | exact suite_N cx_N | exact cxH_N | exact blk_N (tr_N cx_N))
local macro_rules | `(tactic| wtm_at "L.ix") => `(tactic| first | with_reducible exact nm_z | (with_reducible apply nm_s; wtm_at "L.ix"))
local macro_rules | `(tactic| wtm_at "L.E") => `(tactic| with_reducible first | exact cx_E | exact blk_E cx_E | exact tr_E cx_E | exact blk_E (tr_E cx_E))
local macro_rules | `(tactic| wtm_at "L.nm") => `(tactic| (((with_reducible show EvP _ _ (Expr.Name _ _) _ _ _)); refine ev_nameN (by wtm_at "L.N") (by wtm_at "L.ix") (by wtm_at "L.vis") ?_; refine ⟨_, rfl, ?_⟩))
local macro_rules | `(tactic| wtm_at "L.set") => `(tactic| (((with_reducible show StP _ _ (Stmt.Assign [Expr.Name _ _] _ _) _ _ _)); refine st_setM (by with_reducible assumption) (by wtm_at "L.N") (by wtm_at "L.ix") (by wtm_at "L.loc") rfl (Or.inl rfl) ?_))
local macro_rules | `(tactic| wtm_at "L.tgn") => `(tactic| (((with_reducible show TgP _ _ (Expr.Name _ _) _ _ _ _)); refine tg_nameN (by with_reducible assumption) (by wtm_at "L.N") (by wtm_at "L.ix") (by wtm_at "L.loc") (Or.inl rfl) ?_))

local macro_rules | `(tactic| wtm_at "L.lst") => `(tactic| first | with_reducible exact LstAt.l | exact LstAt.o _ (by wtm_at "L.at") | with_reducible assumption | exact LstAt.i (by wtm_at "L.at") (by with_reducible assumption))
local macro_rules | `(tactic| wtm_at "L.dct") => `(tactic| first | exact DctAt.o _ (by wtm_at "L.at") | exact DctAt.l _ (by wtm_at "L.at") | exact DctAt.oF _ (by wtm_at "L.at") | exact DctAt.lF _ (by wtm_at "L.at") | with_reducible assumption)
local macro_rules | `(tactic| wtm_at "L.txt") => `(tactic| with_reducible assumption)
local macro_rules | `(tactic| wtm_at "L.attr") => `(tactic| (((with_reducible show EvP _ _ (Expr.Attribute _ _ _) _ _ _)); refine ev_attr rfl ?_; wtm_at "L.nm"; refine ⟨_, _, _, _, _, rfl, (by wtm_at "L.at"), Txt.cl (by assumption), ?_, rfl, ?_⟩; first
  | ((with_reducible show NoAttr _ _ "slots"); exact Txt.n1 (by assumption)) | ((with_reducible show NoAttr _ _ "held"); exact Txt.n2 (by assumption)) | ((with_reducible show NoAttr _ _ "paired"); exact Txt.n3 (by assumption)) | ((with_reducible show NoAttr _ _ "wills"); exact Txt.n4 (by assumption)) | ((with_reducible show NoAttr _ _ "coming"); exact Txt.n5 (by assumption)) | ((with_reducible show NoAttr _ _ "next_pair"); exact Txt.n6 (by assumption))))
local macro_rules | `(tactic| wtm_at "L.units") => `(tactic| exact (CxOk.room (by wtm_at "L.cx")).units)
local macro_rules | `(tactic| wtm_at "L.cls") => `(tactic| ((with_reducible show EvP _ _ (Expr.Name _ _) _ _ _); first
  | ((with_reducible show EvP _ _ (Expr.Name "NoBox" _) _ _ _); refine ev_gref rfl (ExF.gP (Txt.x1 (by assumption))) ?_)
  | ((with_reducible show EvP _ _ (Expr.Name "NoSlot" _) _ _ _); refine ev_gref rfl (ExF.gP (Txt.x2 (by assumption))) ?_)
  | ((with_reducible show EvP _ _ (Expr.Name "NoHand" _) _ _ _); refine ev_gref rfl (ExF.gP (Txt.x3 (by assumption))) ?_)
  | ((with_reducible show EvP _ _ (Expr.Name "NoPair" _) _ _ _); refine ev_gref rfl (ExF.gP (Txt.x4 (by assumption))) ?_)
  | ((with_reducible show EvP _ _ (Expr.Name "NoWill" _) _ _ _); refine ev_gref rfl (ExF.gP (Txt.x5 (by assumption))) ?_)
  | ((with_reducible show EvP _ _ (Expr.Name "TooMany" _) _ _ _); refine ev_gref rfl (ExF.gP (Txt.x6 (by assumption))) ?_)
  | ((with_reducible show EvP _ _ (Expr.Name "NoText" _) _ _ _); refine ev_gref rfl (ExF.gP (Txt.x7 (by assumption))) ?_)
  | ((with_reducible show EvP _ _ (Expr.Name "int" _) _ _ _); refine ev_ty (n := "int") rfl (Txt.int (by assumption)) (by decide +kernel) ?_)
  | ((with_reducible show EvP _ _ (Expr.Name "bool" _) _ _ _); refine ev_ty (n := "bool") rfl (Txt.bool (by assumption)) (by decide +kernel) ?_)
  | ((with_reducible show EvP _ _ (Expr.Name "list" _) _ _ _); refine ev_ty (n := "list") rfl (Txt.list (by assumption)) (by decide +kernel) ?_)
  | ((with_reducible show EvP _ _ (Expr.Name "ValueError" _) _ _ _); refine ev_ty (n := "ValueError") rfl (Txt.ve (by assumption)) (by decide +kernel) ?_)
  | ((with_reducible show EvP _ _ (Expr.Name "MOST_SLOTS" _) _ _ _); refine ev_gint rfl (Txt.ms (by assumption)) ?_)
  | ((with_reducible show EvP _ _ (Expr.Name "MOST_BOXES" _) _ _ _); refine ev_gint rfl (Txt.mb (by assumption)) ?_)))
local macro_rules | `(tactic| wtm_at "L.e") => `(tactic| ((with_reducible show EvP _ _ _ _ _ _); first
  | wtm_at "L.cls" | wtm_at "L.nm" | with_reducible refine ev_int ?_ | with_reducible refine ev_str ?_ | with_reducible refine ev_bl ?_ | with_reducible refine ev_non ?_
  | with_reducible refine ev_bin ?_ | wtm_at "L.attr" | wtm_at "L.cmp" | with_reducible refine ev_un ?_ | wtm_at "L.sub" | wtm_at "L.callB"))
local macro_rules | `(tactic| wtm_at "L.tcmp") => `(tactic| ((with_reducible show TsP _ _ (Expr.Compare _ _ _ _) _ _ _); first | refine ts_cmp (nomark _) ?_ | refine ts_cmp rfl ?_ | refine ts_chain rfl ?_))
local macro_rules | `(tactic| wtm_at "L.t") => `(tactic| ((with_reducible show TsP _ _ _ _ _ _); first | wtm_at "L.tcmp" | with_reducible refine ts_not ?_ | (with_reducible show TsP _ _ (Expr.BoolOp _ _ _) _ _ _; with_reducible refine ts_w ?_) | refine ts_tru (fun _ => rfl) ?_))
local macro_rules | `(tactic| wtm_at "L.w") => `(tactic| ((with_reducible show TwP _ _ _ _ _ _); with_reducible first | refine tw_and1 ?_ | refine tw_or1 ?_ | refine tw_and ?_ | refine tw_or ?_))
local macro_rules | `(tactic| wtm_at "L.cmp") => `(tactic| ((with_reducible show EvP _ _ (Expr.Compare _ _ _ _) _ _ _); first | refine ev_cmp (nomark _) ?_ | refine ev_cmp rfl ?_))
local macro_rules | `(tactic| wtm_at "L.sub") => `(tactic| ((with_reducible show EvP _ _ (Expr.Subscript _ _ _) _ _ _); first | with_reducible refine ev_slice ?_ | refine ev_sub (fun _ _ => rfl) ?_))
local macro_rules | `(tactic| wtm_at "L.b") => `(tactic| ((with_reducible show BiP _ _ _ _ _ _ _); first
  | with_reducible refine bi_add ?_ | with_reducible refine bi_sub ?_ | with_reducible refine bi_lt ?_ | with_reducible refine bi_le ?_ | with_reducible refine bi_gt ?_ | with_reducible refine bi_ge ?_
  | with_reducible refine bi_eqI ?_ | with_reducible refine bi_neI ?_ | with_reducible refine bi_eqS ?_ | with_reducible refine bi_neS ?_ | with_reducible refine bi_isN ?_ | with_reducible refine bi_notN ?_
  | with_reducible refine bi_mod (by decide) ?_ | with_reducible refine bi_fdiv (by decide) ?_
  | refine bi_inD (by wtm_at "L.units") (by wtm_at "L.dct") ?_ | refine bi_ninD (by wtm_at "L.units") (by wtm_at "L.dct") ?_))
local macro_rules | `(tactic| wtm_at "L.a") => `(tactic| ((with_reducible show AgP _ _ _ _ _ _); first | with_reducible refine ag_nil ?_ | refine ag_cons rfl ?_))
local macro_rules | `(tactic| wtm_at "L.o") => `(tactic| ((with_reducible show PtP _ _ _ _ _ _); first | with_reducible refine pt_none ?_ | with_reducible refine pt_some ?_))
local macro_rules | `(tactic| wtm_at "L.c") => `(tactic| ((with_reducible show ClP _ _ _ _ _ _); first
  | refine cl_lenL (by wtm_at "L.lst") ?_ | with_reducible refine cl_lenT ?_ | refine cl_lenD (by wtm_at "L.dct") ?_ | refine cl_lenX (by wtm_at "L.at") ?_))
local macro_rules | `(tactic| wtm_at "L.callB") => `(tactic| ((with_reducible show EvP _ _ (Expr.Call (Expr.Name _ _) _ _ _) _ _ _); first
  | ((with_reducible show EvP _ _ (Expr.Call (Expr.Name "len" _) _ _ _) _ _ _); refine ev_callB (id := "len") rfl (Txt.len (by assumption)) (by decide +kernel) ?_)
  | ((with_reducible show EvP _ _ (Expr.Call (Expr.Name "sorted" _) _ _ _) _ _ _); refine ev_callB (id := "sorted") rfl (Txt.sorted (by assumption)) (by decide +kernel) ?_)
  | ((with_reducible show EvP _ _ (Expr.Call (Expr.Name "isinstance" _) _ _ _) _ _ _); refine ev_callB (id := "isinstance") rfl (Txt.isi (by assumption)) (by decide +kernel) ?_)
  | ((with_reducible show EvP _ _ (Expr.Call (Expr.Name "all" _) _ _ _) _ _ _); refine ev_callB (id := "all") rfl (Txt.all (by assumption)) (by decide +kernel) ?_)
  | ((with_reducible show EvP _ _ (Expr.Call (Expr.Name "min" _) _ _ _) _ _ _); refine ev_callB (id := "min") rfl (Txt.min (by assumption)) (by decide +kernel) ?_)
  | ((with_reducible show EvP _ _ (Expr.Call (Expr.Name "max" _) _ _ _) _ _ _); refine ev_callB (id := "max") rfl (Txt.max (by assumption)) (by decide +kernel) ?_)
  | ((with_reducible show EvP _ _ (Expr.Call (Expr.Name "list" _) _ _ _) _ _ _); refine ev_callTy (T := "list") rfl (Txt.list (by assumption)) (by decide +kernel) ?_)
  | ((with_reducible show EvP _ _ (Expr.Call (Expr.Name "int" _) _ _ _) _ _ _); refine ev_callTy (T := "int") rfl (Txt.int (by assumption)) (by decide +kernel) ?_)
  ))
local macro_rules | `(tactic| wtm_at "L.meth") => `(tactic| ((with_reducible show EvP _ _ (Expr.Call (Expr.Attribute _ _ _) _ _ _) _ _ _); first
  | refine ev_methN (by wtm_at "L.cx") (by wtm_at "L.E") (by with_reducible assumption) (by decide) rfl rfl rfl ?_ | refine ev_methN0 (by wtm_at "L.cx") (by wtm_at "L.E") (by with_reducible assumption) (by decide) rfl ?_))
local macro_rules | `(tactic| wtm_at "L.ins") => `(tactic| exact InsAt.c (by wtm_at "L.at") (by decide +kernel))
local macro_rules | `(tactic| wtm_at "L.call") => `(tactic| ((with_reducible show EvP _ _ (Expr.Call (Expr.Name _ _) _ _ _) _ _ _); first
  | refine ev_callN (by wtm_at "L.cx") (by wtm_at "L.E") (by with_reducible assumption) (by decide) rfl ?_ | refine ev_callN0 (by wtm_at "L.cx") (by wtm_at "L.E") (by with_reducible assumption) (by decide) rfl ?_))
local macro_rules | `(tactic| wtm_at "L.tr") => `(tactic| ((with_reducible show TrP _ _ _ _ _); first | with_reducible refine tr_bl ?_ | with_reducible refine tr_int ?_ | with_reducible refine tr_non ?_ | refine tr_lst (by wtm_at "L.lst") ?_))
local macro_rules | `(tactic| wtm_at "L.n") => `(tactic| simp only [List.set_cons_succ, List.set_cons_zero, List.set_set])
local macro_rules | `(tactic| wtm_at "L.u") => `(tactic| ((with_reducible show UnP _ _ _ _ _ _); with_reducible refine un_neg' ?_))
local macro_rules | `(tactic| wtm_at "L.app") => `(tactic| (((with_reducible show EvP _ _ (Expr.Call (Expr.Attribute _ _ _) _ _ _) _ _ _)); refine ev_append ?_))
local macro_rules | `(tactic| wtm_at "L.wd") => `(tactic| (refine tr_bl ?_; first
  | refine ⟨fun q => absurd q (by decide), fun _ => sts_nil ?_⟩
  | (refine ⟨fun _ => sts_one (st_expr rfl ?_), fun q => absurd q (by decide)⟩; wtm_at "L.app"; wtm_at "L.nm"; refine ⟨⟨_, by wtm_at "L.lst"⟩, ?_⟩; refine ev_str ?_; refine ⟨0, _, _, rfl, by exact at_hd, by decide, ?_⟩; wtm_at "L.n")))
local macro_rules | `(tactic| wtm_at "L.i") => `(tactic| ((with_reducible show IxP _ _ (D.tup _) (D.int _) _ _); refine ix_tpl rfl ?_))
local macro_rules | `(tactic| wtm_at "L.skip") => `(tactic| (refine sts_cons (st_if ?_); wtm_at "L.ev"; first | refine ⟨_, rfl, fun q => absurd q (by decide), fun _ => ⟨fun q => absurd q (by decide), fun _ => sts_nil ?_⟩⟩ | (refine ⟨_, rfl, fun _ => ?_, fun q => absurd q (by decide)⟩; wtm_at "L.ev"; refine ⟨_, rfl, fun q => absurd q (by decide), fun _ => sts_nil ?_⟩)))
local macro_rules | `(tactic| wtm_at "L.skip1") => `(tactic| (wtm_at "L.skip"; refine sts_one (st_ret (ev_tup ?_)); wtm_at "L.ev"))
local macro_rules | `(tactic| wtm_at "L.skip2") => `(tactic| (wtm_at "L.skip"; wtm_at "L.skip1"))
local macro_rules | `(tactic| wtm_at "L.skip3") => `(tactic| (wtm_at "L.skip"; wtm_at "L.skip2"))
local macro_rules | `(tactic| wtm_at "L.ev1") => `(tactic| first | wtm_at "L.e" | wtm_at "L.b" | wtm_at "L.t" | wtm_at "L.w" | wtm_at "L.tr" | wtm_at "L.a" | wtm_at "L.c" | wtm_at "L.o" | wtm_at "L.u" | wtm_at "L.i")
local macro_rules | `(tactic| wtm_at "L.ev") => `(tactic| repeat (wtm_at "L.ev1"))

abbrev dMake (z : Int) : D := .tup [.str "make", .int z]
abbrev dPut (b s o : Int) (h : Bool) : D := .tup [.str "put", .int b, .int s, .int o, .bl h]
abbrev dEmpty (b s : Int) : D := .tup [.str "empty", .int b, .int s]
def EffM (c : CS) (z : Int) (wd : Str) (v : D) (c' : CS) : Prop := (¬ (0 ≤ z ∧ z ≤ 9) ∧ wd = "slot" ∧ v = .non ∧ c' = c) ∨ ((0 ≤ z ∧ z ≤ 9) ∧ c.slots.length = 60 ∧ wd = "many" ∧ v = .non ∧ c' = c) ∨ ((0 ≤ z ∧ z ≤ 9) ∧ c.slots.length ≠ 60 ∧ wd = "" ∧ v = .int c.coming ∧ c' = c.make z)
def EffP (c : CS) (b s o : Int) (h : Bool) (wd : Str) (c' : CS) : Prop := (aGet c.slots b = none ∧ wd = "box" ∧ c' = c) ∨ (∃ xs, aGet c.slots b = some xs ∧ ¬ (0 ≤ s ∧ s < xs.length) ∧ wd = "slot" ∧ c' = c) ∨ (∃ xs, aGet c.slots b = some xs ∧ (0 ≤ s ∧ s < xs.length) ∧ aGet c.slots o = none ∧ wd = "box" ∧ c' = c) ∨
  (∃ xs ys, aGet c.slots b = some xs ∧ (0 ≤ s ∧ s < xs.length) ∧ aGet c.slots o = some ys ∧ wd = "" ∧ c' = c.setSlot b xs s (some (o, h)))
def EffE (c : CS) (b s : Int) (wd : Str) (c' : CS) : Prop := (aGet c.slots b = none ∧ wd = "box" ∧ c' = c) ∨ (∃ xs, aGet c.slots b = some xs ∧ ¬ (0 ≤ s ∧ s < xs.length) ∧ wd = "slot" ∧ c' = c) ∨ (∃ xs, aGet c.slots b = some xs ∧ (0 ≤ s ∧ s < xs.length) ∧ wd = "" ∧ c' = c.setSlot b xs s none)
def Eff2 (c : CS) (d : D) (wd : Str) (c' : CS) : Prop := (∃ b s o h, d = dPut b s o h ∧ EffP c b s o h wd c') ∨ ∃ b s, d = dEmpty b s ∧ EffE c b s wd c'
def Eff (c : CS) (d : D) (wd : Str) (v : D) (c' : CS) : Prop := (∃ z, d = dMake z ∧ EffM c z wd v c' ∧ c.slots.length ≤ 1000 ∧ c.held.length ≤ 1000) ∨ (v = .non ∧ Eff2 c d wd c')
theorem effM_ex (c : CS) (z : Int) : ∃ wd v c', EffM c z wd v c' := by
  by_cases h : 0 ≤ z ∧ z ≤ 9
  · by_cases h2 : c.slots.length = 60
    · exact ⟨_, _, _, .inr (.inl ⟨h, h2, rfl, rfl, rfl⟩)⟩
    · exact ⟨_, _, _, .inr (.inr ⟨h, h2, rfl, rfl, rfl⟩)⟩
  · exact ⟨_, _, _, .inl ⟨h, rfl, rfl, rfl⟩⟩
theorem effP_ex (c : CS) (b s o : Int) (h : Bool) : ∃ wd c', EffP c b s o h wd c' := by
  cases e : aGet c.slots b with
  | none => exact ⟨_, _, .inl ⟨e, rfl, rfl⟩⟩
  | some xs =>
    by_cases hs : 0 ≤ s ∧ s < xs.length
    · cases e2 : aGet c.slots o with
      | none => exact ⟨_, _, .inr (.inr (.inl ⟨xs, e, hs, e2, rfl, rfl⟩))⟩
      | some ys => exact ⟨_, _, .inr (.inr (.inr ⟨xs, ys, e, hs, e2, rfl, rfl⟩))⟩
    · exact ⟨_, _, .inr (.inl ⟨xs, e, hs, rfl, rfl⟩)⟩
theorem effE_ex (c : CS) (b s : Int) : ∃ wd c', EffE c b s wd c' := by
  cases e : aGet c.slots b with
  | none => exact ⟨_, _, .inl ⟨e, rfl, rfl⟩⟩
  | some xs =>
    by_cases hs : 0 ≤ s ∧ s < xs.length
    · exact ⟨_, _, .inr (.inr ⟨xs, e, hs, rfl, rfl⟩)⟩
    · exact ⟨_, _, .inr (.inl ⟨xs, e, hs, rfl, rfl⟩)⟩
theorem word_none {c : CS} {b s : Int} (h : aGet c.slots b = none) : slotWord c b s = "box" := by unfold slotWord; rw [h]
theorem word_bad {c : CS} {b s : Int} {xs : List (Option (Int × Bool))} (h : aGet c.slots b = some xs) (q : ¬ (0 ≤ s ∧ s < xs.length)) : slotWord c b s = "slot" := by
  unfold slotWord
  rw [h]
  exact if_neg q
theorem word_in {c : CS} {b s : Int} {xs : List (Option (Int × Bool))} (h : aGet c.slots b = some xs) (q : 0 ≤ s ∧ s < xs.length) : slotWord c b s = "" := by
  unfold slotWord
  rw [h]
  exact if_pos q
section
variable {P : Program} {w : World} {K : PySem.W.Frag} {mg : Str → Option Value} {base : Heap} {G : Gn}
variable {f : Addr} {fd : FuncData}
def wPutBy : WP := fun as ρ Φ _ => ∃ (n : Nat) (p : Addr) (c c' : CS) (d : D) (wd : Str), as = [.obj p, d] ∧ ρ[n]? = some (p, Own.world c) ∧ Eff2 c d wd c' ∧ Φ (.tup [.str wd, .non]) (ρ.set n (p, .world c'))
theorem ok_put_by (M : Txt K mg G) (F : Fun K "_law_put_by" "_law_put_by" sf_law_put_by f fd) (D1 : DefOk P w K mg base "_law_no_slot" 1 3 wNoSlot) : FnOk P w K mg base (L2.CX P w) 2 f fd ["_law_world_here", "_law_deed"] (spW K 2 wPutBy) := by
  refine okW F scf_law_put_by fun cdv A outer s H E B Φ Ψ as ρ c hl hw => ?_
  obtain ⟨n, p, ch, ch', d, wd, rfl, hk, ⟨b, sl, o, hh, rfl, he⟩ | ⟨b, sl, rfl, he⟩, h⟩ := hw
  · refine sts_cons ?_
    wtm_at "L.set"
    wtm_at "L.call"
    wtm_at "L.ev"
    refine ⟨rfl, n, p, ch, b, sl, rfl, hk, ?_⟩
    obtain ⟨e, rfl, rfl⟩ | ⟨xs, e, q, rfl, rfl⟩ | ⟨xs, e, q, e2, rfl, rfl⟩ | ⟨xs, ys, e, q, e2, rfl, rfl⟩ := he
    · rw [set_id hk] at h
      rw [word_none e]
      wtm_at "L.skip3"
      exact ⟨(by show (2 : Nat) ≤ sizeLine; decide), _, Sh.refl, h⟩
    · rw [set_id hk] at h
      rw [word_bad e q]
      wtm_at "L.skip3"
      exact ⟨(by show (2 : Nat) ≤ sizeLine; decide), _, Sh.refl, h⟩
    · rw [set_id hk] at h
      rw [word_in e q]
      refine sts_openW hk fun d1 d2 d3 d4 e0 kvs hs => ?_
      refine sts_cons (st_if ?_)
      wtm_at "L.ev"
      refine ⟨_, rfl, fun _ => ?_, fun q => absurd q (by decide)⟩
      wtm_at "L.ev"
      refine ⟨_, rfl, fun _ => ?_, fun q => absurd q (by decide)⟩
      wtm_at "L.ev"
      refine ix_lst (by wtm_at "L.lst") rfl ?_
      wtm_at "L.ev"
      refine ⟨_, rfl, fun _ => ?_, fun q => ?_⟩
      · refine sts_one ?_
        wtm_at "L.set"
        refine ev_str ?_
        wtm_at "L.skip2"
        exact ⟨(by show (2 : Nat) ≤ sizeLine; decide), _, shutW hk hs, h⟩
      · rw [slots_none hs e2] at q
        simp at q
    · rw [word_in e q]
      refine sts_openW hk fun d1 d2 d3 d4 e0 kvs hs => ?_
      refine sts_cons (st_if ?_)
      wtm_at "L.ev"
      refine ⟨_, rfl, fun _ => ?_, fun q => absurd q (by decide)⟩
      wtm_at "L.ev"
      refine ⟨_, rfl, fun _ => ?_, fun q => absurd q (by decide)⟩
      wtm_at "L.ev"
      refine ix_lst (by wtm_at "L.lst") rfl ?_
      wtm_at "L.ev"
      obtain ⟨a2, g1, _⟩ := slots_some hs e2
      refine ⟨_, rfl, fun q => ?_, fun _ => sts_nil ?_⟩
      · rw [g1] at q
        simp at q
      obtain ⟨a, e1, e3⟩ := slots_some hs e
      refine sts_cons (st_if ?_)
      wtm_at "L.ev"
      refine ⟨_, rfl, fun _ => ?_, fun q => absurd q (by decide)⟩
      wtm_at "L.ev"
      refine ⟨_, rfl, fun _ => ?_, fun q => absurd q (by decide)⟩
      refine sts_one (st_sub (fun _ => rfl) rfl rfl rfl (ev_tup ?_))
      wtm_at "L.ev"
      refine ⟨(by show (2 : Nat) ≤ sizeLine; decide), ?_⟩
      wtm_at "L.ev"
      refine ix_lst (by wtm_at "L.lst") rfl ?_
      wtm_at "L.ev"
      refine ix_dct (by wtm_at "L.units") (by wtm_at "L.dct") (d := .obj a) (by show Option.map _ _ = _; rw [e1]; rfl) ?_
      wtm_at "L.ev"
      refine si_inner (n := 1) (b := b) rfl e3 (ixN_in (by rw [List.length_map]; exact q)) ?_
      wtm_at "L.skip1"
      refine ⟨(by show (2 : Nat) ≤ sizeLine; decide), _, close_world (c := ch.setSlot b xs sl (some (o, hh))) (at_set hk) (slots_setSlot (v := some (o, hh)) hs) rfl rfl rfl rfl rfl, ?_⟩
      rw [List.set_set]
      exact h
  · refine sts_cons ?_
    wtm_at "L.set"
    wtm_at "L.call"
    wtm_at "L.ev"
    refine ⟨rfl, n, p, ch, b, sl, rfl, hk, ?_⟩
    obtain ⟨e, rfl, rfl⟩ | ⟨xs, e, q, rfl, rfl⟩ | ⟨xs, e, q, rfl, rfl⟩ := he
    · rw [set_id hk] at h
      rw [word_none e]
      wtm_at "L.skip3"
      exact ⟨(by show (2 : Nat) ≤ sizeLine; decide), _, Sh.refl, h⟩
    · rw [set_id hk] at h
      rw [word_bad e q]
      wtm_at "L.skip3"
      exact ⟨(by show (2 : Nat) ≤ sizeLine; decide), _, Sh.refl, h⟩
    · rw [word_in e q]
      refine sts_openW hk fun d1 d2 d3 d4 e0 kvs hs => ?_
      obtain ⟨a, e1, e3⟩ := slots_some hs e
      refine sts_cons (st_if ?_)
      wtm_at "L.ev"
      refine ⟨_, rfl, fun _ => ?_, fun q => absurd q (by decide)⟩
      wtm_at "L.ev"
      refine ⟨_, rfl, fun q => absurd q (by decide), fun _ => ⟨fun q => absurd q (by decide), fun _ => sts_nil ?_⟩⟩
      refine sts_cons (st_if ?_)
      wtm_at "L.ev"
      refine ⟨_, rfl, fun _ => ?_, fun q => absurd q (by decide)⟩
      wtm_at "L.ev"
      refine ⟨_, rfl, fun q => absurd q (by decide), fun _ => sts_nil ?_⟩
      refine sts_cons (st_if ?_)
      wtm_at "L.ev"
      refine ⟨_, rfl, fun _ => ?_, fun q => absurd q (by decide)⟩
      wtm_at "L.ev"
      refine ⟨_, rfl, fun _ => ?_, fun q => absurd q (by decide)⟩
      refine sts_one (st_sub (fun _ => rfl) rfl rfl rfl ?_)
      wtm_at "L.ev"
      refine ix_lst (by wtm_at "L.lst") rfl ?_
      wtm_at "L.ev"
      refine ix_dct (by wtm_at "L.units") (by wtm_at "L.dct") (d := .obj a) (by show Option.map _ _ = _; rw [e1]; rfl) ?_
      wtm_at "L.ev"
      refine si_inner (n := 1) (b := b) rfl e3 (ixN_in (by rw [List.length_map]; exact q)) ?_
      refine sts_one (st_ret (ev_tup ?_))
      wtm_at "L.ev"
      refine ⟨(by show (2 : Nat) ≤ sizeLine; decide), _, close_world (c := ch.setSlot b xs sl none) (at_set hk) (slots_setSlot (v := none) hs) rfl rfl rfl rfl rfl, ?_⟩
      rw [List.set_set]
      exact h
def wDone : WP := fun as ρ Φ _ => ∃ (n : Nat) (p : Addr) (c c' : CS) (d v : D) (wd : Str), as = [.obj p, d] ∧ ρ[n]? = some (p, Own.world c) ∧ Eff c d wd v c' ∧ Φ (.tup [.str wd, v]) (ρ.set n (p, .world c'))
theorem ok_done_by (M : Txt K mg G) (F : Fun K "_law_done_by" "_law_done_by" sf_law_done_by f fd) (D1 : DefOk P w K mg base "_law_made" 1 2 wMadeW) (D2 : DefOk P w K mg base "_law_put_by" 2 2 wPutBy) : FnOk P w K mg base (L2.CX P w) 3 f fd ["_law_world_here", "_law_deed"] (spW K 2 wDone) := by
  refine okW F scf_law_done_by fun cdv A outer s H E B Φ Ψ as ρ c hl hw => ?_
  obtain ⟨n, p, ch, ch', d, v, wd, rfl, hk, ⟨z, rfl, he, hz1, hz2⟩ | ⟨rfl, he⟩, h⟩ := hw
  · refine sts_cons (st_if (ts_cmp rfl ?_))
    wtm_at "L.ev"
    refine ⟨_, rfl, fun _ => sts_one (st_ret ?_), fun q => absurd q (by decide)⟩
    wtm_at "L.call"
    wtm_at "L.ev"
    refine ⟨rfl, n, p, ch, z, rfl, hk, hz1, hz2, ?_⟩
    obtain ⟨q, rfl, rfl, rfl⟩ | ⟨q, q2, rfl, rfl, rfl⟩ | ⟨q, q2, rfl, rfl, rfl⟩ := he
    · rw [set_id hk] at h
      exact ⟨fun _ => ⟨_, Sh.refl, h⟩, fun z => absurd z q, fun z => absurd z q⟩
    · rw [set_id hk] at h
      exact ⟨fun z => absurd q z, fun _ _ => ⟨_, Sh.refl, h⟩, fun _ z => absurd q2 z⟩
    · exact ⟨fun z => absurd q z, fun _ z => absurd z q2, fun _ _ => ⟨_, Sh.refl, h⟩⟩
  · have he' := he
    obtain ⟨b, sl, o, hh, rfl, _⟩ | ⟨b, sl, rfl, _⟩ := he' <;>
    · refine sts_cons (st_if (ts_cmp rfl ?_))
      wtm_at "L.ev"
      refine ⟨_, rfl, fun q => absurd q (by decide), fun _ => sts_nil ?_⟩
      refine sts_cons (st_if (ts_cmp rfl ?_))
      wtm_at "L.ev"
      refine ev_lst ?_
      wtm_at "L.ev"
      refine ⟨by decide, bi_inL LstAt.l rfl rfl ?_⟩
      refine ⟨_, rfl, fun _ => sts_one (st_ret ?_), fun q => absurd q (by decide)⟩
      wtm_at "L.call"
      wtm_at "L.ev"
      exact ⟨rfl, n, p, ch, ch', _, wd, rfl, hk, he, _, Sh.refl, h⟩
end
def rev6 : Nat → Nat
  | 0 => 1 | 1 => 5 | 2 => 4 | 3 => 3 | 4 => 2 | 5 => 0 | k => k
theorem rev6_inj (i j : Nat) (h : rev6 i = rev6 j) : i = j := by
  rcases i with _ | _ | _ | _ | _ | _ | i <;> rcases j with _ | _ | _ | _ | _ | _ | j <;> simp [rev6] at h <;> omega
section
variable {P : Program} {w : World} {K : PySem.W.Frag} {mg : Str → Option Value} {base : Heap} {G : Gn}
variable {f : Addr} {fd : FuncData}
def wToldD (G : Gn) : WP := fun as ρ Φ Ψ => ∃ (n : Nat) (p : Addr) (c c' : CS) (d v : D) (wd : Str), as = [.obj p, d] ∧ ρ[n]? = some (p, Own.chest G.C c) ∧ Eff c d wd v c' ∧ (wd = "" → Φ v (ρ.set n (p, .chest G.C c'))) ∧ (wd = "box" → Ψ G.noBox ρ) ∧ (wd = "slot" → Ψ G.noSlot ρ) ∧ (wd = "many" → Ψ G.tooMany ρ)
theorem ok_toldD (M : Txt K mg G) (F : Fun K "_law_told" "_law_told" sf_law_told f fd) (D1 : MetOk P w K mg base G.C "make" 1 2 (wMake G)) (D2 : MetOk P w K mg base G.C "put" 3 5 (wPut G)) (D3 : MetOk P w K mg base G.C "empty" 3 3 (wEmpty G)) : FnOk P w K mg base (L2.CX P w) 4 f fd ["_law_chest", "_law_deed"] (spW K 2 (wToldD G)) := by
  refine okW F scf_law_told fun cdv A outer s H E B Φ Ψ as ρ c hl hw => ?_
  obtain ⟨n, p, ch, ch', d, v, wd, rfl, hk, ⟨z, rfl, he, hz1, hz2⟩ | ⟨rfl, ⟨b, sl, o, hh, rfl, he⟩ | ⟨b, sl, rfl, he⟩⟩, h0, h1, h2, h3⟩ := hw
  · refine sts_cons (st_if (ts_cmp rfl ?_))
    wtm_at "L.ev"
    refine ⟨_, rfl, fun _ => sts_one (st_ret ?_), fun q => absurd q (by decide)⟩
    wtm_at "L.meth"
    wtm_at "L.nm"
    refine ⟨by wtm_at "L.ins", ?_⟩
    wtm_at "L.ev"
    refine ⟨rfl, n, p, ch, z, rfl, hk, hz1, hz2, ?_⟩
    obtain ⟨q, rfl, rfl, rfl⟩ | ⟨q, q2, rfl, rfl, rfl⟩ | ⟨q, q2, rfl, rfl, rfl⟩ := he
    · exact ⟨fun _ => ⟨_, Sh.refl, h2 rfl⟩, fun z => absurd z q, fun z => absurd z q⟩
    · exact ⟨fun z => absurd q z, fun _ _ => ⟨_, Sh.refl, h3 rfl⟩, fun _ z => absurd q2 z⟩
    · exact ⟨fun z => absurd q z, fun _ z => absurd z q2, fun _ _ => ⟨_, Sh.refl, h0 rfl⟩⟩
  · refine sts_cons (st_if (ts_cmp rfl ?_))
    wtm_at "L.ev"
    refine ⟨_, rfl, fun q => absurd q (by decide), fun _ => sts_nil ?_⟩
    refine sts_cons (st_if (ts_cmp rfl ?_))
    wtm_at "L.ev"
    refine ⟨_, rfl, fun _ => sts_one (st_ret ?_), fun q => absurd q (by decide)⟩
    wtm_at "L.meth"
    wtm_at "L.nm"
    refine ⟨by wtm_at "L.ins", ?_⟩
    wtm_at "L.ev"
    refine ⟨rfl, n, p, ch, b, sl, o, hh, rfl, hk, ?_⟩
    obtain ⟨e, rfl, rfl⟩ | ⟨xs, e, q, rfl, rfl⟩ | ⟨xs, e, q, e2, rfl, rfl⟩ | ⟨xs, ys, e, q, e2, rfl, rfl⟩ := he
    · exact ⟨fun _ => ⟨_, Sh.refl, h1 rfl⟩, fun zs g => (by rw [e] at g; cases g)⟩
    · refine ⟨fun g => (by rw [e] at g; cases g), fun zs g => ?_⟩
      rw [e] at g
      cases g
      exact ⟨fun _ => ⟨_, Sh.refl, h2 rfl⟩, fun z => absurd z q⟩
    · refine ⟨fun g => (by rw [e] at g; cases g), fun zs g => ?_⟩
      rw [e] at g
      cases g
      exact ⟨fun z => absurd q z, fun _ => ⟨fun _ => ⟨_, Sh.refl, h1 rfl⟩, fun ys g => (by rw [e2] at g; cases g)⟩⟩
    · refine ⟨fun g => (by rw [e] at g; cases g), fun zs g => ?_⟩
      rw [e] at g
      cases g
      exact ⟨fun z => absurd q z, fun _ => ⟨fun g => (by rw [e2] at g; cases g), fun ys g => ⟨_, Sh.refl, h0 rfl⟩⟩⟩
  · refine sts_cons (st_if (ts_cmp rfl ?_))
    wtm_at "L.ev"
    refine ⟨_, rfl, fun q => absurd q (by decide), fun _ => sts_nil ?_⟩
    refine sts_cons (st_if (ts_cmp rfl ?_))
    wtm_at "L.ev"
    refine ⟨_, rfl, fun q => absurd q (by decide), fun _ => sts_nil ?_⟩
    refine sts_cons (st_if (ts_cmp rfl ?_))
    wtm_at "L.ev"
    refine ⟨_, rfl, fun _ => sts_one (st_ret ?_), fun q => absurd q (by decide)⟩
    wtm_at "L.meth"
    wtm_at "L.nm"
    refine ⟨by wtm_at "L.ins", ?_⟩
    wtm_at "L.ev"
    refine ⟨rfl, n, p, ch, b, sl, rfl, hk, ?_⟩
    obtain ⟨e, rfl, rfl⟩ | ⟨xs, e, q, rfl, rfl⟩ | ⟨xs, e, q, rfl, rfl⟩ := he
    · exact ⟨fun _ => ⟨_, Sh.refl, h1 rfl⟩, fun zs g => (by rw [e] at g; cases g)⟩
    · refine ⟨fun g => (by rw [e] at g; cases g), fun zs g => ?_⟩
      rw [e] at g
      cases g
      exact ⟨fun _ => ⟨_, Sh.refl, h2 rfl⟩, fun z => absurd z q⟩
    · refine ⟨fun g => (by rw [e] at g; cases g), fun zs g => ?_⟩
      rw [e] at g
      cases g
      exact ⟨fun z => absurd q z, fun _ => ⟨_, Sh.refl, h0 rfl⟩⟩
theorem eff_words {c c' : CS} {d v : D} {wd : Str} (h : Eff c d wd v c') : wd = "" ∨ ((wd = "box" ∨ wd = "slot" ∨ wd = "many") ∧ v = .non ∧ c' = c) := by
  obtain ⟨z, rfl, he, _, _⟩ | ⟨rfl, ⟨b, sl, o, hh, rfl, he⟩ | ⟨b, sl, rfl, he⟩⟩ := h
  · obtain ⟨q, rfl, rfl, rfl⟩ | ⟨q, q2, rfl, rfl, rfl⟩ | ⟨q, q2, rfl, rfl, rfl⟩ := he
    · exact .inr ⟨.inr (.inl rfl), rfl, rfl⟩
    · exact .inr ⟨.inr (.inr rfl), rfl, rfl⟩
    · exact .inl rfl
  · obtain ⟨e, rfl, rfl⟩ | ⟨xs, e, q, rfl, rfl⟩ | ⟨xs, e, q, e2, rfl, rfl⟩ | ⟨xs, ys, e, q, e2, rfl, rfl⟩ := he
    · exact .inr ⟨.inl rfl, rfl, rfl⟩
    · exact .inr ⟨.inr (.inl rfl), rfl, rfl⟩
    · exact .inr ⟨.inl rfl, rfl, rfl⟩
    · exact .inl rfl
  · obtain ⟨e, rfl, rfl⟩ | ⟨xs, e, q, rfl, rfl⟩ | ⟨xs, e, q, rfl, rfl⟩ := he
    · exact .inr ⟨.inl rfl, rfl, rfl⟩
    · exact .inr ⟨.inr (.inl rfl), rfl, rfl⟩
    · exact .inl rfl
theorem eff_val {c c' : CS} {d v : D} {wd : Str} (h : Eff c d wd v c') : v = .non ∨ ∃ i, v = .int i := by
  obtain ⟨z, rfl, he, _, _⟩ | ⟨rfl, _⟩ := h
  · obtain ⟨q, rfl, rfl, rfl⟩ | ⟨q, q2, rfl, rfl, rfl⟩ | ⟨q, q2, rfl, rfl, rfl⟩ := he
    · exact .inl rfl
    · exact .inl rfl
    · exact .inr ⟨_, rfl⟩
  · exact .inl rfl
def wWord (G : Gn) : WP := fun as ρ Φ _ => ∃ (n : Nat) (p : Addr) (c c' : CS) (d v : D) (wd : Str), as = [.obj p, d] ∧ ρ[n]? = some (p, Own.chest G.C c) ∧ Eff c d wd v c' ∧ Φ (.tup [.str wd, v]) (ρ.set n (p, .chest G.C c'))
theorem ok_word (M : Txt K mg G) (MC : TxtC K mg G) (F : Fun K "_law_word" "_law_word" sf_law_word f fd) (D1 : DefOk P w K mg base "_law_told" 4 2 (wToldD G)) (DW : DefW P w K mg base "_law_class" 1 (Cat K G)) : FnOk P w K mg base (L2.CX P w) 5 f fd ["_law_chest", "_law_deed"] (spW K 2 (wWord G)) := by
  refine okW0 F scf_law_word fun cdv A outer s H E B Φ Ψ as ρ c hl hw => ?_
  obtain ⟨n, p, ch, ch', d, v, wd, rfl, hk, he, h⟩ := hw
  refine sts0_one (st0_try (i := 2) c rfl rfl rfl rfl ⟨rfl, by decide, .inl MC.we⟩ (fun C δ' ρ' => δ' = [some (.obj p), some d, none] ∧ ρ' = ρ ∧ ∃ n, Cat K G C n ∧ Φ (.tup [.str n, .non]) ρ) ?_ ?_ ?_)
  · intro W' pn xe c'
    refine sts_one (st_ret (ev_tup ?_))
    refine ag_cons rfl (ev_str (ag_cons rfl ?_))
    wtm_at "L.call"
    wtm_at "L.ev"
    refine ⟨rfl, n, p, ch, ch', d, v, wd, rfl, hk, he, fun q => ?_, fun q => ?_, fun q => ?_, fun q => ?_⟩
    · subst q
      wtm_at "L.ev"
      exact ⟨(by show (2 : Nat) ≤ sizeLine; decide), _, Sh.refl, h⟩
    · subst q
      obtain q | ⟨_, rfl, rfl⟩ := eff_words he
      · exact absurd q (by decide)
      · rw [set_id hk] at h
        exact ⟨rfl, rfl, _, MC.k1, h⟩
    · subst q
      obtain q | ⟨_, rfl, rfl⟩ := eff_words he
      · exact absurd q (by decide)
      · rw [set_id hk] at h
        exact ⟨rfl, rfl, _, MC.k2, h⟩
    · subst q
      obtain q | ⟨_, rfl, rfl⟩ := eff_words he
      · exact absurd q (by decide)
      · rw [set_id hk] at h
        exact ⟨rfl, rfl, _, MC.k6, h⟩
  · rintro C δ' ρ' ⟨_, _, m, hc, _⟩
    exact hc.cx
  · rintro a C oe pn δ' ρ' ⟨rfl, rfl, m, hc, hΦ⟩ hot hr
    refine (sts_one (st_ret (ev_tup (ag_cons rfl (ev_callW hr hot hc (DW.mono (by decide)) rfl ?_))))).top
    wtm_at "L.nm"
    refine ⟨rfl, ?_⟩
    wtm_at "L.ev"
    exact ⟨(by show (2 : Nat) ≤ sizeLine; decide), _, Sh.refl, hΦ⟩
def wStep (G : Gn) : WP := fun as ρ Φ _ => ∃ (n m : Nat) (p r : Addr) (c c' : CS) (d v : D) (wd : Str), as = [.obj p, .obj r, d] ∧ n ≠ m ∧ ρ[n]? = some (p, Own.chest G.C c) ∧ ρ[m]? = some (r, Own.world c) ∧ Eff c d wd v c' ∧ Φ (.bl true) ((ρ.set n (p, .chest G.C c')).set m (r, .world c'))
theorem ok_step (M : Txt K mg G) (F : Fun K "_law_step" "_law_step" sf_law_step f fd) (D0 : DefOk P w K mg base "_law_whole" 1 1 wWhole) (D1 : DefOk P w K mg base "_law_word" 5 2 (wWord G)) (D2 : DefOk P w K mg base "_law_done_by" 3 2 wDone) : FnOk P w K mg base (L2.CX P w) 6 f fd ["_law_chest", "_law_world_here", "_law_deed"] (spW K 3 (wStep G)) := by
  refine okW F scf_law_step fun cdv A outer s H E B Φ Ψ as ρ c hl hw => ?_
  obtain ⟨n, m, p, r, ch, ch', d, v, wd, rfl, hnm, hk, hr, he, h⟩ := hw
  refine sts_cons ?_
  wtm_at "L.set"
  wtm_at "L.call"
  wtm_at "L.ev"
  refine ⟨rfl, n, p, ch, ch', d, v, wd, rfl, hk, he, ?_⟩
  refine sts_cons ?_
  wtm_at "L.set"
  wtm_at "L.call"
  wtm_at "L.ev"
  refine ⟨rfl, m, r, ch, ch', d, v, wd, rfl, at_ne hr (Ne.symm hnm), he, ?_⟩
  refine sts_cons (st_if (ts_cmp rfl ?_))
  wtm_at "L.ev"
  obtain rfl | ⟨i, rfl⟩ := eff_val he
  · refine ⟨_, rfl, fun _ => ?_, fun q => absurd q (by decide)⟩
    refine sts_one (st_ret (ev_and (ev_cmp rfl ?_)))
    wtm_at "L.ev"
    refine ⟨_, rfl, fun _ => ev_and1 (ev_cmp rfl ?_), fun q => by simp at q⟩
    wtm_at "L.ev"
    exact ⟨_, Sh.refl, h⟩
  · refine ⟨_, rfl, fun q => (nomatch (show false = true from q)), fun _ => sts_nil ?_⟩
    refine sts_one (st_ret (ev_and (ev_cmp rfl ?_)))
    wtm_at "L.ev"
    refine ⟨_, rfl, fun _ => ev_and ?_, fun q => by simp at q⟩
    wtm_at "L.call"
    wtm_at "L.ev"
    refine ⟨rfl, _, rfl, _, rfl, fun _ => ev_and1 (ev_cmp rfl ?_), fun q => nomatch q⟩
    wtm_at "L.ev"
    refine ⟨_, Sh.refl, ?_⟩
    rw [decide_eq_true rfl]
    exact h
def wSlotIs : WP := fun as ρ Φ _ => ∃ v : Option (Int × Bool), as = [slotD v, slotD v] ∧ Φ (.bl true) ρ
theorem ok_slot_is (M : Txt K mg G) (F : Fun K "_law_slot_is" "_law_slot_is" sf_law_slot_is f fd) (D0 : DefOk P w K mg base "_law_whole" 1 1 wWhole) : FnOk P w K mg base (L2.CX P w) 2 f fd ["_law_found", "_law_due"] (spW K 2 wSlotIs) := by
  refine okW F scf_law_slot_is fun cdv A outer s H E B Φ Ψ as ρ c hl hw => ?_
  obtain ⟨v, rfl, h⟩ := hw
  rcases v with _ | ⟨o, hh⟩
  · change StPs _ _ _ (startD nf_law_slot_is [D.non, D.non]) ρ (kOf K B Φ)
    refine sts_cons (st_if (ts_cmp rfl ?_))
    wtm_at "L.nm"
    wtm_at "L.ev"
    refine ⟨_, rfl, fun _ => sts_one (st_ret (ev_cmp rfl ?_)), fun q => absurd q (by decide)⟩
    wtm_at "L.nm"
    wtm_at "L.ev"
    exact ⟨_, Sh.refl, h⟩
  · change StPs _ _ _ (startD nf_law_slot_is [D.tup [.int o, .bl hh], D.tup [.int o, .bl hh]]) ρ (kOf K B Φ)
    refine sts_cons (st_if (ts_cmp rfl ?_))
    wtm_at "L.nm"
    wtm_at "L.ev"
    refine ⟨_, rfl, fun q => (nomatch (show false = true from q)), fun _ => sts_nil ?_⟩
    refine sts_cons (st_if (ts_w (tw_or (ts_not (ts_tru (fun _ => rfl) ?_)))))
    wtm_at "L.ev"
    refine ev_ty (n := "tuple") rfl M.tuple (by decide +kernel) ?_
    wtm_at "L.ev"
    refine cl_isi (t := "tuple") (u := "tuple") (b := true) rfl rfl ?_
    wtm_at "L.ev"
    refine ⟨fun q => (nomatch q), fun _ => tw_or (ts_cmp rfl ?_)⟩
    wtm_at "L.callB"
    refine ag_cons rfl ?_
    wtm_at "L.nm"
    refine ag_nil (cl_lenT ?_)
    wtm_at "L.ev"
    refine ⟨_, rfl, fun q => absurd q (by show ¬ (!decide (((2 : Nat) : Int) = 2)) = true; decide), fun _ => tw_or (ts_not (ts_tru (fun _ => rfl) ?_))⟩
    wtm_at "L.call"
    refine ag_cons rfl (ev_sub (fun _ _ => rfl) ?_)
    wtm_at "L.nm"
    refine ev_int (ix_tpl rfl ?_)
    wtm_at "L.ev"
    refine ⟨rfl, _, rfl, ?_⟩
    wtm_at "L.ev"
    refine ⟨fun q => (nomatch q), fun _ => tw_or1 (ts_not (ts_tru (fun _ => rfl) ?_))⟩
    wtm_at "L.callB"
    refine ag_cons rfl (ev_sub (fun _ _ => rfl) ?_)
    wtm_at "L.nm"
    refine ev_int (ix_tpl rfl ?_)
    wtm_at "L.ev"
    refine cl_isi (t := "bool") (u := "bool") (b := true) rfl rfl ?_
    wtm_at "L.ev"
    refine ⟨fun q => (nomatch q), fun _ => sts_nil ?_⟩
    refine sts_one (st_ret (ev_cmp rfl ?_))
    wtm_at "L.nm"
    wtm_at "L.nm"
    refine bi_eqD (by wtm_at "L.units") ?_ ?_ ⟨_, Sh.refl, ?_⟩
    · simp [slotD, D.fine, D.pure, pureL, D.py, pyL, SeqAt.shaped, PyData.canLay0, PyData.canLayAll0, PyData.depth, PyData.depthAll]
    · simp [slotD, D.fine, D.pure, pureL, D.py, pyL, SeqAt.shaped, PyData.canLay0, PyData.canLayAll0, PyData.depth, PyData.depthAll]
    · have e : D.eqv (.tup [.int o, .bl hh]) (.tup [.int o, .bl hh]) = true := by
        show ((o == o) && ((hh == hh) && true)) = true
        simp
      rw [e]
      exact h
theorem ok_world (M : Txt K mg G) (F : Fun K "_law_world" "_law_world" sf_law_world f fd) : FnOk P w K mg base (L2.CX P w) 1 f fd [] (spW K 0 wWorld) := by
  refine okW F scf_law_world fun cdv A outer s H E B Φ Ψ as ρ c hl hw => ?_
  obtain ⟨rfl, h⟩ := hw
  refine sts_one ?_
  generalize hes : [Expr.Dict [] [] _, _, _, _, _] = es
  refine st_ret (ev_lsto ?_)
  rw [← hes]
  clear hes
  refine ag_cons rfl (ev_dctl fun d1 b1 => ag_cons rfl (ev_dct fun d2 b2 => ag_cons rfl (ev_dct fun d3 b3 => ag_cons rfl (ev_dct fun d4 b4 => ag_cons rfl (ev_lsto ?_)))))
  wtm_at "L.ev"
  refine ⟨by decide, fun e be => ?_⟩
  wtm_at "L.ev"
  refine ⟨(by show (5 : Nat) ≤ sizeLine; decide), fun q bq => ⟨_, ?_, h q⟩⟩
  refine Sh.trans (Sh.re (ρ' := [(e, .ol [.int 0, .int 0]), (d1, .dol []), (d2, .od []), (d3, .od []), (d4, .od []), (q, .ol [.obj d1, .obj d2, .obj d3, .obj d4, .obj e])] ++ ρ) rev6 rev6_inj fun k r' hh => ?_) (close_world (n := 0) (kvs := []) (c := CS.nil) rfl rfl rfl rfl rfl rfl rfl)
  rcases k with _ | _ | _ | _ | _ | _ | k <;> exact hh
end
end Lw

set_option maxHeartbeats 4000000
namespace Lw
open PySem PySem.Spec PyProof.Rows L2
-- the walk over data: one step after another
local macro_rules | `(tactic| wtm_at "L.vis") => `(tactic| first | exact Or.inl rfl | exact Or.inr (Or.inl rfl) | exact Or.inr (Or.inr rfl))
local macro_rules | `(tactic| wtm_at "L.loc") => `(tactic| first | exact Or.inl rfl | exact Or.inr rfl)
local macro_rules | `(tactic| wtm_at "L.at") => `(tactic| first | with_reducible assumption | with_reducible exact at_hd | with_reducible exact at_set (by with_reducible assumption) | with_reducible exact at_ne (by with_reducible assumption) (by with_reducible assumption) | (with_reducible apply at_tl; wtm_at "L.at"))
local macro_rules | `(tactic| wtm_at "L.cx") => `(tactic| first | with_reducible assumption | exact CxOk.blk (by with_reducible assumption) _ _ _ _ _)
local macro_rules | `(tactic| wtm_at "L.N") => `(tactic| with_reducible first | exact cx_N | exact blk_N cx_N | exact tr_N cx_N | exact suite_N cx_N | exact cxH_N | exact blk_N (tr_N cx_N))
local macro_rules | `(tactic| wtm_at "L.ix") => `(tactic| first | with_reducible exact nm_z | (with_reducible apply nm_s; wtm_at "L.ix"))
local macro_rules | `(tactic| wtm_at "L.E") => `(tactic| with_reducible first | exact cx_E | exact blk_E cx_E | exact tr_E cx_E | exact blk_E (tr_E cx_E))
local macro_rules | `(tactic| wtm_at "L.nm") => `(tactic| (((with_reducible show EvP _ _ (Expr.Name _ _) _ _ _)); refine ev_nameN (by wtm_at "L.N") (by wtm_at "L.ix") (by wtm_at "L.vis") ?_; refine ⟨_, rfl, ?_⟩))
local macro_rules | `(tactic| wtm_at "L.set") => `(tactic| (((with_reducible show StP _ _ (Stmt.Assign [Expr.Name _ _] _ _) _ _ _)); refine st_setM (by with_reducible assumption) (by wtm_at "L.N") (by wtm_at "L.ix") (by wtm_at "L.loc") rfl (Or.inl rfl) ?_))
local macro_rules | `(tactic| wtm_at "L.tgn") => `(tactic| (((with_reducible show TgP _ _ (Expr.Name _ _) _ _ _ _)); refine tg_nameN (by with_reducible assumption) (by wtm_at "L.N") (by wtm_at "L.ix") (by wtm_at "L.loc") (Or.inl rfl) ?_))

local macro_rules | `(tactic| wtm_at "L.lst") => `(tactic| first | with_reducible exact LstAt.l | exact LstAt.o _ (by wtm_at "L.at") | with_reducible assumption | exact LstAt.i (by wtm_at "L.at") (by with_reducible assumption))
local macro_rules | `(tactic| wtm_at "L.dct") => `(tactic| first | exact DctAt.o _ (by wtm_at "L.at") | exact DctAt.l _ (by wtm_at "L.at") | exact DctAt.oF _ (by wtm_at "L.at") | exact DctAt.lF _ (by wtm_at "L.at") | with_reducible assumption)
local macro_rules | `(tactic| wtm_at "L.txt") => `(tactic| with_reducible assumption)
local macro_rules | `(tactic| wtm_at "L.attr") => `(tactic| (((with_reducible show EvP _ _ (Expr.Attribute _ _ _) _ _ _)); refine ev_attr rfl ?_; wtm_at "L.nm"; refine ⟨_, _, _, _, _, rfl, (by wtm_at "L.at"), Txt.cl (by assumption), ?_, rfl, ?_⟩; first
  | ((with_reducible show NoAttr _ _ "slots"); exact Txt.n1 (by assumption)) | ((with_reducible show NoAttr _ _ "held"); exact Txt.n2 (by assumption)) | ((with_reducible show NoAttr _ _ "paired"); exact Txt.n3 (by assumption)) | ((with_reducible show NoAttr _ _ "wills"); exact Txt.n4 (by assumption)) | ((with_reducible show NoAttr _ _ "coming"); exact Txt.n5 (by assumption)) | ((with_reducible show NoAttr _ _ "next_pair"); exact Txt.n6 (by assumption))))
local macro_rules | `(tactic| wtm_at "L.units") => `(tactic| exact (CxOk.room (by wtm_at "L.cx")).units)
local macro_rules | `(tactic| wtm_at "L.cls") => `(tactic| ((with_reducible show EvP _ _ (Expr.Name _ _) _ _ _); first
  | ((with_reducible show EvP _ _ (Expr.Name "NoBox" _) _ _ _); refine ev_gref rfl (ExF.gP (Txt.x1 (by assumption))) ?_)
  | ((with_reducible show EvP _ _ (Expr.Name "NoSlot" _) _ _ _); refine ev_gref rfl (ExF.gP (Txt.x2 (by assumption))) ?_)
  | ((with_reducible show EvP _ _ (Expr.Name "NoHand" _) _ _ _); refine ev_gref rfl (ExF.gP (Txt.x3 (by assumption))) ?_)
  | ((with_reducible show EvP _ _ (Expr.Name "NoPair" _) _ _ _); refine ev_gref rfl (ExF.gP (Txt.x4 (by assumption))) ?_)
  | ((with_reducible show EvP _ _ (Expr.Name "NoWill" _) _ _ _); refine ev_gref rfl (ExF.gP (Txt.x5 (by assumption))) ?_)
  | ((with_reducible show EvP _ _ (Expr.Name "TooMany" _) _ _ _); refine ev_gref rfl (ExF.gP (Txt.x6 (by assumption))) ?_)
  | ((with_reducible show EvP _ _ (Expr.Name "NoText" _) _ _ _); refine ev_gref rfl (ExF.gP (Txt.x7 (by assumption))) ?_)
  | ((with_reducible show EvP _ _ (Expr.Name "int" _) _ _ _); refine ev_ty (n := "int") rfl (Txt.int (by assumption)) (by decide +kernel) ?_)
  | ((with_reducible show EvP _ _ (Expr.Name "bool" _) _ _ _); refine ev_ty (n := "bool") rfl (Txt.bool (by assumption)) (by decide +kernel) ?_)
  | ((with_reducible show EvP _ _ (Expr.Name "list" _) _ _ _); refine ev_ty (n := "list") rfl (Txt.list (by assumption)) (by decide +kernel) ?_)
  | ((with_reducible show EvP _ _ (Expr.Name "ValueError" _) _ _ _); refine ev_ty (n := "ValueError") rfl (Txt.ve (by assumption)) (by decide +kernel) ?_)
  | ((with_reducible show EvP _ _ (Expr.Name "MOST_SLOTS" _) _ _ _); refine ev_gint rfl (Txt.ms (by assumption)) ?_)
  | ((with_reducible show EvP _ _ (Expr.Name "MOST_BOXES" _) _ _ _); refine ev_gint rfl (Txt.mb (by assumption)) ?_)))
local macro_rules | `(tactic| wtm_at "L.e") => `(tactic| ((with_reducible show EvP _ _ _ _ _ _); first
  | wtm_at "L.cls" | wtm_at "L.nm" | with_reducible refine ev_int ?_ | with_reducible refine ev_str ?_ | with_reducible refine ev_bl ?_ | with_reducible refine ev_non ?_
  | with_reducible refine ev_bin ?_ | wtm_at "L.attr" | wtm_at "L.cmp" | with_reducible refine ev_un ?_ | wtm_at "L.sub" | wtm_at "L.callB"))
local macro_rules | `(tactic| wtm_at "L.tcmp") => `(tactic| ((with_reducible show TsP _ _ (Expr.Compare _ _ _ _) _ _ _); first | refine ts_cmp (nomark _) ?_ | refine ts_cmp rfl ?_ | refine ts_chain rfl ?_))
local macro_rules | `(tactic| wtm_at "L.t") => `(tactic| ((with_reducible show TsP _ _ _ _ _ _); first | wtm_at "L.tcmp" | with_reducible refine ts_not ?_ | (with_reducible show TsP _ _ (Expr.BoolOp _ _ _) _ _ _; with_reducible refine ts_w ?_) | refine ts_tru (fun _ => rfl) ?_))
local macro_rules | `(tactic| wtm_at "L.w") => `(tactic| ((with_reducible show TwP _ _ _ _ _ _); with_reducible first | refine tw_and1 ?_ | refine tw_or1 ?_ | refine tw_and ?_ | refine tw_or ?_))
local macro_rules | `(tactic| wtm_at "L.cmp") => `(tactic| ((with_reducible show EvP _ _ (Expr.Compare _ _ _ _) _ _ _); first | refine ev_cmp (nomark _) ?_ | refine ev_cmp rfl ?_))
local macro_rules | `(tactic| wtm_at "L.sub") => `(tactic| ((with_reducible show EvP _ _ (Expr.Subscript _ _ _) _ _ _); first | with_reducible refine ev_slice ?_ | refine ev_sub (fun _ _ => rfl) ?_))
local macro_rules | `(tactic| wtm_at "L.b") => `(tactic| ((with_reducible show BiP _ _ _ _ _ _ _); first
  | with_reducible refine bi_add ?_ | with_reducible refine bi_sub ?_ | with_reducible refine bi_lt ?_ | with_reducible refine bi_le ?_ | with_reducible refine bi_gt ?_ | with_reducible refine bi_ge ?_
  | with_reducible refine bi_eqI ?_ | with_reducible refine bi_neI ?_ | with_reducible refine bi_eqS ?_ | with_reducible refine bi_neS ?_ | with_reducible refine bi_isN ?_ | with_reducible refine bi_notN ?_
  | with_reducible refine bi_mod (by decide) ?_ | with_reducible refine bi_fdiv (by decide) ?_
  | refine bi_inD (by wtm_at "L.units") (by wtm_at "L.dct") ?_ | refine bi_ninD (by wtm_at "L.units") (by wtm_at "L.dct") ?_))
local macro_rules | `(tactic| wtm_at "L.a") => `(tactic| ((with_reducible show AgP _ _ _ _ _ _); first | with_reducible refine ag_nil ?_ | refine ag_cons rfl ?_))
local macro_rules | `(tactic| wtm_at "L.o") => `(tactic| ((with_reducible show PtP _ _ _ _ _ _); first | with_reducible refine pt_none ?_ | with_reducible refine pt_some ?_))
local macro_rules | `(tactic| wtm_at "L.c") => `(tactic| ((with_reducible show ClP _ _ _ _ _ _); first
  | refine cl_lenL (by wtm_at "L.lst") ?_ | with_reducible refine cl_lenT ?_ | refine cl_lenD (by wtm_at "L.dct") ?_ | refine cl_lenX (by wtm_at "L.at") ?_))
local macro_rules | `(tactic| wtm_at "L.callB") => `(tactic| ((with_reducible show EvP _ _ (Expr.Call (Expr.Name _ _) _ _ _) _ _ _); first
  | ((with_reducible show EvP _ _ (Expr.Call (Expr.Name "len" _) _ _ _) _ _ _); refine ev_callB (id := "len") rfl (Txt.len (by assumption)) (by decide +kernel) ?_)
  | ((with_reducible show EvP _ _ (Expr.Call (Expr.Name "sorted" _) _ _ _) _ _ _); refine ev_callB (id := "sorted") rfl (Txt.sorted (by assumption)) (by decide +kernel) ?_)
  | ((with_reducible show EvP _ _ (Expr.Call (Expr.Name "isinstance" _) _ _ _) _ _ _); refine ev_callB (id := "isinstance") rfl (Txt.isi (by assumption)) (by decide +kernel) ?_)
  | ((with_reducible show EvP _ _ (Expr.Call (Expr.Name "all" _) _ _ _) _ _ _); refine ev_callB (id := "all") rfl (Txt.all (by assumption)) (by decide +kernel) ?_)
  | ((with_reducible show EvP _ _ (Expr.Call (Expr.Name "min" _) _ _ _) _ _ _); refine ev_callB (id := "min") rfl (Txt.min (by assumption)) (by decide +kernel) ?_)
  | ((with_reducible show EvP _ _ (Expr.Call (Expr.Name "max" _) _ _ _) _ _ _); refine ev_callB (id := "max") rfl (Txt.max (by assumption)) (by decide +kernel) ?_)
  | ((with_reducible show EvP _ _ (Expr.Call (Expr.Name "list" _) _ _ _) _ _ _); refine ev_callTy (T := "list") rfl (Txt.list (by assumption)) (by decide +kernel) ?_)
  | ((with_reducible show EvP _ _ (Expr.Call (Expr.Name "int" _) _ _ _) _ _ _); refine ev_callTy (T := "int") rfl (Txt.int (by assumption)) (by decide +kernel) ?_)
  ))
local macro_rules | `(tactic| wtm_at "L.meth") => `(tactic| ((with_reducible show EvP _ _ (Expr.Call (Expr.Attribute _ _ _) _ _ _) _ _ _); first
  | refine ev_methN (by wtm_at "L.cx") (by wtm_at "L.E") (by with_reducible assumption) (by decide) rfl rfl rfl ?_ | refine ev_methN0 (by wtm_at "L.cx") (by wtm_at "L.E") (by with_reducible assumption) (by decide) rfl ?_))
local macro_rules | `(tactic| wtm_at "L.ins") => `(tactic| exact InsAt.c (by wtm_at "L.at") (by decide +kernel))
local macro_rules | `(tactic| wtm_at "L.call") => `(tactic| ((with_reducible show EvP _ _ (Expr.Call (Expr.Name _ _) _ _ _) _ _ _); first
  | refine ev_callN (by wtm_at "L.cx") (by wtm_at "L.E") (by with_reducible assumption) (by decide) rfl ?_ | refine ev_callN0 (by wtm_at "L.cx") (by wtm_at "L.E") (by with_reducible assumption) (by decide) rfl ?_))
local macro_rules | `(tactic| wtm_at "L.tr") => `(tactic| ((with_reducible show TrP _ _ _ _ _); first | with_reducible refine tr_bl ?_ | with_reducible refine tr_int ?_ | with_reducible refine tr_non ?_ | refine tr_lst (by wtm_at "L.lst") ?_))
local macro_rules | `(tactic| wtm_at "L.n") => `(tactic| simp only [List.set_cons_succ, List.set_cons_zero, List.set_set])
local macro_rules | `(tactic| wtm_at "L.u") => `(tactic| ((with_reducible show UnP _ _ _ _ _ _); with_reducible refine un_neg' ?_))
local macro_rules | `(tactic| wtm_at "L.app") => `(tactic| (((with_reducible show EvP _ _ (Expr.Call (Expr.Attribute _ _ _) _ _ _) _ _ _)); refine ev_append ?_))
local macro_rules | `(tactic| wtm_at "L.wd") => `(tactic| (refine tr_bl ?_; first
  | refine ⟨fun q => absurd q (by decide), fun _ => sts_nil ?_⟩
  | (refine ⟨fun _ => sts_one (st_expr rfl ?_), fun q => absurd q (by decide)⟩; wtm_at "L.app"; wtm_at "L.nm"; refine ⟨⟨_, by wtm_at "L.lst"⟩, ?_⟩; refine ev_str ?_; refine ⟨0, _, _, rfl, by exact at_hd, by decide, ?_⟩; wtm_at "L.n")))
local macro_rules | `(tactic| wtm_at "L.i") => `(tactic| ((with_reducible show IxP _ _ (D.tup _) (D.int _) _ _); refine ix_tpl rfl ?_))
local macro_rules | `(tactic| wtm_at "L.skip") => `(tactic| (refine sts_cons (st_if ?_); wtm_at "L.ev"; first | refine ⟨_, rfl, fun q => absurd q (by decide), fun _ => ⟨fun q => absurd q (by decide), fun _ => sts_nil ?_⟩⟩ | (refine ⟨_, rfl, fun _ => ?_, fun q => absurd q (by decide)⟩; wtm_at "L.ev"; refine ⟨_, rfl, fun q => absurd q (by decide), fun _ => sts_nil ?_⟩)))
local macro_rules | `(tactic| wtm_at "L.skip1") => `(tactic| (wtm_at "L.skip"; refine sts_one (st_ret (ev_tup ?_)); wtm_at "L.ev"))
local macro_rules | `(tactic| wtm_at "L.skip2") => `(tactic| (wtm_at "L.skip"; wtm_at "L.skip1"))
local macro_rules | `(tactic| wtm_at "L.skip3") => `(tactic| (wtm_at "L.skip"; wtm_at "L.skip2"))
local macro_rules | `(tactic| wtm_at "L.ev1") => `(tactic| first | wtm_at "L.e" | wtm_at "L.b" | wtm_at "L.t" | wtm_at "L.w" | wtm_at "L.tr" | wtm_at "L.a" | wtm_at "L.c" | wtm_at "L.o" | wtm_at "L.u" | wtm_at "L.i")
local macro_rules | `(tactic| wtm_at "L.ev") => `(tactic| repeat (wtm_at "L.ev1"))

theorem aPut_len {α : Type} (l : List (Int × α)) (k : Int) (v : α) : (aPut l k v).length ≤ l.length + 1 := by
  unfold aPut
  split
  · rw [List.length_map]; omega
  · rw [List.length_append, List.length_singleton]; omega
theorem hAdd_len (l : List Int) (b : Int) : (hAdd l b).length ≤ l.length + 1 := by
  unfold hAdd
  split
  · omega
  · rw [List.length_append, List.length_singleton]; omega
theorem effM_len {c c' : CS} {z : Int} {wd : Str} {v : D} {i : Nat} (h : EffM c z wd v c') (h1 : c.slots.length ≤ i) (h2 : c.held.length ≤ i) : c'.slots.length ≤ i + 1 ∧ c'.held.length ≤ i + 1 := by
  obtain ⟨_, _, _, rfl⟩ | ⟨_, _, _, _, rfl⟩ | ⟨_, _, _, _, rfl⟩ := h
  · exact ⟨by omega, by omega⟩
  · exact ⟨by omega, by omega⟩
  · have g1 := aPut_len c.slots c.coming (List.replicate z.toNat none)
    have g2 := hAdd_len c.held c.coming
    exact ⟨by show (aPut _ _ _).length ≤ _; omega, by show (hAdd _ _).length ≤ _; omega⟩
def Small (c : CS) : Prop := ∀ b xs, aGet c.slots b = some xs → xs.length ≤ 9
theorem small_nil : Small CS.nil := fun b xs h => by cases h
theorem small_make {c : CS} {z : Int} (h : Small c) (hz : z ≤ 9) : Small (c.make z) := fun b xs g => by
  have g' : aGet (aPut c.slots c.coming (List.replicate z.toNat none)) b = some xs := g
  rw [aGet_put] at g'
  split at g'
  · cases g'
    rw [List.length_replicate]; omega
  · exact h b xs g'
theorem small_set {c : CS} {b0 s : Int} {ys : List (Option (Int × Bool))} {v : Option (Int × Bool)} (h : Small c) (hy : aGet c.slots b0 = some ys) : Small (c.setSlot b0 ys s v) := fun b xs g => by
  have g' : aGet (aPut c.slots b0 (ys.set s.toNat v)) b = some xs := g
  rw [aGet_put] at g'
  split at g'
  · cases g'
    rw [List.length_set]
    exact h b0 ys hy
  · exact h b xs g'
theorem small_eff {c c' : CS} {d v : D} {wd : Str} (he : Eff c d wd v c') (h : Small c) : Small c' := by
  obtain ⟨z, rfl, he, _, _⟩ | ⟨rfl, ⟨b, sl, o, hh, rfl, he⟩ | ⟨b, sl, rfl, he⟩⟩ := he
  · obtain ⟨q, rfl, rfl, rfl⟩ | ⟨q, q2, rfl, rfl, rfl⟩ | ⟨q, q2, rfl, rfl, rfl⟩ := he
    · exact h
    · exact h
    · exact small_make h q.2
  · obtain ⟨e, rfl, rfl⟩ | ⟨xs, e, q, rfl, rfl⟩ | ⟨xs, e, q, e2, rfl, rfl⟩ | ⟨xs, ys, e, q, e2, rfl, rfl⟩ := he
    · exact h
    · exact h
    · exact h
    · exact small_set h e
  · obtain ⟨e, rfl, rfl⟩ | ⟨xs, e, q, rfl, rfl⟩ | ⟨xs, e, q, rfl, rfl⟩ := he
    · exact h
    · exact h
    · exact small_set h e
theorem all_true (l : List Bool) (h : ∀ b ∈ l, b = true) : l.all id = true := List.all_eq_true.mpr fun b hb => h b hb
/-- the class, to be made -/
def MkOk (P : Program) (w : World) (K : PySem.W.Frag) (mg : Str → Option Value) (base : Heap) (G : Gn) : Prop := ∃ (f : Addr) (fd : FuncData), Mk K G.C f ∧ FnOk P w K mg base (L2.CX P w) 1 f fd ["self"] (spW K 1 (wInit G)) ∧ Binds K fd ["self"] [] ∧ mg "Chest" = some (.ref G.C)
theorem cut_ints (ns : List Int) (lo hi : Option Int) : ∃ ms : List Int, cutD (ns.map D.int) lo hi = ms.map D.int := by
  unfold cutD
  exact ⟨_, by rw [← List.map_drop, ← List.map_take]⟩
theorem pick3 {x y z : Int} (j : Int) (h : 0 ≤ j ∧ j < 3) : ∃ v : Int, atI [D.int x, D.int y, D.int z] j = some (.int v) := by
  obtain ⟨h0, h1⟩ := h
  obtain ⟨n, rfl⟩ := Int.eq_ofNat_of_zero_le h0
  have : n < 3 := by omega
  rcases n with _ | _ | _ | n
  · exact ⟨x, rfl⟩
  · exact ⟨y, rfl⟩
  · exact ⟨z, rfl⟩
  · exfalso; omega
section
variable {P : Program} {w : World} {K : PySem.W.Frag} {mg : Str → Option Value} {base : Heap} {G : Gn}
variable {f : Addr} {fd : FuncData}
def wSlotsAre (G : Gn) : WP := fun as ρ Φ _ => ∃ (n m : Nat) (p r : Addr) (c : CS) (b : Int), as = [.obj p, .obj r, .int b] ∧ n ≠ m ∧ ρ[n]? = some (p, Own.chest G.C c) ∧ ρ[m]? = some (r, Own.world c) ∧ Small c ∧ Φ (.bl true) ρ
theorem ok_slots_are (M : Txt K mg G) (F : Fun K "_law_slots_are" "_law_slots_are" sf_law_slots_are f fd) (D1 : DefOk P w K mg base "_law_slot_is" 2 2 wSlotIs) (D2 : MetOk P w K mg base G.C "told" 3 3 (wTold G)) : FnOk P w K mg base (L2.CX P w) 4 f fd ["_law_chest", "_law_world_here", "_law_box"] (spW K 3 (wSlotsAre G)) := by
  refine okW F scf_law_slots_are fun cdv A outer s H E B Φ Ψ as ρ c hl hw => ?_
  obtain ⟨n, m, p, r, ch, b, rfl, hnm, hk, hr, hsm, h⟩ := hw
  refine sts_openW hr fun d1 d2 d3 d4 e kvs hs => ?_
  have hk5 : ((e, Own.ol [.int ch.coming, .int ch.next]) :: (d1, Own.dol kvs) :: (d2, Own.od (heldT ch.held)) :: (d3, Own.od (pairT ch.paired)) :: (d4, Own.od (willT ch.wills)) :: ρ.set m (r, .ol [.obj d1, .obj d2, .obj d3, .obj d4, .obj e]))[n + 5]? = some (p, Own.chest G.C ch) := at_tl (at_tl (at_tl (at_tl (at_tl (at_ne hk hnm)))))
  refine sts_cons ?_
  wtm_at "L.set"
  refine ev_dget2 (by wtm_at "L.units") ⟨rfl, rfl, rfl, rfl⟩ ?_
  wtm_at "L.ev"
  refine ix_lst (by wtm_at "L.lst") rfl ?_
  refine ⟨⟨_, _, by wtm_at "L.dct"⟩, ?_⟩
  wtm_at "L.nm"
  refine ev_lst (ag_nil ⟨by decide, ?_⟩)
  refine ⟨_, _, _, rfl, by wtm_at "L.dct", ?_⟩
  obtain ⟨sl, xs, hsl, hxs, esl⟩ : ∃ sl xs, LstAt ((e, Own.ol [.int ch.coming, .int ch.next]) :: (d1, Own.dol kvs) :: (d2, Own.od (heldT ch.held)) :: (d3, Own.od (pairT ch.paired)) :: (d4, Own.od (willT ch.wills)) :: ρ.set m (r, .ol [.obj d1, .obj d2, .obj d3, .obj d4, .obj e])) sl (List.map slotD xs) ∧ (xs ≠ [] → aGet ch.slots b = some xs) ∧ ((aGet kvs b).map fun p => D.obj p.1).getD (.lst []) = sl := by
    cases g : aGet ch.slots b with
    | none =>
      rw [slots_none hs g]
      exact ⟨.lst [], [], LstAt.l, fun z => absurd rfl z, rfl⟩
    | some xs =>
      obtain ⟨a, e1, e2⟩ := slots_some hs g
      rw [e1]
      exact ⟨.obj a, xs, LstAt.i (n := 1) rfl e2, fun _ => rfl, rfl⟩
  rw [esl]
  clear esl
  refine sts_one (st_ret ?_)
  wtm_at "L.callB"
  refine ag_cons rfl (ev_frz (ev_lcR (vs := [4]) (own := [("_law_slot", 4)]) c (blkOk_by (N := nf_law_slots_are) (sc := defScope sf_law_slots_are) (by decide +kernel)) rfl (tgt_name (i := 4) fun s H C cl fp => pg_name scf_law_slots_are.nd rfl (Or.inl rfl)) rfl M.range rfl (fun _ => rfl) ?_))
  wtm_at "L.callB"
  refine ag_cons rfl ?_
  wtm_at "L.nm"
  refine ag_nil (cl_lenL hsl ?_)
  rw [List.length_map]
  have hx9 : xs.length ≤ 9 := by
    cases xs with
    | nil => simp
    | cons y ys => exact hsm b _ (hxs (by simp))
  refine ⟨xs.length, rfl, by omega, by omega, fun m' acc ρ' => acc = List.replicate m' (.bl true) ∧ ρ' = _, ⟨rfl, rfl⟩, ?_, ?_⟩
  · rintro j hj acc ρ' q ⟨rfl, rfl⟩
    have hj' : j < xs.length := by omega
    have hg : aGet ch.slots b = some xs := hxs (fun z => by rw [z] at hj'; simp at hj')
    refine ⟨_, rfl, fun s H0 C cl fp => tss_nil ⟨fun _ s H0 C cl fp => ?_, fun q => nomatch q⟩⟩
    wtm_at "L.call"
    refine ag_cons rfl ?_
    wtm_at "L.meth"
    wtm_at "L.nm"
    refine ⟨InsAt.c (at_tl hk5) (by decide +kernel), ?_⟩
    wtm_at "L.ev"
    refine ⟨rfl, n + 6, p, ch, b, j, rfl, at_tl hk5, fun e => (by rw [hg] at e; cases e), fun zs e => ⟨fun q2 => ?_, fun q2 => ?_⟩⟩
    · rw [hg] at e
      cases e
      refine ag_cons rfl (ev_sub (fun _ _ => rfl) ?_)
      wtm_at "L.nm"
      wtm_at "L.nm"
      refine ix_lst (hsl.cons _) (atI_some (slotD none) (by rw [List.length_map]; omega)) ?_
      rw [getD_map]
      refine ag_nil ⟨rfl, _, rfl, _, rfl, by rw [List.length_replicate]; omega, ?_, rfl⟩
      rw [List.replicate_succ']
    · rw [hg] at e
      cases e
      exact absurd ⟨by omega, by omega⟩ q2
  · rintro acc ρ' q ⟨rfl, rfl⟩ hq
    refine ⟨q, _, _, rfl, rfl, hq, ag_nil (cl_all c.calm (bs := List.replicate xs.length true) (by rw [List.map_replicate]; exact LstAt.l) ?_)⟩
    rw [all_true _ fun b hb => (List.mem_replicate.mp hb).2]
    exact ⟨_, shutW hr hs, h⟩
def wLaw : WP := fun as ρ Φ _ => ∃ (a : Addr) (ns : List Int), as = [.obj a] ∧ ρ = [(a, Own.scr ns)] ∧ ns.length ≤ 63 ∧ ∀ ρ', Φ (.bl true) ρ'
theorem ok_law (M : Txt K mg G) (F : Fun K "law" "law" sf_law f fd) (MK : MkOk P w K mg base G) (D1 : DefOk P w K mg base "_law_cell_at" 1 2 wCellAt) (D2 : DefOk P w K mg base "_law_mixed" 1 3 wMixed) (D3 : DefOk P w K mg base "_law_world" 1 0 wWorld) (D4 : DefOk P w K mg base "_law_step" 6 3 (wStep G)) (D5 : DefOk P w K mg base "_law_slots_are" 4 3 (wSlotsAre G)) : FnOk P w K mg base (L2.CX P w) 8 f fd ["_law_script"] (spW K 1 wLaw) := by
  refine okW F scf_law fun cdv A outer s H E B Φ Ψ as ρ c hl hw => ?_
  obtain ⟨a, ns, rfl, rfl, hn, h⟩ := hw
  refine sts_cons ?_
  wtm_at "L.set"
  wtm_at "L.ev"
  wtm_at "L.call"
  wtm_at "L.ev"
  refine ⟨rfl, 0, a, ns, 0, rfl, rfl, by decide, ?_⟩
  wtm_at "L.ev"
  generalize ns.getD (0 : Int).toNat 0 = far
  have g1 := Int.emod_nonneg far (show (6 : Int) ≠ 0 by decide)
  have g2 := Int.emod_lt_of_pos far (show (0 : Int) < 6 by decide)
  generalize hmany : 1 + far % 6 = many
  have m1 : 0 < many := by omega
  have m6 : many ≤ 6 := by omega
  obtain ⟨fi, fdi, mk, Fi, bi, hmC⟩ := MK
  refine sts_cons ?_
  wtm_at "L.set"
  refine ev_make (k := 6) c mk (Fi.mono (by decide)) bi rfl hmC fun q hq => ⟨0, q, rfl, rfl, rfl, ?_⟩
  refine sts_cons ?_
  wtm_at "L.set"
  wtm_at "L.call"
  refine ⟨rfl, fun r => ?_⟩
  refine sts_cons (st_forR1 c rfl M.range rfl (fun _ => rfl) ?_)
  wtm_at "L.ev"
  refine ⟨many, rfl, by omega, by omega, fun i δ' ρ' => ∃ (ch : CS) (x4 : Option D), ch.slots.length ≤ i ∧ ch.held.length ≤ i ∧ Small ch ∧ δ' = [some (.obj a), some (.int many), some (.obj q), some (.obj r), x4, none, none, none, none] ∧ ρ' = [(r, Own.world ch), (q, Own.chest G.C ch), (a, Own.scr ns)], ⟨CS.nil, none, Nat.le_refl _, Nat.le_refl _, small_nil, rfl, rfl⟩, ?_, ?_⟩
  · rintro i δ' ρ' hi ⟨ch, x4, l1, l2, hsm, rfl, rfl⟩
    wtm_at "L.tgn"
    refine sts_one (st_if (ts_not (ts_tru (fun _ => rfl) ?_)))
    wtm_at "L.call"
    wtm_at "L.ev"
    refine ev_tup ?_
    wtm_at "L.ev"
    wtm_at "L.call"
    refine ag_cons rfl ?_
    wtm_at "L.call"
    wtm_at "L.ev"
    refine ⟨rfl, 2, a, ns, 1, rfl, rfl, by decide, ?_⟩
    wtm_at "L.ev"
    refine ⟨rfl, _, _, 10, rfl, by decide, fun z _ _ => ?_⟩
    wtm_at "L.ev"
    refine ⟨(by show (2 : Nat) ≤ sizeLine; decide), ?_⟩
    wtm_at "L.ev"
    obtain ⟨wd, v, ch', he⟩ := effM_ex ch z
    have hE : Eff ch (dMake z) wd v ch' := .inl ⟨z, rfl, he, by omega, by omega⟩
    obtain ⟨l3, l4⟩ := effM_len he l1 l2
    refine ⟨rfl, 1, 0, q, r, ch, ch', dMake z, v, wd, rfl, by decide, rfl, rfl, hE, ?_⟩
    wtm_at "L.ev"
    exact ⟨fun q => (nomatch q), fun _ => sts_nil ⟨ch', _, l3, l4, small_eff hE hsm, rfl, rfl⟩⟩
  · rintro δ' ρ' ⟨ch, x4, l1, l2, hsm, rfl, rfl⟩
    clear l1 l2
    refine sts_cons (st_forL c (fun _ => rfl) ?_)
    wtm_at "L.ev"
    refine ⟨_, rfl, ?_⟩
    wtm_at "L.ev"
    refine ⟨_, rfl, sl_scr (n := 2) (by exact at_tl (at_tl at_hd)) ?_⟩
    obtain ⟨ms, e1⟩ := cut_ints ns (some 2) (some 62)
    rw [e1]
    refine ⟨_, LstAt.l, fun _ δ' ρ' => ∃ (ch : CS) (x4 x5 x6 x7 x8 : Option D), Small ch ∧ δ' = [some (.obj a), some (.int many), some (.obj q), some (.obj r), x4, x5, x6, x7, x8] ∧ ρ' = [(r, Own.world ch), (q, Own.chest G.C ch), (a, Own.scr ns)], ⟨ch, _, _, _, _, _, hsm, rfl, rfl⟩, fun i δ' ρ' _ => LstAt.l, ?_, ?_⟩
    · rintro i x δ' ρ' hx ⟨ch, x4, x5, x6, x7, x8, hsm, rfl, rfl⟩
      obtain ⟨cell, rfl⟩ : ∃ cell, x = .int cell := by
        rw [List.getElem?_map] at hx
        cases e : ms[i]? with
        | none => rw [e] at hx; cases hx
        | some v => rw [e] at hx; exact ⟨v, (Option.some.inj hx).symm⟩
      wtm_at "L.tgn"
      refine sts_cons ?_
      wtm_at "L.set"
      wtm_at "L.call"
      wtm_at "L.ev"
      refine ⟨rfl, _, _, many, rfl, m1, fun b _ _ => ?_⟩
      refine sts_cons ?_
      wtm_at "L.set"
      wtm_at "L.call"
      wtm_at "L.ev"
      refine ⟨rfl, _, _, many, rfl, m1, fun o _ _ => ?_⟩
      refine sts_cons ?_
      wtm_at "L.set"
      wtm_at "L.call"
      wtm_at "L.ev"
      refine ⟨rfl, _, _, 10, rfl, by decide, fun sl _ _ => ?_⟩
      refine sts_cut (fun δ' ρ' => (∃ b : Int, δ' = [some (.obj a), some (.int many), some (.obj q), some (.obj r), some (.int b), some (.int cell), some (.int o), some (.int sl), x8]) ∧ ρ' = [(r, Own.world ch), (q, Own.chest G.C ch), (a, Own.scr ns)]) (st_if (ts_cmp rfl ?_)) ?_
      · wtm_at "L.call"
        wtm_at "L.ev"
        refine ⟨rfl, _, _, 8, rfl, by decide, fun z _ _ => ?_⟩
        wtm_at "L.ev"
        refine ⟨_, rfl, fun _ => sts_one ?_, fun _ => sts_nil ⟨⟨_, rfl⟩, rfl⟩⟩
        wtm_at "L.set"
        refine ev_sub (fun _ _ => rfl) (ev_lst ?_)
        wtm_at "L.ev"
        refine bi_pow ⟨by decide, by decide, by decide⟩ ?_
        wtm_at "L.ev"
        refine ⟨(by show (3 : Nat) ≤ sizeLine; decide), ?_⟩
        wtm_at "L.call"
        wtm_at "L.ev"
        refine ⟨rfl, _, _, 3, rfl, by decide, fun j j0 j3 => ?_⟩
        obtain ⟨v, ev⟩ := pick3 (x := -1) (y := many) (z := 10 ^ (12 : Int).toNat) j ⟨j0, j3⟩
        exact ix_lst LstAt.l ev ⟨⟨_, rfl⟩, rfl⟩
      rintro δ' ρ' ⟨⟨b, rfl⟩, rfl⟩
      refine sts_cut (fun δ' ρ' => (∃ o : Int, δ' = [some (.obj a), some (.int many), some (.obj q), some (.obj r), some (.int b), some (.int cell), some (.int o), some (.int sl), x8]) ∧ ρ' = [(r, Own.world ch), (q, Own.chest G.C ch), (a, Own.scr ns)]) (st_if (ts_cmp rfl ?_)) ?_
      · wtm_at "L.call"
        wtm_at "L.ev"
        refine ⟨rfl, _, _, 8, rfl, by decide, fun z _ _ => ?_⟩
        wtm_at "L.ev"
        refine ⟨_, rfl, fun _ => sts_one ?_, fun _ => sts_nil ⟨⟨_, rfl⟩, rfl⟩⟩
        wtm_at "L.set"
        refine ev_sub (fun _ _ => rfl) (ev_lst ?_)
        wtm_at "L.ev"
        refine bi_pow ⟨by decide, by decide, by decide⟩ ?_
        wtm_at "L.ev"
        refine ⟨(by show (3 : Nat) ≤ sizeLine; decide), ?_⟩
        wtm_at "L.call"
        wtm_at "L.ev"
        refine ⟨rfl, _, _, 3, rfl, by decide, fun j j0 j3 => ?_⟩
        obtain ⟨v, ev⟩ := pick3 (x := -1) (y := many) (z := 10 ^ (12 : Int).toNat) j ⟨j0, j3⟩
        exact ix_lst LstAt.l ev ⟨⟨_, rfl⟩, rfl⟩
      rintro δ' ρ' ⟨⟨o, rfl⟩, rfl⟩
      refine sts_cut (fun δ' ρ' => (∃ sl : Int, δ' = [some (.obj a), some (.int many), some (.obj q), some (.obj r), some (.int b), some (.int cell), some (.int o), some (.int sl), x8]) ∧ ρ' = [(r, Own.world ch), (q, Own.chest G.C ch), (a, Own.scr ns)]) (st_if (ts_cmp rfl ?_)) ?_
      · wtm_at "L.call"
        wtm_at "L.ev"
        refine ⟨rfl, _, _, 8, rfl, by decide, fun z _ _ => ?_⟩
        wtm_at "L.ev"
        refine ⟨_, rfl, fun _ => sts_one ?_, fun _ => sts_nil ⟨⟨_, rfl⟩, rfl⟩⟩
        wtm_at "L.set"
        refine ev_sub (fun _ _ => rfl) (ev_lst ?_)
        wtm_at "L.ev"
        refine bi_pow ⟨by decide, by decide, by decide⟩ ?_
        wtm_at "L.ev"
        refine ⟨(by show (3 : Nat) ≤ sizeLine; decide), ?_⟩
        wtm_at "L.call"
        wtm_at "L.ev"
        refine ⟨rfl, _, _, 3, rfl, by decide, fun j j0 j3 => ?_⟩
        obtain ⟨v, ev⟩ := pick3 (x := -1) (y := 10) (z := 10 ^ (12 : Int).toNat) j ⟨j0, j3⟩
        exact ix_lst LstAt.l ev ⟨⟨_, rfl⟩, rfl⟩
      rintro δ' ρ' ⟨⟨sl, rfl⟩, rfl⟩
      refine sts_cons ?_
      wtm_at "L.set"
      refine ev_tup ?_
      wtm_at "L.ev"
      refine ⟨(by show (5 : Nat) ≤ sizeLine; decide), ?_⟩
      refine sts_cut (fun δ' ρ' => (∃ d wd ch', Eff2 ch d wd ch' ∧ δ' = [some (.obj a), some (.int many), some (.obj q), some (.obj r), some (.int b), some (.int cell), some (.int o), some (.int sl), some d]) ∧ ρ' = [(r, Own.world ch), (q, Own.chest G.C ch), (a, Own.scr ns)]) (st_if (ts_cmp rfl ?_)) ?_
      · wtm_at "L.call"
        wtm_at "L.ev"
        refine ⟨rfl, _, _, 4, rfl, by decide, fun z _ _ => ?_⟩
        wtm_at "L.ev"
        refine ⟨_, rfl, fun _ => sts_one ?_, fun _ => sts_nil ?_⟩
        · wtm_at "L.set"
          refine ev_tup ?_
          wtm_at "L.ev"
          obtain ⟨wd, ch', he⟩ := effE_ex ch b sl
          exact ⟨(by show (3 : Nat) ≤ sizeLine; decide), ⟨_, wd, ch', .inr ⟨b, sl, rfl, he⟩, rfl⟩, rfl⟩
        · obtain ⟨wd, ch', he⟩ := effP_ex ch b sl o (decide (cell % 3 > 0))
          exact ⟨⟨_, wd, ch', .inl ⟨b, sl, o, _, rfl, he⟩, rfl⟩, rfl⟩
      rintro δ' ρ' ⟨⟨d, wd, ch', he, rfl⟩, rfl⟩
      have hE : Eff ch d wd .non ch' := .inr ⟨rfl, he⟩
      refine sts_cons (st_if (ts_not (ts_tru (fun _ => rfl) ?_)))
      wtm_at "L.call"
      wtm_at "L.ev"
      refine ⟨rfl, 1, 0, q, r, ch, ch', d, .non, wd, rfl, by decide, rfl, rfl, hE, ?_⟩
      wtm_at "L.ev"
      refine ⟨fun q => (nomatch q), fun _ => sts_nil ?_⟩
      have hsm' := small_eff hE hsm
      refine sts_one (st_if (ts_w (tw_or (ts_not (ts_tru (fun _ => rfl) ?_)))))
      wtm_at "L.call"
      wtm_at "L.ev"
      refine ⟨rfl, 1, 0, q, r, ch', b, rfl, by decide, rfl, rfl, hsm', ?_⟩
      wtm_at "L.ev"
      refine ⟨fun q => (nomatch q), fun _ => tw_or1 (ts_not (ts_tru (fun _ => rfl) ?_))⟩
      wtm_at "L.call"
      wtm_at "L.ev"
      refine ⟨rfl, 1, 0, q, r, ch', o, rfl, by decide, rfl, rfl, hsm', ?_⟩
      wtm_at "L.ev"
      exact ⟨fun q => (nomatch q), fun _ => sts_nil ⟨ch', _, _, _, _, _, hsm', rfl, rfl⟩⟩
    · rintro δ' ρ' ⟨ch, x4, x5, x6, x7, x8, hsm, rfl, rfl⟩
      refine sts_one (st_ret ?_)
      wtm_at "L.callB"
      refine ag_cons rfl (ev_frz (ev_lcR (vs := [4]) (own := [("_law_box", 4)]) c (blkOk_by (N := nf_law) (sc := defScope sf_law) (by decide +kernel)) rfl (tgt_name (i := 4) fun s H C cl fp => pg_name scf_law.nd rfl (Or.inl rfl)) rfl M.range rfl (fun _ => rfl) ?_))
      wtm_at "L.ev"
      refine ⟨many, rfl, by omega, by omega, fun m' acc ρ' => acc = List.replicate m' (.bl true) ∧ ρ' = [(r, Own.world ch), (q, Own.chest G.C ch), (a, Own.scr ns)], ⟨rfl, rfl⟩, ?_, ?_⟩
      · rintro j hj acc ρ' p ⟨rfl, rfl⟩
        refine ⟨_, rfl, fun s H0 C cl fp => tss_nil ⟨fun _ s H0 C cl fp => ?_, fun q => nomatch q⟩⟩
        wtm_at "L.call"
        wtm_at "L.ev"
        refine ⟨rfl, 2, 1, q, r, ch, _, rfl, by decide, rfl, rfl, hsm, _, rfl, by rw [List.length_replicate]; omega, ?_, rfl⟩
        rw [List.replicate_succ']
      · rintro acc ρ' p ⟨rfl, rfl⟩ hp
        refine ⟨p, _, _, rfl, rfl, hp, ag_nil (cl_all c.calm (bs := List.replicate many.toNat true) (by rw [List.map_replicate]; exact LstAt.l) ?_)⟩
        rw [all_true _ fun b hb => (List.mem_replicate.mp hb).2]
        exact ⟨_, Sh.refl, h _⟩
end
end Lw

set_option maxHeartbeats 4000000
namespace Lw
open PySem PySem.Spec PyProof.Rows L2
theorem kit_ref {K : PySem.W.Frag} {t C : Addr} {b : Bool} (hd : PySem.W.hasDictIn K C = true) (ht : PySem.W.typeIn K (.ref C) = some (.type "type")) (s : PySem.W.subIn K (.ref t) (.ref C) = some b) (self : PySem.W.subIn K (.ref t) (.ref t) = some true) : PySem.W.kitOne K (.ref t) (.ref C) = some b := by
  unfold PySem.W.kitOne
  by_cases h : ((Value.ref t) == (Value.ref C)) = true
  · rw [if_pos h]
    have e : t = C := Value.ref.inj (beq_iff_eq.mp h)
    subst e
    rw [self] at s
    exact s
  · rw [if_neg h]
    obtain ⟨cd, hc, _⟩ := PySem.W.any_some hd
    show (if ((PySem.W.clsIn K C).isSome && PySem.W.typeIn K (.ref C) == some (.type "type")) = true then PySem.W.subIn K (.ref t) (.ref C) else none) = some b
    rw [if_pos (by rw [hc, ht]; rfl)]
    exact s
theorem kit_ve {K : PySem.W.Frag} {t : Addr} (s : PySem.W.subIn K (.ref t) (.type "ValueError") = some true) : PySem.W.kitOne K (.ref t) (.type "ValueError") = some true := by
  unfold PySem.W.kitOne
  rw [if_neg (fun z => by cases (beq_iff_eq.mp z))]
  show (if PySem.W.kitMeta "ValueError" = true then PySem.W.subIn K (.ref t) (.type "ValueError") else none) = some true
  rw [if_pos (by decide +kernel)]
  exact s
theorem all_mk {l : PySem.W.OpenLaw} {w : World} {K : PySem.W.Frag} {h : Heap} {mg : Str → Option Value} {fa C WE E0 E1 E2 E3 E4 E5 E6 f0 f1 f2 f3 f4 f5 f6 f7 f8 f9 f10 f11 f12 f13 f14 f15 f16 f17 f18 f19 f20 f21 : Addr} (X : K.In h) (Gm : h.Ns mainGlobals mg) (hfa : mg "law" = some (.ref fa))
    {od0 an0 od1 an1 od2 an2 od3 an3 od4 an4 od5 an5 od6 an6 od7 an7 od8 an8 od9 an9 od10 an10 od11 an11 od12 an12 od13 an13 od14 an14 od15 an15 od16 an16 od17 an17 od18 an18 od19 an19 od20 an20 od21 an21 : Option Addr} {sl0 sl1 sl2 sl3 sl4 sl5 sl6 sl7 sl8 sl9 sl10 sl11 sl12 sl13 sl14 sl15 sl16 sl17 sl18 sl19 sl20 sl21 : Array (Option Value)} {oc0 kV0 dc0 pm0 cd0 ct0 oc1 kV1 dc1 pm1 cd1 ct1 oc2 kV2 dc2 pm2 cd2 ct2 oc3 kV3 dc3 pm3 cd3 ct3 oc4 kV4 dc4 pm4 cd4 ct4 oc5 kV5 dc5 pm5 cd5 ct5 oc6 kV6 dc6 pm6 cd6 ct6 oc7 kV7 dc7 pm7 cd7 ct7 oc8 kV8 dc8 pm8 cd8 ct8 oc9 kV9 dc9 pm9 cd9 ct9 oc10 kV10 dc10 pm10 cd10 ct10 oc11 kV11 dc11 pm11 cd11 ct11 oc12 kV12 dc12 pm12 cd12 ct12 oc13 kV13 dc13 pm13 cd13 ct13 oc14 kV14 dc14 pm14 cd14 ct14 oc15 kV15 dc15 pm15 cd15 ct15 oc16 kV16 dc16 pm16 cd16 ct16 oc17 kV17 dc17 pm17 cd17 ct17 oc18 kV18 dc18 pm18 cd18 ct18 oc19 kV19 dc19 pm19 cd19 ct19 oc20 kV20 dc20 pm20 cd20 ct20 oc21 kV21 dc21 pm21 cd21 ct21 : Value} {t1 t2 : Tok}
    (aC : PySem.W.nsIn K mainGlobals "Chest" = some (some (.ref C)))
    (aW : PySem.W.nsIn K mainGlobals "WillError" = some (some (.ref WE)))
    (aE0 : PySem.W.nsIn K mainGlobals "NoBox" = some (some (.ref E0)))
    (aE1 : PySem.W.nsIn K mainGlobals "NoSlot" = some (some (.ref E1)))
    (aE2 : PySem.W.nsIn K mainGlobals "NoHand" = some (some (.ref E2)))
    (aE3 : PySem.W.nsIn K mainGlobals "NoPair" = some (some (.ref E3)))
    (aE4 : PySem.W.nsIn K mainGlobals "NoWill" = some (some (.ref E4)))
    (aE5 : PySem.W.nsIn K mainGlobals "TooMany" = some (some (.ref E5)))
    (aE6 : PySem.W.nsIn K mainGlobals "NoText" = some (some (.ref E6)))
    (a0 : PySem.W.findIn K (.ref C) "__init__" = some (some (.ref f0)))
    (i0 : PySem.W.isFn K (.ref f0) = true)
    (l0 : K.lookup f0 = some ⟨oc0, od0, .func (PySem.W.fnOf "__init__" "Chest.__init__" (defArgs sm_init) (defBody sm_init) (defScope sm_init) .none kV0 dc0 pm0 an0 cd0 ct0), sl0⟩)
    (c0 : PySem.W.codeIn K cd0 "Chest.__init__" = true)
    (k0 : PySem.W.keepIn K (.ref f0) = true)
    (a1 : PySem.W.findIn K (.ref C) "need_box" = some (some (.ref f1)))
    (i1 : PySem.W.isFn K (.ref f1) = true)
    (l1 : K.lookup f1 = some ⟨oc1, od1, .func (PySem.W.fnOf "need_box" "Chest.need_box" (defArgs sm_need_box) (defBody sm_need_box) (defScope sm_need_box) .none kV1 dc1 pm1 an1 cd1 ct1), sl1⟩)
    (c1 : PySem.W.codeIn K cd1 "Chest.need_box" = true)
    (k1 : PySem.W.keepIn K (.ref f1) = true)
    (a2 : PySem.W.findIn K (.ref C) "need_slot" = some (some (.ref f2)))
    (i2 : PySem.W.isFn K (.ref f2) = true)
    (l2 : K.lookup f2 = some ⟨oc2, od2, .func (PySem.W.fnOf "need_slot" "Chest.need_slot" (defArgs sm_need_slot) (defBody sm_need_slot) (defScope sm_need_slot) .none kV2 dc2 pm2 an2 cd2 ct2), sl2⟩)
    (c2 : PySem.W.codeIn K cd2 "Chest.need_slot" = true)
    (k2 : PySem.W.keepIn K (.ref f2) = true)
    (a3 : PySem.W.findIn K (.ref C) "make" = some (some (.ref f3)))
    (i3 : PySem.W.isFn K (.ref f3) = true)
    (l3 : K.lookup f3 = some ⟨oc3, od3, .func (PySem.W.fnOf "make" "Chest.make" (defArgs sm_make) (defBody sm_make) (defScope sm_make) .none kV3 dc3 pm3 an3 cd3 ct3), sl3⟩)
    (c3 : PySem.W.codeIn K cd3 "Chest.make" = true)
    (k3 : PySem.W.keepIn K (.ref f3) = true)
    (a4 : PySem.W.findIn K (.ref C) "put" = some (some (.ref f4)))
    (i4 : PySem.W.isFn K (.ref f4) = true)
    (l4 : K.lookup f4 = some ⟨oc4, od4, .func (PySem.W.fnOf "put" "Chest.put" (defArgs sm_put) (defBody sm_put) (defScope sm_put) .none kV4 dc4 pm4 an4 cd4 ct4), sl4⟩)
    (c4 : PySem.W.codeIn K cd4 "Chest.put" = true)
    (k4 : PySem.W.keepIn K (.ref f4) = true)
    (a5 : PySem.W.findIn K (.ref C) "empty" = some (some (.ref f5)))
    (i5 : PySem.W.isFn K (.ref f5) = true)
    (l5 : K.lookup f5 = some ⟨oc5, od5, .func (PySem.W.fnOf "empty" "Chest.empty" (defArgs sm_empty) (defBody sm_empty) (defScope sm_empty) .none kV5 dc5 pm5 an5 cd5 ct5), sl5⟩)
    (c5 : PySem.W.codeIn K cd5 "Chest.empty" = true)
    (k5 : PySem.W.keepIn K (.ref f5) = true)
    (a6 : PySem.W.findIn K (.ref C) "told" = some (some (.ref f6)))
    (i6 : PySem.W.isFn K (.ref f6) = true)
    (l6 : K.lookup f6 = some ⟨oc6, od6, .func (PySem.W.fnOf "told" "Chest.told" (defArgs sm_told) (defBody sm_told) (defScope sm_told) .none kV6 dc6 pm6 an6 cd6 ct6), sl6⟩)
    (c6 : PySem.W.codeIn K cd6 "Chest.told" = true)
    (k6 : PySem.W.keepIn K (.ref f6) = true)
    (a7 : PySem.W.nsIn K mainGlobals "_law_cell_at" = some (some (.ref f7)))
    (l7 : K.lookup f7 = some ⟨oc7, od7, .func (PySem.W.fnOf "_law_cell_at" "_law_cell_at" (defArgs sf_law_cell_at) (defBody sf_law_cell_at) (defScope sf_law_cell_at) .none kV7 dc7 pm7 an7 cd7 ct7), sl7⟩)
    (c7 : PySem.W.codeIn K cd7 "_law_cell_at" = true)
    (k7 : PySem.W.keepIn K (.ref f7) = true)
    (a8 : PySem.W.nsIn K mainGlobals "_law_whole" = some (some (.ref f8)))
    (l8 : K.lookup f8 = some ⟨oc8, od8, .func (PySem.W.fnOf "_law_whole" "_law_whole" (defArgs sf_law_whole) (defBody sf_law_whole) (defScope sf_law_whole) .none kV8 dc8 pm8 an8 cd8 ct8), sl8⟩)
    (c8 : PySem.W.codeIn K cd8 "_law_whole" = true)
    (k8 : PySem.W.keepIn K (.ref f8) = true)
    (a9 : PySem.W.nsIn K mainGlobals "_law_mixed" = some (some (.ref f9)))
    (l9 : K.lookup f9 = some ⟨oc9, od9, .func (PySem.W.fnOf "_law_mixed" "_law_mixed" (defArgs sf_law_mixed) (defBody sf_law_mixed) (defScope sf_law_mixed) .none kV9 dc9 pm9 an9 cd9 ct9), sl9⟩)
    (c9 : PySem.W.codeIn K cd9 "_law_mixed" = true)
    (k9 : PySem.W.keepIn K (.ref f9) = true)
    (a10 : PySem.W.nsIn K mainGlobals "_law_class" = some (some (.ref f10)))
    (l10 : K.lookup f10 = some ⟨oc10, od10, .func (PySem.W.fnOf "_law_class" "_law_class" (defArgs sf_law_class) (defBody sf_law_class) (defScope sf_law_class) .none kV10 dc10 pm10 an10 cd10 ct10), sl10⟩)
    (c10 : PySem.W.codeIn K cd10 "_law_class" = true)
    (k10 : PySem.W.keepIn K (.ref f10) = true)
    (a11 : PySem.W.nsIn K mainGlobals "_law_world" = some (some (.ref f11)))
    (l11 : K.lookup f11 = some ⟨oc11, od11, .func (PySem.W.fnOf "_law_world" "_law_world" (defArgs sf_law_world) (defBody sf_law_world) (defScope sf_law_world) .none kV11 dc11 pm11 an11 cd11 ct11), sl11⟩)
    (c11 : PySem.W.codeIn K cd11 "_law_world" = true)
    (k11 : PySem.W.keepIn K (.ref f11) = true)
    (a12 : PySem.W.nsIn K mainGlobals "_law_no_slot" = some (some (.ref f12)))
    (l12 : K.lookup f12 = some ⟨oc12, od12, .func (PySem.W.fnOf "_law_no_slot" "_law_no_slot" (defArgs sf_law_no_slot) (defBody sf_law_no_slot) (defScope sf_law_no_slot) .none kV12 dc12 pm12 an12 cd12 ct12), sl12⟩)
    (c12 : PySem.W.codeIn K cd12 "_law_no_slot" = true)
    (k12 : PySem.W.keepIn K (.ref f12) = true)
    (a13 : PySem.W.nsIn K mainGlobals "_law_made" = some (some (.ref f13)))
    (l13 : K.lookup f13 = some ⟨oc13, od13, .func (PySem.W.fnOf "_law_made" "_law_made" (defArgs sf_law_made) (defBody sf_law_made) (defScope sf_law_made) .none kV13 dc13 pm13 an13 cd13 ct13), sl13⟩)
    (c13 : PySem.W.codeIn K cd13 "_law_made" = true)
    (k13 : PySem.W.keepIn K (.ref f13) = true)
    (a14 : PySem.W.nsIn K mainGlobals "_law_put_by" = some (some (.ref f14)))
    (l14 : K.lookup f14 = some ⟨oc14, od14, .func (PySem.W.fnOf "_law_put_by" "_law_put_by" (defArgs sf_law_put_by) (defBody sf_law_put_by) (defScope sf_law_put_by) .none kV14 dc14 pm14 an14 cd14 ct14), sl14⟩)
    (c14 : PySem.W.codeIn K cd14 "_law_put_by" = true)
    (k14 : PySem.W.keepIn K (.ref f14) = true)
    (a15 : PySem.W.nsIn K mainGlobals "_law_done_by" = some (some (.ref f15)))
    (l15 : K.lookup f15 = some ⟨oc15, od15, .func (PySem.W.fnOf "_law_done_by" "_law_done_by" (defArgs sf_law_done_by) (defBody sf_law_done_by) (defScope sf_law_done_by) .none kV15 dc15 pm15 an15 cd15 ct15), sl15⟩)
    (c15 : PySem.W.codeIn K cd15 "_law_done_by" = true)
    (k15 : PySem.W.keepIn K (.ref f15) = true)
    (a16 : PySem.W.nsIn K mainGlobals "_law_told" = some (some (.ref f16)))
    (l16 : K.lookup f16 = some ⟨oc16, od16, .func (PySem.W.fnOf "_law_told" "_law_told" (defArgs sf_law_told) (defBody sf_law_told) (defScope sf_law_told) .none kV16 dc16 pm16 an16 cd16 ct16), sl16⟩)
    (c16 : PySem.W.codeIn K cd16 "_law_told" = true)
    (k16 : PySem.W.keepIn K (.ref f16) = true)
    (a17 : PySem.W.nsIn K mainGlobals "_law_word" = some (some (.ref f17)))
    (l17 : K.lookup f17 = some ⟨oc17, od17, .func (PySem.W.fnOf "_law_word" "_law_word" (defArgs sf_law_word) (defBody sf_law_word) (defScope sf_law_word) .none kV17 dc17 pm17 an17 cd17 ct17), sl17⟩)
    (c17 : PySem.W.codeIn K cd17 "_law_word" = true)
    (k17 : PySem.W.keepIn K (.ref f17) = true)
    (a18 : PySem.W.nsIn K mainGlobals "_law_step" = some (some (.ref f18)))
    (l18 : K.lookup f18 = some ⟨oc18, od18, .func (PySem.W.fnOf "_law_step" "_law_step" (defArgs sf_law_step) (defBody sf_law_step) (defScope sf_law_step) .none kV18 dc18 pm18 an18 cd18 ct18), sl18⟩)
    (c18 : PySem.W.codeIn K cd18 "_law_step" = true)
    (k18 : PySem.W.keepIn K (.ref f18) = true)
    (a19 : PySem.W.nsIn K mainGlobals "_law_slot_is" = some (some (.ref f19)))
    (l19 : K.lookup f19 = some ⟨oc19, od19, .func (PySem.W.fnOf "_law_slot_is" "_law_slot_is" (defArgs sf_law_slot_is) (defBody sf_law_slot_is) (defScope sf_law_slot_is) .none kV19 dc19 pm19 an19 cd19 ct19), sl19⟩)
    (c19 : PySem.W.codeIn K cd19 "_law_slot_is" = true)
    (k19 : PySem.W.keepIn K (.ref f19) = true)
    (a20 : PySem.W.nsIn K mainGlobals "_law_slots_are" = some (some (.ref f20)))
    (l20 : K.lookup f20 = some ⟨oc20, od20, .func (PySem.W.fnOf "_law_slots_are" "_law_slots_are" (defArgs sf_law_slots_are) (defBody sf_law_slots_are) (defScope sf_law_slots_are) .none kV20 dc20 pm20 an20 cd20 ct20), sl20⟩)
    (c20 : PySem.W.codeIn K cd20 "_law_slots_are" = true)
    (k20 : PySem.W.keepIn K (.ref f20) = true)
    (a21 : PySem.W.nsIn K mainGlobals "law" = some (some (.ref f21)))
    (l21 : K.lookup f21 = some ⟨oc21, od21, .func (PySem.W.fnOf "law" "law" (defArgs sf_law) (defBody sf_law) (defScope sf_law) .none kV21 dc21 pm21 an21 cd21 ct21), sl21⟩)
    (c21 : PySem.W.codeIn K cd21 "law" = true)
    (k21 : PySem.W.keepIn K (.ref f21) = true)
    (pg : PySem.W.plainGet K C Str.empty = true)
    (hd : PySem.W.hasDictIn K C = true)
    (po : PySem.W.plainOver K C = true)
    (sa : PySem.W.findIn K (.ref C) "__setattr__" = some (some (.builtin "object.__setattr__")))
    (mk : PySem.W.makesIn K C = true)
    (kc : PySem.W.keepIn K (.ref C) = true)
    (n0 : PySem.W.findIn K (.ref C) "slots" = some none)
    (n1 : PySem.W.findIn K (.ref C) "held" = some none)
    (n2 : PySem.W.findIn K (.ref C) "paired" = some none)
    (n3 : PySem.W.findIn K (.ref C) "wills" = some none)
    (n4 : PySem.W.findIn K (.ref C) "coming" = some none)
    (n5 : PySem.W.findIn K (.ref C) "next_pair" = some none)
    (b0 : PySem.W.nsIn K mainGlobals "len" = some none)
    (b1 : PySem.W.nsIn K mainGlobals "sorted" = some none)
    (b2 : PySem.W.nsIn K mainGlobals "isinstance" = some none)
    (b3 : PySem.W.nsIn K mainGlobals "all" = some none)
    (b4 : PySem.W.nsIn K mainGlobals "min" = some none)
    (b5 : PySem.W.nsIn K mainGlobals "max" = some none)
    (b6 : PySem.W.nsIn K mainGlobals "list" = some none)
    (b7 : PySem.W.nsIn K mainGlobals "int" = some none)
    (b8 : PySem.W.nsIn K mainGlobals "bool" = some none)
    (b9 : PySem.W.nsIn K mainGlobals "tuple" = some none)
    (b10 : PySem.W.nsIn K mainGlobals "range" = some none)
    (bv : PySem.W.nsIn K mainGlobals "ValueError" = some none)
    (ms : PySem.W.nsIn K mainGlobals "MOST_SLOTS" = some (some (.int 9 t1)))
    (mb : PySem.W.nsIn K mainGlobals "MOST_BOXES" = some (some (.int 60 t2)))
    (ws : PySem.W.subIn K (.ref WE) (.type "BaseException") = some true)
    (wd : PySem.W.hasDictIn K WE = true)
    (wt : PySem.W.typeIn K (.ref WE) = some (.type "type"))
    (hn : PySem.W.specialIn K (.builtin "object.__class__") "__get__" = some (some (.builtin "getset_descriptor.__get__")))
    (ht : PySem.W.takesIn K (.builtin "object.__class__") = some true)
    (x0 : PySem.W.excIn K E0 [.type "ValueError", .type "Exception", .type "BaseException", .type "object"] "ValueError.__new__" = true)
    (xk0 : PySem.W.keepIn K (.ref E0) = true)
    (xs0 : PySem.W.subIn K (.ref E0) (.type "BaseException") = some true)
    (xt0 : PySem.W.typeIn K (.ref E0) = some (.type "type"))
    (xg0 : PySem.W.findIn K (.ref E0) "__getattribute__" = some (some (.builtin "BaseException.__getattribute__")))
    (xh0 : PySem.W.findIn K (.ref E0) "__getattr__" = some none)
    (xd0 : PySem.W.hasDictIn K E0 = true)
    (xa0 : PySem.W.findIn K (.ref E0) "__class__" = some (some (.builtin "object.__class__")))
    (xm0 : PySem.W.mroIn K E0 (.type "object") = some true)
    (q0_0 : PySem.W.subIn K (.ref E0) (.ref E0) = some true)
    (q0_1 : PySem.W.subIn K (.ref E0) (.ref E1) = some false)
    (q0_2 : PySem.W.subIn K (.ref E0) (.ref E2) = some false)
    (q0_3 : PySem.W.subIn K (.ref E0) (.ref E3) = some false)
    (q0_4 : PySem.W.subIn K (.ref E0) (.ref E4) = some false)
    (q0_5 : PySem.W.subIn K (.ref E0) (.ref E5) = some false)
    (q0_6 : PySem.W.subIn K (.ref E0) (.ref E6) = some false)
    (qv0 : PySem.W.subIn K (.ref E0) (.type "ValueError") = some true)
    (qw0 : PySem.W.subIn K (.ref E0) (.ref WE) = some true)
    (x1 : PySem.W.excIn K E1 [.type "ValueError", .type "Exception", .type "BaseException", .type "object"] "ValueError.__new__" = true)
    (xk1 : PySem.W.keepIn K (.ref E1) = true)
    (xs1 : PySem.W.subIn K (.ref E1) (.type "BaseException") = some true)
    (xt1 : PySem.W.typeIn K (.ref E1) = some (.type "type"))
    (xg1 : PySem.W.findIn K (.ref E1) "__getattribute__" = some (some (.builtin "BaseException.__getattribute__")))
    (xh1 : PySem.W.findIn K (.ref E1) "__getattr__" = some none)
    (xd1 : PySem.W.hasDictIn K E1 = true)
    (xa1 : PySem.W.findIn K (.ref E1) "__class__" = some (some (.builtin "object.__class__")))
    (xm1 : PySem.W.mroIn K E1 (.type "object") = some true)
    (q1_0 : PySem.W.subIn K (.ref E1) (.ref E0) = some false)
    (q1_1 : PySem.W.subIn K (.ref E1) (.ref E1) = some true)
    (q1_2 : PySem.W.subIn K (.ref E1) (.ref E2) = some false)
    (q1_3 : PySem.W.subIn K (.ref E1) (.ref E3) = some false)
    (q1_4 : PySem.W.subIn K (.ref E1) (.ref E4) = some false)
    (q1_5 : PySem.W.subIn K (.ref E1) (.ref E5) = some false)
    (q1_6 : PySem.W.subIn K (.ref E1) (.ref E6) = some false)
    (qv1 : PySem.W.subIn K (.ref E1) (.type "ValueError") = some true)
    (qw1 : PySem.W.subIn K (.ref E1) (.ref WE) = some true)
    (x2 : PySem.W.excIn K E2 [.type "ValueError", .type "Exception", .type "BaseException", .type "object"] "ValueError.__new__" = true)
    (xk2 : PySem.W.keepIn K (.ref E2) = true)
    (xs2 : PySem.W.subIn K (.ref E2) (.type "BaseException") = some true)
    (xt2 : PySem.W.typeIn K (.ref E2) = some (.type "type"))
    (xg2 : PySem.W.findIn K (.ref E2) "__getattribute__" = some (some (.builtin "BaseException.__getattribute__")))
    (xh2 : PySem.W.findIn K (.ref E2) "__getattr__" = some none)
    (xd2 : PySem.W.hasDictIn K E2 = true)
    (xa2 : PySem.W.findIn K (.ref E2) "__class__" = some (some (.builtin "object.__class__")))
    (xm2 : PySem.W.mroIn K E2 (.type "object") = some true)
    (q2_0 : PySem.W.subIn K (.ref E2) (.ref E0) = some false)
    (q2_1 : PySem.W.subIn K (.ref E2) (.ref E1) = some false)
    (q2_2 : PySem.W.subIn K (.ref E2) (.ref E2) = some true)
    (q2_3 : PySem.W.subIn K (.ref E2) (.ref E3) = some false)
    (q2_4 : PySem.W.subIn K (.ref E2) (.ref E4) = some false)
    (q2_5 : PySem.W.subIn K (.ref E2) (.ref E5) = some false)
    (q2_6 : PySem.W.subIn K (.ref E2) (.ref E6) = some false)
    (qv2 : PySem.W.subIn K (.ref E2) (.type "ValueError") = some true)
    (qw2 : PySem.W.subIn K (.ref E2) (.ref WE) = some true)
    (x3 : PySem.W.excIn K E3 [.type "ValueError", .type "Exception", .type "BaseException", .type "object"] "ValueError.__new__" = true)
    (xk3 : PySem.W.keepIn K (.ref E3) = true)
    (xs3 : PySem.W.subIn K (.ref E3) (.type "BaseException") = some true)
    (xt3 : PySem.W.typeIn K (.ref E3) = some (.type "type"))
    (xg3 : PySem.W.findIn K (.ref E3) "__getattribute__" = some (some (.builtin "BaseException.__getattribute__")))
    (xh3 : PySem.W.findIn K (.ref E3) "__getattr__" = some none)
    (xd3 : PySem.W.hasDictIn K E3 = true)
    (xa3 : PySem.W.findIn K (.ref E3) "__class__" = some (some (.builtin "object.__class__")))
    (xm3 : PySem.W.mroIn K E3 (.type "object") = some true)
    (q3_0 : PySem.W.subIn K (.ref E3) (.ref E0) = some false)
    (q3_1 : PySem.W.subIn K (.ref E3) (.ref E1) = some false)
    (q3_2 : PySem.W.subIn K (.ref E3) (.ref E2) = some false)
    (q3_3 : PySem.W.subIn K (.ref E3) (.ref E3) = some true)
    (q3_4 : PySem.W.subIn K (.ref E3) (.ref E4) = some false)
    (q3_5 : PySem.W.subIn K (.ref E3) (.ref E5) = some false)
    (q3_6 : PySem.W.subIn K (.ref E3) (.ref E6) = some false)
    (qv3 : PySem.W.subIn K (.ref E3) (.type "ValueError") = some true)
    (qw3 : PySem.W.subIn K (.ref E3) (.ref WE) = some true)
    (x4 : PySem.W.excIn K E4 [.type "ValueError", .type "Exception", .type "BaseException", .type "object"] "ValueError.__new__" = true)
    (xk4 : PySem.W.keepIn K (.ref E4) = true)
    (xs4 : PySem.W.subIn K (.ref E4) (.type "BaseException") = some true)
    (xt4 : PySem.W.typeIn K (.ref E4) = some (.type "type"))
    (xg4 : PySem.W.findIn K (.ref E4) "__getattribute__" = some (some (.builtin "BaseException.__getattribute__")))
    (xh4 : PySem.W.findIn K (.ref E4) "__getattr__" = some none)
    (xd4 : PySem.W.hasDictIn K E4 = true)
    (xa4 : PySem.W.findIn K (.ref E4) "__class__" = some (some (.builtin "object.__class__")))
    (xm4 : PySem.W.mroIn K E4 (.type "object") = some true)
    (q4_0 : PySem.W.subIn K (.ref E4) (.ref E0) = some false)
    (q4_1 : PySem.W.subIn K (.ref E4) (.ref E1) = some false)
    (q4_2 : PySem.W.subIn K (.ref E4) (.ref E2) = some false)
    (q4_3 : PySem.W.subIn K (.ref E4) (.ref E3) = some false)
    (q4_4 : PySem.W.subIn K (.ref E4) (.ref E4) = some true)
    (q4_5 : PySem.W.subIn K (.ref E4) (.ref E5) = some false)
    (q4_6 : PySem.W.subIn K (.ref E4) (.ref E6) = some false)
    (qv4 : PySem.W.subIn K (.ref E4) (.type "ValueError") = some true)
    (qw4 : PySem.W.subIn K (.ref E4) (.ref WE) = some true)
    (x5 : PySem.W.excIn K E5 [.type "ValueError", .type "Exception", .type "BaseException", .type "object"] "ValueError.__new__" = true)
    (xk5 : PySem.W.keepIn K (.ref E5) = true)
    (xs5 : PySem.W.subIn K (.ref E5) (.type "BaseException") = some true)
    (xt5 : PySem.W.typeIn K (.ref E5) = some (.type "type"))
    (xg5 : PySem.W.findIn K (.ref E5) "__getattribute__" = some (some (.builtin "BaseException.__getattribute__")))
    (xh5 : PySem.W.findIn K (.ref E5) "__getattr__" = some none)
    (xd5 : PySem.W.hasDictIn K E5 = true)
    (xa5 : PySem.W.findIn K (.ref E5) "__class__" = some (some (.builtin "object.__class__")))
    (xm5 : PySem.W.mroIn K E5 (.type "object") = some true)
    (q5_0 : PySem.W.subIn K (.ref E5) (.ref E0) = some false)
    (q5_1 : PySem.W.subIn K (.ref E5) (.ref E1) = some false)
    (q5_2 : PySem.W.subIn K (.ref E5) (.ref E2) = some false)
    (q5_3 : PySem.W.subIn K (.ref E5) (.ref E3) = some false)
    (q5_4 : PySem.W.subIn K (.ref E5) (.ref E4) = some false)
    (q5_5 : PySem.W.subIn K (.ref E5) (.ref E5) = some true)
    (q5_6 : PySem.W.subIn K (.ref E5) (.ref E6) = some false)
    (qv5 : PySem.W.subIn K (.ref E5) (.type "ValueError") = some true)
    (qw5 : PySem.W.subIn K (.ref E5) (.ref WE) = some true)
    (x6 : PySem.W.excIn K E6 [.type "ValueError", .type "Exception", .type "BaseException", .type "object"] "ValueError.__new__" = true)
    (xk6 : PySem.W.keepIn K (.ref E6) = true)
    (xs6 : PySem.W.subIn K (.ref E6) (.type "BaseException") = some true)
    (xt6 : PySem.W.typeIn K (.ref E6) = some (.type "type"))
    (xg6 : PySem.W.findIn K (.ref E6) "__getattribute__" = some (some (.builtin "BaseException.__getattribute__")))
    (xh6 : PySem.W.findIn K (.ref E6) "__getattr__" = some none)
    (xd6 : PySem.W.hasDictIn K E6 = true)
    (xa6 : PySem.W.findIn K (.ref E6) "__class__" = some (some (.builtin "object.__class__")))
    (xm6 : PySem.W.mroIn K E6 (.type "object") = some true)
    (q6_0 : PySem.W.subIn K (.ref E6) (.ref E0) = some false)
    (q6_1 : PySem.W.subIn K (.ref E6) (.ref E1) = some false)
    (q6_2 : PySem.W.subIn K (.ref E6) (.ref E2) = some false)
    (q6_3 : PySem.W.subIn K (.ref E6) (.ref E3) = some false)
    (q6_4 : PySem.W.subIn K (.ref E6) (.ref E4) = some false)
    (q6_5 : PySem.W.subIn K (.ref E6) (.ref E5) = some false)
    (q6_6 : PySem.W.subIn K (.ref E6) (.ref E6) = some true)
    (qv6 : PySem.W.subIn K (.ref E6) (.type "ValueError") = some true)
    (qw6 : PySem.W.subIn K (.ref E6) (.ref WE) = some true)
    : ∃ fd : FuncData, (∀ (s : Shared) (v : Value), BindsTo s fd ⟨[v], []⟩ [("_law_script", v)]) ∧ ∀ base : Heap, K.In base → base.Ns mainGlobals mg → FnOk l.prog w K mg base (L2.CX l.prog w) 8 fa fd ["_law_script"] (spW K 1 wLaw) := by
  have e := hfa.symm.trans (PySem.W.mg_of X Gm a21)
  cases e
  have me : ∀ {x : Str} {a : Addr}, PySem.W.nsIn K mainGlobals x = some (some (.ref a)) → mg x = some (.ref a) := fun z => PySem.W.mg_of X Gm z
  have mo : ∀ {x : Str}, PySem.W.nsIn K mainGlobals x = some none → mg x = none := fun z => PySem.W.mg_none_of X Gm z
  let G : Gn := { C := C, willErr := WE, noBox := E0, noSlot := E1, noHand := E2, noPair := E3, noWill := E4, tooMany := E5, noText := E6 }
  have M : Txt K mg G := { cl := ⟨pg, hd, po, sa⟩, n1 := n0, n2 := n1, n3 := n2, n4 := n3, n5 := n4, n6 := n5, ms := ⟨_, PySem.W.mg_of X Gm ms⟩, mb := ⟨_, PySem.W.mg_of X Gm mb⟩, len := mo b0, sorted := mo b1, isi := mo b2, all := mo b3, min := mo b4, max := mo b5, list := mo b6, int := mo b7, bool := mo b8, tuple := mo b9, range := mo b10, ve := mo bv, x1 := ⟨me aE0, x0, xk0, xs0, xt0⟩, x2 := ⟨me aE1, x1, xk1, xs1, xt1⟩, x3 := ⟨me aE2, x2, xk2, xs2, xt2⟩, x4 := ⟨me aE3, x3, xk3, xs3, xt3⟩, x5 := ⟨me aE4, x4, xk4, xs4, xt4⟩, x6 := ⟨me aE5, x5, xk5, xs5, xt5⟩, x7 := ⟨me aE6, x6, xk6, xs6, xt6⟩ }
  have ct0_ : CatV K G E0 0 := ⟨⟨xg0, xh0, xs0, xd0, xa0, hn, ht, xm0⟩, kit_ref xd0 xt0 q0_0 q0_0, kit_ref xd1 xt1 q0_1 q0_0, kit_ref xd2 xt2 q0_2 q0_0, kit_ref xd3 xt3 q0_3 q0_0, kit_ref xd4 xt4 q0_4 q0_0, kit_ref xd5 xt5 q0_5 q0_0, kit_ref xd6 xt6 q0_6 q0_0, kit_ve qv0, PySem.W.exm_ref ws wd wt qw0⟩
  have ct1_ : CatV K G E1 1 := ⟨⟨xg1, xh1, xs1, xd1, xa1, hn, ht, xm1⟩, kit_ref xd0 xt0 q1_0 q1_1, kit_ref xd1 xt1 q1_1 q1_1, kit_ref xd2 xt2 q1_2 q1_1, kit_ref xd3 xt3 q1_3 q1_1, kit_ref xd4 xt4 q1_4 q1_1, kit_ref xd5 xt5 q1_5 q1_1, kit_ref xd6 xt6 q1_6 q1_1, kit_ve qv1, PySem.W.exm_ref ws wd wt qw1⟩
  have ct2_ : CatV K G E2 2 := ⟨⟨xg2, xh2, xs2, xd2, xa2, hn, ht, xm2⟩, kit_ref xd0 xt0 q2_0 q2_2, kit_ref xd1 xt1 q2_1 q2_2, kit_ref xd2 xt2 q2_2 q2_2, kit_ref xd3 xt3 q2_3 q2_2, kit_ref xd4 xt4 q2_4 q2_2, kit_ref xd5 xt5 q2_5 q2_2, kit_ref xd6 xt6 q2_6 q2_2, kit_ve qv2, PySem.W.exm_ref ws wd wt qw2⟩
  have ct3_ : CatV K G E3 3 := ⟨⟨xg3, xh3, xs3, xd3, xa3, hn, ht, xm3⟩, kit_ref xd0 xt0 q3_0 q3_3, kit_ref xd1 xt1 q3_1 q3_3, kit_ref xd2 xt2 q3_2 q3_3, kit_ref xd3 xt3 q3_3 q3_3, kit_ref xd4 xt4 q3_4 q3_3, kit_ref xd5 xt5 q3_5 q3_3, kit_ref xd6 xt6 q3_6 q3_3, kit_ve qv3, PySem.W.exm_ref ws wd wt qw3⟩
  have ct4_ : CatV K G E4 4 := ⟨⟨xg4, xh4, xs4, xd4, xa4, hn, ht, xm4⟩, kit_ref xd0 xt0 q4_0 q4_4, kit_ref xd1 xt1 q4_1 q4_4, kit_ref xd2 xt2 q4_2 q4_4, kit_ref xd3 xt3 q4_3 q4_4, kit_ref xd4 xt4 q4_4 q4_4, kit_ref xd5 xt5 q4_5 q4_4, kit_ref xd6 xt6 q4_6 q4_4, kit_ve qv4, PySem.W.exm_ref ws wd wt qw4⟩
  have ct5_ : CatV K G E5 5 := ⟨⟨xg5, xh5, xs5, xd5, xa5, hn, ht, xm5⟩, kit_ref xd0 xt0 q5_0 q5_5, kit_ref xd1 xt1 q5_1 q5_5, kit_ref xd2 xt2 q5_2 q5_5, kit_ref xd3 xt3 q5_3 q5_5, kit_ref xd4 xt4 q5_4 q5_5, kit_ref xd5 xt5 q5_5 q5_5, kit_ref xd6 xt6 q5_6 q5_5, kit_ve qv5, PySem.W.exm_ref ws wd wt qw5⟩
  have ct6_ : CatV K G E6 6 := ⟨⟨xg6, xh6, xs6, xd6, xa6, hn, ht, xm6⟩, kit_ref xd0 xt0 q6_0 q6_6, kit_ref xd1 xt1 q6_1 q6_6, kit_ref xd2 xt2 q6_2 q6_6, kit_ref xd3 xt3 q6_3 q6_6, kit_ref xd4 xt4 q6_4 q6_6, kit_ref xd5 xt5 q6_5 q6_6, kit_ref xd6 xt6 q6_6 q6_6, kit_ve qv6, PySem.W.exm_ref ws wd wt qw6⟩
  have MC : TxtC K mg G := ⟨me aW, .inl ⟨rfl, ct0_⟩, .inr (.inl ⟨rfl, ct1_⟩), .inr (.inr (.inl ⟨rfl, ct2_⟩)), .inr (.inr (.inr (.inl ⟨rfl, ct3_⟩))), .inr (.inr (.inr (.inr (.inl ⟨rfl, ct4_⟩)))), .inr (.inr (.inr (.inr (.inr (.inl ⟨rfl, ct5_⟩))))), .inr (.inr (.inr (.inr (.inr (.inr (⟨rfl, ct6_⟩))))))⟩
  have F_m_init := fun_mk (st := sm_init) l0 c0 k0
  have b_m_init := F_m_init.binds (ps := ["self"]) fun _ _ _ _ _ _ us hl => match us, hl with | [_], _ => rfl
  have F_m_need_box := fun_mk (st := sm_need_box) l1 c1 k1
  have b_m_need_box := F_m_need_box.binds (ps := ["self", "box"]) fun _ _ _ _ _ _ us hl => match us, hl with | [_, _], _ => rfl
  have F_m_need_slot := fun_mk (st := sm_need_slot) l2 c2 k2
  have b_m_need_slot := F_m_need_slot.binds (ps := ["self", "box", "slot"]) fun _ _ _ _ _ _ us hl => match us, hl with | [_, _, _], _ => rfl
  have F_m_make := fun_mk (st := sm_make) l3 c3 k3
  have b_m_make := F_m_make.binds (ps := ["self", "size"]) fun _ _ _ _ _ _ us hl => match us, hl with | [_, _], _ => rfl
  have F_m_put := fun_mk (st := sm_put) l4 c4 k4
  have b_m_put := F_m_put.binds (ps := ["self", "box", "slot", "other", "holds"]) fun _ _ _ _ _ _ us hl => match us, hl with | [_, _, _, _, _], _ => rfl
  have F_m_empty := fun_mk (st := sm_empty) l5 c5 k5
  have b_m_empty := F_m_empty.binds (ps := ["self", "box", "slot"]) fun _ _ _ _ _ _ us hl => match us, hl with | [_, _, _], _ => rfl
  have F_m_told := fun_mk (st := sm_told) l6 c6 k6
  have b_m_told := F_m_told.binds (ps := ["self", "box", "slot"]) fun _ _ _ _ _ _ us hl => match us, hl with | [_, _, _], _ => rfl
  have F_f_law_cell_at := fun_mk (st := sf_law_cell_at) l7 c7 k7
  have b_f_law_cell_at := F_f_law_cell_at.binds (ps := ["_law_script", "_law_k"]) fun _ _ _ _ _ _ us hl => match us, hl with | [_, _], _ => rfl
  have F_f_law_whole := fun_mk (st := sf_law_whole) l8 c8 k8
  have b_f_law_whole := F_f_law_whole.binds (ps := ["_law_found"]) fun _ _ _ _ _ _ us hl => match us, hl with | [_], _ => rfl
  have F_f_law_mixed := fun_mk (st := sf_law_mixed) l9 c9 k9
  have b_f_law_mixed := F_f_law_mixed.binds (ps := ["_law_cell", "_law_k", "_law_many"]) fun _ _ _ _ _ _ us hl => match us, hl with | [_, _, _], _ => rfl
  have F_f_law_class := fun_mk (st := sf_law_class) l10 c10 k10
  have b_f_law_class := F_f_law_class.binds (ps := ["_law_e"]) fun _ _ _ _ _ _ us hl => match us, hl with | [_], _ => rfl
  have F_f_law_world := fun_mk (st := sf_law_world) l11 c11 k11
  have b_f_law_world := F_f_law_world.binds (ps := []) fun _ _ _ _ _ _ us hl => match us, hl with | [], _ => rfl
  have F_f_law_no_slot := fun_mk (st := sf_law_no_slot) l12 c12 k12
  have b_f_law_no_slot := F_f_law_no_slot.binds (ps := ["_law_world_here", "_law_box", "_law_slot"]) fun _ _ _ _ _ _ us hl => match us, hl with | [_, _, _], _ => rfl
  have F_f_law_made := fun_mk (st := sf_law_made) l13 c13 k13
  have b_f_law_made := F_f_law_made.binds (ps := ["_law_world_here", "_law_size"]) fun _ _ _ _ _ _ us hl => match us, hl with | [_, _], _ => rfl
  have F_f_law_put_by := fun_mk (st := sf_law_put_by) l14 c14 k14
  have b_f_law_put_by := F_f_law_put_by.binds (ps := ["_law_world_here", "_law_deed"]) fun _ _ _ _ _ _ us hl => match us, hl with | [_, _], _ => rfl
  have F_f_law_done_by := fun_mk (st := sf_law_done_by) l15 c15 k15
  have b_f_law_done_by := F_f_law_done_by.binds (ps := ["_law_world_here", "_law_deed"]) fun _ _ _ _ _ _ us hl => match us, hl with | [_, _], _ => rfl
  have F_f_law_told := fun_mk (st := sf_law_told) l16 c16 k16
  have b_f_law_told := F_f_law_told.binds (ps := ["_law_chest", "_law_deed"]) fun _ _ _ _ _ _ us hl => match us, hl with | [_, _], _ => rfl
  have F_f_law_word := fun_mk (st := sf_law_word) l17 c17 k17
  have b_f_law_word := F_f_law_word.binds (ps := ["_law_chest", "_law_deed"]) fun _ _ _ _ _ _ us hl => match us, hl with | [_, _], _ => rfl
  have F_f_law_step := fun_mk (st := sf_law_step) l18 c18 k18
  have b_f_law_step := F_f_law_step.binds (ps := ["_law_chest", "_law_world_here", "_law_deed"]) fun _ _ _ _ _ _ us hl => match us, hl with | [_, _, _], _ => rfl
  have F_f_law_slot_is := fun_mk (st := sf_law_slot_is) l19 c19 k19
  have b_f_law_slot_is := F_f_law_slot_is.binds (ps := ["_law_found", "_law_due"]) fun _ _ _ _ _ _ us hl => match us, hl with | [_, _], _ => rfl
  have F_f_law_slots_are := fun_mk (st := sf_law_slots_are) l20 c20 k20
  have b_f_law_slots_are := F_f_law_slots_are.binds (ps := ["_law_chest", "_law_world_here", "_law_box"]) fun _ _ _ _ _ _ us hl => match us, hl with | [_, _, _], _ => rfl
  have F_f_law := fun_mk (st := sf_law) l21 c21 k21
  refine ⟨PySem.W.fnOf "law" "law" (defArgs sf_law) (defBody sf_law) (defScope sf_law) .none kV21 dc21 pm21 an21 cd21 ct21, fun s v => .of_eq rfl, fun base _ _ => ?_⟩
  have d_m_need_box : MetOk l.prog w K mg base G.C "need_box" 1 2 (wNeedBox G) := ⟨_, _, _, ok_need_box M F_m_need_box, ⟨a1, i1, k1⟩, M.cl, b_m_need_box⟩
  have MK : MkOk l.prog w K mg base G := ⟨_, _, ⟨mk, a0, i0, kc⟩, ok_init M F_m_init, b_m_init, me aC⟩
  have d_m_need_slot : MetOk l.prog w K mg base G.C "need_slot" 2 3 (wNeedSlot G) := ⟨_, _, _, ok_need_slot M F_m_need_slot d_m_need_box, ⟨a2, i2, k2⟩, M.cl, b_m_need_slot⟩
  have d_m_make : MetOk l.prog w K mg base G.C "make" 1 2 (wMake G) := ⟨_, _, _, ok_make M F_m_make, ⟨a3, i3, k3⟩, M.cl, b_m_make⟩
  have d_m_put : MetOk l.prog w K mg base G.C "put" 3 5 (wPut G) := ⟨_, _, _, ok_put M F_m_put d_m_need_slot d_m_need_box, ⟨a4, i4, k4⟩, M.cl, b_m_put⟩
  have d_m_empty : MetOk l.prog w K mg base G.C "empty" 3 3 (wEmpty G) := ⟨_, _, _, ok_empty M F_m_empty d_m_need_slot, ⟨a5, i5, k5⟩, M.cl, b_m_empty⟩
  have d_m_told : MetOk l.prog w K mg base G.C "told" 3 3 (wTold G) := ⟨_, _, _, ok_told M F_m_told d_m_need_slot, ⟨a6, i6, k6⟩, M.cl, b_m_told⟩
  have d_f_law_cell_at : DefOk l.prog w K mg base "_law_cell_at" 1 2 (wCellAt) := ⟨_, _, _, ok_cell_at M F_f_law_cell_at, me a7, k7, b_f_law_cell_at⟩
  have d_f_law_whole : DefOk l.prog w K mg base "_law_whole" 1 1 (wWhole) := ⟨_, _, _, ok_whole M F_f_law_whole, me a8, k8, b_f_law_whole⟩
  have d_f_law_mixed : DefOk l.prog w K mg base "_law_mixed" 1 3 (wMixed) := ⟨_, _, _, ok_mixed M F_f_law_mixed, me a9, k9, b_f_law_mixed⟩
  have d_f_law_class : DefW l.prog w K mg base "_law_class" 1 (Cat K G) := ⟨_, _, _, ok_class M F_f_law_class, me a10, k10, b_f_law_class⟩
  have d_f_law_world : DefOk l.prog w K mg base "_law_world" 1 0 (wWorld) := ⟨_, _, _, ok_world M F_f_law_world, me a11, k11, b_f_law_world⟩
  have d_f_law_no_slot : DefOk l.prog w K mg base "_law_no_slot" 1 3 (wNoSlot) := ⟨_, _, _, ok_no_slot M F_f_law_no_slot, me a12, k12, b_f_law_no_slot⟩
  have d_f_law_made : DefOk l.prog w K mg base "_law_made" 1 2 (wMadeW) := ⟨_, _, _, ok_madeW M F_f_law_made, me a13, k13, b_f_law_made⟩
  have d_f_law_put_by : DefOk l.prog w K mg base "_law_put_by" 2 2 (wPutBy) := ⟨_, _, _, ok_put_by M F_f_law_put_by d_f_law_no_slot, me a14, k14, b_f_law_put_by⟩
  have d_f_law_done_by : DefOk l.prog w K mg base "_law_done_by" 3 2 (wDone) := ⟨_, _, _, ok_done_by M F_f_law_done_by d_f_law_made d_f_law_put_by, me a15, k15, b_f_law_done_by⟩
  have d_f_law_told : DefOk l.prog w K mg base "_law_told" 4 2 (wToldD G) := ⟨_, _, _, ok_toldD M F_f_law_told d_m_make d_m_put d_m_empty, me a16, k16, b_f_law_told⟩
  have d_f_law_word : DefOk l.prog w K mg base "_law_word" 5 2 (wWord G) := ⟨_, _, _, ok_word M MC F_f_law_word d_f_law_told d_f_law_class, me a17, k17, b_f_law_word⟩
  have d_f_law_step : DefOk l.prog w K mg base "_law_step" 6 3 (wStep G) := ⟨_, _, _, ok_step M F_f_law_step d_f_law_whole d_f_law_word d_f_law_done_by, me a18, k18, b_f_law_step⟩
  have d_f_law_slot_is : DefOk l.prog w K mg base "_law_slot_is" 2 2 (wSlotIs) := ⟨_, _, _, ok_slot_is M F_f_law_slot_is d_f_law_whole, me a19, k19, b_f_law_slot_is⟩
  have d_f_law_slots_are : DefOk l.prog w K mg base "_law_slots_are" 4 3 (wSlotsAre G) := ⟨_, _, _, ok_slots_are M F_f_law_slots_are d_f_law_slot_is d_m_told, me a20, k20, b_f_law_slots_are⟩
  exact ok_law M F_f_law MK d_f_law_cell_at d_f_law_mixed d_f_law_world d_f_law_step d_f_law_slots_are
theorem no_ends {P : Program} {w : World} {H : Hp} {s : Shared} {e : Value} {s' : Shared} (h : L2.CX P w [] H s (fun _ _ _ => False) e s') : False := by
  obtain ⟨_, _, _, _, _, _, _, _, _, _, _, _, z⟩ := h
  exact z
theorem start_law {K : PySem.W.Frag} {H : Hp} {a : Addr} {ns : List Int} (hl : ns.length ≤ 63) (hS : SqL K H a (ns.map V.int)) : spW K 1 wLaw [.ref a] H (fun v _ => v = .bl true) fun _ _ _ => False := by
  refine ⟨⟨fun _ => none, fun _ => False, fun _ => none⟩, [], [], [], [], fun _ => none, fun k => if k = 0 then H else fun _ => none, [(a, .scr ns)], [.obj a], fun d _ => d = .bl true, fun _ _ => False, ?_, ⟨_, [], rfl, rfl, rfl⟩, rfl, rfl, ⟨a, ns, rfl, rfl, hl, fun _ => rfl⟩, ?_, fun _ _ _ h => h.elim⟩
  · refine ⟨fun b o h => (by cases h), fun k b o h => ?_, fun _ _ _ => rfl, fun j k b n h => ?_, fun k b o h => ?_, ⟨rfl, fun i d q => by simp at q⟩, rfl, fun b o h => (by cases h), fun b o h => (by cases h), fun _ _ _ => rfl, fun b h => absurd rfl h⟩
    · by_cases e : k = 0
      · simp only [e, if_true] at h; exact h
      · simp only [e, if_false] at h; cases h
    · by_cases e : k = 0
      · have : j ≠ 0 := fun z => n (by rw [z, e])
        simp only [this, if_false] at h
        exact absurd rfl h
      · simp only [e, if_false]
    · cases k with
      | zero =>
        simp at h
        obtain ⟨rfl, rfl⟩ := h
        exact hS
      | succ k => simp at h
  · rintro d ρ' v H' rfl ⟨S, T, s⟩
    exact s.tmp.hd
theorem walk {l : PySem.W.OpenLaw} {q : Program} {loose : List Str} {XP : (Str → Option Value) → Heap → Prop} {YP : World → Heap → Prop} {d : DefRec} {K : Params → PySem.W.Frag} (hn : l.most = some 63) (hdf : d.params.defaults = [])
    (hY : ∀ (w : World) (h : Heap), YP w h → (K w.params).In h)
    (F : ∀ (w : World) (mg : Str → Option Value) (fa : Addr) (h : Heap), (K w.params).In h → h.Ns mainGlobals mg → mg d.name = some (.ref fa) →
      ∃ fd : FuncData, (∀ (s : Shared) (u : Value), BindsTo s fd ⟨[u], []⟩ [("_law_script", u)]) ∧ ∀ base : Heap, (K w.params).In base → base.Ns mainGlobals mg → FnOk l.prog w (K w.params) mg base (L2.CX l.prog w) 8 fa fd ["_law_script"] (spW (K w.params) 1 wLaw)) :
    PySem.W.WalkO q loose XP YP l.row.toRowW d [] (fun f vs => PySem.call f vs) :=
  L2.walk_of (n := 63) (k := 8) (x := "_law_script") (CX := fun w => L2.CX l.prog w) (sp := fun w => spW (K w.params) 1 wLaw) hn (by decide) hdf ⟨rfl, by decide, by decide⟩ hY F (fun _ _ a ns hl _ hS => start_law hl hS) fun _ _ _ _ _ z => no_ends z
end Lw

open PySem PySem.W PyProof.Rows
set_option maxRecDepth 100000 in
set_option maxHeartbeats 0 in
theorem PySem.Challenge.cw_lastwill_k02_slots_holds : PySem.Challenge.rw_lastwill_k02_slots.Holds := by
  w_on; o_law; k_head; (case hw => w_witness2)
  k_fill
  refine Lw.walk (l := PySem.Challenge.rw_lastwill_k02_slots) rfl rfl (fun w h Y => PySem.W.kIn_of Y) ?F
  case F =>
    intro w mg fa h KX Gm hmg
    refine' Lw.all_mk KX Gm hmg ?aC ?aW ?aE0 ?aE1 ?aE2 ?aE3 ?aE4 ?aE5 ?aE6 ?a0 ?i0 ?l0 ?c0 ?k0 ?a1 ?i1 ?l1 ?c1 ?k1 ?a2 ?i2 ?l2 ?c2 ?k2 ?a3 ?i3 ?l3 ?c3 ?k3 ?a4 ?i4 ?l4 ?c4 ?k4 ?a5 ?i5 ?l5 ?c5 ?k5 ?a6 ?i6 ?l6 ?c6 ?k6 ?a7 ?l7 ?c7 ?k7 ?a8 ?l8 ?c8 ?k8 ?a9 ?l9 ?c9 ?k9 ?a10 ?l10 ?c10 ?k10 ?a11 ?l11 ?c11 ?k11 ?a12 ?l12 ?c12 ?k12 ?a13 ?l13 ?c13 ?k13 ?a14 ?l14 ?c14 ?k14 ?a15 ?l15 ?c15 ?k15 ?a16 ?l16 ?c16 ?k16 ?a17 ?l17 ?c17 ?k17 ?a18 ?l18 ?c18 ?k18 ?a19 ?l19 ?c19 ?k19 ?a20 ?l20 ?c20 ?k20 ?a21 ?l21 ?c21 ?k21 ?pg ?hd ?po ?sa ?mk ?kc ?n0 ?n1 ?n2 ?n3 ?n4 ?n5 ?b0 ?b1 ?b2 ?b3 ?b4 ?b5 ?b6 ?b7 ?b8 ?b9 ?b10 ?bv ?ms ?mb ?ws ?wd ?wt ?hn ?ht ?x0 ?xk0 ?xs0 ?xt0 ?xg0 ?xh0 ?xd0 ?xa0 ?xm0 ?q0_0 ?q0_1 ?q0_2 ?q0_3 ?q0_4 ?q0_5 ?q0_6 ?qv0 ?qw0 ?x1 ?xk1 ?xs1 ?xt1 ?xg1 ?xh1 ?xd1 ?xa1 ?xm1 ?q1_0 ?q1_1 ?q1_2 ?q1_3 ?q1_4 ?q1_5 ?q1_6 ?qv1 ?qw1 ?x2 ?xk2 ?xs2 ?xt2 ?xg2 ?xh2 ?xd2 ?xa2 ?xm2 ?q2_0 ?q2_1 ?q2_2 ?q2_3 ?q2_4 ?q2_5 ?q2_6 ?qv2 ?qw2 ?x3 ?xk3 ?xs3 ?xt3 ?xg3 ?xh3 ?xd3 ?xa3 ?xm3 ?q3_0 ?q3_1 ?q3_2 ?q3_3 ?q3_4 ?q3_5 ?q3_6 ?qv3 ?qw3 ?x4 ?xk4 ?xs4 ?xt4 ?xg4 ?xh4 ?xd4 ?xa4 ?xm4 ?q4_0 ?q4_1 ?q4_2 ?q4_3 ?q4_4 ?q4_5 ?q4_6 ?qv4 ?qw4 ?x5 ?xk5 ?xs5 ?xt5 ?xg5 ?xh5 ?xd5 ?xa5 ?xm5 ?q5_0 ?q5_1 ?q5_2 ?q5_3 ?q5_4 ?q5_5 ?q5_6 ?qv5 ?qw5 ?x6 ?xk6 ?xs6 ?xt6 ?xg6 ?xh6 ?xd6 ?xa6 ?xm6 ?q6_0 ?q6_1 ?q6_2 ?q6_3 ?q6_4 ?q6_5 ?q6_6 ?qv6 ?qw6
    (case aC => k_is); (case aW => k_is); (case aE0 => k_is); (case aE1 => k_is); (case aE2 => k_is); (case aE3 => k_is)
    (case aE4 => k_is); (case aE5 => k_is); (case aE6 => k_is); (case a0 => k_is); (case i0 => k_is); (case l0 => k_is)
    (case c0 => k_is); (case k0 => k_is); (case a1 => k_is); (case i1 => k_is); (case l1 => k_is); (case c1 => k_is)
    (case k1 => k_is); (case a2 => k_is); (case i2 => k_is); (case l2 => k_is); (case c2 => k_is); (case k2 => k_is)
    (case a3 => k_is); (case i3 => k_is); (case l3 => k_is); (case c3 => k_is); (case k3 => k_is); (case a4 => k_is)
    (case i4 => k_is); (case l4 => k_is); (case c4 => k_is); (case k4 => k_is); (case a5 => k_is); (case i5 => k_is)
    (case l5 => k_is); (case c5 => k_is); (case k5 => k_is); (case a6 => k_is); (case i6 => k_is); (case l6 => k_is)
    (case c6 => k_is); (case k6 => k_is); (case a7 => k_is); (case l7 => k_is); (case c7 => k_is); (case k7 => k_is)
    (case a8 => k_is); (case l8 => k_is); (case c8 => k_is); (case k8 => k_is); (case a9 => k_is); (case l9 => k_is)
    (case c9 => k_is); (case k9 => k_is); (case a10 => k_is); (case l10 => k_is); (case c10 => k_is); (case k10 => k_is)
    (case a11 => k_is); (case l11 => k_is); (case c11 => k_is); (case k11 => k_is); (case a12 => k_is); (case l12 => k_is)
    (case c12 => k_is); (case k12 => k_is); (case a13 => k_is); (case l13 => k_is); (case c13 => k_is); (case k13 => k_is)
    (case a14 => k_is); (case l14 => k_is); (case c14 => k_is); (case k14 => k_is); (case a15 => k_is); (case l15 => k_is)
    (case c15 => k_is); (case k15 => k_is); (case a16 => k_is); (case l16 => k_is); (case c16 => k_is); (case k16 => k_is)
    (case a17 => k_is); (case l17 => k_is); (case c17 => k_is); (case k17 => k_is); (case a18 => k_is); (case l18 => k_is)
    (case c18 => k_is); (case k18 => k_is); (case a19 => k_is); (case l19 => k_is); (case c19 => k_is); (case k19 => k_is)
    (case a20 => k_is); (case l20 => k_is); (case c20 => k_is); (case k20 => k_is); (case a21 => k_is); (case l21 => k_is)
    (case c21 => k_is); (case k21 => k_is); (case pg => k_is); (case hd => k_is); (case po => k_is); (case sa => k_is)
    (case mk => k_is); (case kc => k_is); (case n0 => k_is); (case n1 => k_is); (case n2 => k_is); (case n3 => k_is)
    (case n4 => k_is); (case n5 => k_is); (case b0 => k_is); (case b1 => k_is); (case b2 => k_is); (case b3 => k_is)
    (case b4 => k_is); (case b5 => k_is); (case b6 => k_is); (case b7 => k_is); (case b8 => k_is); (case b9 => k_is)
    (case b10 => k_is); (case bv => k_is); (case ms => k_is); (case mb => k_is); (case ws => k_is); (case wd => k_is)
    (case wt => k_is); (case hn => k_is); (case ht => k_is); (case x0 => k_exc); (case xk0 => k_is); (case xs0 => k_is)
    (case xt0 => k_is); (case xg0 => k_is); (case xh0 => k_is); (case xd0 => k_is); (case xa0 => k_is); (case xm0 => k_is)
    (case q0_0 => k_is); (case q0_1 => k_is); (case q0_2 => k_is); (case q0_3 => k_is); (case q0_4 => k_is); (case q0_5 => k_is)
    (case q0_6 => k_is); (case qv0 => k_is); (case qw0 => k_is); (case x1 => k_exc); (case xk1 => k_is); (case xs1 => k_is)
    (case xt1 => k_is); (case xg1 => k_is); (case xh1 => k_is); (case xd1 => k_is); (case xa1 => k_is); (case xm1 => k_is)
    (case q1_0 => k_is); (case q1_1 => k_is); (case q1_2 => k_is); (case q1_3 => k_is); (case q1_4 => k_is); (case q1_5 => k_is)
    (case q1_6 => k_is); (case qv1 => k_is); (case qw1 => k_is); (case x2 => k_exc); (case xk2 => k_is); (case xs2 => k_is)
    (case xt2 => k_is); (case xg2 => k_is); (case xh2 => k_is); (case xd2 => k_is); (case xa2 => k_is); (case xm2 => k_is)
    (case q2_0 => k_is); (case q2_1 => k_is); (case q2_2 => k_is); (case q2_3 => k_is); (case q2_4 => k_is); (case q2_5 => k_is)
    (case q2_6 => k_is); (case qv2 => k_is); (case qw2 => k_is); (case x3 => k_exc); (case xk3 => k_is); (case xs3 => k_is)
    (case xt3 => k_is); (case xg3 => k_is); (case xh3 => k_is); (case xd3 => k_is); (case xa3 => k_is); (case xm3 => k_is)
    (case q3_0 => k_is); (case q3_1 => k_is); (case q3_2 => k_is); (case q3_3 => k_is); (case q3_4 => k_is); (case q3_5 => k_is)
    (case q3_6 => k_is); (case qv3 => k_is); (case qw3 => k_is); (case x4 => k_exc); (case xk4 => k_is); (case xs4 => k_is)
    (case xt4 => k_is); (case xg4 => k_is); (case xh4 => k_is); (case xd4 => k_is); (case xa4 => k_is); (case xm4 => k_is)
    (case q4_0 => k_is); (case q4_1 => k_is); (case q4_2 => k_is); (case q4_3 => k_is); (case q4_4 => k_is); (case q4_5 => k_is)
    (case q4_6 => k_is); (case qv4 => k_is); (case qw4 => k_is); (case x5 => k_exc); (case xk5 => k_is); (case xs5 => k_is)
    (case xt5 => k_is); (case xg5 => k_is); (case xh5 => k_is); (case xd5 => k_is); (case xa5 => k_is); (case xm5 => k_is)
    (case q5_0 => k_is); (case q5_1 => k_is); (case q5_2 => k_is); (case q5_3 => k_is); (case q5_4 => k_is); (case q5_5 => k_is)
    (case q5_6 => k_is); (case qv5 => k_is); (case qw5 => k_is); (case x6 => k_exc); (case xk6 => k_is); (case xs6 => k_is)
    (case xt6 => k_is); (case xg6 => k_is); (case xh6 => k_is); (case xd6 => k_is); (case xa6 => k_is); (case xm6 => k_is)
    (case q6_0 => k_is); (case q6_1 => k_is); (case q6_2 => k_is); (case q6_3 => k_is); (case q6_4 => k_is); (case q6_5 => k_is)
    (case q6_6 => k_is); (case qv6 => k_is); (case qw6 => k_is)
