import PyProof.Rows.All
import Wide.All
import OpenK.AllK
import Wide.FinOn
import HandS.ForMost
import HandS.ForExc
import HandS.More
import HandS.CallSlots
import HandS.WideBits
import HandS.IsInst
import HandS.ExcIs
import HandS.SortInts
import HandS.Wide
import HandS.TupAny
import HandS.TupMul
import HandS.SetFor
import HandS.HotCalls
import HandS.Style
import HandS.Sort
import HandS.Conv
import PySem.Challenge.RW_lastwill_k06_lost
set_option Elab.async false
set_option linter.all false
set_option maxRecDepth 100000
set_option maxHeartbeats 4000000
/-! Trees, what represents them. -/
namespace Vt
open PySem L2

/-! ### parts of a heap -/
def hnil : Hp := fun _ => none
def join (F G : Hp) : Hp := fun a => (F a).or (G a)
def Dj (F G : Hp) : Prop := ∀ a, F a ≠ none → G a = none
def Ex (H H' : Hp) : Prop := ∀ a o, H a = some o → H' a = some o
def one (p : Addr) (u : HO) : Hp := fun b => if b = p then some u else none
theorem Ex.refl (H : Hp) : Ex H H := fun _ _ h => h
theorem Ex.trans {H H1 H2 : Hp} (a : Ex H H1) (b : Ex H1 H2) : Ex H H2 := fun x o h => b x o (a x o h)
theorem Ex.nil {H : Hp} : Ex hnil H := fun _ _ h => nomatch h
theorem Ex.free {H H' : Hp} {p : Addr} (e : Ex H H') (h : H' p = none) : H p = none := by
  cases q : H p with
  | none => rfl
  | some o => rw [e p o q] at h; cases h
theorem Ex.new {H H' : Hp} {p : Addr} {o : HO} (e : Ex H H') (h : H' p = none) : Ex H (upd H' p o) := fun a u ha => by
  rw [upd_ne (fun z => by subst z; rw [e a u ha] at h; cases h)]
  exact e a u ha
theorem ne_none {α : Type} {o : Option α} {x : α} (h : o = some x) : o ≠ none := by rw [h]; simp
theorem join_l {F G : Hp} {a : Addr} {o : HO} (h : F a = some o) : join F G a = some o := by unfold join; rw [h]; rfl
theorem join_r {F G : Hp} {a : Addr} (h : F a = none) : join F G a = G a := by unfold join; rw [h]; rfl
theorem Ex.l {F G : Hp} : Ex F (join F G) := fun a o h => join_l h
theorem Dj.symm {F G : Hp} (d : Dj F G) : Dj G F := fun a h => by
  cases q : F a with
  | none => rfl
  | some o => exact absurd (d a (ne_none q)) h
theorem Ex.r {F G : Hp} (d : Dj F G) : Ex G (join F G) := fun a o h => by
  rw [join_r (d.symm a (ne_none h))]; exact h
theorem join_none {F G : Hp} {a : Addr} (h : F a = none) (k : G a = none) : join F G a = none := by rw [join_r h]; exact k
theorem join_cases {F G : Hp} {a : Addr} {o : HO} (h : join F G a = some o) : F a = some o ∨ (F a = none ∧ G a = some o) := by
  cases q : F a with
  | none => rw [join_r q] at h; exact .inr ⟨rfl, h⟩
  | some u => rw [join_l q] at h; exact .inl h
theorem join_ne {F G : Hp} {a : Addr} (h : join F G a ≠ none) : F a ≠ none ∨ G a ≠ none := by
  cases q : F a with
  | none => rw [join_r q] at h; exact .inr h
  | some u => exact .inl (by simp)
theorem nil_join {F : Hp} : join hnil F = F := rfl
theorem join_nil {F : Hp} : join F hnil = F := by
  funext a; unfold join hnil; cases F a <;> rfl
theorem join_assoc {F G K : Hp} : join (join F G) K = join F (join G K) := by
  funext a; unfold join; cases F a <;> cases G a <;> rfl
theorem join_comm {F G : Hp} (d : Dj F G) : join F G = join G F := by
  funext a; unfold join
  cases q : F a with
  | none => cases G a <;> rfl
  | some o => rw [d a (ne_none q)]; rfl
theorem Dj.nil {F : Hp} : Dj hnil F := fun a h => absurd rfl h
theorem Dj.nil' {F : Hp} : Dj F hnil := fun a h => rfl
theorem Dj.jl {F G K : Hp} (a : Dj F K) (b : Dj G K) : Dj (join F G) K := fun x h => (join_ne h).elim (a x) (b x)
theorem Dj.jr {F G K : Hp} (a : Dj K F) (b : Dj K G) : Dj K (join F G) := fun x h => join_none (a x h) (b x h)
theorem Dj.l {F G K : Hp} (a : Dj (join F G) K) : Dj F K := fun x h => a x (by cases q : F x with | none => exact absurd q h | some o => rw [join_l q]; simp)
theorem Dj.r {F G K : Hp} (a : Dj (join F G) K) : Dj G K := fun x h => a x (by
  cases q : F x with
  | none => rw [join_r q]; exact h
  | some o => rw [join_l q]; simp)
theorem Dj.of {F F' G G' : Hp} (d : Dj F G) (a : ∀ x, F' x ≠ none → F x ≠ none) (b : ∀ x, G x = none → G' x = none) : Dj F' G' := fun x h => b x (d x (a x h))
theorem Dj.exl {F F' G : Hp} (d : Dj F G) (e : Ex F' F) : Dj F' G := fun x h => d x (by
  cases q : F' x with
  | none => exact absurd q h
  | some o => rw [e x o q]; simp)
theorem Dj.exr {F G G' : Hp} (d : Dj F G) (e : Ex G' G) : Dj F G' := fun x h => e.free (d x h)
theorem Ex.join {F G H : Hp} (a : Ex F H) (b : Ex G H) : Ex (join F G) H := fun x o h => (join_cases h).elim (a x o) fun h => b x o h.2
theorem Ex.ofl {F G H : Hp} (a : Ex (Vt.join F G) H) : Ex F H := Ex.l.trans a
theorem Ex.ofr {F G H : Hp} (d : Dj F G) (a : Ex (Vt.join F G) H) : Ex G H := (Ex.r d).trans a
theorem Ex.jl {F F' G : Hp} (a : Ex F F') (d : Dj F' G) : Ex (Vt.join F G) (Vt.join F' G) := Ex.join (a.trans Ex.l) (Ex.r d)
theorem one_same {p : Addr} {u : HO} : one p u p = some u := if_pos rfl
theorem one_ne {p b : Addr} {u : HO} (h : one p u b ≠ none) : b = p := by
  unfold one at h
  by_cases e : b = p
  · exact e
  · rw [if_neg e] at h; exact absurd rfl h
theorem one_some {p b : Addr} {u o : HO} (h : one p u b = some o) : b = p ∧ o = u := by
  have e := one_ne (ne_none h)
  subst e
  rw [one_same] at h
  exact ⟨rfl, (Option.some.inj h).symm⟩
theorem Dj.one {p : Addr} {u : HO} {F : Hp} (h : F p = none) : Dj (one p u) F := fun a z => by rw [one_ne z]; exact h
theorem Dj.one_at {p : Addr} {u : HO} {F : Hp} (d : Dj (Vt.one p u) F) : F p = none := d p (by rw [one_same]; simp)
theorem Ex.one {p : Addr} {u : HO} {H : Hp} (h : H p = some u) : Ex (one p u) H := fun a o z => by
  obtain ⟨rfl, rfl⟩ := one_some z
  exact h
/-! ### tables -/
section
variable {κ α : Type} [DecidableEq κ]
def gGet (l : List (κ × α)) (k : κ) : Option α := (l.find? fun p => decide (p.1 = k)).map (·.2)
def gPut (l : List (κ × α)) (k : κ) (v : α) : List (κ × α) :=
  if (l.any fun p => decide (p.1 = k)) = true then l.map (fun p => if p.1 = k then (p.1, v) else p) else l ++ [(k, v)]
def gDrop (l : List (κ × α)) (k : κ) : List (κ × α) := l.filter fun p => decide (p.1 ≠ k)
variable {l : List (κ × α)} {k j : κ} {v u : α}
theorem gGet_nil : gGet ([] : List (κ × α)) k = none := rfl
theorem gGet_pos {p : κ × α} {r : List (κ × α)} (e : p.1 = k) : gGet (p :: r) k = some p.2 := by simp [gGet, e]
theorem gGet_neg {p : κ × α} {r : List (κ × α)} (e : ¬ p.1 = k) : gGet (p :: r) k = gGet r k := by simp [gGet, e]
theorem gGet_at : ∀ {l : List (κ × α)}, gGet l k = some v → ∃ i : Nat, l[i]? = some (k, v)
  | [], h => nomatch h
  | p :: r, h => by
    by_cases e : p.1 = k
    · rw [gGet_pos e] at h
      obtain ⟨p1, p2⟩ := p
      simp at e h
      subst e h
      exact ⟨0, rfl⟩
    · rw [gGet_neg e] at h
      obtain ⟨i, hi⟩ := gGet_at h
      exact ⟨i + 1, by simpa using hi⟩
theorem gGet_none : ∀ {l : List (κ × α)}, gGet l k = none ↔ k ∉ l.map (·.1)
  | [] => by simp [gGet]
  | p :: r => by
    by_cases e : p.1 = k
    · rw [gGet_pos e]; simp [e]
    · rw [gGet_neg e, List.map_cons, List.mem_cons, gGet_none (l := r)]
      exact ⟨fun h z => z.elim (fun z => e z.symm) h, fun h z => h (.inr z)⟩
theorem gAny : (l.any fun p => decide (p.1 = k)) = true ↔ k ∈ l.map (·.1) := by
  rw [List.any_eq_true, List.mem_map]
  exact ⟨fun ⟨x, a, b⟩ => ⟨x, a, by simpa using b⟩, fun ⟨x, a, b⟩ => ⟨x, a, by simpa using b⟩⟩
theorem gPut_new (h : k ∉ l.map (·.1)) : gPut l k v = l ++ [(k, v)] := by
  unfold gPut; rw [if_neg (fun z => h (gAny.mp z))]
theorem gPut_cons_pos {p : κ × α} {r : List (κ × α)} (e : p.1 = k) (h : k ∉ r.map (·.1)) : gPut (p :: r) k v = (k, v) :: r := by
  unfold gPut
  rw [if_pos (by simp [e]), List.map_cons, if_pos e, e]
  congr 1
  conv => rhs; rw [← List.map_id r]
  refine List.map_congr_left fun x hx => ?_
  rw [if_neg]; rfl
  intro z; exact h (List.mem_map.mpr ⟨x, hx, z⟩)
theorem gPut_cons_neg {p : κ × α} {r : List (κ × α)} (e : ¬ p.1 = k) : gPut (p :: r) k v = p :: gPut r k v := by
  unfold gPut
  by_cases h : (r.any fun p => decide (p.1 = k)) = true
  · rw [if_pos (by simp [h]), if_pos h, List.map_cons, if_neg e]
  · rw [if_neg (by simp only [List.any_cons, Bool.or_eq_true, decide_eq_true_eq]; exact fun z => z.elim e h), if_neg h]; rfl
theorem gPut_set : ∀ {l : List (κ × α)} {i : Nat}, (l.map (·.1)).Nodup → l[i]? = some (k, u) → gPut l k v = l.set i (k, v)
  | [], i, _, h => by simp at h
  | p :: r, 0, n, h => by
    simp at h; subst h
    rw [List.map_cons, List.nodup_cons] at n
    rw [gPut_cons_pos rfl n.1]; rfl
  | p :: r, i + 1, n, h => by
    have h' : r[i]? = some (k, u) := by simpa using h
    rw [List.map_cons, List.nodup_cons] at n
    have e : ¬ p.1 = k := fun z => n.1 (by rw [z]; exact List.mem_map.mpr ⟨_, List.mem_of_getElem? h', rfl⟩)
    rw [gPut_cons_neg e, gPut_set n.2 h']; rfl
theorem gGet_of : ∀ {l : List (κ × α)} {i : Nat}, (l.map (·.1)).Nodup → l[i]? = some (k, u) → gGet l k = some u
  | [], i, _, h => by simp at h
  | p :: r, 0, n, h => by
    simp at h; subst h
    rw [gGet_pos rfl]
  | p :: r, i + 1, n, h => by
    have h' : r[i]? = some (k, u) := by simpa using h
    rw [List.map_cons, List.nodup_cons] at n
    have e : ¬ p.1 = k := fun z => n.1 (by rw [z]; exact List.mem_map.mpr ⟨_, List.mem_of_getElem? h', rfl⟩)
    rw [gGet_neg e, gGet_of n.2 h']
theorem gDrop_new (h : k ∉ l.map (·.1)) : gDrop l k = l := by
  unfold gDrop
  rw [List.filter_eq_self]
  intro x hx
  simp only [ne_eq, decide_not, Bool.not_eq_true', decide_eq_false_iff_not]
  exact fun z => h (List.mem_map.mpr ⟨x, hx, z⟩)
theorem gDrop_erase : ∀ {l : List (κ × α)} {i : Nat}, (l.map (·.1)).Nodup → l[i]? = some (k, u) → gDrop l k = l.eraseIdx i
  | [], i, _, h => by simp at h
  | p :: r, 0, n, h => by
    simp at h; subst h
    rw [List.map_cons, List.nodup_cons] at n
    have := gDrop_new (l := r) n.1
    unfold gDrop at this ⊢
    rw [List.filter_cons_of_neg (by simp), this]; rfl
  | p :: r, i + 1, n, h => by
    have h' : r[i]? = some (k, u) := by simpa using h
    rw [List.map_cons, List.nodup_cons] at n
    have e : ¬ p.1 = k := fun z => n.1 (by rw [z]; exact List.mem_map.mpr ⟨_, List.mem_of_getElem? h', rfl⟩)
    have := gDrop_erase n.2 h'
    unfold gDrop at this ⊢
    rw [List.filter_cons_of_pos (by simp [e]), this]; rfl
theorem gPut_keys : (gPut l k v).map (·.1) = if k ∈ l.map (·.1) then l.map (·.1) else l.map (·.1) ++ [k] := by
  by_cases h : k ∈ l.map (·.1)
  · rw [if_pos h]; unfold gPut
    rw [if_pos (gAny.mpr h), List.map_map]
    refine List.map_congr_left fun x hx => ?_
    show (if x.1 = k then (x.1, v) else x).1 = x.1
    split <;> rfl
  · rw [if_neg h, gPut_new h, List.map_append]; rfl
theorem gPut_nodup (h : (l.map (·.1)).Nodup) : ((gPut l k v).map (·.1)).Nodup := by
  rw [gPut_keys]
  split
  · exact h
  · rename_i q
    rw [List.nodup_append]
    exact ⟨h, by simp, fun a ha b hb => by simp at hb; subst hb; exact fun z => q (z ▸ ha)⟩
theorem gDrop_nodup (h : (l.map (·.1)).Nodup) : ((gDrop l k).map (·.1)).Nodup := h.sublist ((List.filter_sublist).map _)
theorem gDrop_keys : (gDrop l k).map (·.1) = (l.map (·.1)).filter fun x => decide (x ≠ k) := by
  unfold gDrop
  rw [List.filter_map]; rfl
theorem gGet_put (l : List (κ × α)) (k j : κ) (v : α) : gGet (gPut l k v) j = if j = k then some v else gGet l j := by
  induction l with
  | nil =>
    show gGet [(k, v)] j = _
    by_cases e : k = j
    · rw [gGet_pos e, if_pos e.symm]
    · rw [gGet_neg e, if_neg (fun z => e z.symm)]
  | cons p l ih =>
    by_cases e : p.1 = k
    · -- in its place
      unfold gPut
      rw [if_pos (by simp [e]), List.map_cons, if_pos e]
      by_cases ej : j = k
      · rw [gGet_pos (by show p.1 = j; rw [e, ej]), if_pos ej]
      · have n1 : ¬ p.1 = j := by rw [e]; exact fun z => ej z.symm
        rw [gGet_neg (by exact n1), gGet_neg n1, if_neg ej]
        clear ih
        induction l with
        | nil => rfl
        | cons q l ih2 =>
          rw [List.map_cons]
          by_cases e2 : q.1 = k
          · rw [if_pos e2, gGet_neg (by show ¬ q.1 = j; rw [e2]; exact fun z => ej z.symm), gGet_neg (by rw [e2]; exact fun z => ej z.symm)]; exact ih2
          · rw [if_neg e2]
            by_cases e3 : q.1 = j
            · rw [gGet_pos e3, gGet_pos e3]
            · rw [gGet_neg e3, gGet_neg e3]; exact ih2
    · rw [gPut_cons_neg e]
      by_cases e1 : p.1 = j
      · rw [gGet_pos e1, gGet_pos e1, if_neg (fun z => e (e1.trans z))]
      · rw [gGet_neg e1, gGet_neg e1, ih]
theorem gGet_drop (l : List (κ × α)) (k j : κ) : gGet (gDrop l k) j = if j = k then none else gGet l j := by
  induction l with
  | nil => show none = _; split <;> rfl
  | cons p l ih =>
    unfold gDrop at ih ⊢
    by_cases e : p.1 = k
    · rw [List.filter_cons_of_neg (by simp [e]), ih]
      by_cases ej : j = k
      · rw [if_pos ej, if_pos ej]
      · rw [if_neg ej, if_neg ej, gGet_neg (by rw [e]; exact fun z => ej z.symm)]
    · rw [List.filter_cons_of_pos (by simp [e])]
      by_cases e1 : p.1 = j
      · rw [gGet_pos e1, gGet_pos e1, if_neg (fun z => e (e1.trans z))]
      · rw [gGet_neg e1, gGet_neg e1, ih]
end
end Vt

/-! Trees. -/
namespace Vt
open PySem L2

inductive Md where | fz | mu
  deriving DecidableEq
/-- what a value is: plain data, and what is owned; gone: taken out for a while -/
inductive T where
  | non
  | bl (b : Bool)
  | int (i : Int)
  | str (x : Str)
  | ty (n : String)
  | cl (n : Nat)
  | tup (ts : List T)
  | lst (m : Md) (ts : List T)
  | dct (lk : Bool) (kvs : List (Int × T))
  | ins (C : Nat) (fs : List (Str × T))
  | scr (ns : List Int)
  | gone
def leafV : T → Option V
  | .non => some .non
  | .bl b => some (.bl b)
  | .int i => some (.int i)
  | .str x => some (.str x)
  | .ty n => some (.ty n)
  | _ => none
-- plain data: nothing of it is owned
mutual
def T.data : T → Bool
  | .tup ts => datas ts
  | .lst .fz ts => datas ts
  | .lst .mu _ => false
  | .dct _ _ => false
  | .ins _ _ => false
  | .gone => false
  | _ => true
def datas : List T → Bool
  | [] => true
  | t :: ts => t.data && datas ts
end
def fldV (fv : List (Str × V)) (f : Str) : Option V := fv.lookup f
/-- what is known for good, the classes' places -/
structure Kc where
  K : PySem.W.Frag
  cm : Nat → Addr
mutual
inductive RepT (K : Kc) (S : Hp) : Hp → T → V → Prop
  | leaf {t v} (h : leafV t = some v) : RepT K S hnil t v
  | gone {v} : RepT K S hnil .gone v
  | tup {F ts a xs} (h : S a = some (.tup xs)) (r : RepTs K S F ts xs) : RepT K S F (.tup ts) (.ref a)
  | cls {n} : RepT K S hnil (.cl n) (.ref (K.cm n))
  | scr {ns a} (h : SqL K.K S a (ns.map V.int)) : RepT K S hnil (.scr ns) (.ref a)
  | lfz {F ts a xs} (h : S a = some (.lst xs)) (r : RepTs K S F ts xs) : RepT K S F (.lst .fz ts) (.ref a)
  | lmu {F ts a xs} (h : F a = none) (r : RepTs K S F ts xs) : RepT K S (join (one a (.lst xs)) F) (.lst .mu ts) (.ref a)
  | dct {F lk kvs a kv} {o : HO} (h : F a = none) (ho : if lk = true then ∃ q, o = .frz q (.dK kv) else o = .dK kv) (hk : kv.map (·.1) = (kvs.map (·.1)).map Sum.inl) (hn : (kvs.map (·.1)).Nodup) (r : RepTs K S F (kvs.map (·.2)) (kv.map (·.2))) : RepT K S (join (one a o) F) (.dct lk kvs) (.ref a)
  | ins {F C fs a dx fv} (h : F a = none) (hk : fv.map (·.1) = fs.map (·.1)) (r : RepTs K S F (fs.map (·.2)) (fv.map (·.2))) : RepT K S (join (one a (.ins (K.cm C) dx fv)) F) (.ins C fs) (.ref a)
inductive RepTs (K : Kc) (S : Hp) : Hp → List T → List V → Prop
  | nil : RepTs K S hnil [] []
  | cons {F G t ts x xs} (d : Dj F G) (h : RepT K S F t x) (r : RepTs K S G ts xs) : RepTs K S (join F G) (t :: ts) (x :: xs)
end
section
variable {K : Kc} {S S' F : Hp} {t : T} {v : V}
theorem sqL_mono {K : PySem.W.Frag} {a : Addr} {xs : List V} (e : Ex S S') (h : SqL K S a xs) : SqL K S' a xs := by
  rcases h with (h | ⟨o, h⟩) | h
  · exact .inl (.inl (e _ _ h))
  · exact .inl (.inr ⟨o, e _ _ h⟩)
  · exact .inr h
mutual
theorem RepT.mono (e : Ex S S') : ∀ {F t v}, RepT K S F t v → RepT K S' F t v
  | _, _, _, .leaf h => .leaf h
  | _, _, _, .gone => .gone
  | _, _, _, .tup h r => .tup (e _ _ h) (r.mono e)
  | _, _, _, .cls => .cls
  | _, _, _, .scr h => .scr (sqL_mono e h)
  | _, _, _, .lfz h r => .lfz (e _ _ h) (r.mono e)
  | _, _, _, .lmu h r => .lmu h (r.mono e)
  | _, _, _, .dct h ho hk hn r => .dct h ho hk hn (r.mono e)
  | _, _, _, .ins h hk r => .ins h hk (r.mono e)
theorem RepTs.mono (e : Ex S S') : ∀ {F ts vs}, RepTs K S F ts vs → RepTs K S' F ts vs
  | _, _, _, .nil => .nil
  | _, _, _, .cons d h r => .cons d (h.mono e) (r.mono e)
end
mutual
theorem RepT.datas_nil : ∀ {F t v}, RepT K S F t v → t.data = true → F = hnil
  | _, _, _, .leaf _, _ => rfl
  | _, _, _, .gone, h => nomatch h
  | _, _, _, .tup _ r, h => r.datas_nil h
  | _, _, _, .cls, _ => rfl
  | _, _, _, .scr _, _ => rfl
  | _, _, _, .lfz _ r, h => r.datas_nil h
  | _, _, _, .lmu _ _, h => nomatch h
  | _, _, _, .dct _ _ _ _ _, h => nomatch h
  | _, _, _, .ins _ _ _, h => nomatch h
theorem RepTs.datas_nil : ∀ {F ts vs}, RepTs K S F ts vs → datas ts = true → F = hnil
  | _, _, _, .nil, _ => rfl
  | _, _, _, .cons d h r, q => by
    have q' : (T.data _ && datas _) = true := q
    rw [Bool.and_eq_true] at q'
    rw [h.datas_nil q'.1, r.datas_nil q'.2]; rfl
end
theorem RepTs.length : ∀ {F : Hp} {ts : List T} {vs : List V}, RepTs K S F ts vs → ts.length = vs.length
  | _, _, _, .nil => rfl
  | _, _, _, .cons _ _ r => by simp [r.length]
theorem RepTs.one (h : RepT K S F t v) : RepTs K S F [t] [v] := by
  have := RepTs.cons (Dj.nil' (F := F)) h .nil
  rw [join_nil] at this
  exact this
/-- a split of a part -/
structure Sp2 (F A B : Hp) : Prop where
  d : Dj A B
  e : F = join A B
theorem RepTs.app : ∀ {F G : Hp} {ts us : List T} {xs ys : List V}, Dj F G → RepTs K S F ts xs → RepTs K S G us ys → RepTs K S (join F G) (ts ++ us) (xs ++ ys)
  | _, _, _, _, _, _, _, .nil, k => k
  | _, _, _, _, _, _, d, .cons d1 h r, k => by
    rw [join_assoc]
    exact .cons (d1.jr d.l) h (r.app d.r k)
theorem RepTs.split : ∀ {ts us : List T} {F : Hp} {zs : List V}, RepTs K S F (ts ++ us) zs → ∃ A B xs ys, Sp2 F A B ∧ zs = xs ++ ys ∧ RepTs K S A ts xs ∧ RepTs K S B us ys
  | [], us, F, zs, h => ⟨hnil, F, [], zs, ⟨Dj.nil, rfl⟩, rfl, .nil, h⟩
  | t :: ts, us, _, _, .cons d h r => by
    obtain ⟨A, B, xs, ys, ⟨q1, q2⟩, q3, q4, q5⟩ := r.split
    subst q2 q3
    exact ⟨_, B, _, ys, ⟨Dj.jl (d.symm.r.symm) q1, join_assoc.symm⟩, rfl, .cons d.symm.l.symm h q4, q5⟩
/-- one of several: the part of it, the rest, and back -/
theorem RepTs.foc : ∀ {ts : List T} {F : Hp} {xs : List V} {i : Nat} {u : T}, RepTs K S F ts xs → ts[i]? = some u → ∃ x A B, xs[i]? = some x ∧ Sp2 F A B ∧ RepT K S A u x ∧
    (∀ S' u' A', Ex S S' → Dj A' B → RepT K S' A' u' x → RepTs K S' (join A' B) (ts.set i u') xs) ∧
    (∀ S' u' y A', Ex S S' → Dj A' B → RepT K S' A' u' y → RepTs K S' (join A' B) (ts.set i u') (xs.set i y)) ∧
    ∀ j w, j ≠ i → ts[j]? = some w → ∃ x' G, xs[j]? = some x' ∧ RepT K S G w x' ∧ Ex G B
  | _, _, _, i, _, .nil, h => by simp at h
  | _, _, _, 0, u, .cons (F := A) (G := B) (x := x) d h r, e => by
    simp at e; subst e
    refine ⟨x, A, B, rfl, ⟨d, rfl⟩, h, fun S' u' A' e d' h' => .cons d' h' (r.mono e), fun S' u' y A' e d' h' => .cons d' h' (r.mono e), fun j w hj hw => ?_⟩
    cases j with
    | zero => exact absurd rfl hj
    | succ j =>
      obtain ⟨x', A2, B2, q1, q2, q3, _⟩ := r.foc (i := j) (u := w) (by simpa using hw)
      exact ⟨x', A2, by simpa using q1, q3, by rw [q2.e]; exact Ex.l⟩
  | _, _, _, i + 1, u, .cons (F := A0) (G := B0) (x := x0) (t := t0) d h r, e => by
    obtain ⟨x, A, B, q1, ⟨q2, q2'⟩, q3, q4, q5, q6⟩ := r.foc (i := i) (u := u) (by simpa using e)
    subst q2'
    have e1 : join A0 (join A B) = join A (join A0 B) := by rw [← join_assoc, join_comm d.symm.l.symm, join_assoc]
    have back : ∀ A', Dj A' (join A0 B) → join A' (join A0 B) = join A0 (join A' B) ∧ Dj A0 (join A' B) ∧ Dj A' B := fun A' d' => by
      have d1 : Dj A' A0 := d'.symm.l.symm
      have d2 : Dj A' B := d'.symm.r.symm
      exact ⟨by rw [← join_assoc, join_comm d1, join_assoc], d1.symm.jr d.symm.r.symm, d2⟩
    refine ⟨x, A, join A0 B, by simpa using q1, ⟨d.symm.l.jr q2, e1⟩, q3, fun S' u' A' e d' h' => ?_, fun S' u' y A' e d' h' => ?_, fun j w hj hw => ?_⟩
    · obtain ⟨z1, z2, z3⟩ := back A' d'
      rw [z1]
      exact .cons z2 (h.mono e) (q4 S' u' A' e z3 h')
    · obtain ⟨z1, z2, z3⟩ := back A' d'
      rw [z1]
      exact .cons z2 (h.mono e) (q5 S' u' y A' e z3 h')
    · cases j with
      | zero => simp at hw; subst hw; exact ⟨x0, A0, rfl, h, Ex.l⟩
      | succ j =>
        obtain ⟨x', G, z1, z2, z3⟩ := q6 j w (fun z => hj (by rw [z])) (by simpa using hw)
        exact ⟨x', G, by simpa using z1, z2, z3.trans (Ex.r d.symm.r.symm)⟩
end
/-! ### steps into a tree -/
inductive Sp where
  | ix (i : Nat) | key (k : Int) | fld (f : Str)
  deriving DecidableEq
def putD (f : Str) (v : T) : List (Str × T) → List (Str × T)
  | [] => [(f, v)]
  | (g, x) :: r => if g = f then (g, v) :: r else (g, x) :: putD f v r
def T.step : T → Sp → Option T
  | .tup ts, .ix i => ts[i]?
  | .lst .mu ts, .ix i => ts[i]?
  | .dct _ kvs, .key k => gGet kvs k
  | .ins _ fs, .fld f => fs.lookup f
  | _, _ => none
def T.put1 : T → Sp → T → T
  | .tup ts, .ix i, u => .tup (ts.set i u)
  | .lst .mu ts, .ix i, u => .lst .mu (ts.set i u)
  | .dct m kvs, .key k, u => .dct m (gPut kvs k u)
  | .ins C fs, .fld f, u => .ins C (putD f u fs)
  | t, _, _ => t
def stepV : HO → Sp → Option V
  | .tup xs, .ix i => xs[i]?
  | .lst xs, .ix i => xs[i]?
  | .dK kv, .key k => gGet kv (Sum.inl k)
  | .frz _ (.dK kv), .key k => gGet kv (Sum.inl k)
  | .ins _ _ fv, .fld f => fv.lookup f
  | _, _ => none
def T.at : T → List Sp → Option T
  | t, [] => some t
  | t, s :: p => match t.step s with
    | some u => u.at p
    | none => none
def T.put : T → List Sp → T → T
  | _, [], u => u
  | t, s :: p, u => match t.step s with
    | some w => t.put1 s (w.put p u)
    | none => t
theorem lookup_at {α : Type} {f : Str} {u : α} : ∀ {l : List (Str × α)}, l.lookup f = some u → ∃ i : Nat, l[i]? = some (f, u) ∧ ∀ j : Nat, j < i → ∀ w, l[j]? = some w → w.1 ≠ f
  | [], h => nomatch h
  | (g, x) :: r, h => by
    rw [List.lookup_cons] at h
    by_cases e : f = g
    · subst e
      rw [beq_self_eq_true] at h
      exact ⟨0, by simp at h; rw [h]; rfl, fun j hj => absurd hj (Nat.not_lt_zero j)⟩
    · rw [beq_eq_false_iff_ne.mpr e] at h
      obtain ⟨i, h1, h2⟩ := lookup_at h
      refine ⟨i + 1, by simpa using h1, fun j hj w hw => ?_⟩
      cases j with
      | zero => simp at hw; subst hw; exact fun z => e z.symm
      | succ j => exact h2 j (by omega) w (by simpa using hw)
theorem lookup_of {α : Type} {f : Str} {u : α} : ∀ {l : List (Str × α)} {i : Nat}, l[i]? = some (f, u) → (∀ j : Nat, j < i → ∀ w, l[j]? = some w → w.1 ≠ f) → l.lookup f = some u
  | [], i, h, _ => by simp at h
  | (g, x) :: r, 0, h, _ => by simp at h; obtain ⟨rfl, rfl⟩ := h; rw [List.lookup_cons, beq_self_eq_true]
  | (g, x) :: r, i + 1, h, n => by
    have e : ¬ f = g := fun z => n 0 (Nat.succ_pos i) (g, x) rfl z.symm
    rw [List.lookup_cons, beq_eq_false_iff_ne.mpr e]
    exact lookup_of (by simpa using h) fun j hj w hw => n (j + 1) (by omega) w (by simpa using hw)
theorem putD_at {f : Str} {u v : T} : ∀ {l : List (Str × T)} {i : Nat}, l[i]? = some (f, u) → (∀ j : Nat, j < i → ∀ w, l[j]? = some w → w.1 ≠ f) → putD f v l = l.set i (f, v)
  | [], i, h, _ => by simp at h
  | (g, x) :: r, 0, h, _ => by simp at h; obtain ⟨rfl, rfl⟩ := h; unfold putD; rw [if_pos rfl]; rfl
  | (g, x) :: r, i + 1, h, n => by
    have e : ¬ g = f := n 0 (Nat.succ_pos i) (g, x) rfl
    unfold putD
    rw [if_neg e, putD_at (i := i) (by simpa using h) fun j hj w hw => n (j + 1) (by omega) w (by simpa using hw)]; rfl
theorem map_snd_set {α β : Type} {l : List (α × β)} {i : Nat} {k : α} {u v : β} (h : l[i]? = some (k, u)) : (l.set i (k, v)).map (·.2) = (l.map (·.2)).set i v ∧ (l.set i (k, v)).map (·.1) = l.map (·.1) := by
  constructor
  · rw [List.map_set]
  · rw [List.map_set]
    apply List.ext_getElem?
    intro m
    by_cases e : i = m
    · subst e
      have hl := (List.getElem?_eq_some_iff.mp h).1
      rw [List.getElem?_set_self (by simpa using hl), List.getElem?_map, h]; rfl
    · rw [List.getElem?_set_ne e]
theorem map_at {α β : Type} {l : List (α × β)} {i : Nat} {k : α} {u : β} (h : l[i]? = some (k, u)) : (l.map (·.2))[i]? = some u ∧ (l.map (·.1))[i]? = some k := by
  rw [List.getElem?_map, List.getElem?_map, h]; exact ⟨rfl, rfl⟩
theorem pair_at {α β : Type} {l : List (α × β)} {i : Nat} {k : α} {u : β} (h1 : (l.map (·.1))[i]? = some k) (h2 : (l.map (·.2))[i]? = some u) : l[i]? = some (k, u) := by
  rw [List.getElem?_map] at h1 h2
  cases e : l[i]? with
  | none => rw [e] at h1; cases h1
  | some p => rw [e] at h1 h2; obtain ⟨p1, p2⟩ := p; simp at h1 h2; rw [h1, h2]
section
variable {K : Kc} {S S' F : Hp} {t u : T} {v r : V}
theorem inl_nodup {l : List Int} (h : l.Nodup) : (l.map (Sum.inl : Int → Key)).Nodup := List.Pairwise.map _ (fun a b n z => n (Sum.inl.inj z)) h
/-- one step -/
theorem RepT.foc {s : Sp} (h : RepT K S F t r) (e : t.step s = some u) : ∃ a o x A B, r = .ref a ∧ (B a = some o ∨ S a = some o) ∧ stepV o s = some x ∧ Sp2 F A B ∧ RepT K S A u x ∧
    (∀ S' u' A', Ex S S' → Dj A' B → RepT K S' A' u' x → RepT K S' (join A' B) (t.put1 s u') r) ∧
    ∀ s' w, s' ≠ s → t.step s' = some w → ∃ x' G, stepV o s' = some x' ∧ RepT K S G w x' ∧ Ex G B := by
  have mid : ∀ {a : Addr} {o : HO} {G A B : Hp}, G a = none → Sp2 G A B → Sp2 (join (one a o) G) A (join (one a o) B) ∧ (∀ A', Dj A' (join (one a o) B) → join A' (join (one a o) B) = join (one a o) (join A' B) ∧ (join A' B) a = none ∧ Dj A' B) ∧ Ex B (join (one a o) B) ∧ (join (one a o) B) a = some o := by
    intro a o G A B hG ⟨d, eG⟩
    subst eG
    have hA : A a = none := by
      cases q : A a with
      | none => rfl
      | some w => rw [join_l q] at hG; cases hG
    have hB : B a = none := by rw [join_r hA] at hG; exact hG
    refine ⟨⟨Dj.jr (Dj.one hA).symm d, by rw [← join_assoc, join_comm (Dj.one hA), join_assoc]⟩, fun A' d' => ?_, Ex.r (Dj.one hB), join_l one_same⟩
    have d1 : Dj A' (one a o) := d'.symm.l.symm
    exact ⟨by rw [← join_assoc, join_comm d1, join_assoc], join_none d1.symm.one_at hB, d'.symm.r.symm⟩
  cases h with
  | leaf h => cases t <;> first | (simp [leafV] at h; done) | (cases s <;> simp [T.step] at e)
  | gone => cases s <;> simp [T.step] at e
  | @tup F ts a xs h rs =>
    cases s with
    | ix i =>
      have e' : ts[i]? = some u := e
      obtain ⟨x, A, B, q1, q2, q3, q4, _, q6⟩ := rs.foc e'
      refine ⟨a, .tup xs, x, A, B, rfl, .inr h, q1, q2, q3, fun S' u' A' e d' h' => .tup (e _ _ h) (q4 S' u' A' e d' h'), fun s' w hs hw => ?_⟩
      cases s' with
      | ix j => exact q6 j w (fun z => hs (by rw [z])) hw
      | key k => cases hw
      | fld k => cases hw
    | key k => cases e
    | fld k => cases e
  | @lfz F ts a xs h rs => cases s <;> cases e
  | scr h => cases s <;> cases e
  | cls => cases s <;> cases e
  | @lmu F ts a xs h rs =>
    cases s with
    | ix i =>
      have e' : ts[i]? = some u := e
      obtain ⟨x, A, B, q1, q2, q3, q4, _, q6⟩ := rs.foc e'
      obtain ⟨m1, m2, m3, m4⟩ := mid (o := .lst xs) h q2
      refine ⟨a, .lst xs, x, A, _, rfl, .inl m4, q1, m1, q3, fun S' u' A' e d' h' => ?_, fun s' w hs hw => ?_⟩
      · obtain ⟨z1, z2, z3⟩ := m2 A' d'
        rw [z1]
        exact .lmu z2 (q4 S' u' A' e z3 h')
      · cases s' with
        | ix j =>
          obtain ⟨x', G, z1, z2, z3⟩ := q6 j w (fun z => hs (by rw [z])) hw
          exact ⟨x', G, z1, z2, z3.trans m3⟩
        | key k => cases hw
        | fld k => cases hw
    | key k => cases e
    | fld k => cases e
  | @dct F lk kvs a kv o h ho hk hn rs =>
    cases s with
    | key k =>
      have e' : gGet kvs k = some u := e
      obtain ⟨i, hi⟩ := gGet_at e'
      obtain ⟨h1, h2⟩ := map_at hi
      obtain ⟨x, A, B, q1, q2, q3, q4, _, q6⟩ := rs.foc h1
      obtain ⟨m1, m2, m3, m4⟩ := mid (o := o) h q2
      have nk : (kv.map (·.1)).Nodup := by rw [hk]; exact inl_nodup hn
      have hki : ∀ {j : Nat} {k' : Int} {x'}, (kvs.map (·.1))[j]? = some k' → (kv.map (·.2))[j]? = some x' → gGet kv (Sum.inl k') = some x' := fun {j k' x'} a1 a2 => gGet_of nk (pair_at (by rw [hk, List.getElem?_map, a1]; rfl) a2)
      have so : ∀ k', stepV o (.key k') = gGet kv (Sum.inl k') := fun k' => by
        cases lk with
        | true => rw [if_pos rfl] at ho; obtain ⟨q, rfl⟩ := ho; rfl
        | false => rw [if_neg (by decide)] at ho; subst ho; rfl
      refine ⟨a, o, x, A, _, rfl, .inl m4, by rw [so]; exact hki h2 q1, m1, q3, fun S' u' A' e d' h' => ?_, fun s' w hs hw => ?_⟩
      · obtain ⟨z1, z2, z3⟩ := m2 A' d'
        rw [z1]
        show RepT K S' _ (.dct lk (gPut kvs k u')) _
        rw [gPut_set hn hi]
        obtain ⟨y1, y2⟩ := map_snd_set (v := u') hi
        refine .dct z2 ho (by rw [y2]; exact hk) (by rw [y2]; exact hn) ?_
        rw [y1]
        exact q4 S' u' A' e z3 h'
      · cases s' with
        | key k' =>
          obtain ⟨j, hj⟩ := gGet_at (show gGet kvs k' = some w from hw)
          obtain ⟨g1, g2⟩ := map_at hj
          obtain ⟨x', G, z1, z2, z3⟩ := q6 j w (fun z => by
            subst z
            rw [h2] at g2
            exact hs (by rw [Option.some.inj g2])) g1
          exact ⟨x', G, by rw [so]; exact hki g2 z1, z2, z3.trans m3⟩
        | ix k => cases hw
        | fld k => cases hw
    | ix k => cases e
    | fld k => cases e
  | @ins F C fs a dx fv h hk rs =>
    cases s with
    | fld f =>
      have e' : fs.lookup f = some u := e
      obtain ⟨i, hi, hlt⟩ := lookup_at e'
      obtain ⟨h1, h2⟩ := map_at hi
      obtain ⟨x, A, B, q1, q2, q3, q4, _, q6⟩ := rs.foc h1
      obtain ⟨m1, m2, m3, m4⟩ := mid (o := .ins (K.cm C) dx fv) h q2
      have hki : ∀ {j : Nat} {f' : Str} {x'}, (fs.map (·.1))[j]? = some f' → (∀ j' : Nat, j' < j → ∀ w, fs[j']? = some w → w.1 ≠ f') → (fv.map (·.2))[j]? = some x' → fv.lookup f' = some x' := fun {j f' x'} a1 a3 a2 => lookup_of (pair_at (by rw [hk, a1]) a2) fun j' hj' w hw => by
        have b1 : (fv.map (·.1))[j']? = some w.1 := by rw [List.getElem?_map, hw]; rfl
        rw [hk, List.getElem?_map] at b1
        cases q : fs[j']? with
        | none => rw [q] at b1; cases b1
        | some z => rw [q] at b1; exact (Option.some.inj b1) ▸ a3 j' hj' z q
      refine ⟨a, _, x, A, _, rfl, .inl m4, hki h2 hlt q1, m1, q3, fun S' u' A' e d' h' => ?_, fun s' w hs hw => ?_⟩
      · obtain ⟨z1, z2, z3⟩ := m2 A' d'
        rw [z1]
        show RepT K S' _ (.ins C (putD f u' fs)) _
        rw [putD_at hi hlt]
        obtain ⟨y1, y2⟩ := map_snd_set (v := u') hi
        refine .ins z2 (by rw [y2]; exact hk) ?_
        rw [y1]
        exact q4 S' u' A' e z3 h'
      · cases s' with
        | fld f' =>
          obtain ⟨j, hj, hlt'⟩ := lookup_at (show fs.lookup f' = some w from hw)
          obtain ⟨g1, g2⟩ := map_at hj
          obtain ⟨x', G, z1, z2, z3⟩ := q6 j w (fun z => by
            subst z
            rw [h2] at g2
            exact hs (by rw [Option.some.inj g2])) g1
          exact ⟨x', G, hki g2 hlt' z1, z2, z3.trans m3⟩
        | ix k => cases hw
        | key k => cases hw
    | ix k => cases e
    | key k => cases e
/-- from r by the steps p, in the heap H -/
def Wk (H : Hp) : V → List Sp → V → Prop
  | r, [], v => r = v
  | r, s :: p, v => ∃ a o x, r = .ref a ∧ H a = some o ∧ stepV o s = some x ∧ Wk H x p v
theorem Wk.det {H : Hp} : ∀ {p : List Sp} {r v w : V}, Wk H r p v → Wk H r p w → v = w
  | [], _, _, _, h, k => h.symm.trans k
  | s :: p, _, _, _, ⟨a, o, x, e1, e2, e3, e4⟩, ⟨a', o', x', f1, f2, f3, f4⟩ => by
    subst e1
    cases f1
    rw [e2] at f2; cases f2
    rw [e3] at f3; cases f3
    exact Wk.det e4 f4
theorem Wk.mono {H H' : Hp} (e : Ex H H') : ∀ {p : List Sp} {r v : V}, Wk H r p v → Wk H' r p v
  | [], _, _, h => h
  | s :: p, _, _, ⟨a, o, x, e1, e2, e3, e4⟩ => ⟨a, o, x, e1, e _ _ e2, e3, e4.mono e⟩
theorem Wk.app {H : Hp} : ∀ {p : List Sp} {q : List Sp} {r v w : V}, Wk H r p v → Wk H v q w → Wk H r (p ++ q) w
  | [], _, _, _, _, h, k => by subst h; exact k
  | s :: p, _, _, _, _, ⟨a, o, x, e1, e2, e3, e4⟩, k => ⟨a, o, x, e1, e2, e3, e4.app k⟩
/-- p goes through q, and on -/
def under : List Sp → List Sp → Bool
  | [], [] => false
  | [], _ :: _ => true
  | _ :: _, [] => false
  | s :: q, s' :: p => if s = s' then under q p else false
theorem wk_in {H H' : Hp} : ∀ {p : List Sp} {t : T} {F : Hp} {r v : V}, RepT K S F t r → Ex F H → Ex S H → Ex F H' → Ex S H' → (t.at p).isSome = true → Wk H r p v → Wk H' r p v
  | [], _, _, _, _, _, _, _, _, _, _, w => w
  | s :: p, t, F, r, v, h, f1, s1, f2, s2, ht, ⟨a, o, x, e1, e2, e3, e4⟩ => by
    unfold T.at at ht
    cases q : t.step s with
    | none => rw [q] at ht; cases ht
    | some u =>
      rw [q] at ht
      obtain ⟨a', o', x', A, B, g1, g2, g3, g4, g5, _⟩ := h.foc q
      subst e1; cases g1
      have eB : Ex B F := by rw [g4.e]; exact Ex.r g4.d
      have eA : Ex A F := by rw [g4.e]; exact Ex.l
      have o1 : H a = some o' := g2.elim (fun z => f1 _ _ (eB _ _ z)) (s1 _ _)
      have o2 : H' a = some o' := g2.elim (fun z => f2 _ _ (eB _ _ z)) (s2 _ _)
      rw [o1] at e2; cases e2
      rw [g3] at e3; cases e3
      exact ⟨a, _, _, rfl, o2, g3, wk_in g5 (eA.trans f1) s1 (eA.trans f2) s2 ht e4⟩
/-- THE FOCUS -/
theorem RepT.focus : ∀ {p : List Sp} {t : T} {F : Hp} {r : V} {u : T}, RepT K S F t r → t.at p = some u → ∃ x A B, Sp2 F A B ∧ RepT K S A u x ∧ (∀ H, Ex B H → Ex S H → Wk H r p x) ∧
    (∀ S' u' A', Ex S S' → Dj A' B → RepT K S' A' u' x → RepT K S' (join A' B) (t.put p u') r) ∧
    ∀ q H H' v, under p q = false → (t.at q).isSome = true → Ex F H → Ex S H → Ex B H' → Ex S H' → Wk H r q v → Wk H' r q v
  | [], t, F, r, u, h, e => by
    cases e
    refine ⟨r, F, hnil, ⟨Dj.nil', join_nil.symm⟩, h, fun _ _ _ => rfl, fun S' u' A' e d h' => ?_, fun q H H' v b _ _ _ _ _ w => ?_⟩
    · rw [join_nil]; exact h'
    · cases q with
      | nil => exact w
      | cons s q => cases b
  | s :: p, t, F, r, u, h, e => by
    unfold T.at at e
    cases q : t.step s with
    | none => rw [q] at e; cases e
    | some w =>
      rw [q] at e
      obtain ⟨a, o, x, A, B, g1, g2, g3, ⟨g4, g4'⟩, g5, g6, g7⟩ := h.foc q
      subst g1 g4'
      obtain ⟨y, A2, B2, ⟨k1, k1'⟩, k2, k3, k4, k5⟩ := g5.focus (p := p) e
      subst k1'
      have d1 : Dj A2 B := g4.l
      have d2 : Dj B2 B := g4.r
      have eF : Ex B (join (join A2 B2) B) := Ex.r g4
      refine ⟨y, A2, join B2 B, ⟨k1.jr d1, join_assoc⟩, k2, fun H e1 e2 => ⟨a, o, x, rfl, g2.elim (fun z => e1 _ _ (Ex.r d2 _ _ z)) (e2 _ _), g3, k3 H (Ex.l.trans e1) e2⟩, fun S' u' A' e d h' => ?_, fun q' H H' v b ht f1 s1 f2 s2 wk => ?_⟩
      · rw [← join_assoc]
        show RepT K S' _ (match t.step s with | some w => t.put1 s (w.put p u') | none => t) _
        rw [q]
        exact g6 S' _ _ e (Dj.jl d.symm.r.symm d2) (k4 S' u' A' e d.symm.l.symm h')
      · cases q' with
        | nil => exact wk
        | cons s' q' =>
          obtain ⟨a', o', x', e1, e2, e3, e4⟩ := wk
          cases e1
          have o1 : H a = some o := g2.elim (fun z => f1 _ _ (eF _ _ z)) (s1 _ _)
          have o2 : H' a = some o := g2.elim (fun z => f2 _ _ (Ex.r d2 _ _ z)) (s2 _ _)
          rw [o1] at e2; cases e2
          refine ⟨a, o, x', rfl, o2, e3, ?_⟩
          unfold T.at at ht
          by_cases es : s = s'
          · subst es
            rw [q] at ht
            have b' : under p q' = false := by
              unfold under at b
              rw [if_pos rfl] at b; exact b
            rw [g3] at e3; cases e3
            exact k5 q' H H' v b' ht (Ex.l.trans f1) s1 (Ex.l.trans f2) s2 e4
          · cases q2 : t.step s' with
            | none => rw [q2] at ht; cases ht
            | some w2 =>
              rw [q2] at ht
              obtain ⟨x2, G, z1, z2, z3⟩ := g7 s' w2 (fun z => es z.symm) q2
              rw [z1] at e3; cases e3
              exact wk_in z2 ((z3.trans eF).trans f1) s1 ((z3.trans (Ex.r d2)).trans f2) s2 ht e4
end
end Vt

/-! The state, its moves. -/
namespace Vt
open PySem L2

/-- what a slot or a temporary holds; al: a part of the tree in slot i -/
inductive Ent where
  | emp
  | own (t : T)
  | al (i : Nat) (p : List Sp)
def Ent.tr : Ent → T
  | .own t => t
  | _ => .gone
structure En where
  sl : List Ent
  st : List Ent
structure Base where
  S : Hp
  F : Addr → Prop
  H : Hp
  pin : Nat → Option V
  cm : Nat → Addr
  lkd : Hp
abbrev kc (K : PySem.W.Frag) (B : Base) : Kc := ⟨K, B.cm⟩
/-- the alias stands -/
def EntOk (H : Hp) (sl : List Ent) (sv : List V) (e : Ent) (v : V) : Prop := match e with
  | .al i p => ∃ t r, sl[i]? = some (.own t) ∧ (t.at p).isSome = true ∧ sv[i]? = some r ∧ Wk H r p v
  | _ => True
structure Sta (K : PySem.W.Frag) (B : Base) (δ : En) (σ : St) (H : Hp) (vs : List V) (S F : Hp) (sv : List V) : Prop where
  exS : Ex S H
  exF : Ex F H
  dj : Dj F S
  len : σ.length = δ.sl.length
  lens : sv.length = δ.sl.length
  lenv : vs.length = δ.st.length
  slv : ∀ (i : Nat) e, δ.sl[i]? = some e → (∃ v, sv[i]? = some v ∧ σ[i]? = some (some v)) ∨ e = .emp
  rep : RepTs (kc K B) S F ((δ.st ++ δ.sl).map Ent.tr) (vs ++ sv)
  al : ∀ (i : Nat) e v, (δ.st ++ δ.sl)[i]? = some e → (vs ++ sv)[i]? = some v → EntOk H δ.sl sv e v
  bS : Ex B.S S
  bF : ∀ b o, B.H b = some o → ¬ B.F b → H b = some o ∧ F b = none
  bN : ∀ b, B.H b ≠ none → ¬ B.F b → B.S b = none → S b = none
  bH : ∀ b, B.H b ≠ none → H b ≠ none
  pin : ∀ i v, B.pin i = some v → sv[i]? = some v
  lk : Ex B.lkd H
  lkf : ∀ b o, B.lkd b = some o → ∃ q u, o = .frz q u
def StT (K : PySem.W.Frag) (B : Base) (δ : En) (σ : St) (H : Hp) (vs : List V) : Prop := ∃ S F sv, Sta K B δ σ H vs S F sv
/-- no alias goes through the part at i, p -/
def Ent.freeE (i : Nat) (p : List Sp) : Ent → Bool
  | .al j q => !(j == i && under p q)
  | _ => true
def Ent.noal (i : Nat) : Ent → Bool
  | .al j _ => !(j == i)
  | _ => true
def En.free (δ : En) (i : Nat) (p : List Sp) : Bool := δ.st.all (Ent.freeE i p) && δ.sl.all (Ent.freeE i p)
def En.noal (δ : En) (i : Nat) : Bool := δ.st.all (Ent.noal i) && δ.sl.all (Ent.noal i)
def look (sl : List Ent) : Ent → Option T
  | .own t => some t
  | .al i p => match sl[i]? with
    | some (.own t) => t.at p
    | _ => none
  | .emp => none
section
variable {K : PySem.W.Frag} {B : Base} {δ : En} {σ : St} {H H' : Hp} {vs : List V} {v w r x y : V} {S F : Hp} {sv : List V} {t u : T} {e : Ent} {st sl : List Ent} {i : Nat} {p q : List Sp} {a : Addr}
theorem free_at {l : List Ent} (h : l.all (Ent.freeE i p) = true) {m j : Nat} (e : l[m]? = some (.al j q)) : ¬ (j = i ∧ under p q = true) := by
  have := List.all_eq_true.mp h _ (List.mem_of_getElem? e)
  rintro ⟨rfl, b⟩
  simp [Ent.freeE, b] at this
theorem noal_at {l : List Ent} (h : l.all (Ent.noal i) = true) {m j : Nat} (e : l[m]? = some (.al j q)) : j ≠ i := by
  have := List.all_eq_true.mp h _ (List.mem_of_getElem? e)
  rintro rfl
  simp [Ent.noal] at this
theorem EntOk.mono (e' : Ex H H') (h : EntOk H sl sv e v) : EntOk H' sl sv e v := by
  cases e with
  | al i p => obtain ⟨t, r, a, b, c, d⟩ := h; exact ⟨t, r, a, b, c, d.mono e'⟩
  | _ => trivial
/-! #### leaves, data -/
/-- the tree of an entry is there -/
theorem Sta.look_at (s : Sta K B δ σ H vs S F sv) {m : Nat} (he : (δ.st ++ δ.sl)[m]? = some e) (hv : (vs ++ sv)[m]? = some v) (hl : look δ.sl e = some u) : ∃ A, Ex A F ∧ RepT (kc K B) S A u v := by
  cases e with
  | emp => cases hl
  | own t =>
    obtain rfl : t = u := Option.some.inj hl
    have : ((δ.st ++ δ.sl).map Ent.tr)[m]? = some t := by rw [List.getElem?_map, he]; rfl
    obtain ⟨x, A, B', q1, q2, q3, _⟩ := s.rep.foc this
    rw [hv] at q1; cases q1
    exact ⟨A, by rw [q2.e]; exact Ex.l, q3⟩
  | al i p =>
    obtain ⟨t, r, h1, h2, h3, h4⟩ := s.al m _ v he hv
    simp only [look, h1] at hl
    have hi := (List.getElem?_eq_some_iff.mp h1).1
    have g1 : ((δ.st ++ δ.sl).map Ent.tr)[δ.st.length + i]? = some t := by rw [List.getElem?_map, List.getElem?_append_right (by omega), Nat.add_sub_cancel_left, h1]; rfl
    obtain ⟨x, A, B', q1, q2, q3, _⟩ := s.rep.foc g1
    rw [← s.lenv, List.getElem?_append_right (by omega), Nat.add_sub_cancel_left, h3] at q1
    cases q1
    obtain ⟨y, A2, B2, k1, k2, k3, _⟩ := q3.focus hl
    have eA : Ex A F := by rw [q2.e]; exact Ex.l
    have eA2 : Ex A2 A := by rw [k1.e]; exact Ex.l
    have eB2 : Ex B2 A := by rw [k1.e]; exact Ex.r k1.d
    have := (k3 H ((eB2.trans eA).trans s.exF) s.exS).det h4
    subst this
    exact ⟨A2, eA2.trans eA, k2⟩
theorem app_hd {α : Type} {e : α} {l m : List α} : (e :: l ++ m)[0]? = some e := rfl
theorem app_tl {α : Type} {e : α} {l m : List α} {n : Nat} : (e :: l ++ m)[n + 1]? = (l ++ m)[n]? := rfl
/-- the top's tree -/
theorem StT.top (h : StT K B ⟨sl, e :: st⟩ σ H (v :: vs)) (hl : look sl e = some u) : ∃ S A, Ex S H ∧ Ex A H ∧ RepT (kc K B) S A u v := by
  obtain ⟨S, F, sv, s⟩ := h
  obtain ⟨A, h1, h2⟩ := s.look_at (m := 0) app_hd app_hd hl
  exact ⟨S, A, s.exS, h1.trans s.exF, h2⟩
/-- the two on top -/
theorem StT.top2 {e' : Ent} {u' : T} (h : StT K B ⟨sl, e :: e' :: st⟩ σ H (v :: w :: vs)) (hl : look sl e = some u) (hl' : look sl e' = some u') : ∃ S A A', Ex S H ∧ Ex A H ∧ Ex A' H ∧ RepT (kc K B) S A u v ∧ RepT (kc K B) S A' u' w := by
  obtain ⟨S, F, sv, s⟩ := h
  obtain ⟨A, h1, h2⟩ := s.look_at (m := 0) app_hd app_hd hl
  obtain ⟨A', h1', h2'⟩ := s.look_at (m := 1) (by rfl) (by rfl) hl'
  exact ⟨S, A, A', s.exS, h1.trans s.exF, h1'.trans s.exF, h2, h2'⟩
/-- a slot's tree -/
theorem Sta.slot (s : Sta K B δ σ H vs S F sv) (h : δ.sl[i]? = some (.own t)) : ∃ r A, sv[i]? = some r ∧ σ[i]? = some (some r) ∧ Ex A F ∧ RepT (kc K B) S A t r := by
  rcases s.slv i _ h with ⟨r, h1, h2⟩ | z
  · obtain ⟨A, q1, q2⟩ := s.look_at (m := δ.st.length + i) (e := .own t) (v := r) (u := t) (by rw [List.getElem?_append_right (by omega), Nat.add_sub_cancel_left, h]) (by rw [← s.lenv, List.getElem?_append_right (by omega), Nat.add_sub_cancel_left, h1]) rfl
    exact ⟨r, A, h1, h2, q1, q2⟩
  · cases z
/-- the top is let go -/
theorem Sta.pop (s : Sta K B ⟨sl, e :: st⟩ σ H (v :: vs) S F sv) : ∃ F', Sta K B ⟨sl, st⟩ σ H vs S F' sv ∧ Ex F' F ∧ ∃ A, Sp2 F A F' ∧ RepT (kc K B) S A e.tr v := by
  have r := s.rep
  cases r with
  | @cons A G _ _ _ _ d h r =>
    refine ⟨G, ⟨s.exS, (Ex.r d).trans s.exF, s.dj.r, s.len, s.lens, by have := s.lenv; simpa using this, s.slv, r, fun i e v h1 h2 => s.al (i + 1) e v h1 h2, s.bS, fun b o h1 h2 => ?_, s.bN, s.bH, s.pin, s.lk, s.lkf⟩, Ex.r d, A, ⟨d, rfl⟩, h⟩
    obtain ⟨q1, q2⟩ := s.bF b o h1 h2
    exact ⟨q1, (Ex.r d).free q2⟩
theorem StT.pop (h : StT K B ⟨sl, e :: st⟩ σ H (v :: vs)) : StT K B ⟨sl, st⟩ σ H vs := by
  obtain ⟨S, F, sv, s⟩ := h
  obtain ⟨F', s', _⟩ := s.pop
  exact ⟨S, F', sv, s'⟩
/-- a tree comes on top, whose part is A -/
theorem Sta.push {A : Hp} (s : Sta K B ⟨sl, st⟩ σ H vs S F sv) (h : RepT (kc K B) S A t v) (d : Dj A F) (dS : Dj A S) (eA : Ex A H) (hb : ∀ b o, B.H b = some o → ¬ B.F b → A b = none) : Sta K B ⟨sl, .own t :: st⟩ σ H (v :: vs) S (join A F) sv :=
  ⟨s.exS, Ex.join eA s.exF, Dj.jl dS s.dj, s.len, s.lens, by simp [s.lenv], s.slv, .cons d h s.rep, fun i e v h1 h2 => by
    cases i with
    | zero => simp at h1; subst h1; trivial
    | succ i => exact s.al i e v h1 h2, s.bS, fun b o h1 h2 => ⟨(s.bF b o h1 h2).1, join_none (hb b o h1 h2) (s.bF b o h1 h2).2⟩, s.bN, s.bH, s.pin, s.lk, s.lkf⟩
/-- data comes on top -/
theorem Sta.pushD (s : Sta K B ⟨sl, st⟩ σ H vs S F sv) (h : RepT (kc K B) S hnil t v) : Sta K B ⟨sl, .own t :: st⟩ σ H (v :: vs) S F sv := s.push h Dj.nil Dj.nil Ex.nil fun _ _ _ _ => rfl
theorem StT.pushL (h : StT K B ⟨sl, st⟩ σ H vs) (hv : leafV t = some v) : StT K B ⟨sl, .own t :: st⟩ σ H (v :: vs) := by
  obtain ⟨S, F, sv, s⟩ := h
  exact ⟨S, F, sv, s.pushD (.leaf hv)⟩
/-- an alias comes on top -/
theorem Sta.pushA (s : Sta K B ⟨sl, st⟩ σ H vs S F sv) (h : EntOk H sl sv (.al i p) v) : Sta K B ⟨sl, .al i p :: st⟩ σ H (v :: vs) S F sv :=
  ⟨s.exS, s.exF, s.dj, s.len, s.lens, by simp [s.lenv], s.slv, .cons (F := hnil) Dj.nil .gone s.rep, fun j e v h1 h2 => by
    cases j with
    | zero => simp at h1 h2; subst h1 h2; exact h
    | succ j => exact s.al j e v h1 h2, s.bS, s.bF, s.bN, s.bH, s.pin, s.lk, s.lkf⟩
/-- a slot is read -/
def rdE (i : Nat) : Ent → Ent
  | .own t => if t.data then .own t else .al i []
  | e => e
theorem StT.get (h : StT K B ⟨sl, st⟩ σ H vs) (he : sl[i]? = some e) (hn : e ≠ .emp) : ∃ v, σ[i]? = some (some v) ∧ StT K B ⟨sl, rdE i e :: st⟩ σ H (v :: vs) := by
  obtain ⟨S, F, sv, s⟩ := h
  cases e with
  | emp => exact absurd rfl hn
  | own t =>
    obtain ⟨r, A, h1, h2, h3, h4⟩ := s.slot he
    refine ⟨r, h2, S, F, sv, ?_⟩
    by_cases hd : t.data = true
    · simp only [rdE, if_pos hd]
      have := h4.datas_nil hd
      subst this
      exact s.pushD h4
    · simp only [rdE, if_neg hd]
      exact s.pushA ⟨t, r, he, rfl, h1, rfl⟩
  | al j q =>
    rcases s.slv i _ he with ⟨r, h1, h2⟩ | z
    · refine ⟨r, h2, S, F, sv, s.pushA ?_⟩
      exact s.al (st.length + i) _ r (by rw [List.getElem?_append_right (by show st.length ≤ _; omega)]; show sl[st.length + i - st.length]? = _; rw [Nat.add_sub_cancel_left]; exact he) (by rw [show st.length = vs.length from s.lenv.symm, List.getElem?_append_right (by omega), Nat.add_sub_cancel_left]; exact h1)
    · cases z
/-- an object is laid that is of the new part; S may grow by it -/
theorem Sta.heap {H' : Hp} (s : Sta K B δ σ H vs S F sv) (e : Ex H H') : Sta K B δ σ H' vs S F sv :=
  ⟨s.exS.trans e, s.exF.trans e, s.dj, s.len, s.lens, s.lenv, s.slv, s.rep, fun i e' v h1 h2 => (s.al i e' v h1 h2).mono e, s.bS, fun b o h1 h2 => ⟨e _ _ (s.bF b o h1 h2).1, (s.bF b o h1 h2).2⟩, s.bN, fun b h => by
    cases q : H b with
    | none => exact absurd q (s.bH b h)
    | some o => rw [e b o q]; simp, s.pin, s.lk.trans e, s.lkf⟩
theorem exUpd {o : HO} (h : H a = none) : Ex H (upd H a o) := (Ex.refl H).new h
theorem Sta.grow {o : HO} (s : Sta K B δ σ H vs S F sv) (h : H a = none) : Sta K B δ σ (upd H a o) vs S F sv := s.heap (exUpd h)
theorem Sta.base_none (s : Sta K B δ σ H vs S F sv) (h : H a = none) : B.H a = none := by
  cases q : B.H a with
  | none => rfl
  | some o => exact absurd h (s.bH a (by rw [q]; simp))
/-- S grows by a new tuple or list -/
theorem Sta.growS {o : HO} (s : Sta K B δ σ H vs S F sv) (h : H a = none) : Sta K B δ σ (upd H a o) vs (upd S a o) F sv := by
  have g := s.grow (o := o) h
  have sa : S a = none := s.exS.free h
  have fa : F a = none := s.exF.free h
  have es : Ex S (upd S a o) := (Ex.refl S).new sa
  refine ⟨fun b w z => ?_, g.exF, fun b z => ?_, s.len, s.lens, s.lenv, s.slv, s.rep.mono es, g.al, s.bS.trans es, g.bF, fun b h1 h2 h3 => ?_, g.bH, s.pin, g.lk, s.lkf⟩
  · by_cases e : b = a
    · subst e; rw [upd_same] at z ⊢; exact z
    · rw [upd_ne e] at z ⊢; exact s.exS b w z
  · by_cases e : b = a
    · subst e; exact absurd fa z
    · rw [upd_ne e]; exact s.dj b z
  · have : b ≠ a := fun e => by subst e; exact h1 (s.base_none h)
    rw [upd_ne this]; exact s.bN b h1 h2 h3
/-- the owned ones on top -/
def ownsOf : List Ent → Option (List T)
  | [] => some []
  | .own t :: l => (ownsOf l).map (t :: ·)
  | _ :: _ => none
theorem ownsOf_eq : ∀ {l : List Ent} {ts : List T}, ownsOf l = some ts → l = ts.map Ent.own
  | [], ts, h => by cases h; rfl
  | .own t :: l, ts, h => by
    unfold ownsOf at h
    cases q : ownsOf l with
    | none => rw [q] at h; cases h
    | some us => rw [q] at h; cases h; rw [List.map_cons, ownsOf_eq q]
  | .emp :: _, _, h => nomatch h
  | .al _ _ :: _, _, h => nomatch h
theorem Sta.popN : ∀ {es : List Ent} {xs : List V} {F : Hp}, Sta K B ⟨sl, es ++ st⟩ σ H (xs ++ vs) S F sv → es.length = xs.length → ∃ A F', Sta K B ⟨sl, st⟩ σ H vs S F' sv ∧ Sp2 F A F' ∧ RepTs (kc K B) S A (es.map Ent.tr) xs
  | [], [], F, s, _ => ⟨hnil, F, s, ⟨Dj.nil, rfl⟩, .nil⟩
  | e :: es, x :: xs, F, s, h => by
    obtain ⟨F1, s1, _, A1, q1, q2⟩ := Sta.pop (st := es ++ st) (vs := xs ++ vs) s
    obtain ⟨A2, F2, s2, k1, k2⟩ := s1.popN (by simpa using h)
    have e1 := q1.e
    have e2 := k1.e
    subst e2
    refine ⟨join A1 A2, F2, s2, ⟨Dj.jl q1.d.symm.r.symm k1.d, by rw [e1, join_assoc]⟩, .cons q1.d.symm.l.symm q2 k2⟩
  | [], _ :: _, _, _, h => by simp at h
  | _ :: _, [], _, _, h => by simp at h
theorem RepTs.rev {K : Kc} : ∀ {ts : List T} {xs : List V} {F : Hp}, RepTs K S F ts xs → RepTs K S F ts.reverse xs.reverse
  | [], _, _, .nil => .nil
  | t :: ts, _, _, .cons d h r => by
    rw [List.reverse_cons, List.reverse_cons, join_comm d]
    exact r.rev.app d.symm (RepTs.one h)
/-- the focus upon a part of a slot's tree -/
theorem Sta.focus (s : Sta K B ⟨sl, st⟩ σ H vs S F sv) (h : sl[i]? = some (.own t)) (hp : t.at p = some u) : ∃ x A G, Sp2 F A G ∧ RepT (kc K B) S A u x ∧ (∃ r, sv[i]? = some r ∧ Wk H r p x) ∧
    (∀ S' u' A' H', Ex S S' → Dj A' G → RepT (kc K B) S' A' u' x → Ex S' H' → Ex (join A' G) H' → Dj (join A' G) S' → ((⟨sl, st⟩ : En).free i p = true) → (∀ b o, B.H b = some o → ¬ B.F b → H' b = some o ∧ A' b = none) → (∀ b, B.H b ≠ none → ¬ B.F b → B.S b = none → S' b = none) → (∀ b, H b ≠ none → H' b ≠ none) → Ex B.lkd H' →
      Sta K B ⟨sl.set i (.own (t.put p u')), st⟩ σ H' vs S' (join A' G) sv) := by
  have hi := (List.getElem?_eq_some_iff.mp h).1
  have g1 : ((st ++ sl).map Ent.tr)[st.length + i]? = some t := by rw [List.getElem?_map, List.getElem?_append_right (by omega), Nat.add_sub_cancel_left, h]; rfl
  obtain ⟨r, A0, G0, q1, q2, q3, q4, _, q6⟩ := s.rep.foc g1
  have lv : vs.length = st.length := s.lenv
  rw [← lv, List.getElem?_append_right (by omega), Nat.add_sub_cancel_left] at q1
  obtain ⟨x, A, A2, k1, k2, k3, k4, k5⟩ := q3.focus hp
  have e1 := q2.e
  have e2 := k1.e
  subst e2
  have d1 : Dj A G0 := q2.d.l
  have d2 : Dj A2 G0 := q2.d.r
  have eA2F : Ex A2 F := by rw [e1]; exact (Ex.r k1.d).trans Ex.l
  have eAF : Ex (join A A2) F := by rw [e1]; exact Ex.l
  refine ⟨x, A, join A2 G0, ⟨k1.d.jr d1, by rw [e1, join_assoc]⟩, k2, ⟨r, q1, k3 H (eA2F.trans s.exF) s.exS⟩, fun S' u' A' H' eS dA hu' eS' eF' dS' hf bF' bN' bH' lk' => ?_⟩
  have dA2 : Dj A' A2 := dA.symm.l.symm
  have dG0 : Dj A' G0 := dA.symm.r.symm
  have newslot : RepT (kc K B) S' (join A' A2) (t.put p u') r := k4 S' u' A' eS dA2 hu'
  have newrep := q4 S' (t.put p u') (join A' A2) eS (Dj.jl dG0 d2) newslot
  rw [join_assoc] at newrep
  have eset : ((st ++ sl).map Ent.tr).set (st.length + i) (t.put p u') = (st ++ sl.set i (.own (t.put p u'))).map Ent.tr := by
    rw [List.map_append, List.set_append_right _ _ (by simp), List.length_map, Nat.add_sub_cancel_left, List.map_append, List.map_set]; rfl
  rw [eset] at newrep
  have eG : Ex (join A2 G0) H' := (Ex.r dA).trans eF'
  have put_at : ∀ {p q : List Sp} {t : T}, (t.at p).isSome = true → (t.at q).isSome = true → under p q = false → ((t.put p u').at q).isSome = true := by
    intro p
    induction p with
    | nil =>
      intro q t _ _ hu
      cases q with
      | nil => rfl
      | cons s q => cases hu
    | cons s p ih =>
      intro q t h1 h2 hu
      cases q with
      | nil => rfl
      | cons s' q =>
        unfold T.at at h1 h2
        unfold T.put
        cases w1 : t.step s with
        | none => rw [w1] at h1; cases h1
        | some w =>
          rw [w1] at h1
          show ((t.put1 s (w.put p u')).at (s' :: q)).isSome = true
          unfold T.at
          have same : ∀ z, (t.put1 s z).step s = some z := fun z => by
            cases t <;> cases s <;> simp [T.step] at w1
            case tup.ix ts j =>
              show (ts.set j z)[j]? = some z
              rw [List.getElem?_set_self (List.getElem?_eq_some_iff.mp w1).1]
            case lst.ix m ts j =>
              cases m with
              | fz => simp [T.step] at w1
              | mu =>
                show (ts.set j z)[j]? = some z
                rw [List.getElem?_set_self (List.getElem?_eq_some_iff.mp w1).1]
            case dct.key m kvs k =>
              show gGet (gPut kvs k z) k = some z
              rw [gGet_put, if_pos rfl]
            case ins.fld C fs f =>
              show (putD f z fs).lookup f = some z
              clear h1 h2
              induction fs with
              | nil => cases w1
              | cons g fs ih =>
                obtain ⟨g1, g2⟩ := g
                unfold putD
                by_cases e : g1 = f
                · rw [if_pos e, e, List.lookup_cons, beq_self_eq_true]
                · rw [if_neg e, List.lookup_cons, beq_eq_false_iff_ne.mpr (fun z => e z.symm)]
                  rw [List.lookup_cons, beq_eq_false_iff_ne.mpr (fun z => e z.symm)] at w1
                  exact ih w1
          have diff : ∀ z, s' ≠ s → (t.put1 s z).step s' = t.step s' := fun z hs => by
            cases t <;> cases s <;> simp [T.step] at w1
            case tup.ix ts j =>
              cases s' with
              | ix j' => show (ts.set j z)[j']? = ts[j']?; rw [List.getElem?_set_ne (fun e => hs (by rw [e]))]
              | _ => rfl
            case lst.ix m ts j =>
              cases m with
              | fz => simp [T.step] at w1
              | mu =>
                cases s' with
                | ix j' => show (ts.set j z)[j']? = ts[j']?; rw [List.getElem?_set_ne (fun e => hs (by rw [e]))]
                | _ => rfl
            case dct.key m kvs k =>
              cases s' with
              | key k' => show gGet (gPut kvs k z) k' = gGet kvs k'; rw [gGet_put, if_neg (fun e => hs (by rw [e]))]
              | _ => rfl
            case ins.fld C fs f =>
              cases s' with
              | fld f' =>
                show (putD f z fs).lookup f' = fs.lookup f'
                have nf : f' ≠ f := fun e => hs (by rw [e])
                clear h1 h2 same
                induction fs with
                | nil => cases w1
                | cons g fs ih =>
                  obtain ⟨g1, g2⟩ := g
                  unfold putD
                  by_cases e : g1 = f
                  · subst e; rw [if_pos rfl, List.lookup_cons, List.lookup_cons, beq_eq_false_iff_ne.mpr nf]
                  · rw [List.lookup_cons, beq_eq_false_iff_ne.mpr (fun z => e z.symm)] at w1
                    rw [if_neg e, List.lookup_cons, List.lookup_cons]
                    cases f' == g1 with
                    | true => rfl
                    | false => exact ih w1
              | _ => rfl
          by_cases es : s' = s
          · subst es
            rw [same]
            rw [w1] at h2
            have hu' : under p q = false := by unfold under at hu; rw [if_pos rfl] at hu; exact hu
            exact ih h1 h2 hu'
          · rw [diff _ es]; exact h2
  have okk : ∀ (m : Nat) e v, (st ++ sl)[m]? = some e → (vs ++ sv)[m]? = some v → Ent.freeE i p e = true → EntOk H' (sl.set i (.own (t.put p u'))) sv e v := fun m e v h1 h2 h3 => by
    have old := s.al m e v h1 h2
    cases e with
    | emp => trivial
    | own _ => trivial
    | al j q =>
      obtain ⟨tj, rj, a1, a2, a3, a4⟩ := old
      by_cases hj : j = i
      · subst hj
        have hsl : sl[j]? = some (.own tj) := a1
        rw [hsl] at h; cases h
        rw [q1] at a3; cases a3
        have hu : under p q = false := by
          cases hb : under p q with
          | false => rfl
          | true => simp [Ent.freeE, hb] at h3
        refine ⟨_, r, List.getElem?_set_self hi, put_at (by rw [hp]; rfl) a2 hu, q1, ?_⟩
        exact k5 q H H' v hu a2 (eAF.trans s.exF) s.exS (Ex.l.trans eG) (eS.trans eS') a4
      · refine ⟨tj, rj, by rw [List.getElem?_set_ne (fun z => hj z.symm)]; exact a1, a2, a3, ?_⟩
        have hjl := (List.getElem?_eq_some_iff.mp a1).1
        have gj : ((st ++ sl).map Ent.tr)[st.length + j]? = some tj := by rw [List.getElem?_map, List.getElem?_append_right (by omega), Nat.add_sub_cancel_left, a1]; rfl
        obtain ⟨x', G, z1, z2, z3⟩ := q6 (st.length + j) tj (fun z => hj (by omega)) gj
        rw [← lv, List.getElem?_append_right (by omega), Nat.add_sub_cancel_left, a3] at z1
        cases z1
        have eGF : Ex G0 F := by rw [e1]; exact Ex.r q2.d
        exact wk_in z2 ((z3.trans eGF).trans s.exF) s.exS ((z3.trans (Ex.r d2)).trans eG) (eS.trans eS') a2 a4
  have hfr := hf
  unfold En.free at hfr
  rw [Bool.and_eq_true] at hfr
  refine ⟨eS', eF', dS', by rw [s.len]; simp, by rw [s.lens]; simp, s.lenv, fun m e hm => ?_, newrep, fun m e v h1 h2 => ?_, s.bS.trans eS, fun b o h1 h2 => ⟨(bF' b o h1 h2).1, join_none (bF' b o h1 h2).2 ?_⟩, bN', fun b hb => bH' b (s.bH b hb), s.pin, lk', s.lkf⟩
  · by_cases em : i = m
    · subst em
      rcases s.slv i _ h with z | z
      · exact .inl z
      · cases z
    · have hm' : sl[m]? = some e := by
        have : (sl.set i (.own (t.put p u')))[m]? = some e := hm
        rwa [List.getElem?_set_ne em] at this
      exact s.slv m e hm'
  · by_cases hm : m < st.length
    · have h1' : st[m]? = some e := by
        have : (st ++ sl.set i (.own (t.put p u')))[m]? = some e := h1
        rwa [List.getElem?_append_left hm] at this
      exact okk m e v (by rw [List.getElem?_append_left hm]; exact h1') h2 (List.all_eq_true.mp hfr.1 _ (List.mem_of_getElem? h1'))
    · have h1' : (sl.set i (.own (t.put p u')))[m - st.length]? = some e := by
        have : (st ++ sl.set i (.own (t.put p u')))[m]? = some e := h1
        rwa [List.getElem?_append_right (by omega)] at this
      by_cases em : i = m - st.length
      · rw [← em, List.getElem?_set_self hi] at h1'
        cases h1'
        trivial
      · rw [List.getElem?_set_ne em] at h1'
        exact okk m e v (by rw [List.getElem?_append_right (by omega)]; exact h1') h2 (List.all_eq_true.mp hfr.2 _ (List.mem_of_getElem? h1'))
  · have := (s.bF b o h1 h2).2
    have hh : Ex (join A2 G0) F := by rw [e1, join_assoc]; exact Ex.r (k1.d.jr d1)
    exact hh.free this
end
end Vt

/-! Moves of the state; the judgements. -/
namespace Vt
open PySem PySem.Spec PyProof.Rows L2

section
variable {K : PySem.W.Frag} {B : Base} {δ : En} {σ : L2.St} {H H' : Hp} {vs xs : List V} {v w r x y : V} {S F : Hp} {sv : List V} {t u : T} {e : Ent} {st sl es : List Ent} {i : Nat} {p q : List Sp} {a : Addr} {ts : List T}
theorem map_own (ts : List T) : (ts.map Ent.own).map Ent.tr = ts := by
  rw [List.map_map]
  conv => rhs; rw [← List.map_id ts]
  rfl
theorem Sta.freshF (s : Sta K B δ σ H vs S F sv) (h : H a = none) : S a = none ∧ F a = none ∧ B.H a = none := ⟨s.exS.free h, s.exF.free h, s.base_none h⟩
/-- a cell of our own is laid about what stands on top -/
theorem Sta.cell {A : Hp} {o : HO} (s : Sta K B ⟨sl, st⟩ σ H vs S F sv) (hp : H a = none) (d : Dj A F) (dS : Dj A S) (eA : Ex A H) (hb : ∀ b o, B.H b = some o → ¬ B.F b → A b = none) (r : RepT (kc K B) S (join (one a o) A) t (.ref a)) : Sta K B ⟨sl, .own t :: st⟩ σ (upd H a o) (.ref a :: vs) S (join (join (one a o) A) F) sv := by
  obtain ⟨f1, f2, f3⟩ := s.freshF hp
  refine (s.grow hp).push r (Dj.jl (Dj.one f2) d) (Dj.jl (Dj.one f1) dS) (Ex.join (Ex.one upd_same) (eA.trans (exUpd hp))) fun b o' h1 h2 => join_none ?_ (hb b o' h1 h2)
  cases q : one a o b with
  | none => rfl
  | some w =>
    obtain ⟨rfl, _⟩ := one_some q
    rw [f3] at h1; cases h1
theorem Sta.parts (s : Sta K B ⟨sl, es ++ st⟩ σ H (xs ++ vs) S F sv) (hl : es.length = xs.length) : ∃ A F', Sta K B ⟨sl, st⟩ σ H vs S F' sv ∧ Dj A F' ∧ Dj A S ∧ Ex A H ∧ (∀ b o, B.H b = some o → ¬ B.F b → A b = none) ∧ RepTs (kc K B) S A (es.map Ent.tr) xs := by
  obtain ⟨A, F', s', k, r⟩ := s.popN hl
  have e := k.e
  subst e
  exact ⟨A, F', s', k.d, s.dj.l, Ex.l.trans s.exF, fun b o h1 h2 => Ex.l.free (s.bF b o h1 h2).2, r⟩
/-- a list of what stands on top -/
theorem StT.mkL (h : StT K B ⟨sl, (ts.map Ent.own).reverse ++ st⟩ σ H (xs.reverse ++ vs)) (hl : ts.length = xs.length) (hp : H a = none) : StT K B ⟨sl, .own (.lst .mu ts) :: st⟩ σ (upd H a (.lst xs)) (.ref a :: vs) := by
  obtain ⟨S, F, sv, s⟩ := h
  obtain ⟨A, F', s', d1, d2, d3, d4, r⟩ := s.parts (by simp [hl])
  rw [List.map_reverse, map_own] at r
  have r' := r.rev
  rw [List.reverse_reverse, List.reverse_reverse] at r'
  exact ⟨S, _, sv, s'.cell hp d1 d2 d3 d4 (.lmu (d3.free hp) r')⟩
theorem StT.mkT (h : StT K B ⟨sl, (ts.map Ent.own).reverse ++ st⟩ σ H (xs.reverse ++ vs)) (hl : ts.length = xs.length) (hp : H a = none) : StT K B ⟨sl, .own (.tup ts) :: st⟩ σ (upd H a (.tup xs)) (.ref a :: vs) := by
  obtain ⟨S, F, sv, s⟩ := h
  obtain ⟨A, F', s', d1, d2, d3, d4, r⟩ := s.parts (by simp [hl])
  rw [List.map_reverse, map_own] at r
  have r' := r.rev
  rw [List.reverse_reverse, List.reverse_reverse] at r'
  have g := s'.growS (o := .tup xs) hp
  have sa : S a = none := s.exS.free hp
  refine ⟨_, _, sv, g.push (.tup upd_same (r'.mono ((Ex.refl S).new sa))) d1 (fun b z => ?_) (d3.trans (exUpd hp)) d4⟩
  rw [upd_ne (fun e => by subst e; exact z (d3.free hp))]
  exact d2 b z
/-- a new list of data -/
theorem Sta.newL (s : Sta K B ⟨sl, st⟩ σ H vs S F sv) (r : RepTs (kc K B) S hnil ts xs) (hp : H a = none) : StT K B ⟨sl, .own (.lst .mu ts) :: st⟩ σ (upd H a (.lst xs)) (.ref a :: vs) :=
  ⟨S, _, sv, s.cell hp Dj.nil Dj.nil Ex.nil (fun _ _ _ _ => rfl) (.lmu rfl r)⟩
theorem Sta.newT (s : Sta K B ⟨sl, st⟩ σ H vs S F sv) (r : RepTs (kc K B) S hnil ts xs) (hp : H a = none) : StT K B ⟨sl, .own (.tup ts) :: st⟩ σ (upd H a (.tup xs)) (.ref a :: vs) :=
  ⟨_, F, sv, (s.growS (o := .tup xs) hp).pushD (.tup upd_same (r.mono ((Ex.refl S).new (s.exS.free hp))))⟩
theorem StT.newD (h : StT K B ⟨sl, st⟩ σ H vs) (hp : H a = none) : StT K B ⟨sl, .own (.dct false []) :: st⟩ σ (upd H a (.dK [])) (.ref a :: vs) := by
  obtain ⟨S, F, sv, s⟩ := h
  exact ⟨S, _, sv, s.cell hp Dj.nil Dj.nil Ex.nil (fun _ _ _ _ => rfl) (.dct (F := hnil) (kvs := []) (kv := []) rfl rfl rfl .nil .nil)⟩
/-- a part of a tree on top takes its place -/
theorem StT.kid {s : Sp} (h : StT K B ⟨sl, .own t :: st⟩ σ H (.ref a :: vs)) (hs : t.step s = some u) : ∃ o x, H a = some o ∧ stepV o s = some x ∧ StT K B ⟨sl, .own u :: st⟩ σ H (x :: vs) := by
  obtain ⟨S, F, sv, s0⟩ := h
  obtain ⟨F', s', eF, A, k, r⟩ := s0.pop
  obtain ⟨a', o, x, A1, G, g1, g2, g3, g4, g5, _⟩ := RepT.foc (t := t) r hs
  cases g1
  have e := k.e
  subst e
  have e2 := g4.e
  have eA : Ex A H := Ex.l.trans s0.exF
  have e1A : Ex A1 A := by rw [e2]; exact Ex.l
  have eGA : Ex G A := by rw [e2]; exact Ex.r g4.d
  refine ⟨o, x, g2.elim (fun z => eA _ _ (eGA _ _ z)) (s0.exS _ _), g3, S, _, sv, s'.push g5 (k.d.exl e1A) (s0.dj.l.exl e1A) (e1A.trans eA) fun b w h1 h2 => ?_⟩
  have := (s0.bF b w h1 h2).2
  exact e1A.free (Ex.l.free this)
/-- the top goes into slot i -/
theorem StT.setS (h : StT K B ⟨sl, e :: st⟩ σ H (v :: vs)) (hn : (⟨sl, e :: st⟩ : En).noal i = true) (hi : i < sl.length) (hp : B.pin i = none) : StT K B ⟨sl.set i e, st⟩ (σ.set i (some v)) H vs := by
  obtain ⟨S, F, sv, s⟩ := h
  obtain ⟨F1, s1, eF, A, k, r⟩ := s.pop
  have e0 := k.e
  subst e0
  have lv : vs.length = st.length := s1.lenv
  have hold : ((st ++ sl).map Ent.tr)[st.length + i]? = some (sl[i].tr) := by
    rw [List.getElem?_map, List.getElem?_append_right (by omega), Nat.add_sub_cancel_left, List.getElem?_eq_getElem hi]; rfl
  obtain ⟨y, A0, G0, q1, q2, q3, _, q5, q6⟩ := s1.rep.foc hold
  have eq2 := q2.e
  subst eq2
  have new := q5 S e.tr v A (Ex.refl S) k.d.symm.r.symm r
  have eset : ((st ++ sl).map Ent.tr).set (st.length + i) e.tr = (st ++ sl.set i e).map Ent.tr := by
    rw [List.map_append, List.set_append_right _ _ (by simp), List.length_map, Nat.add_sub_cancel_left, List.map_append, List.map_set]
  have esetv : (vs ++ sv).set (st.length + i) v = vs ++ sv.set i v := by
    rw [List.set_append_right _ _ (by omega), lv, Nat.add_sub_cancel_left]
  rw [eset, esetv] at new
  unfold En.noal at hn
  rw [Bool.and_eq_true, List.all_cons, Bool.and_eq_true] at hn
  obtain ⟨⟨n0, n1⟩, n2⟩ := hn
  have hsv : i < sv.length := by rw [s.lens]; exact hi
  have okk : ∀ e' v', EntOk H sl sv e' v' → Ent.noal i e' = true → EntOk H (sl.set i e) (sv.set i v) e' v' := fun e' v' h hne => by
    cases e' with
    | al j q =>
      obtain ⟨tj, rj, a1, a2, a3, a4⟩ := h
      have : i ≠ j := fun z => by subst z; simp [Ent.noal] at hne
      exact ⟨tj, rj, by rw [List.getElem?_set_ne this]; exact a1, a2, by rw [List.getElem?_set_ne this]; exact a3, a4⟩
    | _ => trivial
  have eAH : Ex A H := Ex.l.trans s.exF
  have eGH : Ex G0 H := ((Ex.r q2.d).trans eF).trans s.exF
  refine ⟨S, join A G0, sv.set i v, s.exS, Ex.join eAH eGH, Dj.jl s.dj.l (s.dj.r.exl (Ex.r q2.d)), by simp; exact s.len, by simp; exact s.lens, lv, fun m e' hm => ?_, new, fun m e' v' h1 h2 => ?_, s.bS, fun b o h1 h2 => ⟨(s.bF b o h1 h2).1, join_none (Ex.l.free (s.bF b o h1 h2).2) (((Ex.r q2.d).trans eF).free (s.bF b o h1 h2).2)⟩, s.bN, s.bH, fun j w hj => ?_, s.lk, s.lkf⟩
  · have hm' : (sl.set i e)[m]? = some e' := hm
    by_cases em : i = m
    · subst em
      refine .inl ⟨v, List.getElem?_set_self hsv, List.getElem?_set_self ?_⟩
      rw [s.len]; exact hi
    · rw [List.getElem?_set_ne em] at hm'
      rw [List.getElem?_set_ne em, List.getElem?_set_ne em]
      exact s.slv m e' hm'
  · have h1' : (st ++ sl.set i e)[m]? = some e' := h1
    by_cases hm : m < st.length
    · rw [List.getElem?_append_left hm] at h1'
      rw [List.getElem?_append_left (by omega)] at h2
      exact okk e' v' (s1.al m e' v' (by rw [List.getElem?_append_left hm]; exact h1') (by rw [List.getElem?_append_left (by omega)]; exact h2)) (List.all_eq_true.mp n1 _ (List.mem_of_getElem? h1'))
    · rw [List.getElem?_append_right (by omega)] at h1' h2
      by_cases em : i = m - st.length
      · rw [← em, List.getElem?_set_self hi] at h1'
        rw [lv, ← em, List.getElem?_set_self hsv] at h2
        cases h1'
        cases h2
        exact okk e v (s.al 0 e v rfl rfl) n0
      · rw [List.getElem?_set_ne em] at h1'
        rw [lv, List.getElem?_set_ne em] at h2
        exact okk e' v' (s1.al m e' v' (by rw [List.getElem?_append_right (by show st.length ≤ _; omega)]; exact h1') (by rw [List.getElem?_append_right (by omega), lv]; exact h2)) (List.all_eq_true.mp n2 _ (List.mem_of_getElem? h1'))
  · have : i ≠ j := fun z => by subst z; rw [hp] at hj; cases hj
    rw [List.getElem?_set_ne this]
    exact s.pin j w hj
/-- A CHANGE of a part: what stands on top goes into it; A' is its new part -/
theorem Sta.mut {o : HO} (s : Sta K B ⟨sl, es ++ .al i p :: st⟩ σ H (xs ++ .ref a :: vs) S F sv) (hl : es.length = xs.length) (h : sl[i]? = some (.own t)) (hp : t.at p = some u) (hf : (⟨sl, st⟩ : En).free i p = true) (hna : B.lkd a = none) (u' : T)
    (new : ∀ A E, RepT (kc K B) S A u (.ref a) → RepTs (kc K B) S E (es.map Ent.tr) xs → Dj E A → Ex A H → ∃ A', RepT (kc K B) S A' u' (.ref a) ∧ (∀ b, A' b ≠ none → A b ≠ none ∨ E b ≠ none) ∧ (∀ b w, A' b = some w → b ≠ a → (A b = some w ∨ E b = some w)) ∧ A' a = some o ∧ A a ≠ none) :
    ∃ F', Sta K B ⟨sl.set i (.own (t.put p u')), st⟩ σ (upd H a o) vs S F' sv := by
  obtain ⟨E, F1, s1, k, rE⟩ := s.popN hl
  have e0 := k.e
  subst e0
  obtain ⟨F2, s2, eF2, A0, k2, _⟩ := s1.pop
  have al := s1.al 0 _ (.ref a) rfl rfl
  obtain ⟨t', r', a1, a2, a3, a4⟩ := al
  have a1' : sl[i]? = some (.own t') := a1
  rw [h] at a1'; cases a1'
  obtain ⟨x, A, G, f1, f2, ⟨r2, f3, f4⟩, f5⟩ := s2.focus h hp
  rw [f3] at a3; cases a3
  have ex := f4.det a4
  subst ex
  have e1 := f1.e
  subst e1
  have eAH : Ex A H := Ex.l.trans s2.exF
  have dEA : Dj E A := (k.d.exr eF2).exr Ex.l
  have dEG : Dj E G := (k.d.exr eF2).exr (Ex.r f1.d)
  obtain ⟨A', n1, n2, n3, n4, n5⟩ := new A E f2 rE dEA eAH
  have HA : ∀ b, A' b ≠ none → b = a ∨ H b = A' b := fun b hb => by
    by_cases z : b = a
    · exact .inl z
    · cases q : A' b with
      | none => exact absurd q hb
      | some w =>
        rcases n3 b w q z with z | z
        · exact .inr (eAH _ _ z)
        · exact .inr (s.exF _ _ (join_l z))
  have dA'G : Dj A' G := fun b hb => (n2 b hb).elim (f1.d b) (dEG b)
  have notA : ∀ b, ¬ A b ≠ none → b ≠ a := fun b hb z => by subst z; exact hb n5
  have eG : Ex G (upd H a o) := fun b w hb => by
    rw [upd_ne (fun z => by subst z; rw [f1.d _ n5] at hb; cases hb)]
    exact s2.exF _ _ (Ex.r f1.d _ _ hb)
  have eA' : Ex A' (upd H a o) := fun b w hb => by
    rcases HA b (ne_none hb) with rfl | z
    · rw [n4] at hb; cases hb; exact upd_same
    · by_cases e : b = a
      · subst e; rw [n4] at hb; cases hb; exact upd_same
      · rw [upd_ne e, z]; exact hb
  have Sa : S a = none := s2.dj a (by cases q : A a with | none => exact absurd q n5 | some w => rw [join_l q]; simp)
  have res := f5 S u' A' (upd H a o) (Ex.refl S) dA'G n1 (fun b w hb => by
    rw [upd_ne (fun z => by subst z; rw [Sa] at hb; cases hb)]
    exact s.exS b w hb) (Ex.join eA' eG) (Dj.jl (fun b hb => (n2 b hb).elim (fun z => s2.dj b (by cases q : A b with | none => exact absurd q z | some w => rw [join_l q]; simp)) (fun z => s.dj.l b z)) (s2.dj.r)) hf (fun b w h1 h2 => ?_) s.bN (fun b hb => ?_) (fun b w hb => by
    rw [upd_ne (fun z => by subst z; rw [hna] at hb; cases hb)]; exact s.lk b w hb)
  · exact ⟨_, res⟩
  · obtain ⟨z1, z2⟩ := s2.bF b w h1 h2
    have zA : A b = none := Ex.l.free z2
    have zE : E b = none := Ex.l.free (s.bF b w h1 h2).2
    refine ⟨by rw [upd_ne (fun z => by subst z; exact n5 zA)]; exact z1, ?_⟩
    cases q : A' b with
    | none => rfl
    | some w' => rcases n2 b (ne_none q) with z | z <;> contradiction
  · by_cases e : b = a
    · subst e; rw [upd_same]; simp
    · rw [upd_ne e]; exact hb
end

/-! ### what comes of a run -/
inductive Res where
  | ok (δ : En)
  | ex (C : Nat) (sl : List Ent)
  | no
def Res.bind (r : Res) (f : En → Res) : Res := match r with
  | .ok δ => f δ
  | .ex C sl => .ex C sl
  | .no => .no
inductive RB where
  | ok (b : Bool) (δ : En)
  | ex (C : Nat) (sl : List Ent)
  | no
inductive SR where
  | nx (δ : En)
  | rt (δ : En)
  | bk (δ : En)
  | ct (δ : En)
  | ex (C : Nat) (sl : List Ent)
  | no
abbrev EF := En → Res
abbrev BF := En → RB
abbrev SF := En → SR
/-! ### canonical readings -/
section
variable (X : Cx)
def tE (e : Expr) : TE := fun σ H Q => ∀ (pins : List (Addr × Obj)) (s : Shared), Inv X pins σ H s → wpAny (model X.prog X.w) X.A (eval e X.env) (EP X pins σ Q) X.xe s
def tT (e : Expr) : TT := fun σ H Q => ∀ (pins : List (Addr × Obj)) (s : Shared), Inv X pins σ H s → wpAny (model X.prog X.w) X.A (isTrue e X.env (eval e X.env)) (TP X pins σ Q) X.xe s
def tW (e : Expr) : TT := fun σ H Q => ∀ (whole : Sem Value) (pins : List (Addr × Obj)) (s : Shared), Inv X pins σ H s → wpAny (model X.prog X.w) X.A (isTrue e X.env whole) (TP X pins σ Q) X.xe s
def tA (es : List Expr) : TA := fun σ H Q => ∀ (pos : Pos) (pins : List (Addr × Obj)) (s : Shared), Inv X pins σ H s → wpAny (model X.prog X.w) X.A (spliced (backTo pos (starEach es X.env))) (AP X pins σ Q) X.xe s
def tO (e : Option Expr) : TO := fun σ H Q => ∀ (pins : List (Addr × Obj)) (s : Shared), Inv X pins σ H s → wpAny (model X.prog X.w) X.A (evalPart e X.env) (fun u s' => ∃ o H', Inv X pins σ H' s' ∧ IsPart u o ∧ Q o H') X.xe s
def tS (st : Stmt) : TS := fun D σ H => ∀ (pins : List (Addr × Obj)) (s : Shared), Inv X pins σ H s → wpAny (model X.prog X.w) X.A (exec st X.env) (SP X pins D) X.xe s
def tSs (st : List Stmt) : TS := fun D σ H => ∀ (pins : List (Addr × Obj)) (s : Shared), Inv X pins σ H s → wpAny (model X.prog X.w) X.A (execs st X.env) (SP X pins D) X.xe s
def tR2 (f : Value → Value → Sem Value) : R2 := fun x y H Q => ∀ (pins : List (Addr × Obj)) (s : Shared) (σ : L2.St) (v u : Value), Inv X pins σ H s → RelV x v → RelV y u → wpAny (model X.prog X.w) X.A (f v u) (EP X pins σ Q) X.xe s
def tR1 (f : Value → Sem Value) : V → Hp → VK → Prop := fun x H Q => ∀ (pins : List (Addr × Obj)) (s : Shared) (σ : L2.St) (v : Value), Inv X pins σ H s → RelV x v → wpAny (model X.prog X.w) X.A (f v) (EP X pins σ Q) X.xe s
def tRC (f : Value) : List V → Hp → VK → Prop := fun xs H Q => ∀ (pins : List (Addr × Obj)) (s : Shared) (σ : L2.St) (us : List Value), Inv X pins σ H s → Vals xs us → wpAny (model X.prog X.w) X.A (call f us) (EP X pins σ Q) X.xe s
def tRM (id : String) : V → List V → Hp → VK → Prop := fun x xs H Q => ∀ (pins : List (Addr × Obj)) (s : Shared) (σ : L2.St) (v : Value) (us : List Value), Inv X pins σ H s → RelV x v → Vals xs us → wpAny (model X.prog X.w) X.A (call (.builtin id) (v :: us)) (EP X pins σ Q) X.xe s
def tRT : V → Hp → (Bool → Hp → Prop) → Prop := fun x H Q => ∀ (pins : List (Addr × Obj)) (s : Shared) (σ : L2.St) (v : Value), Inv X pins σ H s → RelV x v → wpAny (model X.prog X.w) X.A (truthy v) (TP X pins σ Q) X.xe s
def tRI : R2 := fun x y H Q => ∀ (value slice : Expr) (pins : List (Addr × Obj)) (s : Shared) (σ : L2.St) (v u : Value), Inv X pins σ H s → RelV x v → RelV y u →
  subscripted slice false v u = operate [v, u] (getItem v u) → wpAny (model X.prog X.w) X.A (subscriptTail value slice v u) (EP X pins σ Q) X.xe s
def tRS : TSet := fun o i v H Q => ∀ (pins : List (Addr × Obj)) (s : Shared) (σ : L2.St) (ov iv u : Value), Inv X pins σ H s → RelV o ov → RelV i iv → RelV v u → wpAny (model X.prog X.w) X.A (setItem ov iv u) (fun _ s' => ∃ H', Inv X pins σ H' s' ∧ Q H') X.xe s
end
section
variable {X : Cx}
theorem pE (e : Expr) : PE X e (tE X e) := ⟨fun pins s σ H Q I h => h pins s I⟩
theorem pT (e : Expr) : PT X e (tT X e) := ⟨fun pins s σ H Q I h => h pins s I⟩
theorem pW (e : Expr) : PW X e (tW X e) := ⟨fun w pins s σ H Q I h => h w pins s I⟩
theorem pA (es : List Expr) : PA X es (tA X es) := ⟨fun pos pins s σ H Q I h => h pos pins s I⟩
theorem pO (e : Option Expr) : PO X e (tO X e) := ⟨fun pins s σ H Q I h => h pins s I⟩
theorem pS (st : Stmt) : PS X st (tS X st) := ⟨fun pins s σ H D I h => h pins s I⟩
theorem pSs (st : List Stmt) : PSs X st (tSs X st) := ⟨fun pins s σ H D I h => h pins s I⟩
theorem pR2 (f : Value → Value → Sem Value) : OpR X f (tR2 X f) := fun pins s σ H x y v u Q I r1 r2 h => h pins s σ v u I r1 r2
theorem pR1 (f : Value → Sem Value) : UnR X f (tR1 X f) := fun pins s σ H x v Q I r1 h => h pins s σ v I r1
theorem pRC (f : Value) : CallR X f (tRC X f) := fun pins s σ H xs us Q I r h => h pins s σ us I r
theorem pRM (id : String) : MtR X id (tRM X id) := fun pins s σ H x xs v us Q I r1 r h => h pins s σ v us I r1 r
theorem pRT : TruR X (tRT X) := fun pins s σ H x v Q I r h => h pins s σ v I r
theorem pRI : IxR X (tRI X) := fun a b pins s σ H x y v u Q I r1 r2 h q => h a b pins s σ v u I r1 r2 q
theorem pRS : PSet X (tRS X) := fun pins s σ H o i v ov iv u Q I r1 r2 r3 h => h pins s σ ov iv u I r1 r2 r3
theorem _root_.L2.PE.tov {e : Expr} {t : TE} (h : PE X e t) {σ : L2.St} {H : Hp} {Q : VK} (q : t σ H Q) : tE X e σ H Q := fun pins s I => h.run pins s σ H Q I q
theorem _root_.L2.PT.tov {e : Expr} {t : TT} (h : PT X e t) {σ : L2.St} {H : Hp} {Q : Bool → Hp → Prop} (q : t σ H Q) : tT X e σ H Q := fun pins s I => h.run pins s σ H Q I q
theorem _root_.L2.PW.tov {e : Expr} {t : TT} (h : PW X e t) {σ : L2.St} {H : Hp} {Q : Bool → Hp → Prop} (q : t σ H Q) : tW X e σ H Q := fun w pins s I => h.run w pins s σ H Q I q
theorem _root_.L2.PA.tov {es : List Expr} {t : TA} (h : PA X es t) {σ : L2.St} {H : Hp} {Q : List V → Hp → Prop} (q : t σ H Q) : tA X es σ H Q := fun pos pins s I => h.run pos pins s σ H Q I q
theorem _root_.L2.PO.tov {e : Option Expr} {t : TO} (h : PO X e t) {σ : L2.St} {H : Hp} {Q : Option Int → Hp → Prop} (q : t σ H Q) : tO X e σ H Q := fun pins s I => h.run pins s σ H Q I q
theorem _root_.L2.PS.tov {st : Stmt} {t : TS} (h : PS X st t) {σ : L2.St} {H : Hp} {D : Ends} (q : t D σ H) : tS X st D σ H := fun pins s I => h.run pins s σ H D I q
theorem _root_.L2.PSs.tov {st : List Stmt} {t : TS} (h : PSs X st t) {σ : L2.St} {H : Hp} {D : Ends} (q : t D σ H) : tSs X st D σ H := fun pins s I => h.run pins s σ H D I q
end

/-! ### the judgements -/
abbrev XF := Nat → List Ent → Prop
section
variable (X : Cx) (B : Base) (Ψ : XF)
def PostF (r : Res) (σ : L2.St) (vs : List V) (Q : VK) : Prop := match r with
  | .ok δ' => ∀ v H', StT X.K B δ' σ H' (v :: vs) → Q v H'
  | .ex C sl => Ψ C sl
  | .no => False
def PostB (r : RB) (σ : L2.St) (vs : List V) (Q : Bool → Hp → Prop) : Prop := match r with
  | .ok b δ' => ∀ H', StT X.K B δ' σ H' vs → Q b H'
  | .ex C sl => Ψ C sl
  | .no => False
def PostN (n : Nat) (r : Res) (σ : L2.St) (vs : List V) (Q : List V → Hp → Prop) : Prop := match r with
  | .ok δ' => ∀ xs H', xs.length = n → StT X.K B δ' σ H' (xs.reverse ++ vs) → Q xs H'
  | .ex C sl => Ψ C sl
  | .no => False
structure LiftE (r : SR) (vs : List V) (Dn : Ends) : Prop where
  nx : ∀ δ' σ H, r = .nx δ' → StT X.K B δ' σ H vs → Dn.nx σ H
  rt : ∀ δ' σ v H, r = .rt δ' → StT X.K B δ' σ H (v :: vs) → Dn.rt v H
  bk : ∀ δ' σ H, r = .bk δ' → StT X.K B δ' σ H vs → Dn.bk σ H
  ct : ∀ δ' σ H, r = .ct δ' → StT X.K B δ' σ H vs → Dn.ct σ H
  ex : ∀ C sl, r = .ex C sl → Ψ C sl
  no : r ≠ .no
def EvF (e : Expr) (f : EF) : Prop := ∀ δ σ H vs Q, StT X.K B δ σ H vs → PostF X B Ψ (f δ) σ vs Q → tE X e σ H Q
def TsF (e : Expr) (f : BF) : Prop := ∀ δ σ H vs Q, StT X.K B δ σ H vs → PostB X B Ψ (f δ) σ vs Q → tT X e σ H Q
def TwF (e : Expr) (f : BF) : Prop := ∀ δ σ H vs Q, StT X.K B δ σ H vs → PostB X B Ψ (f δ) σ vs Q → tW X e σ H Q
def AgF (n : Nat) (es : List Expr) (f : EF) : Prop := ∀ δ σ H vs Q, StT X.K B δ σ H vs → PostN X B Ψ n (f δ) σ vs Q → tA X es σ H Q
def StF (st : Stmt) (f : SF) : Prop := ∀ δ σ H vs Dn, StT X.K B δ σ H vs → LiftE X B Ψ (f δ) vs Dn → tS X st Dn σ H
def StFs (st : List Stmt) (f : SF) : Prop := ∀ δ σ H vs Dn, StT X.K B δ σ H vs → LiftE X B Ψ (f δ) vs Dn → tSs X st Dn σ H
/-- by values -/
def BiF (f : Value → Value → Sem Value) (g : EF) : Prop := ∀ δ σ H vs x y Q, StT X.K B δ σ H (y :: x :: vs) → PostF X B Ψ (g δ) σ vs Q → tR2 X f x y H Q
def UnF (f : Value → Sem Value) (g : EF) : Prop := ∀ δ σ H vs x Q, StT X.K B δ σ H (x :: vs) → PostF X B Ψ (g δ) σ vs Q → tR1 X f x H Q
def ClF (n : Nat) (f : Value) (g : EF) : Prop := ∀ δ σ H vs xs Q, xs.length = n → StT X.K B δ σ H (xs.reverse ++ vs) → PostF X B Ψ (g δ) σ vs Q → tRC X f xs H Q
def MtF (n : Nat) (id : String) (g : EF) : Prop := ∀ δ σ H vs x xs Q, xs.length = n → StT X.K B δ σ H (xs.reverse ++ x :: vs) → PostF X B Ψ (g δ) σ vs Q → tRM X id x xs H Q
def TrF (g : BF) : Prop := ∀ δ σ H vs x Q, StT X.K B δ σ H (x :: vs) → PostB X B Ψ (g δ) σ vs Q → tRT X x H Q
def IxF (g : EF) : Prop := ∀ δ σ H vs x y Q, StT X.K B δ σ H (y :: x :: vs) → PostF X B Ψ (g δ) σ vs Q → tRI X x y H Q
end
end Vt

/-! Rules of expressions. -/
namespace Vt
open PySem PySem.Spec PyProof.Rows L2

/-- what a context has for calls: no handled exception, room, where exceptions go -/
structure CxOk (X : Cx) (B : Base) (W : WX) (Ψ : XF) (k : Nat) : Prop where
  calm : X.calm = true
  takes : Takes X W
  own : PassesOwn (model X.prog X.w) X.A X.env X.xe
  psi : ∀ C sl σ H, Ψ C sl → StT X.K B ⟨sl, []⟩ σ H [] → W (.ref (B.cm C)) none σ H
  room : Room k X.A
  nd : X.N.Nodup
theorem StT.drop {K : PySem.W.Frag} {B : Base} {sl : List Ent} {σ : L2.St} {H : Hp} : ∀ {st : List Ent} {vs : List V}, StT K B ⟨sl, st⟩ σ H vs → StT K B ⟨sl, []⟩ σ H []
  | [], [], h => h
  | [], _ :: _, ⟨_, _, _, s⟩ => by have := s.lenv; simp at this
  | _ :: _, [], ⟨_, _, _, s⟩ => by have := s.lenv; simp at this
  | e :: st, v :: vs, h => h.pop.drop
def Res.bindB (r : Res) (f : En → RB) : RB := match r with
  | .ok δ => f δ
  | .ex C sl => .ex C sl
  | .no => .no
def RB.bind (r : RB) (f : Bool → En → RB) : RB := match r with
  | .ok b δ => f b δ
  | .ex C sl => .ex C sl
  | .no => .no
def RB.bindF (r : RB) (f : Bool → En → Res) : Res := match r with
  | .ok b δ => f b δ
  | .ex C sl => .ex C sl
  | .no => .no
section
variable {X : Cx} {B : Base} {Ψ : XF} {σ : L2.St} {vs : List V} {Q1 : VK}
theorem post_b {r : Res} {k : En → Res} {P : Res → Prop} (h : P (r.bind k)) (he : ∀ C sl, P (.ex C sl) → Ψ C sl) (hn : ¬ P .no) (f : ∀ δ1, P (k δ1) → ∀ v H', StT X.K B δ1 σ H' (v :: vs) → Q1 v H') : PostF X B Ψ r σ vs Q1 := by
  cases r with
  | ok δ1 => exact f δ1 h
  | ex C sl => exact he C sl h
  | no => exact hn h
theorem post_bB {r : Res} {k : En → RB} {P : RB → Prop} (h : P (r.bindB k)) (he : ∀ C sl, P (.ex C sl) → Ψ C sl) (hn : ¬ P .no) (f : ∀ δ1, P (k δ1) → ∀ v H', StT X.K B δ1 σ H' (v :: vs) → Q1 v H') : PostF X B Ψ r σ vs Q1 := by
  cases r with
  | ok δ1 => exact f δ1 h
  | ex C sl => exact he C sl h
  | no => exact hn h
theorem post_n {n : Nat} {Q2 : List V → Hp → Prop} {r : Res} {k : En → Res} {P : Res → Prop} (h : P (r.bind k)) (he : ∀ C sl, P (.ex C sl) → Ψ C sl) (hn : ¬ P .no) (f : ∀ δ1, P (k δ1) → ∀ xs H', xs.length = n → StT X.K B δ1 σ H' (xs.reverse ++ vs) → Q2 xs H') : PostN X B Ψ n r σ vs Q2 := by
  cases r with
  | ok δ1 => exact f δ1 h
  | ex C sl => exact he C sl h
  | no => exact hn h
theorem post_t {Q2 : Bool → Hp → Prop} {r : RB} {k : Bool → En → RB} {P : RB → Prop} (h : P (r.bind k)) (he : ∀ C sl, P (.ex C sl) → Ψ C sl) (hn : ¬ P .no) (f : ∀ b δ1, P (k b δ1) → ∀ H', StT X.K B δ1 σ H' vs → Q2 b H') : PostB X B Ψ r σ vs Q2 := by
  cases r with
  | ok b δ1 => exact f b δ1 h
  | ex C sl => exact he C sl h
  | no => exact hn h
theorem post_tF {Q2 : Bool → Hp → Prop} {r : RB} {k : Bool → En → Res} {P : Res → Prop} (h : P (r.bindF k)) (he : ∀ C sl, P (.ex C sl) → Ψ C sl) (hn : ¬ P .no) (f : ∀ b δ1, P (k b δ1) → ∀ H', StT X.K B δ1 σ H' vs → Q2 b H') : PostB X B Ψ r σ vs Q2 := by
  cases r with
  | ok b δ1 => exact f b δ1 h
  | ex C sl => exact he C sl h
  | no => exact hn h
end
/-! ### the words -/
def ePush (t : T) : EF := fun δ => .ok ⟨δ.sl, .own t :: δ.st⟩
def eName (i : Nat) : EF := fun δ => match δ.sl[i]? with
  | some (.own t) => .ok ⟨δ.sl, rdE i (.own t) :: δ.st⟩
  | some (.al j q) => .ok ⟨δ.sl, .al j q :: δ.st⟩
  | _ => .no
def eNil : EF := fun δ => .ok δ
def eThen (f g : EF) : EF := fun δ => (f δ).bind g
def eBin (f g k : EF) : EF := fun δ => ((f δ).bind g).bind k
/-- a bool on top -/
def popB : BF := fun δ => match δ.st with
  | .own (.bl b) :: st => .ok b ⟨δ.sl, st⟩
  | _ => .no
def tVal (f : EF) : BF := fun δ => (f δ).bindB popB
def truT : T → Option Bool
  | .non => some false
  | .bl b => some b
  | .int i => some (i != 0)
  | .str x => if x.length ≤ sizeLine then some ((x.length : Int) != 0) else none
  | .lst _ ts => some (!ts.isEmpty)
  | _ => none
def popTr : BF := fun δ => match δ.st with
  | e :: st => match look δ.sl e with
    | some t => match truT t with
      | some b => .ok b ⟨δ.sl, st⟩
      | none => .no
    | none => .no
  | [] => .no
def tTru (f : EF) : BF := fun δ => (f δ).bindB popTr
def tNot (f : BF) : BF := fun δ => (f δ).bind fun b δ1 => .ok (!b) δ1
def tAnd (f g : BF) : BF := fun δ => (f δ).bind fun b δ1 => if b = true then g δ1 else .ok false δ1
def tOr (f g : BF) : BF := fun δ => (f δ).bind fun b δ1 => if b = true then .ok true δ1 else g δ1
def eNot (f : EF) : EF := fun δ => ((f δ).bindB popB).bindF fun b δ1 => ePush (.bl (!b)) δ1
def eAnd (f g : EF) : EF := fun δ => ((f δ).bindB popB).bindF fun b δ1 => if b = true then g δ1 else ePush (.bl false) δ1
def eOr (f g : EF) : EF := fun δ => ((f δ).bindB popB).bindF fun b δ1 => if b = true then ePush (.bl true) δ1 else g δ1
def eIf (c : BF) (f g : EF) : EF := fun δ => (c δ).bindF fun b δ1 => if b = true then f δ1 else g δ1
/-- a < b < c: b once -/
def eDup : EF := fun δ => match δ.st with
  | .own y :: .own x :: st => if y.data = true then .ok ⟨δ.sl, .own y :: .own x :: .own y :: st⟩ else .no
  | _ => .no
def eChain (fa fb r1 fc r2 : EF) : EF := fun δ => ((((fa δ).bind fb).bind eDup).bind r1).bindB popB |>.bindF fun b δ1 => if b = true then (fc δ1).bind r2 else (match δ1.st with
  | _ :: st => ePush (.bl false) ⟨δ1.sl, st⟩
  | [] => .no)
def takeOwn : Nat → List Ent → Option (List T × List Ent)
  | 0, st => some ([], st)
  | n + 1, .own t :: st => (takeOwn n st).map fun p => (t :: p.1, p.2)
  | _ + 1, _ => none
theorem takeOwn_eq : ∀ {n : Nat} {st st' : List Ent} {ts : List T}, takeOwn n st = some (ts, st') → st = ts.map Ent.own ++ st' ∧ ts.length = n
  | 0, _, _, _, h => by cases h; exact ⟨rfl, rfl⟩
  | n + 1, .own t :: st, st', ts, h => by
    unfold takeOwn at h
    cases q : takeOwn n st with
    | none => rw [q] at h; cases h
    | some p =>
      rw [q] at h
      obtain ⟨us, st2⟩ := p
      simp at h
      obtain ⟨rfl, rfl⟩ := h
      obtain ⟨h1, h2⟩ := takeOwn_eq q
      exact ⟨by rw [h1]; rfl, by simp [h2]⟩
  | _ + 1, [], _, _, h => nomatch h
  | _ + 1, .emp :: _, _, _, h => nomatch h
  | _ + 1, .al _ _ :: _, _, _, h => nomatch h
/-- [..], (..) of the n on top -/
def eLst (n : Nat) (f : EF) : EF := fun δ => (f δ).bind fun δ1 => match takeOwn n δ1.st with
  | some (ts, st) => if n ≤ sizeLine then .ok ⟨δ1.sl, .own (.lst .mu ts.reverse) :: st⟩ else .no
  | none => .no
def eTup (n : Nat) (f : EF) : EF := fun δ => (f δ).bind fun δ1 => match takeOwn n δ1.st with
  | some (ts, st) => if n ≤ sizeLine then .ok ⟨δ1.sl, .own (.tup ts.reverse) :: st⟩ else .no
  | none => .no
def eDct : EF := ePush (.dct false [])
section
variable {X : Cx} {B : Base} {Ψ : XF} {W : WX} {k n : Nat} {a b c e : Expr} {rest es : List Expr} {pos : Pos} {f g h fa fb fc : EF} {p t : BF}
theorem ev_name {i : Nat} {x : Str} (hN : X.N[i]? = some x) (hv : Vis X.env.scope x) (hd : (x == ("__debug__" : Str)) = false := by decide) (hcd : (x == ("__classdict__" : Str)) = false := by decide) : EvF X B Ψ (.Name x pos) (eName i) := fun δ σ H vs Q s q => by
  obtain ⟨sl, st⟩ := δ
  unfold eName at q
  cases z : sl[i]? with
  | none => simp only [z] at q; exact q.elim
  | some en =>
    simp only [z] at q
    cases en with
    | emp => exact q.elim
    | own t =>
      obtain ⟨v, h1, h2⟩ := s.get z (fun w => nomatch w)
      exact (pe_var hN hv hd hcd).tov ⟨v, h1, q v H h2⟩
    | al j r =>
      obtain ⟨v, h1, h2⟩ := s.get z (fun w => nomatch w)
      exact (pe_var hN hv hd hcd).tov ⟨v, h1, q v H h2⟩
theorem ev_c {t : T} {v : V} (hp : PE X e (tC v)) (hv : leafV t = some v) : EvF X B Ψ e (ePush t) := fun δ σ H vs Q s q => hp.tov (q v H (StT.pushL s hv))
theorem ev_int {i : Int} {j} : EvF X B Ψ (.Constant (.int i) j pos) (ePush (.int i)) := ev_c pe_int rfl
theorem ev_bl {i : Bool} {j} : EvF X B Ψ (.Constant (.bool i) j pos) (ePush (.bl i)) := ev_c pe_bl rfl
theorem ev_non {j} : EvF X B Ψ (.Constant .none j pos) (ePush .non) := ev_c pe_non rfl
theorem ev_str {x : Str} {j} : EvF X B Ψ (.Constant (.str x) j pos) (ePush (.str x)) := ev_c pe_str rfl
theorem ev_gint {x : Str} {i : Int} (hm : ∃ t, X.mg x = some (.int i t)) (hg : Gl X x) (hd : (x == ("__debug__" : Str)) = false := by decide) : EvF X B Ψ (.Name x pos) (ePush (.int i)) := by
  obtain ⟨t, hm⟩ := hm
  exact ev_c (v := .int i) (pe_glob hg hm ⟨t, rfl⟩ hd) rfl
theorem ev_gstr {x y : Str} (hm : ∃ t, X.mg x = some (.str y t)) (hg : Gl X x) (hd : (x == ("__debug__" : Str)) = false := by decide) : EvF X B Ψ (.Name x pos) (ePush (.str y)) := by
  obtain ⟨t, hm⟩ := hm
  exact ev_c (v := .str y) (pe_glob hg hm ⟨t, rfl⟩ hd) rfl
theorem ev_gref {x : Str} {n : Nat} (hm : X.mg x = some (.ref (B.cm n))) (hg : Gl X x) (hd : (x == ("__debug__" : Str)) = false := by decide) : EvF X B Ψ (.Name x pos) (ePush (.cl n)) := fun δ σ H vs Q s q =>
  (pe_glob hg hm (v := .ref (B.cm n)) rfl hd).tov (q _ H (by
    obtain ⟨S, F, sv, t⟩ := s
    exact ⟨S, F, sv, t.pushD .cls⟩))
theorem ev_ty {x : Str} {n : String} (hm : X.mg x = none) (hg : Gl X x) (hv : bootBuiltins x = some (.type n)) (hn : x ≠ "__name__" := by decide) (hd : (x == ("__debug__" : Str)) = false := by decide) : EvF X B Ψ (.Name x pos) (ePush (.ty n)) :=
  ev_c (v := .ty n) (pe_bltn hg hm hv (v := .ty n) rfl hn hd) rfl
/-! operators -/
theorem ev_bin {op : Operator} (ha : EvF X B Ψ a fa) (hb : EvF X B Ψ b fb) (hr : BiF X B Ψ (binaryOp op) g) : EvF X B Ψ (.BinOp a op b pos) (eBin fa fb g) := fun δ σ H vs Q s q =>
  (pe_op (pR2 _) (pE a) (pE b)).tov (ha δ σ H vs _ s (post_b (P := fun r => PostF X B Ψ (r.bind g) σ vs Q) (r := fa δ) (k := fb) q (fun _ _ h => h) (fun h => h) fun δ1 h1 v H1 s1 => hb δ1 σ H1 (v :: vs) _ s1 (post_b (P := fun r => PostF X B Ψ r σ vs Q) h1 (fun _ _ h => h) (fun h => h) fun δ2 h2 w H2 s2 => hr δ2 σ H2 vs v w Q s2 h2)))
theorem ev_un {op : UnaryOp} (ha : EvF X B Ψ a fa) (hr : UnF X B Ψ (unaryOp op) g) : EvF X B Ψ (.UnaryOp op a pos) (eThen fa g) := fun δ σ H vs Q s q =>
  (pe_un (pR1 _) (pE a)).tov (ha δ σ H vs _ s (post_b (P := fun r => PostF X B Ψ r σ vs Q) q (fun _ _ h => h) (fun h => h) fun δ1 h1 v H1 s1 => hr δ1 σ H1 vs v Q s1 h1))
theorem ev_cmp {op : CmpOp} (ha : EvF X B Ψ a fa) (hb : EvF X B Ψ b fb) (hr : BiF X B Ψ (compareOp op) g) (hm : behindInMarks op b = false) : EvF X B Ψ (.Compare a [op] [b] pos) (eBin fa fb g) := fun δ σ H vs Q s q =>
  (pe_cmpR (pR2 _) (pE a) (pE b) hm).tov (ha δ σ H vs _ s (post_b (P := fun r => PostF X B Ψ (r.bind g) σ vs Q) (r := fa δ) (k := fb) q (fun _ _ h => h) (fun h => h) fun δ1 h1 v H1 s1 => hb δ1 σ H1 (v :: vs) _ s1 (post_b (P := fun r => PostF X B Ψ r σ vs Q) h1 (fun _ _ h => h) (fun h => h) fun δ2 h2 w H2 s2 => hr δ2 σ H2 vs v w Q s2 h2)))
/-- a bool on top is the value there -/
theorem popB_of {δ : En} {σ : L2.St} {H : Hp} {v : V} {vs : List V} {Q : Bool → Hp → Prop} (s : StT X.K B δ σ H (v :: vs)) (h : PostB X B Ψ (popB δ) σ vs Q) : ∃ b, v = .bl b ∧ Q b H := by
  obtain ⟨sl, st⟩ := δ
  unfold popB at h
  cases st with
  | nil => exact h.elim
  | cons e st =>
    cases e with
    | emp => exact h.elim
    | al _ _ => exact h.elim
    | own t =>
      cases t with
      | bl b =>
        obtain ⟨S, A, _, _, r⟩ := s.top (u := .bl b) rfl
        cases r with
        | leaf hv => exact ⟨b, (Option.some.inj hv).symm, h H s.pop⟩
      | _ => exact h.elim
theorem ts_cmp {op : CmpOp} (ha : EvF X B Ψ a fa) (hb : EvF X B Ψ b fb) (hr : BiF X B Ψ (compareOp op) g) (hm : behindInMarks op b = false) : TsF X B Ψ (.Compare a [op] [b] pos) (tVal (eBin fa fb g)) := fun δ σ H vs Q s q =>
  (pt_cmpR (pR2 _) (pE a) (pE b) hm).tov (ha δ σ H vs _ s (post_b (P := fun r => PostB X B Ψ ((r.bind g).bindB popB) σ vs Q) (r := fa δ) (k := fb) q (fun _ _ h => h) (fun h => h) fun δ1 h1 v H1 s1 => hb δ1 σ H1 (v :: vs) _ s1 (post_b (P := fun r => PostB X B Ψ (r.bindB popB) σ vs Q) h1 (fun _ _ h => h) (fun h => h) fun δ2 h2 w H2 s2 => hr δ2 σ H2 vs v w _ s2 (post_bB (P := fun r => PostB X B Ψ r σ vs Q) h2 (fun _ _ h => h) (fun h => h) fun δ3 h3 x H3 s3 => popB_of s3 h3))))
theorem eDup_of {δ δ1 : En} {σ : L2.St} {H : Hp} {v w : V} {vs : List V} (s : StT X.K B δ σ H (w :: v :: vs)) (h : eDup δ = .ok δ1) : StT X.K B δ1 σ H (w :: v :: w :: vs) := by
  obtain ⟨sl, st⟩ := δ
  unfold eDup at h
  split at h
  · rename_i y x st' e
    have e' : st = .own y :: .own x :: st' := e
    subst e'
    split at h
    · rename_i hd
      cases h
      obtain ⟨S, F, sv, t⟩ := s
      obtain ⟨A, h1, h2⟩ := t.look_at (m := 0) (u := y) rfl rfl rfl
      have := h2.datas_nil hd
      subst this
      obtain ⟨F1, t1, _⟩ := t.pop
      obtain ⟨F2, t2, eF, A2, k, r⟩ := t1.pop
      have e := k.e
      subst e
      have hx : Ex A2 H := Ex.l.trans t1.exF
      have t3 := t2.pushD h2
      have t4 := t3.push r k.d t1.dj.l hx fun b o q1 q2 => Ex.l.free (t1.bF b o q1 q2).2
      exact ⟨S, _, sv, t4.pushD h2⟩
    · cases h
  · cases h
theorem ev_chain {op op' : CmpOp} {r1 r2 : EF} (ha : EvF X B Ψ a fa) (hb : EvF X B Ψ b fb) (h1 : BiF X B Ψ (compareOp op) r1) (hc : EvF X B Ψ c fc) (h2 : BiF X B Ψ (compareOp op') r2) (hm : lastMarks [op, op'] [b, c] = false) : EvF X B Ψ (.Compare a [op, op'] [b, c] pos) (eChain fa fb r1 fc r2) := fun δ σ H vs Q s q => by
  refine (pe_chain (pR2 _) (pR2 _) (pE a) (pE b) (pE c) hm).tov (ha δ σ H vs _ s (post_b (P := fun r => PostF X B Ψ ((((r.bind eDup).bind r1).bindB popB).bindF _) σ vs Q) (r := fa δ) (k := fb) q (fun _ _ h => h) (fun h => h) fun δ1 g1 v H1 s1 => hb δ1 σ H1 (v :: vs) _ s1 (post_b (P := fun r => PostF X B Ψ (((r.bind r1).bindB popB).bindF _) σ vs Q) (k := eDup) g1 (fun _ _ h => h) (fun h => h) fun δ2 g2 w H2 s2 => ?_)))
  cases z : eDup δ2 with
  | no => rw [z] at g2; exact g2.elim
  | ex C sl =>
    exfalso
    unfold eDup at z
    split at z
    · split at z <;> cases z
    · cases z
  | ok δ3 =>
    rw [z] at g2
    have s3 := eDup_of s2 z
    refine h1 δ3 σ H2 (w :: vs) v w _ s3 (post_bB (P := fun r => PostF X B Ψ (r.bindF _) σ vs Q) (k := popB) g2 (fun _ _ h => h) (fun h => h) fun δ4 g4 x H3 s4 => ?_)
    refine popB_of (Q := fun b H3 => if b = true then tE X c σ H3 fun w' H4 => tR2 X (compareOp op') w w' H4 Q else Q (.bl false) H3) s4 (post_tF (P := fun r => PostF X B Ψ r σ vs Q) g4 (fun _ _ h => h) (fun h => h) fun kb δ5 g5 H4 s5 => ?_)
    · cases kb with
      | true =>
        show tE X c σ H4 _
        refine hc δ5 σ H4 (w :: vs) _ s5 (post_b (P := fun r => PostF X B Ψ r σ vs Q) g5 (fun _ _ h => h) (fun h => h) fun δ6 g6 y H5 s6 => h2 δ6 σ H5 vs w y Q s6 g6)
      | false =>
        show Q (.bl false) H4
        have g5' : PostF X B Ψ (match δ5.st with | _ :: st => ePush (.bl false) ⟨δ5.sl, st⟩ | [] => .no) σ vs Q := g5
        obtain ⟨sl, st⟩ := δ5
        cases st with
        | nil => exact g5'.elim
        | cons e st => exact g5' _ H4 (StT.pushL s5.pop rfl)
theorem ts_chain {op op' : CmpOp} {r1 r2 : EF} (h : EvF X B Ψ (.Compare a [op, op'] [b, c] pos) f) (he : ∀ whole, isTrue (.Compare a [op, op'] [b, c] pos) X.env whole = (do let v ← whole; standAt (Expr.Compare a [op, op'] [b, c] pos).pos; holding [v] (truthy v))) (ht : ∀ {t : TE}, PE X (.Compare a [op, op'] [b, c] pos) t → PT X (.Compare a [op, op'] [b, c] pos) (tB t)) : TsF X B Ψ (.Compare a [op, op'] [b, c] pos) (tVal f) := fun δ σ H vs Q s q =>
  (ht (pE _)).tov (h δ σ H vs _ s (post_bB (P := fun r => PostB X B Ψ r σ vs Q) q (fun _ _ h => h) (fun h => h) fun δ1 h1 v H1 s1 => popB_of s1 h1))
/-! tests -/
theorem trF : TrF X B Ψ popTr := fun δ σ H vs x Q s q pins sh σ' v I r => by
  obtain ⟨sl, st⟩ := δ
  unfold popTr at q
  cases st with
  | nil => exact q.elim
  | cons e st =>
    simp only at q
    cases z : look sl e with
    | none => simp only [z] at q; exact q.elim
    | some t =>
      simp only [z] at q
      cases z2 : truT t with
      | none => simp only [z2] at q; exact q.elim
      | some b =>
        simp only [z2] at q
        obtain ⟨S, A, e1, e2, rt⟩ := s.top z
        have hq : Q b H := q H s.pop
        cases rt with
        | leaf hv =>
          cases t <;> first | (cases hv; done) | skip
          all_goals (cases hv)
          · cases z2; exact tru_ok pins sh σ' H _ v Q I r ⟨false, rfl, hq⟩
          · cases z2; exact tru_ok pins sh σ' H _ v Q I r ⟨b, rfl, hq⟩
          · cases z2; exact tru_ok pins sh σ' H _ v Q I r ⟨_, rfl, hq⟩
          · simp only [truT] at z2
            split at z2
            · rename_i hz; cases z2; exact tru_ok pins sh σ' H _ v Q I r ⟨_, ⟨hz, rfl⟩, hq⟩
            · cases z2
          all_goals (cases z2)
        | gone => cases z2
        | tup h rs => cases z2
        | dct _ _ _ _ _ => cases z2
        | ins _ _ _ => cases z2
        | scr _ => cases z2
        | cls => cases z2
        | @lfz F ts a xs h rs =>
          cases z2
          have el : (!xs.isEmpty) = !ts.isEmpty := by
            have := rs.length
            cases xs <;> cases ts <;> simp_all
          exact tru_ok pins sh σ' H _ v Q I r ⟨!ts.isEmpty, .inl ⟨xs, SqL.of (e1 _ _ h), el.symm⟩, hq⟩
        | @lmu F ts a xs h rs =>
          cases z2
          have el : (!xs.isEmpty) = !ts.isEmpty := by
            have := rs.length
            cases xs <;> cases ts <;> simp_all
          exact tru_ok pins sh σ' H _ v Q I r ⟨!ts.isEmpty, .inl ⟨xs, SqL.of (e2 _ _ (join_l one_same)), el.symm⟩, hq⟩
theorem ts_tru (ha : EvF X B Ψ e f) (he : ∀ whole, isTrue e X.env whole = (do let v ← whole; standAt e.pos; holding [v] (truthy v))) : TsF X B Ψ e (tTru f) := fun δ σ H vs Q st q pins s I => by
  rw [he]
  refine wpAny_bind (thn (ha δ σ H vs (fun v H1 => ∀ pins s u, Inv X pins σ H1 s → RelV v u → wpAny (model X.prog X.w) X.A (truthy u) (TP X pins σ Q) X.xe s) st (post_bB (P := fun r => PostB X B Ψ r σ vs Q) q (fun _ _ h => h) (fun h => h) fun δ1 h1 v H1 s1 pins s u I r => trF δ1 σ H1 vs v Q s1 h1 pins s σ u I r) pins s I) fun u s1 ⟨v, H1, I1, r1, q1⟩ => ?_)
  exact wpAny_bind (wpAny_standAt (wpAny_holding (q1 pins s1 u I1 r1)))
theorem ts_w (h : TwF X B Ψ e p) : TsF X B Ψ e p := fun δ σ H vs Q s q => (pW e).pt.tov (h δ σ H vs Q s q)
theorem tw_one {op : BoolOp} (h : TsF X B Ψ a p) : TwF X B Ψ (.BoolOp op [a] pos) p := fun δ σ H vs Q s q => by
  cases op with
  | And => exact (pw_and1 (pT a)).tov (h δ σ H vs Q s q)
  | Or => exact (pw_or1 (pT a)).tov (h δ σ H vs Q s q)
theorem tw_and (ha : TsF X B Ψ a p) (hb : TwF X B Ψ (.BoolOp .And (b :: rest) pos) t) : TwF X B Ψ (.BoolOp .And (a :: b :: rest) pos) (tAnd p t) := fun δ σ H vs Q s q =>
  (pw_and (pT a) (pW _)).tov (ha δ σ H vs _ s (post_t (P := fun r => PostB X B Ψ r σ vs Q) q (fun _ _ h => h) (fun h => h) fun k δ1 h1 H1 s1 => by
    cases k with
    | true => exact hb δ1 σ H1 vs Q s1 h1
    | false => exact h1 H1 s1))
theorem tw_or (ha : TsF X B Ψ a p) (hb : TwF X B Ψ (.BoolOp .Or (b :: rest) pos) t) : TwF X B Ψ (.BoolOp .Or (a :: b :: rest) pos) (tOr p t) := fun δ σ H vs Q s q =>
  (pw_or (pT a) (pW _)).tov (ha δ σ H vs _ s (post_t (P := fun r => PostB X B Ψ r σ vs Q) q (fun _ _ h => h) (fun h => h) fun k δ1 h1 H1 s1 => by
    cases k with
    | true => exact h1 H1 s1
    | false => exact hb δ1 σ H1 vs Q s1 h1))
theorem ts_not (h : TsF X B Ψ a p) : TsF X B Ψ (.UnaryOp .Not a pos) (tNot p) := fun δ σ H vs Q s q =>
  (pt_not (pT a)).tov (h δ σ H vs _ s (post_t (P := fun r => PostB X B Ψ r σ vs Q) q (fun _ _ h => h) (fun h => h) fun k δ1 h1 H1 s1 => h1 H1 s1))
theorem ev_one {op : BoolOp} (h : EvF X B Ψ a f) : EvF X B Ψ (.BoolOp op [a] pos) f := fun δ σ H vs Q s q => (pe_one (pE a)).tov (h δ σ H vs Q s q)
theorem ev_and (ha : EvF X B Ψ a f) (hb : EvF X B Ψ (.BoolOp .And (b :: rest) pos) g) : EvF X B Ψ (.BoolOp .And (a :: b :: rest) pos) (eAnd f g) := fun δ σ H vs Q s q =>
  (pe_and (pE a) (pE _)).tov (ha δ σ H vs _ s (post_bB (P := fun r => PostF X B Ψ (r.bindF _) σ vs Q) (k := popB) q (fun _ _ h => h) (fun h => h) fun δ1 h1 v H1 s1 => by
    exact popB_of (Q := fun b H1 => if b = true then tE X _ σ H1 Q else Q (.bl false) H1) s1 (post_tF (P := fun r => PostF X B Ψ r σ vs Q) h1 (fun _ _ h => h) (fun h => h) fun k δ2 h2 H2 s2 => by
      cases k with
      | true => exact hb δ2 σ H2 vs Q s2 h2
      | false => exact h2 _ H2 (StT.pushL s2 rfl))))
theorem ev_or (ha : EvF X B Ψ a f) (hb : EvF X B Ψ (.BoolOp .Or (b :: rest) pos) g) : EvF X B Ψ (.BoolOp .Or (a :: b :: rest) pos) (eOr f g) := fun δ σ H vs Q s q =>
  (pe_or (pE a) (pE _)).tov (ha δ σ H vs _ s (post_bB (P := fun r => PostF X B Ψ (r.bindF _) σ vs Q) (k := popB) q (fun _ _ h => h) (fun h => h) fun δ1 h1 v H1 s1 => by
    exact popB_of (Q := fun b H1 => if b = true then Q (.bl true) H1 else tE X _ σ H1 Q) s1 (post_tF (P := fun r => PostF X B Ψ r σ vs Q) h1 (fun _ _ h => h) (fun h => h) fun k δ2 h2 H2 s2 => by
      cases k with
      | true => exact h2 _ H2 (StT.pushL s2 rfl)
      | false => exact hb δ2 σ H2 vs Q s2 h2)))
theorem ev_not (ha : EvF X B Ψ a f) : EvF X B Ψ (.UnaryOp .Not a pos) (eNot f) := fun δ σ H vs Q s q =>
  (pe_not (pE a)).tov (ha δ σ H vs _ s (post_bB (P := fun r => PostF X B Ψ (r.bindF _) σ vs Q) (k := popB) q (fun _ _ h => h) (fun h => h) fun δ1 h1 v H1 s1 => by
    exact popB_of (Q := fun b H1 => Q (.bl (!b)) H1) s1 (post_tF (P := fun r => PostF X B Ψ r σ vs Q) h1 (fun _ _ h => h) (fun h => h) fun k δ2 h2 H2 s2 => h2 _ H2 (StT.pushL s2 rfl))))
theorem ev_ifx (hc : TsF X B Ψ c p) (ha : EvF X B Ψ a f) (hb : EvF X B Ψ b g) : EvF X B Ψ (.IfExp c a b pos) (eIf p f g) := fun δ σ H vs Q s q =>
  (pe_ifExp (pT c) (pE a) (pE b)).tov (hc δ σ H vs _ s (post_tF (P := fun r => PostF X B Ψ r σ vs Q) q (fun _ _ h => h) (fun h => h) fun k δ1 h1 H1 s1 => by
    cases k with
    | true => exact ha δ1 σ H1 vs Q s1 h1
    | false => exact hb δ1 σ H1 vs Q s1 h1))
/-! ### arguments, displays -/
theorem ag_nil : AgF X B Ψ 0 [] eNil := fun δ σ H vs Q s q => pa_nil.tov (q [] H rfl s)
theorem ag_cons (he : EvF X B Ψ e f) (ht : AgF X B Ψ n es g) (hs : starEach (e :: es) X.env = (false, eval e X.env) :: starEach es X.env) : AgF X B Ψ (n + 1) (e :: es) (eThen f g) := fun δ σ H vs Q s q =>
  (pa_cons (pE e) (pA es) hs).tov (he δ σ H vs _ s (post_b (P := fun r => PostN X B Ψ (n + 1) r σ vs Q) q (fun _ _ h => h) (fun h => h) fun δ1 h1 v H1 s1 => ht δ1 σ H1 (v :: vs) _ s1 (by
    cases z : g δ1 with
    | no => rw [z] at h1; exact h1
    | ex C sl => rw [z] at h1; exact h1
    | ok δ2 =>
      rw [z] at h1
      exact fun xs H2 hl s2 => h1 (v :: xs) H2 (by simp [hl]) (by rw [List.reverse_cons, List.append_assoc]; exact s2))))
theorem ev_lst (h : AgF X B Ψ n es f) : EvF X B Ψ (.List es pos) (eLst n f) := fun δ σ H vs Q s q =>
  (pe_lst (pA es)).tov (h δ σ H vs _ s (post_n (P := fun r => PostF X B Ψ r σ vs Q) q (fun _ _ h => h) (fun h => h) fun δ1 h1 xs H1 hl s1 => by
    obtain ⟨sl, st⟩ := δ1
    simp only at h1
    cases z : takeOwn n st with
    | none => simp only [z] at h1; exact h1.elim
    | some p =>
      obtain ⟨ts, st'⟩ := p
      simp only [z] at h1
      obtain ⟨rfl, e2⟩ := takeOwn_eq z
      split at h1
      · rename_i hn
        refine ⟨by rw [hl]; exact hn, fun p hp => h1 _ _ ?_⟩
        have s1' : StT X.K B ⟨sl, (ts.reverse.map Ent.own).reverse ++ st'⟩ σ H1 (xs.reverse ++ vs) := by rw [← List.map_reverse, List.reverse_reverse]; exact s1
        exact s1'.mkL (by simp [hl, e2]) hp
      · exact h1.elim))
theorem ev_tup {x1} (h : AgF X B Ψ n es f) : EvF X B Ψ (.Tuple es x1 pos) (eTup n f) := fun δ σ H vs Q s q =>
  (pe_tup (pA es)).tov (h δ σ H vs _ s (post_n (P := fun r => PostF X B Ψ r σ vs Q) q (fun _ _ h => h) (fun h => h) fun δ1 h1 xs H1 hl s1 => by
    obtain ⟨sl, st⟩ := δ1
    simp only at h1
    cases z : takeOwn n st with
    | none => simp only [z] at h1; exact h1.elim
    | some p =>
      obtain ⟨ts, st'⟩ := p
      simp only [z] at h1
      obtain ⟨rfl, e2⟩ := takeOwn_eq z
      split at h1
      · rename_i hn
        refine ⟨by rw [hl]; exact hn, fun p hp => h1 _ _ ?_⟩
        have s1' : StT X.K B ⟨sl, (ts.reverse.map Ent.own).reverse ++ st'⟩ σ H1 (xs.reverse ++ vs) := by rw [← List.map_reverse, List.reverse_reverse]; exact s1
        exact s1'.mkT (by simp [hl, e2]) hp
      · exact h1.elim))
theorem ev_dct : EvF X B Ψ (.Dict [] [] pos) eDct := fun δ σ H vs Q s q => pe_dnewK.tov fun p hp => q _ _ (StT.newD s hp)
end
end Vt

/-! What is done with values: operators, subscripts, slices, attributes. -/
namespace Vt
open PySem PySem.Spec PyProof.Rows L2

/-! ### trees as the library's data -/
mutual
def T.py : T → Option PyData
  | .non => some .none
  | .bl b => some (.bool b)
  | .int i => some (.int i)
  | .str x => some (.str x)
  | .tup ts => (pys ts).map .tuple
  | .lst _ ts => (pys ts).map .list
  | _ => none
def pys : List T → Option (List PyData)
  | [] => some []
  | t :: ts => match t.py, pys ts with
    | some d, some ds => some (d :: ds)
    | _, _ => none
end
section
variable {K : Kc} {S H : Hp}
mutual
theorem dp_of (eS : Ex S H) : ∀ {F : Hp} {t : T} {v : V} {d : PyData}, RepT K S F t v → Ex F H → t.py = some d → Dp K.K H v d
  | _, _, _, d, .leaf (t := t) h, _, e => by
    cases t <;> first | (cases e; done) | (cases h; done) | (cases h; cases e; constructor)
  | _, _, _, _, .gone, _, e => nomatch e
  | _, _, _, d, .tup (ts := ts) h r, eF, e => by
    have e' : (pys ts).map PyData.tuple = some d := e
    cases q : pys ts with
    | none => rw [q] at e'; cases e'
    | some ds => rw [q] at e'; cases e'; exact .tup (SqT.of (eS _ _ h)) (dps_of eS r eF q)
  | _, _, _, d, .lfz (ts := ts) h r, eF, e => by
    have e' : (pys ts).map PyData.list = some d := e
    cases q : pys ts with
    | none => rw [q] at e'; cases e'
    | some ds => rw [q] at e'; cases e'; exact .lst (SqL.of (eS _ _ h)) (dps_of eS r eF q)
  | _, _, _, d, .lmu (ts := ts) h r, eF, e => by
    have e' : (pys ts).map PyData.list = some d := e
    cases q : pys ts with
    | none => rw [q] at e'; cases e'
    | some ds => rw [q] at e'; cases e'; exact .lst (SqL.of (eF _ _ (join_l one_same))) (dps_of eS r (Ex.ofr (Dj.one h) eF) q)
  | _, _, _, _, .cls, _, e => nomatch e
  | _, _, _, _, .scr _, _, e => nomatch e
  | _, _, _, _, .dct _ _ _ _ _, _, e => nomatch e
  | _, _, _, _, .ins _ _ _, _, e => nomatch e
theorem dps_of (eS : Ex S H) : ∀ {F : Hp} {ts : List T} {vs : List V} {ds : List PyData}, RepTs K S F ts vs → Ex F H → pys ts = some ds → DpAll K.K H vs ds
  | _, _, _, _, .nil, _, e => by cases e; exact .nil
  | _, _, _, ds, .cons (t := t) (ts := ts) d h r, eF, e => by
    have e' : (match t.py, pys ts with | some d, some ds => some (d :: ds) | _, _ => none) = some ds := e
    cases q1 : t.py with
    | none => rw [q1] at e'; cases e'
    | some d1 =>
      cases q2 : pys ts with
      | none => rw [q1, q2] at e'; cases e'
      | some ds1 => rw [q1, q2] at e'; cases e'; exact .cons (dp_of eS h (Ex.ofl eF) q1) (dps_of eS r (Ex.ofr d eF) q2)
end
/-! ### what a representation says of the object -/
theorem RepTs.at {F : Hp} {ts : List T} {xs : List V} {i : Nat} {u : T} (r : RepTs K S F ts xs) (h : ts[i]? = some u) : ∃ x A, xs[i]? = some x ∧ Ex A F ∧ RepT K S A u x := by
  obtain ⟨x, A, G, q1, q2, q3, _⟩ := r.foc h
  exact ⟨x, A, q1, by rw [q2.e]; exact Ex.l, q3⟩
theorem RepT.lstR {F : Hp} {m : Md} {ts : List T} {v : V} (r : RepT K S F (.lst m ts) v) (eS : Ex S H) (eF : Ex F H) : ∃ a xs G, v = .ref a ∧ H a = some (.lst xs) ∧ RepTs K S G ts xs ∧ Ex G F := by
  cases r with
  | leaf h => cases h
  | lfz h rs => exact ⟨_, _, _, rfl, eS _ _ h, rs, Ex.refl _⟩
  | lmu h rs => exact ⟨_, _, _, rfl, eF _ _ (join_l one_same), rs, Ex.r (Dj.one h)⟩
theorem RepT.tupR {F : Hp} {ts : List T} {v : V} (r : RepT K S F (.tup ts) v) (eS : Ex S H) : ∃ a xs, v = .ref a ∧ H a = some (.tup xs) ∧ RepTs K S F ts xs := by
  cases r with
  | leaf h => cases h
  | tup h rs => exact ⟨_, _, rfl, eS _ _ h, rs⟩
theorem RepT.dctR {F : Hp} {lk : Bool} {kvs : List (Int × T)} {v : V} (r : RepT K S F (.dct lk kvs) v) (eF : Ex F H) : ∃ a kv G, v = .ref a ∧ Rd H a (.dK kv) ∧ (lk = false → H a = some (.dK kv)) ∧ kv.map (·.1) = (kvs.map (·.1)).map Sum.inl ∧ (kvs.map (·.1)).Nodup ∧ RepTs K S G (kvs.map (·.2)) (kv.map (·.2)) ∧ Ex G F := by
  cases r with
  | leaf h => cases h
  | @dct F lk kvs a kv o h ho hk hn rs =>
    have e := eF _ _ (join_l (F := one a o) one_same)
    refine ⟨a, kv, _, rfl, ?_, fun z => ?_, hk, hn, rs, Ex.r (Dj.one h)⟩
    · cases lk with
      | true => rw [if_pos rfl] at ho; obtain ⟨q, rfl⟩ := ho; exact .inr ⟨q, e⟩
      | false => rw [if_neg (by decide)] at ho; subst ho; exact .inl e
    · subst z; rw [if_neg (by decide)] at ho; subst ho; exact e
theorem RepT.insR {F : Hp} {C : Nat} {fs : List (Str × T)} {v : V} (r : RepT K S F (.ins C fs) v) (eF : Ex F H) : ∃ a dx fv G, v = .ref a ∧ H a = some (.ins (K.cm C) dx fv) ∧ fv.map (·.1) = fs.map (·.1) ∧ RepTs K S G (fs.map (·.2)) (fv.map (·.2)) ∧ Ex G F := by
  cases r with
  | leaf h => cases h
  | @ins F C fs a dx fv h hk rs => exact ⟨a, dx, fv, _, rfl, eF _ _ (join_l one_same), hk, rs, Ex.r (Dj.one h)⟩
theorem RepT.scrR {F : Hp} {ns : List Int} {v : V} (r : RepT K S F (.scr ns) v) (eS : Ex S H) : ∃ a, v = .ref a ∧ SqL K.K H a (ns.map V.int) := by
  cases r with
  | leaf h => cases h
  | scr h => exact ⟨_, rfl, sqL_mono eS h⟩
theorem RepT.leafR {F : Hp} {t : T} {v w : V} (r : RepT K S F t v) (h : leafV t = some w) : v = w := by
  cases r with
  | leaf h' => rw [h] at h'; cases h'; rfl
  | _ => cases h
/-- keys of the two tables -/
theorem dct_get {F : Hp} {kvs : List (Int × T)} {kv : List (Key × V)} (hk : kv.map (·.1) = (kvs.map (·.1)).map Sum.inl) (hn : (kvs.map (·.1)).Nodup) (r : RepTs K S F (kvs.map (·.2)) (kv.map (·.2))) (k : Int) :
    (gGet kvs k = none ∧ valV kv (Sum.inl k) = none) ∨ ∃ u x A, gGet kvs k = some u ∧ valV kv (Sum.inl k) = some x ∧ Ex A F ∧ RepT K S A u x := by
  have nk : (kv.map (·.1)).Nodup := by rw [hk]; exact inl_nodup hn
  have ev : ∀ k, valV kv k = gGet kv k := fun _ => rfl
  cases e : gGet kvs k with
  | none =>
    refine .inl ⟨rfl, ?_⟩
    rw [ev, gGet_none, hk]
    intro z
    obtain ⟨y, hy, e2⟩ := List.mem_map.mp z
    cases e2
    exact (gGet_none.mp e) hy
  | some u =>
    obtain ⟨i, hi⟩ := gGet_at e
    obtain ⟨h1, h2⟩ := map_at hi
    obtain ⟨x, A, q1, q2, q3⟩ := r.at h1
    exact .inr ⟨u, x, A, rfl, by rw [ev]; exact gGet_of nk (pair_at (by rw [hk, List.getElem?_map, h2]; rfl) q1), q2, q3⟩
theorem dct_len {kvs : List (Int × T)} {kv : List (Key × V)} (hk : kv.map (·.1) = (kvs.map (·.1)).map Sum.inl) : kv.length = kvs.length := by
  have := congrArg List.length hk
  simpa using this
end
/-! ### flat things in lists -/
def T.flat : T → Bool
  | .non => true | .bl _ => true | .int _ => true | .str _ => true
  | _ => false
def eqF : T → T → Bool
  | .non, .non => true
  | .bl a, .bl b => a == b
  | .bl a, .int b => (if a then 1 else 0) == b
  | .int a, .bl b => a == (if b then 1 else 0)
  | .int a, .int b => a == b
  | .str a, .str b => a == b
  | _, _ => false
def inF (x : T) (ts : List T) : Bool := ts.any fun y => eqF y x
section
variable {K : Kc} {S : Hp}
theorem flat_v {F : Hp} {t : T} {v : V} (h : t.flat = true) (r : RepT K S F t v) : leafV t = some v ∧ flatV v = true := by
  cases r with
  | leaf hv => cases t <;> first | (cases h; done) | (cases hv; exact ⟨rfl, rfl⟩)
  | _ => cases h
theorem eqF_v {t u : T} {v w : V} (h : t.flat = true) (h' : u.flat = true) (r : leafV t = some v) (q : leafV u = some w) : eqV v w = eqF t u := by
  cases t <;> first | (cases h; done) | skip
  all_goals (cases r; cases u <;> first | (cases h'; done) | (cases q; rfl))
theorem inF_v {A : Hp} {t : T} {v : V} (h : t.flat = true) (r : RepT K S A t v) : ∀ {ts : List T} {F : Hp} {xs : List V}, RepTs K S F ts xs → ts.all T.flat = true → inV v xs = inF t ts ∧ xs.all flatV = true
  | [], _, _, .nil, _ => ⟨rfl, rfl⟩
  | y :: ts, _, _, .cons d hy rs, hf => by
    rw [List.all_cons, Bool.and_eq_true] at hf
    obtain ⟨q1, q2⟩ := inF_v h r rs hf.2
    obtain ⟨f1, f2⟩ := flat_v hf.1 hy
    unfold inV inF at q1 ⊢
    rw [List.any_cons, List.any_cons, q1, eqF_v hf.1 h f1 (flat_v h r).1, List.all_cons, q2, f2]
    exact ⟨rfl, rfl⟩
end
/-! ### the words -/
def op2 (k : T → T → Option T) : EF := fun δ => match δ.st with
  | ey :: ex :: st => match look δ.sl ex with
    | some x => match look δ.sl ey with
      | some y => match k x y with
        | some r => .ok ⟨δ.sl, .own r :: st⟩
        | none => .no
      | none => .no
    | none => .no
  | _ => .no
def op1 (k : T → Option T) : EF := fun δ => match δ.st with
  | ex :: st => match look δ.sl ex with
    | some x => match k x with
      | some r => .ok ⟨δ.sl, .own r :: st⟩
      | none => .no
    | none => .no
  | _ => .no
def kAdd : T → T → Option T
  | .int i, .int j => some (.int (i + j))
  | .str x, .str y => if x.length + y.length ≤ sizeLine then some (.str (x ++ y)) else none
  | .lst .mu ts, .lst .mu us => if datas ts && datas us && decide (ts.length + us.length ≤ sizeLine) then some (.lst .mu (ts ++ us)) else none
  | .tup ts, .tup us => if datas ts && datas us && decide (ts.length + us.length ≤ sizeLine) then some (.tup (ts ++ us)) else none
  | _, _ => none
def kSub : T → T → Option T
  | .int i, .int j => some (.int (i - j))
  | _, _ => none
/-- a short factor, or factors of less than 2 ^ 27 bits together -/
def mulOk (i j : Int) : Bool := decide (i.natAbs < 2 ^ 64) || (decide (j.natAbs < 2 ^ 64) || decide (i.natAbs.log2 + j.natAbs.log2 < 100000000))
def kMul : T → T → Option T
  | .int i, .int j => if mulOk i j then some (.int (i * j)) else none
  | .lst .mu ts, .int k => if datas ts && decide (-(2 ^ 63) ≤ k) && decide (k < 2 ^ 63) && decide (ts.length * k.toNat ≤ sizeLine) then some (.lst .mu (List.replicate k.toNat ts).flatten) else none
  | _, _ => none
def kFdiv : T → T → Option T
  | .int i, .int j => if 0 < j ∧ j < 1073741824 then some (.int (i / j)) else none
  | _, _ => none
def kMod : T → T → Option T
  | .int i, .int j => if 0 < j then some (.int (i % j)) else none
  | _, _ => none
def kPow : T → T → Option T
  | .int i, .int j => if 0 ≤ j ∧ j ≤ 1000000 ∧ i.natAbs < 2 ^ 64 then some (.int (i ^ j.toNat)) else none
  | _, _ => none
def eqT : T → T → Option Bool
  | .int i, .int j => some (decide (i = j))
  | .str x, .str y => some (decide (x = y))
  | x, y => match x.py, y.py with
    | some d, some e => if SeqAt.shaped d && SeqAt.shaped e then some (PyData.eqv d e) else none
    | _, _ => none
def kEq (x y : T) : Option T := (eqT x y).map .bl
def kNe (x y : T) : Option T := (eqT x y).map fun b => .bl (!b)
def kLt : T → T → Option T
  | .int i, .int j => some (.bl (decide (i < j)))
  | _, _ => none
def kLe : T → T → Option T
  | .int i, .int j => some (.bl (decide (i ≤ j)))
  | _, _ => none
def kGt : T → T → Option T
  | .int i, .int j => some (.bl (decide (j < i)))
  | _, _ => none
def kGe : T → T → Option T
  | .int i, .int j => some (.bl (decide (j ≤ i)))
  | _, _ => none
def inT : T → T → Option Bool
  | x, .lst _ ts => if x.flat && ts.all T.flat then some (inF x ts) else none
  | x, .tup ts => if x.flat && ts.all T.flat then some (inF x ts) else none
  | .int i, .dct _ kvs => some (gGet kvs i).isSome
  | .str x, .str z => match x.cps.toList with
    | [c] => some (decide (c ∈ z.cps.toList))
    | _ => none
  | _, _ => none
def kIn (x y : T) : Option T := (inT x y).map .bl
def kNin (x y : T) : Option T := (inT x y).map fun b => .bl (!b)
def T.isNon : T → Option Bool
  | .non => some true
  | .gone => none
  | _ => some false
def kIsN : T → T → Option T
  | x, .non => x.isNon.map .bl
  | _, _ => none
def kNotN : T → T → Option T
  | x, .non => x.isNon.map fun b => .bl (!b)
  | _, _ => none
def kNeg : T → Option T
  | .int i => some (.int (-i))
  | _ => none
/-- a part, to be read -/
def T.kid : T → Sp → Option T
  | .lst .fz ts, .ix i => ts[i]?
  | t, s => t.step s
def kidOf (sl : List Ent) (ex : Ent) (st : List Ent) (t : T) (s : Sp) : Res := match t.kid s with
  | none => .no
  | some u => if u.data = true then .ok ⟨sl, .own u :: st⟩ else match t.step s with
    | none => .no
    | some _ => match ex with
      | .own _ => .ok ⟨sl, .own u :: st⟩
      | .al i p => .ok ⟨sl, .al i (p ++ [s]) :: st⟩
      | .emp => .no
def eIx : EF := fun δ => match δ.st with
  | .own (.int i) :: ex :: st => match look δ.sl ex with
    | some (.lst m ts) => match ixN ts.length i with
      | some j => kidOf δ.sl ex st (.lst m ts) (.ix j)
      | none => .no
    | some (.tup ts) => match ixN ts.length i with
      | some j => kidOf δ.sl ex st (.tup ts) (.ix j)
      | none => .no
    | some (.dct lk kvs) => kidOf δ.sl ex st (.dct lk kvs) (.key i)
    | some (.scr ns) => match atI ns i with
      | some n => .ok ⟨δ.sl, .own (.int n) :: st⟩
      | none => .no
    | some (.str z) => if z.length ≤ sizeLine then (match atI z.cps.toList i with
      | some c => .ok ⟨δ.sl, .own (.str ⟨#[c]⟩) :: st⟩
      | none => .no) else .no
    | _ => .no
  | _ => .no
def eFld (f : Str) : EF := fun δ => match δ.st with
  | ex :: st => match look δ.sl ex with
    | some (.ins C fs) => kidOf δ.sl ex st (.ins C fs) (.fld f)
    | _ => .no
  | _ => .no
def cutT {α : Type} (ts : List α) (lo hi : Option Int) : List α := (ts.drop (HT.sIx ts.length 0 lo)).take (HT.sIx ts.length ts.length hi - HT.sIx ts.length 0 lo)
def kSl (lo hi : Option Int) : T → Option T
  | .lst _ ts => if datas ts then some (.lst .mu (cutT ts lo hi)) else none
  | .scr ns => some (.lst .mu ((cutT ns lo hi).map T.int))
  | .tup ts => if datas ts then some (.tup (cutT ts lo hi)) else none
  | .str z => if z.length ≤ sizeLine then some (.str (cutS z lo hi)) else none
  | _ => none
section
variable {X : Cx} {B : Base} {Ψ : XF} {W : WX} {k n : Nat}
/-- two values that give a third, a leaf -/
theorem bi_of {f : Value → Value → Sem Value} {g : T → T → Option T} (h : ∀ S A A' H x y tx ty r (Q : VK), Ex S H → Ex A H → Ex A' H → RepT (kc X.K B) S A tx x → RepT (kc X.K B) S A' ty y → g tx ty = some r → (∀ v, leafV r = some v → Q v H) → tR2 X f x y H Q) : BiF X B Ψ f (op2 g) := fun δ σ H vs x y Q s q => by
  obtain ⟨sl, st⟩ := δ
  unfold op2 at q
  cases st with
  | nil => exact q.elim
  | cons ey st =>
    cases st with
    | nil => exact q.elim
    | cons ex st =>
      simp only at q
      cases z1 : look sl ex with
      | none => simp only [z1] at q; exact q.elim
      | some tx =>
        cases z2 : look sl ey with
        | none => simp only [z1, z2] at q; exact q.elim
        | some ty =>
          simp only [z1, z2] at q
          cases z3 : g tx ty with
          | none => simp only [z3] at q; exact q.elim
          | some r =>
            simp only [z3] at q
            obtain ⟨S, A, A', e1, e2, e3, r1, r2⟩ := s.top2 z2 z1
            exact h S A' A H x y tx ty r Q e1 e3 e2 r2 r1 z3 fun v hv => q v H (StT.pushL s.pop.pop hv)
theorem tR2_of {f : Value → Value → Sem Value} {r : R2} (hr : OpR X f r) {x y : V} {H : Hp} {Q : VK} (h : r x y H Q) : tR2 X f x y H Q := fun pins s σ v u I r1 r2 => hr pins s σ H x y v u Q I r1 r2 h
theorem lv {K : Kc} {S A : Hp} {t : T} {v : V} (r : RepT K S A t v) {w : V} (h : leafV t = some w) : v = w := r.leafR h
theorem bi_sub : BiF X B Ψ (binaryOp .Sub) (op2 kSub) := bi_of fun S A A' H x y tx ty r Q e1 e2 e3 r1 r2 hg hq => by
  cases tx <;> first | (cases hg; done) | skip
  cases ty <;> first | (cases hg; done) | skip
  cases hg
  exact tR2_of op_sub ⟨_, _, lv r1 rfl, lv r2 rfl, hq _ rfl⟩
theorem bi_fdiv : BiF X B Ψ (binaryOp .FloorDiv) (op2 kFdiv) := bi_of fun S A A' H x y tx ty r Q e1 e2 e3 r1 r2 hg hq => by
  cases tx <;> first | (cases hg; done) | skip
  cases ty <;> first | (cases hg; done) | skip
  simp only [kFdiv] at hg
  split at hg
  · rename_i hc; cases hg; exact tR2_of op_fdiv ⟨_, _, lv r1 rfl, lv r2 rfl, hc, hq _ rfl⟩
  · cases hg
theorem bi_mod : BiF X B Ψ (binaryOp .Mod) (op2 kMod) := bi_of fun S A A' H x y tx ty r Q e1 e2 e3 r1 r2 hg hq => by
  cases tx <;> first | (cases hg; done) | skip
  cases ty <;> first | (cases hg; done) | skip
  simp only [kMod] at hg
  split at hg
  · rename_i hc; cases hg; exact tR2_of op_mod ⟨_, _, lv r1 rfl, lv r2 rfl, hc, hq _ rfl⟩
  · cases hg
theorem bi_pow : BiF X B Ψ (binaryOp .Pow) (op2 kPow) := bi_of fun S A A' H x y tx ty r Q e1 e2 e3 r1 r2 hg hq => by
  cases tx <;> first | (cases hg; done) | skip
  cases ty <;> first | (cases hg; done) | skip
  simp only [kPow] at hg
  split at hg
  · rename_i hc; cases hg; exact tR2_of op_pow ⟨_, _, lv r1 rfl, lv r2 rfl, hc, hq _ rfl⟩
  · cases hg
theorem bi_lt : BiF X B Ψ (compareOp .Lt) (op2 kLt) := bi_of fun S A A' H x y tx ty r Q e1 e2 e3 r1 r2 hg hq => by
  cases tx <;> first | (cases hg; done) | skip
  cases ty <;> first | (cases hg; done) | skip
  cases hg
  exact tR2_of op_lt ⟨_, _, lv r1 rfl, lv r2 rfl, hq _ rfl⟩
theorem bi_le : BiF X B Ψ (compareOp .LtE) (op2 kLe) := bi_of fun S A A' H x y tx ty r Q e1 e2 e3 r1 r2 hg hq => by
  cases tx <;> first | (cases hg; done) | skip
  cases ty <;> first | (cases hg; done) | skip
  cases hg
  exact tR2_of op_le ⟨_, _, lv r1 rfl, lv r2 rfl, hq _ rfl⟩
theorem bi_gt : BiF X B Ψ (compareOp .Gt) (op2 kGt) := bi_of fun S A A' H x y tx ty r Q e1 e2 e3 r1 r2 hg hq => by
  cases tx <;> first | (cases hg; done) | skip
  cases ty <;> first | (cases hg; done) | skip
  cases hg
  exact tR2_of op_gt ⟨_, _, lv r1 rfl, lv r2 rfl, hq _ rfl⟩
theorem bi_ge : BiF X B Ψ (compareOp .GtE) (op2 kGe) := bi_of fun S A A' H x y tx ty r Q e1 e2 e3 r1 r2 hg hq => by
  cases tx <;> first | (cases hg; done) | skip
  cases ty <;> first | (cases hg; done) | skip
  cases hg
  exact tR2_of op_ge ⟨_, _, lv r1 rfl, lv r2 rfl, hq _ rfl⟩
theorem eqT_cases {tx ty : T} {b : Bool} (h : eqT tx ty = some b) : (∃ i j, tx = .int i ∧ ty = .int j ∧ b = decide (i = j)) ∨ (∃ u w, tx = .str u ∧ ty = .str w ∧ b = decide (u = w)) ∨ ∃ d e, tx.py = some d ∧ ty.py = some e ∧ SeqAt.shaped d = true ∧ SeqAt.shaped e = true ∧ b = PyData.eqv d e := by
  unfold eqT at h
  split at h
  · cases h; exact .inl ⟨_, _, rfl, rfl, rfl⟩
  · cases h; exact .inr (.inl ⟨_, _, rfl, rfl, rfl⟩)
  · split at h
    · rename_i d e h1 h2
      split at h
      · rename_i hs
        rw [Bool.and_eq_true] at hs
        cases h
        exact .inr (.inr ⟨d, e, h1, h2, hs.1, hs.2, rfl⟩)
      · cases h
    · cases h
theorem bi_eqU (hu : X.A.units + 64 < cLine) : BiF X B Ψ (compareOp .Eq) (op2 kEq) := bi_of fun S A A' H x y tx ty r Q e1 e2 e3 r1 r2 hg hq => by
  unfold kEq at hg
  cases z : eqT tx ty with
  | none => rw [z] at hg; cases hg
  | some b =>
    rw [z] at hg; cases hg
    have hQ : Q (.bl b) H := hq _ rfl
    rcases eqT_cases z with ⟨i, j, rfl, rfl, rfl⟩ | ⟨u, w, rfl, rfl, rfl⟩ | ⟨d, e, p1, p2, s1, s2, rfl⟩
    · have a1 := lv r1 rfl
      have a2 := lv r2 rfl
      subst a1 a2
      refine tR2_of op_eq ⟨rfl, ?_⟩
      rw [dec_int, show (i == j) = decide (i = j) from Bool.beq_eq_decide_eq i j]
      exact hQ
    · have a1 := lv r1 rfl
      have a2 := lv r2 rfl
      subst a1 a2
      refine tR2_of op_eq ⟨rfl, ?_⟩
      have : decide (V.str u = V.str w) = decide (u = w) := by by_cases e : u = w <;> simp [e]
      rw [this]; exact hQ
    · exact tR2_of (op_eqD hu) ⟨d, e, dp_of e1 r1 e2 p1, dp_of e1 r2 e3 p2, s1, s2, hQ⟩
theorem bi_neU (hu : X.A.units + 64 < cLine) : BiF X B Ψ (compareOp .NotEq) (op2 kNe) := bi_of fun S A A' H x y tx ty r Q e1 e2 e3 r1 r2 hg hq => by
  unfold kNe at hg
  cases z : eqT tx ty with
  | none => rw [z] at hg; cases hg
  | some b =>
    rw [z] at hg; cases hg
    have hQ : Q (.bl (!b)) H := hq _ rfl
    rcases eqT_cases z with ⟨i, j, rfl, rfl, rfl⟩ | ⟨u, w, rfl, rfl, rfl⟩ | ⟨d, e, p1, p2, s1, s2, rfl⟩
    · have a1 := lv r1 rfl
      have a2 := lv r2 rfl
      subst a1 a2
      refine tR2_of op_ne ⟨rfl, ?_⟩
      rw [dec_int, show (i == j) = decide (i = j) from Bool.beq_eq_decide_eq i j]
      exact hQ
    · have a1 := lv r1 rfl
      have a2 := lv r2 rfl
      subst a1 a2
      refine tR2_of op_ne ⟨rfl, ?_⟩
      have : decide (V.str u = V.str w) = decide (u = w) := by by_cases e : u = w <;> simp [e]
      rw [this]; exact hQ
    · exact tR2_of (op_neD hu) ⟨d, e, dp_of e1 r1 e2 p1, dp_of e1 r2 e3 p2, s1, s2, hQ⟩
theorem isNon_v {K : Kc} {S A : Hp} {t : T} {v : V} {b : Bool} (r : RepT K S A t v) (h : t.isNon = some b) : decide (v = .non) = b := by
  cases r with
  | leaf hv => cases t <;> first | (cases hv; done) | (cases hv; cases h; rfl)
  | gone => cases h
  | _ => cases h; rfl
theorem bi_isN : BiF X B Ψ (compareOp .Is) (op2 kIsN) := bi_of fun S A A' H x y tx ty r Q e1 e2 e3 r1 r2 hg hq => by
  unfold kIsN at hg
  split at hg
  · cases z : tx.isNon with
    | none => rw [z] at hg; cases hg
    | some b =>
      rw [z] at hg; cases hg
      refine tR2_of op_isN ⟨lv r2 rfl, ?_⟩
      rw [isNon_v r1 z]; exact hq _ rfl
  · cases hg
theorem bi_notN : BiF X B Ψ (compareOp .IsNot) (op2 kNotN) := bi_of fun S A A' H x y tx ty r Q e1 e2 e3 r1 r2 hg hq => by
  unfold kNotN at hg
  split at hg
  · cases z : tx.isNon with
    | none => rw [z] at hg; cases hg
    | some b =>
      rw [z] at hg; cases hg
      refine tR2_of op_notN ⟨lv r2 rfl, ?_⟩
      rw [isNon_v r1 z]; exact hq _ rfl
  · cases hg
theorem op_inDict (hu : X.A.units + 1 < cLine) : OpR X (compareOp .In) (fun y x H Q => ∃ a o, x = .ref a ∧ DGet H a y o ∧ Q (.bl o.isSome) H) := fun pins s σ H y x u v Q I ry rx h => by
  obtain ⟨a, o, rfl, g, q⟩ := h
  cases rx
  exact d_in hu I g ry fun s' I' => ⟨.bl o.isSome, H, I', rfl, q⟩
theorem op_ninDict (hu : X.A.units + 1 < cLine) : OpR X (compareOp .NotIn) (fun y x H Q => ∃ a o, x = .ref a ∧ DGet H a y o ∧ Q (.bl (!o.isSome)) H) := fun pins s σ H y x u v Q I ry rx h => by
  obtain ⟨a, o, rfl, g, q⟩ := h
  cases rx
  exact d_notIn hu I g ry fun s' I' => ⟨.bl (!o.isSome), H, I', rfl, q⟩
theorem dget_of {H : Hp} {a : Addr} {kv : List (Key × V)} (h : Rd H a (.dK kv)) (i : Int) : DGet H a (.int i) (valV kv (Sum.inl i)) := .inl ⟨kv, Sum.inl i, h, rfl, rfl⟩
theorem inT_do {S A A' H : Hp} {x y : V} {tx ty : T} {b : Bool} (e1 : Ex S H) (e2 : Ex A H) (e3 : Ex A' H) (r1 : RepT (kc X.K B) S A tx x) (r2 : RepT (kc X.K B) S A' ty y) (h : inT tx ty = some b) :
    (∃ p xs, y = .ref p ∧ (SqL X.K H p xs ∨ SqT X.K H p xs) ∧ flatV x = true ∧ xs.all flatV = true ∧ inV x xs = b) ∨ (∃ (c : Nat) (z : Str), x = .str ⟨#[c]⟩ ∧ y = .str z ∧ b = decide (c ∈ z.cps.toList)) ∨ (∃ a o, y = .ref a ∧ DGet H a x o ∧ o.isSome = b) := by
  unfold inT at h
  split at h
  · split at h
    · rename_i hf
      rw [Bool.and_eq_true] at hf
      obtain ⟨a, xs, G, rfl, h2, h3, h4⟩ := r2.lstR e1 e3
      obtain ⟨q1, q2⟩ := inF_v hf.1 r1 h3 hf.2
      cases h
      exact .inl ⟨a, xs, rfl, .inl (SqL.of h2), (flat_v hf.1 r1).2, q2, q1⟩
    · cases h
  · split at h
    · rename_i hf
      rw [Bool.and_eq_true] at hf
      obtain ⟨a, xs, rfl, h2, h3⟩ := r2.tupR e1
      obtain ⟨q1, q2⟩ := inF_v hf.1 r1 h3 hf.2
      cases h
      exact .inl ⟨a, xs, rfl, .inr (SqT.of h2), (flat_v hf.1 r1).2, q2, q1⟩
    · cases h
  · rename_i i _ kvs
    obtain ⟨a, kv, G, rfl, h2, _, h4, h5, h6, _⟩ := r2.dctR e3
    cases h
    have ex := lv r1 rfl
    subst ex
    refine .inr (.inr ⟨a, _, rfl, dget_of h2 i, ?_⟩)
    rcases dct_get h4 h5 h6 i with ⟨q1, q2⟩ | ⟨u, x, A, q1, q2, _⟩ <;> rw [q1, q2] <;> rfl
  · rename_i u z
    split at h
    · rename_i c hc
      cases h
      refine .inr (.inl ⟨c, z, ?_, lv r2 rfl, rfl⟩)
      rw [lv r1 rfl]
      congr 1
      have : u.cps = #[c] := by apply Array.toList_inj.mp; rw [hc]
      cases u; simp at this; rw [this]
    · cases h
  · cases h
theorem bi_inU (hu : X.A.units + 64 < cLine) : BiF X B Ψ (compareOp .In) (op2 kIn) := bi_of fun S A A' H x y tx ty r Q e1 e2 e3 r1 r2 hg hq => by
  unfold kIn at hg
  cases z : inT tx ty with
  | none => rw [z] at hg; cases hg
  | some b =>
    rw [z] at hg; cases hg
    have hQ : Q (.bl b) H := hq _ rfl
    rcases inT_do e1 e2 e3 r1 r2 z with ⟨p, xs, h1, h2, h3, h4, rfl⟩ | ⟨cc, zz, h1, h2, rfl⟩ | ⟨a, o, h1, h2, rfl⟩
    · exact tR2_of op_in_seq ⟨p, xs, h1, h2, h3, h4, by rw [if_neg Bool.false_ne_true]; exact hQ⟩
    · exact tR2_of op_in_sign ⟨cc, zz, h1, h2, hQ⟩
    · exact tR2_of (op_inDict (by omega)) ⟨a, o, h1, h2, hQ⟩
theorem bi_ninU (hu : X.A.units + 64 < cLine) : BiF X B Ψ (compareOp .NotIn) (op2 kNin) := bi_of fun S A A' H x y tx ty r Q e1 e2 e3 r1 r2 hg hq => by
  unfold kNin at hg
  cases z : inT tx ty with
  | none => rw [z] at hg; cases hg
  | some b =>
    rw [z] at hg; cases hg
    have hQ : Q (.bl (!b)) H := hq _ rfl
    rcases inT_do e1 e2 e3 r1 r2 z with ⟨p, xs, h1, h2, h3, h4, rfl⟩ | ⟨cc, zz, h1, h2, rfl⟩ | ⟨a, o, h1, h2, rfl⟩
    · exact tR2_of op_notIn_seq ⟨p, xs, h1, h2, h3, h4, by rw [if_pos rfl]; exact hQ⟩
    · exact tR2_of op_notIn_sign ⟨cc, zz, h1, h2, hQ⟩
    · exact tR2_of (op_ninDict (by omega)) ⟨a, o, h1, h2, hQ⟩
theorem bi_eq (c : CxOk X B W Ψ k) : BiF X B Ψ (compareOp .Eq) (op2 kEq) := bi_eqU c.room.units
theorem bi_ne (c : CxOk X B W Ψ k) : BiF X B Ψ (compareOp .NotEq) (op2 kNe) := bi_neU c.room.units
theorem bi_in (c : CxOk X B W Ψ k) : BiF X B Ψ (compareOp .In) (op2 kIn) := bi_inU c.room.units
theorem bi_nin (c : CxOk X B W Ψ k) : BiF X B Ψ (compareOp .NotIn) (op2 kNin) := bi_ninU c.room.units
end
end Vt

/-! More values: sums of lists, subscripts, slices, attributes, built-in functions. -/
namespace Vt
open PySem PySem.Spec PyProof.Rows L2

section
variable {α β : Type} {R : α → β → Prop}
theorem pr_at : ∀ {l : List α} {m : List β} {i : Nat} {a : α}, Paired R l m → l[i]? = some a → ∃ b, m[i]? = some b ∧ R a b
  | _, _, _, _, .nil, h => by simp at h
  | _, _, 0, _, .cons r _, h => by simp at h; subst h; exact ⟨_, rfl, r⟩
  | _, _, i + 1, _, .cons _ t, h => by
    obtain ⟨b, h1, h2⟩ := pr_at (i := i) t (by simpa using h)
    exact ⟨b, by simpa using h1, h2⟩
theorem pr_app : ∀ {l l' : List α} {m m' : List β}, Paired R l m → Paired R l' m' → Paired R (l ++ l') (m ++ m')
  | _, _, _, _, .nil, k => k
  | _, _, _, _, .cons r t, k => .cons r (pr_app t k)
theorem pr_take : ∀ (n : Nat) {l : List α} {m : List β}, Paired R l m → Paired R (l.take n) (m.take n)
  | 0, _, _, _ => .nil
  | _ + 1, _, _, .nil => .nil
  | n + 1, _, _, .cons r t => .cons r (pr_take n t)
theorem pr_drop : ∀ (n : Nat) {l : List α} {m : List β}, Paired R l m → Paired R (l.drop n) (m.drop n)
  | 0, _, _, h => h
  | _ + 1, _, _, .nil => .nil
  | n + 1, _, _, .cons r t => pr_drop n t
theorem pr_len : ∀ {l : List α} {m : List β}, Paired R l m → l.length = m.length
  | _, _, .nil => rfl
  | _, _, .cons _ t => by simp [pr_len t]
theorem pr_rep {l : List α} {m : List β} (h : Paired R l m) : ∀ n : Nat, Paired R (List.replicate n l).flatten (List.replicate n m).flatten
  | 0 => .nil
  | n + 1 => by rw [List.replicate_succ, List.replicate_succ, List.flatten_cons, List.flatten_cons]; exact pr_app h (pr_rep h n)
theorem pr_set : ∀ (i : Nat) {l : List α} {m : List β} {a : α} {b : β}, Paired R l m → R a b → Paired R (l.set i a) (m.set i b)
  | _, _, _, _, _, .nil, _ => .nil
  | 0, _, _, _, _, .cons _ t, r => .cons r t
  | i + 1, _, _, _, _, .cons q t, r => .cons q (pr_set i t r)
theorem pr_map {γ : Type} {f : γ → α} {g : γ → β} (h : ∀ c, R (f c) (g c)) : ∀ l : List γ, Paired R (l.map f) (l.map g)
  | [] => .nil
  | c :: l => .cons (h c) (pr_map h l)
end
/-- data, one by one -/
abbrev PD (K : Kc) (S : Hp) : List T → List V → Prop := Paired fun t x => RepT K S hnil t x
section
variable {K : Kc} {S : Hp}
theorem RepTs.pd : ∀ {F : Hp} {ts : List T} {xs : List V}, RepTs K S F ts xs → datas ts = true → PD K S ts xs
  | _, _, _, .nil, _ => .nil
  | _, _, _, .cons (t := t) (ts := ts) d h r, q => by
    have q' : (t.data && datas ts) = true := q
    rw [Bool.and_eq_true] at q'
    have e := h.datas_nil q'.1
    subst e
    exact .cons h (r.pd q'.2)
theorem pd_rep : ∀ {ts : List T} {xs : List V}, PD K S ts xs → RepTs K S hnil ts xs
  | _, _, .nil => .nil
  | _, _, .cons h r => .cons (F := hnil) Dj.nil h (pd_rep r)
theorem pd_ints (ns : List Int) : PD K S (ns.map T.int) (ns.map V.int) := pr_map (fun c => .leaf rfl) ns
theorem pd_strs (ns : List Str) : PD K S (ns.map T.str) (ns.map V.str) := pr_map (fun c => .leaf rfl) ns
theorem rep_ints : ∀ {ns : List Int} {F : Hp} {xs : List V}, RepTs K S F (ns.map T.int) xs → xs = ns.map V.int
  | [], _, _, .nil => rfl
  | n :: ns, _, _, .cons d h r => by rw [List.map_cons, ← rep_ints r, h.leafR rfl]
theorem rep_bls : ∀ {ns : List Bool} {F : Hp} {xs : List V}, RepTs K S F (ns.map T.bl) xs → xs = ns.map V.bl
  | [], _, _, .nil => rfl
  | n :: ns, _, _, .cons d h r => by rw [List.map_cons, ← rep_bls r, h.leafR rfl]
theorem rep_strs : ∀ {ns : List Str} {F : Hp} {xs : List V}, RepTs K S F (ns.map T.str) xs → xs = ns.map V.str
  | [], _, _, .nil => rfl
  | n :: ns, _, _, .cons d h r => by rw [List.map_cons, ← rep_strs r, h.leafR rfl]
end
def T.toInt : T → Option Int
  | .int i => some i
  | _ => none
def T.toBl : T → Option Bool
  | .bl i => some i
  | _ => none
def T.toStr : T → Option Str
  | .str i => some i
  | _ => none
def allOf {α : Type} (f : T → Option α) : List T → Option (List α)
  | [] => some []
  | t :: ts => match f t, allOf f ts with
    | some a, some l => some (a :: l)
    | _, _ => none
theorem allOf_eq {α : Type} {f : T → Option α} {g : α → T} (hf : ∀ t a, f t = some a → t = g a) : ∀ {ts : List T} {l : List α}, allOf f ts = some l → ts = l.map g
  | [], l, h => by cases h; rfl
  | t :: ts, l, h => by
    unfold allOf at h
    cases z1 : f t with
    | none => simp only [z1] at h; cases h
    | some a =>
      cases z2 : allOf f ts with
      | none => simp only [z1, z2] at h; cases h
      | some l2 =>
        simp only [z1, z2] at h
        cases h
        rw [List.map_cons, ← hf t a z1, ← allOf_eq hf z2]
theorem allInt {ts : List T} {l : List Int} (h : allOf T.toInt ts = some l) : ts = l.map T.int := allOf_eq (fun t a h => by cases t <;> cases h; rfl) h
theorem allBl {ts : List T} {l : List Bool} (h : allOf T.toBl ts = some l) : ts = l.map T.bl := allOf_eq (fun t a h => by cases t <;> cases h; rfl) h
theorem allStr {ts : List T} {l : List Str} (h : allOf T.toStr ts = some l) : ts = l.map T.str := allOf_eq (fun t a h => by cases t <;> cases h; rfl) h
theorem allOf_map {α : Type} {f : T → Option α} {g : α → T} (hf : ∀ a, f (g a) = some a) : ∀ l : List α, allOf f (l.map g) = some l
  | [] => rfl
  | a :: l => by rw [List.map_cons]; unfold allOf; rw [hf, allOf_map hf l]
/-! ### rising lists -/
def ins (a : Int) : List Int → List Int
  | [] => [a]
  | b :: l => if a ≤ b then a :: b :: l else b :: ins a l
def srt : List Int → List Int
  | [] => []
  | a :: l => ins a (srt l)
theorem ins_perm (a : Int) : ∀ l, (ins a l).Perm (a :: l)
  | [] => .refl _
  | b :: l => by
    unfold ins
    split
    · exact .refl _
    · exact ((ins_perm a l).cons b).trans (.swap a b l)
theorem srt_perm : ∀ l, (srt l).Perm l
  | [] => .refl _
  | a :: l => (ins_perm a _).trans ((srt_perm l).cons a)
theorem ins_sorted (a : Int) : ∀ l, l.Pairwise (· ≤ ·) → (ins a l).Pairwise (· ≤ ·)
  | [], _ => by simp [ins]
  | b :: l, h => by
    rw [List.pairwise_cons] at h
    unfold ins
    split
    · rename_i hab
      refine List.pairwise_cons.mpr ⟨fun c hc => ?_, List.pairwise_cons.mpr h⟩
      rcases List.mem_cons.mp hc with rfl | hc
      · exact hab
      · exact Int.le_trans hab (h.1 c hc)
    · rename_i hab
      refine List.pairwise_cons.mpr ⟨fun c hc => ?_, ins_sorted a l h.2⟩
      rcases List.mem_cons.mp ((ins_perm a l).mem_iff.mp hc) with rfl | hc
      · omega
      · exact h.1 c hc
theorem srt_sorted : ∀ l, (srt l).Pairwise (· ≤ ·)
  | [] => .nil
  | a :: l => ins_sorted a _ (srt_sorted l)
theorem sorted_unique : ∀ {l l' : List Int}, l.Perm l' → l.Pairwise (· ≤ ·) → l'.Pairwise (· ≤ ·) → l = l'
  | [], l', p, _, _ => by rw [List.nil_perm.mp p]
  | a :: l, [], p, _, _ => absurd p.length_eq (by simp)
  | a :: l, b :: l', p, h, h' => by
    rw [List.pairwise_cons] at h h'
    have e : a = b := by
      have ha : a ∈ b :: l' := p.mem_iff.mp List.mem_cons_self
      have hb : b ∈ a :: l := p.mem_iff.mpr List.mem_cons_self
      rcases List.mem_cons.mp ha with e | ha
      · exact e
      · rcases List.mem_cons.mp hb with e | hb
        · exact e.symm
        · have := h.1 b hb; have := h'.1 a ha; omega
    subst e
    rw [sorted_unique p.cons_inv h.2 h'.2]
theorem srt_unique {l l' : List Int} (p : l.Perm l') (h : l.Pairwise (· ≤ ·)) : l = srt l' := sorted_unique (p.trans (srt_perm l').symm) h (srt_sorted l')
theorem mem_srt {l : List Int} {a : Int} : a ∈ srt l ↔ a ∈ l := (srt_perm l).mem_iff
theorem srt_length {l : List Int} : (srt l).length = l.length := (srt_perm l).length_eq
theorem srt_id {l : List Int} (h : l.Pairwise (· ≤ ·)) : srt l = l := (srt_unique (.refl l) h).symm
/-! ### the words -/
/-- (view of a chest) + [..]: both are temporaries -/
def eCatO : EF := fun δ => match δ.st with
  | .own (.lst .mu us) :: .own (.lst .mu ts) :: st => if ts.length + us.length ≤ sizeLine then .ok ⟨δ.sl, .own (.lst .mu (ts ++ us)) :: st⟩ else .no
  | _ => .no
def kLen : T → Option T
  | .lst _ ts => some (.int ts.length)
  | .tup ts => some (.int ts.length)
  | .scr ns => some (.int ns.length)
  | .dct _ kvs => some (.int kvs.length)
  | .str z => if z.length ≤ sizeLine then some (.int z.length) else none
  | _ => none
def kSorted : T → Option T
  | .lst _ ts => (allOf T.toInt ts).map fun l => .lst .mu ((srt l).map .int)
  | .dct _ kvs => if kvs.length < 64 then some (.lst .mu ((srt (kvs.map (·.1))).map .int)) else none
  | _ => none
def kList : T → Option T
  | .lst _ ts => if datas ts then some (.lst .mu ts) else none
  | .tup ts => if datas ts then some (.lst .mu ts) else none
  | .dct _ kvs => some (.lst .mu ((kvs.map (·.1)).map .int))
  | _ => none
def kTuple : T → Option T
  | .lst _ ts => if datas ts then some (.tup ts) else none
  | _ => none
def kAll : T → Option T
  | .lst _ ts => (allOf T.toBl ts).map fun l => .bl (l.all id)
  | _ => none
def kAny : T → Option T
  | .lst _ ts => (allOf T.toBl ts).map fun l => .bl (l.any id)
  | _ => none
def kInt : T → Option T
  | .bl b => some (.int (if b then 1 else 0))
  | .int i => some (.int i)
  | .str z => if z.length ≤ 640 then (PySem.intText? z).map .int else none
  | _ => none
def kStr : T → Option T
  | .int i => if i.natAbs.log2 < 1920 then some (.str (toString i)) else none
  | _ => none
def kMin2 : T → T → Option T
  | .int i, .int j => some (.int (if j < i then j else i))
  | _, _ => none
def kMax2 : T → T → Option T
  | .int i, .int j => some (.int (if j > i then j else i))
  | _, _ => none
def tyT : T → Option String
  | .non => some "NoneType"
  | .bl _ => some "bool"
  | .int _ => some "int"
  | .str _ => some "str"
  | .tup _ => some "tuple"
  | .lst _ _ => some "list"
  | _ => none
def kIsi : T → T → Option T
  | x, .ty u => match tyT x with
    | some t => (kitB t u).map .bl
    | none => none
  | _, _ => none
section
variable {X : Cx} {B : Base} {Ψ : XF} {W : WX} {k n : Nat}
theorem StT.rd1 {K : PySem.W.Frag} {sl st : List Ent} {e : Ent} {σ : L2.St} {H : Hp} {v : V} {vs : List V} {u : T} (s : StT K B ⟨sl, e :: st⟩ σ H (v :: vs)) (hl : look sl e = some u) : ∃ S F sv A, Sta K B ⟨sl, st⟩ σ H vs S F sv ∧ Ex S H ∧ Ex A H ∧ RepT (kc K B) S A u v := by
  obtain ⟨S, F, sv, t⟩ := s
  obtain ⟨A, h1, h2⟩ := t.look_at (m := 0) app_hd app_hd hl
  obtain ⟨F', t', _⟩ := t.pop
  exact ⟨S, F', sv, A, t', t.exS, h1.trans t.exF, h2⟩
theorem StT.rd2 {K : PySem.W.Frag} {sl st : List Ent} {e e' : Ent} {σ : L2.St} {H : Hp} {v v' : V} {vs : List V} {u u' : T} (s : StT K B ⟨sl, e :: e' :: st⟩ σ H (v :: v' :: vs)) (hl : look sl e = some u) (hl' : look sl e' = some u') : ∃ S F sv A A', Sta K B ⟨sl, st⟩ σ H vs S F sv ∧ Ex S H ∧ Ex A H ∧ Ex A' H ∧ RepT (kc K B) S A u v ∧ RepT (kc K B) S A' u' v' := by
  obtain ⟨S, F, sv, t⟩ := s
  obtain ⟨A, h1, h2⟩ := t.look_at (m := 0) app_hd app_hd hl
  obtain ⟨A', h1', h2'⟩ := t.look_at (m := 1) (by rfl) (by rfl) hl'
  obtain ⟨F', t', _⟩ := t.pop
  obtain ⟨F'', t'', _⟩ := t'.pop
  exact ⟨S, F'', sv, A, A', t'', t.exS, h1.trans t.exF, h1'.trans t.exF, h2, h2'⟩
/-- two values that give a third -/
theorem bi_gen {f : Value → Value → Sem Value} {g : T → T → Option T} (h : ∀ sl st σ H vs S F sv A A' x y tx ty r (Q : VK), Sta X.K B ⟨sl, st⟩ σ H vs S F sv → Ex S H → Ex A H → Ex A' H → RepT (kc X.K B) S A tx x → RepT (kc X.K B) S A' ty y → g tx ty = some r → (∀ v H', StT X.K B ⟨sl, .own r :: st⟩ σ H' (v :: vs) → Q v H') → tR2 X f x y H Q) : BiF X B Ψ f (op2 g) := fun δ σ H vs x y Q s q => by
  obtain ⟨sl, st⟩ := δ
  unfold op2 at q
  cases st with
  | nil => exact q.elim
  | cons ey st =>
    cases st with
    | nil => exact q.elim
    | cons ex st =>
      simp only at q
      cases z1 : look sl ex with
      | none => simp only [z1] at q; exact q.elim
      | some tx =>
        cases z2 : look sl ey with
        | none => simp only [z1, z2] at q; exact q.elim
        | some ty =>
          simp only [z1, z2] at q
          cases z3 : g tx ty with
          | none => simp only [z3] at q; exact q.elim
          | some r =>
            simp only [z3] at q
            obtain ⟨S, F, sv, A, A', t, e1, e2, e3, r1, r2⟩ := s.rd2 z2 z1
            exact h sl st σ H vs S F sv A' A x y tx ty r Q t e1 e3 e2 r2 r1 z3 q
theorem Sta.leaf {K : PySem.W.Frag} {sl st : List Ent} {σ : L2.St} {H : Hp} {v : V} {vs sv : List V} {S F : Hp} {r : T} (t : Sta K B ⟨sl, st⟩ σ H vs S F sv) (h : leafV r = some v) : StT K B ⟨sl, .own r :: st⟩ σ H (v :: vs) := ⟨S, F, sv, t.pushD (.leaf h)⟩
theorem Sta.dat {K : PySem.W.Frag} {sl st : List Ent} {σ : L2.St} {H : Hp} {v : V} {vs sv : List V} {S F : Hp} {r : T} (t : Sta K B ⟨sl, st⟩ σ H vs S F sv) (h : RepT (kc K B) S hnil r v) : StT K B ⟨sl, .own r :: st⟩ σ H (v :: vs) := ⟨S, F, sv, t.pushD h⟩
theorem bi_add : BiF X B Ψ (binaryOp .Add) (op2 kAdd) := bi_gen fun sl st σ H vs S F sv A A' x y tx ty r Q t e1 e2 e3 r1 r2 hg q => by
  unfold kAdd at hg
  split at hg
  · cases hg
    exact tR2_of op_add ⟨_, _, lv r1 rfl, lv r2 rfl, q _ _ (t.leaf rfl)⟩
  · split at hg
    · rename_i hz; cases hg
      exact tR2_of op_add_str ⟨_, _, lv r1 rfl, lv r2 rfl, hz, q _ _ (t.leaf rfl)⟩
    · cases hg
  · rename_i ts us
    split at hg
    · rename_i hz; cases hg
      simp only [Bool.and_eq_true, decide_eq_true_eq] at hz
      obtain ⟨⟨z1, z2⟩, z3⟩ := hz
      obtain ⟨a, xs, G, rfl, h2, h3, _⟩ := r1.lstR e1 e2
      obtain ⟨b, ys, G', rfl, h2', h3', _⟩ := r2.lstR e1 e3
      refine tR2_of op_cat ⟨a, b, xs, ys, rfl, rfl, h2, h2', by rw [← h3.length, ← h3'.length]; exact z3, fun p hp => q _ _ ?_⟩
      exact t.newL (pd_rep (pr_app (h3.pd z1) (h3'.pd z2))) hp
    · cases hg
  · rename_i ts us
    split at hg
    · rename_i hz; cases hg
      simp only [Bool.and_eq_true, decide_eq_true_eq] at hz
      obtain ⟨⟨z1, z2⟩, z3⟩ := hz
      obtain ⟨a, xs, rfl, h2, h3⟩ := r1.tupR e1
      obtain ⟨b, ys, rfl, h2', h3'⟩ := r2.tupR e1
      have d1 := h3.datas_nil z1
      have d2 := h3'.datas_nil z2
      subst d1 d2
      refine tR2_of op_catA ⟨a, b, xs, ys, rfl, rfl, SqT.of h2, SqT.of h2', by rw [← h3.length, ← h3'.length]; exact z3, fun e => q _ _ ?_, fun _ e => q _ _ ?_, fun _ _ p hp => q _ _ ?_⟩
      · have : ts = [] := List.length_eq_zero_iff.mp (by rw [h3.length, e]; rfl)
        subst this
        exact t.dat r2
      · have : us = [] := List.length_eq_zero_iff.mp (by rw [h3'.length, e]; rfl)
        subst this
        rw [List.append_nil]
        exact t.dat r1
      · exact t.newT (pd_rep (pr_app (h3.pd z1) (h3'.pd z2))) hp
    · cases hg
  · cases hg
theorem mulOk_of {i j : Int} (h : mulOk i j = true) : IntMulOk i j := by
  unfold mulOk at h
  rw [Bool.or_eq_true, Bool.or_eq_true] at h
  rcases h with h | h | h
  · exact .of_left (PyProof.Rows.intBits_le (of_decide_eq_true h))
  · exact .of_right (PyProof.Rows.intBits_le (of_decide_eq_true h))
  · have h' : i.natAbs.log2 + j.natAbs.log2 < 100000000 := of_decide_eq_true h
    exact (mulx_ok (a := i.natAbs.log2 + 1) (b := j.natAbs.log2 + 1) Nat.lt_log2_self Nat.lt_log2_self (by omega)).ok
theorem op_mulI : OpR X (binaryOp .Mult) (rI IntMulOk fun i j => .int (i * j)) := opI fun _ _ _ _ _ _ _ hc q => mul_int q hc
theorem bi_mul : BiF X B Ψ (binaryOp .Mult) (op2 kMul) := bi_gen fun sl st σ H vs S F sv A A' x y tx ty r Q t e1 e2 e3 r1 r2 hg q => by
  unfold kMul at hg
  split at hg
  · split at hg
    · rename_i hz; cases hg
      exact tR2_of op_mulI ⟨_, _, lv r1 rfl, lv r2 rfl, mulOk_of hz, q _ _ (t.leaf rfl)⟩
    · cases hg
  · rename_i ts kk
    split at hg
    · rename_i hz; cases hg
      simp only [Bool.and_eq_true, decide_eq_true_eq] at hz
      obtain ⟨⟨⟨z1, z2⟩, z3⟩, z4⟩ := hz
      obtain ⟨a, xs, G, rfl, h2, h3, _⟩ := r1.lstR e1 e2
      refine tR2_of op_rep ⟨a, kk, xs, rfl, lv r2 rfl, h2, z2, z3, by rw [← h3.length]; exact z4, fun p hp => q _ _ ?_⟩
      exact t.newL (pd_rep (pr_rep (h3.pd z1) _)) hp
    · cases hg
  · cases hg
/-- both lists are let go, what they hold goes into a new one -/
theorem bi_catO : BiF X B Ψ (binaryOp .Add) eCatO := fun δ σ H vs x y Q s q => by
  obtain ⟨sl, st⟩ := δ
  unfold eCatO at q
  split at q
  · rename_i us ts st' e
    have e' : st = .own (.lst .mu us) :: .own (.lst .mu ts) :: st' := e
    subst e'
    split at q
    · rename_i hz
      obtain ⟨S, F, sv, t⟩ := s
      obtain ⟨A, F', t', d1, d2, d3, d4, r⟩ := Sta.parts (es := [.own (.lst .mu us), .own (.lst .mu ts)]) (xs := [y, x]) t rfl
      cases r with
      | cons dA r1 r =>
        rename_i A1 A2
        cases r with
        | cons dB r2 r0 =>
          rename_i A3 A4
          cases r0
          rw [join_nil] at d1 d2 d3 d4 dA
          cases r1 with
          | leaf h => cases h
          | @lmu U _ a xs hU rs1 =>
            cases r2 with
            | leaf h => cases h
            | @lmu V' _ b ys hV rs2 =>
              have dUV : Dj V' U := (dA.r.symm).r.symm.symm
              have jE : Ex (join V' U) (join (join (one a (.lst xs)) U) (join (one b (.lst ys)) V')) := fun z w hw => by
                rcases join_cases hw with h | ⟨_, h⟩
                · have : Ex V' (join (join (one a (.lst xs)) U) (join (one b (.lst ys)) V')) := (Ex.r (Dj.one hV)).trans (Ex.r dA)
                  exact this z w h
                · have : Ex U (join (join (one a (.lst xs)) U) (join (one b (.lst ys)) V')) := (Ex.r (Dj.one hU)).trans Ex.l
                  exact this z w h
              refine tR2_of op_cat ⟨b, a, ys, xs, rfl, rfl, d3 _ _ (Ex.r dA _ _ (join_l one_same)), d3 _ _ (join_l (join_l one_same)), by rw [← rs1.length, ← rs2.length]; exact hz, fun p hp => q _ _ ?_⟩
              have eJ := jE.trans d3
              exact ⟨S, _, sv, t'.cell hp (d1.exl jE) (d2.exl jE) eJ (fun z w h1 h2 => jE.free (d4 z w h1 h2)) (.lmu (eJ.free hp) (rs2.app dUV rs1))⟩
    · exact q.elim
  · exact q.elim
theorem un_negF : UnF X B Ψ (unaryOp .USub) (op1 kNeg) := fun δ σ H vs x Q s q pins sh σ' v I r => by
  obtain ⟨sl, st⟩ := δ
  unfold op1 at q
  cases st with
  | nil => exact q.elim
  | cons ex st =>
    simp only at q
    cases z1 : look sl ex with
    | none => simp only [z1] at q; exact q.elim
    | some tx =>
      simp only [z1] at q
      cases z2 : kNeg tx with
      | none => simp only [z2] at q; exact q.elim
      | some rr =>
        simp only [z2] at q
        cases tx <;> first | (cases z2; done) | skip
        cases z2
        obtain ⟨S, F, sv, A, t, _, _, r1⟩ := s.rd1 z1
        exact un_neg pins sh σ' H x v Q I r ⟨_, lv r1 rfl, q _ _ (t.leaf rfl)⟩
/-! ### subscripts -/
/-- a part is read: kidOf is met by the value there -/
theorem kid_of {K : PySem.W.Frag} {sl st : List Ent} {e : Ent} {σ : L2.St} {H : Hp} {v : V} {vs : List V} {t : T} {sp : Sp} {Q : VK} {a : Addr} {o : HO} {z : V} {X : Cx} (eK : X.K = K) (s : StT K B ⟨sl, e :: st⟩ σ H (v :: vs)) (hl : look sl e = some t) (ha : v = .ref a) (ho : H a = some o) (hz : stepV o sp = some z)
    (hk : ∀ S A u, Ex S H → Ex A H → RepT (kc K B) S A t v → t.kid sp = some u → ∃ A', Ex A' A ∧ RepT (kc K B) S A' u z) (q : PostF X B Ψ (kidOf sl e st t sp) σ vs Q) : Q z H := by
  subst eK ha
  unfold kidOf at q
  cases hu : t.kid sp with
  | none => simp only [hu] at q; exact q.elim
  | some u =>
    simp only [hu] at q
    by_cases hd : u.data = true
    · rw [if_pos hd] at q
      obtain ⟨S, F, sv, A, t', e1, e2, r1⟩ := s.rd1 hl
      obtain ⟨A', _, r2⟩ := hk S A u e1 e2 r1 hu
      have := r2.datas_nil hd
      subst this
      exact q _ _ (t'.dat r2)
    · rw [if_neg hd] at q
      cases hs : t.step sp with
      | none => simp only [hs] at q; exact q.elim
      | some u' =>
        have eu : u' = u := by
          have : t.kid sp = t.step sp := by
            cases t <;> first | rfl | skip
            rename_i m ts
            cases m
            · cases sp <;> simp [T.step] at hs
            · rfl
          rw [this, hs] at hu; exact Option.some.inj hu
        subst eu
        simp only [hs] at q
        cases e with
        | emp => exact q.elim
        | own t0 =>
          obtain rfl : t0 = t := Option.some.inj hl
          obtain ⟨o', x, h1, h2, h3⟩ := s.kid hs
          rw [ho] at h1; cases h1
          rw [hz] at h2; cases h2
          exact q _ _ h3
        | al i p =>
          obtain ⟨S, F, sv, tt⟩ := s
          obtain ⟨t0, r0, a1, a2, a3, a4⟩ := tt.al 0 _ (.ref a) rfl rfl
          have a1' : sl[i]? = some (.own t0) := a1
          simp only [look, a1'] at hl
          obtain ⟨F', t', _⟩ := tt.pop
          refine q _ _ ⟨S, F', sv, t'.pushA ⟨t0, r0, a1', ?_, a3, a4.app ⟨a, o, z, rfl, ho, hz, rfl⟩⟩⟩
          have app_at : ∀ {p : List Sp} {t0 : T}, t0.at p = some t → (t0.at (p ++ [sp])).isSome = true := by
            intro p
            induction p with
            | nil =>
              intro t0 h
              cases h
              show (t.at [sp]).isSome = true
              unfold T.at
              rw [hs]; rfl
            | cons w p ih =>
              intro t0 h
              rw [List.cons_append]
              unfold T.at at h ⊢
              cases hw : t0.step w with
              | none => rw [hw] at h; cases h
              | some y => rw [hw] at h; exact ih h
          exact app_at hl
theorem atI_ix {α : Type} {xs : List α} {i : Int} {j : Nat} (h : ixN xs.length i = some j) : atI xs i = xs[j]? := by unfold atI; rw [h]; rfl
theorem ix_dictR (hu : X.A.units + 1 < cLine) : IxR X (fun x y H Q => ∃ a v, x = .ref a ∧ DGet H a y (some v) ∧ Q v H) := fun value slice pins s σ H x y v u Q I rx ry h hs => by
  obtain ⟨a, w, rfl, g, q⟩ := h
  cases rx
  exact tail_any (dict_typeIs I g) PySem.F.slot_dict_getitem.lookup (d_getItem hu I g ry fun w' s3 I3 rw' => ⟨w, H, I3, rw', q⟩) hs
theorem tRI_of {r : R2} (hr : IxR X r) {x y : V} {H : Hp} {Q : VK} (h : r x y H Q) : tRI X x y H Q := fun e1 e2 pins s σ v u I r1 r2 hs => hr e1 e2 pins s σ H x y v u Q I r1 r2 h hs
theorem atI_map {α β : Type} (f : α → β) (xs : List α) (i : Int) : atI (xs.map f) i = (atI xs i).map f := by
  unfold atI
  rw [List.length_map]
  cases ixN xs.length i with
  | none => rfl
  | some j => simp
theorem ixU (hu : X.A.units + 64 < cLine) : IxF X B Ψ eIx := fun δ σ H vs x y Q s q => by
  obtain ⟨sl, st⟩ := δ
  unfold eIx at q
  split at q
  case h_2 => exact q.elim
  rename_i i ex st' e
  have e' : st = .own (.int i) :: ex :: st' := e
  subst e'
  obtain ⟨_, _, _, _, _, _, _, ry⟩ := s.rd1 (u := .int i) rfl
  have ey := lv ry rfl
  subst ey
  have s1 := s.pop
  split at q
  · rename_i m ts hl
    split at q
    · rename_i j hj
      obtain ⟨S, F, sv, A, t', e1, e2, r1⟩ := s1.rd1 hl
      obtain ⟨a, xs, G, rfl, h2, h3, h4⟩ := r1.lstR e1 e2
      have hjl : j < ts.length := (ixN_seq hj).2.1
      obtain ⟨z, A', z1, z2, z3⟩ := h3.at (List.getElem?_eq_getElem hjl)
      refine tRI_of ix_list ⟨a, xs, i, z, rfl, rfl, SqL.of h2, by rw [atI_ix (by rw [← h3.length]; exact hj)]; exact z1, ?_⟩
      refine kid_of (o := .lst xs) (sp := .ix j) rfl s1 hl rfl h2 z1 (fun S A u e1 e2 r hu => ?_) q
      have hu' : ts[j]? = some u := by cases m <;> exact hu
      obtain ⟨a', xs', G, q1, q2, q3, q4⟩ := r.lstR e1 e2
      cases q1
      rw [h2] at q2; cases q2
      obtain ⟨z', A', w1, w2, w3⟩ := q3.at hu'
      rw [z1] at w1; cases w1
      exact ⟨A', w2.trans q4, w3⟩
    · exact q.elim
  · rename_i ts hl
    split at q
    · rename_i j hj
      obtain ⟨S, F, sv, A, t', e1, e2, r1⟩ := s1.rd1 hl
      obtain ⟨a, xs, rfl, h2, h3⟩ := r1.tupR e1
      have hjl : j < ts.length := (ixN_seq hj).2.1
      obtain ⟨z, A', z1, z2, z3⟩ := h3.at (List.getElem?_eq_getElem hjl)
      refine tRI_of ix_tup ⟨a, xs, i, z, rfl, rfl, SqT.of h2, by rw [atI_ix (by rw [← h3.length]; exact hj)]; exact z1, ?_⟩
      refine kid_of (o := .tup xs) (sp := .ix j) rfl s1 hl rfl h2 z1 (fun S A u e1 e2 r hu => ?_) q
      have hu' : ts[j]? = some u := hu
      obtain ⟨a', xs', q1, q2, q3⟩ := r.tupR e1
      cases q1
      rw [h2] at q2; cases q2
      obtain ⟨z', A', w1, w2, w3⟩ := q3.at hu'
      rw [z1] at w1; cases w1
      exact ⟨A', w2, w3⟩
    · exact q.elim
  · rename_i lk kvs hl
    obtain ⟨S, F, sv, A, t', e1, e2, r1⟩ := s1.rd1 hl
    obtain ⟨a, kv, G, rfl, h2, _, h4, h5, h6, h7⟩ := r1.dctR e2
    have hkid : ∃ u, gGet kvs i = some u := by
      cases hg : gGet kvs i with
      | some u => exact ⟨u, rfl⟩
      | none =>
        exfalso
        have : T.kid (.dct lk kvs) (.key i) = none := hg
        unfold kidOf at q
        rw [this] at q
        exact q
    obtain ⟨u0, hu0⟩ := hkid
    rcases dct_get h4 h5 h6 i with ⟨q1, _⟩ | ⟨u, z, A', q1, q2, q3, q4⟩
    · rw [hu0] at q1; cases q1
    · have hd : DGet H a (.int i) (some z) := by have := dget_of h2 i; rw [q2] at this; exact this
      refine tRI_of (ix_dictR (by omega)) ⟨a, z, rfl, hd, ?_⟩
      have hk : ∀ S A u, Ex S H → Ex A H → RepT (kc X.K B) S A (.dct lk kvs) (.ref a) → T.kid (.dct lk kvs) (.key i) = some u → ∃ A', Ex A' A ∧ RepT (kc X.K B) S A' u z := fun S A u e1 e2 r hu => by
        obtain ⟨a', kv', G', p1, p2, _, p4, p5, p6, p7⟩ := r.dctR e2
        cases p1
        have : kv' = kv := by
          rcases p2 with p2 | ⟨o1, p2⟩ <;> rcases h2 with h2 | ⟨o2, h2⟩ <;> rw [p2] at h2 <;> cases h2 <;> rfl
        subst this
        rcases dct_get p4 p5 p6 i with ⟨g1, _⟩ | ⟨u', z', A', g1, g2, g3, g4⟩
        · have hu' : gGet kvs i = some u := hu
          rw [g1] at hu'; cases hu'
        · have hu' : gGet kvs i = some u := hu
          rw [g1] at hu'; cases hu'
          rw [q2] at g2; cases g2
          exact ⟨A', g3.trans p7, g4⟩
      rcases h2 with h2 | ⟨o2, h2⟩
      · exact kid_of (o := .dK kv) (sp := .key i) rfl s1 hl rfl h2 q2 hk q
      · exact kid_of (o := .frz o2 (.dK kv)) (sp := .key i) rfl s1 hl rfl h2 q2 hk q
  · rename_i ns hl
    split at q
    · rename_i n hn
      obtain ⟨S, F, sv, A, t', e1, e2, r1⟩ := s1.rd1 hl
      obtain ⟨a, rfl, h2⟩ := r1.scrR e1
      exact tRI_of ix_list ⟨a, ns.map V.int, i, .int n, rfl, rfl, h2, by rw [atI_map, hn]; rfl, q _ _ (t'.leaf rfl)⟩
    · exact q.elim
  · rename_i z hl
    split at q
    · rename_i hz
      split at q
      · rename_i cc hc
        obtain ⟨S, F, sv, A, t', e1, e2, r1⟩ := s1.rd1 hl
        exact tRI_of ix_str ⟨z, i, cc, lv r1 rfl, rfl, hz, hc, q _ _ (t'.leaf rfl)⟩
      · exact q.elim
    · exact q.elim
  · exact q.elim
theorem ixF (c : CxOk X B W Ψ k) : IxF X B Ψ eIx := ixU c.room.units
end
end Vt

/-! Changes: lists, dicts, fields; what is made plain data. -/
namespace Vt
open PySem PySem.Spec PyProof.Rows L2

/-! ### plain trees become data -/
mutual
def T.plain : T → Bool
  | .tup ts => plains ts
  | .lst _ ts => plains ts
  | .dct _ _ => false
  | .ins _ _ => false
  | .gone => false
  | _ => true
def plains : List T → Bool
  | [] => true
  | t :: ts => t.plain && plains ts
end
mutual
def T.frz : T → T
  | .tup ts => .tup (frzs ts)
  | .lst _ ts => .lst .fz (frzs ts)
  | t => t
def frzs : List T → List T
  | [] => []
  | t :: ts => t.frz :: frzs ts
end
section
variable {K : Kc} {S S' : Hp}
mutual
theorem RepT.toD (eS : Ex S S') : ∀ {F : Hp} {t : T} {v : V}, RepT K S F t v → Ex F S' → t.plain = true → RepT K S' hnil t.frz v
  | _, _, _, .leaf (t := t) h, _, _ => by
    cases t <;> first | (cases h; done) | exact .leaf h
  | _, _, _, .gone, _, e => nomatch e
  | _, _, _, .cls, _, _ => .cls
  | _, _, _, .scr h, _, _ => .scr (sqL_mono eS h)
  | _, _, _, .tup h r, eF, p => .tup (eS _ _ h) (r.toD eS eF p)
  | _, _, _, .lfz h r, eF, p => .lfz (eS _ _ h) (r.toD eS eF p)
  | _, _, _, .lmu h r, eF, p => .lfz (eF _ _ (join_l one_same)) (r.toD eS (Ex.ofr (Dj.one h) eF) p)
  | _, _, _, .dct _ _ _ _ _, _, p => nomatch p
  | _, _, _, .ins _ _ _, _, p => nomatch p
theorem RepTs.toD (eS : Ex S S') : ∀ {F : Hp} {ts : List T} {xs : List V}, RepTs K S F ts xs → Ex F S' → plains ts = true → RepTs K S' hnil (frzs ts) xs
  | _, _, _, .nil, _, _ => .nil
  | _, _, _, .cons (t := t) (ts := ts) d h r, eF, p => by
    have p' : (t.plain && plains ts) = true := p
    rw [Bool.and_eq_true] at p'
    exact .cons (F := hnil) Dj.nil (h.toD eS (Ex.ofl eF) p'.1) (r.toD eS (Ex.ofr d eF) p'.2)
end
end
mutual
theorem frz_data : ∀ {t : T}, t.data = true → t.frz = t
  | .non, _ => rfl
  | .bl _, _ => rfl
  | .int _, _ => rfl
  | .str _, _ => rfl
  | .ty _, _ => rfl
  | .cl _, _ => rfl
  | .scr _, _ => rfl
  | .tup ts, h => by
    have h' : datas ts = true := h
    show T.tup (frzs ts) = _
    rw [frzs_data h']
  | .lst .fz ts, h => by
    have h' : datas ts = true := h
    show T.lst .fz (frzs ts) = _
    rw [frzs_data h']
  | .lst .mu _, h => nomatch h
  | .dct _ _, h => nomatch h
  | .ins _ _, h => nomatch h
  | .gone, h => nomatch h
theorem frzs_data : ∀ {ts : List T}, datas ts = true → frzs ts = ts
  | [], _ => rfl
  | t :: ts, h => by
    have h' : (t.data && datas ts) = true := h
    rw [Bool.and_eq_true] at h'
    show t.frz :: frzs ts = _
    rw [frz_data h'.1, frzs_data h'.2]
end
/-- the top becomes data -/
def eFrz : EF := fun δ => match δ.st with
  | .own t :: st => if t.plain then .ok ⟨δ.sl, .own t.frz :: st⟩ else .no
  | .al i p :: st => match δ.sl[i]? with
    | some (.own r) => match r.at p with
      | some u => if u.plain && (⟨δ.sl, st⟩ : En).free i p then .ok ⟨δ.sl.set i (.own (r.put p u.frz)), .own u.frz :: st⟩ else .no
      | none => .no
    | _ => .no
  | _ => .no
/-- the whole tree of a slot is taken out of it -/
def eMov : EF := fun δ => match δ.st with
  | .al i [] :: st => match δ.sl[i]? with
    | some (.own t) => if (⟨δ.sl, st⟩ : En).noal i then .ok ⟨δ.sl.set i .emp, .own t :: st⟩ else .no
    | _ => .no
  | .own t :: st => .ok ⟨δ.sl, .own t :: st⟩
  | _ => .no
section
variable {K : PySem.W.Frag} {B : Base} {σ : L2.St} {H : Hp} {vs sv : List V} {v w : V} {S F : Hp} {t u r : T} {e e' : Ent} {st sl es : List Ent} {i : Nat} {p : List Sp} {a : Addr}
theorem Sta.frz (s : Sta K B ⟨sl, .own t :: st⟩ σ H (v :: vs) S F sv) (h : t.plain = true) : StT K B ⟨sl, .own t.frz :: st⟩ σ H (v :: vs) := by
  obtain ⟨F', s', eF, A, k, rep⟩ := s.pop
  have e0 := k.e
  subst e0
  have dA : Dj A S := s.dj.l
  have eS : Ex S (join A S) := Ex.r dA
  have rep' := RepT.toD eS (S' := join A S) rep Ex.l h
  have eAH : Ex A H := Ex.l.trans s.exF
  refine ⟨join A S, F', sv, Sta.pushD ⟨Ex.join eAH s.exS, s'.exF, Dj.jr k.d.symm s'.dj, s'.len, s'.lens, s'.lenv, s'.slv, s'.rep.mono eS, s'.al, s'.bS.trans eS, s'.bF, fun b h1 h2 h3 => ?_, s'.bH, s'.pin, s'.lk, s'.lkf⟩ rep'⟩
  refine join_none ?_ (s'.bN b h1 h2 h3)
  cases q : B.H b with
  | none => exact absurd q h1
  | some o => exact Ex.l.free (s.bF b o q h2).2
theorem Sta.frzA (s : Sta K B ⟨sl, .al i p :: st⟩ σ H (v :: vs) S F sv) (h1 : sl[i]? = some (.own r)) (h2 : r.at p = some u) (h : u.plain = true) (hf : (⟨sl, st⟩ : En).free i p = true) : StT K B ⟨sl.set i (.own (r.put p u.frz)), .own u.frz :: st⟩ σ H (v :: vs) := by
  have al := s.al 0 _ v rfl rfl
  obtain ⟨t', r', a1, a2, a3, a4⟩ := al
  have a1' : sl[i]? = some (.own t') := a1
  rw [h1] at a1'; cases a1'
  obtain ⟨F', s', eF, _, _, _⟩ := s.pop
  obtain ⟨x, A, G, f1, f2, ⟨r2, f3, f4⟩, f5⟩ := s'.focus h1 h2
  rw [f3] at a3; cases a3
  have ex := f4.det a4
  subst ex
  have e0 := f1.e
  subst e0
  have dA : Dj A S := s'.dj.l
  have eS : Ex S (join A S) := Ex.r dA
  have rep' := RepT.toD eS (S' := join A S) f2 Ex.l h
  have eAH : Ex A H := Ex.l.trans s'.exF
  have eGH : Ex G H := (Ex.r f1.d).trans s'.exF
  have res := f5 (join A S) u.frz hnil H eS Dj.nil rep' (Ex.join eAH s.exS) eGH (Dj.jr f1.d.symm s'.dj.r) hf (fun b o h1 h2 => ⟨(s'.bF b o h1 h2).1, rfl⟩) (fun b h1 h2 h3 => ?_) (fun b h => h) s'.lk
  · exact ⟨_, _, sv, res.pushD rep'⟩
  · refine join_none ?_ (s'.bN b h1 h2 h3)
    cases q : B.H b with
    | none => exact absurd q h1
    | some o => exact Ex.l.free (s'.bF b o q h2).2
theorem frz_of {δ δ' : En} (s : StT K B δ σ H (v :: vs)) (h : eFrz δ = .ok δ') : StT K B δ' σ H (v :: vs) := by
  obtain ⟨sl, st⟩ := δ
  obtain ⟨S, F, sv, s⟩ := s
  cases st with
  | nil => cases h
  | cons e st =>
    cases e with
    | emp => cases h
    | own t =>
      simp only [eFrz] at h
      split at h
      · rename_i hp; cases h; exact s.frz hp
      · cases h
    | al i p =>
      simp only [eFrz] at h
      split at h
      · rename_i r hr
        split at h
        · rename_i u hu
          split at h
          · rename_i hh
            rw [Bool.and_eq_true] at hh
            cases h
            exact s.frzA hr hu hh.1 hh.2
          · cases h
        · cases h
      · cases h
theorem Sta.mov (s : Sta K B ⟨sl, .al i [] :: st⟩ σ H (v :: vs) S F sv) (h : sl[i]? = some (.own t)) (hn : (⟨sl, st⟩ : En).noal i = true) : StT K B ⟨sl.set i .emp, .own t :: st⟩ σ H (v :: vs) := by
  have al := s.al 0 _ v rfl rfl
  obtain ⟨t', r', a1, a2, a3, a4⟩ := al
  have a1' : sl[i]? = some (.own t') := a1
  rw [h] at a1'; cases a1'
  have a4' : r' = v := a4
  subst a4'
  obtain ⟨F', s', eF, _, _, _⟩ := s.pop
  have lv : vs.length = st.length := s'.lenv
  have hi := (List.getElem?_eq_some_iff.mp h).1
  have hold : ((st ++ sl).map Ent.tr)[st.length + i]? = some t := by
    rw [List.getElem?_map, List.getElem?_append_right (by omega), Nat.add_sub_cancel_left, h]; rfl
  obtain ⟨y, A0, G0, q1, q2, q3, q4, _, q6⟩ := s'.rep.foc hold
  rw [← lv, List.getElem?_append_right (by omega), Nat.add_sub_cancel_left, a3] at q1
  cases q1
  have eq2 := q2.e
  subst eq2
  have new := q4 S .gone hnil (Ex.refl S) Dj.nil .gone
  have eset : ((st ++ sl).map Ent.tr).set (st.length + i) .gone = (st ++ sl.set i .emp).map Ent.tr := by
    rw [List.map_append, List.set_append_right _ _ (by simp), List.length_map, Nat.add_sub_cancel_left, List.map_append, List.map_set]; rfl
  rw [eset] at new
  unfold En.noal at hn
  rw [Bool.and_eq_true] at hn
  obtain ⟨n1, n2⟩ := hn
  have okk : ∀ e' v', EntOk H sl sv e' v' → Ent.noal i e' = true → EntOk H (sl.set i .emp) sv e' v' := fun e' v' h hne => by
    cases e' with
    | al j q =>
      obtain ⟨tj, rj, a1, a2, a3, a4⟩ := h
      have : i ≠ j := fun z => by subst z; simp [Ent.noal] at hne
      exact ⟨tj, rj, by rw [List.getElem?_set_ne this]; exact a1, a2, a3, a4⟩
    | _ => trivial
  have st2 : Sta K B ⟨sl.set i .emp, st⟩ σ H vs S G0 sv := by
    refine ⟨s.exS, (Ex.r q2.d).trans s'.exF, s'.dj.r, by simp; exact s.len, by simp; exact s.lens, lv, fun m e' hm => ?_, new, fun m e' v' h1 h2 => ?_, s.bS, fun b o h1 h2 => ⟨(s'.bF b o h1 h2).1, (Ex.r q2.d).free (s'.bF b o h1 h2).2⟩, s.bN, s.bH, s.pin, s.lk, s.lkf⟩
    · have hm' : (sl.set i .emp)[m]? = some e' := hm
      by_cases em : i = m
      · subst em; rw [List.getElem?_set_self hi] at hm'; cases hm'; exact .inr rfl
      · rw [List.getElem?_set_ne em] at hm'; exact s'.slv m e' hm'
    · have h1' : (st ++ sl.set i .emp)[m]? = some e' := h1
      by_cases hm : m < st.length
      · rw [List.getElem?_append_left hm] at h1'
        exact okk e' v' (s'.al m e' v' (by rw [List.getElem?_append_left hm]; exact h1') h2) (List.all_eq_true.mp n1 _ (List.mem_of_getElem? h1'))
      · rw [List.getElem?_append_right (by omega)] at h1'
        by_cases em : i = m - st.length
        · rw [← em, List.getElem?_set_self hi] at h1'; cases h1'; trivial
        · rw [List.getElem?_set_ne em] at h1'
          exact okk e' v' (s'.al m e' v' (by rw [List.getElem?_append_right (by show st.length ≤ _; omega)]; exact h1') h2) (List.all_eq_true.mp n2 _ (List.mem_of_getElem? h1'))
  exact ⟨S, _, sv, st2.push q3 q2.d s'.dj.l (Ex.l.trans s'.exF) fun b o h1 h2 => Ex.l.free (s'.bF b o h1 h2).2⟩
theorem mov_of {δ δ' : En} (s : StT K B δ σ H (v :: vs)) (h : eMov δ = .ok δ') : StT K B δ' σ H (v :: vs) := by
  obtain ⟨sl, st⟩ := δ
  obtain ⟨S, F, sv, s⟩ := s
  unfold eMov at h
  split at h
  · rename_i i st' e
    have e' : st = .al i [] :: st' := e
    subst e'
    split at h
    · rename_i t ht
      split at h
      · rename_i hn; cases h; exact s.mov ht hn
      · cases h
    · cases h
  · rename_i t st' e
    have e' : st = .own t :: st' := e
    subst e'
    cases h
    exact ⟨S, F, sv, s⟩
  · cases h
/-- the two on top change places -/
theorem Sta.swap (s : Sta K B ⟨sl, e :: e' :: st⟩ σ H (v :: w :: vs) S F sv) : Sta K B ⟨sl, e' :: e :: st⟩ σ H (w :: v :: vs) S F sv := by
  have r := s.rep
  cases r with
  | @cons A _ _ _ _ _ d h r =>
    cases r with
    | @cons A2 G _ _ _ _ d2 h2 r =>
      refine ⟨s.exS, s.exF, s.dj, s.len, s.lens, by have := s.lenv; simpa using this, s.slv, ?_, fun m x y h1 h2 => ?_, s.bS, s.bF, s.bN, s.bH, s.pin, s.lk, s.lkf⟩
      · have e1 : join A (join A2 G) = join A2 (join A G) := by rw [← join_assoc, join_comm d.symm.l.symm, join_assoc]
        rw [e1]
        exact .cons (Dj.jr d.symm.l d2) h2 (.cons d.symm.r.symm h r)
      · rcases m with _ | _ | m
        · exact s.al 1 x y h1 h2
        · exact s.al 0 x y h1 h2
        · exact s.al (m + 2) x y h1 h2
end
/-! ### changes of a cell -/
section
variable {K : PySem.W.Frag} {B : Base} {σ : L2.St} {H : Hp} {vs xs sv : List V} {v w : V} {S F : Hp} {t u r : T} {e e' : Ent} {st sl es : List Ent} {i : Nat} {p : List Sp} {a : Addr}
theorem recell {A F E F2 : Hp} {o0 o : HO} (eA : A = join (one a o0) F) (h : F a = none) (dE : Dj E A) (e2 : ∀ b w, F2 b = some w → F b = some w ∨ E b = some w) :
    F2 a = none ∧ (∀ b, join (one a o) F2 b ≠ none → A b ≠ none ∨ E b ≠ none) ∧ (∀ b w, join (one a o) F2 b = some w → b ≠ a → (A b = some w ∨ E b = some w)) ∧ join (one a o) F2 a = some o ∧ A a ≠ none := by
  subst eA
  have Aa : join (one a o0) F a ≠ none := by rw [join_l one_same]; simp
  have Ea : E a = none := by
    cases q : E a with
    | none => rfl
    | some w => exact absurd (dE a (ne_none q)) Aa
  have F2a : F2 a = none := by
    cases q : F2 a with
    | none => rfl
    | some w => rcases e2 a w q with z | z
                · rw [h] at z; cases z
                · rw [Ea] at z; cases z
  have aux : ∀ b w, join (one a o) F2 b = some w → b ≠ a → (join (one a o0) F b = some w ∨ E b = some w) := fun b w hb n => by
    rcases join_cases hb with z | ⟨_, z⟩
    · exact absurd (one_some z).1 n
    · rcases e2 b w z with z | z
      · exact .inl (Ex.r (Dj.one h) _ _ z)
      · exact .inr z
  refine ⟨F2a, fun b hb => ?_, aux, join_l one_same, Aa⟩
  by_cases n : b = a
  · subst n; exact .inl Aa
  · cases q : join (one a o) F2 b with
    | none => exact absurd q hb
    | some w => exact (aux b w q n).elim (fun z => .inl (ne_none z)) fun z => .inr (ne_none z)
theorem Sta.nolk {δ : En} {o : HO} (s : Sta K B δ σ H vs S F sv) (h : H a = some o) (hn : ∀ q u, o ≠ .frz q u) : B.lkd a = none := by
  cases q : B.lkd a with
  | none => rfl
  | some o' =>
    have := s.lk a o' q
    rw [h] at this; cases this
    obtain ⟨q', u, e⟩ := s.lkf a _ q
    exact absurd e (hn q' u)
/-- a list changes -/
theorem Sta.mutL {ts ts' : List T} (s : Sta K B ⟨sl, es ++ .al i p :: st⟩ σ H (xs ++ v :: vs) S F sv) (hl : es.length = xs.length) (h : sl[i]? = some (.own t)) (hp : t.at p = some (.lst .mu ts)) (hf : (⟨sl, st⟩ : En).free i p = true) :
    ∃ a zs, v = .ref a ∧ H a = some (.lst zs) ∧ ts.length = zs.length ∧ (∃ G, RepTs (kc K B) S G ts zs) ∧ ∀ ys, (∀ F E, RepTs (kc K B) S F ts zs → RepTs (kc K B) S E (es.map Ent.tr) xs → Dj F E → ∃ F2, RepTs (kc K B) S F2 ts' ys ∧ ∀ b w, F2 b = some w → F b = some w ∨ E b = some w) →
      ∃ F', Sta K B ⟨sl.set i (.own (t.put p (.lst .mu ts'))), st⟩ σ (upd H a (.lst ys)) vs S F' sv := by
  have hlook : look sl (.al i p) = some (.lst .mu ts) := by simp only [look, h]; exact hp
  have i1 : ((⟨sl, es ++ .al i p :: st⟩ : En).st ++ sl)[es.length]? = some (.al i p) := by
    show (es ++ .al i p :: st ++ sl)[es.length]? = _
    rw [List.append_assoc, List.getElem?_append_right (Nat.le_refl _), Nat.sub_self]; rfl
  have i2 : ((xs ++ v :: vs) ++ sv)[es.length]? = some v := by
    rw [hl, List.append_assoc, List.getElem?_append_right (Nat.le_refl _), Nat.sub_self]; rfl
  obtain ⟨A, eA, rA⟩ := s.look_at i1 i2 hlook
  obtain ⟨a, zs, G, rfl, h2, h3, _⟩ := rA.lstR s.exS (eA.trans s.exF)
  refine ⟨a, zs, rfl, h2, h3.length, ⟨G, h3⟩, fun ys hy => ?_⟩
  refine Sta.mut (o := .lst ys) s hl h hp hf (s.nolk h2 fun q w e => nomatch e) (.lst .mu ts') fun A E rA rE dE eAH => ?_
  cases rA with
  | leaf h => cases h
  | @lmu F0 _ _ zs' h0 rs =>
    have : zs' = zs := by
      have := eAH _ _ (join_l (F := one a (.lst zs')) one_same)
      rw [h2] at this; cases this; rfl
    subst this
    obtain ⟨F2, q1, q2⟩ := hy F0 E rs rE dE.symm.r
    obtain ⟨k1, k2, k3, k4, k5⟩ := recell (o := .lst ys) rfl h0 dE q2
    exact ⟨_, .lmu k1 q1, k2, k3, k4, k5⟩
/-- a dict changes -/
theorem Sta.mutD {kvs kvs' : List (Int × T)} (s : Sta K B ⟨sl, es ++ .al i p :: st⟩ σ H (xs ++ v :: vs) S F sv) (hl : es.length = xs.length) (h : sl[i]? = some (.own t)) (hp : t.at p = some (.dct false kvs)) (hf : (⟨sl, st⟩ : En).free i p = true) :
    ∃ a kv, v = .ref a ∧ H a = some (.dK kv) ∧ kv.map (·.1) = (kvs.map (·.1)).map Sum.inl ∧ (kvs.map (·.1)).Nodup ∧ (∃ G, RepTs (kc K B) S G (kvs.map (·.2)) (kv.map (·.2))) ∧
      ∀ kv', kv'.map (·.1) = (kvs'.map (·.1)).map Sum.inl → (kvs'.map (·.1)).Nodup → (∀ F E, RepTs (kc K B) S F (kvs.map (·.2)) (kv.map (·.2)) → RepTs (kc K B) S E (es.map Ent.tr) xs → Dj F E → ∃ F2, RepTs (kc K B) S F2 (kvs'.map (·.2)) (kv'.map (·.2)) ∧ ∀ b w, F2 b = some w → F b = some w ∨ E b = some w) →
      ∃ F', Sta K B ⟨sl.set i (.own (t.put p (.dct false kvs'))), st⟩ σ (upd H a (.dK kv')) vs S F' sv := by
  have hlook : look sl (.al i p) = some (.dct false kvs) := by simp only [look, h]; exact hp
  have i1 : ((⟨sl, es ++ .al i p :: st⟩ : En).st ++ sl)[es.length]? = some (.al i p) := by
    show (es ++ .al i p :: st ++ sl)[es.length]? = _
    rw [List.append_assoc, List.getElem?_append_right (Nat.le_refl _), Nat.sub_self]; rfl
  have i2 : ((xs ++ v :: vs) ++ sv)[es.length]? = some v := by
    rw [hl, List.append_assoc, List.getElem?_append_right (Nat.le_refl _), Nat.sub_self]; rfl
  obtain ⟨A, eA, rA⟩ := s.look_at i1 i2 hlook
  obtain ⟨a, kv, G, rfl, _, h2, h4, h5, h6, _⟩ := rA.dctR (eA.trans s.exF)
  have h2 := h2 rfl
  refine ⟨a, kv, rfl, h2, h4, h5, ⟨G, h6⟩, fun kv' e1 e2 hy => ?_⟩
  refine Sta.mut (o := .dK kv') s hl h hp hf (s.nolk h2 fun q w e => nomatch e) (.dct false kvs') fun A E rA rE dE eAH => ?_
  cases rA with
  | leaf h => cases h
  | @dct F0 _ _ _ kv0 o h0 ho hk hn rs =>
    rw [if_neg (by decide)] at ho
    subst ho
    have : kv0 = kv := by
      have := eAH _ _ (join_l (F := one a (.dK kv0)) one_same)
      rw [h2] at this; cases this; rfl
    subst this
    obtain ⟨F2, q1, q2⟩ := hy F0 E rs rE dE.symm.r
    obtain ⟨k1, k2, k3, k4, k5⟩ := recell (o := .dK kv') rfl h0 dE q2
    exact ⟨_, .dct k1 (by rw [if_neg (by decide)]) e1 e2 q1, k2, k3, k4, k5⟩
/-- an instance changes -/
theorem Sta.mutI {C : Nat} {fs fs' : List (Str × T)} (s : Sta K B ⟨sl, es ++ .al i p :: st⟩ σ H (xs ++ v :: vs) S F sv) (hl : es.length = xs.length) (h : sl[i]? = some (.own t)) (hp : t.at p = some (.ins C fs)) (hf : (⟨sl, st⟩ : En).free i p = true) :
    ∃ a dx fv, v = .ref a ∧ H a = some (.ins (B.cm C) dx fv) ∧ fv.map (·.1) = fs.map (·.1) ∧
      ∀ fv', fv'.map (·.1) = fs'.map (·.1) → (∀ F E, RepTs (kc K B) S F (fs.map (·.2)) (fv.map (·.2)) → RepTs (kc K B) S E (es.map Ent.tr) xs → Dj F E → ∃ F2, RepTs (kc K B) S F2 (fs'.map (·.2)) (fv'.map (·.2)) ∧ ∀ b w, F2 b = some w → F b = some w ∨ E b = some w) →
      ∃ F', Sta K B ⟨sl.set i (.own (t.put p (.ins C fs'))), st⟩ σ (upd H a (.ins (B.cm C) dx fv')) vs S F' sv := by
  have hlook : look sl (.al i p) = some (.ins C fs) := by simp only [look, h]; exact hp
  have i1 : ((⟨sl, es ++ .al i p :: st⟩ : En).st ++ sl)[es.length]? = some (.al i p) := by
    show (es ++ .al i p :: st ++ sl)[es.length]? = _
    rw [List.append_assoc, List.getElem?_append_right (Nat.le_refl _), Nat.sub_self]; rfl
  have i2 : ((xs ++ v :: vs) ++ sv)[es.length]? = some v := by
    rw [hl, List.append_assoc, List.getElem?_append_right (Nat.le_refl _), Nat.sub_self]; rfl
  obtain ⟨A, eA, rA⟩ := s.look_at i1 i2 hlook
  obtain ⟨a, dx, fv, G, rfl, h2, h4, h6, _⟩ := rA.insR (eA.trans s.exF)
  refine ⟨a, dx, fv, rfl, h2, h4, fun fv' e1 hy => ?_⟩
  refine Sta.mut (o := .ins (B.cm C) dx fv') s hl h hp hf (s.nolk h2 fun q w e => nomatch e) (.ins C fs') fun A E rA rE dE eAH => ?_
  cases rA with
  | leaf h => cases h
  | @ins F0 _ _ _ dx0 fv0 h0 hk rs =>
    have : dx0 = dx ∧ fv0 = fv := by
      have := eAH _ _ (join_l (F := one a (.ins (B.cm C) dx0 fv0)) one_same)
      rw [h2] at this; cases this; exact ⟨rfl, rfl⟩
    obtain ⟨rfl, rfl⟩ := this
    obtain ⟨F2, q1, q2⟩ := hy F0 E rs rE dE.symm.r
    obtain ⟨k1, k2, k3, k4, k5⟩ := recell (o := .ins (B.cm C) dx0 fv') rfl h0 dE q2
    exact ⟨_, .ins k1 e1 q1, k2, k3, k4, k5⟩
end
/-- kids: one is put in the place of another, or behind all -/
theorem kids_set {K : Kc} {S F E : Hp} {ts : List T} {xs : List V} {j : Nat} {t u : T} {v : V} (r : RepTs K S F ts xs) (h : ts[j]? = some u) (q : RepTs K S E [t] [v]) (d : Dj F E) : ∃ F2, RepTs K S F2 (ts.set j t) (xs.set j v) ∧ ∀ b w, F2 b = some w → F b = some w ∨ E b = some w := by
  obtain ⟨x, A, G, q1, q2, q3, _, q5, _⟩ := r.foc h
  have e := q2.e
  subst e
  cases q with
  | cons dd h1 r1 =>
    cases r1
    rw [join_nil] at d
    refine ⟨_, q5 S t v _ (Ex.refl S) d.r.symm h1, fun b w hb => ?_⟩
    rw [join_nil]
    rcases join_cases hb with z | ⟨_, z⟩
    · exact .inr z
    · exact .inl (Ex.r q2.d _ _ z)
theorem kids_app {K : Kc} {S F E : Hp} {ts us : List T} {xs ys : List V} (r : RepTs K S F ts xs) (q : RepTs K S E us ys) (d : Dj F E) : ∃ F2, RepTs K S F2 (ts ++ us) (xs ++ ys) ∧ ∀ b w, F2 b = some w → F b = some w ∨ E b = some w :=
  ⟨_, r.app d q, fun b w hb => (join_cases hb).imp id fun z => z.2⟩
theorem RepTs.erase {K : Kc} {S : Hp} : ∀ {ts : List T} {F : Hp} {xs : List V} (j : Nat), RepTs K S F ts xs → ∃ F2, RepTs K S F2 (ts.eraseIdx j) (xs.eraseIdx j) ∧ Ex F2 F
  | [], _, _, j, .nil => ⟨_, .nil, Ex.refl _⟩
  | t :: ts, _, _, 0, .cons d h r => ⟨_, r, Ex.r d⟩
  | t :: ts, _, _, j + 1, .cons d h r => by
    obtain ⟨F2, q1, q2⟩ := RepTs.erase j r
    exact ⟨_, .cons (d.exr q2) h q1, Ex.join Ex.l (q2.trans (Ex.r d))⟩
theorem RepTs.take {K : Kc} {S : Hp} : ∀ {ts : List T} {F : Hp} {xs : List V} (n : Nat), RepTs K S F ts xs → ∃ F2, RepTs K S F2 (ts.take n) (xs.take n) ∧ Ex F2 F
  | _, _, _, 0, _ => ⟨_, .nil, Ex.nil⟩
  | _, _, _, n + 1, .nil => ⟨_, .nil, Ex.refl _⟩
  | _, _, _, n + 1, .cons d h r => by
    obtain ⟨F2, q1, q2⟩ := RepTs.take n r
    exact ⟨_, .cons (d.exr q2) h q1, Ex.join Ex.l (q2.trans (Ex.r d))⟩
end Vt

/-! The rules: subscripts, attributes, slices, built-in functions, methods. -/
namespace Vt
open PySem PySem.Spec PyProof.Rows L2

/-! ### the words -/
def putAt (sl : List Ent) (i : Nat) (p : List Sp) (u : T) : List Ent := match sl[i]? with
  | some (.own r) => sl.set i (.own (r.put p u))
  | _ => sl
def lineA : Nat := 1000000
/-- the list at i, p becomes k of it -/
def mutL (sl st : List Ent) (i : Nat) (p : List Sp) (k : List T → Option (List T × T)) : Res := match look sl (.al i p) with
  | some (.lst .mu ts) => match k ts with
    | some (ts', r) => if (⟨sl, st⟩ : En).free i p = true then .ok ⟨putAt sl i p (.lst .mu ts'), .own r :: st⟩ else .no
    | none => .no
  | _ => .no
def eAppend : EF := fun δ => match δ.st with
  | .own t :: .al i p :: st => mutL δ.sl st i p fun ts => if ts.length < lineA then some (ts ++ [t], .non) else none
  | _ => .no
def eExtend : EF := fun δ => match δ.st with
  | ex :: .al i p :: st => match look δ.sl ex with
    | some (.lst .mu us) => mutL δ.sl st i p fun ts => if datas us && decide (ts.length + us.length < lineA) then some (ts ++ us, .non) else none
    | _ => .no
  | _ => .no
def ePop0 : EF := fun δ => match δ.st with
  | .al i p :: st => mutL δ.sl st i p fun ts => match ts.getLast? with
    | some t => some (ts.dropLast, if t.data = true then t else .gone)
    | none => none
  | _ => .no
def eRemove : EF := fun δ => match δ.st with
  | .own (.int n) :: .al i p :: st => mutL δ.sl st i p fun ts => match allOf T.toInt ts with
    | some ns => if n ∈ ns then some ((ns.erase n).map .int, .non) else none
    | none => none
  | _ => .no
def eInsert : EF := fun δ => match δ.st with
  | .own t :: .own (.int n) :: .al i p :: st => mutL δ.sl st i p fun ts => if 0 ≤ n ∧ n < 2 ^ 63 ∧ ts.length < lineA then some (ts.take n.toNat ++ [t] ++ ts.drop n.toNat, .non) else none
  | _ => .no
/-- d.pop(k), there -/
def eDpop : EF := fun δ => match δ.st with
  | .own (.int n) :: .al i p :: st => match look δ.sl (.al i p) with
    | some (.dct false kvs) => match gGet kvs n with
      | some u => if (⟨δ.sl, st⟩ : En).free i p = true then .ok ⟨putAt δ.sl i p (.dct false (gDrop kvs n)), .own (if u.data = true then u else .gone) :: st⟩ else .no
      | none => .no
    | _ => .no
  | _ => .no
/-- d.get(k, f) -/
def eDget : EF := fun δ => match δ.st with
  | .own f :: .own (.int n) :: ex :: st => match look δ.sl ex with
    | some (.dct lk kvs) => match gGet kvs n with
      | some _ => kidOf δ.sl ex st (.dct lk kvs) (.key n)
      | none => .ok ⟨δ.sl, .own f :: st⟩
    | _ => .no
  | _ => .no
/-- o[i] = t: t, o, i on the stack -/
def sPut : En → Option En := fun δ => match δ.st with
  | .own (.int n) :: .al i p :: .own t :: st => match look δ.sl (.al i p) with
    | some (.lst .mu ts) => match ixN ts.length n with
      | some j => if (⟨δ.sl, st⟩ : En).free i p = true then some ⟨putAt δ.sl i p (.lst .mu (ts.set j t)), st⟩ else none
      | none => none
    | some (.dct false kvs) => if (⟨δ.sl, st⟩ : En).free i p && decide (kvs.length < lineA) then some ⟨putAt δ.sl i p (.dct false (gPut kvs n t)), st⟩ else none
    | _ => none
  | _ => none
/-- o.f = t: t, o on the stack -/
def sFld (C : Nat) (f : Str) : En → Option En := fun δ => match δ.st with
  | .al i p :: .own t :: st => match look δ.sl (.al i p) with
    | some (.ins C' fs) => if C' = C then (if (⟨δ.sl, st⟩ : En).free i p && decide (fs.length < 1000) then some ⟨putAt δ.sl i p (.ins C (putD f t fs)), st⟩ else none) else none
    | _ => none
  | _ => none
def eFldC (C : Nat) (f : Str) : EF := fun δ => match δ.st with
  | ex :: st => match look δ.sl ex with
    | some (.ins C' fs) => if C' = C then kidOf δ.sl ex st (.ins C' fs) (.fld f) else .no
    | _ => .no
  | _ => .no
/-- the receiver of a method -/
def isLst : T → Bool
  | .lst _ _ => true
  | _ => false
def isStr : T → Bool
  | .str _ => true
  | _ => false
def isDct : T → Bool
  | .dct _ _ => true
  | _ => false
def chk (c : T → Bool) : EF := fun δ => match δ.st with
  | e :: _ => match look δ.sl e with
    | some t => if c t = true then .ok δ else .no
    | none => .no
  | _ => .no
def eMeth (c : T → Bool) (fo fa g : EF) : EF := fun δ => (((fo δ).bind (chk c)).bind fa).bind g
def kJoin : T → T → Option T
  | .str a, .lst _ ts => match allOf T.toStr ts with
    | some ys => if (ys.map (·.length)).sum + ys.length * a.length ≤ 16777216 then some (.str (Txt.join a ys)) else none
    | none => none
  | _, _ => none
def kSplit : T → T → Option T
  | .str a, .str b => if (b.length == 0) = false ∧ a.length + 2 ≤ sizeLine then some (.lst .mu ((Txt.split a b).map .str)) else none
  | _, _ => none
/-- the place of a flat thing -/
def kIndex : T → T → Option T
  | .lst _ ts, x => if x.flat && ts.all T.flat then (match ts.findIdx? (fun y => eqF y x) with
    | some j => some (.int j)
    | none => none) else none
  | _, _ => none
/-- a slice: its bounds are numbers or left out -/
abbrev OF := En → Option (Option Int × En)
section
variable {X : Cx} {B : Base} {Ψ : XF} {W : WX} {k n : Nat} {a b c e o : Expr} {es : List Expr} {pos : Pos} {f g h fa fb fc fo : EF}
theorem ev_sub (ha : EvF X B Ψ a fa) (hb : EvF X B Ψ b fb) (hr : IxF X B Ψ g) (hs : PlainIx b) : EvF X B Ψ (.Subscript a b pos) (eBin fa fb g) := fun δ σ H vs Q s q =>
  (pe_ix pRI (pE a) (pE b) hs).tov (ha δ σ H vs _ s (post_b (P := fun r => PostF X B Ψ (r.bind g) σ vs Q) (r := fa δ) (k := fb) q (fun _ _ h => h) (fun h => h) fun δ1 h1 v H1 s1 => hb δ1 σ H1 (v :: vs) _ s1 (post_b (P := fun r => PostF X B Ψ r σ vs Q) h1 (fun _ _ h => h) (fun h => h) fun δ2 h2 w H2 s2 => hr δ2 σ H2 vs v w Q s2 h2)))
/-- o.f -/
theorem ev_fld {C : Nat} {fl : Str} (ho : EvF X B Ψ o fo) (hc : Cls X.K (B.cm C)) (hn : NoAttr X.K (B.cm C) fl) (hb : attributeBase o fl X.env (eval o X.env) = eval o X.env) : EvF X B Ψ (.Attribute o fl pos) (eThen fo (eFldC C fl)) := fun δ σ H vs Q s q =>
  (pe_fld (pE o) hb).tov (ho δ σ H vs _ s (post_b (P := fun r => PostF X B Ψ r σ vs Q) q (fun _ _ h => h) (fun h => h) fun δ1 h1 v H1 s1 => by
    obtain ⟨sl, st⟩ := δ1
    unfold eFldC at h1
    cases st with
    | nil => exact h1.elim
    | cons ex st =>
      simp only at h1
      split at h1
      · rename_i C' fs hl
        split at h1
        · rename_i hC
          subst hC
          obtain ⟨S, F, sv, A, t', e1, e2, r1⟩ := s1.rd1 hl
          obtain ⟨p, dx, fv, G, rfl, h2, h3, h4, h5⟩ := r1.insR e2
          have hkid : ∃ u, fs.lookup fl = some u := by
            cases hg : fs.lookup fl with
            | some u => exact ⟨u, rfl⟩
            | none =>
              exfalso
              have : T.kid (.ins C' fs) (.fld fl) = none := hg
              unfold kidOf at h1
              rw [this] at h1
              exact h1
          obtain ⟨u0, hu0⟩ := hkid
          have look2 : ∀ {fv' : List (Str × V)} {G' S' : Hp}, fv'.map (·.1) = fs.map (·.1) → RepTs (kc X.K B) S' G' (fs.map (·.2)) (fv'.map (·.2)) → ∃ z A', fv'.lookup fl = some z ∧ Ex A' G' ∧ RepT (kc X.K B) S' A' u0 z := fun {fv' G' S'} g1 g2 => by
            obtain ⟨i, hi, hlt⟩ := lookup_at hu0
            obtain ⟨w1, w2⟩ := map_at hi
            obtain ⟨z, A', q1, q2, q3⟩ := g2.at w1
            refine ⟨z, A', lookup_of (pair_at (by rw [g1, w2]) q1) fun j' hj' w hw => ?_, q2, q3⟩
            have b1 : (fv'.map (·.1))[j']? = some w.1 := by rw [List.getElem?_map, hw]; rfl
            rw [g1, List.getElem?_map] at b1
            cases q : fs[j']? with
            | none => rw [q] at b1; cases b1
            | some z => rw [q] at b1; exact (Option.some.inj b1) ▸ hlt j' hj' z q
          obtain ⟨z, A', z1, z2, z3⟩ := look2 h3 h4
          refine ⟨p, _, dx, fv, z, rfl, h2, hc, hn, z1, ?_⟩
          refine kid_of (o := .ins (B.cm C') dx fv) (sp := .fld fl) rfl s1 hl rfl h2 z1 (fun S A u e1 e2 r hu => ?_) h1
          have hu' : fs.lookup fl = some u := hu
          rw [hu0] at hu'; cases hu'
          obtain ⟨p', dx', fv', G', w1, w2, w3, w4, w5⟩ := r.insR e2
          cases w1
          have w2' : H1 p = some (.ins (B.cm C') dx' fv') := w2
          rw [h2] at w2'; cases w2'
          obtain ⟨z', A'', y1, y2, y3⟩ := look2 w3 w4
          rw [z1] at y1; cases y1
          exact ⟨A'', y2.trans w5, y3⟩
        · exact h1.elim
      · exact h1.elim))
/-! ### slices -/
def PtF (X : Cx) (B : Base) (e : Option Expr) (f : OF) : Prop := ∀ δ σ H vs (Q : Option Int → Hp → Prop), StT X.K B δ σ H vs → (match f δ with
  | some (o, δ') => ∀ H', StT X.K B δ' σ H' vs → Q o H'
  | none => False) → tO X e σ H Q
def oNone : OF := fun δ => some (none, δ)
def oSome (f : EF) : OF := fun δ => match f δ with
  | .ok ⟨sl, .own (.int i) :: st⟩ => some (some i, ⟨sl, st⟩)
  | _ => none
theorem pt_none : PtF X B none oNone := fun δ σ H vs Q s q => po_none.tov (q H s)
theorem pt_some (h : EvF X B (fun _ _ => False) e f) : PtF X B (some e) (oSome f) := fun δ σ H vs Q s q =>
  (po_some (pE e)).tov (h δ σ H vs _ s (by
    unfold oSome at q
    split at q
    · rename_i o δ' hq
      split at hq
      · rename_i sl i st hf
        cases hq
        rw [hf]
        intro v H' s'
        obtain ⟨_, _, _, _, _, _, _, r⟩ := s'.rd1 (u := .int i) rfl
        exact ⟨i, lv r rfl, q H' s'.pop⟩
      · cases hq
    · exact q.elim))
def tSR (X : Cx) : V → Option Int → Option Int → Hp → VK → Prop := fun x lo hi H Q => ∀ (pins : List (Addr × Obj)) (s : Shared) (σ : L2.St) (v vl vu : Value) (sl : Addr), Inv X pins σ H s → RelV x v → s.heap.IsSliceOf sl vl vu .none → IsPart vl lo → IsPart vu hi →
    ∃ T id, typeLookup (.type T) "__getitem__" = pure (some (.builtin id)) ∧ s.TypeIs v T ∧ wpAny (model X.prog X.w) X.A (getItem v (.ref sl)) (EP X pins σ Q) X.xe s
theorem pSR : SlR X (tSR X) := fun pins s σ H x v vl vu lo hi sl Q I r1 r2 r3 r4 h => h pins s σ v vl vu sl I r1 r2 r3 r4
def eSl (fe : EF) (fl fh : OF) : EF := fun δ => (fe δ).bind fun δ1 => match fl δ1 with
  | some (lo, δ2) => match fh δ2 with
    | some (hi, δ3) => op1 (kSl lo hi) δ3
    | none => .no
  | none => .no
theorem cut_pr {α β : Type} {R : α → β → Prop} {l : List α} {m : List β} (h : Paired R l m) (lo hi : Option Int) : Paired R (cutT l lo hi) (cutT m lo hi) := by
  unfold cutT
  rw [pr_len h]
  exact pr_take _ (pr_drop _ h)
theorem cutT_all {α : Type} {l : List α} {lo hi : Option Int} (h : HT.sIx l.length 0 lo = 0 ∧ HT.sIx l.length l.length hi = l.length) : cutT l lo hi = l := by
  unfold cutT
  rw [h.1, h.2]; simp
theorem slF {lo hi : Option Int} {δ : En} {σ : L2.St} {H : Hp} {vs : List V} {x : V} {Q : VK} (s : StT X.K B δ σ H (x :: vs)) (q : PostF X B Ψ (op1 (kSl lo hi) δ) σ vs Q) : tSR X x lo hi H Q := by
  obtain ⟨sl, st⟩ := δ
  unfold op1 at q
  cases st with
  | nil => exact q.elim
  | cons ex st =>
    simp only at q
    cases z1 : look sl ex with
    | none => simp only [z1] at q; exact q.elim
    | some tx =>
      simp only [z1] at q
      cases z2 : kSl lo hi tx with
      | none => simp only [z2] at q; exact q.elim
      | some rr =>
        simp only [z2] at q
        obtain ⟨S, F, sv, A, t, e1, e2, r1⟩ := s.rd1 z1
        intro pins sh σ' v vl vu sla I r1' r2' r3' r4'
        unfold kSl at z2
        split at z2
        · rename_i m ts
          split at z2
          · rename_i hd
            cases z2
            obtain ⟨p, xs, G, rfl, h2, h3, _⟩ := r1.lstR e1 e2
            refine sl_list pins sh σ' H _ v vl vu lo hi sla Q I r1' r2' r3' r4' ⟨p, xs, rfl, SqL.of h2, fun r hr => q _ _ ?_⟩
            exact t.newL (pd_rep (cut_pr (h3.pd hd) lo hi)) hr
          · cases z2
        · rename_i ns
          cases z2
          obtain ⟨p, rfl, h2⟩ := r1.scrR e1
          refine sl_list pins sh σ' H _ v vl vu lo hi sla Q I r1' r2' r3' r4' ⟨p, ns.map V.int, rfl, h2, fun r hr => q _ _ ?_⟩
          have : cutV (ns.map V.int) lo hi = (cutT ns lo hi).map V.int := by
            unfold cutV cutT
            rw [List.length_map, ← List.map_drop, ← List.map_take]
          rw [this]
          exact t.newL (pd_rep (pd_ints _)) hr
        · rename_i ts
          split at z2
          · rename_i hd
            cases z2
            obtain ⟨p, xs, rfl, h2, h3⟩ := r1.tupR e1
            have hA := h3.datas_nil hd
            subst hA
            refine sl_tupA pins sh σ' H _ v vl vu lo hi sla Q I r1' r2' r3' r4' ⟨p, xs, rfl, SqT.of h2, fun hw => q _ _ ?_, fun hw r hr => q _ _ ?_⟩
            · rw [← h3.length] at hw
              rw [cutT_all hw]
              exact t.dat r1
            · exact t.newT (pd_rep (cut_pr (h3.pd hd) lo hi)) hr
          · cases z2
        · rename_i zz
          split at z2
          · rename_i hz
            cases z2
            exact sl_str pins sh σ' H _ v vl vu lo hi sla Q I r1' r2' r3' r4' ⟨zz, lv r1 rfl, hz, q _ _ (t.leaf rfl)⟩
          · cases z2
        · cases z2
theorem ev_slice {lo hi : Option Expr} {p2 : Pos} {fl fh : OF} (ha : EvF X B Ψ a fa) (hl : PtF X B lo fl) (hh : PtF X B hi fh) : EvF X B Ψ (.Subscript a (.Slice lo hi none p2) pos) (eSl fa fl fh) := fun δ σ H vs Q s q =>
  (pe_slice pSR (pE a) (pO lo) (pO hi)).tov (ha δ σ H vs _ s (post_b (P := fun r => PostF X B Ψ r σ vs Q) q (fun _ _ h => h) (fun h => h) fun δ1 h1 v H1 s1 => hl δ1 σ H1 _ _ s1 (by
    cases z1 : fl δ1 with
    | none => simp only [z1] at h1; exact h1
    | some p1 =>
      obtain ⟨l, δ2⟩ := p1
      simp only [z1] at h1
      intro H2 s2
      refine hh δ2 σ H2 _ _ s2 ?_
      cases z2 : fh δ2 with
      | none => simp only [z2] at h1; exact h1
      | some p2 =>
        obtain ⟨u, δ3⟩ := p2
        simp only [z2] at h1
        exact fun H3 s3 => slF s3 h1)))
/-! ### built-in functions -/
theorem ev_callB {x : Str} {p : Pos} {id : String} (hm : X.mg x = none) (hg : Gl X x) (hv : bootBuiltins x = some (.builtin id)) (ha : AgF X B Ψ n (e :: es) fa) (hr : ClF X B Ψ n (.builtin id) g)
    (he : starEach (e :: es) X.env = (false, eval e X.env) :: starEach es X.env) (hpl : (backTo pos (starEach es X.env)).any (·.1) = false) (hn : x ≠ "__name__" := by decide) (hdb : (x == ("__debug__" : Str)) = false := by decide) : EvF X B Ψ (.Call (.Name x p) (e :: es) [] pos) (eThen fa g) := fun δ σ H vs Q s q =>
  (pe_callB (pRC _) hg hm hv (pA _) hn hdb he hpl).tov (ha δ σ H vs _ s (post_n (P := fun r => PostF X B Ψ r σ vs Q) q (fun _ _ h => h) (fun h => h) fun δ1 h1 xs H1 hl s1 => hr δ1 σ H1 vs xs Q hl s1 h1))
theorem ev_callTy {x : Str} {p : Pos} {T : String} (hm : X.mg x = none) (hg : Gl X x) (hv : bootBuiltins x = some (.type T)) (ha : AgF X B Ψ n (e :: es) fa) (hr : ClF X B Ψ n (.type T) g)
    (he : starEach (e :: es) X.env = (false, eval e X.env) :: starEach es X.env) (hpl : (backTo pos (starEach es X.env)).any (·.1) = false) (hn : x ≠ "__name__" := by decide) (hdb : (x == ("__debug__" : Str)) = false := by decide) : EvF X B Ψ (.Call (.Name x p) (e :: es) [] pos) (eThen fa g) := fun δ σ H vs Q s q =>
  (pe_callTy (pRC _) hg hm hv (pA _) hn hdb he hpl).tov (ha δ σ H vs _ s (post_n (P := fun r => PostF X B Ψ r σ vs Q) q (fun _ _ h => h) (fun h => h) fun δ1 h1 xs H1 hl s1 => hr δ1 σ H1 vs xs Q hl s1 h1))
theorem tRC_of {f : Value} {r : List V → Hp → VK → Prop} (hr : CallR X f r) {xs : List V} {H : Hp} {Q : VK} (h : r xs H Q) : tRC X f xs H Q := fun pins s σ us I r1 => hr pins s σ H xs us Q I r1 h
theorem cl1_gen {fv : Value} {g : T → Option T} (h : ∀ sl st σ H vs S F sv A x tx r (Q : VK), Sta X.K B ⟨sl, st⟩ σ H vs S F sv → Ex S H → Ex A H → RepT (kc X.K B) S A tx x → g tx = some r → (∀ v H', StT X.K B ⟨sl, .own r :: st⟩ σ H' (v :: vs) → Q v H') → tRC X fv [x] H Q) : ClF X B Ψ 1 fv (op1 g) := fun δ σ H vs xs Q hl s q => by
  match xs, hl with
  | [x], _ =>
    obtain ⟨sl, st⟩ := δ
    unfold op1 at q
    cases st with
    | nil => exact q.elim
    | cons ex st =>
      simp only at q
      cases z1 : look sl ex with
      | none => simp only [z1] at q; exact q.elim
      | some tx =>
        simp only [z1] at q
        cases z2 : g tx with
        | none => simp only [z2] at q; exact q.elim
        | some rr =>
          simp only [z2] at q
          have s' : StT X.K B ⟨sl, ex :: st⟩ σ H (x :: vs) := s
          obtain ⟨S, F, sv, A, t, e1, e2, r1⟩ := s'.rd1 z1
          exact h sl st σ H vs S F sv A x tx rr Q t e1 e2 r1 z2 q
theorem cl2_gen {fv : Value} {g : T → T → Option T} (h : ∀ sl st σ H vs S F sv A A' x y tx ty r (Q : VK), Sta X.K B ⟨sl, st⟩ σ H vs S F sv → Ex S H → Ex A H → Ex A' H → RepT (kc X.K B) S A tx x → RepT (kc X.K B) S A' ty y → g tx ty = some r → (∀ v H', StT X.K B ⟨sl, .own r :: st⟩ σ H' (v :: vs) → Q v H') → tRC X fv [x, y] H Q) : ClF X B Ψ 2 fv (op2 g) := fun δ σ H vs xs Q hl s q => by
  match xs, hl with
  | [x, y], _ =>
    obtain ⟨sl, st⟩ := δ
    unfold op2 at q
    cases st with
    | nil => exact q.elim
    | cons ey st =>
      cases st with
      | nil => exact q.elim
      | cons ex st =>
        simp only at q
        cases z1 : look sl ex with
        | none => simp only [z1] at q; exact q.elim
        | some tx =>
          cases z2 : look sl ey with
          | none => simp only [z1, z2] at q; exact q.elim
          | some ty =>
            simp only [z1, z2] at q
            cases z3 : g tx ty with
            | none => simp only [z3] at q; exact q.elim
            | some r =>
              simp only [z3] at q
              have s' : StT X.K B ⟨sl, ey :: ex :: st⟩ σ H (y :: x :: vs) := s
              obtain ⟨S, F, sv, A, A', t, e1, e2, e3, r1, r2⟩ := s'.rd2 z2 z1
              exact h sl st σ H vs S F sv A' A x y tx ty r Q t e1 e3 e2 r2 r1 z3 q
theorem call_lenDct : CallR X (.builtin "len") (fun xs H Q => ∃ a kvs, xs = [.ref a] ∧ Rd H a (.dK kvs) ∧ Q (.int kvs.length) H) := fun pins s σ H xs us Q I r h => by
  obtain ⟨a, kvs, rfl, hd, q⟩ := h
  rw [Vals.ref1 r]
  exact d_len I hd fun t s' I' => ⟨.int kvs.length, H, I', ⟨t, rfl⟩, q⟩
theorem cl_len : ClF X B Ψ 1 (.builtin "len") (op1 kLen) := cl1_gen fun sl st σ H vs S F sv A x tx r Q t e1 e2 r1 hg q => by
  unfold kLen at hg
  split at hg
  · cases hg
    obtain ⟨p, xs, G, rfl, h2, h3, _⟩ := r1.lstR e1 e2
    exact tRC_of call_len_seq ⟨p, xs, rfl, .inl (SqL.of h2), by rw [← h3.length]; exact q _ _ (t.leaf rfl)⟩
  · cases hg
    obtain ⟨p, xs, rfl, h2, h3⟩ := r1.tupR e1
    exact tRC_of call_len_seq ⟨p, xs, rfl, .inr (SqT.of h2), by rw [← h3.length]; exact q _ _ (t.leaf rfl)⟩
  · rename_i ns
    cases hg
    obtain ⟨p, rfl, h2⟩ := r1.scrR e1
    exact tRC_of call_len_seq ⟨p, _, rfl, .inl h2, by rw [List.length_map]; exact q _ _ (t.leaf rfl)⟩
  · cases hg
    obtain ⟨p, kv, G, rfl, h2, _, h4, _⟩ := r1.dctR e2
    exact tRC_of call_lenDct ⟨p, kv, rfl, h2, by rw [dct_len h4]; exact q _ _ (t.leaf rfl)⟩
  · split at hg
    · rename_i hz; cases hg
      exact tRC_of call_len_str ⟨_, by rw [lv r1 rfl], hz, q _ _ (t.leaf rfl)⟩
    · cases hg
  · cases hg
theorem cl_sorted (c : CxOk X B W Ψ k) : ClF X B Ψ 1 (.builtin "sorted") (op1 kSorted) := cl1_gen fun sl st σ H vs S F sv A x tx r Q t e1 e2 r1 hg q => by
  unfold kSorted at hg
  split at hg
  · rename_i m ts
    cases z : allOf T.toInt ts with
    | none => rw [z] at hg; cases hg
    | some l =>
      rw [z] at hg; cases hg
      have := allInt z
      subst this
      obtain ⟨p, xs, G, rfl, h2, h3, _⟩ := r1.lstR e1 e2
      have hx := rep_ints h3
      subst hx
      refine tRC_of cr_sortedI ⟨p, l, rfl, SqL.of h2, fun ns' r hp hs hr => ?_⟩
      rw [srt_unique hp hs]
      exact q _ _ (t.newL (pd_rep (pd_ints _)) hr)
  · split at hg
    · rename_i hz; cases hg
      obtain ⟨p, kv, G, rfl, h2, _, h4, _⟩ := r1.dctR e2
      refine tRC_of (call_sortedDI c.calm) ⟨p, kv, _, rfl, h2, h4, by rw [List.length_map]; exact hz, fun ns' r hp hs hr => ?_⟩
      rw [srt_unique hp hs]
      exact q _ _ (t.newL (pd_rep (pd_ints _)) hr)
    · cases hg
  · cases hg
theorem cl_list (c : CxOk X B W Ψ k) : ClF X B Ψ 1 (.type "list") (op1 kList) := cl1_gen fun sl st σ H vs S F sv A x tx r Q t e1 e2 r1 hg q => by
  unfold kList at hg
  split at hg
  · split at hg
    · rename_i hd; cases hg
      obtain ⟨p, xs, G, rfl, h2, h3, _⟩ := r1.lstR e1 e2
      exact tRC_of call_list_of ⟨p, xs, rfl, .inl (SqL.of h2), fun r hr => q _ _ (t.newL (pd_rep (h3.pd hd)) hr)⟩
    · cases hg
  · split at hg
    · rename_i hd; cases hg
      obtain ⟨p, xs, rfl, h2, h3⟩ := r1.tupR e1
      exact tRC_of call_list_of ⟨p, xs, rfl, .inr (SqT.of h2), fun r hr => q _ _ (t.newL (pd_rep (h3.pd hd)) hr)⟩
    · cases hg
  · rename_i lk kvs
    cases hg
    obtain ⟨p, kv, G, rfl, h2, _, h4, _⟩ := r1.dctR e2
    refine tRC_of (call_listD c.calm) ⟨p, kv, rfl, h2, fun r hr => ?_⟩
    have : (kv.map fun kv => kV kv.1) = (kvs.map (·.1)).map V.int := by
      have := congrArg (List.map kV) h4
      rw [List.map_map, List.map_map] at this
      exact this
    rw [this]
    exact q _ _ (t.newL (pd_rep (pd_ints _)) hr)
  · cases hg
theorem cl_tuple : ClF X B Ψ 1 (.type "tuple") (op1 kTuple) := cl1_gen fun sl st σ H vs S F sv A x tx r Q t e1 e2 r1 hg q => by
  unfold kTuple at hg
  split at hg
  · split at hg
    · rename_i hd; cases hg
      obtain ⟨p, xs, G, rfl, h2, h3, _⟩ := r1.lstR e1 e2
      exact tRC_of call_tuple_of ⟨p, xs, rfl, .inl ⟨SqL.of h2, fun r hr => q _ _ (t.newT (pd_rep (h3.pd hd)) hr)⟩⟩
    · cases hg
  · cases hg
theorem cl_all (c : CxOk X B W Ψ k) : ClF X B Ψ 1 (.builtin "all") (op1 kAll) := cl1_gen fun sl st σ H vs S F sv A x tx r Q t e1 e2 r1 hg q => by
  unfold kAll at hg
  split at hg
  · rename_i m ts
    cases z : allOf T.toBl ts with
    | none => rw [z] at hg; cases hg
    | some l =>
      rw [z] at hg; cases hg
      have := allBl z
      subst this
      obtain ⟨p, xs, G, rfl, h2, h3, _⟩ := r1.lstR e1 e2
      have hx := rep_bls h3
      subst hx
      exact tRC_of (cr_all c.calm) ⟨p, l, rfl, SqL.of h2, q _ _ (t.leaf rfl)⟩
  · cases hg
theorem cl_any (c : CxOk X B W Ψ k) : ClF X B Ψ 1 (.builtin "any") (op1 kAny) := cl1_gen fun sl st σ H vs S F sv A x tx r Q t e1 e2 r1 hg q => by
  unfold kAny at hg
  split at hg
  · rename_i m ts
    cases z : allOf T.toBl ts with
    | none => rw [z] at hg; cases hg
    | some l =>
      rw [z] at hg; cases hg
      have := allBl z
      subst this
      obtain ⟨p, xs, G, rfl, h2, h3, _⟩ := r1.lstR e1 e2
      have hx := rep_bls h3
      subst hx
      exact tRC_of (cr_any c.calm) ⟨p, l, rfl, SqL.of h2, q _ _ (t.leaf rfl)⟩
  · cases hg
theorem cl_int : ClF X B Ψ 1 (.type "int") (op1 kInt) := cl1_gen fun sl st σ H vs S F sv A x tx r Q t e1 e2 r1 hg q => by
  unfold kInt at hg
  split at hg
  · cases hg
    exact tRC_of call_int1 (.inr ⟨_, by rw [lv r1 rfl], q _ _ (t.leaf rfl)⟩)
  · cases hg
    exact tRC_of call_int1 (.inl ⟨_, by rw [lv r1 rfl], q _ _ (t.leaf rfl)⟩)
  · rename_i zz
    split at hg
    · rename_i hz
      cases z : PySem.intText? zz with
      | none => rw [z] at hg; cases hg
      | some i =>
        rw [z] at hg; cases hg
        exact tRC_of call_int_str ⟨zz, i, by rw [lv r1 rfl], z, hz, q _ _ (t.leaf rfl)⟩
    · cases hg
  · cases hg
theorem cl_str : ClF X B Ψ 1 (.type "str") (op1 kStr) := cl1_gen fun sl st σ H vs S F sv A x tx r Q t e1 e2 r1 hg q => by
  unfold kStr at hg
  split at hg
  · split at hg
    · rename_i hz; cases hg
      exact tRC_of call_str_int ⟨_, by rw [lv r1 rfl], hz, q _ _ (t.leaf rfl)⟩
    · cases hg
  · cases hg
theorem cl_min2 (c : CxOk X B W Ψ k) : ClF X B Ψ 2 (.builtin "min") (op2 kMin2) := cl2_gen fun sl st σ H vs S F sv A A' x y tx ty r Q t e1 e2 e3 r1 r2 hg q => by
  unfold kMin2 at hg
  split at hg
  · cases hg
    exact tRC_of (call_min2 c.calm) ⟨_, _, by rw [lv r1 rfl, lv r2 rfl], q _ _ (t.leaf rfl)⟩
  · cases hg
theorem cl_max2 (c : CxOk X B W Ψ k) : ClF X B Ψ 2 (.builtin "max") (op2 kMax2) := cl2_gen fun sl st σ H vs S F sv A A' x y tx ty r Q t e1 e2 e3 r1 r2 hg q => by
  unfold kMax2 at hg
  split at hg
  · cases hg
    exact tRC_of (call_max2 c.calm) ⟨_, _, by rw [lv r1 rfl, lv r2 rfl], q _ _ (t.leaf rfl)⟩
  · cases hg
theorem ty_of {K : Kc} {S A H : Hp} {x : V} {tx : T} {tn : String} (h : tyT tx = some tn) (r1 : RepT K S A tx x) (e1 : Ex S H) (e2 : Ex A H) : TyOf K.K H x (.type tn) := by
  cases tx <;> simp [tyT] at h <;> subst h
  case non => rw [lv r1 rfl]; exact .non
  case bl b => rw [lv r1 rfl]; exact .bl b
  case int b => rw [lv r1 rfl]; exact .int b
  case str b => rw [lv r1 rfl]; exact .str b
  case tup b =>
    obtain ⟨p, xs, rfl, h2, h3⟩ := r1.tupR e1
    exact .tup h2
  case lst m b =>
    obtain ⟨p, xs, G, rfl, h2, h3, _⟩ := r1.lstR e1 e2
    exact .lst h2
theorem cl_isi : ClF X B Ψ 2 (.builtin "isinstance") (op2 kIsi) := cl2_gen fun sl st σ H vs S F sv A A' x y tx ty r Q t e1 e2 e3 r1 r2 hg q => by
  unfold kIsi at hg
  split at hg
  · rename_i tx u
    split at hg
    · rename_i tn ht
      cases hb : kitB tn u with
      | none => rw [hb] at hg; cases hg
      | some b =>
        rw [hb] at hg; cases hg
        have ec := lv r2 rfl
        subst ec
        have ty : TyOf X.K H x (.type tn) := ty_of ht r1 e1 e2
        exact tRC_of call_isi ⟨x, .ty u, .type tn, .type u, b, rfl, .ty u, .base ty, kit_ty hb, q _ _ (t.leaf rfl)⟩
    · cases hg
  · cases hg
end
end Vt

/-! The rules: methods, stores. -/
namespace Vt
open PySem PySem.Spec PyProof.Rows L2

section
variable {X : Cx} {B : Base} {Ψ : XF} {W : WX} {k n : Nat} {a b c e o : Expr} {es : List Expr} {pos apos : Pos} {f g h fa fb fc fo : EF} {σ : L2.St} {H : Hp} {vs : List V} {v : V} {Q : VK} {sl st : List Ent} {i : Nat} {p : List Sp}
theorem putAt_eq {r u : T} (h : sl[i]? = some (.own r)) : putAt sl i p u = sl.set i (.own (r.put p u)) := by unfold putAt; rw [h]
theorem look_al {u : T} (h : look sl (.al i p) = some u) : ∃ r, sl[i]? = some (.own r) ∧ r.at p = some u := by
  unfold look at h
  simp only at h
  split at h
  · rename_i t ht; exact ⟨t, ht, h⟩
  · cases h
theorem mutL_of {es : List Ent} {xs : List V} {k : List T → Option (List T × T)} (s : StT X.K B ⟨sl, es ++ .al i p :: st⟩ σ H (xs ++ v :: vs)) (hl : es.length = xs.length) (q : PostF X B Ψ (mutL sl st i p k) σ vs Q) :
    ∃ ts ts' r a zs S F0 sv, Sta X.K B ⟨sl, es ++ .al i p :: st⟩ σ H (xs ++ v :: vs) S F0 sv ∧ k ts = some (ts', r) ∧ v = .ref a ∧ H a = some (.lst zs) ∧ ts.length = zs.length ∧ (∃ G, RepTs (kc X.K B) S G ts zs) ∧ ∀ ys w, (∀ F E, RepTs (kc X.K B) S F ts zs → RepTs (kc X.K B) S E (es.map Ent.tr) xs → Dj F E → ∃ F2, RepTs (kc X.K B) S F2 ts' ys ∧ ∀ b w, F2 b = some w → F b = some w ∨ E b = some w) →
      RepT (kc X.K B) S hnil r w → Q w (upd H a (.lst ys)) := by
  unfold mutL at q
  split at q
  · rename_i ts hlk
    obtain ⟨r0, h1, h2⟩ := look_al hlk
    split at q
    · rename_i ts' r hk
      split at q
      · rename_i hf
        obtain ⟨S, F, sv, t⟩ := s
        obtain ⟨a, zs, e1, e2, e3, e4, e5⟩ := Sta.mutL (ts' := ts') t hl h1 h2 hf
        refine ⟨ts, ts', r, a, zs, S, F, sv, t, hk, e1, e2, e3, e4, fun ys w hy hr => ?_⟩
        obtain ⟨F', t'⟩ := e5 ys hy
        rw [putAt_eq h1] at q
        exact q _ _ ⟨S, F', sv, t'.pushD hr⟩
      · exact q.elim
    · exact q.elim
  · exact q.elim
theorem tRM_of {id : String} {r : V → List V → Hp → VK → Prop} (hr : MtR X id r) {x : V} {xs : List V} (h : r x xs H Q) : tRM X id x xs H Q := fun pins s σ v us I r1 r2 => hr pins s σ H x xs v us Q I r1 r2 h
theorem line_lt {n : Nat} (h : n < lineA) : n < sizeLine := Nat.lt_of_lt_of_le h (by decide)
theorem mt_appendF : MtF X B Ψ 1 "list.append" eAppend := fun δ σ H vs x xs Q hl s q => by
  match xs, hl with
  | [b], _ =>
    obtain ⟨sl, st⟩ := δ
    unfold eAppend at q
    split at q
    · rename_i t i p st' e
      have e' : st = .own t :: .al i p :: st' := e
      subst e'
      obtain ⟨ts, ts', r, a, zs, S, F0, sv, t0, hk, rfl, h2, h3, _, h5⟩ := mutL_of (es := [.own t]) (xs := [b]) s rfl q
      split at hk
      · rename_i hz
        cases hk
        exact tRM_of mt_append ⟨a, zs, b, rfl, rfl, h2, by rw [← h3]; exact line_lt hz, h5 (zs ++ [b]) .non (fun F E r1 r2 d => kids_app r1 r2 d) (.leaf rfl)⟩
      · cases hk
    · exact q.elim
theorem mt_extendF : MtF X B Ψ 1 "list.extend" eExtend := fun δ σ H vs x xs Q hl s q => by
  match xs, hl with
  | [b], _ =>
    obtain ⟨sl, st⟩ := δ
    unfold eExtend at q
    split at q
    · rename_i ex i p st' e
      have e' : st = ex :: .al i p :: st' := e
      subst e'
      split at q
      · rename_i us hu
        obtain ⟨ts, ts', r, a, zs, S, F0, sv, t0, hk, rfl, h2, h3, _, h5⟩ := mutL_of (es := [ex]) (xs := [b]) s rfl q
        split at hk
        · rename_i hz
          rw [Bool.and_eq_true, decide_eq_true_eq] at hz
          cases hk
          obtain ⟨A, eA, rA⟩ := t0.look_at (m := 0) (e := ex) (v := b) rfl rfl hu
          obtain ⟨c, ys, G, rfl, g2, g3, _⟩ := rA.lstR t0.exS (eA.trans t0.exF)
          refine tRM_of mt_extend ⟨a, c, zs, ys, rfl, rfl, h2, g2, by rw [← h3, ← g3.length]; exact Nat.le_of_lt (line_lt hz.2), h5 (zs ++ ys) .non (fun F E r1 r2 d => ?_) (.leaf rfl)⟩
          exact ⟨F, by have := r1.app (Dj.nil' (F := F)) (pd_rep (g3.pd hz.1)); rwa [join_nil] at this, fun b w h => .inl h⟩
        · cases hk
      · exact q.elim
    · exact q.elim
theorem dropLast_getLast {α : Type} {l : List α} {x : α} (h : l.getLast? = some x) : l.length ≠ 0 ∧ l[l.length - 1]? = some x := by
  rw [List.getLast?_eq_getElem?] at h
  have := (List.getElem?_eq_some_iff.mp h).1
  exact ⟨by omega, h⟩
theorem mt_popF : MtF X B Ψ 0 "list.pop" ePop0 := fun δ σ H vs x xs Q hl s q => by
  match xs, hl with
  | [], _ =>
    obtain ⟨sl, st⟩ := δ
    unfold ePop0 at q
    split at q
    · rename_i i p st' e
      have e' : st = .al i p :: st' := e
      subst e'
      obtain ⟨ts, ts', r, a, zs, S, F0, sv, t0, hk, rfl, h2, h3, ⟨G, h4⟩, h5⟩ := mutL_of (es := []) (xs := []) s rfl q
      split at hk
      · rename_i t ht
        cases hk
        obtain ⟨hn, hz⟩ := dropLast_getLast ht
        obtain ⟨z, A, z1, z2, z3⟩ := h4.at hz
        rw [h3] at z1
        refine tRM_of mt_pop ⟨a, zs, z, rfl, rfl, h2, z1, h5 zs.dropLast z (fun F E r1 r2 d => ?_) ?_⟩
        · obtain ⟨F2, w1, w2⟩ := r1.take (ts.length - 1)
          rw [List.dropLast_eq_take, List.dropLast_eq_take, ← h3]
          exact ⟨F2, w1, fun b w h => .inl (w2 b w h)⟩
        · by_cases hd : t.data = true
          · rw [if_pos hd]
            have := z3.datas_nil hd
            subst this
            exact z3
          · rw [if_neg hd]; exact .gone
      · cases hk
    · exact q.elim
theorem fst_at {i : Int} : ∀ {l : List Int}, i ∈ l → ∃ j : Nat, l[j]? = some i ∧ (∀ m : Nat, m < j → l[m]? ≠ some i) ∧ l.eraseIdx j = l.erase i := by
  intro l
  induction l with
  | nil => intro h; cases h
  | cons w l ih =>
    intro h
    by_cases e : w = i
    · subst e; exact ⟨0, rfl, fun m hm => absurd hm (Nat.not_lt_zero _), by simp⟩
    · obtain ⟨j, j1, j2, j3⟩ := ih ((List.mem_cons.mp h).resolve_left fun z => e z.symm)
      refine ⟨j + 1, by simpa using j1, fun m hm => ?_, ?_⟩
      · cases m with
        | zero => simpa using e
        | succ m => simpa using j2 m (by omega)
      · rw [List.eraseIdx_cons_succ, j3, List.erase_cons_tail (by simpa using e)]
theorem mt_removeF : MtF X B Ψ 1 "list.remove" eRemove := fun δ σ H vs x xs Q hl s q => by
  match xs, hl with
  | [b], _ =>
    obtain ⟨sl, st⟩ := δ
    unfold eRemove at q
    split at q
    · rename_i n i p st' e
      have e' : st = .own (.int n) :: .al i p :: st' := e
      subst e'
      obtain ⟨_, _, _, _, _, _, _, rb⟩ := StT.rd1 (u := .int n) (e := .own (.int n)) (v := b) s rfl
      have eb := lv rb rfl
      subst eb
      obtain ⟨ts, ts', r, a, zs, S, F0, sv, t0, hk, rfl, h2, h3, ⟨G, h4⟩, h5⟩ := mutL_of (es := [.own (.int n)]) (xs := [.int n]) s rfl q
      split at hk
      · rename_i ns hns
        split at hk
        · rename_i hm
          cases hk
          have := allInt hns
          subst this
          have hz := rep_ints h4
          subst hz
          obtain ⟨j, j1, j2, j3⟩ := fst_at hm
          refine tRM_of mt_remove ⟨a, ns, n, j, rfl, rfl, h2, j1, j2, ?_⟩
          rw [j3]
          exact h5 _ .non (fun F E r1 r2 d => ⟨hnil, pd_rep (pd_ints _), fun b w h => nomatch h⟩) (.leaf rfl)
        · cases hk
      · cases hk
    · exact q.elim
theorem mt_insertF : MtF X B Ψ 2 "list.insert" eInsert := fun δ σ H vs x xs Q hl s q => by
  match xs, hl with
  | [b, c], _ =>
    obtain ⟨sl, st⟩ := δ
    unfold eInsert at q
    split at q
    · rename_i t n i p st' e
      have e' : st = .own t :: .own (.int n) :: .al i p :: st' := e
      subst e'
      have s0 : StT X.K B ⟨sl, .own t :: .own (.int n) :: .al i p :: st'⟩ σ H (c :: b :: x :: vs) := s
      obtain ⟨_, _, _, _, _, _, _, rb⟩ := s0.pop.rd1 (u := .int n) rfl
      have eb := lv rb rfl
      subst eb
      obtain ⟨ts, ts', r, a, zs, S, F0, sv, t0, hk, rfl, h2, h3, ⟨G, h4⟩, h5⟩ := mutL_of (es := [.own t, .own (.int n)]) (xs := [c, .int n]) s0 rfl q
      split at hk
      · rename_i hz
        obtain ⟨hz1, hz2, hz3⟩ := hz
        cases hk
        refine tRM_of mt_insert ⟨a, zs, n, c, rfl, rfl, h2, by rw [← h3]; exact line_lt hz3, hz1, hz2, h5 _ .non (fun F E r1 r2 d => ?_) (.leaf rfl)⟩
        cases r2 with
        | cons d2 q1 r3 =>
          cases r3 with
          | cons d3 q2 r4 =>
            cases r4
            have e1 : ts = ts.take n.toNat ++ ts.drop n.toNat := (List.take_append_drop _ _).symm
            rw [e1] at r1
            obtain ⟨A1, A2, x1, x2, k1, k2, k3, k4⟩ := r1.split
            have ek := k1.e
            subst ek
            have l1 : x1 = zs.take n.toNat := by
              have : x1.length = (ts.take n.toNat).length := k3.length.symm
              rw [k2, List.take_append]
              rw [List.length_take, h3] at this
              have hzl : zs.length = x1.length + x2.length := by rw [k2, List.length_append]
              have ht : (ts.take n.toNat).length = x1.length := k3.length
              rw [List.take_of_length_le (by omega)]
              by_cases hle : n.toNat ≤ zs.length
              · have : n.toNat - x1.length = 0 := by omega
                rw [this]; simp
              · have : x2 = [] := by
                  apply List.eq_nil_of_length_eq_zero; omega
                rw [this]; simp
            have l2 : x2 = zs.drop n.toNat := by
              have : zs.take n.toNat ++ zs.drop n.toNat = x1 ++ x2 := by rw [List.take_append_drop, k2]
              rw [← l1] at this
              exact (List.append_cancel_left this).symm
            subst l1 l2
            have dd := d
            refine ⟨_, (RepTs.app (Dj.l d).symm.l.symm k3 (RepTs.one q1)).app ?_ k4, fun b w h => ?_⟩
            · exact Dj.jl k1.d (Dj.r d).symm.l
            · rcases join_cases h with z | ⟨_, z⟩
              · rcases join_cases z with z | ⟨_, z⟩
                · exact .inl (join_l z)
                · exact .inr (join_l z)
              · exact .inl (Ex.r k1.d _ _ z)
      · cases hk
    · exact q.elim
/-! ### calls of methods -/
theorem chk_of {cf : T → Bool} {δ δ' : En} (h : chk cf δ = .ok δ') : δ' = δ ∧ ∃ e st t, δ.st = e :: st ∧ look δ.sl e = some t ∧ cf t = true := by
  unfold chk at h
  split at h
  · rename_i e st he
    split at h
    · rename_i t ht
      split at h
      · rename_i hc; cases h; exact ⟨rfl, e, st, t, he, ht, hc⟩
      · cases h
    · cases h
  · cases h
theorem chk_no {cf : T → Bool} {δ : En} : chk cf δ = .ok δ ∨ chk cf δ = .no := by
  unfold chk
  split
  · split
    · split
      · exact .inl rfl
      · exact .inr rfl
    · exact .inr rfl
  · exact .inr rfl
theorem lst_ty {K : Kc} {S A : Hp} {t : T} {x : V} (r : RepT K S A t x) (e1 : Ex S H) (e2 : Ex A H) (h : isLst t = true) : tyV K.K "list" x H := by
  cases t <;> simp [isLst] at h
  obtain ⟨p, xs, G, rfl, h2, _⟩ := r.lstR e1 e2
  exact .inl ⟨rfl, xs, SqL.of h2⟩
theorem ev_bm {name : Str} {id : String} (pa : PlainAttrs "list") (slot : Slot "list" name id) (hty : typeOf (.builtin id) = pure (.type "method_descriptor")) (ho : EvF X B Ψ o fo) (ha : AgF X B Ψ n (e :: es) fa) (hg : MtF X B Ψ n id g)
    (hbase : attributeBase o name X.env (eval o X.env) = eval o X.env)
    (hfew : ((backTo pos (starEach (e :: es) X.env)).all (fun x => !x.1) && (backToKw pos (keywordEach [] X.env)).all (fun x => x.1.isSome) && decide ((e :: es).length + ([] : List Keyword).length + (if ([] : List Keyword).isEmpty then 0 else 1) < 30)) = true)
    (hline : (apos.endLine == pos.line) = true) (hs : starEach (e :: es) X.env = (false, eval e X.env) :: starEach es X.env) (hplain : (backTo pos (starEach es X.env)).any (·.1) = false) : EvF X B Ψ (.Call (.Attribute o name apos) (e :: es) [] pos) (eMeth isLst fo fa g) := fun δ σ H vs Q s q =>
  (pe_bm pa slot hty (pRM _) (pE o) (pA _) hbase hfew hline hs hplain).tov (ho δ σ H vs _ s (post_b (P := fun r => PostF X B Ψ ((r.bind fa).bind g) σ vs Q) (k := chk isLst) q (fun _ _ h => h) (fun h => h) fun δ1 h1 v H1 s1 => by
    rcases chk_no (cf := isLst) (δ := δ1) with z | z
    · rw [z] at h1
      obtain ⟨_, e0, st0, t0, he0, hl0, hc0⟩ := chk_of z
      obtain ⟨sl1, st1⟩ := δ1
      simp only at he0
      subst he0
      obtain ⟨S, F, sv, A, t, e1, e2, r1⟩ := s1.rd1 hl0
      refine ⟨lst_ty r1 e1 e2 hc0, ha _ σ H1 (v :: vs) _ s1 (post_n (P := fun r => PostF X B Ψ r σ vs Q) h1 (fun _ _ h => h) (fun h => h) fun δ2 h2 xs H2 hl s2 => hg δ2 σ H2 vs v xs Q hl s2 h2)⟩
    · rw [z] at h1; exact h1.elim))
theorem ev_bm0 {name : Str} {id : String} (pa : PlainAttrs "list") (slot : Slot "list" name id) (hty : typeOf (.builtin id) = pure (.type "method_descriptor")) (ho : EvF X B Ψ o fo) (hg : MtF X B Ψ 0 id g)
    (hbase : attributeBase o name X.env (eval o X.env) = eval o X.env) (hline : (apos.endLine == pos.line) = true) : EvF X B Ψ (.Call (.Attribute o name apos) [] [] pos) (eMeth isLst fo eNil g) := fun δ σ H vs Q s q =>
  (pe_bm0 pa slot hty (pRM _) (pE o) hbase hline).tov (ho δ σ H vs _ s (post_b (P := fun r => PostF X B Ψ ((r.bind eNil).bind g) σ vs Q) (k := chk isLst) q (fun _ _ h => h) (fun h => h) fun δ1 h1 v H1 s1 => by
    rcases chk_no (cf := isLst) (δ := δ1) with z | z
    · rw [z] at h1
      obtain ⟨_, e0, st0, t0, he0, hl0, hc0⟩ := chk_of z
      obtain ⟨sl1, st1⟩ := δ1
      simp only at he0
      subst he0
      obtain ⟨S, F, sv, A, t, e1, e2, r1⟩ := s1.rd1 hl0
      exact ⟨lst_ty r1 e1 e2 hc0, hg _ σ H1 vs v [] Q rfl s1 h1⟩
    · rw [z] at h1; exact h1.elim))
/-- text methods of one argument -/
theorem ev_m1 {name : Str} {id : String} {r : V → List V → Hp → VK → Prop} {kf : T → T → Option T} (slot : Slot "str" name id) (ty : typeOf (.builtin id) = pure (.type "method_descriptor")) (rule : MtR X id r) (ho : EvF X B Ψ o fo) (he : EvF X B Ψ e fa)
    (hr : ∀ sl st σ H vs S F sv A A' x y tx ty rr (Q : VK), Sta X.K B ⟨sl, st⟩ σ H vs S F sv → Ex S H → Ex A H → Ex A' H → RepT (kc X.K B) S A tx x → RepT (kc X.K B) S A' ty y → kf tx ty = some rr → (∀ v H', StT X.K B ⟨sl, .own rr :: st⟩ σ H' (v :: vs) → Q v H') → r x [y] H Q)
    (hs : starEach [e] X.env = [(false, eval e X.env)]) (hbase : attributeBase o name X.env (eval o X.env) = eval o X.env) (hline : (apos.endLine == pos.line) = true) : EvF X B Ψ (.Call (.Attribute o name apos) [e] [] pos) (eMeth isStr fo fa (op2 kf)) := fun δ σ H vs Q s q =>
  (pe_m1 slot ty rule (pE o) (pE e) hs hbase hline).tov (ho δ σ H vs _ s (post_b (P := fun r => PostF X B Ψ ((r.bind fa).bind (op2 kf)) σ vs Q) (k := chk isStr) q (fun _ _ h => h) (fun h => h) fun δ1 h1 v H1 s1 => by
    rcases chk_no (cf := isStr) (δ := δ1) with z | z
    · rw [z] at h1
      obtain ⟨_, e0, st0, t0, he0, hl0, hc0⟩ := chk_of z
      obtain ⟨sl1, st1⟩ := δ1
      simp only at he0
      subst he0
      obtain ⟨S, F, sv, A, t, e1, e2, r1⟩ := s1.rd1 hl0
      have hv : ∃ a, v = V.str a := by
        cases t0 <;> simp [isStr] at hc0
        exact ⟨_, lv r1 rfl⟩
      refine ⟨hv, he _ σ H1 (v :: vs) _ s1 (post_b (P := fun r => PostF X B Ψ r σ vs Q) h1 (fun _ _ h => h) (fun h => h) fun δ2 h2 w H2 s2 => ?_)⟩
      obtain ⟨sl2, st2⟩ := δ2
      unfold op2 at h2
      cases st2 with
      | nil => exact h2.elim
      | cons ey st2 =>
        cases st2 with
        | nil => exact h2.elim
        | cons ex st2 =>
          simp only at h2
          cases z1 : look sl2 ex with
          | none => simp only [z1] at h2; exact h2.elim
          | some tx =>
            cases z2 : look sl2 ey with
            | none => simp only [z1, z2] at h2; exact h2.elim
            | some ty =>
              simp only [z1, z2] at h2
              cases z3 : kf tx ty with
              | none => simp only [z3] at h2; exact h2.elim
              | some rr =>
                simp only [z3] at h2
                obtain ⟨S, F, sv, A, A', t, e1, e2, e3, r1, r2⟩ := s2.rd2 z2 z1
                exact hr sl2 st2 σ H2 vs S F sv A' A v w tx ty rr Q t e1 e3 e2 r2 r1 z3 h2
    · rw [z] at h1; exact h1.elim))
theorem ev_join (ho : EvF X B Ψ o fo) (he : EvF X B Ψ e fa) (hs : starEach [e] X.env = [(false, eval e X.env)]) (hbase : attributeBase o "join" X.env (eval o X.env) = eval o X.env) (hline : (apos.endLine == pos.line) = true) : EvF X B Ψ (.Call (.Attribute o "join" apos) [e] [] pos) (eMeth isStr fo fa (op2 kJoin)) :=
  ev_m1 PySem.F.slot_str_join PySem.F.type_str_join mt_join ho he (fun sl st σ H vs S F sv A A' x y tx ty rr Q t e1 e2 e3 r1 r2 hg q => by
    unfold kJoin at hg
    split at hg
    · rename_i a0 m ts
      split at hg
      · rename_i ys hys
        split at hg
        · rename_i hz
          cases hg
          have := allStr hys
          subst this
          obtain ⟨p, xs, G, rfl, h2, h3, _⟩ := r2.lstR e1 e3
          have hx := rep_strs h3
          subst hx
          exact ⟨a0, p, ys, lv r1 rfl, rfl, .inl (SqL.of h2), hz, q _ _ (t.leaf rfl)⟩
        · cases hg
      · cases hg
    · cases hg) hs hbase hline
theorem ev_split (ho : EvF X B Ψ o fo) (he : EvF X B Ψ e fa) (hs : starEach [e] X.env = [(false, eval e X.env)]) (hbase : attributeBase o "split" X.env (eval o X.env) = eval o X.env) (hline : (apos.endLine == pos.line) = true) : EvF X B Ψ (.Call (.Attribute o "split" apos) [e] [] pos) (eMeth isStr fo fa (op2 kSplit)) :=
  ev_m1 PySem.F.slot_str_split PySem.F.type_str_split mt_split ho he (fun sl st σ H vs S F sv A A' x y tx ty rr Q t e1 e2 e3 r1 r2 hg q => by
    unfold kSplit at hg
    split at hg
    · rename_i a0 b0
      split at hg
      · rename_i hz
        cases hg
        exact ⟨a0, b0, lv r1 rfl, by rw [lv r2 rfl], hz.1, hz.2, fun p hp => q _ _ (t.newL (pd_rep (pd_strs _)) hp)⟩
      · cases hg
    · cases hg) hs hbase hline
/-- d.get(k, f) -/
theorem ev_dget2 {ee ef : Expr} (c : CxOk X B W Ψ k) (ho : EvF X B Ψ o fo) (he : EvF X B Ψ ee fa) (hf : EvF X B Ψ ef fb) (m : M2 X o "get" apos ee ef pos) : EvF X B Ψ (.Call (.Attribute o "get" apos) [ee, ef] [] pos) (eMeth isDct fo (eThen fa fb) eDget) := fun δ σ H vs Q s q =>
  (pe_dget2 (by have := c.room.units; omega) (pE o) (pE ee) (pE ef) m).tov (ho δ σ H vs _ s (post_b (P := fun r => PostF X B Ψ ((r.bind (eThen fa fb)).bind eDget) σ vs Q) (k := chk isDct) q (fun _ _ h => h) (fun h => h) fun δ1 h1 v H1 s1 => by
    rcases chk_no (cf := isDct) (δ := δ1) with z | z
    · rw [z] at h1
      obtain ⟨_, e0, st0, t0, he0, hl0, hc0⟩ := chk_of z
      obtain ⟨sl1, st1⟩ := δ1
      simp only at he0
      subst he0
      obtain ⟨S, F, sv, A, t, e1, e2, r1⟩ := s1.rd1 hl0
      cases t0 <;> simp [isDct] at hc0
      obtain ⟨p, kv, G, rfl, g2, _⟩ := r1.dctR e2
      refine ⟨p, rfl, .inl ⟨kv, g2⟩, he _ σ H1 (.ref p :: vs) _ s1 (post_b (P := fun r => PostF X B Ψ (r.bind eDget) σ vs Q) (k := fb) h1 (fun _ _ h => h) (fun h => h) fun δ2 h2 w H2 s2 => hf _ σ H2 (w :: .ref p :: vs) _ s2 (post_b (P := fun r => PostF X B Ψ r σ vs Q) h2 (fun _ _ h => h) (fun h => h) fun δ3 h3 u H3 s3 => ?_))⟩
      obtain ⟨sl3, st3⟩ := δ3
      unfold eDget at h3
      split at h3
      · rename_i fv n ex st' e
        have e' : st3 = .own fv :: .own (.int n) :: ex :: st' := e
        subst e'
        split at h3
        · rename_i lk kvs hlk
          obtain ⟨S2, F2, sv2, t2⟩ := id s3
          obtain ⟨A2, q1, q2⟩ := t2.look_at (m := 1) (e := .own (.int n)) (v := w) rfl rfl rfl
          have ew := lv q2 rfl
          subst ew
          obtain ⟨A3, q3, q4⟩ := t2.look_at (m := 2) (e := ex) (v := .ref p) rfl rfl hlk
          obtain ⟨p', kv', G', w1, w2, _, w4, w5, w6, w7⟩ := q4.dctR (q3.trans t2.exF)
          cases w1
          refine ⟨_, dget_of w2 n, ?_⟩
          rcases dct_get w4 w5 w6 n with ⟨y1, y2⟩ | ⟨uu, xx, A4, y1, y2, y3, y4⟩
          · rw [y2]
            simp only [y1] at h3
            refine h3 _ _ ?_
            obtain ⟨Fa, ta, eFa, Aa, ka, ra⟩ := t2.pop
            obtain ⟨Fb, tb, eFb, _⟩ := ta.pop
            obtain ⟨Fc, tc, eFc, _⟩ := tb.pop
            have ek := ka.e
            subst ek
            exact ⟨S2, _, sv2, tc.push ra (ka.d.exr (eFc.trans eFb)) t2.dj.l (Ex.l.trans t2.exF) fun b o h1 h2 => Ex.l.free (t2.bF b o h1 h2).2⟩
          · rw [y2]
            simp only [y1] at h3
            have hk : ∀ S A u, Ex S H3 → Ex A H3 → RepT (kc X.K B) S A (.dct lk kvs) (.ref p) → T.kid (.dct lk kvs) (.key n) = some u → ∃ A', Ex A' A ∧ RepT (kc X.K B) S A' u xx := fun S A u e1 e2 r hu => by
              obtain ⟨a', kv2, G2, p1, p2, _, p4, p5, p6, p7⟩ := r.dctR e2
              cases p1
              have : kv2 = kv' := by
                rcases p2 with p2 | ⟨o1, p2⟩ <;> rcases w2 with h2 | ⟨o2, h2⟩ <;> rw [p2] at h2 <;> cases h2 <;> rfl
              subst this
              rcases dct_get p4 p5 p6 n with ⟨g1, _⟩ | ⟨u', z', A', g1, g2, g3, g4⟩
              · have hu' : gGet kvs n = some u := hu
                rw [g1] at hu'; cases hu'
              · have hu' : gGet kvs n = some u := hu
                rw [g1] at hu'; cases hu'
                rw [y2] at g2; cases g2
                exact ⟨A', g3.trans p7, g4⟩
            rcases w2 with w2 | ⟨o2, w2⟩
            · exact kid_of (o := .dK kv') (sp := .key n) rfl s3.pop.pop hlk rfl w2 y2 hk h3
            · exact kid_of (o := .frz o2 (.dK kv')) (sp := .key n) rfl s3.pop.pop hlk rfl w2 y2 hk h3
        · exact h3.elim
      · exact h3.elim
    · rw [z] at h1; exact h1.elim))
theorem dct_drop {K : Kc} {S : Hp} {kvs : List (Int × T)} {kv : List (Key × V)} {n : Int} {u : T} (hk : kv.map (·.1) = (kvs.map (·.1)).map Sum.inl) (hn : (kvs.map (·.1)).Nodup) (h : gGet kvs n = some u) : (gDrop kv (Sum.inl n)).map (·.1) = ((gDrop kvs n).map (·.1)).map Sum.inl ∧ ∀ F, RepTs K S F (kvs.map (·.2)) (kv.map (·.2)) → ∃ F2, RepTs K S F2 ((gDrop kvs n).map (·.2)) ((gDrop kv (Sum.inl n)).map (·.2)) ∧ Ex F2 F := by
  obtain ⟨j, hj⟩ := gGet_at h
  obtain ⟨w1, w2⟩ := map_at hj
  have nk : (kv.map (·.1)).Nodup := by rw [hk]; exact inl_nodup hn
  have hjl : j < kv.length := by
    have := (List.getElem?_eq_some_iff.mp hj).1
    rw [dct_len hk]; exact this
  have hkj : kv[j]? = some (Sum.inl n, kv[j].2) := by
    refine pair_at (by rw [hk, List.getElem?_map, w2]; rfl) (by rw [List.getElem?_map, List.getElem?_eq_getElem hjl]; rfl)
  rw [gDrop_erase hn hj, gDrop_erase nk hkj]
  have me : ∀ {α β : Type} (f : α → β) (l : List α) (j : Nat), (l.eraseIdx j).map f = (l.map f).eraseIdx j := fun f l j => by
    induction l generalizing j with
    | nil => rfl
    | cons x l ih => cases j with
      | zero => rfl
      | succ j => simp [ih]
  refine ⟨by rw [me, me, me, hk], fun F r => ?_⟩
  rw [me, me]
  exact RepTs.erase j r
/-- d.pop(k) -/
theorem ev_dpop {ee : Expr} (ho : EvF X B Ψ o fo) (he : EvF X B Ψ ee fa) (m : M1 X o "pop" apos ee pos) : EvF X B Ψ (.Call (.Attribute o "pop" apos) [ee] [] pos) (eMeth isDct fo fa eDpop) := fun δ σ H vs Q s q =>
  (pe_dpop1 (pE o) (pE ee) m).tov (ho δ σ H vs _ s (post_b (P := fun r => PostF X B Ψ ((r.bind fa).bind eDpop) σ vs Q) (k := chk isDct) q (fun _ _ h => h) (fun h => h) fun δ1 h1 v H1 s1 => by
    rcases chk_no (cf := isDct) (δ := δ1) with z | z
    · rw [z] at h1
      obtain ⟨_, e0, st0, t0, he0, hl0, hc0⟩ := chk_of z
      obtain ⟨sl1, st1⟩ := δ1
      simp only at he0
      subst he0
      obtain ⟨S, F, sv, A, t, e1, e2, r1⟩ := s1.rd1 hl0
      cases t0 <;> simp [isDct] at hc0
      obtain ⟨p, kv, G, rfl, g2, _⟩ := r1.dctR e2
      refine ⟨p, rfl, .inl ⟨kv, g2⟩, he _ σ H1 (.ref p :: vs) _ s1 (post_b (P := fun r => PostF X B Ψ r σ vs Q) h1 (fun _ _ h => h) (fun h => h) fun δ2 h2 w H2 s2 => ?_)⟩
      obtain ⟨sl3, st3⟩ := δ2
      unfold eDpop at h2
      split at h2
      · rename_i n i pth st' e
        have e' : st3 = .own (.int n) :: .al i pth :: st' := e
        subst e'
        split at h2
        · rename_i kvs hlk
          split at h2
          · rename_i u hu
            split at h2
            · rename_i hf
              obtain ⟨r0, hr1, hr2⟩ := look_al hlk
              obtain ⟨S2, F2, sv2, t2⟩ := id s2
              obtain ⟨A2, q1, q2⟩ := t2.look_at (m := 0) (e := .own (.int n)) (v := w) rfl rfl rfl
              have ew := lv q2 rfl
              subst ew
              obtain ⟨a0, kv', b1, b2, b3, b4, ⟨G5, b5⟩, b6⟩ := Sta.mutD (es := [.own (.int n)]) (xs := [.int n]) (kvs' := gDrop kvs n) t2 rfl hr1 hr2 hf
              cases b1
              rcases dct_get b3 b4 b5 n with ⟨y1, y2⟩ | ⟨uu, xx, A4, y1, y2, y3, y4⟩
              · rw [hu] at y1; cases y1
              · rw [hu] at y1; cases y1
                refine ⟨kv', Sum.inl n, xx, b2, rfl, y2, ?_⟩
                obtain ⟨d1, d2⟩ := dct_drop (K := kc X.K B) (S := S2) b3 b4 hu
                obtain ⟨F', t'⟩ := b6 (gDrop kv' (Sum.inl n)) d1 (gDrop_nodup b4) fun F E r1 r2 d => by
                  obtain ⟨F2, w1, w2⟩ := d2 F r1
                  exact ⟨F2, w1, fun b w h => .inl (w2 b w h)⟩
                rw [putAt_eq hr1] at h2
                refine h2 _ _ ⟨S2, F', sv2, t'.pushD ?_⟩
                by_cases hd : u.data = true
                · rw [if_pos hd]
                  have := y4.datas_nil hd
                  subst this
                  exact y4
                · rw [if_neg hd]; exact .gone
            · exact h2.elim
          · exact h2.elim
        · exact h2.elim
      · exact h2.elim
    · rw [z] at h1; exact h1.elim))
/-- the top made data, or taken out of its slot -/
theorem ev_frz (h : EvF X B Ψ e f) : EvF X B Ψ e (eThen f eFrz) := fun δ σ H vs Q s q => h δ σ H vs Q s (post_b (P := fun r => PostF X B Ψ r σ vs Q) q (fun _ _ h => h) (fun h => h) fun δ1 h1 v H1 s1 => by
  cases z : eFrz δ1 with
  | no => rw [z] at h1; exact h1.elim
  | ex C sl =>
    exfalso
    unfold eFrz at z
    split at z
    · split at z <;> cases z
    · split at z
      · split at z
        · split at z <;> cases z
        · cases z
      · cases z
    · cases z
  | ok δ2 => rw [z] at h1; exact h1 v H1 (frz_of s1 z))
theorem ev_mov (h : EvF X B Ψ e f) : EvF X B Ψ e (eThen f eMov) := fun δ σ H vs Q s q => h δ σ H vs Q s (post_b (P := fun r => PostF X B Ψ r σ vs Q) q (fun _ _ h => h) (fun h => h) fun δ1 h1 v H1 s1 => by
  cases z : eMov δ1 with
  | no => rw [z] at h1; exact h1.elim
  | ex C sl =>
    exfalso
    unfold eMov at z
    split at z
    · split at z
      · split at z <;> cases z
      · cases z
    · cases z
    · cases z
  | ok δ2 => rw [z] at h1; exact h1 v H1 (mov_of s1 z))
end
end Vt

/-! Statements, loops. -/
namespace Vt
open PySem PySem.Spec PyProof.Rows L2

/-! ### the words -/
def Res.toS (r : Res) (f : En → SR) : SR := match r with
  | .ok δ => f δ
  | .ex C sl => .ex C sl
  | .no => .no
def RB.toS (r : RB) (f : Bool → En → SR) : SR := match r with
  | .ok b δ => f b δ
  | .ex C sl => .ex C sl
  | .no => .no
def SR.then (r : SR) (f : En → SR) : SR := match r with
  | .nx δ => f δ
  | r => r
def optS (o : Option En) : SR := match o with
  | some δ => .nx δ
  | none => .no
def sNil : SF := fun δ => .nx δ
def sSeq (f g : SF) : SF := fun δ => (f δ).then g
/-- the top goes into slot i -/
def gSlot (i : Nat) : En → Option En := fun δ => match δ.st with
  | e :: st => if δ.noal i && decide (i < δ.sl.length) then some ⟨δ.sl.set i e, st⟩ else none
  | [] => none
def sSet (i : Nat) (fe : EF) : SF := fun δ => (fe δ).toS fun δ1 => optS (gSlot i δ1)
def sSub (fv fo fi : EF) : SF := fun δ => (((fv δ).bind fo).bind fi).toS fun δ1 => optS (sPut δ1)
def sAttr (C : Nat) (f : Str) (fv fo : EF) : SF := fun δ => ((fv δ).bind fo).toS fun δ1 => optS (sFld C f δ1)
def sExpr (fe : EF) : SF := fun δ => (fe δ).toS fun δ1 => match δ1.st with
  | _ :: st => .nx ⟨δ1.sl, st⟩
  | [] => .no
def sRet (fe : EF) : SF := fun δ => (fe δ).toS fun δ1 => match δ1.st with
  | .own _ :: _ => .rt δ1
  | _ => .no
def sRetN : SF := fun δ => .rt ⟨δ.sl, .own .non :: δ.st⟩
def sIf (c : BF) (a b : SF) : SF := fun δ => (c δ).toS fun k δ1 => if k = true then a δ1 else b δ1
def sBreak : SF := fun δ => .bk δ
def sCont : SF := fun δ => .ct δ
def sRaise (C : Nat) : SF := fun δ => .ex C δ.sl
/-- the kids of what a loop walks -/
def kL : T → Option (List T)
  | .lst _ ts => some ts
  | _ => none
def kT : T → Option (List T)
  | .tup ts => some ts
  | _ => none
/-- the item j of e comes on top -/
def itemE (kd : T → Option (List T)) (e : Ent) (j : Nat) (δ : En) : Option En := match look δ.sl e with
  | some t => match kd t with
    | some ts => match ts[j]? with
      | some u => if u.data = true then some ⟨δ.sl, .own u :: δ.st⟩ else match t.step (.ix j) with
        | some _ => match e with
          | .al i p => some ⟨δ.sl, .al i (p ++ [.ix j]) :: δ.st⟩
          | _ => none
        | none => none
      | none => none
    | none => none
  | none => none
def item (kd : T → Option (List T)) (j : Nat) (δ : En) : Option En := match δ.st with
  | e :: _ => itemE kd e j δ
  | [] => none
/-- how many items e has -/
def manyE (kd : T → Option (List T)) (e : Ent) (sl : List Ent) : Option Nat := match look sl e with
  | some t => (kd t).map List.length
  | none => none
def many (kd : T → Option (List T)) (δ : En) : Option Nat := match δ.st with
  | e :: _ => manyE kd e δ.sl
  | [] => none
/-- the one below the top is let go -/
def rt2 (δ : En) : En := match δ.st with
  | e :: _ :: st => ⟨δ.sl, e :: st⟩
  | _ => δ
/-- what is left of a loop: k turns of n -/
def forGo (kd : T → Option (List T)) (n : Nat) (g : En → Option En) (body : SF) : Nat → SF
  | 0, δ => if many kd δ = some n then .nx ⟨δ.sl, δ.st.tail⟩ else .no
  | k + 1, δ => match item kd (n - (k + 1)) δ with
    | none => .no
    | some δ1 => match g δ1 with
      | none => .no
      | some δ2 => match body δ2 with
        | .nx δ3 => forGo kd n g body k δ3
        | .ct δ3 => forGo kd n g body k δ3
        | .bk δ3 => .nx ⟨δ3.sl, δ3.st.tail⟩
        | .rt δ3 => .rt (rt2 δ3)
        | .ex C sl => .ex C sl
        | .no => .no
def sFor (kd : T → Option (List T)) (fe : EF) (g : En → Option En) (body : SF) : SF := fun δ => (fe δ).toS fun δ1 => match many kd δ1 with
  | some n => forGo kd n g body n δ1
  | none => .no
/-- counted turns: lo, lo + 1, .. -/
def rngGo (lo : Int) (n : Nat) (g : En → Option En) (body : SF) : Nat → SF
  | 0, δ => .nx δ
  | k + 1, δ => match g ⟨δ.sl, .own (.int (lo + (n - (k + 1) : Nat))) :: δ.st⟩ with
    | none => .no
    | some δ2 => match body δ2 with
      | .nx δ3 => rngGo lo n g body k δ3
      | .ct δ3 => rngGo lo n g body k δ3
      | .bk δ3 => .nx δ3
      | .rt δ3 => .rt δ3
      | .ex C sl => .ex C sl
      | .no => .no
def popI (δ : En) : Option (Int × En) := match δ.st with
  | .own (.int i) :: st => some (i, ⟨δ.sl, st⟩)
  | _ => none
/-- what range takes -/
def In62 (i : Int) : Prop := -(2 ^ 62) ≤ i ∧ i < 2 ^ 62
def in62 : Int → Bool
  | .ofNat n => Nat.ble n 4611686018427387903
  | .negSucc n => Nat.ble n 4611686018427387903
theorem in62_iff : ∀ {i : Int}, in62 i = true ↔ In62 i
  | .ofNat n => by
    show Nat.ble n 4611686018427387903 = true ↔ _
    rw [Nat.ble_eq]
    unfold In62
    rw [Int.ofNat_eq_natCast]
    omega
  | .negSucc n => by
    show Nat.ble n 4611686018427387903 = true ↔ _
    rw [Nat.ble_eq]
    unfold In62
    omega
instance {i : Int} : Decidable (In62 i) := decidable_of_iff _ in62_iff
def sFor1 (fe : EF) (g : En → Option En) (body : SF) : SF := fun δ => (fe δ).toS fun δ1 => match popI δ1 with
  | some (j, δ2) => if In62 j then rngGo 0 j.toNat g body j.toNat δ2 else .no
  | none => .no
def sFor2 (fa fb : EF) (g : En → Option En) (body : SF) : SF := fun δ => ((fa δ).bind fb).toS fun δ1 => match popI δ1 with
  | some (j, δ2) => match popI δ2 with
    | some (i, δ3) => if In62 i ∧ In62 j then rngGo i (j - i).toNat g body (j - i).toNat δ3 else .no
    | none => .no
  | none => .no
/-- while: at most n turns -/
def whGo (c : BF) (body : SF) : Nat → SF
  | 0, _ => .no
  | n + 1, δ => match c δ with
    | .no => .no
    | .ex C sl => .ex C sl
    | .ok false δ1 => .nx δ1
    | .ok true δ1 => match body δ1 with
      | .nx δ2 => whGo c body n δ2
      | .ct δ2 => whGo c body n δ2
      | .bk δ2 => .nx δ2
      | .rt δ2 => .rt δ2
      | .ex C sl => .ex C sl
      | .no => .no
open Classical in
noncomputable def sWhile (c : BF) (body : SF) : SF := fun δ => if h : ∃ n, whGo c body n δ ≠ .no then whGo c body (choose h) δ else .no
theorem whGo_mono {c : BF} {body : SF} : ∀ {n m : Nat} {δ : En}, n ≤ m → whGo c body n δ ≠ .no → whGo c body m δ = whGo c body n δ
  | 0, _, _, _, h => absurd rfl h
  | n + 1, 0, _, hle, _ => absurd hle (Nat.not_succ_le_zero n)
  | n + 1, m + 1, δ, hle, h => by
    unfold whGo at h ⊢
    cases z : c δ with
    | no => rfl
    | ex C sl => rfl
    | ok b δ1 =>
      simp only [z] at h ⊢
      cases b with
      | false => rfl
      | true =>
        simp only at h ⊢
        cases z2 : body δ1 with
        | nx δ2 => simp only [z2] at h ⊢; exact whGo_mono (Nat.le_of_succ_le_succ hle) h
        | ct δ2 => simp only [z2] at h ⊢; exact whGo_mono (Nat.le_of_succ_le_succ hle) h
        | bk δ2 => rfl
        | rt δ2 => rfl
        | ex C sl => rfl
        | no => rfl
theorem sWhile_eq {c : BF} {body : SF} {δ : En} {n : Nat} {r : SR} (h : whGo c body n δ = r) (hr : r ≠ .no) : sWhile c body δ = r := by
  have ex : ∃ n, whGo c body n δ ≠ .no := ⟨n, by rw [h]; exact hr⟩
  unfold sWhile
  rw [dif_pos ex]
  have h1 := Classical.choose_spec ex
  rcases Nat.le_total n (Classical.choose ex) with q | q
  · rw [whGo_mono q (by rw [h]; exact hr), h]
  · rw [← h]; exact (whGo_mono q h1).symm
section
variable {X : Cx} {B : Base} {Ψ : XF} {W : WX} {k n : Nat} {a b c e o : Expr} {es : List Expr} {st : Stmt} {rest body sts sa sb : List Stmt} {pos : Pos} {f g h fa fb fc fo fe fv fi : EF} {σ : L2.St} {H : Hp} {vs : List V} {v : V} {p : BF} {s1 s2 : SF} {Dn : Ends} {G : En → Option En}
theorem lift_res {vs' : List V} {r : Res} {kf : En → SR} (h : LiftE X B Ψ (r.toS kf) vs Dn) {Q : VK} (hk : ∀ δ1, LiftE X B Ψ (kf δ1) vs Dn → ∀ v H', StT X.K B δ1 σ H' (v :: vs') → Q v H') : PostF X B Ψ r σ vs' Q := by
  cases r with
  | ok δ1 => exact hk δ1 h
  | ex C sl => exact h.ex C sl rfl
  | no => exact absurd rfl h.no
theorem lift_ne {vs' : List V} {r : SR} (h : LiftE X B Ψ r vs Dn) {δ δ' : En} (e : r = .nx δ) : True := trivial
theorem LiftE.mono {Dn' : Ends} {r : SR} (h : LiftE X B Ψ r vs Dn) (h1 : ∀ σ H, Dn.nx σ H → Dn'.nx σ H) (h2 : ∀ v H, Dn.rt v H → Dn'.rt v H) (h3 : ∀ σ H, Dn.bk σ H → Dn'.bk σ H) (h4 : ∀ σ H, Dn.ct σ H → Dn'.ct σ H) : LiftE X B Ψ r vs Dn' :=
  ⟨fun δ σ H e s => h1 _ _ (h.nx δ σ H e s), fun δ σ v H e s => h2 _ _ (h.rt δ σ v H e s), fun δ σ H e s => h3 _ _ (h.bk δ σ H e s), fun δ σ H e s => h4 _ _ (h.ct δ σ H e s), h.ex, h.no⟩
theorem lift_nx {δ : En} (h : ∀ σ H, StT X.K B δ σ H vs → Dn.nx σ H) : LiftE X B Ψ (.nx δ) vs Dn :=
  ⟨(fun δ' σ H e s => by cases e; exact h σ H s), (fun _ _ _ _ e _ => nomatch e), (fun _ _ _ e _ => nomatch e), (fun _ _ _ e _ => nomatch e), (fun _ _ e => nomatch e), (fun e => nomatch e)⟩
/-! ### blocks -/
theorem sts_nil : StFs X B Ψ [] sNil := fun δ σ H vs Dn s l => pss_nil.tov (l.nx δ σ H rfl s)
theorem sts_cons (h1 : StF X B Ψ st s1) (h2 : StFs X B Ψ rest s2) : StFs X B Ψ (st :: rest) (sSeq s1 s2) := fun δ σ H vs Dn s l =>
  (pss_cons (pS st) (pSs rest)).tov (h1 δ σ H vs _ s (by
    have l' : LiftE X B Ψ ((s1 δ).then s2) vs Dn := l
    cases z : s1 δ with
    | nx δ1 =>
      rw [z] at l'
      exact lift_nx fun σ H s => h2 δ1 σ H vs Dn s l'
    | rt δ1 => rw [z] at l'; exact ⟨(fun _ _ _ e _ => nomatch e), l'.rt, l'.bk, l'.ct, l'.ex, l'.no⟩
    | bk δ1 => rw [z] at l'; exact ⟨(fun _ _ _ e _ => nomatch e), l'.rt, l'.bk, l'.ct, l'.ex, l'.no⟩
    | ct δ1 => rw [z] at l'; exact ⟨(fun _ _ _ e _ => nomatch e), l'.rt, l'.bk, l'.ct, l'.ex, l'.no⟩
    | ex C sl => rw [z] at l'; exact ⟨(fun _ _ _ e _ => nomatch e), l'.rt, l'.bk, l'.ct, l'.ex, l'.no⟩
    | no => rw [z] at l'; exact absurd rfl l'.no))
theorem sts_one (h1 : StF X B Ψ st s1) : StFs X B Ψ [st] s1 := fun δ σ H vs Dn s l => (pss_one (pS st)).tov (h1 δ σ H vs Dn s l)
/-! ### small statements -/
theorem slot_of {i : Nat} {δ δ' : En} (s : StT X.K B δ σ H (v :: vs)) (h : gSlot i δ = some δ') (hp : B.pin i = none) : StT X.K B δ' (σ.set i (some v)) H vs := by
  obtain ⟨sl, st⟩ := δ
  unfold gSlot at h
  split at h
  · rename_i e st' he
    have e' : st = e :: st' := he
    subst e'
    split at h
    · rename_i hc
      rw [Bool.and_eq_true, decide_eq_true_eq] at hc
      cases h
      exact s.setS hc.1 hc.2 hp
    · cases h
  · cases h
theorem st_set {i : Nat} {x : Str} {pos' : Pos} (c : CxOk X B W Ψ k) (hi : X.N[i]? = some x) (hx : Loc X.env.scope x) (he : EvF X B Ψ e fe) (hs : swapsWith e (some (.Name x pos')) pos.line X.env = pure false) (hf : X.fn x = true ∨ X.env.scope.names.lookup x = some .local) (hp : B.pin i = none) : StF X B Ψ (.Assign [.Name x pos'] e pos) (sSet i fe) := fun δ σ H vs Dn s l =>
  (ps_set c.nd hi hx (pE e) hs hf).tov (he δ σ H vs _ s (lift_res l fun δ1 l1 v H1 s1 => by
    cases z : gSlot i δ1 with
    | none => rw [z] at l1; exact absurd rfl l1.no
    | some δ2 => rw [z] at l1; exact l1.nx δ2 _ H1 rfl (slot_of s1 z hp)))
theorem st_expr (he : EvF X B Ψ e fe) (hs : swapsWith e none pos.line X.env = pure false) : StF X B Ψ (.Expr e pos) (sExpr fe) := fun δ σ H vs Dn s l =>
  (ps_expr (pE e) hs).tov (he δ σ H vs _ s (lift_res l fun δ1 l1 v H1 s1 => by
    obtain ⟨sl, st⟩ := δ1
    cases st with
    | nil => exact absurd rfl l1.no
    | cons e st => exact l1.nx _ _ H1 rfl s1.pop))
theorem st_doc {x j pos'} : StF X B Ψ (.Expr (.Constant (.str x) j pos) pos') sNil := fun δ σ H vs Dn s l => ps_doc.tov (l.nx δ σ H rfl s)
theorem st_pass : StF X B Ψ (.Pass pos) sNil := fun δ σ H vs Dn s l => ps_pass.tov (l.nx δ σ H rfl s)
theorem st_break : StF X B Ψ (.Break pos) sBreak := fun δ σ H vs Dn s l => ps_break.tov (l.bk δ σ H rfl s)
theorem st_cont : StF X B Ψ (.Continue pos) sCont := fun δ σ H vs Dn s l => ps_continue.tov (l.ct δ σ H rfl s)
theorem st_ret (he : EvF X B Ψ e fe) : StF X B Ψ (.Return (some e) pos) (sRet fe) := fun δ σ H vs Dn s l =>
  (ps_ret (pE e)).tov (he δ σ H vs _ s (lift_res l fun δ1 l1 v H1 s1 => by
    obtain ⟨sl, st⟩ := δ1
    cases st with
    | nil => exact absurd rfl l1.no
    | cons e st =>
      cases e with
      | own t => exact l1.rt _ σ v H1 rfl s1
      | emp => exact absurd rfl l1.no
      | al _ _ => exact absurd rfl l1.no))
theorem st_retN : StF X B Ψ (.Return none pos) sRetN := fun δ σ H vs Dn s l => ps_retN.tov (l.rt _ σ .non H rfl (by
  obtain ⟨sl, st⟩ := δ
  exact StT.pushL s rfl))
theorem lift_rb {r : RB} {kf : Bool → En → SR} (h : LiftE X B Ψ (r.toS kf) vs Dn) {Q : Bool → Hp → Prop} (hk : ∀ b δ1, LiftE X B Ψ (kf b δ1) vs Dn → ∀ H', StT X.K B δ1 σ H' vs → Q b H') : PostB X B Ψ r σ vs Q := by
  cases r with
  | ok b δ1 => exact hk b δ1 h
  | ex C sl => exact h.ex C sl rfl
  | no => exact absurd rfl h.no
theorem st_if (hc : TsF X B Ψ c p) (h1 : StFs X B Ψ sa s1) (h2 : StFs X B Ψ sb s2) : StF X B Ψ (.If c sa sb pos) (sIf p s1 s2) := fun δ σ H vs Dn s l =>
  (ps_if (pT c) (pSs sa) (pSs sb)).tov (hc δ σ H vs _ s (lift_rb l fun k δ1 l1 H1 u1 => by
    cases k with
    | true => exact h1 δ1 σ H1 vs Dn u1 l1
    | false => exact h2 δ1 σ H1 vs Dn u1 l1))
/-- o[i] = v -/
theorem pset_dict (hu : X.A.units + 1 < cLine) : PSet X (fun o i v H Q => ∃ a H', o = .ref a ∧ DPut H a i v H' ∧ Q H') := fun pins s σ H o i v ov iv u Q I r1 r2 r3 h => by
  obtain ⟨a, H', rfl, g, q⟩ := h
  cases r1
  exact d_setItem hu I g r2 r3 fun s' I' => ⟨H', I', q⟩
theorem dct_put {K : Kc} {S F E : Hp} {kvs : List (Int × T)} {kv : List (Key × V)} {n : Int} {t : T} {v : V} (hk : kv.map (·.1) = (kvs.map (·.1)).map Sum.inl) (hn : (kvs.map (·.1)).Nodup) : (putK kv (Sum.inl n) v).map (·.1) = ((gPut kvs n t).map (·.1)).map Sum.inl ∧
    (RepTs K S F (kvs.map (·.2)) (kv.map (·.2)) → RepTs K S E [t] [v] → Dj F E → ∃ F2, RepTs K S F2 ((gPut kvs n t).map (·.2)) ((putK kv (Sum.inl n) v).map (·.2)) ∧ ∀ b w, F2 b = some w → F b = some w ∨ E b = some w) := by
  have ep : putK kv (Sum.inl n) v = gPut kv (Sum.inl n) v := rfl
  rw [ep]
  have nk : (kv.map (·.1)).Nodup := by rw [hk]; exact inl_nodup hn
  have mem : (Sum.inl n : Key) ∈ kv.map (·.1) ↔ n ∈ kvs.map (·.1) := by
    rw [hk, List.mem_map]
    exact ⟨fun ⟨a, h1, h2⟩ => by cases h2; exact h1, fun h => ⟨n, h, rfl⟩⟩
  refine ⟨?_, fun r q d => ?_⟩
  · rw [gPut_keys, gPut_keys]
    by_cases z : n ∈ kvs.map (·.1)
    · rw [if_pos z, if_pos (mem.mpr z), hk]
    · rw [if_neg z, if_neg (fun y => z (mem.mp y)), hk, List.map_append]; rfl
  · by_cases z : n ∈ kvs.map (·.1)
    · obtain ⟨u, hu⟩ : ∃ u, gGet kvs n = some u := by
        cases e : gGet kvs n with
        | none => exact absurd z (gGet_none.mp e)
        | some u => exact ⟨u, rfl⟩
      obtain ⟨j, hj⟩ := gGet_at hu
      obtain ⟨w1, w2⟩ := map_at hj
      have hjl : j < kv.length := by rw [dct_len hk]; exact (List.getElem?_eq_some_iff.mp hj).1
      have hkj : kv[j]? = some (Sum.inl n, kv[j].2) := pair_at (by rw [hk, List.getElem?_map, w2]; rfl) (by rw [List.getElem?_map, List.getElem?_eq_getElem hjl]; rfl)
      rw [gPut_set hn hj, gPut_set nk hkj, (map_snd_set hj).1, (map_snd_set hkj).1]
      exact kids_set r w1 q d
    · rw [gPut_new z, gPut_new (fun y => z (mem.mp y)), List.map_append, List.map_append]
      exact kids_app r q d
theorem sput_do (c : CxOk X B W Ψ k) {δ δ' : En} {x y z : V} {Q : Hp → Prop} (s : StT X.K B δ σ H (y :: x :: z :: vs)) (h : sPut δ = some δ') (q : ∀ H', StT X.K B δ' σ H' vs → Q H') : tRS X x y z H Q := by
  obtain ⟨sl, st⟩ := δ
  unfold sPut at h
  split at h
  · rename_i n i p t st' e
    have e' : st = .own (.int n) :: .al i p :: .own t :: st' := e
    subst e'
    obtain ⟨S, F, sv, t0⟩ := s
    obtain ⟨_, _, rb⟩ := t0.look_at (m := 0) (e := .own (.int n)) (v := y) rfl rfl rfl
    have ey := lv rb rfl
    subst ey
    obtain ⟨F1, t1, _⟩ := t0.pop
    have t2 := t1.swap
    split at h
    · rename_i ts hlk
      obtain ⟨r0, h1, h2⟩ := look_al hlk
      split at h
      · rename_i j hj
        split at h
        · rename_i hf
          cases h
          obtain ⟨a, zs, rfl, g2, g3, _, g5⟩ := Sta.mutL (es := [.own t]) (xs := [z]) (ts' := ts.set j t) t2 rfl h1 h2 hf
          have hjl : j < ts.length := (ixN_seq hj).2.1
          obtain ⟨F', t'⟩ := g5 (zs.set j z) fun F E r1 r2 d => kids_set r1 (List.getElem?_eq_getElem hjl) r2 d
          intro pins sh σ' ov iv u I r1 r2 r3
          rw [putAt_eq h1] at q
          exact set_list pins sh σ' H _ _ z ov iv u _ I r1 r2 r3 ⟨a, zs, n, j, rfl, rfl, g2, by rw [← g3]; exact hj, q _ ⟨S, F', sv, t'⟩⟩
        · cases h
      · cases h
    · rename_i kvs hlk
      obtain ⟨r0, h1, h2⟩ := look_al hlk
      split at h
      · rename_i hf
        rw [Bool.and_eq_true, decide_eq_true_eq] at hf
        cases h
        obtain ⟨a, kv, rfl, g2, g3, g4, _, g6⟩ := Sta.mutD (es := [.own t]) (xs := [z]) (kvs' := gPut kvs n t) t2 rfl h1 h2 hf.1
        obtain ⟨F', t'⟩ := g6 (putK kv (Sum.inl n) z) (dct_put (K := kc X.K B) (S := S) (F := hnil) (E := hnil) g3 g4).1 (gPut_nodup g4) fun F E r1 r2 d => (dct_put g3 g4).2 r1 r2 d
        intro pins sh σ' ov iv u I r1 r2 r3
        rw [putAt_eq h1] at q
        refine pset_dict (by have := c.room.units; omega) pins sh σ' H _ _ z ov iv u _ I r1 r2 r3 ⟨a, _, rfl, DPut.k (k := Sum.inl n) g2 ?_, q _ ⟨S, F', sv, t'⟩⟩
        rw [dct_len g3]; exact line_lt hf.2
      · cases h
    · cases h
  · cases h
theorem st_sub {o i : Expr} {pos' : Pos} (c : CxOk X B W Ψ k) (he : EvF X B Ψ e fv) (ho : EvF X B Ψ o fo) (hi : EvF X B Ψ i fi) (ha : ∀ v, assign (.Subscript o i pos') X.env v = (do
      let ov ← holding [v] (eval o X.env)
      let iv ← holding [v, ov] (eval i X.env)
      standAt pos'
      holding [v, ov, iv] (setItem ov iv v)
      release [v, ov, iv] [])) (hs : swapsWithSole [.Subscript o i pos'] e pos.line X.env = pure false) (hw : swappedStores [.Subscript o i pos'] e X.env = pure none) (h1 : (assignEach [.Subscript o i pos'] X.env).map (·.2) = [assign (.Subscript o i pos') X.env]) : StF X B Ψ (.Assign [.Subscript o i pos'] e pos) (sSub fv fo fi) := fun δ σ H vs Dn s l =>
  (ps_asg (pE e) (pg_sub (pE o) (pE i) pRS ha) hs hw h1).tov (he δ σ H vs _ s (post_b (P := fun r => LiftE X B Ψ ((r.bind fi).toS fun δ1 => optS (sPut δ1)) vs Dn) (k := fo) l (fun C sl h => h.ex C sl rfl) (fun h => h.no rfl) fun δ1 h1 v H1 u1 => ho δ1 σ H1 _ _ u1 (post_b (P := fun r => LiftE X B Ψ (r.toS fun δ1 => optS (sPut δ1)) vs Dn) (k := fi) h1 (fun C sl h => h.ex C sl rfl) (fun h => h.no rfl) fun δ2 h2 w H2 u2 => hi δ2 σ H2 _ _ u2 (lift_res h2 fun δ3 l3 y H3 u3 => by
    cases z : sPut δ3 with
    | none => rw [z] at l3; exact absurd rfl l3.no
    | some δ4 => rw [z] at l3; exact sput_do c u3 z fun H' s' => l3.nx δ4 σ H' rfl s'))))
theorem putD_keys {f : Str} {t : T} {v : V} : ∀ {fs : List (Str × T)} {fv : List (Str × V)}, fv.map (·.1) = fs.map (·.1) → (putF f v fv).map (·.1) = (putD f t fs).map (·.1)
  | [], [], _ => rfl
  | (g, x) :: fs, (g', x') :: fv, h => by
    rw [List.map_cons, List.map_cons] at h
    injection h with h1 h2
    have h1' : g' = g := h1
    subst h1'
    unfold putD putF
    by_cases z : g' = f
    · rw [if_pos z, if_pos z, List.map_cons, List.map_cons, h2]
    · rw [if_neg z, if_neg z, List.map_cons, List.map_cons, putD_keys h2]
  | [], _ :: _, h => nomatch h
  | _ :: _, [], h => nomatch h
theorem fld_put {K : Kc} {S : Hp} {f : Str} {t : T} {v : V} : ∀ {fs : List (Str × T)} {fv : List (Str × V)} {F E : Hp}, fv.map (·.1) = fs.map (·.1) → RepTs K S F (fs.map (·.2)) (fv.map (·.2)) → RepTs K S E [t] [v] → Dj F E → ∃ F2, RepTs K S F2 ((putD f t fs).map (·.2)) ((putF f v fv).map (·.2)) ∧ ∀ b w, F2 b = some w → F b = some w ∨ E b = some w
  | [], [], F, E, _, r, q, d => ⟨E, q, fun b w h => .inr h⟩
  | (g, x) :: fs, (g', x') :: fv, F, E, h, r, q, d => by
    rw [List.map_cons, List.map_cons] at h
    injection h with h1 h2
    have h1' : g' = g := h1
    subst h1'
    unfold putD putF
    by_cases z : g' = f
    · rw [if_pos z, if_pos z]
      exact kids_set (j := 0) (u := x) r rfl q d
    · rw [if_neg z, if_neg z]
      cases r with
      | cons dd hx r =>
        obtain ⟨F2, w1, w2⟩ := fld_put (f := f) h2 r q d.r
        refine ⟨_, .cons (fun b hb => ?_) hx w1, fun b w hb => ?_⟩
        · cases y : F2 b with
          | none => rfl
          | some w =>
            rcases w2 b w y with z | z
            · rw [dd b hb] at z; cases z
            · rw [d.l b hb] at z; cases z
        · rcases join_cases hb with z | ⟨_, z⟩
          · exact .inl (join_l z)
          · exact (w2 b w z).imp (fun z => Ex.r dd _ _ z) id
  | [], _ :: _, _, _, h, _, _, _ => nomatch h
  | _ :: _, [], _, _, h, _, _, _ => nomatch h
/-- o.f = v -/
theorem st_attr {o : Expr} {fl : Str} {pos' : Pos} {C : Nat} (he : EvF X B Ψ e fv) (ho : EvF X B Ψ o fo) (hc : Cls X.K (B.cm C)) (hn : NoAttr X.K (B.cm C) fl) (hs : swapsWith e (some (.Attribute o fl pos')) pos.line X.env = pure false) : StF X B Ψ (.Assign [.Attribute o fl pos'] e pos) (sAttr C fl fv fo) := fun δ σ H vs Dn s l =>
  (ps_fld (pE o) (pE e) hs).tov (he δ σ H vs _ s (post_b (P := fun r => LiftE X B Ψ (r.toS fun δ1 => optS (sFld C fl δ1)) vs Dn) (k := fo) l (fun C sl h => h.ex C sl rfl) (fun h => h.no rfl) fun δ1 h1 z H1 u1 => ho δ1 σ H1 _ _ u1 (lift_res h1 fun δ3 l3 y H3 u3 => by
    cases hz : sFld C fl δ3 with
    | none => rw [hz] at l3; exact absurd rfl l3.no
    | some δ4 =>
      rw [hz] at l3
      obtain ⟨sl, st⟩ := δ3
      unfold sFld at hz
      split at hz
      · rename_i i p t st' e
        have e' : st = .al i p :: .own t :: st' := e
        subst e'
        split at hz
        · rename_i C' fs hlk
          split at hz
          · rename_i hC
            subst hC
            obtain ⟨r0, h1, h2⟩ := look_al hlk
            split at hz
            · rename_i hf
              rw [Bool.and_eq_true, decide_eq_true_eq] at hf
              cases hz
              obtain ⟨S, F, sv, t0⟩ := u3
              obtain ⟨a, dx, fvv, rfl, g2, g3, g6⟩ := Sta.mutI (es := [.own t]) (xs := [z]) (fs' := putD fl t fs) t0.swap rfl h1 h2 hf.1
              obtain ⟨F', t'⟩ := g6 (putF fl z fvv) (putD_keys g3) fun F E r1 r2 d => fld_put g3 r1 r2 d
              rw [putAt_eq h1] at l3
              have hl : fvv.length = fs.length := by have := congrArg List.length g3; simpa using this
              exact ⟨a, B.cm C', dx, fvv, rfl, g2, hc, hn, by omega, l3.nx _ σ _ rfl ⟨S, F', sv, t'⟩⟩
            · cases hz
          · cases hz
        · cases hz
      · cases hz)))
end
end Vt

/-! Targets, loops. -/
namespace Vt
open PySem PySem.Spec PyProof.Rows L2

def tG (X : Cx) (tg : Expr) : TG := fun v σ H Q => ∀ (pins : List (Addr × Obj)) (s : Shared) (u : Value), Inv X pins σ H s → RelV v u → wpAny (model X.prog X.w) X.A (assign tg X.env u) (fun _ s' => ∃ σ' H', Inv X pins σ' H' s' ∧ Q σ' H') X.xe s
theorem pG {X : Cx} (tg : Expr) : PG X tg (tG X tg) := ⟨fun pins s σ H v u Q I r h => h pins s u I r⟩
theorem _root_.L2.PG.tov {X : Cx} {tg : Expr} {t : TG} (h : PG X tg t) {v : V} {σ : L2.St} {H : Hp} {Q : L2.St → Hp → Prop} (q : t v σ H Q) : tG X tg v σ H Q := fun pins s u I r => h.run pins s σ H v u Q I r q
def tGs (X : Cx) (ts : List Expr) : TGs := fun vs σ H Q => ∀ (pins : List (Addr × Obj)) (s : Shared) (us : List Value), Inv X pins σ H s → Vals vs us → wpAny (model X.prog X.w) X.A (assignInOrder ((assignEach ts X.env).map (·.2)) us) (fun _ s' => ∃ σ' H', Inv X pins σ' H' s' ∧ Q σ' H') X.xe s
theorem pGs {X : Cx} (ts : List Expr) : PGs X ts (tGs X ts) := ⟨fun pins s σ H vs us Q I r h => h pins s us I r⟩
theorem _root_.L2.PGs.tov {X : Cx} {ts : List Expr} {t : TGs} (h : PGs X ts t) {vs : List V} {σ : L2.St} {H : Hp} {Q : L2.St → Hp → Prop} (q : t vs σ H Q) : tGs X ts vs σ H Q := fun pins s us I r => h.run pins s σ H vs us Q I r q
def TgF (X : Cx) (B : Base) (tg : Expr) (G : En → Option En) : Prop := ∀ δ δ' σ H v vs (Q : L2.St → Hp → Prop), StT X.K B δ σ H (v :: vs) → G δ = some δ' → (∀ σ' H', StT X.K B δ' σ' H' vs → Q σ' H') → tG X tg v σ H Q
def runG : List (En → Option En) → En → Option En
  | [], δ => some δ
  | g :: gs, δ => match g δ with
    | some δ' => runG gs δ'
    | none => none
def TgsF (X : Cx) (B : Base) (ts : List Expr) (gs : List (En → Option En)) : Prop := ts.length = gs.length ∧ ∀ δ δ' σ H xs vs (Q : L2.St → Hp → Prop), xs.length = ts.length → StT X.K B δ σ H (xs ++ vs) → runG gs δ = some δ' → (∀ σ' H', StT X.K B δ' σ' H' vs → Q σ' H') → tGs X ts xs σ H Q
/-- a tuple's parts, the first on top -/
def gTupW (gs : List (En → Option En)) : En → Option En := fun δ => match δ.st with
  | .own (.tup ts) :: st => if datas ts && decide (ts.length = gs.length) then runG gs ⟨δ.sl, ts.map .own ++ st⟩ else none
  | _ => none
section
variable {X : Cx} {B : Base} {Ψ : XF} {W : WX} {k n : Nat} {a b c e o tg iter : Expr} {es : List Expr} {st : Stmt} {rest body sts sa sb : List Stmt} {pos : Pos} {f g h fa fb fc fo fe fv fi : EF} {σ : L2.St} {H : Hp} {vs : List V} {v : V} {p : BF} {s1 s2 : SF} {Dn : Ends} {G : En → Option En} {gs : List (En → Option En)}
theorem tg_name {i : Nat} {x : Str} (c : CxOk X B W Ψ k) (hi : X.N[i]? = some x) (hx : Loc X.env.scope x) (hf : X.fn x = true ∨ X.env.scope.names.lookup x = some .local) (hp : B.pin i = none) : TgF X B (.Name x pos) (gSlot i) := fun δ δ' σ H v vs Q s h q =>
  (pg_name c.nd hi hx hf).tov (q _ _ (slot_of s h hp))
theorem tgs_nil : TgsF X B [] [] := ⟨rfl, fun δ δ' σ H xs vs Q hl s h q => by
  have : xs = [] := List.length_eq_zero_iff.mp hl
  subst this
  cases h
  exact pgs_nil.tov ⟨rfl, q _ _ s⟩⟩
theorem tgs_cons (h1 : TgF X B e G) (h2 : TgsF X B es gs) (hs : (assignEach (e :: es) X.env).map (·.2) = assign e X.env :: (assignEach es X.env).map (·.2)) : TgsF X B (e :: es) (G :: gs) := ⟨by simp [h2.1], fun δ δ' σ H xs vs Q hl s h q => by
  cases xs with
  | nil => cases hl
  | cons y ys =>
    unfold runG at h
    split at h
    · rename_i δ1 hg
      exact (pgs_cons (pG e) (pGs es) hs).tov ⟨y, ys, rfl, h1 δ δ1 σ H y (ys ++ vs) _ s hg fun σ' H' s' => h2.2 δ1 δ' σ' H' ys vs Q (by simpa using hl) s' h q⟩
    · cases h⟩
/-- several pieces of data come on top -/
theorem Sta.pushDs {K : PySem.W.Frag} {sl st : List Ent} {sv : List V} {S F : Hp} : ∀ {ts : List T} {xs : List V}, PD (kc K B) S ts xs → Sta K B ⟨sl, st⟩ σ H vs S F sv → Sta K B ⟨sl, ts.map Ent.own ++ st⟩ σ H (xs ++ vs) S F sv
  | [], [], _, s => s
  | _ :: _, _ :: _, .cons h t, s => (Sta.pushDs t s).pushD h
theorem tg_tup {m : Nat} (c : CxOk X B W Ψ k) (hg : TgsF X B es gs) (hn : (assignEach es X.env).length = es.length) (hst : (assignEach es X.env).findIdx? (·.1) = none) : TgF X B (.Tuple es m pos) (gTupW gs) := fun δ δ' σ H v vs Q s h q => by
  obtain ⟨sl, st⟩ := δ
  unfold gTupW at h
  split at h
  · rename_i ts st' e
    have e' : st = .own (.tup ts) :: st' := e
    subst e'
    split at h
    · rename_i hc
      rw [Bool.and_eq_true, decide_eq_true_eq] at hc
      obtain ⟨S, F, sv, A, t, e1, e2, r1⟩ := s.rd1 (u := .tup ts) rfl
      obtain ⟨a, xs, rfl, h2, h3⟩ := r1.tupR e1
      have hl : xs.length = es.length := by rw [← h3.length, hc.2, hg.1]
      exact (pg_tup c.calm (pGs es) hn hst).tov ⟨a, xs, rfl, SqT.of h2, hl, hg.2 _ δ' σ H xs vs Q hl ⟨S, F, sv, Sta.pushDs (h3.pd hc.1) t⟩ h q⟩
    · cases h
  · cases h
/-- the item comes on top -/
theorem itemE_of {kd : T → Option (List T)} {sl st : List Ent} {e : Ent} {δ' : En} {j m : Nat} {t : T} {ts : List T} {a : Addr} {o : HO} {x : V} (s : StT X.K B ⟨sl, st⟩ σ H vs) (he : st[m]? = some e) (hv : vs[m]? = some (.ref a)) (hl : look sl e = some t) (hk : kd t = some ts) (h : itemE kd e j ⟨sl, st⟩ = some δ') (ho : H a = some o) (hx : stepV o (.ix j) = some x)
    (hr : ∀ S A u, Ex S H → Ex A H → RepT (kc X.K B) S A t (.ref a) → ts[j]? = some u → ∃ A', RepT (kc X.K B) S A' u x) : StT X.K B δ' σ H (x :: vs) := by
  unfold itemE at h
  simp only [hl, hk] at h
  split at h
  · rename_i u hu
    obtain ⟨S, F, sv, tt⟩ := s
    have hm := (List.getElem?_eq_some_iff.mp he).1
    have hmv := (List.getElem?_eq_some_iff.mp hv).1
    have he' : (st ++ sl)[m]? = some e := by rw [List.getElem?_append_left hm]; exact he
    have hv' : (vs ++ sv)[m]? = some (.ref a) := by rw [List.getElem?_append_left hmv]; exact hv
    obtain ⟨A, eA, rA⟩ := tt.look_at he' hv' hl
    obtain ⟨A', rx⟩ := hr S A u tt.exS (eA.trans tt.exF) rA hu
    split at h
    · rename_i hd
      cases h
      have := rx.datas_nil hd
      subst this
      exact ⟨S, F, sv, tt.pushD rx⟩
    · split at h
      · rename_i w hw
        cases e with
        | emp => cases h
        | own _ => cases h
        | al i p =>
          cases h
          obtain ⟨t0, r0, a1, a2, a3, a4⟩ := tt.al m _ (.ref a) he' hv'
          have a1' : sl[i]? = some (.own t0) := a1
          simp only [look, a1'] at hl
          refine ⟨S, F, sv, tt.pushA ⟨t0, r0, a1', ?_, a3, a4.app ⟨a, o, x, rfl, ho, hx, rfl⟩⟩⟩
          have app_at : ∀ {p : List Sp} {t0 : T}, t0.at p = some t → (t0.at (p ++ [.ix j])).isSome = true := by
            intro p
            induction p with
            | nil =>
              intro t0 h
              cases h
              show (t.at [.ix j]).isSome = true
              unfold T.at
              rw [hw]; rfl
            | cons w p ih =>
              intro t0 h
              rw [List.cons_append]
              unfold T.at at h ⊢
              cases hw : t0.step w with
              | none => rw [hw] at h; cases h
              | some y => rw [hw] at h; exact ih h
          exact app_at hl
      · cases h
  · cases h
theorem manyE_of {kd : T → Option (List T)} {e : Ent} {sl : List Ent} {n : Nat} (h : manyE kd e sl = some n) : ∃ t ts, look sl e = some t ∧ kd t = some ts ∧ ts.length = n := by
  unfold manyE at h
  split at h
  · rename_i t ht
    cases z : kd t with
    | none => rw [z] at h; cases h
    | some ts => rw [z] at h; cases h; exact ⟨t, ts, ht, z, rfl⟩
  · cases h
theorem many_of {kd : T → Option (List T)} {δ : En} {n : Nat} (h : many kd δ = some n) : ∃ e st t ts, δ.st = e :: st ∧ look δ.sl e = some t ∧ kd t = some ts ∧ ts.length = n := by
  unfold many at h
  split at h
  · rename_i e st he
    obtain ⟨t, ts, h1, h2, h3⟩ := manyE_of h
    exact ⟨e, st, t, ts, he, h1, h2, h3⟩
  · cases h
theorem itemE_in {kd : T → Option (List T)} {δ δ' : En} {e : Ent} {j : Nat} (h : itemE kd e j δ = some δ') : ∃ t ts u, look δ.sl e = some t ∧ kd t = some ts ∧ ts[j]? = some u := by
  unfold itemE at h
  split at h
  · rename_i t ht
    split at h
    · rename_i ts hts
      split at h
      · rename_i u hu; exact ⟨t, ts, u, ht, hts, hu⟩
      · cases h
    · cases h
  · cases h
theorem lift_turn {n kk : Nat} {kf : Nat → SF} {r : SR} {vs1 : List V} {wrap wr2 : En → En} (l : LiftE X B Ψ (match r with | .nx δ3 => kf kk δ3 | .ct δ3 => kf kk δ3 | .bk δ3 => .nx (wrap δ3) | .rt δ3 => .rt (wr2 δ3) | .ex C sl => .ex C sl | .no => .no) vs Dn) {N : L2.St → Hp → Prop}
    (hN : ∀ δ3 σ H, LiftE X B Ψ (kf kk δ3) vs Dn → StT X.K B δ3 σ H vs1 → N σ H) (hw : ∀ δ3 σ H, StT X.K B δ3 σ H vs1 → StT X.K B (wrap δ3) σ H vs) (hw2 : ∀ δ3 σ v H, StT X.K B δ3 σ H (v :: vs1) → StT X.K B (wr2 δ3) σ H (v :: vs)) : LiftE X B Ψ r vs1 { Dn with nx := N, ct := N, bk := Dn.nx } := by
  cases r with
  | nx δ3 => exact ⟨(fun δ' σ H e s => by cases e; exact hN δ3 σ H l s), (fun _ _ _ _ e _ => nomatch e), (fun _ _ _ e _ => nomatch e), (fun _ _ _ e _ => nomatch e), (fun _ _ e => nomatch e), (fun e => nomatch e)⟩
  | ct δ3 => exact ⟨(fun _ _ _ e _ => nomatch e), (fun _ _ _ _ e _ => nomatch e), (fun _ _ _ e _ => nomatch e), (fun δ' σ H e s => by cases e; exact hN δ3 σ H l s), (fun _ _ e => nomatch e), (fun e => nomatch e)⟩
  | bk δ3 => exact ⟨(fun _ _ _ e _ => nomatch e), (fun _ _ _ _ e _ => nomatch e), (fun δ' σ H e s => by cases e; exact l.nx _ σ H rfl (hw _ _ _ s)), (fun _ _ _ e _ => nomatch e), (fun _ _ e => nomatch e), (fun e => nomatch e)⟩
  | rt δ3 => exact ⟨(fun _ _ _ e _ => nomatch e), (fun δ' σ v H e s => by cases e; exact l.rt _ σ v H rfl (hw2 _ _ _ _ s)), (fun _ _ _ e _ => nomatch e), (fun _ _ _ e _ => nomatch e), (fun _ _ e => nomatch e), (fun e => nomatch e)⟩
  | ex C sl => exact ⟨(fun _ _ _ e _ => nomatch e), (fun _ _ _ _ e _ => nomatch e), (fun _ _ _ e _ => nomatch e), (fun _ _ _ e _ => nomatch e), (fun C' sl' e => by cases e; exact l.ex _ _ rfl), (fun e => nomatch e)⟩
  | no => exact absurd rfl l.no
theorem StT.tail {δ : En} (s : StT X.K B δ σ H (v :: vs)) : StT X.K B ⟨δ.sl, δ.st.tail⟩ σ H vs := by
  obtain ⟨sl, st⟩ := δ
  cases st with
  | nil => obtain ⟨_, _, _, t⟩ := s; have := t.lenv; simp at this
  | cons e st => exact s.pop
theorem StT.rt2 {δ : En} {w : V} (s : StT X.K B δ σ H (v :: w :: vs)) : StT X.K B (Vt.rt2 δ) σ H (v :: vs) := by
  obtain ⟨sl, st⟩ := δ
  match st with
  | [] => obtain ⟨_, _, _, t⟩ := s; have := t.lenv; simp at this
  | [_] => obtain ⟨_, _, _, t⟩ := s; have := t.lenv; simp at this
  | e :: e' :: st =>
    obtain ⟨S, F, sv, t⟩ := s
    obtain ⟨F', t', _⟩ := t.swap.pop
    exact ⟨S, F', sv, t'⟩
/-- the objects that are walked: lists, tuples -/
structure Walks (X : Cx) (B : Base) (kd : T → Option (List T)) (J : Addr → It) (Sq : Addr → Hp → Prop) : Prop where
  at_ : ∀ {S A H : Hp} {t : T} {ts : List T} {v : V}, RepT (kc X.K B) S A t v → Ex S H → Ex A H → kd t = some ts → ∃ a o xs, v = .ref a ∧ H a = some o ∧ Sq a H ∧ xs.length = ts.length ∧ (∀ j : Nat, stepV o (.ix j) = xs[j]?) ∧ (∃ G, RepTs (kc X.K B) S G ts xs) ∧
    (∀ j : Nat, xs.length ≤ j → (J a).stop j H) ∧ (∀ (j : Nat) x, xs[j]? = some x → (J a).go j H) ∧ ∀ (j : Nat) x H', (J a).yld j H x H' → H' = H ∧ xs[j]? = some x
theorem walksL : Walks X B kL (Itl X.K) (fun a H => ∃ xs, SqL X.K H a xs) where
  at_ := fun {S A H t ts v} r e1 e2 hk => by
    cases t <;> first | (cases hk; done) | skip
    cases hk
    obtain ⟨a, xs, G, rfl, h2, h3, _⟩ := r.lstR e1 e2
    exact ⟨a, .lst xs, xs, rfl, h2, ⟨xs, SqL.of h2⟩, h3.length.symm, fun j => rfl, ⟨G, h3⟩, fun j hj => ⟨xs, SqL.of h2, hj⟩, fun j x hx => ⟨xs, x, SqL.of h2, hx⟩, fun j x H' hy => ⟨hy.1, hy.2 xs (SqL.of h2)⟩⟩
theorem walksT : Walks X B kT (Itt X.K) (fun a H => ∃ xs, SqT X.K H a xs) where
  at_ := fun {S A H t ts v} r e1 e2 hk => by
    cases t <;> first | (cases hk; done) | skip
    cases hk
    obtain ⟨a, xs, rfl, h2, h3⟩ := r.tupR e1
    exact ⟨a, .tup xs, xs, rfl, h2, ⟨xs, SqT.of h2⟩, h3.length.symm, fun j => rfl, ⟨A, h3⟩, fun j hj => ⟨xs, SqT.of h2, hj⟩, fun j x hx => ⟨xs, x, SqT.of h2, hx⟩, fun j x H' hy => ⟨hy.1, hy.2 xs (SqT.of h2)⟩⟩
theorem for_turns {kd : T → Option (List T)} {J : Addr → It} {Sq : Addr → Hp → Prop} (wk : Walks X B kd J Sq) (ht : TgF X B tg G) (hb : StFs X B Ψ body s1) {n : Nat} {δ1 : En} (s : StT X.K B δ1 σ H (v :: vs)) (hm : many kd δ1 = some n) (l : LiftE X B Ψ (forGo kd n G s1 n δ1) vs Dn) :
    ∃ a, v = .ref a ∧ Sq a H ∧ ∃ W : Nat → Nat → L2.St → Hp → Prop, (∃ m, W 0 m σ H) ∧ ∀ i m σ H, W i m σ H →
      ((J a).stop i H ∧ Dn.nx σ H) ∨ ((J a).go i H ∧ ∃ N : L2.St → Hp → Prop, (∀ σ' H', N σ' H' → ∃ m', m' < m ∧ W (i + 1) m' σ' H') ∧ ∀ x H', (J a).yld i H x H' → tG X tg x σ H' fun σ2 H2 => tSs X body { Dn with nx := N, ct := N, bk := Dn.nx } σ2 H2) := by
  obtain ⟨e0, st0, t0, ts0, he0, hl0, hk0, hn0⟩ := many_of hm
  have hv : ∃ a, v = .ref a ∧ Sq a H := by
    obtain ⟨sl, st⟩ := δ1
    simp only at he0
    subst he0
    obtain ⟨S, F, sv, A, t, e1, e2, r1⟩ := s.rd1 hl0
    obtain ⟨a, o, xs, h1, h2, h3, _⟩ := wk.at_ r1 e1 e2 hk0
    exact ⟨a, h1, h3⟩
  obtain ⟨a, rfl, hsq⟩ := hv
  refine ⟨a, rfl, hsq, fun i m σ H => m = n - i ∧ i ≤ n ∧ ∃ δ, StT X.K B δ σ H (.ref a :: vs) ∧ LiftE X B Ψ (forGo kd n G s1 (n - i) δ) vs Dn, ⟨n, rfl, Nat.zero_le _, δ1, s, l⟩, ?_⟩
  rintro i m σ H ⟨rfl, hi, δ, s, l⟩
  by_cases hlt : i < n
  · obtain ⟨kk, hkk⟩ : ∃ kk, n - i = kk + 1 := ⟨n - i - 1, by omega⟩
    rw [hkk] at l ⊢
    unfold forGo at l
    have ej : n - (kk + 1) = i := by omega
    rw [ej] at l
    cases z : item kd i δ with
    | none => rw [z] at l; exact absurd rfl l.no
    | some δ2 =>
      simp only [z] at l
      obtain ⟨sl, st⟩ := δ
      cases st with
      | nil => cases z
      | cons e1 st1 =>
      have z' : itemE kd e1 i ⟨sl, e1 :: st1⟩ = some δ2 := z
      obtain ⟨t1, ts1, u1, hl1, hk1, hu1⟩ := itemE_in z'
      obtain ⟨S, F, sv, A, tt, ee1, ee2, r1⟩ := s.rd1 hl1
      obtain ⟨a', o, xs, h1, h2, h3, h4, h5, h6, h7, h8, h9⟩ := wk.at_ r1 ee1 ee2 hk1
      cases h1
      have hil : i < xs.length := by rw [h4]; exact (List.getElem?_eq_some_iff.mp hu1).1
      refine .inr ⟨h8 i _ (List.getElem?_eq_getElem hil), fun σ' H' => ∃ δ, StT X.K B δ σ' H' (.ref a :: vs) ∧ LiftE X B Ψ (forGo kd n G s1 kk δ) vs Dn, fun σ' H' ⟨δ, q1, q2⟩ => ⟨kk, Nat.lt_succ_self _, by omega, hlt, δ, q1, by rw [show n - (i + 1) = kk by omega]; exact q2⟩, fun x H' hy => ?_⟩
      obtain ⟨rfl, hx⟩ := h9 i x H' hy
      have s2 : StT X.K B δ2 σ H' (x :: .ref a :: vs) := itemE_of (m := 0) s rfl rfl hl1 hk1 z' h2 (by rw [h5]; exact hx) fun S A u e1 e2 r hu => by
        obtain ⟨a'', o'', xs'', g1, g2, g3, g4, g5, ⟨G6, g6⟩, _⟩ := wk.at_ r e1 e2 hk1
        cases g1
        rw [h2] at g2; cases g2
        obtain ⟨x', A', w1, _, w3⟩ := g6.at hu
        have : xs''[i]? = xs[i]? := by rw [← g5, ← h5]
        rw [this, hx] at w1; cases w1
        exact ⟨A', w3⟩
      cases z2 : G δ2 with
      | none => simp only [z2] at l; exact absurd rfl l.no
      | some δ3 =>
        simp only [z2] at l
        refine ht δ2 δ3 σ H' x (.ref a :: vs) _ s2 z2 fun σ2 H2 s3 => hb δ3 σ2 H2 (.ref a :: vs) _ s3 ?_
        exact lift_turn (n := n) (kk := kk) (kf := forGo kd n G s1) (wrap := fun δ3 => ⟨δ3.sl, δ3.st.tail⟩) (wr2 := rt2) l (fun δ4 σ H q s => ⟨δ4, s, q⟩) (fun δ4 σ H s => s.tail) fun δ4 σ v H s => s.rt2
  · have e : i = n := by omega
    subst e
    rw [Nat.sub_self] at l
    unfold forGo at l
    split at l
    · rename_i hm2
      obtain ⟨e1, st1, t1, ts1, he1, hl1, hk1, hn1⟩ := many_of hm2
      obtain ⟨sl, st⟩ := δ
      simp only at he1
      subst he1
      obtain ⟨S, F, sv, A, tt, ee1, ee2, r1⟩ := s.rd1 hl1
      obtain ⟨a', o, xs, h1, h2, h3, h4, h5, h6, h7, h8, h9⟩ := wk.at_ r1 ee1 ee2 hk1
      cases h1
      exact .inl ⟨h7 i (by rw [h4, hn1]; exact Nat.le_refl _), l.nx _ σ H rfl s.pop⟩
    · exact absurd rfl l.no
theorem lift_many {kd : T → Option (List T)} {kf : Nat → En → SR} {δ1 : En} (l : LiftE X B Ψ (match many kd δ1 with | some n => kf n δ1 | none => .no) vs Dn) : ∃ n, many kd δ1 = some n ∧ LiftE X B Ψ (kf n δ1) vs Dn := by
  cases z : many kd δ1 with
  | none => rw [z] at l; exact absurd rfl l.no
  | some n => rw [z] at l; exact ⟨n, rfl, l⟩
theorem st_forL (c : CxOk X B W Ψ k) (he : EvF X B Ψ iter fe) (ht : TgF X B tg G) (hb : StFs X B Ψ body s1) (hs : ∀ x, foldedSetIterable iter X.env x = pure x) : StF X B Ψ (.For tg iter body [] pos) (sFor kL fe G s1) := fun δ σ H vs Dn s l =>
  (ps_for c.own c.calm (pi_list (pE iter)) (pG tg) (pSs body) hs).tov (he δ σ H vs _ s (lift_res l fun δ1 l1 v H1 u1 => by
    obtain ⟨n, hm, l2⟩ := lift_many l1
    exact for_turns walksL ht hb u1 hm l2))
theorem st_forT (c : CxOk X B W Ψ k) (he : EvF X B Ψ iter fe) (ht : TgF X B tg G) (hb : StFs X B Ψ body s1) (hs : ∀ x, foldedSetIterable iter X.env x = pure x) : StF X B Ψ (.For tg iter body [] pos) (sFor kT fe G s1) := fun δ σ H vs Dn s l =>
  (ps_for c.own c.calm (pi_tup (pE iter)) (pG tg) (pSs body) hs).tov (he δ σ H vs _ s (lift_res l fun δ1 l1 v H1 u1 => by
    obtain ⟨n, hm, l2⟩ := lift_many l1
    exact for_turns walksT ht hb u1 hm l2))
/-! ### ranges -/
theorem popI_of {δ δ' : En} {i : Int} (s : StT X.K B δ σ H (v :: vs)) (h : popI δ = some (i, δ')) : v = .int i ∧ StT X.K B δ' σ H vs := by
  obtain ⟨sl, st⟩ := δ
  unfold popI at h
  split at h
  · rename_i j st' e
    have e' : st = .own (.int j) :: st' := e
    subst e'
    cases h
    obtain ⟨_, _, _, _, _, _, _, r⟩ := s.rd1 (u := .int i) rfl
    exact ⟨lv r rfl, s.pop⟩
  · cases h
theorem rng_turns {lo : Int} {n : Nat} {δ1 : En} (ht : TgF X B tg G) (hb : StFs X B Ψ body s1) (s : StT X.K B δ1 σ H vs) (l : LiftE X B Ψ (rngGo lo n G s1 n δ1) vs Dn) :
    ∃ W : Nat → Nat → L2.St → Hp → Prop, (∃ m, W 0 m σ H) ∧ ∀ i m σ H, W i m σ H →
      ((Itr lo n).stop i H ∧ Dn.nx σ H) ∨ ((Itr lo n).go i H ∧ ∃ N : L2.St → Hp → Prop, (∀ σ' H', N σ' H' → ∃ m', m' < m ∧ W (i + 1) m' σ' H') ∧ ∀ x H', (Itr lo n).yld i H x H' → tG X tg x σ H' fun σ2 H2 => tSs X body { Dn with nx := N, ct := N, bk := Dn.nx } σ2 H2) := by
  refine for_range (lo := lo) (n := n) (fun i σ H => i ≤ n ∧ ∃ δ, StT X.K B δ σ H vs ∧ LiftE X B Ψ (rngGo lo n G s1 (n - i) δ) vs Dn) ⟨Nat.zero_le _, δ1, s, l⟩ ?_ fun σ H ⟨_, δ, s, l⟩ => by
    rw [Nat.sub_self] at l
    exact l.nx δ σ H rfl s
  rintro i σ H hi ⟨_, δ, s, l⟩
  obtain ⟨kk, hkk⟩ : ∃ kk, n - i = kk + 1 := ⟨n - i - 1, by omega⟩
  rw [hkk] at l
  unfold rngGo at l
  rw [show n - (kk + 1) = i by omega] at l
  cases z : G ⟨δ.sl, .own (.int (lo + (i : Nat))) :: δ.st⟩ with
  | none => rw [z] at l; exact absurd rfl l.no
  | some δ3 =>
    simp only [z] at l
    refine ht _ δ3 σ H _ vs _ (StT.pushL (v := .int (lo + (i : Nat))) (t := .int (lo + (i : Nat))) s rfl) z fun σ2 H2 s3 => hb δ3 σ2 H2 vs _ s3 ?_
    exact lift_turn (n := n) (kk := kk) (kf := rngGo lo n G s1) (wrap := id) (wr2 := id) l (fun δ4 σ H q s => ⟨hi, δ4, s, by rw [show n - (i + 1) = kk by omega]; exact q⟩) (fun δ4 σ H s => s) fun δ4 σ v H s => s
theorem st_for1 {p ps : Pos} (c : CxOk X B W Ψ k) (hm : X.mg "range" = none) (hg : Gl X "range") (ha : EvF X B Ψ a fa) (ht : TgF X B tg G) (hb : StFs X B Ψ body s1) (hs : starEach [a] X.env = [(false, eval a X.env)]) (hf : ∀ x, foldedSetIterable (.Call (.Name "range" p) [a] [] ps) X.env x = pure x) : StF X B Ψ (.For tg (.Call (.Name "range" p) [a] [] ps) body [] pos) (sFor1 fa G s1) := fun δ σ H vs Dn s l =>
  (ps_for c.own c.calm (pi_range1 hg hm (pa_cons (pE a) pa_nil hs) hs) (pG tg) (pSs body) hf).tov (ha δ σ H vs _ s (lift_res l fun δ1 l1 v H1 u1 => by
    cases z : popI δ1 with
    | none => rw [z] at l1; exact absurd rfl l1.no
    | some q =>
      obtain ⟨j, δ2⟩ := q
      simp only [z] at l1
      obtain ⟨rfl, u2⟩ := popI_of u1 z
      split at l1
      · rename_i hj
        exact ⟨j, rfl, hj.1, hj.2, rng_turns ht hb u2 l1⟩
      · exact absurd rfl l1.no))
theorem st_for2 {p ps : Pos} (c : CxOk X B W Ψ k) (hm : X.mg "range" = none) (hg : Gl X "range") (ha : EvF X B Ψ a fa) (hbb : EvF X B Ψ b fb) (ht : TgF X B tg G) (hb : StFs X B Ψ body s1) (hs : starEach [a, b] X.env = [(false, eval a X.env), (false, eval b X.env)]) (hs2 : starEach [b] X.env = [(false, eval b X.env)]) (hf : ∀ x, foldedSetIterable (.Call (.Name "range" p) [a, b] [] ps) X.env x = pure x) : StF X B Ψ (.For tg (.Call (.Name "range" p) [a, b] [] ps) body [] pos) (sFor2 fa fb G s1) := fun δ σ H vs Dn s l =>
  (ps_for c.own c.calm (pi_range2 hg hm (pa_cons (pE a) (pa_cons (pE b) pa_nil hs2) (by rw [hs, hs2])) hs hs2) (pG tg) (pSs body) hf).tov (ha δ σ H vs _ s (post_b (P := fun r => LiftE X B Ψ (r.toS _) vs Dn) (k := fb) l (fun C sl h => h.ex C sl rfl) (fun h => h.no rfl) fun δ1 h1 v H1 u1 => hbb δ1 σ H1 _ _ u1 (lift_res h1 fun δ2 l2 w H2 u2 => by
    cases z : popI δ2 with
    | none => rw [z] at l2; exact absurd rfl l2.no
    | some q =>
      obtain ⟨j, δ3⟩ := q
      simp only [z] at l2
      obtain ⟨rfl, u3⟩ := popI_of u2 z
      cases z2 : popI δ3 with
      | none => rw [z2] at l2; exact absurd rfl l2.no
      | some q2 =>
        obtain ⟨i, δ4⟩ := q2
        simp only [z2] at l2
        obtain ⟨rfl, u4⟩ := popI_of u3 z2
        split at l2
        · rename_i hj
          exact ⟨i, j, rfl, ⟨hj.1.1, hj.1.2, hj.2.1, hj.2.2⟩, rng_turns ht hb u4 l2⟩
        · exact absurd rfl l2.no)))
/-! ### while -/
theorem st_while {cnd : Expr} (c : CxOk X B W Ψ k) (hc : TsF X B Ψ cnd p) (hb : StFs X B Ψ body s1) : StF X B Ψ (.While cnd body [] pos) (sWhile p s1) := fun δ σ H vs Dn s l => by
  have ex : ∃ n, whGo p s1 n δ ≠ .no := by
    refine Classical.byContradiction fun h => ?_
    unfold sWhile at l
    rw [dif_neg h] at l
    exact l.no rfl
  obtain ⟨n, hn⟩ := ex
  rw [sWhile_eq rfl hn] at l
  refine (ps_while c.own (pT cnd) (pSs body)).tov ⟨fun m σ H => ∃ δ, StT X.K B δ σ H vs ∧ LiftE X B Ψ (whGo p s1 m δ) vs Dn, ⟨n, δ, s, l⟩, fun m σ H ⟨δ, s, l⟩ => ?_⟩
  cases m with
  | zero => exact absurd rfl l.no
  | succ m =>
    refine hc δ σ H vs _ s ?_
    unfold whGo at l
    cases z : p δ with
    | no => rw [z] at l; exact absurd rfl l.no
    | ex C sl => rw [z] at l; exact l.ex C sl rfl
    | ok b δ1 =>
      intro H' s'
      cases b with
      | false =>
        rw [z] at l
        show Dn.nx σ H'
        exact l.nx δ1 σ H' rfl s'
      | true =>
        simp only [z] at l
        show ∃ N : L2.St → Hp → Prop, _
        refine ⟨fun σ' H' => ∃ δ, StT X.K B δ σ' H' vs ∧ LiftE X B Ψ (whGo p s1 m δ) vs Dn, fun σ' H' ⟨δ, q1, q2⟩ => ⟨m, Nat.lt_succ_self m, δ, q1, q2⟩, hb δ1 σ H' vs _ s' ?_⟩
        exact lift_turn (n := 0) (kk := m) (kf := whGo p s1) (wrap := id) (wr2 := id) l (fun δ4 σ H q s => ⟨δ4, s, q⟩) (fun δ4 σ H s => s) fun δ4 σ v H s => s
end
end Vt

/-! Walks of texts, of dicts; comprehensions. -/
namespace Vt
open PySem PySem.Spec PyProof.Rows L2

/-! ### the words -/
/-- turns over something that gives its items by it; what is walked stays below -/
def walkGo (n : Nat) (it : Nat → En → Option En) (g : En → Option En) (body : SF) : Nat → SF
  | 0, δ => .nx δ
  | k + 1, δ => match it (n - (k + 1)) δ with
    | none => .no
    | some δ1 => match g δ1 with
      | none => .no
      | some δ2 => match body δ2 with
        | .nx δ3 => walkGo n it g body k δ3
        | .ct δ3 => walkGo n it g body k δ3
        | .bk δ3 => .nx δ3
        | .rt δ3 => .rt δ3
        | .ex C sl => .ex C sl
        | .no => .no
def pushI (f : Nat → T) (j : Nat) (δ : En) : Option En := some ⟨δ.sl, .own (f j) :: δ.st⟩
def strItem (z : Str) (j : Nat) : T := .str ⟨#[z.cps.getD j 0]⟩
/-- for c in a text -/
def sForS (fe : EF) (g : En → Option En) (body : SF) : SF := fun δ => (fe δ).toS fun δ1 => match δ1.st with
  | .own (.str z) :: st => walkGo z.cps.size (pushI (strItem z)) g body z.cps.size ⟨δ1.sl, st⟩
  | _ => .no
def keyItem (ks : List Int) (j : Nat) : T := .int (ks.getD j 0)
/-- an alias that goes through i, p is let go -/
def dropE (i : Nat) (p : List Sp) : Ent → Ent
  | .al j q => if (j == i && under p q) = true then .emp else .al j q
  | e => e
/-- the dict at i, p is unlocked -/
def unlkT (δ : En) : Option En := match δ.st with
  | .al i p :: st => match look δ.sl (.al i p) with
    | some (.dct true kvs) => if (⟨δ.sl.map (dropE i p), st⟩ : En).free i p = true then some ⟨putAt (δ.sl.map (dropE i p)) i p (.dct false kvs), st⟩ else none
    | _ => none
  | _ => none
def endD : SR → SR
  | .nx δ => optS (unlkT δ)
  | .rt δ => match δ.st with
    | e :: e' :: st => match unlkT ⟨δ.sl, e' :: e :: st⟩ with
      | some δ' => .rt δ'
      | none => .no
    | _ => .no
  | .ex C sl => .ex C sl
  | _ => .no
/-- for k in a dict -/
def sForD (fe : EF) (g : En → Option En) (body : SF) : SF := fun δ => match fe δ with
  | .ok δ0 => match δ0.st with
    | .al i p :: _ => match look δ.sl (.al i p) with
      | some (.dct false kvs) => if δ.free i p = true then (match fe ⟨putAt δ.sl i p (.dct true kvs), .al i p :: δ.st⟩ with
        | .ok δ1 => match δ1.st with
          | .al i2 p2 :: .al i3 p3 :: st3 => if i2 = i3 ∧ p2 = p3 then endD (walkGo kvs.length (pushI (keyItem (kvs.map (·.1)))) g body kvs.length ⟨δ1.sl, .al i3 p3 :: st3⟩) else .no
          | _ => .no
        | _ => .no) else .no
      | _ => .no
    | _ => .no
  | _ => .no
section
variable {X : Cx} {B : Base} {Ψ : XF} {W : WX} {k n : Nat} {a b c e o tg iter : Expr} {es : List Expr} {st : Stmt} {rest body sts sa sb : List Stmt} {pos : Pos} {f g h fa fb fc fo fe fv fi : EF} {σ : L2.St} {H : Hp} {vs : List V} {v : V} {p : BF} {s1 s2 : SF} {Dn : Ends} {G : En → Option En} {gs : List (En → Option En)}
theorem walk_turns {J : It} {n : Nat} {it : Nat → En → Option En} {δ1 : En} (hg : ∀ i H, i < n → (∃ δ σ, StT X.K B δ σ H vs) → J.go i H) (hy : ∀ i δ δ' σ H x H', i < n → StT X.K B δ σ H vs → it i δ = some δ' → J.yld i H x H' → H' = H ∧ StT X.K B δ' σ H (x :: vs)) (hs : ∀ H, (∃ δ σ, StT X.K B δ σ H vs) → J.stop n H)
    (ht : TgF X B tg G) (hb : StFs X B Ψ body s1) (s : StT X.K B δ1 σ H vs) (l : LiftE X B Ψ (walkGo n it G s1 n δ1) vs Dn) :
    ∃ W : Nat → Nat → L2.St → Hp → Prop, (∃ m, W 0 m σ H) ∧ ∀ i m σ H, W i m σ H →
      (J.stop i H ∧ Dn.nx σ H) ∨ (J.go i H ∧ ∃ N : L2.St → Hp → Prop, (∀ σ' H', N σ' H' → ∃ m', m' < m ∧ W (i + 1) m' σ' H') ∧ ∀ x H', J.yld i H x H' → tG X tg x σ H' fun σ2 H2 => tSs X body { Dn with nx := N, ct := N, bk := Dn.nx } σ2 H2) := by
  refine ⟨fun i m σ H => m = n - i ∧ i ≤ n ∧ ∃ δ, StT X.K B δ σ H vs ∧ LiftE X B Ψ (walkGo n it G s1 (n - i) δ) vs Dn, ⟨n, rfl, Nat.zero_le _, δ1, s, l⟩, ?_⟩
  rintro i m σ H ⟨rfl, hi, δ, s, l⟩
  by_cases hlt : i < n
  · obtain ⟨kk, hkk⟩ : ∃ kk, n - i = kk + 1 := ⟨n - i - 1, by omega⟩
    rw [hkk] at l ⊢
    unfold walkGo at l
    rw [show n - (kk + 1) = i by omega] at l
    cases z : it i δ with
    | none => rw [z] at l; exact absurd rfl l.no
    | some δ2 =>
      simp only [z] at l
      refine .inr ⟨hg i H hlt ⟨δ, σ, s⟩, fun σ' H' => ∃ δ, StT X.K B δ σ' H' vs ∧ LiftE X B Ψ (walkGo n it G s1 kk δ) vs Dn, fun σ' H' ⟨δ, q1, q2⟩ => ⟨kk, Nat.lt_succ_self _, by omega, hlt, δ, q1, by rw [show n - (i + 1) = kk by omega]; exact q2⟩, fun x H' hyy => ?_⟩
      obtain ⟨rfl, s2⟩ := hy i δ δ2 σ H x H' hlt s z hyy
      cases z2 : G δ2 with
      | none => simp only [z2] at l; exact absurd rfl l.no
      | some δ3 =>
        simp only [z2] at l
        refine ht δ2 δ3 σ H' x vs _ s2 z2 fun σ2 H2 s3 => hb δ3 σ2 H2 vs _ s3 ?_
        exact lift_turn (n := n) (kk := kk) (kf := walkGo n it G s1) (wrap := id) (wr2 := id) l (fun δ4 σ H q s => ⟨δ4, s, q⟩) (fun δ4 σ H s => s) fun δ4 σ v H s => s
  · have e : i = n := by omega
    subst e
    rw [Nat.sub_self] at l
    exact .inl ⟨hs H ⟨δ, σ, s⟩, l.nx δ σ H rfl s⟩
theorem str_sz {z : Str} : z.cps.size = z.length := rfl
theorem st_forS (c : CxOk X B W Ψ k) (he : EvF X B Ψ iter fe) (ht : TgF X B tg G) (hb : StFs X B Ψ body s1) (hs : ∀ x, foldedSetIterable iter X.env x = pure x) : StF X B Ψ (.For tg iter body [] pos) (sForS fe G s1) := fun δ σ H vs Dn s l =>
  (ps_for c.own c.calm (pi_str (pE iter)) (pG tg) (pSs body) hs).tov (he δ σ H vs _ s (lift_res l fun δ1 l1 v H1 u1 => by
    obtain ⟨sl, st⟩ := δ1
    split at l1
    · rename_i z st' e
      have e' : st = .own (.str z) :: st' := e
      subst e'
      obtain ⟨_, _, _, _, _, _, _, r⟩ := u1.rd1 (u := .str z) rfl
      refine ⟨z, lv r rfl, ?_⟩
      exact walk_turns (J := Its z) (n := z.cps.size) (it := pushI (strItem z)) (fun i H hi _ => hi) (fun i δ δ' σ H x H' hi s hit hy => by
        cases hit
        obtain ⟨rfl, cc, hc, rfl⟩ := hy
        refine ⟨rfl, StT.pushL s ?_⟩
        have : z.cps.getD i 0 = cc := by rw [Array.getD_eq_getD_getElem?, hc]; rfl
        show some (V.str ⟨#[z.cps.getD i 0]⟩) = _
        rw [this]) (fun H _ => Nat.le_refl _) ht hb u1.pop l1
    · exact absurd rfl l1.no))
/-! ### locks -/
def Base.lk (B : Base) (d : Addr) (o : HO) : Base := { B with lkd := upd B.lkd d o }
theorem StT.lkUp {δ : En} {d : Addr} {q : Obj} {u : HO} (s : StT X.K B δ σ H vs) (h : H d = some (.frz q u)) : StT X.K (B.lk d (.frz q u)) δ σ H vs := by
  obtain ⟨S, F, sv, s⟩ := s
  refine ⟨S, F, sv, s.exS, s.exF, s.dj, s.len, s.lens, s.lenv, s.slv, s.rep, s.al, s.bS, s.bF, s.bN, s.bH, s.pin, fun b o hb => ?_, fun b o hb => ?_⟩
  · have hb' : upd B.lkd d (.frz q u) b = some o := hb
    by_cases z : b = d
    · subst z; rw [upd_same] at hb'; cases hb'; exact h
    · rw [upd_ne z] at hb'; exact s.lk b o hb'
  · have hb' : upd B.lkd d (.frz q u) b = some o := hb
    by_cases z : b = d
    · subst z; rw [upd_same] at hb'; cases hb'; exact ⟨q, u, rfl⟩
    · rw [upd_ne z] at hb'; exact s.lkf b o hb'
theorem StT.lkDown {δ : En} {d : Addr} {o : HO} (s : StT X.K (B.lk d o) δ σ H vs) (hn : B.lkd d = none) : StT X.K B δ σ H vs ∧ H d = some o := by
  obtain ⟨S, F, sv, s⟩ := s
  have up : ∀ b o', B.lkd b = some o' → (B.lk d o).lkd b = some o' := fun b o' hb => by
    show upd B.lkd d o b = _
    rw [upd_ne (fun z => by subst z; rw [hn] at hb; cases hb)]; exact hb
  exact ⟨⟨S, F, sv, s.exS, s.exF, s.dj, s.len, s.lens, s.lenv, s.slv, s.rep, s.al, s.bS, s.bF, s.bN, s.bH, s.pin, fun b o hb => s.lk b o (up b o hb), fun b o hb => s.lkf b o (up b o hb)⟩, s.lk d o upd_same⟩
theorem CxOk.lk (c : CxOk X B W Ψ k) {d : Addr} {o : HO} (hn : B.lkd d = none) : CxOk X (B.lk d o) W Ψ k :=
  ⟨c.calm, c.takes, c.own, fun C sl σ H h s => c.psi C sl σ H h (s.lkDown hn).1, c.room, c.nd⟩
/-- the dict at i, p, as it stands -/
theorem StT.dict_at {sl st : List Ent} {i : Nat} {p : List Sp} {lk : Bool} {kvs : List (Int × T)} (s : StT X.K B ⟨sl, st⟩ σ H vs) (h : look sl (.al i p) = some (.dct lk kvs)) : ∃ d kv q, StT X.K B ⟨sl, .al i p :: st⟩ σ H (.ref d :: vs) ∧ H d = some (if lk = true then .frz q (.dK kv) else .dK kv) ∧ kv.map (·.1) = (kvs.map (·.1)).map Sum.inl ∧ (lk = false → B.lkd d = none) := by
  obtain ⟨S, F, sv, t⟩ := s
  obtain ⟨r0, h1, h2⟩ := look_al h
  obtain ⟨x, A, G, f1, f2, ⟨r, f3, f4⟩, _⟩ := t.focus h1 h2
  have eA : Ex A H := (show Ex A F by rw [f1.e]; exact Ex.l).trans t.exF
  cases f2 with
  | leaf h => cases h
  | @dct F0 _ _ d kv o h0 ho hk hn rs =>
    have hd : H d = some o := eA _ _ (join_l one_same)
    have st2 : StT X.K B ⟨sl, .al i p :: st⟩ σ H (.ref d :: vs) := ⟨S, F, sv, t.pushA ⟨r0, r, h1, by rw [h2]; rfl, f3, f4⟩⟩
    cases lk with
    | true =>
      rw [if_pos rfl] at ho
      obtain ⟨q, rfl⟩ := ho
      exact ⟨d, kv, q, st2, hd, hk, fun z => nomatch z⟩
    | false =>
      rw [if_neg (by decide)] at ho
      subst ho
      exact ⟨d, kv, default, st2, hd, hk, fun _ => t.nolk hd fun q u e => nomatch e⟩
theorem Sta.relock {sl st : List Ent} {i : Nat} {p : List Sp} {lk lk' : Bool} {kvs : List (Int × T)} {d : Addr} {kv : List (Key × V)} {o : HO} {S F : Hp} {sv : List V} (s : Sta X.K B ⟨sl, .al i p :: st⟩ σ H (.ref d :: vs) S F sv) (h : look sl (.al i p) = some (.dct lk kvs)) (hf : (⟨sl, st⟩ : En).free i p = true) (hn : B.lkd d = none) (hd : ∃ q, H d = some (if lk = true then .frz q (.dK kv) else .dK kv)) (ho : if lk' = true then ∃ q, o = .frz q (.dK kv) else o = .dK kv) :
    ∃ F', Sta X.K B ⟨putAt sl i p (.dct lk' kvs), st⟩ σ (upd H d o) vs S F' sv := by
  obtain ⟨r0, h1, h2⟩ := look_al h
  rw [putAt_eq h1]
  refine Sta.mut (o := o) (es := []) (xs := []) s rfl h1 h2 hf hn (.dct lk' kvs) fun A E rA rE dE eAH => ?_
  cases rA with
  | leaf h => cases h
  | @dct F0 _ _ _ kv0 o0 h0 ho0 hk hn0 rs =>
    have e0 : H d = some o0 := eAH _ _ (join_l one_same)
    have : kv0 = kv := by
      obtain ⟨q, hd⟩ := hd
      rw [hd] at e0
      cases lk with
      | true =>
        rw [if_pos rfl] at ho0 e0
        obtain ⟨q', rfl⟩ := ho0
        cases e0; rfl
      | false =>
        rw [if_neg (by decide)] at ho0 e0
        subst ho0
        cases e0; rfl
    subst this
    obtain ⟨k1, k2, k3, k4, k5⟩ := recell (o := o) rfl h0 dE (F2 := F0) fun b w h => .inl h
    exact ⟨_, .dct k1 ho hk hn0 rs, k2, k3, k4, k5⟩
theorem dropE_tr {i : Nat} {p : List Sp} {e : Ent} : (dropE i p e).tr = e.tr := by
  cases e with
  | al j q =>
    show (if (j == i && under p q) = true then Ent.emp else .al j q).tr = _
    split <;> rfl
  | _ => rfl
theorem dropE_own {i j : Nat} {p : List Sp} {t : T} {sl : List Ent} : (sl.map (dropE i p))[j]? = some (.own t) ↔ sl[j]? = some (.own t) := by
  rw [List.getElem?_map]
  cases h : sl[j]? with
  | none => simp
  | some e =>
    cases e with
    | own u => simp [dropE]
    | emp => simp [dropE]
    | al k q =>
      show some (if (k == i && under p q) = true then Ent.emp else .al k q) = _ ↔ _
      split <;> simp
theorem StT.dropA {sl st : List Ent} {i : Nat} {p : List Sp} (s : StT X.K B ⟨sl, st⟩ σ H vs) : StT X.K B ⟨sl.map (dropE i p), st⟩ σ H vs := by
  obtain ⟨S, F, sv, s⟩ := s
  have eok : ∀ e v, EntOk H sl sv e v → EntOk H (sl.map (dropE i p)) sv e v := fun e v h => by
    cases e with
    | al j q =>
      obtain ⟨t, r, h1, h2⟩ := h
      exact ⟨t, r, dropE_own.mpr h1, h2⟩
    | _ => trivial
  refine ⟨S, F, sv, s.exS, s.exF, s.dj, ?_, ?_, s.lenv, ?_, ?_, ?_, s.bS, s.bF, s.bN, s.bH, s.pin, s.lk, s.lkf⟩
  · rw [List.length_map]; exact s.len
  · rw [List.length_map]; exact s.lens
  · intro j e h
    have h' : (sl.map (dropE i p))[j]? = some e := h
    rw [List.getElem?_map] at h'
    cases z : sl[j]? with
    | none => rw [z] at h'; cases h'
    | some e0 =>
      rw [z] at h'
      cases h'
      rcases s.slv j e0 z with q | rfl
      · exact .inl q
      · exact .inr rfl
  · have : (st ++ sl.map (dropE i p)).map Ent.tr = (st ++ sl).map Ent.tr := by
      rw [List.map_append, List.map_append, List.map_map]
      congr 1
      exact List.map_congr_left fun e _ => dropE_tr
    show RepTs _ S F ((st ++ sl.map (dropE i p)).map Ent.tr) _
    rw [this]; exact s.rep
  · intro j e v h hv
    have h' : (st ++ sl.map (dropE i p))[j]? = some e := h
    rw [List.getElem?_append] at h'
    split at h'
    · rename_i hj
      exact eok _ _ (s.al j e v (by show (st ++ sl)[j]? = _; rw [List.getElem?_append_left hj]; exact h') hv)
    · rename_i hj
      rw [List.getElem?_map] at h'
      cases z : sl[j - st.length]? with
      | none => rw [z] at h'; cases h'
      | some e0 =>
        rw [z] at h'
        have h0 := s.al j e0 v (by show (st ++ sl)[j]? = _; rw [List.getElem?_append_right (by omega)]; exact z) hv
        cases h'
        cases e0 with
        | al k q =>
          show EntOk H _ sv (if (k == i && under p q) = true then .emp else .al k q) v
          split
          · trivial
          · exact eok _ _ h0
        | _ => trivial
theorem unlk_of {δ δ' : En} {d : Addr} {q : Obj} {kv : List (Key × V)} (s : StT X.K B δ σ H (.ref d :: vs)) (h : unlkT δ = some δ') (hd : H d = some (.frz q (.dK kv))) (hn : B.lkd d = none) : StT X.K B δ' σ (upd H d (.dK kv)) vs := by
  obtain ⟨sl, st⟩ := δ
  unfold unlkT at h
  split at h
  · rename_i i p st' e
    have e' : st = .al i p :: st' := e
    subst e'
    split at h
    · rename_i kvs hl
      split at h
      · rename_i hf
        cases h
        obtain ⟨S, F, sv, t⟩ := s.dropA (i := i) (p := p)
        have hl' : look (sl.map (dropE i p)) (.al i p) = some (.dct true kvs) := by
          obtain ⟨r0, h1, h2⟩ := look_al hl
          unfold look
          simp only [dropE_own.mpr h1]
          exact h2
        obtain ⟨F', t'⟩ := Sta.relock (lk' := false) (o := .dK kv) t hl' hf hn ⟨q, hd⟩ (by rw [if_neg (by decide)])
        exact ⟨S, F', sv, t'⟩
      · cases h
    · cases h
  · cases h
theorem StT.swap {sl st : List Ent} {e e' : Ent} {w : V} (s : StT X.K B ⟨sl, e :: e' :: st⟩ σ H (v :: w :: vs)) : StT X.K B ⟨sl, e' :: e :: st⟩ σ H (w :: v :: vs) := by
  obtain ⟨S, F, sv, t⟩ := s
  exact ⟨S, F, sv, t.swap⟩
/-- turns over a locked dict's keys -/
theorem key_turns {d : Addr} {q : Obj} {kv : List (Key × V)} {kvs : List (Int × T)} {B' : Base} {δ1 : En} (hk : kv.map (·.1) = (kvs.map (·.1)).map Sum.inl) (hB : ∀ δ σ H, StT X.K B' δ σ H (.ref d :: vs) → H d = some (.frz q (.dK kv)))
    (ht : TgF X B' tg G) (hb : StFs X B' Ψ body s1) (s : StT X.K B' δ1 σ H (.ref d :: vs)) (l : LiftE X B' Ψ (walkGo kvs.length (pushI (keyItem (kvs.map (·.1)))) G s1 kvs.length δ1) (.ref d :: vs) Dn) :
    ∃ W : Nat → Nat → L2.St → Hp → Prop, (∃ m, W 0 m σ H) ∧ ∀ i m σ H, W i m σ H →
      ((Itk d q kv).stop i H ∧ Dn.nx σ H) ∨ ((Itk d q kv).go i H ∧ ∃ N : L2.St → Hp → Prop, (∀ σ' H', N σ' H' → ∃ m', m' < m ∧ W (i + 1) m' σ' H') ∧ ∀ x H', (Itk d q kv).yld i H x H' → tG X tg x σ H' fun σ2 H2 => tSs X body { Dn with nx := N, ct := N, bk := Dn.nx } σ2 H2) := by
  have el := dct_len hk
  refine walk_turns (J := Itk d q kv) (n := kvs.length) (it := pushI (keyItem (kvs.map (·.1)))) (fun i H hi ⟨δ, σ, s⟩ => ⟨hB δ σ H s, by omega⟩) (fun i δ δ' σ H x H' hi s hit hy => ?_) (fun H ⟨δ, σ, s⟩ => ⟨hB δ σ H s, by omega⟩) ht hb s l
  cases hit
  obtain ⟨rfl, kk, w, hkk, rfl⟩ := hy
  refine ⟨rfl, StT.pushL s ?_⟩
  have e1 : (kv.map (·.1))[i]? = some kk := by rw [List.getElem?_map, hkk]; rfl
  rw [hk, List.getElem?_map] at e1
  cases z : (kvs.map (·.1))[i]? with
  | none => rw [z] at e1; cases e1
  | some y =>
    rw [z] at e1
    cases e1
    show some (V.int ((kvs.map (·.1)).getD i 0)) = some (kV (Sum.inl y))
    rw [List.getD_eq_getElem?_getD, z]; rfl
theorem StT.same {sl st : List Ent} {i : Nat} {p : List Sp} {w : V} (s : StT X.K B ⟨sl, .al i p :: .al i p :: st⟩ σ H (v :: w :: vs)) : v = w := by
  obtain ⟨S, F, sv, t⟩ := s
  obtain ⟨t0, r0, b1, b2, b3, b4⟩ := t.al 0 _ v rfl rfl
  obtain ⟨t1, r1, c1, c2, c3, c4⟩ := t.al 1 (.al i p) w rfl rfl
  rw [b3] at c3; cases c3
  exact b4.det c4
theorem endD_lift {d : Addr} {q : Obj} {kv : List (Key × V)} {r : SR} (hn : B.lkd d = none) (l : LiftE X B Ψ (endD r) vs Dn) : LiftE X (B.lk d (.frz q (.dK kv))) Ψ r (.ref d :: vs) ⟨fun σ' H' => H' d = some (.frz q (.dK kv)) ∧ Dn.nx σ' (upd H' d (.dK kv)), fun v H' => H' d = some (.frz q (.dK kv)) ∧ Dn.rt v (upd H' d (.dK kv)), fun σ' H' => H' d = some (.frz q (.dK kv)) ∧ Dn.bk σ' (upd H' d (.dK kv)), fun σ' H' => H' d = some (.frz q (.dK kv)) ∧ Dn.ct σ' (upd H' d (.dK kv))⟩ := by
  cases r with
  | nx δ =>
    refine ⟨fun δ' σ H e s => ?_, (fun _ _ _ _ e _ => nomatch e), (fun _ _ _ e _ => nomatch e), (fun _ _ _ e _ => nomatch e), (fun _ _ e => nomatch e), (fun e => nomatch e)⟩
    cases e
    obtain ⟨s1, hd⟩ := s.lkDown hn
    refine ⟨hd, ?_⟩
    have l' : LiftE X B Ψ (optS (unlkT δ)) vs Dn := l
    cases z : unlkT δ with
    | none => rw [z] at l'; exact absurd rfl l'.no
    | some δ2 => rw [z] at l'; exact l'.nx δ2 σ _ rfl (unlk_of s1 z hd hn)
  | rt δ =>
    refine ⟨(fun _ _ _ e _ => nomatch e), fun δ' σ v H e s => ?_, (fun _ _ _ e _ => nomatch e), (fun _ _ _ e _ => nomatch e), (fun _ _ e => nomatch e), (fun e => nomatch e)⟩
    cases e
    obtain ⟨s1, hd⟩ := s.lkDown hn
    refine ⟨hd, ?_⟩
    obtain ⟨sl, st⟩ := δ
    match st, s1, l with
    | [], _, l => exact absurd rfl l.no
    | [_], _, l => exact absurd rfl l.no
    | e :: e' :: st, s1, l =>
      have l' : LiftE X B Ψ (match unlkT ⟨sl, e' :: e :: st⟩ with | some δ' => .rt δ' | none => .no) vs Dn := l
      cases z : unlkT ⟨sl, e' :: e :: st⟩ with
      | none => rw [z] at l'; exact absurd rfl l'.no
      | some δ2 => rw [z] at l'; exact l'.rt δ2 σ v _ rfl (unlk_of s1.swap z hd hn)
  | ex C sl => exact ⟨(fun _ _ _ e _ => nomatch e), (fun _ _ _ _ e _ => nomatch e), (fun _ _ _ e _ => nomatch e), (fun _ _ _ e _ => nomatch e), (fun C' sl' e => by cases e; exact l.ex _ _ rfl), (fun e => nomatch e)⟩
  | bk δ => exact absurd rfl l.no
  | ct δ => exact absurd rfl l.no
  | no => exact absurd rfl l.no
/-- the dict at i, p, locked -/
theorem lock_at {sl st : List Ent} {i : Nat} {p : List Sp} {kvs : List (Int × T)} (s : StT X.K B ⟨sl, st⟩ σ H vs) (hl : look sl (.al i p) = some (.dct false kvs)) (hf : (⟨sl, st⟩ : En).free i p = true) : ∃ (d : Addr) (kv : List (Key × V)), H d = some (.dK kv) ∧ B.lkd d = none ∧ kv.map (·.1) = (kvs.map (·.1)).map Sum.inl ∧ ∀ od : Obj, StT X.K (B.lk d (.frz od (.dK kv))) ⟨putAt sl i p (.dct true kvs), .al i p :: st⟩ σ (upd H d (.frz od (.dK kv))) (.ref d :: vs) := by
  obtain ⟨d, kv, _, s2, hd, hk, hn⟩ := s.dict_at hl
  have hn := hn rfl
  rw [if_neg (by decide)] at hd
  refine ⟨d, kv, hd, hn, hk, fun od => ?_⟩
  obtain ⟨S, F, sv, t2⟩ := s2
  obtain ⟨F', t3⟩ := Sta.relock (lk' := true) (o := .frz od (.dK kv)) t2 hl hf hn ⟨od, by rw [if_neg (by decide)]; exact hd⟩ (by rw [if_pos rfl]; exact ⟨od, rfl⟩)
  have s3 : StT X.K (B.lk d (.frz od (.dK kv))) ⟨putAt sl i p (.dct true kvs), st⟩ σ (upd H d (.frz od (.dK kv))) vs := StT.lkUp ⟨S, F', sv, t3⟩ upd_same
  have hl3 : look (putAt sl i p (.dct true kvs)) (.al i p) = some (.dct true kvs) := by
    obtain ⟨r0, h1, h2⟩ := look_al hl
    rw [putAt_eq h1]
    unfold look
    simp only [List.getElem?_set_self (List.getElem?_eq_some_iff.mp h1).1]
    have : ∀ {p : List Sp} {t u w : T}, t.at p = some u → (t.put p w).at p = some w := by
      intro p
      induction p with
      | nil => intro t u w _; rfl
      | cons s p ih =>
        intro t u w h
        unfold T.at at h
        unfold T.put
        cases q : t.step s with
        | none => rw [q] at h; cases h
        | some y =>
          rw [q] at h
          show T.at (t.put1 s (y.put p w)) (s :: p) = _
          unfold T.at
          have same : (t.put1 s (y.put p w)).step s = some (y.put p w) := by
            cases t <;> cases s <;> simp [T.step] at q
            case tup.ix ts j =>
              show (ts.set j _)[j]? = _
              rw [List.getElem?_set_self (List.getElem?_eq_some_iff.mp q).1]
            case lst.ix m ts j =>
              cases m with
              | fz => simp [T.step] at q
              | mu =>
                show (ts.set j _)[j]? = _
                rw [List.getElem?_set_self (List.getElem?_eq_some_iff.mp q).1]
            case dct.key m kvs k =>
              show gGet (gPut kvs k _) k = _
              rw [gGet_put, if_pos rfl]
            case ins.fld C fs f =>
              show (putD f _ fs).lookup f = _
              clear h
              induction fs with
              | nil => cases q
              | cons g fs ih2 =>
                obtain ⟨g1, g2⟩ := g
                unfold putD
                by_cases e : g1 = f
                · rw [if_pos e, e, List.lookup_cons, beq_self_eq_true]
                · rw [if_neg e, List.lookup_cons, beq_eq_false_iff_ne.mpr (fun z => e z.symm)]
                  rw [List.lookup_cons, beq_eq_false_iff_ne.mpr (fun z => e z.symm)] at q
                  exact ih2 q
          rw [same]
          exact ih h
    exact this h2
  obtain ⟨d2, kv2, q2, s4, hd2, _⟩ := s3.dict_at hl3
  -- the alias names the dict that was locked
  have e12 : d2 = d := by
    obtain ⟨S4, F4, sv4, t4⟩ := id s4
    obtain ⟨ta, ra, a1, a2, a3, a4⟩ := t4.al 0 _ (.ref d2) rfl rfl
    obtain ⟨tb, rb, b1, b2, b3, b4⟩ := t2.al 0 _ (.ref d) rfl rfl
    obtain ⟨r0, h1, h2⟩ := look_al hl
    have hs1 : ∃ v, sv[i]? = some v ∧ σ[i]? = some (some v) := by
      rcases t2.slv i _ h1 with z | z
      · exact z
      · cases z
    have a1' : (putAt sl i p (.dct true kvs))[i]? = some (.own ta) := a1
    have hs2 : ∃ v, sv4[i]? = some v ∧ σ[i]? = some (some v) := by
      rcases t4.slv i _ a1' with z | z
      · exact z
      · cases z
    obtain ⟨v1, x1, x2⟩ := hs1
    obtain ⟨v2, y1, y2⟩ := hs2
    rw [x2] at y2; cases y2
    rw [y1] at a3; cases a3
    rw [x1] at b3; cases b3
    -- the walk in the locked heap: it does not go through d but at its end
    have hmono : ∀ {p : List Sp} {r : V}, Wk H r p (.ref d) → Wk (upd H d (.frz od (.dK kv))) r p (.ref d) := by
      intro p
      induction p with
      | nil => intro r w; exact w
      | cons sp p ih =>
        intro r ⟨a, o, x, w1, w2, w3, w4⟩
        by_cases z : a = d
        · subst z
          rw [hd] at w2; cases w2
          cases sp with
          | key kk => exact ⟨a, _, x, w1, upd_same, w3, ih w4⟩
          | ix _ => cases w3
          | fld _ => cases w3
        · exact ⟨a, o, x, w1, by rw [upd_ne z]; exact w2, w3, ih w4⟩
    have := a4.det (hmono b4)
    cases this; rfl
  subst e12
  exact s4
theorem st_forD (c : CxOk X B W Ψ k) (he : ∀ d o, B.lkd d = none → EvF X (B.lk d o) Ψ iter fe) (ht : ∀ d o, B.lkd d = none → TgF X (B.lk d o) tg G) (hb : ∀ d o, B.lkd d = none → StFs X (B.lk d o) Ψ body s1) (hs : ∀ x, foldedSetIterable iter X.env x = pure x) : StF X B Ψ (.For tg iter body [] pos) (sForD fe G s1) := fun δ σ H vs Dn s l => by
  unfold sForD at l
  split at l
  case h_2 => exact absurd rfl l.no
  rename_i δ0 z0
  split at l
  case h_2 => exact absurd rfl l.no
  rename_i i p st0 e0
  split at l
  case h_2 => exact absurd rfl l.no
  rename_i kvs hl
  split at l
  case isFalse => exact absurd rfl l.no
  rename_i hf
  split at l
  case h_2 => exact absurd rfl l.no
  rename_i δ1 z1
  split at l
  case h_2 => exact absurd rfl l.no
  rename_i i2 p2 i3 p3 st3 e2
  split at l
  case isFalse => exact absurd rfl l.no
  rename_i hip
  obtain ⟨rfl, rfl⟩ := hip
  obtain ⟨sl, st⟩ := δ
  obtain ⟨d, kv, _, s2, hd, hk, hn⟩ := s.dict_at hl
  have hn := hn rfl
  rw [if_neg (by decide)] at hd
  refine (ps_lock (ps_for c.own c.calm (pi_keys (pE iter)) (pG tg) (pSs body) hs)).tov ⟨d, .dK kv, hd, trivial, fun od => ?_⟩
  obtain ⟨S, F, sv, t2⟩ := s2
  obtain ⟨F', t3⟩ := Sta.relock (lk' := true) (o := .frz od (.dK kv)) t2 hl hf hn ⟨od, by rw [if_neg (by decide)]; exact hd⟩ (by rw [if_pos rfl]; exact ⟨od, rfl⟩)
  have s3 : StT X.K (B.lk d (.frz od (.dK kv))) ⟨putAt sl i p (.dct true kvs), st⟩ σ (upd H d (.frz od (.dK kv))) vs := StT.lkUp ⟨S, F', sv, t3⟩ upd_same
  have hl3 : look (putAt sl i p (.dct true kvs)) (.al i p) = some (.dct true kvs) := by
    obtain ⟨r0, h1, h2⟩ := look_al hl
    rw [putAt_eq h1]
    unfold look
    simp only [List.getElem?_set_self (List.getElem?_eq_some_iff.mp h1).1]
    have : ∀ {p : List Sp} {t u w : T}, t.at p = some u → (t.put p w).at p = some w := by
      intro p
      induction p with
      | nil => intro t u w _; rfl
      | cons s p ih =>
        intro t u w h
        unfold T.at at h
        unfold T.put
        cases q : t.step s with
        | none => rw [q] at h; cases h
        | some y =>
          rw [q] at h
          show T.at (t.put1 s (y.put p w)) (s :: p) = _
          unfold T.at
          have same : (t.put1 s (y.put p w)).step s = some (y.put p w) := by
            cases t <;> cases s <;> simp [T.step] at q
            case tup.ix ts j =>
              show (ts.set j _)[j]? = _
              rw [List.getElem?_set_self (List.getElem?_eq_some_iff.mp q).1]
            case lst.ix m ts j =>
              cases m with
              | fz => simp [T.step] at q
              | mu =>
                show (ts.set j _)[j]? = _
                rw [List.getElem?_set_self (List.getElem?_eq_some_iff.mp q).1]
            case dct.key m kvs k =>
              show gGet (gPut kvs k _) k = _
              rw [gGet_put, if_pos rfl]
            case ins.fld C fs f =>
              show (putD f _ fs).lookup f = _
              clear h
              induction fs with
              | nil => cases q
              | cons g fs ih2 =>
                obtain ⟨g1, g2⟩ := g
                unfold putD
                by_cases e : g1 = f
                · rw [if_pos e, e, List.lookup_cons, beq_self_eq_true]
                · rw [if_neg e, List.lookup_cons, beq_eq_false_iff_ne.mpr (fun z => e z.symm)]
                  rw [List.lookup_cons, beq_eq_false_iff_ne.mpr (fun z => e z.symm)] at q
                  exact ih2 q
          rw [same]
          exact ih h
    exact this h2
  obtain ⟨d2, kv2, q2, s4, hd2, _⟩ := s3.dict_at hl3
  -- the alias names the dict that was locked
  have e12 : d2 = d := by
    obtain ⟨S4, F4, sv4, t4⟩ := id s4
    obtain ⟨ta, ra, a1, a2, a3, a4⟩ := t4.al 0 _ (.ref d2) rfl rfl
    obtain ⟨tb, rb, b1, b2, b3, b4⟩ := t2.al 0 _ (.ref d) rfl rfl
    obtain ⟨r0, h1, h2⟩ := look_al hl
    have hs1 : ∃ v, sv[i]? = some v ∧ σ[i]? = some (some v) := by
      rcases t2.slv i _ h1 with z | z
      · exact z
      · cases z
    have a1' : (putAt sl i p (.dct true kvs))[i]? = some (.own ta) := a1
    have hs2 : ∃ v, sv4[i]? = some v ∧ σ[i]? = some (some v) := by
      rcases t4.slv i _ a1' with z | z
      · exact z
      · cases z
    obtain ⟨v1, x1, x2⟩ := hs1
    obtain ⟨v2, y1, y2⟩ := hs2
    rw [x2] at y2; cases y2
    rw [y1] at a3; cases a3
    rw [x1] at b3; cases b3
    -- the walk in the locked heap: it does not go through d but at its end
    have hmono : ∀ {p : List Sp} {r : V}, Wk H r p (.ref d) → Wk (upd H d (.frz od (.dK kv))) r p (.ref d) := by
      intro p
      induction p with
      | nil => intro r w; exact w
      | cons sp p ih =>
        intro r ⟨a, o, x, w1, w2, w3, w4⟩
        by_cases z : a = d
        · subst z
          rw [hd] at w2; cases w2
          cases sp with
          | key kk => exact ⟨a, _, x, w1, upd_same, w3, ih w4⟩
          | ix _ => cases w3
          | fld _ => cases w3
        · exact ⟨a, o, x, w1, by rw [upd_ne z]; exact w2, w3, ih w4⟩
    have := a4.det (hmono b4)
    cases this; rfl
  subst e12
  refine he d2 (.frz od (.dK kv)) hn _ σ _ (.ref d2 :: vs) _ s4 ?_
  rw [z1]
  intro v H4 s5
  obtain ⟨sl1, st1⟩ := δ1
  simp only at e2
  subst e2
  have hv := s5.same
  subst hv
  have s6 := s5.pop
  have hB : ∀ δ σ H, StT X.K (B.lk d2 (.frz od (.dK kv))) δ σ H (.ref d2 :: vs) → H d2 = some (.frz od (.dK kv)) := fun δ σ H s => (s.lkDown hn).2
  exact ⟨d2, od, rfl, .inl ⟨kv, hB _ _ _ s6, key_turns (kvs := kvs) hk hB (ht d2 _ hn) (hb d2 _ hn) s6 (endD_lift hn l)⟩⟩
end
end Vt

/-! Comprehensions. -/
namespace Vt
open PySem PySem.Spec PyProof.Rows L2

/-! ### the words -/
/-- slots are forgotten -/
def wipeE : List Nat → En → Option En
  | [], δ => some δ
  | i :: is, δ => match wipeE is δ with
    | some δ' => if δ'.noal i = true then some ⟨δ'.sl.set i .emp, δ'.st⟩ else none
    | none => none
def accum (δ : En) : Option En := match δ.st with
  | .own t :: .own (.lst .mu acc) :: st => if acc.length < lineA then some ⟨δ.sl, .own (.lst .mu (acc ++ [t])) :: st⟩ else none
  | _ => none
def lcGo (n : Nat) (it : Nat → En → Option En) (fin : En → Bool) (g : En → Option En) (cf : BF) (elt : EF) (ws : List Nat) : Nat → En → Option En
  | 0, δ => if fin δ = true then some δ else none
  | k + 1, δ => match it (n - (k + 1)) δ with
    | none => none
    | some δ1 => match g δ1 with
      | none => none
      | some δ2 => match cf δ2 with
        | .ok false δ3 => match wipeE ws δ3 with
          | none => none
          | some δ4 => lcGo n it fin g cf elt ws k δ4
        | .ok true δ3 => match elt δ3 with
          | .ok δ4 => match accum δ4 with
            | none => none
            | some δ5 => match wipeE ws δ5 with
              | none => none
              | some δ6 => lcGo n it fin g cf elt ws k δ6
          | _ => none
        | _ => none
def optR (o : Option En) : Res := match o with
  | some δ => .ok δ
  | none => .no
def bYes : BF := fun δ => .ok true δ
def lay0 (δ : En) : En := ⟨δ.sl, .own (.lst .mu []) :: δ.st⟩
/-- the second of the stack is walked -/
def item2 (kd : T → Option (List T)) (j : Nat) (δ : En) : Option En := match δ.st with
  | _ :: e :: _ => itemE kd e j δ
  | _ => none
def many2 (kd : T → Option (List T)) (n : Nat) (δ : En) : Bool := match δ.st with
  | _ :: e :: _ => manyE kd e δ.sl == some n
  | _ => false
def eLc (kd : T → Option (List T)) (fe : EF) (g : En → Option En) (cf : BF) (elt : EF) (ws : List Nat) : EF := fun δ => (fe δ).bind fun δ1 => match wipeE ws δ1 with
  | none => .no
  | some δ2 => match many kd δ2 with
    | none => .no
    | some n => optR ((lcGo n (item2 kd) (many2 kd n) g cf elt ws n (lay0 δ2)).map rt2)
def yes : En → Bool := fun _ => true
def eLc1 (fe : EF) (g : En → Option En) (cf : BF) (elt : EF) (ws : List Nat) : EF := fun δ => (fe δ).bind fun δ1 => match popI δ1 with
  | none => .no
  | some (j, δ2) => if In62 j then (match wipeE ws δ2 with
    | none => .no
    | some δ3 => optR (lcGo j.toNat (pushI fun i => .int (0 + (i : Nat))) yes g cf elt ws j.toNat (lay0 δ3))) else .no
def eLc2 (fa fb : EF) (g : En → Option En) (cf : BF) (elt : EF) (ws : List Nat) : EF := fun δ => ((fa δ).bind fb).bind fun δ1 => match popI δ1 with
  | none => .no
  | some (j, δ2) => match popI δ2 with
    | none => .no
    | some (i, δ3) => if In62 i ∧ In62 j then (match wipeE ws δ3 with
      | none => .no
      | some δ4 => optR (lcGo (j - i).toNat (pushI fun m => .int (i + (m : Nat))) yes g cf elt ws (j - i).toNat (lay0 δ4))) else .no
def eLcS (fe : EF) (g : En → Option En) (cf : BF) (elt : EF) (ws : List Nat) : EF := fun δ => (fe δ).bind fun δ1 => match δ1.st with
  | .own (.str z) :: st => match wipeE ws ⟨δ1.sl, st⟩ with
    | none => .no
    | some δ2 => optR (lcGo z.cps.size (pushI (strItem z)) yes g cf elt ws z.cps.size (lay0 δ2))
  | _ => .no
/-- unlocked behind a comprehension: the list on top, the dict below -/
def unlk2 (δ : En) : Option En := match δ.st with
  | e :: e' :: st => unlkT ⟨δ.sl, e' :: e :: st⟩
  | _ => none
def eLcD (fe : EF) (g : En → Option En) (cf : BF) (elt : EF) (ws : List Nat) : EF := fun δ => match fe δ with
  | .ok δ0 => match δ0.st with
    | .al i p :: _ => match look δ.sl (.al i p) with
      | some (.dct false kvs) => if δ.free i p = true then (match fe ⟨putAt δ.sl i p (.dct true kvs), .al i p :: δ.st⟩ with
        | .ok δ1 => match δ1.st with
          | .al i2 p2 :: .al i3 p3 :: st3 => if i2 = i3 ∧ p2 = p3 then (match wipeE ws ⟨δ1.sl, .al i3 p3 :: st3⟩ with
            | none => .no
            | some δ2 => match lcGo kvs.length (pushI (keyItem (kvs.map (·.1)))) yes g cf elt ws kvs.length (lay0 δ2) with
              | none => .no
              | some δ3 => optR (unlk2 δ3)) else .no
          | _ => .no
        | _ => .no) else .no
      | _ => .no
    | _ => .no
  | _ => .no

def tTs (X : Cx) (ifs : List Expr) : TT := fun σ H Q => ∀ (pins : List (Addr × Obj)) (s : Shared), Inv X pins σ H s → wpAny (model X.prog X.w) X.A (forIn ifs true fun c r => if r = true then do let ok ← isTrue c X.env (eval c X.env); pure (ForInStep.yield ok) else pure (ForInStep.yield r)) (TP X pins σ Q) X.xe s
theorem pTs {X : Cx} (ifs : List Expr) : PTs X ifs (tTs X ifs) := ⟨fun pins s σ H Q I h => h pins s I⟩
def TssF (X : Cx) (B : Base) (ifs : List Expr) (f : BF) : Prop := ∀ δ σ H vs Q, StT X.K B δ σ H vs → PostB X B (fun _ _ => False) (f δ) σ vs Q → tTs X ifs σ H Q
abbrev Blk (X : Cx) (scope : Scope) (s : Shared) (H : Hp) (C : Addr) (cl : List (Str × Addr)) (fp : List Addr) : Cx := X.blk s H scope (compEnvC scope cl C X.env) fp
def tEb (X : Cx) (scope : Scope) (e : Expr) : TE := fun σ H Q => ∀ (s : Shared) (H0 : Hp) (C : Addr) (cl : List (Str × Addr)) (fp : List Addr), tE (Blk X scope s H0 C cl fp) e σ H Q
def tTb (X : Cx) (scope : Scope) (ifs : List Expr) : TT := fun σ H Q => ∀ (s : Shared) (H0 : Hp) (C : Addr) (cl : List (Str × Addr)) (fp : List Addr), tTs (Blk X scope s H0 C cl fp) ifs σ H Q
/-- the target of a clause -/
structure Tgt (X : Cx) (B : Base) (scope : Scope) (tg : Expr) (t : TG) (g : En → Option En) (ws : List Nat) : Prop where
  pg : ∀ (s : Shared) (H : Hp) (C : Addr) (cl : List (Str × Addr)) (fp : List Addr), PG (Blk X scope s H C cl fp) tg t
  go : ∀ {δ δ' : En} {σ : L2.St} {H : Hp} {v : V} {vs : List V} {Q : L2.St → Hp → Prop}, StT X.K B δ σ H (v :: vs) → g δ = some δ' → (∀ σ', StT X.K B δ' σ' H vs → L2.wipe σ' ws = L2.wipe σ ws → Q σ' H) → t v σ H Q
section
variable {X : Cx} {B : Base} {Ψ : XF} {W : WX} {k n : Nat} {a b c e o tg iter elt : Expr} {es ifs : List Expr} {pos : Pos} {f g h fa fb fc fo fe fv fi fl : EF} {σ : L2.St} {H : Hp} {vs us : List V} {v : V} {p cf : BF} {G : En → Option En} {gs : List (En → Option En)} {scope : Scope} {own : List (Str × Nat)} {ws : List Nat} {tgt : TG}
theorem tss_nil : TssF X B [] bYes := fun δ σ H vs Q s q pins sh I => pts_nil.run pins sh σ H Q I (q H s)
theorem tss_one {c : Expr} (h : TsF X B (fun _ _ => False) c p) : TssF X B [c] p := fun δ σ H vs Q s q pins sh I => (pts_one (pT c)).run pins sh σ H Q I (h δ σ H vs Q s q)
theorem wipe_set {σ : L2.St} {i : Nat} {x : Option V} : ∀ {ws : List Nat}, i ∈ ws → L2.wipe (σ.set i x) ws = L2.wipe σ ws
  | w :: ws, h => by
    show (L2.wipe (σ.set i x) ws).set w none = (L2.wipe σ ws).set w none
    by_cases e : i ∈ ws
    · rw [wipe_set e]
    · have hw : i = w := (List.mem_cons.mp h).resolve_right e
      subst hw
      have comm : ∀ {us : List Nat}, i ∉ us → L2.wipe (σ.set i x) us = (L2.wipe σ us).set i x := by
        intro us
        induction us with
        | nil => intro _; rfl
        | cons u us ih =>
          intro hu
          simp only [List.mem_cons, not_or] at hu
          show (L2.wipe (σ.set i x) us).set u none = ((L2.wipe σ us).set u none).set i x
          rw [ih hu.2, List.set_comm _ _ hu.1]
      rw [comm e, List.set_set]
theorem tgt_name {i : Nat} (pg : ∀ (s : Shared) (H : Hp) (C : Addr) (cl : List (Str × Addr)) (fp : List Addr), PG (Blk X scope s H C cl fp) tg (gName i)) (hp : B.pin i = none) : Tgt X B scope tg (gName i) (gSlot i) [i] where
  pg := pg
  go := fun s h q => q _ (slot_of s h hp) (wipe_set (List.mem_singleton.mpr rfl))
theorem tgt_two {i j : Nat} (pg : ∀ (s : Shared) (H : Hp) (C : Addr) (cl : List (Str × Addr)) (fp : List Addr), PG (Blk X scope s H C cl fp) tg (gTup X.K 2 (gCons (gName i) (gCons (gName j) gNil)))) (hi : B.pin i = none) (hj : B.pin j = none) : Tgt X B scope tg (gTup X.K 2 (gCons (gName i) (gCons (gName j) gNil))) (gTupW [gSlot i, gSlot j]) [i, j] where
  pg := pg
  go := fun {δ δ' σ H v vs Q} s h q => by
    obtain ⟨sl, st⟩ := δ
    unfold gTupW at h
    split at h
    · rename_i ts st' e
      have e' : st = .own (.tup ts) :: st' := e
      subst e'
      split at h
      · rename_i hc
        rw [Bool.and_eq_true, decide_eq_true_eq] at hc
        obtain ⟨S, F, sv, A, t, e1, e2, r1⟩ := s.rd1 (u := .tup ts) rfl
        obtain ⟨a, xs, rfl, h2, h3⟩ := r1.tupR e1
        have hl : xs.length = 2 := by rw [← h3.length, hc.2]; rfl
        have s2 : StT X.K B ⟨sl, ts.map .own ++ st'⟩ σ H (xs ++ vs) := ⟨S, F, sv, Sta.pushDs (h3.pd hc.1) t⟩
        match xs, hl, s2 with
        | [x, y], _, s2 =>
          refine ⟨a, [x, y], rfl, SqT.of h2, rfl, x, [y], rfl, y, [], rfl, rfl, ?_⟩
          unfold runG at h
          split at h
          · rename_i δ1 hg1
            have s3 := slot_of (v := x) s2 hg1 hi
            unfold runG at h
            split at h
            · rename_i δ2 hg2
              cases h
              have s4 := slot_of (v := y) s3 hg2 hj
              refine q _ s4 ?_
              rw [wipe_set (by simp), wipe_set (by simp)]
            · cases h
          · cases h
      · cases h
    · cases h
/-- another σ, the same where something is known -/
theorem StT.sig {δ : En} {σ' : L2.St} (s : StT X.K B δ σ H vs) (hl : σ'.length = σ.length) (h : ∀ (i : Nat) e, δ.sl[i]? = some e → e ≠ .emp → σ'[i]? = σ[i]?) : StT X.K B δ σ' H vs := by
  obtain ⟨S, F, sv, t⟩ := s
  refine ⟨S, F, sv, t.exS, t.exF, t.dj, by rw [hl]; exact t.len, t.lens, t.lenv, fun i e he => ?_, t.rep, t.al, t.bS, t.bF, t.bN, t.bH, t.pin, t.lk, t.lkf⟩
  rcases t.slv i e he with ⟨v, h1, h2⟩ | z
  · by_cases n : e = .emp
    · exact .inr n
    · exact .inl ⟨v, h1, by rw [h i e he n]; exact h2⟩
  · exact .inr z
theorem StT.unset {δ : En} {i : Nat} (s : StT X.K B δ σ H vs) (hn : δ.noal i = true) : StT X.K B ⟨δ.sl.set i .emp, δ.st⟩ σ H vs := by
  obtain ⟨sl, st⟩ := δ
  by_cases hi : i < sl.length
  · obtain ⟨S, F, sv, t⟩ := s
    have lv : vs.length = st.length := t.lenv
    have hold : ((st ++ sl).map Ent.tr)[st.length + i]? = some (sl[i].tr) := by
      rw [List.getElem?_map, List.getElem?_append_right (by omega), Nat.add_sub_cancel_left, List.getElem?_eq_getElem hi]; rfl
    obtain ⟨y, A0, G0, q1, q2, q3, q4, _, q6⟩ := t.rep.foc hold
    have eq2 := q2.e
    subst eq2
    have new := q4 S .gone hnil (Ex.refl S) Dj.nil .gone
    have eset : ((st ++ sl).map Ent.tr).set (st.length + i) .gone = (st ++ sl.set i .emp).map Ent.tr := by
      rw [List.map_append, List.set_append_right _ _ (by simp), List.length_map, Nat.add_sub_cancel_left, List.map_append, List.map_set]; rfl
    rw [eset] at new
    unfold En.noal at hn
    rw [Bool.and_eq_true] at hn
    obtain ⟨n1, n2⟩ := hn
    have okk : ∀ e' v', EntOk H sl sv e' v' → Ent.noal i e' = true → EntOk H (sl.set i .emp) sv e' v' := fun e' v' h hne => by
      cases e' with
      | al j q =>
        obtain ⟨tj, rj, a1, a2, a3, a4⟩ := h
        have : i ≠ j := fun z => by subst z; simp [Ent.noal] at hne
        exact ⟨tj, rj, by rw [List.getElem?_set_ne this]; exact a1, a2, a3, a4⟩
      | _ => trivial
    refine ⟨S, _, sv, t.exS, (Ex.r q2.d).trans t.exF, t.dj.r, by simp; exact t.len, by simp; exact t.lens, lv, fun m e' hm => ?_, new, fun m e' v' h1 h2 => ?_, t.bS, fun b o h1 h2 => ⟨(t.bF b o h1 h2).1, (Ex.r q2.d).free (t.bF b o h1 h2).2⟩, t.bN, t.bH, t.pin, t.lk, t.lkf⟩
    · have hm' : (sl.set i .emp)[m]? = some e' := hm
      by_cases em : i = m
      · subst em; rw [List.getElem?_set_self hi] at hm'; cases hm'; exact .inr rfl
      · rw [List.getElem?_set_ne em] at hm'; exact t.slv m e' hm'
    · have h1' : (st ++ sl.set i .emp)[m]? = some e' := h1
      by_cases hm : m < st.length
      · rw [List.getElem?_append_left hm] at h1'
        exact okk e' v' (t.al m e' v' (by rw [List.getElem?_append_left hm]; exact h1') h2) (List.all_eq_true.mp n1 _ (List.mem_of_getElem? h1'))
      · rw [List.getElem?_append_right (by omega)] at h1'
        by_cases em : i = m - st.length
        · rw [← em, List.getElem?_set_self hi] at h1'; cases h1'; trivial
        · rw [List.getElem?_set_ne em] at h1'
          exact okk e' v' (t.al m e' v' (by rw [List.getElem?_append_right (by show st.length ≤ _; omega)]; exact h1') h2) (List.all_eq_true.mp n2 _ (List.mem_of_getElem? h1'))
  · have : sl.set i .emp = sl := List.set_eq_of_length_le (by omega)
    show StT X.K B ⟨sl.set i .emp, st⟩ σ H vs
    rw [this]; exact s
theorem wipeE_of : ∀ {ws : List Nat} {δ δ' : En}, StT X.K B δ σ H vs → wipeE ws δ = some δ' → StT X.K B δ' σ H vs ∧ δ'.st = δ.st ∧ ∀ i ∈ ws, ∀ e, δ'.sl[i]? = some e → e = .emp
  | [], δ, δ', s, h => by cases h; exact ⟨s, rfl, fun i hi => nomatch hi⟩
  | w :: ws, δ, δ', s, h => by
    unfold wipeE at h
    split at h
    · rename_i δ1 h1
      obtain ⟨s1, e1, f1⟩ := wipeE_of s h1
      split at h
      · rename_i hn
        cases h
        refine ⟨s1.unset hn, e1, fun i hi e he => ?_⟩
        by_cases z : w = i
        · subst z
          have hl := (List.getElem?_eq_some_iff.mp he).1
          simp only [List.length_set] at hl
          have he' : (δ1.sl.set w .emp)[w]? = some e := he
          rw [List.getElem?_set_self hl] at he'; cases he'; rfl
        · have he' : (δ1.sl.set w .emp)[i]? = some e := he
          rw [List.getElem?_set_ne z] at he'
          exact f1 i ((List.mem_cons.mp hi).resolve_left fun y => z y.symm) e he'
      · cases h
    · cases h
theorem wipe_out {σ : L2.St} {i : Nat} : ∀ {ws : List Nat}, i ∉ ws → (L2.wipe σ ws)[i]? = σ[i]?
  | [], _ => rfl
  | w :: ws, h => by
    simp only [List.mem_cons, not_or] at h
    show ((L2.wipe σ ws).set w none)[i]? = _
    rw [List.getElem?_set_ne (fun z => h.1 z.symm), wipe_out h.2]
/-- σ may be changed where the slots are forgotten -/
theorem StT.resig {δ : En} {σ' : L2.St} (s : StT X.K B δ σ H vs) (hw : ∀ i ∈ ws, ∀ e, δ.sl[i]? = some e → e = .emp) (h : L2.wipe σ' ws = L2.wipe σ ws) : StT X.K B δ σ' H vs := by
  have hl : σ'.length = σ.length := by rw [← L2.wipe_length σ' ws, h, L2.wipe_length]
  refine s.sig hl fun i e he hne => ?_
  have ni : i ∉ ws := fun z => hne (hw i z e he)
  rw [← wipe_out (σ := σ') ni, h, wipe_out ni]
theorem wipe_idem {σ : L2.St} : ∀ {ws : List Nat}, L2.wipe (L2.wipe σ ws) ws = L2.wipe σ ws := by
  intro ws
  have : ∀ {us : List Nat}, (∀ i ∈ us, i ∈ ws) → L2.wipe (L2.wipe σ us) ws = L2.wipe σ ws := by
    intro us
    induction us with
    | nil => intro _; rfl
    | cons u us ih =>
      intro hu
      show L2.wipe ((L2.wipe σ us).set u none) ws = _
      rw [wipe_set (hu u List.mem_cons_self), ih fun i hi => hu i (List.mem_cons_of_mem _ hi)]
  exact this fun i hi => hi
theorem accum_of {δ δ' : En} {D : Addr} (s : StT X.K B δ σ H (v :: .ref D :: us)) (h : accum δ = some δ') : ∃ xs, H D = some (.lst xs) ∧ xs.length < sizeLine ∧ StT X.K B δ' σ (upd H D (.lst (xs ++ [v]))) (.ref D :: us) := by
  obtain ⟨sl, st⟩ := δ
  unfold accum at h
  split at h
  · rename_i t acc st' e
    have e' : st = .own t :: .own (.lst .mu acc) :: st' := e
    subst e'
    split at h
    · rename_i hz
      cases h
      obtain ⟨S, F, sv, tt⟩ := s
      obtain ⟨A, F', t', d1, d2, d3, d4, r⟩ := Sta.parts (es := [.own t, .own (.lst .mu acc)]) (xs := [v, .ref D]) tt rfl
      cases r with
      | @cons A1 A2 _ _ _ _ dA r1 r =>
        cases r with
        | @cons A3 A4 _ _ _ _ dB r2 r0 =>
          cases r0
          rw [join_nil] at d1 d2 d3 d4 dA
          cases r2 with
          | leaf h => cases h
          | @lmu U _ _ xs hU rs =>
            have r1 : RepT (kc X.K B) S A1 t v := r1
            have hD : H D = some (.lst xs) := d3 _ _ (Ex.r dA _ _ (join_l one_same))
            have dA1 : Dj A1 U := dA.symm.r.symm
            have A1D : A1 D = none := by
              cases q : A1 D with
              | none => rfl
              | some w => have := dA D (ne_none q); rw [join_l one_same] at this; cases this
            have SD : S D = none := d2 D (by rw [join_r A1D, join_l one_same]; simp)
            have FD : F' D = none := d1 D (by rw [join_r A1D, join_l one_same]; simp)
            have jE : Ex (join U A1) (join A1 (join (one D (.lst xs)) U)) := fun z w hw => by
              rcases join_cases hw with h | ⟨_, h⟩
              · exact ((Ex.r (Dj.one hU)).trans (Ex.r dA)) z w h
              · exact Ex.l z w h
            have nD : (join U A1) D = none := join_none hU A1D
            -- the rest stands as it is when D changes
            have nB : B.lkd D = none := t'.nolk hD fun q u e => nomatch e
            have t2 : Sta X.K B ⟨sl, st'⟩ σ (upd H D (.lst (xs ++ [v]))) us S F' sv := by
              refine ⟨fun b w h => ?_, fun b w h => ?_, t'.dj, t'.len, t'.lens, t'.lenv, t'.slv, t'.rep, fun m e w h1 h2 => ?_, t'.bS, fun b w h1 h2 => ?_, t'.bN, fun b h => ?_, t'.pin, fun b w h => ?_, t'.lkf⟩
              · rw [upd_ne (fun z => by subst z; rw [SD] at h; cases h)]; exact t'.exS b w h
              · rw [upd_ne (fun z => by subst z; rw [FD] at h; cases h)]; exact t'.exF b w h
              · have old := t'.al m e w h1 h2
                cases e with
                | emp => trivial
                | own _ => trivial
                | al j q =>
                  obtain ⟨tj, rj, a1, a2, a3, a4⟩ := old
                  refine ⟨tj, rj, a1, a2, a3, ?_⟩
                  obtain ⟨r', A', z1, _, z3, z4⟩ := t'.slot (i := j) a1
                  rw [a3] at z1; cases z1
                  have eF' : Ex F' (upd H D (.lst (xs ++ [v]))) := fun b w h => by
                    rw [upd_ne (fun z => by subst z; rw [FD] at h; cases h)]; exact t'.exF b w h
                  have eS' : Ex S (upd H D (.lst (xs ++ [v]))) := fun b w h => by
                    rw [upd_ne (fun z => by subst z; rw [SD] at h; cases h)]; exact t'.exS b w h
                  exact wk_in z4 (z3.trans t'.exF) t'.exS (z3.trans eF') eS' a2 a4
              · obtain ⟨z1, z2⟩ := t'.bF b w h1 h2
                refine ⟨?_, z2⟩
                rw [upd_ne]; exact z1
                intro z; subst z
                have := d4 b w h1 h2
                rw [join_r A1D, join_l one_same] at this; cases this
              · by_cases z : b = D
                · subst z; rw [upd_same]; simp
                · rw [upd_ne z]; exact t'.bH b h
              · rw [upd_ne (fun z => by subst z; rw [nB] at h; cases h)]; exact t'.lk b w h
            have rnew : RepT (kc X.K B) S (join (one D (.lst (xs ++ [v]))) (join U A1)) (.lst .mu (acc ++ [t])) (.ref D) := .lmu nD (rs.app dA1.symm (RepTs.one r1))
            refine ⟨xs, hD, by rw [← rs.length]; exact line_lt hz, S, _, sv, t2.push rnew (Dj.jl (Dj.one FD) (d1.exl jE)) (Dj.jl (Dj.one SD) (d2.exl jE)) (Ex.join (Ex.one upd_same) fun b w hb => ?_) fun b w h1 h2 => join_none ?_ (jE.free (d4 b w h1 h2))⟩
            · rw [upd_ne (fun z => by subst z; rw [nD] at hb; cases hb)]
              exact d3 b w (jE b w hb)
            · cases q : one D (.lst (xs ++ [v])) b with
              | none => rfl
              | some y =>
                obtain ⟨rfl, _⟩ := one_some q
                have := d4 b w h1 h2
                rw [join_r A1D, join_l one_same] at this; cases this
    · cases h
  · cases h
/-- the turns of a comprehension -/
theorem lc_turns {J : It} {n : Nat} {it : Nat → En → Option En} {fin : En → Bool} {δ1 : En} {Q : VK} (T0 : Tgt X B scope tg tgt G ws)
    (hg : ∀ i D δ δ' σ H, i < n → StT X.K B δ σ H (.ref D :: us) → it i δ = some δ' → J.go i H ∧ ∀ x H', J.yld i H x H' → H' = H ∧ StT X.K B δ' σ H (x :: .ref D :: us))
    (hs : ∀ D δ σ H, StT X.K B δ σ H (.ref D :: us) → fin δ = true → J.stop n H)
    (hc : ∀ s H0 C cl fp, TssF (Blk X scope s H0 C cl fp) B ifs cf) (he : ∀ s H0 C cl fp, EvF (Blk X scope s H0 C cl fp) B (fun _ _ => False) elt fl)
    (s : StT X.K B δ1 σ H us) (hw : ∀ i ∈ ws, ∀ e, δ1.sl[i]? = some e → e = .emp) {δ2 : En} (l : lcGo n it fin G cf fl ws n (lay0 δ1) = some δ2) (q : ∀ D H', StT X.K B δ2 σ H' (.ref D :: us) → Q (.ref D) H') :
    ∀ D, H D = none → ∃ W : Nat → Nat → Hp → Prop, (∃ m, W 0 m (upd H D (.lst []))) ∧ ∀ i m H, W i m H →
      (J.stop i H ∧ Q (.ref D) H) ∨ (J.go i H ∧ ∃ Nx : Hp → Prop, (∀ H', Nx H' → ∃ m', m' < m ∧ W (i + 1) m' H') ∧ ∀ x H', J.yld i H x H' → tgt x (L2.wipe σ ws) H' fun σ2 H2 => L2.wipe σ2 ws = L2.wipe σ ws ∧ tTb X scope ifs σ2 H2 fun b H3 =>
        if b = true then tEb X scope elt σ2 H3 fun y H4 => ∃ acc, H4 D = some (.lst acc) ∧ acc.length < sizeLine ∧ Nx (upd H4 D (.lst (acc ++ [y]))) else Nx H3) := by
  intro D hD
  have s0 : StT X.K B (lay0 δ1) σ (upd H D (.lst [])) (.ref D :: us) := by
    obtain ⟨S, F, sv, t⟩ := s
    exact t.newL .nil hD
  refine ⟨fun i m H => m = n - i ∧ i ≤ n ∧ ∃ δ, StT X.K B δ σ H (.ref D :: us) ∧ (∀ i ∈ ws, ∀ e, δ.sl[i]? = some e → e = .emp) ∧ lcGo n it fin G cf fl ws (n - i) δ = some δ2, ⟨_, rfl, Nat.zero_le _, _, s0, hw, l⟩, ?_⟩
  rintro i m H ⟨rfl, hi, δ, s, hw, l⟩
  by_cases hlt : i < n
  · obtain ⟨kk, hkk⟩ : ∃ kk, n - i = kk + 1 := ⟨n - i - 1, by omega⟩
    rw [hkk] at l ⊢
    unfold lcGo at l
    rw [show n - (kk + 1) = i by omega] at l
    cases z : it i δ with
    | none => rw [z] at l; cases l
    | some δ3 =>
      simp only [z] at l
      have sw : StT X.K B δ (L2.wipe σ ws) H (.ref D :: us) := s.resig (ws := ws) hw wipe_idem
      obtain ⟨g1, g2⟩ := hg i D δ δ3 _ H hlt sw z
      refine .inr ⟨g1, fun H' => ∃ δ, StT X.K B δ σ H' (.ref D :: us) ∧ (∀ i ∈ ws, ∀ e, δ.sl[i]? = some e → e = .emp) ∧ lcGo n it fin G cf fl ws kk δ = some δ2, fun H' ⟨δ, q1, q2, q3⟩ => ⟨kk, Nat.lt_succ_self _, by omega, hlt, δ, q1, q2, by rw [show n - (i + 1) = kk by omega]; exact q3⟩, fun x H' hy => ?_⟩
      obtain ⟨rfl, s3⟩ := g2 x H' hy
      cases z2 : G δ3 with
      | none => simp only [z2] at l; cases l
      | some δ4 =>
        simp only [z2] at l
        refine T0.go s3 z2 fun σ2 s4 hσ => ?_
        have hσ2 : L2.wipe σ2 ws = L2.wipe σ ws := by rw [hσ, wipe_idem]
        refine ⟨hσ2, fun sh H0 C cl fp => ?_⟩
        refine hc sh H0 C cl fp δ4 σ2 H' _ _ s4 ?_
        cases z3 : cf δ4 with
        | no => simp only [z3] at l; cases l
        | ex C sl => simp only [z3] at l; cases l
        | ok bb δ5 =>
          intro H3 s5
          cases bb with
          | false =>
            simp only [z3] at l
            show ∃ δ, _
            split at l
            · cases l
            · rename_i δ6 z6
              obtain ⟨s6, _, w6⟩ := wipeE_of s5 z6
              exact ⟨δ6, s6.resig w6 hσ2.symm, w6, l⟩
          | true =>
            simp only [z3] at l
            show tEb X scope elt σ2 H3 _
            intro sh H0 C cl fp
            refine he sh H0 C cl fp δ5 σ2 H3 _ _ s5 ?_
            cases z4 : fl δ5 with
            | no => simp only [z4] at l; cases l
            | ex C sl => simp only [z4] at l; cases l
            | ok δ6 =>
              simp only [z4] at l
              intro y H4 s6
              split at l
              · cases l
              · rename_i δ7 z7
                obtain ⟨xs, x1, x2, s7⟩ := accum_of s6 z7
                split at l
                · cases l
                · rename_i δ8 z8
                  obtain ⟨s8, _, w8⟩ := wipeE_of s7 z8
                  exact ⟨xs, x1, x2, δ8, s8.resig w8 hσ2.symm, w8, l⟩
  · have e : i = n := by omega
    subst e
    rw [Nat.sub_self] at l
    unfold lcGo at l
    split at l
    · rename_i hf
      cases l
      exact .inl ⟨hs D _ σ H s hf, q D H s⟩
    · cases l
theorem item2_go {kd : T → Option (List T)} {J : Addr → It} {Sq : Addr → Hp → Prop} (wk : Walks X B kd J Sq) {i : Nat} {D a0 : Addr} {δ δ' : En} (s : StT X.K B δ σ H (.ref D :: .ref a0 :: vs)) (h : item2 kd i δ = some δ') : (J a0).go i H ∧ ∀ x H', (J a0).yld i H x H' → H' = H ∧ StT X.K B δ' σ H (x :: .ref D :: .ref a0 :: vs) := by
  obtain ⟨sl, st⟩ := δ
  unfold item2 at h
  split at h
  · rename_i e0 e1 st' e
    have e' : st = e0 :: e1 :: st' := e
    subst e'
    obtain ⟨t1, ts1, u1, hl1, hk1, hu1⟩ := itemE_in h
    obtain ⟨S, F, sv, tt⟩ := id s
    obtain ⟨A, eA, rA⟩ := tt.look_at (m := 1) (e := e1) (v := .ref a0) rfl rfl hl1
    obtain ⟨a', o, xs, h1, h2, h3, h4, h5, h6, h7, h8, h9⟩ := wk.at_ rA tt.exS (eA.trans tt.exF) hk1
    cases h1
    have hil : i < xs.length := by rw [h4]; exact (List.getElem?_eq_some_iff.mp hu1).1
    refine ⟨h8 i _ (List.getElem?_eq_getElem hil), fun x H' hy => ?_⟩
    obtain ⟨rfl, hx⟩ := h9 i x H' hy
    refine ⟨rfl, itemE_of (m := 1) s rfl rfl hl1 hk1 h h2 (by rw [h5]; exact hx) fun S A u e1 e2 r hu => ?_⟩
    obtain ⟨a'', o'', xs'', g1, g2, g3, g4, g5, ⟨G6, g6⟩, _⟩ := wk.at_ r e1 e2 hk1
    cases g1
    rw [h2] at g2; cases g2
    obtain ⟨x', A', w1, _, w3⟩ := g6.at hu
    have : xs''[i]? = xs[i]? := by rw [← g5, ← h5]
    rw [this, hx] at w1; cases w1
    exact ⟨A', w3⟩
  · cases h
theorem many2_stop {kd : T → Option (List T)} {J : Addr → It} {Sq : Addr → Hp → Prop} (wk : Walks X B kd J Sq) {n : Nat} {D a0 : Addr} {δ : En} (s : StT X.K B δ σ H (.ref D :: .ref a0 :: vs)) (h : many2 kd n δ = true) : (J a0).stop n H := by
  obtain ⟨sl, st⟩ := δ
  unfold many2 at h
  split at h
  · rename_i e0 e1 st' e
    have e' : st = e0 :: e1 :: st' := e
    subst e'
    obtain ⟨t1, ts1, hl1, hk1, hn1⟩ := manyE_of (beq_iff_eq.mp h)
    obtain ⟨S, F, sv, tt⟩ := id s
    obtain ⟨A, eA, rA⟩ := tt.look_at (m := 1) (e := e1) (v := .ref a0) rfl rfl hl1
    obtain ⟨a', o, xs, h1, h2, h3, h4, h5, h6, h7, h8, h9⟩ := wk.at_ rA tt.exS (eA.trans tt.exF) hk1
    cases h1
    exact h7 n (by rw [h4, hn1]; exact Nat.le_refl _)
  · cases h
theorem lc_walk {kd : T → Option (List T)} {J : Addr → It} {Sq : Addr → Hp → Prop} (wk : Walks X B kd J Sq) {δ1 : En} {Q : VK} (T0 : Tgt X B scope tg tgt G ws) (hc : ∀ s H0 C cl fp, TssF (Blk X scope s H0 C cl fp) B ifs cf) (he : ∀ s H0 C cl fp, EvF (Blk X scope s H0 C cl fp) B (fun _ _ => False) elt fl)
    (s : StT X.K B δ1 σ H (v :: vs)) (q : PostF X B Ψ (match wipeE ws δ1 with | none => .no | some δ2 => match many kd δ2 with | none => .no | some n => optR ((lcGo n (item2 kd) (many2 kd n) G cf fl ws n (lay0 δ2)).map rt2)) σ vs Q) :
    ∃ a, v = .ref a ∧ Sq a H ∧ ∀ D, H D = none → ∃ W : Nat → Nat → Hp → Prop, (∃ m, W 0 m (upd H D (.lst []))) ∧ ∀ i m H, W i m H →
      ((J a).stop i H ∧ Q (.ref D) H) ∨ ((J a).go i H ∧ ∃ Nx : Hp → Prop, (∀ H', Nx H' → ∃ m', m' < m ∧ W (i + 1) m' H') ∧ ∀ x H', (J a).yld i H x H' → tgt x (L2.wipe σ ws) H' fun σ2 H2 => L2.wipe σ2 ws = L2.wipe σ ws ∧ tTb X scope ifs σ2 H2 fun b H3 =>
        if b = true then tEb X scope elt σ2 H3 fun y H4 => ∃ acc, H4 D = some (.lst acc) ∧ acc.length < sizeLine ∧ Nx (upd H4 D (.lst (acc ++ [y]))) else Nx H3) := by
  split at q
  · exact q.elim
  · rename_i δ2 z2
    obtain ⟨s2, _, w2⟩ := wipeE_of s z2
    split at q
    · exact q.elim
    · rename_i n hm
      obtain ⟨e0, st0, t0, ts0, he0, hl0, hk0, hn0⟩ := many_of hm
      have hv : ∃ a, v = .ref a ∧ Sq a H := by
        obtain ⟨sl, st⟩ := δ2
        simp only at he0
        subst he0
        obtain ⟨S, F, sv, A, t, e1, e2, r1⟩ := s2.rd1 hl0
        obtain ⟨a, o, xs, h1, h2, h3, _⟩ := wk.at_ r1 e1 e2 hk0
        exact ⟨a, h1, h3⟩
      obtain ⟨a0, rfl, hsq⟩ := hv
      refine ⟨a0, rfl, hsq, ?_⟩
      cases z3 : lcGo n (item2 kd) (many2 kd n) G cf fl ws n (lay0 δ2) with
      | none => rw [z3] at q; exact q.elim
      | some δ3 =>
        rw [z3] at q
        exact lc_turns (us := .ref a0 :: vs) T0 (fun i D δ δ' σ H hi s h => item2_go wk s h) (fun D δ σ H s h => many2_stop wk s h) hc he s2 w2 z3 fun D H' s' => q _ _ s'.rt2
/-- a comprehension: what its turns ask -/
def LcF (X : Cx) (B : Base) (Ψ : XF) (elt tg iter : Expr) (ifs : List Expr) (scope : Scope) (own : List (Str × Nat)) (f : EF) : Prop :=
  ∃ (wi : TI) (g : TG) (tt : TT) (te : TE), PI X tg iter wi ∧ BlkOk X.N X.env.scope scope own ∧
    (∀ (s : Shared) (H : Hp) (C : Addr) (cl : List (Str × Addr)) (fp : List Addr), PG (Blk X scope s H C cl fp) tg g) ∧
    (∀ (s : Shared) (H : Hp) (C : Addr) (cl : List (Str × Addr)) (fp : List Addr), PTs (Blk X scope s H C cl fp) ifs tt) ∧
    (∀ (s : Shared) (H : Hp) (C : Addr) (cl : List (Str × Addr)) (fp : List Addr), PE (Blk X scope s H C cl fp) elt te) ∧
    (∀ x, foldedSetIterable iter X.env x = pure x) ∧
    ∀ δ σ H vs Q, StT X.K B δ σ H vs → PostF X B Ψ (f δ) σ vs Q → tLc wi g tt te (own.map (·.2)) σ H Q
theorem ev_lc {f : EF} (c : CxOk X B W Ψ k) (h : LcF X B Ψ elt tg iter ifs scope own f) : EvF X B Ψ (.ListComp elt [⟨tg, iter, ifs, 0⟩] scope pos) f := fun δ σ H vs Q s q => by
  obtain ⟨wi, g, tt, te, h1, h2, h3, h4, h5, h6, h7⟩ := h
  exact (pe_lc c.calm c.nd h1 h2 h3 h4 h5 h6).tov (h7 δ σ H vs Q s q)
/-- name = [..] -/
theorem st_setLc {f : EF} {i : Nat} {y : Str} {py spos : Pos} (c : CxOk X B W Ψ k) (h : LcF X B Ψ elt tg iter ifs scope own f) (hi : X.N[i]? = some y) (hyl : X.env.scope.names.lookup y = some .local) (hsw : swapsWith (.ListComp elt [⟨tg, iter, ifs, 0⟩] scope pos) (some (.Name y py)) spos.line X.env = pure true) (hp : B.pin i = none) :
    StF X B Ψ (.Assign [.Name y py] (.ListComp elt [⟨tg, iter, ifs, 0⟩] scope pos) spos) (sSet i f) := fun δ σ H vs Dn s l => by
  obtain ⟨wi, g, tt, te, h1, h2, h3, h4, h5, h6, h7⟩ := h
  exact (ps_setLc c.calm c.nd hi hyl hsw h1 h2 h3 h4 h5 h6).tov (h7 δ σ H vs _ s (lift_res l fun δ1 l1 v H1 s1 => by
    cases z : gSlot i δ1 with
    | none => rw [z] at l1; exact absurd rfl l1.no
    | some δ2 => rw [z] at l1; exact l1.nx δ2 _ H1 rfl (slot_of s1 z hp)))
theorem lc_L (c : CxOk X B W Ψ k) (ok : BlkOk X.N X.env.scope scope own) (hv : own.map (·.2) = ws) (T0 : Tgt X B scope tg tgt G ws) (hi : EvF X B Ψ iter fe) (hc : ∀ s H0 C cl fp, TssF (Blk X scope s H0 C cl fp) B ifs cf) (he : ∀ s H0 C cl fp, EvF (Blk X scope s H0 C cl fp) B (fun _ _ => False) elt fl) (hs : ∀ x, foldedSetIterable iter X.env x = pure x) :
    LcF X B Ψ elt tg (iter) ifs scope own (eLc kL fe G cf fl ws) := by
  subst hv
  refine ⟨_, _, tTb X scope ifs, tEb X scope elt, (pi_list (pE iter)), ok, T0.pg, (fun s H0 C cl fp => ⟨fun pins sh σ H Q I h => h s H0 C cl fp pins sh I⟩), (fun s H0 C cl fp => ⟨fun pins sh σ H Q I h => h s H0 C cl fp pins sh I⟩), hs, fun δ σ H vs Q s q => ?_⟩
  exact hi δ σ H vs _ s (post_b (P := fun r => PostF X B Ψ r σ vs Q) q (fun _ _ h => h) (fun h => h) fun δ1 h1 v H1 s1 => lc_walk walksL T0 hc he s1 h1)
theorem lc_T (c : CxOk X B W Ψ k) (ok : BlkOk X.N X.env.scope scope own) (hv : own.map (·.2) = ws) (T0 : Tgt X B scope tg tgt G ws) (hi : EvF X B Ψ iter fe) (hc : ∀ s H0 C cl fp, TssF (Blk X scope s H0 C cl fp) B ifs cf) (he : ∀ s H0 C cl fp, EvF (Blk X scope s H0 C cl fp) B (fun _ _ => False) elt fl) (hs : ∀ x, foldedSetIterable iter X.env x = pure x) :
    LcF X B Ψ elt tg (iter) ifs scope own (eLc kT fe G cf fl ws) := by
  subst hv
  refine ⟨_, _, tTb X scope ifs, tEb X scope elt, (pi_tup (pE iter)), ok, T0.pg, (fun s H0 C cl fp => ⟨fun pins sh σ H Q I h => h s H0 C cl fp pins sh I⟩), (fun s H0 C cl fp => ⟨fun pins sh σ H Q I h => h s H0 C cl fp pins sh I⟩), hs, fun δ σ H vs Q s q => ?_⟩
  exact hi δ σ H vs _ s (post_b (P := fun r => PostF X B Ψ r σ vs Q) q (fun _ _ h => h) (fun h => h) fun δ1 h1 v H1 s1 => lc_walk walksT T0 hc he s1 h1)
/-- turns over data that leans on nothing -/
theorem lc_data {J : It} {n : Nat} {f : Nat → T} {δ1 : En} {Q : VK} (T0 : Tgt X B scope tg tgt G ws) (hc : ∀ s H0 C cl fp, TssF (Blk X scope s H0 C cl fp) B ifs cf) (he : ∀ s H0 C cl fp, EvF (Blk X scope s H0 C cl fp) B (fun _ _ => False) elt fl)
    (hg : ∀ i H, i < n → (∃ D δ σ, StT X.K B δ σ H (.ref D :: us)) → J.go i H ∧ ∀ x H', J.yld i H x H' → H' = H ∧ leafV (f i) = some x) (hs : ∀ H, (∃ D δ σ, StT X.K B δ σ H (.ref D :: us)) → J.stop n H) (s : StT X.K B δ1 σ H us) {δ2 δ3 : En} (hw : wipeE ws δ1 = some δ2) (l : lcGo n (pushI f) yes G cf fl ws n (lay0 δ2) = some δ3) (q : ∀ D H', StT X.K B δ3 σ H' (.ref D :: us) → Q (.ref D) H') :
    ∀ D, H D = none → ∃ W : Nat → Nat → Hp → Prop, (∃ m, W 0 m (upd H D (.lst []))) ∧ ∀ i m H, W i m H →
      (J.stop i H ∧ Q (.ref D) H) ∨ (J.go i H ∧ ∃ Nx : Hp → Prop, (∀ H', Nx H' → ∃ m', m' < m ∧ W (i + 1) m' H') ∧ ∀ x H', J.yld i H x H' → tgt x (L2.wipe σ ws) H' fun σ2 H2 => L2.wipe σ2 ws = L2.wipe σ ws ∧ tTb X scope ifs σ2 H2 fun b H3 =>
        if b = true then tEb X scope elt σ2 H3 fun y H4 => ∃ acc, H4 D = some (.lst acc) ∧ acc.length < sizeLine ∧ Nx (upd H4 D (.lst (acc ++ [y]))) else Nx H3) := by
  obtain ⟨s2, _, w2⟩ := wipeE_of s hw
  refine lc_turns (us := us) T0 (fun i D δ δ' σ H hi s h => ?_) (fun D δ σ H s _ => hs H ⟨D, δ, σ, s⟩) hc he s2 w2 l q
  obtain ⟨g1, g2⟩ := hg i H hi ⟨D, δ, σ, s⟩
  refine ⟨g1, fun x H' hy => ?_⟩
  obtain ⟨rfl, hx⟩ := g2 x H' hy
  cases h
  exact ⟨rfl, StT.pushL s hx⟩
theorem lc_1 {p ps : Pos} (c : CxOk X B W Ψ k) (ok : BlkOk X.N X.env.scope scope own) (hv : own.map (·.2) = ws) (T0 : Tgt X B scope tg tgt G ws) (hm : X.mg "range" = none) (hgl : Gl X "range") (hi : EvF X B Ψ a fa) (hc : ∀ s H0 C cl fp, TssF (Blk X scope s H0 C cl fp) B ifs cf) (he : ∀ s H0 C cl fp, EvF (Blk X scope s H0 C cl fp) B (fun _ _ => False) elt fl)
    (hs : starEach [a] X.env = [(false, eval a X.env)]) (hf : ∀ x, foldedSetIterable (.Call (.Name "range" p) [a] [] ps) X.env x = pure x) :
    LcF X B Ψ elt tg (.Call (.Name "range" p) [a] [] ps) ifs scope own (eLc1 fa G cf fl ws) := by
  subst hv
  refine ⟨_, _, tTb X scope ifs, tEb X scope elt, (pi_range1 hgl hm (pa_cons (pE a) pa_nil hs) hs), ok, T0.pg, (fun s H0 C cl fp => ⟨fun pins sh σ H Q I h => h s H0 C cl fp pins sh I⟩), (fun s H0 C cl fp => ⟨fun pins sh σ H Q I h => h s H0 C cl fp pins sh I⟩), hf, fun δ σ H vs Q s q => ?_⟩
  refine hi δ σ H vs _ s (post_b (P := fun r => PostF X B Ψ r σ vs Q) q (fun _ _ h => h) (fun h => h) fun δ1 h1 v H1 s1 => ?_)
  cases z : popI δ1 with
  | none => rw [z] at h1; exact h1.elim
  | some p =>
    obtain ⟨j, δ2⟩ := p
    simp only [z] at h1
    obtain ⟨rfl, s2⟩ := popI_of s1 z
    split at h1
    · rename_i hj
      refine ⟨j, rfl, hj.1, hj.2, ?_⟩
      split at h1
      · exact h1.elim
      · rename_i δ3 z3
        cases z4 : lcGo j.toNat (pushI fun i => .int (0 + (i : Nat))) yes G cf fl (own.map (·.2)) j.toNat (lay0 δ3) with
        | none => rw [z4] at h1; exact h1.elim
        | some δ4 =>
          rw [z4] at h1
          exact lc_data (J := Itr 0 j.toNat) (f := fun i => .int (0 + (i : Nat))) T0 hc he (fun i H hi _ => ⟨hi, fun x H' hy => ⟨hy.1, by rw [hy.2]; rfl⟩⟩) (fun H _ => Nat.le_refl _) s2 z3 z4 fun D H' s' => h1 _ _ s'
    · exact h1.elim
theorem lc_2 {p ps : Pos} (c : CxOk X B W Ψ k) (ok : BlkOk X.N X.env.scope scope own) (hv : own.map (·.2) = ws) (T0 : Tgt X B scope tg tgt G ws) (hm : X.mg "range" = none) (hgl : Gl X "range") (ha : EvF X B Ψ a fa) (hb : EvF X B Ψ b fb) (hc : ∀ s H0 C cl fp, TssF (Blk X scope s H0 C cl fp) B ifs cf) (he : ∀ s H0 C cl fp, EvF (Blk X scope s H0 C cl fp) B (fun _ _ => False) elt fl)
    (hs : starEach [a, b] X.env = [(false, eval a X.env), (false, eval b X.env)]) (hs2 : starEach [b] X.env = [(false, eval b X.env)]) (hf : ∀ x, foldedSetIterable (.Call (.Name "range" p) [a, b] [] ps) X.env x = pure x) :
    LcF X B Ψ elt tg (.Call (.Name "range" p) [a, b] [] ps) ifs scope own (eLc2 fa fb G cf fl ws) := by
  subst hv
  refine ⟨_, _, tTb X scope ifs, tEb X scope elt, (pi_range2 hgl hm (pa_cons (pE a) (pa_cons (pE b) pa_nil hs2) (by rw [hs, hs2])) hs hs2), ok, T0.pg, (fun s H0 C cl fp => ⟨fun pins sh σ H Q I h => h s H0 C cl fp pins sh I⟩), (fun s H0 C cl fp => ⟨fun pins sh σ H Q I h => h s H0 C cl fp pins sh I⟩), hf, fun δ σ H vs Q s q => ?_⟩
  refine ha δ σ H vs _ s (post_b (P := fun r => PostF X B Ψ (r.bind _) σ vs Q) (k := fb) q (fun _ _ h => h) (fun h => h) fun δ0 h0 v0 H0 s0 => hb δ0 σ H0 _ _ s0 (post_b (P := fun r => PostF X B Ψ r σ vs Q) h0 (fun _ _ h => h) (fun h => h) fun δ1 h1 v H1 s1 => ?_))
  cases z : popI δ1 with
  | none => rw [z] at h1; exact h1.elim
  | some p =>
    obtain ⟨j, δ2⟩ := p
    simp only [z] at h1
    obtain ⟨rfl, s2⟩ := popI_of s1 z
    cases zz : popI δ2 with
    | none => rw [zz] at h1; exact h1.elim
    | some p2 =>
      obtain ⟨i0, δ3⟩ := p2
      simp only [zz] at h1
      obtain ⟨rfl, s3⟩ := popI_of s2 zz
      split at h1
      · rename_i hj
        refine ⟨i0, j, rfl, ⟨hj.1.1, hj.1.2, hj.2.1, hj.2.2⟩, ?_⟩
        split at h1
        · exact h1.elim
        · rename_i δ4 z3
          cases z4 : lcGo (j - i0).toNat (pushI fun m => .int (i0 + (m : Nat))) yes G cf fl (own.map (·.2)) (j - i0).toNat (lay0 δ4) with
          | none => rw [z4] at h1; exact h1.elim
          | some δ5 =>
            rw [z4] at h1
            exact lc_data (J := Itr i0 (j - i0).toNat) (f := fun i => .int (i0 + (i : Nat))) T0 hc he (fun i H hi _ => ⟨hi, fun x H' hy => ⟨hy.1, by rw [hy.2]; rfl⟩⟩) (fun H _ => Nat.le_refl _) s3 z3 z4 fun D H' s' => h1 _ _ s'
      · exact h1.elim
theorem lc_S (c : CxOk X B W Ψ k) (ok : BlkOk X.N X.env.scope scope own) (hv : own.map (·.2) = ws) (T0 : Tgt X B scope tg tgt G ws) (hi : EvF X B Ψ iter fe) (hc : ∀ s H0 C cl fp, TssF (Blk X scope s H0 C cl fp) B ifs cf) (he : ∀ s H0 C cl fp, EvF (Blk X scope s H0 C cl fp) B (fun _ _ => False) elt fl) (hs : ∀ x, foldedSetIterable iter X.env x = pure x) :
    LcF X B Ψ elt tg (iter) ifs scope own (eLcS fe G cf fl ws) := by
  subst hv
  refine ⟨_, _, tTb X scope ifs, tEb X scope elt, (pi_str (pE iter)), ok, T0.pg, (fun s H0 C cl fp => ⟨fun pins sh σ H Q I h => h s H0 C cl fp pins sh I⟩), (fun s H0 C cl fp => ⟨fun pins sh σ H Q I h => h s H0 C cl fp pins sh I⟩), hs, fun δ σ H vs Q s q => ?_⟩
  refine hi δ σ H vs _ s (post_b (P := fun r => PostF X B Ψ r σ vs Q) q (fun _ _ h => h) (fun h => h) fun δ1 h1 v H1 s1 => ?_)
  obtain ⟨sl, st⟩ := δ1
  split at h1
  · rename_i z st' e
    have e' : st = .own (.str z) :: st' := e
    subst e'
    obtain ⟨_, _, _, _, _, _, _, r⟩ := s1.rd1 (u := .str z) rfl
    refine ⟨z, lv r rfl, ?_⟩
    split at h1
    · exact h1.elim
    · rename_i δ3 z3
      cases z4 : lcGo z.cps.size (pushI (strItem z)) yes G cf fl (own.map (·.2)) z.cps.size (lay0 δ3) with
      | none => rw [z4] at h1; exact h1.elim
      | some δ4 =>
        rw [z4] at h1
        refine lc_data (J := Its z) (f := strItem z) T0 hc he (fun i H hi _ => ⟨hi, fun x H' hy => ?_⟩) (fun H _ => Nat.le_refl _) s1.pop z3 z4 fun D H' s' => h1 _ _ s'
        obtain ⟨rfl, cc, hc, rfl⟩ := hy
        refine ⟨rfl, ?_⟩
        have : z.cps.getD i 0 = cc := by rw [Array.getD_eq_getD_getElem?, hc]; rfl
        show some (V.str ⟨#[z.cps.getD i 0]⟩) = _
        rw [this]
  · exact h1.elim
theorem ev_lcD (c : CxOk X B W Ψ k) (ok : BlkOk X.N X.env.scope scope own) (hv : own.map (·.2) = ws) (T0 : ∀ d o, B.lkd d = none → Tgt X (B.lk d o) scope tg tgt G ws) (hi : ∀ d o, B.lkd d = none → EvF X (B.lk d o) Ψ iter fe) (hc : ∀ d o, B.lkd d = none → ∀ s H0 C cl fp, TssF (Blk X scope s H0 C cl fp) (B.lk d o) ifs cf) (he : ∀ d o, B.lkd d = none → ∀ s H0 C cl fp, EvF (Blk X scope s H0 C cl fp) (B.lk d o) (fun _ _ => False) elt fl) (hs : ∀ x, foldedSetIterable iter X.env x = pure x) :
    EvF X B Ψ (.ListComp elt [⟨tg, iter, ifs, 0⟩] scope pos) (eLcD fe G cf fl ws) := fun δ σ H vs Q s q => by
  subst hv
  unfold eLcD at q
  split at q
  case h_2 => exact q.elim
  rename_i δ0 z0
  split at q
  case h_2 => exact q.elim
  rename_i i p st0 e0
  split at q
  case h_2 => exact q.elim
  rename_i kvs hl
  split at q
  case isFalse => exact q.elim
  rename_i hf
  split at q
  case h_2 => exact q.elim
  rename_i δ1 z1
  split at q
  case h_2 => exact q.elim
  rename_i i2 p2 i3 p3 st3 e2
  split at q
  case isFalse => exact q.elim
  rename_i hip
  obtain ⟨rfl, rfl⟩ := hip
  split at q
  case h_1 => exact q.elim
  rename_i δ2 z2
  split at q
  case h_1 => exact q.elim
  rename_i δ3 z3
  obtain ⟨sl, st⟩ := δ
  obtain ⟨d, kv, hd, hn, hk, s4⟩ := lock_at s hl hf
  refine (pe_lock (pe_lc (tt := tTb X scope ifs) (te := tEb X scope elt) c.calm c.nd (pi_keys (pE iter)) ok (T0 d (.dK kv) hn).pg (fun s H0 C cl fp => ⟨fun pins sh σ H Q I h => h s H0 C cl fp pins sh I⟩) (fun s H0 C cl fp => ⟨fun pins sh σ H Q I h => h s H0 C cl fp pins sh I⟩) hs)).tov ⟨d, .dK kv, hd, trivial, fun od => ?_⟩
  refine hi d (.frz od (.dK kv)) hn _ σ _ (.ref d :: vs) _ (s4 od) ?_
  rw [z1]
  intro v H4 s5
  obtain ⟨sl1, st1⟩ := δ1
  simp only at e2
  subst e2
  have hv := s5.same
  subst hv
  have s6 := s5.pop
  have el := dct_len hk
  have hB : ∀ δ σ H us, StT X.K (B.lk d (.frz od (.dK kv))) δ σ H us → H d = some (.frz od (.dK kv)) := fun δ σ H us s => (s.lkDown hn).2
  refine ⟨d, od, rfl, .inl ⟨kv, hB _ _ _ _ s6, ?_⟩⟩
  have hg : ∀ i H, i < kvs.length → (∃ D δ σ, StT X.K (B.lk d (.frz od (.dK kv))) δ σ H (.ref D :: .ref d :: vs)) → (Itk d od kv).go i H ∧ ∀ x H', (Itk d od kv).yld i H x H' → H' = H ∧ leafV (keyItem (kvs.map (·.1)) i) = some x := by
    intro i H hi hh
    obtain ⟨D, δ, σ, s⟩ := hh
    refine ⟨⟨hB _ _ _ _ s, by omega⟩, ?_⟩
    intro x H' hy
    obtain ⟨rfl, kk, w, hkk, rfl⟩ := hy
    refine ⟨rfl, ?_⟩
    have e1 : (kv.map (·.1))[i]? = some kk := by rw [List.getElem?_map, hkk]; rfl
    rw [hk, List.getElem?_map] at e1
    cases z : (kvs.map (·.1))[i]? with
    | none => rw [z] at e1; cases e1
    | some y =>
      rw [z] at e1
      cases e1
      show some (V.int ((kvs.map (·.1)).getD i 0)) = some (kV (Sum.inl y))
      rw [List.getD_eq_getElem?_getD, z]; rfl
  have hstop : ∀ H, (∃ D δ σ, StT X.K (B.lk d (.frz od (.dK kv))) δ σ H (.ref D :: .ref d :: vs)) → (Itk d od kv).stop kvs.length H := by
    intro H hh
    obtain ⟨D, δ, σ, s⟩ := hh
    exact ⟨hB _ _ _ _ s, by omega⟩
  have hfin : ∀ D H', StT X.K (B.lk d (.frz od (.dK kv))) δ3 σ H' (.ref D :: .ref d :: vs) → (H' d = some (.frz od (.dK kv)) ∧ Q (.ref D) (upd H' d (.dK kv))) := by
    intro D H' s'
    obtain ⟨s1, hd1⟩ := s'.lkDown hn
    refine ⟨hd1, ?_⟩
    obtain ⟨sl3, st3⟩ := δ3
    match st3, s1, q with
    | [], _, q => exact q.elim
    | [_], _, q => exact q.elim
    | e :: e' :: st, s1, q =>
      have q' : PostF X B Ψ (optR (unlkT ⟨sl3, e' :: e :: st⟩)) σ vs Q := q
      cases z : unlkT ⟨sl3, e' :: e :: st⟩ with
      | none => rw [z] at q'; exact q'.elim
      | some δ4 =>
        rw [z] at q'
        exact q' _ _ (unlk_of s1.swap z hd1 hn)
  exact lc_data (Q := fun v H' => H' d = some (.frz od (.dK kv)) ∧ Q v (upd H' d (.dK kv))) (J := Itk d od kv) (f := keyItem (kvs.map (·.1))) (n := kvs.length) (T0 d _ hn) (hc d _ hn) (he d _ hn) hg hstop s6 z2 z3 hfin
end
end Vt

/-! Defs and their calls. -/
namespace Vt
open PySem PySem.Spec PyProof.Rows L2

/-! ### the words -/
inductive FR where
  | ok (t : T) (outs : List T)
  | ex (C : Nat) (outs : List T)
  | no
abbrev Fn := List T → FR
def outsOf (args : List T) (sl : List Ent) : List T := List.zipWith (fun a e => if a.data = true then a else e.tr) args sl
def startE (N : Nat) (args : List T) : En := ⟨args.map .own ++ List.replicate (N - args.length) .emp, []⟩
def runDef (N : Nat) (code : SF) : Fn := fun args => match code (startE N args) with
  | .nx δ => .ok .non (outsOf args δ.sl)
  | .rt δ => match δ.st with
    | .own t :: _ => .ok t (outsOf args δ.sl)
    | _ => .no
  | .ex C sl => .ex C (outsOf args sl)
  | _ => .no
/-- the arguments, the last on top, are taken: what is borrowed leaves a hole -/
def takeR : List Ent → List Ent → List Ent → Option (List T × List Ent × List Ent)
  | [], sl, st => some ([], sl, st)
  | .own t :: es, sl, st => match takeR es sl st with
    | some (ts, r) => some (t :: ts, r)
    | none => none
  | .al i p :: es, sl, st => match look sl (.al i p) with
    | some t => if (⟨sl, es ++ st⟩ : En).free i p = true then (match takeR es (putAt sl i p .gone) (.al i p :: st) with
      | some (ts, r) => some (t :: ts, r)
      | none => none) else none
    | none => none
  | .emp :: _, _, _ => none
def isGone : Option T → Bool
  | some .gone => true
  | _ => false
/-- what was borrowed is given back -/
def giveR : List Ent → List T → List Ent → List Ent → Option En
  | [], [], sl, st => some ⟨sl, st⟩
  | .own _ :: es, _ :: us, sl, st => giveR es us sl st
  | .al i p :: es, u :: us, sl, .al j q :: st => if ((⟨sl, st⟩ : En).free i p = true ∧ isGone (look sl (.al i p)) = true) ∧ j = i ∧ q = p then giveR es us (putAt sl i p u) st else none
  | _, _, _, _ => none
def splitN : Nat → List Ent → Option (List Ent × List Ent)
  | 0, st => some ([], st)
  | n + 1, e :: st => match splitN n st with
    | some (es, r) => some (e :: es, r)
    | none => none
  | _ + 1, [] => none
/-- the call of F with the n on top -/
def doCall (n : Nat) (F : Fn) : EF := fun δ => match splitN n δ.st with
  | none => .no
  | some (es, st) => match takeR es δ.sl st with
    | none => .no
    | some (ts, slh, sth) => match F ts.reverse with
      | .no => .no
      | .ok t outs => match giveR es.reverse outs slh sth with
        | some δ' => .ok ⟨δ'.sl, .own t :: δ'.st⟩
        | none => .no
      | .ex C outs => match giveR es.reverse outs slh sth with
        | some δ' => .ex C δ'.sl
        | none => .no
def eCall (n : Nat) (F : Fn) (fa : EF) : EF := eThen fa (doCall n F)
/-! ### what stands behind a call -/
structure Aft (S A H S' F' H' : Hp) : Prop where
  exS : Ex S S'
  eS : Ex S' H'
  eF : Ex F' H'
  dj : Dj F' S'
  fr : ∀ b o, H b = some o → A b = none → H' b = some o ∧ F' b = none
  nS : ∀ b, H b ≠ none → A b = none → S b = none → S' b = none
  nn : ∀ b, H b ≠ none → H' b ≠ none
  lk : ∀ b q u, H b = some (.frz q u) → H' b = some (.frz q u)
def spF (K : PySem.W.Frag) (cm : Nat → Addr) (n : Nat) (F : Fn) : L2.Sp := fun (vs : List V) (H : Hp) (Q : VK) (E : XK) => ∃ (S A : Hp) (args : List T), RepTs ⟨K, cm⟩ S A args vs ∧ args.length = n ∧ Ex S H ∧ Ex A H ∧ Dj A S ∧ (match F args with
  | .ok t outs => ∀ v H' S' F', Aft S A H S' F' H' → RepTs ⟨K, cm⟩ S' F' (t :: outs) (v :: vs) → Q v H'
  | .ex C outs => ∀ H' S' F', Aft S A H S' F' H' → RepTs ⟨K, cm⟩ S' F' outs vs → E (.ref (cm C)) none H'
  | .no => False)
/-! ### arguments taken, given back -/
def gst : List Ent → List Ent → List Ent
  | [], st => st
  | .al i p :: es, st => gst es (.al i p :: st)
  | _ :: es, st => gst es st
def gvs : List Ent → List V → List V → List V
  | .al _ _ :: es, x :: xs, vs => gvs es xs (x :: vs)
  | _ :: es, _ :: xs, vs => gvs es xs vs
  | _, _, vs => vs
section
variable {K : PySem.W.Frag} {B : Base} {σ : L2.St} {H H' : Hp} {vs xs sv : List V} {v w x : V} {S F A S' F' : Hp} {t u : T} {e : Ent} {st sl es : List Ent} {i : Nat} {p : List Sp}
/-- the top goes below es -/
theorem Sta.rot (s : Sta K B ⟨sl, e :: (es ++ st)⟩ σ H (x :: (xs ++ vs)) S F sv) (hl : es.length = xs.length) : Sta K B ⟨sl, es ++ e :: st⟩ σ H (xs ++ x :: vs) S F sv := by
  have r := s.rep
  have r' : RepTs (kc K B) S F (e.tr :: (es.map Ent.tr ++ (st ++ sl).map Ent.tr)) (x :: (xs ++ (vs ++ sv))) := by
    have e1 : ((e :: (es ++ st) ++ sl).map Ent.tr) = e.tr :: (es.map Ent.tr ++ (st ++ sl).map Ent.tr) := by simp
    have e2 : (x :: (xs ++ vs)) ++ sv = x :: (xs ++ (vs ++ sv)) := by simp
    rw [← e1, ← e2]; exact r
  cases r' with
  | @cons A1 G _ _ _ _ d h r2 =>
    obtain ⟨A2, A3, ys, zs, k, ez, r3, r4⟩ := r2.split
    have ek := k.e
    subst ek
    obtain ⟨q1, q2⟩ := List.append_inj ez (by rw [← hl]; have := r3.length; simpa using this)
    subst q1 q2
    have new : RepTs (kc K B) S (join A1 (join A2 A3)) ((es ++ e :: st ++ sl).map Ent.tr) ((xs ++ x :: vs) ++ sv) := by
      have e1 : (es ++ e :: st ++ sl).map Ent.tr = es.map Ent.tr ++ (e.tr :: (st ++ sl).map Ent.tr) := by simp
      have e2 : (xs ++ x :: vs) ++ sv = xs ++ (x :: (vs ++ sv)) := by simp
      rw [e1, e2]
      have dj1 : Dj A1 A2 := d.symm.l.symm
      have dj2 : Dj A1 A3 := d.symm.r.symm
      have : join A1 (join A2 A3) = join A2 (join A1 A3) := by rw [← join_assoc, join_comm dj1, join_assoc]
      rw [this]
      exact r3.app (Dj.jr dj1.symm k.d) (.cons dj2 h r4)
    refine ⟨s.exS, s.exF, s.dj, s.len, s.lens, by have := s.lenv; simp at this ⊢; omega, s.slv, new, fun m e' v' h1 h2 => ?_, s.bS, s.bF, s.bN, s.bH, s.pin, s.lk, s.lkf⟩
    have h1' : (es ++ (e :: (st ++ sl)))[m]? = some e' := by
      have : (es ++ e :: st ++ sl)[m]? = some e' := h1
      rwa [List.append_assoc] at this
    have h2' : (xs ++ (x :: (vs ++ sv)))[m]? = some v' := by rwa [List.append_assoc] at h2
    have old : ∀ m', ((e :: (es ++ st)) ++ sl)[m']? = some e' → ((x :: (xs ++ vs)) ++ sv)[m']? = some v' → EntOk H sl sv e' v' := fun m' => s.al m' e' v'
    by_cases hm : m < es.length
    · rw [List.getElem?_append_left hm] at h1'
      rw [List.getElem?_append_left (by omega)] at h2'
      refine old (m + 1) ?_ ?_
      · simp only [List.cons_append, List.getElem?_cons_succ, List.append_assoc]
        rw [List.getElem?_append_left hm]; exact h1'
      · simp only [List.cons_append, List.getElem?_cons_succ, List.append_assoc]
        rw [List.getElem?_append_left (by omega)]; exact h2'
    · rw [List.getElem?_append_right (by omega)] at h1'
      rw [List.getElem?_append_right (by omega), ← hl] at h2'
      cases hz : m - es.length with
      | zero =>
        rw [hz] at h1' h2'
        exact old 0 (by simpa using h1') (by simpa using h2')
      | succ j =>
        rw [hz] at h1' h2'
        refine old m ?_ ?_
        · rw [show m = (es.length + j) + 1 by omega]
          simp only [List.cons_append, List.getElem?_cons_succ, List.append_assoc] at h1' ⊢
          rw [List.getElem?_append_right (by omega), Nat.add_sub_cancel_left]; exact h1'
        · rw [show m = (xs.length + j) + 1 by omega]
          simp only [List.cons_append, List.getElem?_cons_succ, List.append_assoc] at h2' ⊢
          rw [List.getElem?_append_right (by omega), Nat.add_sub_cancel_left]; exact h2'
theorem under_self : ∀ p : List Sp, under p p = false
  | [] => rfl
  | s :: p => by unfold under; rw [if_pos rfl]; exact under_self p
theorem takeR_of : ∀ {es : List Ent} {xs : List V} {sl st : List Ent} {vs : List V} {F : Hp} {ts : List T} {slh sth : List Ent}, Sta K B ⟨sl, es ++ st⟩ σ H (xs ++ vs) S F sv → es.length = xs.length → takeR es sl st = some (ts, slh, sth) →
    ∃ A F', Sta K B ⟨slh, sth⟩ σ H (gvs es xs vs) S F' sv ∧ sth = gst es st ∧ Sp2 F A F' ∧ RepTs (kc K B) S A ts xs
  | [], [], sl, st, vs, F, ts, slh, sth, s, _, h => by
    cases h
    exact ⟨hnil, F, s, rfl, ⟨Dj.nil, rfl⟩, .nil⟩
  | .own t :: es, x :: xs, sl, st, vs, F, ts, slh, sth, s, hl, h => by
    unfold takeR at h
    split at h
    · rename_i ts' r h1
      cases h
      obtain ⟨F1, s1, eF, A1, k1, r1⟩ := Sta.pop (st := es ++ st) (vs := xs ++ vs) s
      have ek := k1.e
      subst ek
      obtain ⟨A2, F2, s2, g, k2, r2⟩ := takeR_of s1 (by simpa using hl) h1
      have ek := k2.e
      subst ek
      exact ⟨join A1 A2, F2, s2, g, ⟨Dj.jl k1.d.symm.r.symm k2.d, join_assoc.symm⟩, .cons k1.d.symm.l.symm r1 r2⟩
    · cases h
  | .al i p :: es, x :: xs, sl, st, vs, F, ts, slh, sth, s, hl, h => by
    unfold takeR at h
    split at h
    · rename_i t hlk
      split at h
      · rename_i hf
        split at h
        · rename_i ts' r h1
          cases h
          obtain ⟨r0, g1, g2⟩ := look_al hlk
          obtain ⟨y, A1, G, f1, f2, ⟨rr, f3, f4⟩, f5⟩ := s.focus (st := .al i p :: (es ++ st)) g1 g2
          obtain ⟨t', r', a1, a2, a3, a4⟩ := s.al 0 _ x rfl rfl
          rw [f3] at a3; cases a3
          have ey := f4.det a4
          subst ey
          have ek := f1.e
          subst ek
          have hf' : (⟨sl, .al i p :: (es ++ st)⟩ : En).free i p = true := by
            unfold En.free at hf ⊢
            rw [Bool.and_eq_true] at hf ⊢
            refine ⟨?_, hf.2⟩
            rw [List.all_cons, Bool.and_eq_true]
            refine ⟨?_, hf.1⟩
            simp [Ent.freeE, under_self]
          have eG : Ex G H := (Ex.r f1.d).trans s.exF
          have s2 := f5 S .gone hnil H (Ex.refl S) Dj.nil .gone s.exS eG (Dj.r s.dj) hf' (fun b o h1 h2 => ⟨(s.bF b o h1 h2).1, rfl⟩) s.bN (fun b h => h) s.lk
          have s3 : Sta K B ⟨putAt sl i p .gone, .al i p :: (es ++ st)⟩ σ H (y :: (xs ++ vs)) S G sv := by
            rw [putAt_eq g1]; exact s2
          have s4 := s3.rot (by simpa using hl)
          obtain ⟨A2, F2, s5, g, k2, r2⟩ := takeR_of s4 (by simpa using hl) h1
          have ek := k2.e
          subst ek
          exact ⟨join A1 A2, F2, s5, g, ⟨Dj.jl f1.d.symm.r.symm k2.d, join_assoc.symm⟩, .cons f1.d.symm.l.symm f2 r2⟩
        · cases h
      · cases h
    · cases h
  | .emp :: _, _, _, _, _, _, _, _, _, _, _, h => nomatch h
  | [], _ :: _, _, _, _, _, _, _, _, _, hl, _ => by simp at hl
  | _ :: _, [], _, _, _, _, _, _, _, _, hl, _ => by simp at hl
/-- what is not lent stands behind the call -/
theorem Sta.after (s : Sta K B ⟨sl, st⟩ σ H vs S F sv) (a : Aft S A H S' F' H') (d : Dj A F) (dS : Dj A S) (hb : ∀ b o, B.H b = some o → ¬ B.F b → A b = none) : Sta K B ⟨sl, st⟩ σ H' vs S' F sv ∧ Dj F' F := by
  have fF : ∀ b o, F b = some o → H' b = some o ∧ F' b = none := fun b o h => a.fr b o (s.exF b o h) (d.symm b (ne_none h))
  have eF : Ex F H' := fun b o h => (fF b o h).1
  refine ⟨⟨a.eS, eF, fun b h => ?_, s.len, s.lens, s.lenv, s.slv, s.rep.mono a.exS, fun m e v h1 h2 => ?_, s.bS.trans a.exS, fun b o h1 h2 => ?_, fun b h1 h2 h3 => ?_, fun b h => a.nn b (s.bH b h), s.pin, fun b o h => ?_, s.lkf⟩, fun b h => ?_⟩
  · cases q : F b with
    | none => exact absurd q h
    | some o => exact a.nS b (by rw [s.exF b o q]; simp) (d.symm b h) (s.dj b h)
  · have old := s.al m e v h1 h2
    cases e with
    | emp => trivial
    | own _ => trivial
    | al j q =>
      obtain ⟨tj, rj, a1, a2, a3, a4⟩ := old
      refine ⟨tj, rj, a1, a2, a3, ?_⟩
      obtain ⟨r', A', z1, _, z3, z4⟩ := s.slot (i := j) a1
      rw [a3] at z1; cases z1
      exact wk_in z4 (z3.trans s.exF) s.exS (z3.trans eF) (a.exS.trans a.eS) a2 a4
  · obtain ⟨q1, q2⟩ := s.bF b o h1 h2
    exact ⟨(a.fr b o q1 (hb b o h1 h2)).1, q2⟩
  · cases q : B.H b with
    | none => exact absurd q h1
    | some o =>
      obtain ⟨q1, q2⟩ := s.bF b o q h2
      exact a.nS b (by rw [q1]; simp) (hb b o q h2) (s.bN b h1 h2 h3)
  · obtain ⟨q, u, rfl⟩ := s.lkf b o h
    exact a.lk b q u (s.lk b _ h)
  · cases q : F b with
    | none => rfl
    | some o => exact absurd (fF b o q).2 h
theorem RepT.goneF {K : Kc} {S F : Hp} {v : V} (r : RepT K S F .gone v) : F = hnil := by
  cases r with
  | leaf h => cases h
  | gone => rfl
/-- one that was lent comes back -/
theorem Sta.give (s : Sta K B ⟨sl, .al i p :: st⟩ σ H (x :: vs) S F sv) (hh : look sl (.al i p) = some .gone) (hf : (⟨sl, st⟩ : En).free i p = true) (r : RepT (kc K B) S A u x) (d : Dj A F) (dS : Dj A S) (eA : Ex A H) (hb : ∀ b o, B.H b = some o → ¬ B.F b → A b = none) : Sta K B ⟨putAt sl i p u, st⟩ σ H vs S (join A F) sv := by
  obtain ⟨r0, g1, g2⟩ := look_al hh
  obtain ⟨t', r', a1, a2, a3, a4⟩ := s.al 0 _ x rfl rfl
  obtain ⟨F1, s1, eF, A0, k0, rA0⟩ := s.pop
  have := RepT.goneF rA0
  subst this
  have ek := k0.e
  rw [nil_join] at ek
  subst ek
  obtain ⟨y, A1, G, f1, f2, ⟨rr, f3, f4⟩, f5⟩ := s1.focus g1 g2
  rw [f3] at a3; cases a3
  have ey := f4.det a4
  subst ey
  have := RepT.goneF f2
  subst this
  have ek := f1.e
  rw [nil_join] at ek
  subst ek
  have s2 := f5 S u A H (Ex.refl S) d r s.exS (Ex.join eA s1.exF) (Dj.jl dS s1.dj) hf (fun b o h1 h2 => ⟨(s1.bF b o h1 h2).1, hb b o h1 h2⟩) s1.bN (fun b h => h) s1.lk
  rw [putAt_eq g1]
  exact s2
theorem isGone_eq {o : Option T} (h : isGone o = true) : o = some .gone := by
  unfold isGone at h
  split at h
  · rfl
  · cases h
def alsOf : List Ent → List Ent
  | [] => []
  | .al i p :: es => .al i p :: alsOf es
  | _ :: es => alsOf es
def alvOf : List Ent → List V → List V
  | .al _ _ :: es, x :: xs => x :: alvOf es xs
  | _ :: es, _ :: xs => alvOf es xs
  | _, _ => []
theorem alsOf_app : ∀ (l m : List Ent), alsOf (l ++ m) = alsOf l ++ alsOf m
  | [], _ => rfl
  | .al i p :: l, m => by show _ :: alsOf (l ++ m) = _ :: (alsOf l ++ alsOf m); rw [alsOf_app l m]
  | .own _ :: l, m => alsOf_app l m
  | .emp :: l, m => alsOf_app l m
theorem alvOf_app : ∀ {l m : List Ent} {xs ys : List V}, l.length = xs.length → alvOf (l ++ m) (xs ++ ys) = alvOf l xs ++ alvOf m ys
  | [], m, [], ys, _ => by
    show alvOf m ys = [] ++ alvOf m ys
    rfl
  | .al i p :: l, m, x :: xs, ys, h => by show x :: alvOf (l ++ m) (xs ++ ys) = x :: (alvOf l xs ++ alvOf m ys); rw [alvOf_app (by simpa using h)]
  | .own _ :: l, m, x :: xs, ys, h => alvOf_app (l := l) (by simpa using h)
  | .emp :: l, m, x :: xs, ys, h => alvOf_app (l := l) (by simpa using h)
  | [], _, _ :: _, _, h => by simp at h
  | _ :: _, _, [], _, h => by simp at h
theorem gst_eq : ∀ (es st : List Ent), gst es st = alsOf es.reverse ++ st
  | [], st => rfl
  | .al i p :: es, st => by
    show gst es (.al i p :: st) = _
    rw [gst_eq es, List.reverse_cons, alsOf_app, List.append_assoc]; rfl
  | .own t :: es, st => by
    show gst es st = _
    rw [gst_eq es, List.reverse_cons, alsOf_app, List.append_assoc]; rfl
  | .emp :: es, st => by
    show gst es st = _
    rw [gst_eq es, List.reverse_cons, alsOf_app, List.append_assoc]; rfl
theorem gvs_eq : ∀ {es : List Ent} {xs vs : List V}, es.length = xs.length → gvs es xs vs = alvOf es.reverse xs.reverse ++ vs
  | [], [], vs, _ => rfl
  | .al i p :: es, x :: xs, vs, h => by
    show gvs es xs (x :: vs) = _
    rw [gvs_eq (by simpa using h), List.reverse_cons, List.reverse_cons, alvOf_app (by simpa using h), List.append_assoc]; rfl
  | .own t :: es, x :: xs, vs, h => by
    show gvs es xs vs = _
    rw [gvs_eq (by simpa using h), List.reverse_cons, List.reverse_cons, alvOf_app (by simpa using h), List.append_assoc]; rfl
  | .emp :: es, x :: xs, vs, h => by
    show gvs es xs vs = _
    rw [gvs_eq (by simpa using h), List.reverse_cons, List.reverse_cons, alvOf_app (by simpa using h), List.append_assoc]; rfl
  | [], _ :: _, _, h => by simp at h
  | _ :: _, [], _, h => by simp at h
theorem giveR_of : ∀ {bs : List Ent} {us : List T} {ys : List V} {sl st : List Ent} {vs : List V} {F A : Hp} {δ' : En}, Sta K B ⟨sl, alsOf bs ++ st⟩ σ H (alvOf bs ys ++ vs) S F sv → RepTs (kc K B) S A us ys → Dj A F → Dj A S → Ex A H → (∀ b o, B.H b = some o → ¬ B.F b → A b = none) → bs.length = ys.length → giveR bs us sl (alsOf bs ++ st) = some δ' →
    ∃ F', Sta K B δ' σ H vs S F' sv ∧ δ'.st = st ∧ ∀ b, F' b ≠ none → A b ≠ none ∨ F b ≠ none
  | [], us, [], sl, st, vs, F, A, δ', s, r, d, dS, eA, hb, _, h => by
    cases us with
    | nil =>
      have h' : some (⟨sl, st⟩ : En) = some δ' := h
      cases h'
      exact ⟨F, s, rfl, fun b hb => .inr hb⟩
    | cons u us => cases r
  | .own t :: bs, us, y :: ys, sl, st, vs, F, A, δ', s, r, d, dS, eA, hb, hl, h => by
    cases us with
    | nil => cases r
    | cons u us =>
      cases r with
      | @cons A1 A2 _ _ _ _ dd hu r =>
        obtain ⟨F', q1, q2, q3⟩ := giveR_of (bs := bs) (us := us) (ys := ys) s r d.r dS.r (Ex.ofr dd eA) (fun b o h1 h2 => (Ex.r dd).free (hb b o h1 h2)) (by simpa using hl) h
        exact ⟨F', q1, q2, fun b hb' => (q3 b hb').imp (fun z => by
          cases w : A2 b with
          | none => exact absurd w z
          | some o => rw [Ex.r dd b o w]; simp) id⟩
  | .al i p :: bs, us, y :: ys, sl, st, vs, F, A, δ', s, r, d, dS, eA, hb, hl, h => by
    cases us with
    | nil => cases r
    | cons u us =>
      cases r with
      | @cons A1 A2 _ _ _ _ dd hu r =>
        have h' : (if ((⟨sl, alsOf bs ++ st⟩ : En).free i p = true ∧ isGone (look sl (.al i p)) = true) ∧ i = i ∧ p = p then giveR bs us (putAt sl i p u) (alsOf bs ++ st) else none) = some δ' := h
        split at h'
        · rename_i hc
          have s1 := Sta.give (st := alsOf bs ++ st) s (isGone_eq hc.1.2) hc.1.1 hu d.l dS.l (Ex.ofl eA) (fun b o h1 h2 => Ex.l.free (hb b o h1 h2))
          obtain ⟨F', q1, q2, q3⟩ := giveR_of (bs := bs) (us := us) (ys := ys) s1 r (Dj.jr dd.symm d.r) dS.r (Ex.ofr dd eA) (fun b o h1 h2 => (Ex.r dd).free (hb b o h1 h2)) (by simpa using hl) h'
          refine ⟨F', q1, q2, fun b hb' => ?_⟩
          rcases q3 b hb' with z | z
          · refine .inl ?_
            cases w : A2 b with
            | none => exact absurd w z
            | some o => rw [Ex.r dd b o w]; simp
          · rcases join_ne z with z | z
            · refine .inl ?_
              cases w : A1 b with
              | none => exact absurd w z
              | some o => rw [join_l w]; simp
            · exact .inr z
        · cases h'
  | .emp :: _, _, _ :: _, _, _, _, _, _, _, _, _, _, _, _, _, _, h => nomatch h
  | [], _, _ :: _, _, _, _, _, _, _, _, _, _, _, _, _, hl, _ => by simp at hl
  | _ :: _, _, [], _, _, _, _, _, _, _, _, _, _, _, _, hl, _ => by simp at hl
theorem splitN_eq : ∀ {n : Nat} {st es r : List Ent}, splitN n st = some (es, r) → st = es ++ r ∧ es.length = n
  | 0, st, es, r, h => by cases h; exact ⟨rfl, rfl⟩
  | n + 1, e :: st, es, r, h => by
    unfold splitN at h
    split at h
    · rename_i es' r' h1
      cases h
      obtain ⟨q1, q2⟩ := splitN_eq h1
      exact ⟨by rw [q1]; rfl, by simp [q2]⟩
    · cases h
  | _ + 1, [], _, _, h => nomatch h
end
section
variable {X : Cx} {B : Base} {Ψ : XF} {W : WX} {k j n : Nat} {a b c e o : Expr} {es : List Expr} {pos apos : Pos} {f g h fa fb fc fo : EF} {σ : L2.St} {H : Hp} {vs xs : List V} {v : V} {Q : VK} {F : Fn}
/-- THE CALL -/
theorem call_of (c : CxOk X B W Ψ k) {δ : En} (s : StT X.K B δ σ H (xs.reverse ++ vs)) (hl : xs.length = n) (q : PostF X B Ψ (doCall n F δ) σ vs Q) : spF X.K B.cm n F xs H Q (WE W σ) := by
  obtain ⟨sl, st⟩ := δ
  unfold doCall at q
  split at q
  · exact q.elim
  rename_i es st' hs
  obtain ⟨e1, e2⟩ := splitN_eq hs
  simp only at e1
  subst e1
  split at q
  · exact q.elim
  rename_i ts slh sth ht
  obtain ⟨S, Ft, sv, s⟩ := s
  have hes : es.length = xs.reverse.length := by rw [e2, List.length_reverse, hl]
  obtain ⟨A, F', s1, g1, k1, r1⟩ := takeR_of s hes ht
  have ek := k1.e
  subst ek
  have dAS : Dj A S := s.dj.l
  have eAH : Ex A H := Ex.l.trans s.exF
  have hbA : ∀ b o, B.H b = some o → ¬ B.F b → A b = none := fun b o h1 h2 => Ex.l.free (s.bF b o h1 h2).2
  have r2 := r1.rev
  rw [List.reverse_reverse] at r2
  have hgv : gvs es xs.reverse vs = alvOf es.reverse xs ++ vs := by rw [gvs_eq hes, List.reverse_reverse]
  rw [hgv] at s1
  rw [g1, gst_eq] at s1
  have lts : ts.reverse.length = n := by rw [r2.length, hl]
  refine ⟨S, A, ts.reverse, r2, lts, s.exS, eAH, dAS, ?_⟩
  split at q
  · exact q.elim
  · rename_i t outs hF
    rw [hF]
    intro v H' S' F2 aft rr
    split at q
    · rename_i δ' hg
      rw [g1, gst_eq] at hg
      obtain ⟨s2, d2⟩ := s1.after aft k1.d dAS hbA
      cases rr with
      | @cons At Ao _ _ _ _ dd ht0 ro =>
        have hbo : ∀ b o, B.H b = some o → ¬ B.F b → (join At Ao) b = none := fun b o h1 h2 => (aft.fr b o (s1.bF b o h1 h2).1 (hbA b o h1 h2)).2
        obtain ⟨F3, s3, e3, hF3⟩ := giveR_of (bs := es.reverse) (ys := xs) s2 ro d2.r aft.dj.r (Ex.ofr dd aft.eF) (fun b o h1 h2 => (Ex.r dd).free (hbo b o h1 h2)) (by rw [List.length_reverse, e2, hl]) hg
        refine q v H' ?_
        obtain ⟨sl', st2⟩ := δ'
        refine ⟨S', _, sv, s3.push ht0 (fun b hb => ?_) aft.dj.l (Ex.ofl aft.eF) fun b o h1 h2 => Ex.l.free (hbo b o h1 h2)⟩
        cases w : F3 b with
        | none => rfl
        | some o =>
          rcases hF3 b (ne_none w) with z | z
          · exact absurd (dd b hb) z
          · exact absurd (d2.l b hb) z
    · exact q.elim
  · rename_i C outs hF
    rw [hF]
    intro H' S' F2 aft rr
    split at q
    · rename_i δ' hg
      rw [g1, gst_eq] at hg
      obtain ⟨s2, d2⟩ := s1.after aft k1.d dAS hbA
      obtain ⟨F3, s3, e3, hF3⟩ := giveR_of (bs := es.reverse) (ys := xs) s2 rr d2 aft.dj aft.eF (fun b o h1 h2 => (aft.fr b o (s1.bF b o h1 h2).1 (hbA b o h1 h2)).2) (by rw [List.length_reverse, e2, hl]) hg
      obtain ⟨sl', st2⟩ := δ'
      exact c.psi C sl' σ H' q (StT.drop ⟨S', F3, sv, s3⟩)
    · exact q.elim
/-- a def of the module, to be called by its name -/
def DefF (P : Program) (w : World) (K : PySem.W.Frag) (mg : Str → Option Value) (base : Heap) (cm : Nat → Addr) (x : Str) (j n : Nat) (F : Fn) : Prop :=
  ∃ (f : Addr) (fd : FuncData) (ps : List Str), FnOk P w K mg base (L2.CX P w) j f fd ps (spF K cm n F) ∧ mg x = some (.ref f) ∧ PySem.W.keepIn K (.ref f) = true ∧ Binds K fd ps []
/-- a method of the class C -/
def MetF (P : Program) (w : World) (K : PySem.W.Frag) (mg : Str → Option Value) (base : Heap) (cm : Nat → Addr) (C : Nat) (m : Str) (j n : Nat) (F : Fn) : Prop :=
  ∃ (f : Addr) (fd : FuncData) (ps : List Str), FnOk P w K mg base (L2.CX P w) j f fd ps (spF K cm n F) ∧ Meth K (cm C) m f ∧ Cls K (cm C) ∧ Binds K fd ps []
theorem ev_call {x : Str} {p : Pos} {cm : Nat → Addr} (c : CxOk X B W Ψ k) (hcm : B.cm = cm) (D : DefF X.prog X.w X.K X.mg X.base cm x j n F) (hj : j ≤ k) (hg : Gl X x) (ha : AgF X B Ψ n (e :: es) fa)
    (he : starEach (e :: es) X.env = (false, eval e X.env) :: starEach es X.env) (hpl : (backTo pos (starEach es X.env)).any (·.1) = false) (hdb : (x == ("__debug__" : Str)) = false := by decide) : EvF X B Ψ (.Call (.Name x p) (e :: es) [] pos) (eCall n F fa) := fun δ σ H vs Q s q => by
  subst hcm
  obtain ⟨f, fd, ps, Fk, hm, kp, b⟩ := D
  exact (pe_callS (Fk.mono hj) c.room hg hm kp b (E := WE W) (fun σ => passAt c.takes σ) (pA _) hdb he hpl).tov (ha δ σ H vs _ s (post_n (P := fun r => PostF X B Ψ r σ vs Q) q (fun _ _ h => h) (fun h => h) fun δ1 h1 xs H1 hl s1 => call_of c s1 hl h1))
theorem pe_callS0 {f : Addr} {fd : FuncData} {ps : List Str} {sp : L2.Sp} {E : L2.St → XK} {CX : CXT} {x : Str} {p : Pos} (F : FnOk X.prog X.w X.K X.mg X.base CX k f fd ps sp) (hr : Room k X.A) (hg : Gl X x) (hm : X.mg x = some (.ref f)) (hk : PySem.W.keepIn X.K (.ref f) = true) (hb : Binds X.K fd ps []) (hx : ∀ σ, PassesAt CX X σ (E σ))
    (hdb : (x == ("__debug__" : Str)) = false := by decide) : PE X (.Call (.Name x p) [] [] pos) (tCallS sp E tNil) := by
  refine ⟨fun pins s σ H Q I h => ?_⟩
  refine wpAny_Call_Name_kw (ld_glob I hg hm ?_ hdb)
  exact PySem.W.callWith_K0 I.kIn hk (run_fnS (us := []) F hr hb (hx σ) I .nil h)
theorem ev_call0 {x : Str} {p : Pos} {cm : Nat → Addr} (c : CxOk X B W Ψ k) (hcm : B.cm = cm) (D : DefF X.prog X.w X.K X.mg X.base cm x j 0 F) (hj : j ≤ k) (hg : Gl X x) (hdb : (x == ("__debug__" : Str)) = false := by decide) : EvF X B Ψ (.Call (.Name x p) [] [] pos) (eCall 0 F eNil) := fun δ σ H vs Q s q => by
  subst hcm
  obtain ⟨f, fd, ps, Fk, hm, kp, b⟩ := D
  exact (pe_callS0 (Fk.mono hj) c.room hg hm kp b (E := WE W) (fun σ => passAt c.takes σ) hdb).tov (call_of (xs := []) c s rfl q)
/-- the receiver: an instance of C that does not hide m -/
def isIns (C : Nat) (m : Str) : T → Bool
  | .ins C' fs => decide (C' = C) && (fs.lookup m).isNone
  | _ => false
theorem isIns_eq {C : Nat} {m : Str} {t : T} (h : isIns C m t = true) : ∃ fs, t = .ins C fs ∧ fs.lookup m = none := by
  unfold isIns at h
  split at h
  · rename_i C' fs
    rw [Bool.and_eq_true, decide_eq_true_eq, Option.isNone_iff_eq_none] at h
    obtain ⟨rfl, h2⟩ := h
    exact ⟨fs, rfl, h2⟩
  · cases h
theorem fv_none {K : Kc} {fs : List (Str × T)} {fv : List (Str × V)} {m : Str} (h : fv.map (·.1) = fs.map (·.1)) (l : fs.lookup m = none) : fv.lookup m = none := by
  have key : ∀ {α : Type} {l : List (Str × α)}, l.lookup m = none ↔ m ∉ l.map (·.1) := fun {α l} => by
    induction l with
    | nil => simp
    | cons g l ih =>
      obtain ⟨g1, g2⟩ := g
      rw [List.lookup_cons]
      by_cases e : m = g1
      · subst e; simp
      · rw [beq_eq_false_iff_ne.mpr e]
        simp only [ih, List.map_cons, List.mem_cons, not_or]
        exact ⟨fun z => ⟨e, z⟩, fun z => z.2⟩
  exact key.mpr (by rw [h]; exact key.mp l)
theorem pe_methS' {ta : TE} {t : TA} {CX : CXT} {C f : Addr} {m : Str} {fd : FuncData} {ps : List Str} {sp : L2.Sp} {E : L2.St → XK} {pl : Sem Bool} (he : PE X o ta) (c : Cls X.K C) (hm : Meth X.K C m f) (F : FnOk X.prog X.w X.K X.mg X.base CX k f fd ps sp) (hr : Room k X.A) (hb : Binds X.K fd ps []) (hx : ∀ σ, PassesAt CX X σ (E σ)) (ha : PA X (e :: es) t)
    (hst : starEach (e :: es) X.env = (false, eval e X.env) :: starEach es X.env) (hpl : (backTo pos (starEach es X.env)).any (·.1) = false)
    (ht : eval (.Call (.Attribute o m apos) (e :: es) [] pos) X.env = (do
      let ov ← eval o X.env
      standAt apos.atName
      let (f, first) ← holding [ov] (getMethod ov m pl)
      callWith pos f first (backTo pos (starEach (e :: es) X.env)) (backToKw pos (keywordEach [] X.env)))) :
    PE X (.Call (.Attribute o m apos) (e :: es) [] pos) (fun σ H Q => ta σ H fun x H1 => ∃ a dx fs, x = .ref a ∧ H1 a = some (.ins C dx fs) ∧ fs.lookup m = none ∧ t σ H1 fun vs H2 => sp (x :: vs) H2 Q (E σ)) := by
  refine ⟨fun pins s σ H Q I h => ?_⟩
  refine PySem.W.methodCall_KW (pl := pl) (thn (he.run pins s σ H _ I h) fun u s1 ⟨x, H1, I1, rx, a, dx, fs, ex, ea, l, q⟩ => ?_) ht
  subst ex
  obtain rfl : u = Value.ref a := rx
  refine getmeth_ok I1 ea c hm l ?_
  refine PySem.W.callWith_K (first := [.ref a]) (h₀ := X.base) I.ok.mod.kin hm.kp (thn (ha.run pos pins s1 σ H1 _ I1 q) fun us s2 ⟨vs, H2, I2, r, q2⟩ => ⟨I2.kIn, ?_⟩) hst hpl
  exact run_fnS (us := .ref a :: us) (vs := .ref a :: vs) F hr hb (hx σ) I2 (.cons rfl r) q2
theorem pe_methS0 {ta : TE} {CX : CXT} {C f : Addr} {m : Str} {fd : FuncData} {ps : List Str} {sp : L2.Sp} {E : L2.St → XK} {pl : Sem Bool} (he : PE X o ta) (c : Cls X.K C) (hm : Meth X.K C m f) (F : FnOk X.prog X.w X.K X.mg X.base CX k f fd ps sp) (hr : Room k X.A) (hb : Binds X.K fd ps []) (hx : ∀ σ, PassesAt CX X σ (E σ))
    (ht : eval (.Call (.Attribute o m apos) [] [] pos) X.env = (do
      let ov ← eval o X.env
      standAt apos.atName
      let (f, first) ← holding [ov] (getMethod ov m pl)
      callWith pos f first (backTo pos (starEach [] X.env)) (backToKw pos (keywordEach [] X.env)))) :
    PE X (.Call (.Attribute o m apos) [] [] pos) (fun σ H Q => ta σ H fun x H1 => ∃ a dx fs, x = .ref a ∧ H1 a = some (.ins C dx fs) ∧ fs.lookup m = none ∧ sp [x] H1 Q (E σ)) := by
  refine ⟨fun pins s σ H Q I h => ?_⟩
  refine PySem.W.methodCall_KW (pl := pl) (thn (he.run pins s σ H _ I h) fun u s1 ⟨x, H1, I1, rx, a, dx, fs, ex, ea, l, q⟩ => ?_) ht
  subst ex
  obtain rfl : u = Value.ref a := rx
  refine getmeth_ok I1 ea c hm l ?_
  exact PySem.W.callWith_K0 (first := [.ref a]) I1.kIn hm.kp (run_fnS (us := [.ref a]) (vs := [.ref a]) F hr hb (hx σ) I1 (.cons rfl .nil) q)
/-- o.m(..) -/
def eMet (C : Nat) (m : Str) (n : Nat) (F : Fn) (fo fa : EF) : EF := fun δ => (((fo δ).bind (chk (isIns C m))).bind fa).bind (doCall n F)
theorem ev_meth {C : Nat} {m : Str} {pl : Sem Bool} {cm : Nat → Addr} (c : CxOk X B W Ψ k) (hcm : B.cm = cm) (D : MetF X.prog X.w X.K X.mg X.base cm C m j (n + 1) F) (hj : j ≤ k) (ho : EvF X B Ψ o fo) (ha : AgF X B Ψ n (e :: es) fa)
    (hst : starEach (e :: es) X.env = (false, eval e X.env) :: starEach es X.env) (hpl : (backTo pos (starEach es X.env)).any (·.1) = false)
    (ht : eval (.Call (.Attribute o m apos) (e :: es) [] pos) X.env = (do
      let ov ← eval o X.env
      standAt apos.atName
      let (f, first) ← holding [ov] (getMethod ov m pl)
      callWith pos f first (backTo pos (starEach (e :: es) X.env)) (backToKw pos (keywordEach [] X.env)))) : EvF X B Ψ (.Call (.Attribute o m apos) (e :: es) [] pos) (eMet C m (n + 1) F fo fa) := fun δ σ H vs Q s q => by
  subst hcm
  obtain ⟨f, fd, ps, Fk, hm, cl, b⟩ := D
  refine (pe_methS' (pE o) cl hm (Fk.mono hj) c.room b (E := WE W) (fun σ => passAt c.takes σ) (pA _) hst hpl ht).tov (ho δ σ H vs _ s (post_b (P := fun r => PostF X B Ψ ((r.bind fa).bind (doCall (n + 1) F)) σ vs Q) (k := chk (isIns C m)) q (fun _ _ h => h) (fun h => h) fun δ1 h1 v H1 s1 => ?_))
  rcases chk_no (cf := isIns C m) (δ := δ1) with z | z
  · rw [z] at h1
    obtain ⟨_, e0, st0, t0, he0, hl0, hc0⟩ := chk_of z
    obtain ⟨sl1, st1⟩ := δ1
    simp only at he0
    subst he0
    obtain ⟨S, Fq, sv, A, t, e1, e2, r1⟩ := s1.rd1 hl0
    obtain ⟨fs, rfl, hlk⟩ := isIns_eq hc0
    obtain ⟨p, dx, fv, G, rfl, h2, h3, _⟩ := r1.insR e2
    refine ⟨p, dx, fv, rfl, h2, fv_none (K := kc X.K B) h3 hlk, ha _ σ H1 (.ref p :: vs) _ s1 (post_n (P := fun r => PostF X B Ψ r σ vs Q) h1 (fun _ _ h => h) (fun h => h) fun δ2 h2 xs H2 hl s2 => ?_)⟩
    have s3 : StT X.K B δ2 σ H2 ((V.ref p :: xs).reverse ++ vs) := by rw [List.reverse_cons, List.append_assoc]; exact s2
    exact call_of c s3 (by simp [hl]) h2
  · rw [z] at h1; exact h1.elim
theorem ev_meth0 {C : Nat} {m : Str} {pl : Sem Bool} {cm : Nat → Addr} (c : CxOk X B W Ψ k) (hcm : B.cm = cm) (D : MetF X.prog X.w X.K X.mg X.base cm C m j 1 F) (hj : j ≤ k) (ho : EvF X B Ψ o fo)
    (ht : eval (.Call (.Attribute o m apos) [] [] pos) X.env = (do
      let ov ← eval o X.env
      standAt apos.atName
      let (f, first) ← holding [ov] (getMethod ov m pl)
      callWith pos f first (backTo pos (starEach [] X.env)) (backToKw pos (keywordEach [] X.env)))) : EvF X B Ψ (.Call (.Attribute o m apos) [] [] pos) (eMet C m 1 F fo eNil) := fun δ σ H vs Q s q => by
  subst hcm
  obtain ⟨f, fd, ps, Fk, hm, cl, b⟩ := D
  refine (pe_methS0 (pE o) cl hm (Fk.mono hj) c.room b (E := WE W) (fun σ => passAt c.takes σ) ht).tov (ho δ σ H vs _ s (post_b (P := fun r => PostF X B Ψ ((r.bind eNil).bind (doCall 1 F)) σ vs Q) (k := chk (isIns C m)) q (fun _ _ h => h) (fun h => h) fun δ1 h1 v H1 s1 => ?_))
  rcases chk_no (cf := isIns C m) (δ := δ1) with z | z
  · rw [z] at h1
    obtain ⟨_, e0, st0, t0, he0, hl0, hc0⟩ := chk_of z
    obtain ⟨sl1, st1⟩ := δ1
    simp only at he0
    subst he0
    obtain ⟨S, Fq, sv, A, t, e1, e2, r1⟩ := s1.rd1 hl0
    obtain ⟨fs, rfl, hlk⟩ := isIns_eq hc0
    obtain ⟨p, dx, fv, G, rfl, h2, h3, _⟩ := r1.insR e2
    exact ⟨p, dx, fv, rfl, h2, fv_none (K := kc X.K B) h3 hlk, call_of (xs := [.ref p]) c s1 rfl h1⟩
  · rw [z] at h1; exact h1.elim
end
end Vt

/-! The rule for a def; objects made; raise. -/
namespace Vt
open PySem PySem.Spec PyProof.Rows L2

section
variable {K : PySem.W.Frag} {B : Base} {σ : L2.St} {H H' : Hp} {vs sv : List V}
theorem gones (K : Kc) (S : Hp) : ∀ (n : Nat) (l : List V), l.length = n → RepTs K S hnil (List.replicate n .gone) l
  | 0, [], _ => .nil
  | n + 1, x :: l, h => by
    rw [List.replicate_succ]
    exact .cons (F := hnil) Dj.nil .gone (gones K S n l (by simpa using h))
  | 0, _ :: _, h => by simp at h
  | n + 1, [], h => by simp at h
theorem RepTs.takeN {K : Kc} {S : Hp} : ∀ {ts : List T} {F : Hp} {xs : List V} (n : Nat), RepTs K S F ts xs → ∃ F2, RepTs K S F2 (ts.take n) (xs.take n) ∧ Ex F2 F := fun n r => RepTs.take n r
theorem outs_rep {K : Kc} {S S' : Hp} (eS : Ex S S') : ∀ {args : List T} {es : List Ent} {vs : List V} {A F : Hp}, RepTs K S A args vs → RepTs K S' F (es.map Ent.tr) vs → ∃ F2, RepTs K S' F2 (outsOf args es) vs ∧ Ex F2 F
  | [], [], _, _, _, .nil, .nil => ⟨_, .nil, Ex.refl _⟩
  | a :: args, e :: es, v :: vs, _, _, .cons (F := A1) d1 h1 r1, .cons (F := F1) (G := F2) d2 h2 r2 => by
    obtain ⟨F3, q1, q2⟩ := outs_rep eS r1 r2
    show ∃ F2, RepTs K S' F2 ((if a.data = true then a else e.tr) :: outsOf args es) (v :: vs) ∧ _
    by_cases hd : a.data = true
    · rw [if_pos hd]
      have := h1.datas_nil hd
      subst this
      exact ⟨_, .cons (F := hnil) Dj.nil (h1.mono eS) q1, fun b o hb => (Ex.r d2) b o (q2 b o hb)⟩
    · rw [if_neg hd]
      exact ⟨_, .cons (d2.exr q2) h2 q1, Ex.join Ex.l (q2.trans (Ex.r d2))⟩
  | [], _ :: _, _, _, _, .nil, h => nomatch h
  | _ :: _, [], _, _, _, .cons _ _ _, h => nomatch h
/-- the base at the entry of a def -/
def entry (S A H : Hp) (vs : List V) (cm : Nat → Addr) : Base := ⟨S, fun b => A b ≠ none, H, fun i => vs[i]?, cm, fun b => match H b with
  | some (.frz q u) => some (.frz q u)
  | _ => none⟩
theorem entry_lk {S A H : Hp} {vs : List V} {cm : Nat → Addr} {b : Addr} {o : HO} (h : (entry S A H vs cm).lkd b = some o) : H b = some o ∧ ∃ q u, o = .frz q u := by
  have h' : (match H b with | some (.frz q u) => some (HO.frz q u) | _ => none) = some o := h
  split at h'
  · rename_i q u hb
    cases h'
    exact ⟨hb, q, u, rfl⟩
  · cases h'
theorem entry_st {S A H : Hp} {cm : Nat → Addr} {args : List T} {N : List Str} (r : RepTs ⟨K, cm⟩ S A args vs) (eS : Ex S H) (eA : Ex A H) (d : Dj A S) (hN : args.length ≤ N.length) : StT K (entry S A H vs cm) (startE N.length args) (L2.start N vs) H [] := by
  have el := r.length
  let k := N.length - args.length
  refine ⟨S, A, vs ++ List.replicate k .non, eS, eA, d, ?_, ?_, rfl, fun i e he => ?_, ?_, fun i e v h1 h2 => ?_, Ex.refl _, fun b o h1 h2 => ⟨h1, ?_⟩, fun b _ _ h => h, fun b h => h, fun i v h => ?_, fun b o h => (entry_lk h).1, fun b o h => (entry_lk h).2⟩
  · unfold L2.start startE
    simp [el]
  · unfold startE; simp [el, k]
  · have he' : (args.map Ent.own ++ List.replicate k Ent.emp)[i]? = some e := he
    by_cases hi : i < args.length
    · rw [List.getElem?_append_left (by simpa using hi)] at he'
      have hv : i < vs.length := by omega
      refine .inl ⟨vs[i], ?_, ?_⟩
      · rw [List.getElem?_append_left hv, List.getElem?_eq_getElem hv]
      · unfold L2.start
        rw [List.getElem?_append_left (by simpa using hv), List.getElem?_map, List.getElem?_eq_getElem hv]; rfl
    · rw [List.getElem?_append_right (by simpa using hi), List.getElem?_replicate] at he'
      split at he'
      · cases he'; exact .inr rfl
      · cases he'
  · show RepTs _ S A ((args.map Ent.own ++ List.replicate k Ent.emp).map Ent.tr) (vs ++ List.replicate k .non)
    rw [List.map_append, map_own, List.map_replicate]
    have := r.app Dj.nil' (gones ⟨K, cm⟩ S k (List.replicate k .non) (by simp))
    rwa [join_nil] at this
  · have h1' : (args.map Ent.own ++ List.replicate k Ent.emp)[i]? = some e := h1
    have : e ∈ args.map Ent.own ++ List.replicate k Ent.emp := List.mem_of_getElem? h1'
    rcases List.mem_append.mp this with h | h
    · obtain ⟨t, _, rfl⟩ := List.mem_map.mp h; trivial
    · rw [List.eq_of_mem_replicate h]; trivial
  · cases q : A b with
    | none => rfl
    | some w => exact absurd (show A b ≠ none by rw [q]; simp) h2
  · have hi := (List.getElem?_eq_some_iff.mp h).1
    rw [List.getElem?_append_left hi]; exact h
/-- what is left at the end -/
theorem entry_end {S A H : Hp} {cm : Nat → Addr} {args : List T} {sl : List Ent} {S' F' : Hp} {N : Nat} (r : RepTs ⟨K, cm⟩ S A args vs) (hN : args.length ≤ N) {ws : List V} {st : List Ent} (s : Sta K (entry S A H vs cm) ⟨sl, st⟩ σ H' ws S' F' sv) (hl : sl.length = N) (G : Hp) (eG : Ex G F') (rG : RepTs ⟨K, cm⟩ S' G (sl.map Ent.tr) sv) :
    ∃ F2, RepTs ⟨K, cm⟩ S' F2 (outsOf args sl) vs ∧ Ex F2 G := by
  have el := r.length
  have hs := s.lens
  have htk : sv.take vs.length = vs := by
    apply List.ext_getElem?
    intro i
    rw [List.getElem?_take]
    split
    · rename_i hi
      have := s.pin i vs[i] (List.getElem?_eq_getElem hi)
      rw [this, List.getElem?_eq_getElem hi]
    · rename_i hi
      rw [List.getElem?_eq_none (by omega)]
  obtain ⟨F2, q1, q2⟩ := RepTs.takeN args.length rG
  rw [el, htk, ← List.map_take] at q1
  obtain ⟨F3, w1, w2⟩ := outs_rep s.bS r q1
  have : outsOf args (sl.take vs.length) = outsOf args sl := by
    rw [← el]
    unfold outsOf
    have hz : ∀ {α β γ : Type} (f : α → β → γ) (l : List α) (m : List β), List.zipWith f l (m.take l.length) = List.zipWith f l m := by
      intro α β γ f l
      induction l with
      | nil => intro m; simp
      | cons x l ih => intro m; cases m with
        | nil => rfl
        | cons y m => simp [ih]
    exact hz _ _ _
  rw [this] at w1
  exact ⟨F3, w1, w2.trans q2⟩
theorem entry_aft {S A H : Hp} {cm : Nat → Addr} {δ : En} {S' F' F2 : Hp} {ws : List V} (s : Sta K (entry S A H vs cm) δ σ H' ws S' F' sv) (e : Ex F2 F') : Aft S A H S' F2 H' where
  exS := s.bS
  eS := s.exS
  eF := e.trans s.exF
  dj := s.dj.exl e
  fr := fun b o h1 h2 => by
    obtain ⟨q1, q2⟩ := s.bF b o h1 (fun z => z h2)
    exact ⟨q1, e.free q2⟩
  nS := fun b h1 h2 h3 => s.bN b h1 (fun z => z h2) h3
  nn := s.bH
  lk := fun b q u h => s.lk b _ (by
    show (match H b with | some (.frz q u) => some (HO.frz q u) | _ => none) = _
    rw [h])
end
section
variable {P : Program} {w : World} {K : PySem.W.Frag} {mg : Str → Option Value} {base : Heap} {cm : Nat → Addr}
/-- what a statement list at a def's own level asks -/
def StFs0 (X : Cx) (B : Base) (Ψ : XF) (st : List Stmt) (f : SF) : Prop := ∀ δ σ H Dn, δ.st = [] → StT X.K B δ σ H [] → LiftE X B Ψ (f δ) [] Dn → tSs X st Dn σ H
theorem StFs.top {X : Cx} {B : Base} {Ψ : XF} {st : List Stmt} {f : SF} (h : StFs X B Ψ st f) : StFs0 X B Ψ st f := fun δ σ H Dn _ s l => h δ σ H [] Dn s l
/-- slots keep their number -/
theorem drop_slots {K : PySem.W.Frag} {B : Base} {σ : L2.St} {H : Hp} {S : Hp} {sv : List V} : ∀ {st : List Ent} {sl : List Ent} {ws : List V} {F : Hp}, Sta K B ⟨sl, st⟩ σ H ws S F sv → ∃ G, RepTs (kc K B) S G (sl.map Ent.tr) sv ∧ Ex G F
  | [], sl, ws, F, s => by
    have : ws = [] := List.length_eq_zero_iff.mp s.lenv
    subst this
    exact ⟨F, s.rep, Ex.refl _⟩
  | e :: st, sl, [], F, s => by have := s.lenv; simp at this
  | e :: st, sl, w :: ws, F, s => by
    obtain ⟨F1, s1, eF, _⟩ := s.pop
    obtain ⟨G, q1, q2⟩ := drop_slots s1
    exact ⟨G, q1, q2.trans eF⟩
/-- THE RULE for a def -/
theorem okF0 {x qual : Str} {st : Stmt} {f : Addr} {fd : FuncData} {N ps : List Str} {k : Nat} {code : SF} (F : Fun K x qual st f fd) (S : FnScope N ps (defScope st)) (hN : ps.length ≤ N.length)
    (hbody : ∀ (cdv : Value) (A : Around) (outer : List Env) (s : Shared) (H : Hp) (E : XK) (B : Base) (Ψ : XF),
      CxOk (cxOf (L2.CX P w) P w K mg base N qual (defScope st) f cdv A outer s H E) B (fun cls d _ H => E cls d H) Ψ k → (∀ i, ps.length ≤ i → B.pin i = none) → B.cm = cm →
      StFs0 (cxOf (L2.CX P w) P w K mg base N qual (defScope st) f cdv A outer s H E) B Ψ (defBody st) code) : FnOk P w K mg base (L2.CX P w) (k + 1) f fd ps (spF K cm ps.length (runDef N.length code)) := by
  refine F.okX S (fun vs H Q E h => ?_) (fun cdv A outer s H vs Q E hr h => ?_)
  · obtain ⟨_, _, _, r, h, _⟩ := h
    rw [← r.length]; exact h
  · obtain ⟨Sx, Ax, args, r, hl, eS, eA, dj, hres⟩ := h
    let X := cxOf (L2.CX P w) P w K mg base N qual (defScope st) f cdv A outer s H E
    let B := entry Sx Ax H vs cm
    let Ψ : XF := fun C sl => code (startE N.length args) = .ex C sl
    have hx : X.xe = fun e s' => wpAny (model P w) X.A (leaving X.env e) (fun _ s'' => L2.CX P w outer H s E e s'') (fun e' s'' => L2.CX P w outer H s E e' s'') s' := rfl
    have hle : args.length ≤ N.length := by omega
    have fin : ∀ {sl st : List Ent} {σ : L2.St} {H' : Hp} {ws : List V} {S' F' : Hp} {sv : List V}, Sta K B ⟨sl, st⟩ σ H' ws S' F' sv → args.length ≤ sl.length := fun {sl st σ H' ws S' F' sv} s' => by
      refine Nat.le_of_not_lt fun z => ?_
      have : vs.length ≤ sv.length := by
        refine Nat.le_of_not_lt fun z2 => ?_
        have := s'.pin sv.length vs[sv.length] (List.getElem?_eq_getElem z2)
        rw [List.getElem?_eq_none (Nat.le_refl _)] at this; cases this
      have := r.length
      have := s'.lens
      simp only at this
      omega
    have c : CxOk X B (fun cls d _ H => E cls d H) Ψ k := by
      refine ⟨rfl, takes_of rfl rfl rfl hx, passes_of hx, ?_, hr, S.nd⟩
      intro C sl σ H' hC s'
      have hC' : code (startE N.length args) = .ex C sl := hC
      unfold runDef at hres
      rw [hC'] at hres
      obtain ⟨S', F', sv, s'⟩ := s'
      obtain ⟨G, g1, g2⟩ := drop_slots s'
      obtain ⟨F2, q1, q2⟩ := entry_end r (fin s') s' rfl G g2 g1
      exact hres H' S' F2 (entry_aft s' (q2.trans g2)) q1
    refine ⟨tSs X (defBody st), pSs _, ?_⟩
    have hpin : ∀ i, ps.length ≤ i → B.pin i = none := fun i hi => by
      show vs[i]? = none
      rw [List.getElem?_eq_none]
      rw [← r.length, hl]; exact hi
    refine hbody cdv A outer s H E B Ψ c hpin rfl (startE N.length args) (L2.start N vs) H _ rfl (entry_st r eS eA dj hle) ⟨?_, ?_, ?_, ?_, fun C sl e => e, ?_⟩
    · rintro δ' σ H' e ⟨S', F', sv, s'⟩
      unfold runDef at hres
      rw [e] at hres
      obtain ⟨sl, st⟩ := δ'
      obtain ⟨G, g1, g2⟩ := drop_slots s'
      obtain ⟨F2, q1, q2⟩ := entry_end r (fin s') s' rfl G g2 g1
      exact hres .non H' S' F2 (entry_aft s' (q2.trans g2)) (.cons (F := hnil) Dj.nil (.leaf rfl) q1)
    · rintro δ' σ v H' e ⟨S', F', sv, s'⟩
      unfold runDef at hres
      rw [e] at hres
      obtain ⟨sl, st⟩ := δ'
      cases st with
      | nil => exact hres.elim
      | cons e0 st =>
        cases e0 with
        | emp => exact hres.elim
        | al _ _ => exact hres.elim
        | own t =>
          obtain ⟨F1, s1, eF, A1, k1, rt⟩ := s'.pop
          have ek := k1.e
          subst ek
          obtain ⟨G, g1, g2⟩ := drop_slots s1
          obtain ⟨F2, q1, q2⟩ := entry_end r (fin s1) s1 rfl G g2 g1
          have e2 : Ex F2 F1 := q2.trans g2
          have rr : RepTs ⟨K, cm⟩ S' (join A1 F2) (t :: outsOf args sl) (v :: vs) := .cons (k1.d.exr e2) rt q1
          exact hres v H' S' _ (entry_aft s' (Ex.join Ex.l (e2.trans (Ex.r k1.d)))) rr
    · rintro δ' σ H' e _
      unfold runDef at hres
      rw [e] at hres
      exact hres.elim
    · rintro δ' σ H' e _
      unfold runDef at hres
      rw [e] at hres
      exact hres.elim
    · intro e
      unfold runDef at hres
      rw [e] at hres
      exact hres.elim
theorem okF {x qual : Str} {st : Stmt} {f : Addr} {fd : FuncData} {N ps : List Str} {k : Nat} {code : SF} (F : Fun K x qual st f fd) (S : FnScope N ps (defScope st)) (hN : ps.length ≤ N.length)
    (hbody : ∀ (cdv : Value) (A : Around) (outer : List Env) (s : Shared) (H : Hp) (E : XK) (B : Base) (Ψ : XF),
      CxOk (cxOf (L2.CX P w) P w K mg base N qual (defScope st) f cdv A outer s H E) B (fun cls d _ H => E cls d H) Ψ k → (∀ i, ps.length ≤ i → B.pin i = none) → B.cm = cm →
      StFs (cxOf (L2.CX P w) P w K mg base N qual (defScope st) f cdv A outer s H E) B Ψ (defBody st) code) : FnOk P w K mg base (L2.CX P w) (k + 1) f fd ps (spF K cm ps.length (runDef N.length code)) :=
  okF0 F S hN fun cdv A outer s H E B Ψ c hp hcm => (hbody cdv A outer s H E B Ψ c hp hcm).top
end
/-! ### objects made, raise -/
def eMake (C : Nat) (F : Fn) : EF := fun δ => match F [.ins C []] with
  | .ok .non [t] => .ok ⟨δ.sl, .own t :: δ.st⟩
  | _ => .no
section
variable {X : Cx} {B : Base} {Ψ : XF} {W : WX} {k j n : Nat} {pos : Pos}
theorem ev_make {x : Str} {p : Pos} {f : Addr} {fd : FuncData} {ps : List Str} {C : Nat} {F : Fn} {cm : Nat → Addr} (c : CxOk X B W Ψ k) (hcm : B.cm = cm) (M : Mk X.K (cm C) f) (Fk : FnOk X.prog X.w X.K X.mg X.base (L2.CX X.prog X.w) j f fd ps (spF X.K cm 1 F)) (hj : j + 1 ≤ k) (hb : Binds X.K fd ps []) (hm : X.mg x = some (.ref (cm C))) (hg : Gl X x)
    (hdb : (x == ("__debug__" : Str)) = false := by decide) : EvF X B Ψ (.Call (.Name x p) [] [] pos) (eMake C F) := fun δ σ H vs Q s q => by
  subst hcm
  have hx : Passes (L2.CX X.prog X.w) X E0 := passL
  refine (pe_make0 M Fk (c.room.mono hj) hg hm hb .nil hx hdb).tov ?_
  intro y dy ny ndy ne
  unfold eMake at q
  split at q
  case h_2 => exact q.elim
  rename_i t hF
  obtain ⟨S, F0, sv, s⟩ := s
  have s1 := s.grow (o := .own y) ndy
  have ny1 : upd H dy (.own y) y = none := by rw [upd_ne (fun z => ne z.symm)]; exact ny
  have s2 := s1.grow (o := .ins (B.cm C) dy []) ny1
  obtain ⟨f1, f2, f3⟩ := s1.freshF ny1
  refine ⟨S, one y (.ins (B.cm C) dy []), [.ins C []], RepTs.one ?_, rfl, s2.exS, Ex.one upd_same, Dj.one f1, ?_⟩
  · have := RepT.ins (K := kc X.K B) (S := S) (F := hnil) (C := C) (fs := []) (a := y) (dx := dy) (fv := []) rfl rfl .nil
    rwa [join_nil] at this
  · rw [hF]
    intro v H' S' F2 aft rr
    cases rr with
    | @cons At Ao _ _ _ _ dd ht ro =>
      have hv := ht.leafR rfl
      obtain ⟨s3, d3⟩ := s2.after aft (Dj.one f2) (Dj.one f1) (fun b o h1 h2 => by
        cases z : one y (.ins (B.cm C) dy []) b with
        | none => rfl
        | some w =>
          obtain ⟨rfl, _⟩ := one_some z
          rw [f3] at h1; cases h1)
      refine ⟨hv, q _ _ ?_⟩
      cases ro with
      | @cons A1 A2 _ _ _ _ d4 h4 r4 =>
        cases r4
        rw [join_nil] at dd
        obtain ⟨sl, st⟩ := δ
        refine ⟨S', _, sv, s3.push h4 (fun b hb => d3 b ?_) (fun b hb => aft.dj b ?_) (fun b o hb => aft.eF b o ?_) fun b o h1 h2 => ?_⟩
        · rw [join_nil]
          cases z : A1 b with
          | none => exact absurd z hb
          | some w => rw [Ex.r dd b w z]; simp
        · rw [join_nil]
          cases z : A1 b with
          | none => exact absurd z hb
          | some w => rw [Ex.r dd b w z]; simp
        · rw [join_nil]; exact Ex.r dd b o hb
        · have hh := (s2.bF b o h1 h2).1
          have hA : one y (.ins (B.cm C) dy []) b = none := by
            cases z : one y (.ins (B.cm C) dy []) b with
            | none => rfl
            | some w =>
              obtain ⟨rfl, _⟩ := one_some z
              rw [f3] at h1; cases h1
          have := (aft.fr b o hh hA).2
          rw [join_nil] at this
          exact (Ex.r dd).free this
/-- raise C('..') -/
theorem st_raise {x m : Str} {i : Nat} {p p2 cpos : Pos} {C : Nat} {B' : String} {newId initId : String} {bmB : List Value} (c : CxOk X B W Ψ k) (Fx : ExcBaseFacts B' newId initId bmB) (q : PySem.W.excIn X.K (B.cm C) bmB newId = true) (gC : X.mg x = some (.ref (B.cm C))) (kC : PySem.W.keepIn X.K (.ref (B.cm C)) = true) (r : Raises X (.ref (B.cm C))) (hg : Gl X x)
    (hdb : (x == ("__debug__" : Str)) = false := by decide) : StF X B Ψ (.Raise (some (.Call (.Name x p) [.Constant (.str m) i p2] [] cpos)) none pos) (sRaise C) := fun δ σ H vs Dn s l =>
  (ps_raise c.calm c.takes (pmk_own Fx q gC kC r hg hdb)).tov (c.psi C δ.sl σ H (l.ex C δ.sl rfl) (by obtain ⟨sl, st⟩ := δ; exact s.drop))
end
end Vt

/-! try: .. except C as e: .., a def called from the suite. -/
namespace Vt
open PySem PySem.Spec PyProof.Rows L2

def Hot (D : Addr) (p : Addr × Obj) : Prop := Zc (.ref D) none p.2 ∧ ∃ vs, p.2.data = .fields vs
/-- the suite's context bears a caught exception of class D -/
def HotX (X : Cx) (a D : Addr) : Prop := ∃ oe, (a, oe) ∈ X.pn ∧ Hot D (a, oe)
def slotGone (i : Nat) (sl : List Ent) : Bool := match sl[i]? with
  | some (.own .gone) => true
  | _ => false
/-- what the caught exception of slot i answers -/
def eWord (i : Nat) (t : T) : EF := fun δ => if slotGone i δ.sl = true then ePush t δ else .no
/-- a def that is told an exception of class D answers n -/
structure FnWV (P : Program) (w : World) (K : PySem.W.Frag) (mg : Str → Option Value) (base : Heap) (cm : Nat → Addr) (k : Nat) (f : Addr) (fd : FuncData) (ps : List Str) (R : Nat → Str → Prop) : Prop where
  run : ∀ (A : Around) (outer : List Env) (s : Shared) (H : Hp) (args : Args) (us : List Value) (vs : List V) (Q : VK) (E : XK) (p : Addr × Obj) (D : Nat) (n : Str), L2H.RoomH k A → Hot (cm D) p → L2H.PinOk outer H s p → Env0 P w K mg base A outer s H → BindsTo s fd args (ps.zip us) → Vals vs us → R D n → vs = [.ref p.1] →
    spF K cm 1 (fun _ => .ok (.str n) [.gone]) vs H Q E → codeAny (model P w) A (.call (.ref f) args) (CR (L2.CX P w) outer P w H s Q E) s
  len : ps.length = 1
section
variable {P : Program} {w : World} {K : PySem.W.Frag} {mg : Str → Option Value} {base : Heap} {cm : Nat → Addr}
theorem FnWV.mono {j k : Nat} {f : Addr} {fd : FuncData} {ps : List Str} {R : Nat → Str → Prop} (F : FnWV P w K mg base cm j f fd ps R) (h : j ≤ k) : FnWV P w K mg base cm k f fd ps R := ⟨fun A outer s H args us vs Q E p D n hr => F.run A outer s H args us vs Q E p D n (hr.mono h), F.len⟩
def DefW (P : Program) (w : World) (K : PySem.W.Frag) (mg : Str → Option Value) (base : Heap) (cm : Nat → Addr) (x : Str) (k : Nat) (R : Nat → Str → Prop) : Prop := ∃ (f : Addr) (fd : FuncData) (ps : List Str), FnWV P w K mg base cm k f fd ps R ∧ mg x = some (.ref f) ∧ PySem.W.keepIn K (.ref f) = true ∧ Binds K fd ps []
theorem Aft.more {S A S' F' H H' : Hp} (a : Aft S hnil H S' F' H') : Aft S A H S' F' H' := ⟨a.exS, a.eS, a.eF, a.dj, fun b o h _ => a.fr b o h rfl, fun b h _ => a.nS b h rfl, a.nn, a.lk⟩
theorem fnW {x qual : Str} {st : Stmt} {f : Addr} {fd : FuncData} {N ps : List Str} {k : Nat} {R : Nat → Str → Prop} (F : Fun K x qual st f fd) (S : FnScope N ps (defScope st)) (h1 : ps.length = 1) (hN : 1 ≤ N.length) (code : Nat → SF) (hcode : ∀ D n, R D n → runDef N.length (code D) [.gone] = .ok (.str n) [.gone])
    (hbody : ∀ (cdv : Value) (A : Around) (outer : List Env) (s : Shared) (H : Hp) (E : XK) (B : Base) (p : Addr × Obj) (D : Nat) (n : Str),
      Hot (cm D) p → R D n → B.cm = cm → B.pin 0 = some (.ref p.1) → (∀ i, 1 ≤ i → B.pin i = none) → L2H.RoomH k (A.deeper (envOfC qual (defScope st) s.heap.objs.size f cdv)) → N.Nodup →
      StFs (L2H.cxH (L2.CX P w) P w K mg base N qual (defScope st) f cdv A outer s H E p) B (fun _ _ => False) (defBody st) (code D)) : FnWV P w K mg base cm (k + 1) f fd ps R := by
  obtain ⟨oc, od, kV, doc, pm, an, cdv, ct, osl, rfl, lk, hcd⟩ := F.ex
  refine ⟨fun A outer s H args us vs Q E p D n hr hot hpin e0 hb r hR hvs hsp => ?_, h1⟩
  subst hvs
  obtain ⟨Sx, Ax, args0, r0, hl0, eS, eA, dj, hres⟩ := hsp
  have hl : [V.ref p.1].length = ps.length := by rw [h1]; rfl
  have KX : K.In s.heap := e0.mod.kin.keeps fun b o e => (e0.bs b o e).1
  have lim : s.heap.NoLimit := e0.mod.nolimit.keeps fun b o e => (e0.bs b o e).1
  have hkind : ∀ y ∈ ps.zip us, (defScope st).names.lookup y.1 = some .local ∨ ((defScope st).names.lookup y.1 = some .cell ∧ ((cellsFrom (s.heap.objs.size + 1) (defScope st).names []).lookup y.1).isSome = true) := fun ⟨n, v⟩ hy => by
    rcases S.par n (List.of_mem_zip hy).1 with q | q
    · exact .inl q
    · exact .inr ⟨q, PySem.W.cellsFrom_some _ _ _ (.inl q)⟩
  refine codeAny_call_function hr.depth (KX _ _ lk) rfl S.co S.gen rfl (PySem.W.codeRec_of KX hcd) (hb _ _ _ _ ?_)
  refine wpAny_newFunctionEnv_cells S.kind hkind fun env he s1 x => ?_
  subst he
  refine ⟨lim.keeps x.toInCall.keep, codeAny_func ?_⟩
  have I := L2H.inv_startH (CX := L2.CX P w) (E := E) S hpin e0 hl r x
  let B := entry Sx hnil H [.ref p.1] cm
  have rg : RepTs ⟨K, cm⟩ Sx hnil [.gone] [V.ref p.1] := .cons (F := hnil) Dj.nil .gone .nil
  have hbd := hbody cdv A outer s H E B p D n hot hR rfl rfl (fun i hi => by
    show ([V.ref p.1] : List V)[i]? = none
    rw [List.getElem?_eq_none]; exact hi) (hr.deeper _) S.nd (startE N.length [.gone]) (L2.start N [.ref p.1]) H [] { nx := fun _ H' => Q .non H', rt := Q }
    (entry_st rg eS Ex.nil Dj.nil hN)
  have hc := hcode D n hR
  unfold runDef at hc
  have fin : ∀ {sl st : List Ent} {σ : L2.St} {H' : Hp} {ws : List V} {S' F' : Hp} {sv : List V}, Sta K B ⟨sl, st⟩ σ H' ws S' F' sv → [T.gone].length ≤ sl.length := fun {sl st σ H' ws S' F' sv} s' => by
    refine Nat.le_of_not_lt fun z => ?_
    have : [V.ref p.1].length ≤ sv.length := by
      refine Nat.le_of_not_lt fun z2 => ?_
      have := s'.pin sv.length [V.ref p.1][sv.length] (List.getElem?_eq_getElem z2)
      rw [List.getElem?_eq_none (Nat.le_refl _)] at this; cases this
    have := s'.lens
    simp only [List.length_cons, List.length_nil] at *
    omega
  have go := hbd ⟨?_, ?_, ?_, ?_, ?_, ?_⟩
  · refine wpAny_mono (go [] s1 I) (fun fl s' hs => ?_) fun e s' hs => hs
    cases fl with
    | ret u =>
      obtain ⟨v, σ', H', J, rv, q⟩ := hs
      exact ⟨v, H', J.os, J.bare, J.base, J.hok, rv, q⟩
    | next =>
      obtain ⟨σ', H', J, q⟩ := hs
      exact ⟨.non, H', J.os, J.bare, J.base, J.hok, rfl, q⟩
    | brk =>
      obtain ⟨_, _, _, q⟩ := hs
      exact False.elim q
    | cont =>
      obtain ⟨_, _, _, q⟩ := hs
      exact False.elim q
  · intro δ' σ H' e _
    rw [e] at hc
    cases hc
  · rintro δ' σ v H' e ⟨S', F', sv, s'⟩
    rw [e] at hc
    obtain ⟨sl, st⟩ := δ'
    cases st with
    | nil => cases hc
    | cons e0 st =>
      cases e0 with
      | emp => cases hc
      | al _ _ => cases hc
      | own t =>
        obtain ⟨F1, s1, eF, A1, k1, rt⟩ := s'.pop
        have ek := k1.e
        subst ek
        obtain ⟨G, g1, g2⟩ := drop_slots s1
        obtain ⟨F2, q1, q2⟩ := entry_end rg (fin s1) s1 rfl G g2 g1
        have e2 : Ex F2 F1 := q2.trans g2
        injection hc with hc1 hc2
        have rr : RepTs ⟨K, cm⟩ S' (join A1 F2) (t :: outsOf [.gone] sl) (v :: [V.ref p.1]) := .cons (k1.d.exr e2) rt q1
        rw [hc1, show outsOf [.gone] sl = [.gone] from hc2] at rr
        exact hres v H' S' _ (entry_aft s' (Ex.join Ex.l (e2.trans (Ex.r k1.d)))).more rr
  · intro δ' σ H' e _
    rw [e] at hc
    cases hc
  · intro δ' σ H' e _
    rw [e] at hc
    cases hc
  · intro C sl e
    rw [e] at hc
    cases hc
  · intro e
    rw [e] at hc
    cases hc
end
section
variable {X : Cx} {B : Base} {Ψ : XF} {e : Expr} {pos q : Pos} {k : Nat} {R : Nat → Str → Prop}
theorem run_fnW {f : Addr} {fd : FuncData} {ps : List Str} {a : Addr} {D : Nat} {n : Str} {cm : Nat → Addr} {E : XK} {pins : List (Addr × Obj)} {σ : L2.St} {H : Hp} {s : Shared} {Q : VK} {us : List Value} {vs : List V} (F : FnWV X.prog X.w X.K X.mg X.base cm k f fd ps R) (hr : L2H.RoomH k X.A) (hc : HotX X a (cm D)) (hR : R D n) (hb : Binds X.K fd ps []) (hx : PassesAt (L2.CX X.prog X.w) X σ E)
    (I : Inv X pins σ H s) (r : Vals vs us) (hv : vs = [.ref a]) (h : spF X.K cm 1 (fun _ => .ok (.str n) [.gone]) vs H Q E) : wpAny (model X.prog X.w) X.A (call (.ref f) us) (EP X pins σ Q) X.xe s := by
  obtain ⟨oe, hp, hot⟩ := hc
  have hl : us.length = ps.length := by rw [← r.length, F.len, hv]; rfl
  have b := hb s us I.kIn (by rw [List.append_nil]; exact hl)
  rw [List.append_nil] at b
  have P1 := I.pin (a, oe) (List.mem_append_left _ hp)
  have hpin : L2H.PinOk X.stack H s (a, oe) := ⟨P1.1, P1.2.1, fun hm => (List.mem_cons.mp (I.stkSub a hm)).elim P1.2.2.1 P1.2.2.2.1, P1.2.2.2.2⟩
  refine wpAny_call (codeAny_mono (F.run X.A X.stack s H ⟨us, []⟩ us vs Q E (a, oe) D n hr hot hpin I.env0 b r hR hv h) fun r s' hq => ?_)
  cases r with
  | error e => exact hx pins H s e s' I hq
  | ok fl =>
    cases fl with
    | ret u => exact I.after hq
    | next => exact False.elim hq
    | brk => exact False.elim hq
    | cont => exact False.elim hq
theorem slotGone_eq {i : Nat} {sl : List Ent} (h : slotGone i sl = true) : sl[i]? = some (.own .gone) := by
  unfold slotGone at h
  split at h
  · assumption
  · cases h
theorem StT.pinned {δ : En} {σ : L2.St} {H : Hp} {vs : List V} {i : Nat} {r : V} (s : StT X.K B δ σ H vs) (hp : B.pin i = some r) (h : slotGone i δ.sl = true) : σ[i]? = some (some r) := by
  obtain ⟨S, F0, sv, s0⟩ := s
  have := s0.pin i _ hp
  rcases s0.slv i _ (slotGone_eq h) with ⟨v', z1, z2⟩ | z
  · rw [this] at z1; cases z1; exact z2
  · cases z
/-- f(e) in the suite, e the caught exception -/
theorem ev_callW {x y : Str} {a : Addr} {D i : Nat} {n : Str} {p2 : Pos} {cm : Nat → Addr} (hcm : B.cm = cm) (hr : L2H.RoomH k X.A) (hc : HotX X a (cm D)) (hR : R D n) (hp : B.pin i = some (.ref a)) (hN : X.N[i]? = some y) (hv : Vis X.env.scope y)
    (F : DefW X.prog X.w X.K X.mg X.base cm x k R) (hg : Gl X x)
    (hdb : (x == ("__debug__" : Str)) = false := by decide) (hd : (y == ("__debug__" : Str)) = false := by decide) (hcd : (y == ("__classdict__" : Str)) = false := by decide)
    (he : starEach [Expr.Name y p2] X.env = (false, eval (.Name y p2) X.env) :: starEach [] X.env := by rfl) (hpl : (backTo pos (starEach [] X.env)).any (·.1) = false := by rfl) : EvF X B Ψ (.Call (.Name x q) [.Name y p2] [] pos) (eWord i (.str n)) := fun δ σ H vs Q s q => by
  unfold eWord at q
  split at q
  case isFalse => exact q.elim
  rename_i hgn
  have g1 := s.pinned hp hgn
  subst hcm
  obtain ⟨f, fd, ps, F, hm, kp, b⟩ := F
  obtain ⟨sl, st⟩ := δ
  have hargs : tA X [.Name y p2] σ H fun ws H' => ws = [.ref a] ∧ H' = H := (pa_cons (pe_var hN hv hd hcd) pa_nil he).tov ⟨.ref a, g1, rfl, rfl⟩
  refine (show PE X (.Call (.Name x _) [.Name y p2] [] pos) (fun σ H Q => tA X [.Name y p2] σ H fun ws H' => ws = [.ref a] ∧ spF X.K B.cm 1 (fun _ => .ok (.str n) [.gone]) ws H' Q E0) from ⟨fun pins s σ H Q I h => ?_⟩).tov ?_
  · refine wpAny_Call_Name_kw (ld_glob I hg hm ?_ hdb)
    refine PySem.W.callWith_K (h₀ := X.base) I.ok.mod.kin kp (thn ((pA [Expr.Name y p2]).run pos pins s σ H _ I h) fun us s1 ⟨vs, H1, I1, r, hv, q⟩ => ⟨I1.kIn, ?_⟩) he hpl
    exact run_fnW F hr hc hR b (fun pins H s e s' I h => passL pins σ H s e s' I h) I1 r hv q
  · refine fun pos' pins s' I => wpAny_mono (hargs pos' pins s' I) (fun us s2 hs => ?_) fun _ _ h => h
    obtain ⟨ws, H2, I2, r, rfl, rfl⟩ := hs
    refine ⟨_, _, I2, r, rfl, ?_⟩
    obtain ⟨S, F0, sv, s0⟩ := s
    refine ⟨S, hnil, [.gone], .cons (F := hnil) Dj.nil .gone .nil, rfl, s0.exS, Ex.nil, Dj.nil, fun v H' S' F2 aft rr => ?_⟩
    obtain ⟨s1, d1⟩ := s0.after aft Dj.nil Dj.nil fun _ _ _ _ => rfl
    cases rr with
    | @cons At Ao _ _ _ _ dd ht ro =>
      have hv := ht.leafR rfl
      exact q _ _ (s1.leaf (r := .str n) (by rw [hv]; rfl))
theorem call_isW {a D : Addr} (C : ExcC X.K D) (hc : HotX X a D) : CallR X (.builtin "isinstance") (rIsE X.K D a) := by
  intro pins s σ H xs us Q I r h
  obtain ⟨c, cv, b, rfl, hcv, e, q⟩ := h
  obtain ⟨⟨oc, od, oda, osl⟩, hp, ⟨z1, z2⟩, vs, hv⟩ := hc
  cases r with
  | cons rx rr =>
    cases rr with
    | cons rt rr =>
      cases rr
      cases rx
      have ec := hcv _ rt
      subst ec
      have hget := (I.pin _ (List.mem_append_left _ hp)).1
      dsimp only at z1 z2 hv
      subst z1 z2 hv
      exact PySem.W.kia_one (PySem.W.handS_kitx_exc C.hg C.hk C.hs C.hd C.ha C.hn C.ht C.hm) I.kIn ⟨hget, rfl, rfl, trivial⟩ e (fun z => nomatch z) fun tk => ⟨.bl b, H, I.kept (t' := tk) fun _ _ z => z, rfl, q⟩
/-- isinstance(e, c), e the caught exception -/
theorem ev_isW {x y : Str} {a : Addr} {D i : Nat} {p1 p2 : Pos} {c : Expr} {u : T} {cv : Value} {bb : Bool} {cm : Nat → Addr} (hcm : B.cm = cm) (C : ExcC X.K (cm D)) (hc : HotX X a (cm D)) (hp : B.pin i = some (.ref a)) (hN : X.N[i]? = some y) (hv : Vis X.env.scope y)
    (hc2 : EvF X B Ψ c (ePush u)) (hu : (∃ m, u = .cl m ∧ cv = .ref (B.cm m)) ∨ (∃ t, u = .ty t ∧ cv = .type t)) (hb : PySem.W.kitOne X.K (.ref (cm D)) cv = some bb)
    (hm : X.mg x = none) (hg : Gl X x) (hx : bootBuiltins x = some (.builtin "isinstance"))
    (he : starEach [Expr.Name y p2, c] X.env = (false, eval (.Name y p2) X.env) :: starEach [c] X.env) (he2 : starEach [c] X.env = (false, eval c X.env) :: starEach [] X.env) (hpl : (backTo pos (starEach [c] X.env)).any (·.1) = false)
    (hn : x ≠ "__name__" := by decide) (hdb : (x == ("__debug__" : Str)) = false := by decide) (hd : (y == ("__debug__" : Str)) = false := by decide) (hcd : (y == ("__classdict__" : Str)) = false := by decide) : EvF X B Ψ (.Call (.Name x p1) [.Name y p2, c] [] pos) (eWord i (.bl bb)) := fun δ σ H vs Q s q => by
  unfold eWord at q
  split at q
  case isFalse => exact q.elim
  rename_i hgn
  have g1 := s.pinned hp hgn
  subst hcm
  refine (pe_callB (pRC _) hg hm hx (pa_cons (pe_var hN hv hd hcd) (pa_cons (pE c) pa_nil he2) he) hn hdb he hpl).tov ⟨.ref a, g1, ?_⟩
  obtain ⟨sl, st⟩ := δ
  refine hc2 ⟨sl, st⟩ σ H vs _ s fun w H1 s1 => ?_
  have hw : ∀ u', RelV w u' → u' = cv := by
    obtain ⟨S, A, _, _, r⟩ := s1.top (u := u) rfl
    rcases hu with ⟨m, rfl, rfl⟩ | ⟨t, rfl, rfl⟩
    · cases r with
      | leaf h => cases h
      | cls => exact fun u' r => r
    · cases r with
      | leaf h => cases h; exact fun u' r => r
  exact tRC_of (call_isW C hc) ⟨w, cv, bb, rfl, hw, hb, q _ _ (s1.pop.pushL rfl)⟩
end
/-! ### try -/
/-- the suite for the class C -/
def tryEx (i : Nat) (su : Nat → SF) (C : Nat) (sl : List Ent) : SR := if C < 7 ∧ (⟨sl, []⟩ : En).noal i = true ∧ i < sl.length then (match su C ⟨sl.set i (.own .gone), []⟩ with
  | .nx δ1 => if δ1.noal i = true then .nx ⟨δ1.sl.set i .emp, δ1.st⟩ else .no
  | .rt δ1 => .rt δ1
  | _ => .no) else .no
def sTry (i : Nat) (sb : SF) (su : Nat → SF) : SF := fun δ => match sb δ with
  | .ex C sl => tryEx i su C sl
  | r => r
/-- the base of a suite: slot i holds the exception -/
def Base.hot (B : Base) (i : Nat) (a : Addr) : Base := { B with pin := fun j => if j = i then some (.ref a) else B.pin j }
section
variable {X : Cx} {B : Base} {W : WX} {Ψ : XF} {k i : Nat} {st : Stmt} {sts rest : List Stmt} {s1 s2 sb : SF} {σ : L2.St} {H : Hp} {vs : List V} {δ : En} {a : Addr}
def StF0 (X : Cx) (B : Base) (Ψ : XF) (st : Stmt) (f : SF) : Prop := ∀ δ σ H Dn, StT X.K B δ σ H [] → LiftE X B Ψ (f δ) [] Dn → tS X st Dn σ H
theorem StF.top (h : StF X B Ψ st s1) : StF0 X B Ψ st s1 := fun δ σ H Dn s l => h δ σ H [] Dn s l
theorem stk0 (s : StT X.K B δ σ H []) : δ.st = [] := by
  obtain ⟨_, _, _, s⟩ := s
  exact List.length_eq_zero_iff.mp s.lenv.symm
theorem sts0_cons (h1 : StF0 X B Ψ st s1) (h2 : StFs0 X B Ψ rest s2) : StFs0 X B Ψ (st :: rest) (sSeq s1 s2) := fun δ σ H Dn e s l =>
  (pss_cons (pS st) (pSs rest)).tov (h1 δ σ H _ s (by
    have l' : LiftE X B Ψ ((s1 δ).then s2) [] Dn := l
    cases z : s1 δ with
    | nx δ1 =>
      rw [z] at l'
      exact lift_nx fun σ H s => h2 δ1 σ H Dn (stk0 s) s l'
    | rt δ1 => rw [z] at l'; exact ⟨(fun _ _ _ e _ => nomatch e), l'.rt, l'.bk, l'.ct, l'.ex, l'.no⟩
    | bk δ1 => rw [z] at l'; exact ⟨(fun _ _ _ e _ => nomatch e), l'.rt, l'.bk, l'.ct, l'.ex, l'.no⟩
    | ct δ1 => rw [z] at l'; exact ⟨(fun _ _ _ e _ => nomatch e), l'.rt, l'.bk, l'.ct, l'.ex, l'.no⟩
    | ex C sl => rw [z] at l'; exact ⟨(fun _ _ _ e _ => nomatch e), l'.rt, l'.bk, l'.ct, l'.ex, l'.no⟩
    | no => rw [z] at l'; exact absurd rfl l'.no))
theorem sts0_one (h1 : StF0 X B Ψ st s1) : StFs0 X B Ψ [st] s1 := fun δ σ H Dn e s l => (pss_one (pS st)).tov (h1 δ σ H Dn s l)
theorem StT.heat {K : PySem.W.Frag} (s : StT K B δ σ H vs) (h : slotGone i δ.sl = true) (hs : σ[i]? = some (some (.ref a))) : StT K (B.hot i a) δ σ H vs := by
  obtain ⟨S, F, sv, t⟩ := s
  refine ⟨S, F, sv, t.exS, t.exF, t.dj, t.len, t.lens, t.lenv, t.slv, t.rep, t.al, t.bS, t.bF, t.bN, t.bH, fun j v hj => ?_, t.lk, t.lkf⟩
  have hj' : (if j = i then some (V.ref a) else B.pin j) = some v := hj
  split at hj'
  · rename_i e
    cases hj'; subst e
    rcases t.slv j _ (slotGone_eq h) with ⟨v', z1, z2⟩ | z
    · rw [hs] at z2; cases z2; exact z1
    · cases z
  · exact t.pin j v hj'
theorem StT.cool {K : PySem.W.Frag} (s : StT K (B.hot i a) δ σ H vs) (hp : B.pin i = none) : StT K B δ σ H vs := by
  obtain ⟨S, F, sv, t⟩ := s
  refine ⟨S, F, sv, t.exS, t.exF, t.dj, t.len, t.lens, t.lenv, t.slv, t.rep, t.al, t.bS, t.bF, t.bN, t.bH, fun j v hj => ?_, t.lk, t.lkf⟩
  refine t.pin j v ?_
  show (if j = i then some (V.ref a) else B.pin j) = some v
  rw [if_neg (fun e => by subst e; rw [hp] at hj; cases hj)]
  exact hj
/-- try: body, except x as n: suite -/
theorem st0_try {x n : Str} {cv : Value} {body suite : List Stmt} {b0 : Stmt} {np pos pos' : Pos} {su : Nat → SF} (c : CxOk X B W Ψ k) (hs : X.stack = X.env :: X.outer) (hf : X.env.frame = some X.env.locals) (hi : X.N[i]? = some n) (hln : X.env.kindOf n = some .local) (hc : Names X x cv) (hp : B.pin i = none)
    (hcat : ∀ C, C < 7 → PySem.W.exmOne X.K (.ref (B.cm C)) cv = some true)
    (hb : ∀ (W' : WX) (Ψ' : XF) (pn : List (Addr × Obj)) (xe : Value → Shared → Prop), CxOk (X.tr pn xe) B W' Ψ' k → StFs (X.tr pn xe) B Ψ' body sb)
    (hsu : ∀ (a : Addr) (C : Nat) (oe : Obj) (pn : List (Addr × Obj)), C < 7 → HotX (X.suite a ((a, oe) :: pn)) a (B.cm C) → L2H.RoomH k (X.suite a ((a, oe) :: pn)).A →
      StFs (X.suite a ((a, oe) :: pn)) (B.hot i a) (fun _ _ => False) (b0 :: suite) (su C)) :
    StF0 X B Ψ (.Try body [.ExceptHandler (some (.Name x np)) (some n) (b0 :: suite) pos'] [] [] pos) (sTry i sb su) := fun δ σ H Dn s l => by
  refine (ps_try_as (tb := fun W' => fun D σ H => ∀ pn xe, Takes (X.tr pn xe) W' → PassesOwn (model X.prog X.w) X.A X.env xe → tSs (X.tr pn xe) body D σ H)
    (ts := fun a cls d => fun D σ H => ∀ oe pn, Zc cls d oe → (∃ vs, oe.data = .fields vs) → tSs (X.suite a ((a, oe) :: pn)) (b0 :: suite) D σ H) hs hf c.nd hi hln hc c.takes
    (fun W' pn xe h1 h2 => ⟨fun pins s σ H D I h => h pn xe h1 h2 pins s I⟩) (fun a oe cls d pn h1 h2 => ⟨fun pins s σ H D I h => h oe pn h1 h2 pins s I⟩)).tov ?_
  intro pn xe h1 h2
  have l0 : LiftE X B Ψ (match sb δ with
    | .ex C sl => tryEx i su C sl
    | r => r) [] Dn := l
  refine hb _ (fun C sl => LiftE X B Ψ (tryEx i su C sl) [] Dn) pn xe ⟨c.calm, h1, h2, ?_, c.room, c.nd⟩ δ σ H [] Dn s ?_
  · intro C sl σ' H' hC s'
    have hlim : C < 7 ∧ (⟨sl, []⟩ : En).noal i = true ∧ i < sl.length := Decidable.byContradiction fun z => by
      unfold tryEx at hC
      rw [if_neg z] at hC
      exact hC.no rfl
    unfold tryEx at hC
    rw [if_pos hlim] at hC
    obtain ⟨l1, l2, l3⟩ := hlim
    refine ⟨true, hcat C l1, fun _ a ha oe pn hz hd => ?_, fun z => nomatch z⟩
    have st1 : StT X.K B ⟨sl.set i (.own .gone), []⟩ (σ'.set i (some (.ref a))) H' [] := by
      obtain ⟨S, F, sv, t⟩ := s'
      exact StT.setS ⟨S, F, sv, t.pushD (v := .ref a) .gone⟩ (by simpa [En.noal, Ent.noal] using l2) l3 hp
    have st2 : StT X.K (B.hot i a) ⟨sl.set i (.own .gone), []⟩ (σ'.set i (some (.ref a))) H' [] := st1.heat (by
      show slotGone i (sl.set i (.own .gone)) = true
      unfold slotGone
      rw [List.getElem?_set_self l3]) (by
      obtain ⟨S, F, sv, t⟩ := s'
      have := t.len
      rw [List.getElem?_set_self (by rw [this]; exact l3)])
    have un : ∀ {δ1 : En} {σ : L2.St} {H : Hp}, δ1.noal i = true → StT X.K (B.hot i a) δ1 σ H [] → StT X.K B ⟨δ1.sl.set i .emp, δ1.st⟩ (σ.set i none) H [] := fun {δ1 σ H} hn t => by
      refine ((t.cool hp).unset hn).sig (by simp) fun j e hj he => ?_
      by_cases z : j = i
      · subst z
        have hlt := (List.getElem?_eq_some_iff.mp hj).1
        have hj' : (δ1.sl.set j .emp)[j]? = some e := hj
        rw [List.getElem?_set_self (by simpa using hlt)] at hj'
        cases hj'
        exact absurd rfl he
      · rw [List.getElem?_set_ne (fun w => z w.symm)]
    refine hsu a C oe pn l1 ⟨oe, List.mem_cons_self, hz, hd⟩ ⟨c.room.dp, c.room.un⟩ _ _ _ [] _ st2 ?_
    cases z : su C ⟨sl.set i (.own .gone), []⟩ with
    | nx δ1 =>
      rw [z] at hC
      have hC' : LiftE X B Ψ (if δ1.noal i = true then .nx ⟨δ1.sl.set i .emp, δ1.st⟩ else .no) [] Dn := hC
      split at hC'
      · rename_i hn
        exact ⟨fun δ' σ H e t => by cases e; exact hC'.nx _ _ _ rfl (un hn t), (fun _ _ _ _ e _ => nomatch e), (fun _ _ _ e _ => nomatch e), (fun _ _ _ e _ => nomatch e), (fun _ _ e => nomatch e), (fun e => nomatch e)⟩
      · exact absurd rfl hC'.no
    | rt δ1 =>
      rw [z] at hC
      exact ⟨(fun _ _ _ e _ => nomatch e), fun δ' σ v H e t => by cases e; exact hC.rt _ σ _ _ rfl (t.cool hp), (fun _ _ _ e _ => nomatch e), (fun _ _ _ e _ => nomatch e), (fun _ _ e => nomatch e), (fun e => nomatch e)⟩
    | bk δ1 => rw [z] at hC; exact absurd rfl hC.no
    | ct δ1 => rw [z] at hC; exact absurd rfl hC.no
    | ex C sl => rw [z] at hC; exact absurd rfl hC.no
    | no => rw [z] at hC; exact absurd rfl hC.no
  · cases z : sb δ with
    | ex C sl => rw [z] at l0; exact ⟨(fun _ _ _ e _ => nomatch e), (fun _ _ _ _ e _ => nomatch e), (fun _ _ _ e _ => nomatch e), (fun _ _ _ e _ => nomatch e), (fun _ _ e => by cases e; exact l0), (fun e => nomatch e)⟩
    | nx δ1 => rw [z] at l0; exact ⟨l0.nx, l0.rt, l0.bk, l0.ct, (fun _ _ e => nomatch e), l0.no⟩
    | rt δ1 => rw [z] at l0; exact ⟨l0.nx, l0.rt, l0.bk, l0.ct, (fun _ _ e => nomatch e), l0.no⟩
    | bk δ1 => rw [z] at l0; exact ⟨l0.nx, l0.rt, l0.bk, l0.ct, (fun _ _ e => nomatch e), l0.no⟩
    | ct δ1 => rw [z] at l0; exact ⟨l0.nx, l0.rt, l0.bk, l0.ct, (fun _ _ e => nomatch e), l0.no⟩
    | no => rw [z] at l0; exact absurd rfl l0.no
end
end Vt

/-! Helps for what is printed. -/
namespace Vt
open PySem PySem.Spec PyProof.Rows L2

section
variable {X : Cx} {B : Base} {Ψ : XF} {W : WX} {k j : Nat} {pos : Pos} {e : Expr} {f : EF} {st : Stmt}
theorem CxOk.blk {scope : Scope} (c : CxOk X B W Ψ k) (s : Shared) (H : Hp) (C : Addr) (cl : List (Str × Addr)) (fp : List Addr) : CxOk (Blk X scope s H C cl fp) B (fun _ _ _ _ => False) (fun _ _ => False) k :=
  ⟨c.calm, takes0, PassesOwn.never, fun _ _ _ _ h _ => h.elim, c.room, c.nd⟩
theorem ts_val (h : EvF X B Ψ e f) (he : ∀ whole, isTrue e X.env whole = (do let v ← whole; standAt e.pos; holding [v] (truthy v))) : TsF X B Ψ e (tVal f) := fun δ σ H vs Q s q =>
  (pt_val (pE e) he).tov (h δ σ H vs _ s (post_bB (P := fun r => PostB X B Ψ r σ vs Q) q (fun _ _ h => h) (fun h => h) fun δ1 h1 v H1 s1 => popB_of s1 h1))
theorem unitsH {A : Around} (r : L2H.RoomH k A) : A.units + 64 < cLine := by have := r.un; omega
theorem hot_pin (i : Nat) {a : Addr} : (B.hot i a).pin i = some (.ref a) := if_pos rfl
theorem hot_npin {i j : Nat} {a : Addr} (h : j ≠ i) (hp : B.pin j = none) : (B.hot i a).pin j = none := (if_neg h).trans hp
theorem chain_of {a b c : Expr} {fa fb fc r1 r2 : EF} {op op' : CmpOp} {δ : En} {σ : L2.St} {H : Hp} {vs : List V} {Q : VK} (ha : EvF X B Ψ a fa) (hb : EvF X B Ψ b fb) (h1 : BiF X B Ψ (compareOp op) r1) (hc : EvF X B Ψ c fc) (h2 : BiF X B Ψ (compareOp op') r2) (s : StT X.K B δ σ H vs) (q : PostF X B Ψ (eChain fa fb r1 fc r2 δ) σ vs Q) : tChain (tR2 X (compareOp op)) (tR2 X (compareOp op')) (tE X a) (tE X b) (tE X c) σ H Q := by
  refine (ha δ σ H vs _ s (post_b (P := fun r => PostF X B Ψ ((((r.bind eDup).bind r1).bindB popB).bindF _) σ vs Q) (r := fa δ) (k := fb) q (fun _ _ h => h) (fun h => h) fun δ1 g1 v H1 s1 => hb δ1 σ H1 (v :: vs) _ s1 (post_b (P := fun r => PostF X B Ψ (((r.bind r1).bindB popB).bindF _) σ vs Q) (k := eDup) g1 (fun _ _ h => h) (fun h => h) fun δ2 g2 w H2 s2 => ?_)))
  cases z : eDup δ2 with
  | no => rw [z] at g2; exact g2.elim
  | ex C sl =>
    exfalso
    unfold eDup at z
    split at z
    · split at z <;> cases z
    · cases z
  | ok δ3 =>
    rw [z] at g2
    have s3 := eDup_of s2 z
    refine h1 δ3 σ H2 (w :: vs) v w _ s3 (post_bB (P := fun r => PostF X B Ψ (r.bindF _) σ vs Q) (k := popB) g2 (fun _ _ h => h) (fun h => h) fun δ4 g4 x H3 s4 => ?_)
    refine popB_of (Q := fun b H3 => if b = true then tE X c σ H3 fun w' H4 => tR2 X (compareOp op') w w' H4 Q else Q (.bl false) H3) s4 (post_tF (P := fun r => PostF X B Ψ r σ vs Q) g4 (fun _ _ h => h) (fun h => h) fun kb δ5 g5 H4 s5 => ?_)
    · cases kb with
      | true =>
        show tE X c σ H4 _
        refine hc δ5 σ H4 (w :: vs) _ s5 (post_b (P := fun r => PostF X B Ψ r σ vs Q) g5 (fun _ _ h => h) (fun h => h) fun δ6 g6 y H5 s6 => h2 δ6 σ H5 vs w y Q s6 g6)
      | false =>
        show Q (.bl false) H4
        have g5' : PostF X B Ψ (match δ5.st with | _ :: st => ePush (.bl false) ⟨δ5.sl, st⟩ | [] => .no) σ vs Q := g5
        obtain ⟨sl, st⟩ := δ5
        cases st with
        | nil => exact g5'.elim
        | cons e st => exact g5' _ H4 (StT.pushL s5.pop rfl)
theorem ts_chainT {a b c : Expr} {fa fb fc r1 r2 : EF} {op op' : CmpOp} (ha : EvF X B Ψ a fa) (hb : EvF X B Ψ b fb) (h1 : BiF X B Ψ (compareOp op) r1) (hc : EvF X B Ψ c fc) (h2 : BiF X B Ψ (compareOp op') r2) (hm : lastMarks [op, op'] [b, c] = false) : TsF X B Ψ (.Compare a [op, op'] [b, c] pos) (tVal (eChain fa fb r1 fc r2)) := fun δ σ H vs Q s q =>
  (pt_chain (pR2 _) (pR2 _) (pE a) (pE b) (pE c) hm).tov (chain_of ha hb h1 hc h2 s (post_bB (P := fun r => PostB X B Ψ r σ vs Q) q (fun _ _ h => h) (fun h => h) fun δ1 h1 v H1 s1 => popB_of s1 h1))
theorem DefW.mono {P : Program} {w : World} {K : PySem.W.Frag} {mg : Str → Option Value} {base : Heap} {cm : Nat → Addr} {x : Str} {j k : Nat} {R : Nat → Str → Prop} (h : j ≤ k) : DefW P w K mg base cm x j R → DefW P w K mg base cm x k R := fun ⟨f, fd, ps, F, r⟩ => ⟨f, fd, ps, F.mono h, r⟩
/-- a name set where an exception is handled -/
theorem st_setN {i : Nat} {x : Str} {pos' : Pos} {fe : EF} (nd : X.N.Nodup) (hi : X.N[i]? = some x) (hx : Loc X.env.scope x) (he : EvF X B Ψ e fe) (hs : swapsWith e (some (.Name x pos')) pos.line X.env = pure false) (hf : X.fn x = true ∨ X.env.scope.names.lookup x = some .local) (hp : B.pin i = none) : StF X B Ψ (.Assign [.Name x pos'] e pos) (sSet i fe) := fun δ σ H vs Dn s l =>
  (ps_set nd hi hx (pE e) hs hf).tov (he δ σ H vs _ s (lift_res l fun δ1 l1 v H1 s1 => by
    cases z : gSlot i δ1 with
    | none => rw [z] at l1; exact absurd rfl l1.no
    | some δ2 => rw [z] at l1; exact l1.nx δ2 _ H1 rfl (slot_of s1 z hp)))
end
/-- what an exception class of the module is -/
structure ExF (K : PySem.W.Frag) (mg : Str → Option Value) (x : Str) (C : Addr) : Prop where
  gP : mg x = some (.ref C)
  xP : PySem.W.excIn K C [.type "ValueError", .type "Exception", .type "BaseException", .type "object"] "ValueError.__new__" = true
  kP : PySem.W.keepIn K (.ref C) = true
  bP : PySem.W.subIn K (.ref C) (.type "BaseException") = some true
  tP : PySem.W.typeIn K (.ref C) = some (.type "type")
theorem st_rs {X : Cx} {B : Base} {W : WX} {Ψ : XF} {k : Nat} {x m : Str} {i : Nat} {p p2 cpos pos : Pos} {C : Nat} (c : CxOk X B W Ψ k) (e : ExF X.K X.mg x (B.cm C)) (hg : Gl X x) (hdb : (x == ("__debug__" : Str)) = false := by decide) :
    StF X B Ψ (.Raise (some (.Call (.Name x p) [.Constant (.str m) i p2] [] cpos)) none pos) (sRaise C) := st_raise c PySem.F.excBase_ValueError e.xP e.gP e.kP (raises_own e.bP e.tP) hg hdb
/-- what isinstance tells of an exception of class D -/
structure CatV (K : PySem.W.Frag) (cm : Nat → Addr) (we : Addr) (D : Nat) : Prop where
  ec : ExcC K (cm D)
  is : ∀ m, m < 7 → PySem.W.kitOne K (.ref (cm D)) (.ref (cm m)) = some (decide (D = m))
  ve : PySem.W.kitOne K (.ref (cm D)) (.type "ValueError") = some true
  cx : PySem.W.exmOne K (.ref (cm D)) (.ref we) = some true
def wordOf : Nat → Str
  | 0 => "box" | 1 => "slot" | 2 => "hand" | 3 => "pair" | 4 => "will" | 5 => "many" | _ => "text"
def Cat (D : Nat) (n : Str) : Prop := D < 7 ∧ n = wordOf D
/-! ### min of a tuple -/
def minI : Int → List Int → Int
  | n, [] => n
  | n, m :: ns => minI (if m < n then m else n) ns
theorem minI_mem : ∀ (n : Int) (ns : List Int), minI n ns ∈ n :: ns
  | n, [] => by simp [minI]
  | n, m :: ns => by
    have := minI_mem (if m < n then m else n) ns
    unfold minI
    rcases List.mem_cons.mp this with h | h
    · rw [h]; split <;> simp
    · exact List.mem_cons_of_mem _ (List.mem_cons_of_mem _ h)
theorem minI_le : ∀ (n : Int) (ns : List Int), ∀ y ∈ n :: ns, minI n ns ≤ y
  | n, [], y, h => by simp at h; subst h; simp [minI]
  | n, m :: ns, y, h => by
    have ih := minI_le (if m < n then m else n) ns
    unfold minI
    have h0 := ih _ List.mem_cons_self
    rcases List.mem_cons.mp h with h | h
    · subst h; split at h0 <;> split <;> omega
    · rcases List.mem_cons.mp h with h | h
      · subst h; split at h0 <;> split <;> omega
      · exact ih y (List.mem_cons_of_mem _ h)
def kMinT : T → Option T
  | .tup ts => match allOf T.toInt ts with
    | some (n :: ns) => some (.int (minI n ns))
    | _ => none
  | _ => none
section
variable {prog : Program} {w : World} {A : Around} {E : Value → Shared → Prop} {s : Shared} {l : Addr} {its : List Value} {ns : List Int} {Q : Value → Shared → Prop}
theorem min_rawT (hh : A.handled = none) (hl : s.heap.IsTuple l its.toArray) (hlt : l < s.heap.objs.size) (hi : IntsAre its ns) (hne : 0 < ns.length)
    (h : ∀ h' tk M t', (∀ b o, s.heap.get? b = some o → h'.get? b = some o) → M ∈ ns → (∀ a, a ∈ ns → M ≤ a) → Q (.int M t') { s with heap := h', toks := tk }) : wpAny (model prog w) A (call (.builtin "min") [.ref l]) Q E s := by
  obtain ⟨xs, e⟩ := hi.allInts.items
  have hn : numsOf (intItems xs).toList = ns := by rw [← e]; exact hi.numsOf
  rw [nums_intItems] at hn
  subst hn
  rw [e] at hl
  have hsz : 0 < xs.size := by simpa using hne
  refine call_min_walk (wpAny_pyIter_tuple hl ?_)
  refine ⟨_, _, _, _, _, _, _, rfl, Walks.tuple (A := A.in1) hh s.heap.objs.size l (Nat.ne_of_lt hlt) (intItems xs), ⟨⟨_, Heap.get?_push_size _ rfl, rfl, rfl⟩, hl.push _⟩, fun c hc => ?_, by simpa [intItems] using hsz, CmpOf.ints_lt (numAt xs) (fun _ _ => intItems_at), fun v h' tk hP hk => ?_⟩
  · show c < (s.heap.push _).objs.size
    rw [Heap.size_push]
    rcases List.mem_cons.mp hc with e | hc
    · rw [e]; exact Nat.lt_succ_self _
    · rw [List.mem_singleton.mp hc]; exact Nat.lt_succ_of_lt hlt
  · have hP' : (intItems xs)[argBest (fun i j => decide (numAt xs i < numAt xs j)) (xs.size - 1)]? = some v := by simpa [intItems] using hP
    obtain ⟨t, rfl⟩ := intItems_at hP'
    obtain ⟨h1, h2⟩ := argBest_lt (numAt xs) (xs.size - 1)
    refine h h' tk _ t (fun b o eb => hk b o (fun hm => ?_) (Heap.get?_push_of_some _ eb)) ?_ fun a ha => ?_
    · have e1 : b = s.heap.objs.size := List.mem_singleton.mp hm
      have e2 := Heap.lt_size eb
      rw [e1] at e2
      exact Nat.lt_irrefl _ e2
    · rw [numAt_eq]; exact PySem.getD_mem (by rw [List.length_map, Array.length_toList]; omega)
    · obtain ⟨j, hj, rfl⟩ := mem_getD ha
      rw [List.length_map, Array.length_toList] at hj
      rw [← numAt_eq]; exact h2 j (by omega)
end
section
variable {X : Cx} {B : Base} {Ψ : XF} {W : WX} {k : Nat}
def rMinT (K : PySem.W.Frag) : List V → Hp → VK → Prop := fun vs H Q => ∃ (a : Addr) (ns : List Int), vs = [V.ref a] ∧ SqT K H a (ns.map V.int) ∧ 0 < ns.length ∧ ∀ m, m ∈ ns → (∀ y, y ∈ ns → m ≤ y) → Q (.int m) H
theorem cr_minT (hc : X.calm = true) : CallR X (.builtin "min") (rMinT X.K) := by
  intro pins s σ H vs us Q I r h
  obtain ⟨a, ns, rfl, hs, hne, q⟩ := h
  obtain ⟨its, rv, hl, _⟩ := I.tuple hs
  rw [Vals.ref1 r]
  have hlt : a < s.heap.objs.size := by obtain ⟨o, e, _⟩ := hl; exact Heap.lt_size e
  exact min_rawT (I.ok.hd hc) hl hlt rv.ints hne fun h' tk m t' hk h1 h2 => ⟨.int _, H, I.kept hk, ⟨_, rfl⟩, q m h1 h2⟩
theorem cl_minT (c : CxOk X B W Ψ k) : ClF X B Ψ 1 (.builtin "min") (op1 kMinT) := cl1_gen fun sl st σ H vs S F sv A x tx r Q t e1 e2 r1 hg q => by
  unfold kMinT at hg
  split at hg
  · rename_i ts
    split at hg
    · rename_i n ns z
      cases hg
      have := allInt z
      subst this
      obtain ⟨p, xs, rfl, h2, h3⟩ := r1.tupR e1
      have hx := rep_ints h3
      subst hx
      refine tRC_of (cr_minT c.calm) ⟨p, n :: ns, rfl, .inl (.inl h2), Nat.succ_pos _, fun m h1 h2 => ?_⟩
      have e : m = minI n ns := by
        have a1 := minI_le n ns m h1
        have a2 := h2 _ (minI_mem n ns)
        omega
      subst e
      exact q _ _ (t.leaf rfl)
    · cases hg
  · cases hg
end
/-! ### no star -/
section
variable {es : List Expr} {env : Env}
theorem se_Constant {c i p} : starEach (.Constant c i p :: es) env = (false, eval (.Constant c i p) env) :: starEach es env := rfl
theorem se_Name {x p} : starEach (.Name x p :: es) env = (false, eval (.Name x p) env) :: starEach es env := rfl
theorem se_BinOp {a o b p} : starEach (.BinOp a o b p :: es) env = (false, eval (.BinOp a o b p) env) :: starEach es env := rfl
theorem se_UnaryOp {o a p} : starEach (.UnaryOp o a p :: es) env = (false, eval (.UnaryOp o a p) env) :: starEach es env := rfl
theorem se_Call {f xs ks p} : starEach (.Call f xs ks p :: es) env = (false, eval (.Call f xs ks p) env) :: starEach es env := rfl
theorem se_List {xs p} : starEach (.List xs p :: es) env = (false, eval (.List xs p) env) :: starEach es env := rfl
theorem se_Tuple {xs m p} : starEach (.Tuple xs m p :: es) env = (false, eval (.Tuple xs m p) env) :: starEach es env := rfl
theorem se_Dict {ks xs p} : starEach (.Dict ks xs p :: es) env = (false, eval (.Dict ks xs p) env) :: starEach es env := rfl
theorem se_Subscript {a b p} : starEach (.Subscript a b p :: es) env = (false, eval (.Subscript a b p) env) :: starEach es env := rfl
theorem se_Attribute {a x p} : starEach (.Attribute a x p :: es) env = (false, eval (.Attribute a x p) env) :: starEach es env := rfl
theorem se_Compare {a os bs p} : starEach (.Compare a os bs p :: es) env = (false, eval (.Compare a os bs p) env) :: starEach es env := rfl
theorem se_BoolOp {o xs p} : starEach (.BoolOp o xs p :: es) env = (false, eval (.BoolOp o xs p) env) :: starEach es env := rfl
theorem se_IfExp {a b c p} : starEach (.IfExp a b c p :: es) env = (false, eval (.IfExp a b c p) env) :: starEach es env := rfl
theorem se_ListComp {a gs sc p} : starEach (.ListComp a gs sc p :: es) env = (false, eval (.ListComp a gs sc p) env) :: starEach es env := rfl
end
/-! ### xs[::2] -/
def evens {α : Type} : List α → List α
  | [] => []
  | [a] => [a]
  | a :: _ :: l => a :: evens l
theorem evens_pick {α : Type} : ∀ (l : List α), (List.range ((l.length + 1) / 2)).filterMap (fun k => l[2 * k]?) = evens l
  | [] => by simp [evens]
  | [a] => by
    rw [show ([a].length + 1) / 2 = 1 by simp]
    simp [List.range_succ_eq_map, evens]
  | a :: b :: l => by
    have e : ((a :: b :: l).length + 1) / 2 = (l.length + 1) / 2 + 1 := by simp only [List.length_cons]; omega
    rw [e, List.range_succ_eq_map, List.filterMap_cons]
    show a :: _ = a :: evens l
    rw [List.filterMap_map, ← evens_pick l]
    congr 1
theorem pick_two (items : Array Value) : slicePick items none none (some 2) = (evens items.toList).toArray := by
  unfold slicePick
  have e : (sliceBounds none none (some 2) items.size) = ((0 : Int), (items.size : Int), (2 : Int)) := rfl
  rw [e]
  show ((sliceRange (0 : Int) (items.size : Int) 2).filterMap (items[·]?)).toArray = _
  rw [← evens_pick]
  congr 1
  unfold sliceRange
  rw [List.filterMap_map]
  have hc : (if (2 : Int) > 0 then (if (0 : Int) < (items.size : Int) then ((items.size : Int) - 0 + 2 - 1) / 2 else 0) else (if (0 : Int) > (items.size : Int) then (0 - (items.size : Int) - 2 - 1) / (-2) else 0)).toNat = (items.toList.length + 1) / 2 := by
    rw [if_pos (by decide), Array.length_toList]
    split
    · omega
    · rename_i h
      have : items.size = 0 := by omega
      rw [this]; rfl
  rw [hc]
  congr 1
  funext k
  show items[((0 : Int) + 2 * (k : Int)).toNat]? = items.toList[2 * k]?
  rw [show ((0 : Int) + 2 * (k : Int)).toNat = 2 * k by omega, Array.getElem?_toList]
theorem evens_len {α : Type} : ∀ (l : List α), (evens l).length ≤ l.length
  | [] => Nat.le_refl _
  | [_] => Nat.le_refl _
  | _ :: _ :: l => by
    have := evens_len l
    show (evens l).length + 1 ≤ l.length + 1 + 1
    omega
theorem Vals.evens : ∀ {xs : List V} {us : List Value}, Vals xs us → Vals (evens xs) (evens us)
  | [], _, .nil => .nil
  | [_], _, .cons r .nil => .cons r .nil
  | _ :: _ :: _, _, .cons r (.cons _ t) => .cons r (Vals.evens t)
def kEvens : T → Option T
  | .lst _ ts => if datas ts then some (.lst .mu (evens ts)) else none
  | _ => none
def tEvL (K : PySem.W.Frag) (te : TE) : TE := fun σ H Q => te σ H fun x H1 => ∃ a xs, x = .ref a ∧ SqL K H1 a xs ∧ ∀ p, H1 p = none → Q (.ref p) (upd H1 p (.lst (evens xs)))
section
variable {X : Cx} {B : Base} {Ψ : XF} {W : WX} {k : Nat} {fa : EF}
theorem pe_evL {e : Expr} {te : TE} {k : Nat} {p1 p3 pos : Pos} (he : PE X e te) : PE X (.Subscript e (.Slice none none (some (.Constant (.int 2) k p1)) p3) pos) (tEvL X.K te) := by
  refine ⟨fun pins s σ H Q I h => ?_⟩
  refine Subscript_ (thn (he.run pins s σ H _ I h) fun v s1 ⟨x, H1, I1, r1, q1⟩ => ?_)
  obtain ⟨a, xs, ex, hx, q⟩ := q1
  subst ex
  cases r1
  have hst : PO X (some (.Constant (.int 2) k p1)) (tPart (tC (.int 2))) := po_some pe_int
  refine wpAny_Slice (thn (po_none.run pins s1 σ H1 (fun o H2 => o = none ∧ H2 = H1) I1 ⟨rfl, rfl⟩) fun vl s2 ⟨l, H2, I2, pl, el, e2⟩ => ?_)
  subst el e2
  refine thn (po_none.run pins s2 σ H2 (fun o H3 => o = none ∧ H3 = H2) I2 ⟨rfl, rfl⟩) fun vu s3 ⟨u, H3, I3, pu, eu, e3⟩ => ?_
  subst eu e3
  refine thn (hst.run pins s3 σ H3 (fun o H4 => o = some 2 ∧ H4 = H3) I3 ⟨2, rfl, rfl, rfl⟩) fun vs s4 ⟨o, H4, I4, ps, eo, e4⟩ => ?_
  subst eo e4
  have I5 : Inv X pins σ H4 { s4 with heap := s4.heap.push { cls := .type "slice", data := .fields #[vl, vu, vs] } } := I4.kept (t' := s4.toks) fun b ob q => Heap.get?_push_of_some _ q
  obtain ⟨its, r, ht, hz⟩ := I5.list hx
  have hlen := r.length
  show wpAny (model X.prog X.w) X.A (subscriptTail e (.Slice none none (some (.Constant (.int 2) k p1)) p3) (.ref a) (.ref s4.heap.objs.size)) (EP X pins σ Q) X.xe { s4 with heap := s4.heap.push { cls := .type "slice", data := .fields #[vl, vu, vs] } }
  refine tail_any (ops := [.ref a, .ref s4.heap.objs.size]) ht.isList.typeIs (PySem.slot_list_getitem.lookup) ?_ (by with_unfolding_all rfl)
  refine wpAny_getItem_list_slice ht.isList (Heap.IsSliceOf.new _ vl vu vs) pl pu ps (by decide) ?_ (by rw [List.size_toArray]; omega)
  rw [pick_two]
  refine ⟨.ref _, _, I5.laid (t' := s4.toks) (o := .lst (evens xs)) (fun b ob q => Heap.get?_push_of_some _ q) (Nat.le_refl _) ?_, rfl, q _ (I5.hok.fresh (Nat.le_refl _))⟩
  exact ⟨Nat.le_trans (evens_len _) hz, _, 0, Vals.evens r, Heap.get?_push_size _ rfl⟩
theorem pd_evens {K : Kc} {S : Hp} : ∀ {ts : List T} {xs : List V}, PD K S ts xs → PD K S (evens ts) (evens xs)
  | [], _, .nil => .nil
  | [_], _, .cons h .nil => .cons h .nil
  | _ :: _ :: _, _, .cons h (.cons _ t) => .cons h (pd_evens t)
theorem ev_evens {e : Expr} {j : Nat} {p1 p3 pos : Pos} (ha : EvF X B Ψ e fa) : EvF X B Ψ (.Subscript e (.Slice none none (some (.Constant (.int 2) j p1)) p3) pos) (eThen fa (op1 kEvens)) := fun δ σ H vs Q s q =>
  (pe_evL (pE e)).tov (ha δ σ H vs _ s (post_b (P := fun r => PostF X B Ψ r σ vs Q) q (fun _ _ h => h) (fun h => h) fun δ1 h1 v H1 s1 => by
    obtain ⟨sl, st⟩ := δ1
    unfold op1 at h1
    cases st with
    | nil => exact h1.elim
    | cons ex st =>
      simp only at h1
      cases z : look sl ex with
      | none => simp only [z] at h1; exact h1.elim
      | some t =>
        simp only [z] at h1
        cases t with
        | lst m ts =>
          unfold kEvens at h1
          by_cases hd : datas ts = true
          · simp only [hd, if_true] at h1
            obtain ⟨S, F, sv, A, t', e1, e2, r1⟩ := s1.rd1 z
            obtain ⟨a, xs, G, rfl, h2, h3, h4⟩ := r1.lstR e1 e2
            exact ⟨a, xs, rfl, SqL.of h2, fun p hp => h1 _ _ (t'.newL (pd_rep (pd_evens (h3.pd hd))) hp)⟩
          · simp only [hd, if_false] at h1
            exact h1.elim
        | _ => exact h1.elim))
end
end Vt

namespace Vt
open PySem PySem.Spec PyProof.Rows L2
/-! list(d.values()) -/
def tListVals (td : TE) : TE := fun σ H Q => td σ H fun x H1 => ∃ a kvs, x = V.ref a ∧ H1 a = some (.dK kvs) ∧ ∀ q, H1 q = none → Q (.ref q) (upd H1 q (.lst (kvs.map (·.2))))
section
variable {X : Cx} {B : Base} {Ψ : XF} {W : WX} {k : Nat} {fa : EF} {o : Expr} {p pos apos mpos : Pos} {td : TE}
theorem pe_listVals (hc : X.calm = true) (hg : Gl X "list") (hm : X.mg "list" = none) (hd : PE X o td) (hbase : attributeBase o "values" X.env (eval o X.env) = eval o X.env) (hline : (apos.endLine == mpos.line) = true)
    (hse : starEach [Expr.Call (.Attribute o "values" apos) [] [] mpos] X.env = (false, eval (Expr.Call (.Attribute o "values" apos) [] [] mpos) X.env) :: starEach [] X.env) :
    PE X (.Call (.Name "list" p) [.Call (.Attribute o "values" apos) [] [] mpos] [] pos) (tListVals td) := by
  refine ⟨fun pins s σ H Q I h => ?_⟩
  refine Call_ (ld_blt I hg hm boot_list (PyProof.Rows.callWith_type1 (args_cons (wpAny_Call_method0_late hbase hline (thn (hd.run pins s σ H _ I h) fun v s1 ⟨x, H1, I1, r1, a, kvs, ex, ha, q⟩ => ?_)) hse) hse))
  subst ex
  obtain rfl : v = Value.ref a := r1
  obtain ⟨hz, hsys, vs, rel, dof⟩ := dk_of I1.hok ha
  obtain ⟨ep, dat⟩ := dof.dictAt
  have dat' := dat
  obtain ⟨ob, es, ho, ex, hdat, hko, hpr, hnd⟩ := dat'
  refine ⟨"dict", "dict.values", F.plainAttrs_dict, F.slot_dict_values, F.type_dict_values, ⟨ob, ho, ex.1⟩, fun b e => ?_, Calls.callWith_builtin rfl (PySem.evalArgs_none ?_)⟩
  · cases e
    exact ⟨ob, ho, ex.2.1⟩
  refine call_meetsIn F.slot_dict_values ⟨ob, ho, ex.1⟩ F.entry_dict_values (F.args_dict_values_1 _) (meets_dict_values (mixKind X.prog X.w) a hsys) ⟨⟨vs, dof⟩, ?_⟩
  have k1 : ∀ b u, s1.heap.get? b = some u → (s1.heap.push { cls := .type "dict_values", data := .fields #[.ref a] }).get? b = some u := fun b u e => Heap.get?_push_of_some _ e
  have I2 : Inv X pins σ H1 { s1 with heap := s1.heap.push { cls := .type "dict_values", data := .fields #[.ref a] } } := I1.kept (t' := s1.toks) k1
  have dat1 : (s1.heap.push { cls := .type "dict_values", data := .fields #[.ref a] }).DictAt (mixKind X.prog X.w) a vs ep := dat.keep k1
  have hl : kvs.length = vs.length := KV.length rel
  refine args_nil ?_
  refine PySem.W.kdl_call (PySem.W.kdl_values (knd := mixKind X.prog X.w) (r := s1.heap.objs.size) (d := a) (kvs := vs) (ep := ep)) (I2.ok.hd hc) ⟨⟨_, Heap.get?_push_size _ rfl, rfl, rfl⟩, dat1⟩ (by rw [← hl]; exact hz) fun h' tk acc' c' hkeep hS hacc => ?_
  refine ⟨.ref _, upd H1 _ (.lst (kvs.map (·.2))), I2.laid hkeep (Nat.le_refl _) (show ObjOk X.prog X.w _ _ _ (.lst (kvs.map (·.2))) from ⟨?_, acc'.toList, c', ?_, ?_⟩), rfl, q _ (I2.hok.fresh (Nat.le_refl _))⟩
  · rw [List.length_map]; exact hz
  · have el : acc'.toList.length = acc'.size := by simp
    refine vals_of_at (by rw [List.length_map, el, hacc.1, hl]) fun j x w h1 h2 => ?_
    obtain ⟨kk, hky⟩ := hacc.2 j w (by rw [← Array.getElem?_toList]; exact h2)
    obtain ⟨y, h3, h4⟩ := KV.at' rel hky
    rw [List.getElem?_map, h3] at h1
    cases h1
    exact h4
  · rw [Array.toArray_toList]; exact hS
def kVals : T → Option T
  | .dct false kvs => if datas (kvs.map (·.2)) then some (.lst .mu (kvs.map (·.2))) else none
  | _ => none
theorem ev_vals (c : CxOk X B W Ψ k) (hg : Gl X "list") (hm : X.mg "list" = none) (ha : EvF X B Ψ o fa) (hbase : attributeBase o "values" X.env (eval o X.env) = eval o X.env) (hline : (apos.endLine == mpos.line) = true)
    (hse : starEach [Expr.Call (.Attribute o "values" apos) [] [] mpos] X.env = (false, eval (Expr.Call (.Attribute o "values" apos) [] [] mpos) X.env) :: starEach [] X.env) :
    EvF X B Ψ (.Call (.Name "list" p) [.Call (.Attribute o "values" apos) [] [] mpos] [] pos) (eThen fa (op1 kVals)) := fun δ σ H vs Q s q =>
  (pe_listVals c.calm hg hm (pE o) hbase hline hse).tov (ha δ σ H vs _ s (post_b (P := fun r => PostF X B Ψ r σ vs Q) q (fun _ _ h => h) (fun h => h) fun δ1 h1 v H1 s1 => by
    obtain ⟨sl, st⟩ := δ1
    unfold op1 at h1
    cases st with
    | nil => exact h1.elim
    | cons ex st =>
      simp only at h1
      cases z : look sl ex with
      | none => simp only [z] at h1; exact h1.elim
      | some t =>
        simp only [z] at h1
        cases t with
        | dct lk kvs =>
          cases lk with
          | true => exact h1.elim
          | false =>
            unfold kVals at h1
            by_cases hd : datas (kvs.map (·.2)) = true
            · simp only [hd, if_true] at h1
              obtain ⟨S, F, sv, A, t', e1, e2, r1⟩ := s1.rd1 z
              obtain ⟨a, kv, G, rfl, _, h2, _, _, h3, _⟩ := r1.dctR e2
              exact ⟨a, kv, rfl, h2 rfl, fun q hq => h1 _ _ (t'.newL (pd_rep (h3.pd hd)) hq)⟩
            · simp only [hd, if_false] at h1
              exact h1.elim
        | _ => exact h1.elim))
end
end Vt

/-! The chest's data, their trees. -/
namespace Vt
open PySem PySem.Spec PyProof.Rows L2
/-- a will's deed -/
inductive Deed where
  | up
  | down (n : Int)
  | hang (n m : Int) (h : Bool)
  deriving DecidableEq
def deedT : Deed → T
  | .up => .tup [.str "up"]
  | .down n => .tup [.str "down", .int n]
  | .hang n m h => .tup [.str "hang", .int n, .int m, .bl h]
/-- what a chest holds -/
structure CS where
  slots : List (Int × List (Option (Int × Bool)))
  held : List (Int × Unit)
  paired : List (Int × (Int × Int × Int))
  wills : List (Int × List Deed)
  coming : Int
  nextp : Int
def tbl {α : Type} (f : α → T) (l : List (Int × α)) : List (Int × T) := l.map fun p => (p.1, f p.2)
def slotT : Option (Int × Bool) → T
  | none => .non
  | some (o, h) => .tup [.int o, .bl h]
def rowT (xs : List (Option (Int × Bool))) : T := .lst .mu (xs.map slotT)
def trueT : Unit → T := fun _ => .bl true
def trioT : Int × Int × Int → T := fun p => .tup [.int p.1, .int p.2.1, .int p.2.2]
def deedsT (ds : List Deed) : T := .lst .fz (ds.map deedT)
def slotsD (c : CS) : T := .dct false (tbl rowT c.slots)
def heldD (c : CS) : T := .dct false (tbl trueT c.held)
def pairD (c : CS) : T := .dct false (tbl trioT c.paired)
def willD (c : CS) : T := .dct false (tbl deedsT c.wills)
def chestF (c : CS) : List (Str × T) := [("slots", slotsD c), ("held", heldD c), ("paired", pairD c), ("wills", willD c), ("coming", .int c.coming), ("next_pair", .int c.nextp)]
abbrev chestT (c : CS) : T := .ins 7 (chestF c)
abbrev worldT (c : CS) : T := .lst .mu [slotsD c, heldD c, pairD c, willD c, .lst .mu [.int c.coming, .int c.nextp]]
section
variable {α : Type} {f : α → T} {l : List (Int × α)} {k : Int} {v : α}
theorem tbl_get : gGet (tbl f l) k = (gGet l k).map f := by
  unfold tbl
  induction l with
  | nil => rfl
  | cons p l ih =>
    rw [List.map_cons]
    by_cases e : p.1 = k
    · rw [gGet_pos e, gGet_pos (p := (p.1, f p.2)) e]; rfl
    · rw [gGet_neg e, gGet_neg (p := (p.1, f p.2)) e, ih]
theorem tbl_keys : (tbl f l).map (·.1) = l.map (·.1) := by unfold tbl; rw [List.map_map]; rfl
theorem tbl_len : (tbl f l).length = l.length := by unfold tbl; rw [List.length_map]
theorem tbl_put : gPut (tbl f l) k (f v) = tbl f (gPut l k v) := by
  unfold gPut tbl
  rw [List.any_map]
  show (if (l.any fun p => decide (p.1 = k)) = true then _ else _) = _
  split
  · rw [List.map_map, List.map_map]
    apply List.map_congr_left
    intro p _
    show (if p.1 = k then (p.1, f v) else (p.1, f p.2)) = _
    by_cases e : p.1 = k <;> simp [e]
  · rw [List.map_append]; rfl
theorem put_row {l : List (Int × List (Option (Int × Bool)))} {xs} : gPut (tbl rowT l) k (.lst .mu (xs.map slotT)) = tbl rowT (gPut l k xs) := tbl_put
theorem put_true {l : List (Int × Unit)} : gPut (tbl trueT l) k (.bl true) = tbl trueT (gPut l k ()) := tbl_put
theorem put_trio {l : List (Int × (Int × Int × Int))} {a b c : Int} : gPut (tbl trioT l) k (.tup [.int a, .int b, .int c]) = tbl trioT (gPut l k (a, b, c)) := tbl_put (f := trioT) (v := (a, b, c))
theorem put_deeds {l : List (Int × List Deed)} {ds} : gPut (tbl deedsT l) k (.lst .fz (ds.map deedT)) = tbl deedsT (gPut l k ds) := tbl_put
theorem row_set {xs : List (Option (Int × Bool))} {j : Nat} {o : Int} {h : Bool} : (xs.map slotT).set j (.tup [.int o, .bl h]) = (xs.set j (some (o, h))).map slotT := by rw [List.map_set]; rfl
theorem row_setN {xs : List (Option (Int × Bool))} {j : Nat} : (xs.map slotT).set j .non = (xs.set j none).map slotT := by rw [List.map_set]; rfl
theorem slotT_data {v : Option (Int × Bool)} : (slotT v).data = true := by cases v <;> rfl
theorem deedT_data {d : Deed} : (deedT d).data = true := by cases d <;> rfl
theorem datas_map {β : Type} {g : β → T} (h : ∀ b, (g b).data = true) : ∀ l : List β, datas (l.map g) = true
  | [] => rfl
  | b :: l => by
    show ((g b).data && datas (l.map g)) = true
    rw [h, datas_map h l]; rfl
theorem datas_deeds {ds : List Deed} : datas (ds.map deedT) = true := datas_map (fun _ => deedT_data) ds
theorem deedT_plain {d : Deed} : (deedT d).plain = true := by cases d <;> rfl
theorem deedT_frz {d : Deed} : (deedT d).frz = deedT d := by cases d <;> rfl
theorem plains_deeds : ∀ {ds : List Deed}, plains (ds.map deedT) = true
  | [] => rfl
  | d :: ds => by
    show ((deedT d).plain && plains (ds.map deedT)) = true
    rw [deedT_plain, plains_deeds]; rfl
theorem frzs_deeds : ∀ {ds : List Deed}, frzs (ds.map deedT) = ds.map deedT
  | [] => rfl
  | d :: ds => by
    show (deedT d).frz :: frzs (ds.map deedT) = _
    rw [deedT_frz, frzs_deeds]; rfl
theorem map_isEmpty {β : Type} {g : β → T} {l : List β} : (l.map g).isEmpty = l.isEmpty := by cases l <;> rfl
theorem tbl_drop : gDrop (tbl f l) k = tbl f (gDrop l k) := by
  unfold gDrop tbl
  rw [List.filter_map]; rfl
end
section
variable {c : CS}
theorem cf_slots : List.lookup ("slots" : Str) (chestF c) = some (.dct false (tbl rowT c.slots)) := rfl
theorem cf_held : List.lookup ("held" : Str) (chestF c) = some (.dct false (tbl trueT c.held)) := rfl
theorem cf_paired : List.lookup ("paired" : Str) (chestF c) = some (.dct false (tbl trioT c.paired)) := rfl
theorem cf_wills : List.lookup ("wills" : Str) (chestF c) = some (.dct false (tbl deedsT c.wills)) := rfl
theorem cf_coming : List.lookup ("coming" : Str) (chestF c) = some (.int c.coming) := rfl
theorem cf_nextp : List.lookup ("next_pair" : Str) (chestF c) = some (.int c.nextp) := rfl
theorem cf_len : (chestF c).length = 6 := rfl
theorem cp_slots {l} : putD "slots" (.dct false (tbl rowT l)) (chestF c) = chestF { c with slots := l } := rfl
theorem cp_held {l} : putD "held" (.dct false (tbl trueT l)) (chestF c) = chestF { c with held := l } := rfl
theorem cp_paired {l} : putD "paired" (.dct false (tbl trioT l)) (chestF c) = chestF { c with paired := l } := rfl
theorem cp_wills {l} : putD "wills" (.dct false (tbl deedsT l)) (chestF c) = chestF { c with wills := l } := rfl
theorem cp_coming {i} : putD "coming" (.int i) (chestF c) = chestF { c with coming := i } := rfl
theorem cp_nextp {i} : putD "next_pair" (.int i) (chestF c) = chestF { c with nextp := i } := rfl
theorem ci_need_box : isIns 7 "need_box" (.ins 7 (chestF c)) = true := rfl
theorem ci_need_slot : isIns 7 "need_slot" (.ins 7 (chestF c)) = true := rfl
theorem ci_make : isIns 7 "make" (.ins 7 (chestF c)) = true := rfl
theorem ci_boxes : isIns 7 "boxes" (.ins 7 (chestF c)) = true := rfl
theorem ci_size : isIns 7 "size" (.ins 7 (chestF c)) = true := rfl
theorem ci_put : isIns 7 "put" (.ins 7 (chestF c)) = true := rfl
theorem ci_empty : isIns 7 "empty" (.ins 7 (chestF c)) = true := rfl
theorem ci_told : isIns 7 "told" (.ins 7 (chestF c)) = true := rfl
theorem ci_take : isIns 7 "take" (.ins 7 (chestF c)) = true := rfl
theorem ci_drop : isIns 7 "drop" (.ins 7 (chestF c)) = true := rfl
theorem ci_hands : isIns 7 "hands" (.ins 7 (chestF c)) = true := rfl
theorem ci_pair : isIns 7 "pair" (.ins 7 (chestF c)) = true := rfl
theorem ci_unpair : isIns 7 "unpair" (.ins 7 (chestF c)) = true := rfl
theorem ci_pairs : isIns 7 "pairs" (.ins 7 (chestF c)) = true := rfl
theorem ci_bequeath : isIns 7 "bequeath" (.ins 7 (chestF c)) = true := rfl
theorem ci_will : isIns 7 "will" (.ins 7 (chestF c)) = true := rfl
theorem ci_reasons : isIns 7 "reasons" (.ins 7 (chestF c)) = true := rfl
theorem ci_come_to : isIns 7 "come_to" (.ins 7 (chestF c)) = true := rfl
theorem ci_lost : isIns 7 "lost" (.ins 7 (chestF c)) = true := rfl
theorem ci_order_of_wills : isIns 7 "order_of_wills" (.ins 7 (chestF c)) = true := rfl
theorem ci_sweep : isIns 7 "sweep" (.ins 7 (chestF c)) = true := rfl
theorem ci_written : isIns 7 "written" (.ins 7 (chestF c)) = true := rfl
theorem chest_data : (T.ins 7 (chestF c)).data = false := rfl
end
section
variable {i j : Int} {ts us : List T} {kvs : List (Int × T)} {lk : Bool}
theorem kNin_dct : kNin (.int i) (.dct lk kvs) = some (.bl (!(gGet kvs i).isSome)) := rfl
theorem kIn_dct : kIn (.int i) (.dct lk kvs) = some (.bl (gGet kvs i).isSome) := rfl
theorem kEq_int : kEq (.int i) (.int j) = some (.bl (decide (i = j))) := rfl
theorem kLe_int : kLe (.int i) (.int j) = some (.bl (decide (i ≤ j))) := rfl
theorem kLt_int : kLt (.int i) (.int j) = some (.bl (decide (i < j))) := rfl
theorem kGt_int : kGt (.int i) (.int j) = some (.bl (decide (j < i))) := rfl
theorem kGe_int : kGe (.int i) (.int j) = some (.bl (decide (j ≤ i))) := rfl
theorem kAdd_int : kAdd (.int i) (.int j) = some (.int (i + j)) := rfl
theorem kLen_dct : kLen (.dct lk kvs) = some (.int kvs.length) := rfl
theorem kLen_lst {m} : kLen (.lst m ts) = some (.int ts.length) := rfl
theorem kMul_none {z : Int} (h0 : 0 ≤ z) (h1 : z ≤ 9) : kMul (.lst .mu [.non]) (.int z) = some (.lst .mu ((List.replicate z.toNat none).map slotT)) := by
  have e : (List.replicate z.toNat [T.non]).flatten = (List.replicate z.toNat none).map slotT := by
    rw [List.map_replicate]
    show _ = List.replicate z.toNat T.non
    generalize z.toNat = n
    induction n with
    | zero => rfl
    | succ n ih => rw [List.replicate_succ, List.flatten_cons, ih, List.replicate_succ]; rfl
  unfold kMul
  simp only
  rw [if_pos, e]
  have h63 : (9 : Int) < 2 ^ 63 := by decide
  have hs : 9 ≤ sizeLine := by decide
  have h9 : z.toNat ≤ 9 := by omega
  simp only [datas, T.data, Bool.and_eq_true, decide_eq_true_eq, List.length_cons, List.length_nil, Nat.zero_add, Nat.one_mul, and_true, true_and]
  omega
theorem ixN_in {n : Nat} {s : Int} (h0 : 0 ≤ s) (h1 : s < n) : ixN n s = some s.toNat := by
  unfold ixN
  simp [h0, h1]
/-- what the methods do -/
def CS.make (c : CS) (z : Int) : CS := { c with slots := gPut c.slots c.coming (List.replicate z.toNat none), held := gPut c.held c.coming (), coming := c.coming + 1 }
def CS.setSlot (c : CS) (b : Int) (xs : List (Option (Int × Bool))) (s : Int) (v : Option (Int × Bool)) : CS := { c with slots := gPut c.slots b (xs.set s.toNat v) }
def CS.take (c : CS) (b : Int) : CS := { c with held := gPut c.held b () }
def CS.drop (c : CS) (b : Int) : CS := { c with held := gDrop c.held b }
def CS.pair (c : CS) (p : Int × Int × Int) : CS := { c with paired := gPut c.paired c.nextp p, nextp := c.nextp + 1 }
def CS.unpair (c : CS) (n : Int) : CS := { c with paired := gDrop c.paired n }
def CS.setWill (c : CS) (b : Int) (ds : List Deed) : CS := { c with wills := if ds = [] then gDrop c.wills b else gPut c.wills b ds }
end
/-! places -/
theorem ix1_0 : ixN 1 0 = some 0 := rfl
theorem ix2_0 : ixN 2 0 = some 0 := rfl
theorem ix2_1 : ixN 2 1 = some 1 := rfl
theorem ix3_0 : ixN 3 0 = some 0 := rfl
theorem ix3_1 : ixN 3 1 = some 1 := rfl
theorem ix3_2 : ixN 3 2 = some 2 := rfl
theorem ix4_0 : ixN 4 0 = some 0 := rfl
theorem ix4_1 : ixN 4 1 = some 1 := rfl
theorem ix4_2 : ixN 4 2 = some 2 := rfl
theorem ix4_3 : ixN 4 3 = some 3 := rfl
theorem ix5_0 : ixN 5 0 = some 0 := rfl
theorem ix5_1 : ixN 5 1 = some 1 := rfl
theorem ix5_2 : ixN 5 2 = some 2 := rfl
theorem ix5_3 : ixN 5 3 = some 3 := rfl
theorem ix5_4 : ixN 5 4 = some 4 := rfl
theorem ix6_0 : ixN 6 0 = some 0 := rfl
theorem ix6_1 : ixN 6 1 = some 1 := rfl
theorem ix6_2 : ixN 6 2 = some 2 := rfl
theorem ix6_3 : ixN 6 3 = some 3 := rfl
theorem ix6_4 : ixN 6 4 = some 4 := rfl
theorem ix6_5 : ixN 6 5 = some 5 := rfl
theorem ix7_0 : ixN 7 0 = some 0 := rfl
theorem ix7_1 : ixN 7 1 = some 1 := rfl
theorem ix7_2 : ixN 7 2 = some 2 := rfl
theorem ix7_3 : ixN 7 3 = some 3 := rfl
theorem ix7_4 : ixN 7 4 = some 4 := rfl
theorem ix7_5 : ixN 7 5 = some 5 := rfl
theorem ix7_6 : ixN 7 6 = some 6 := rfl
/-! written texts -/
theorem map_inj {α β : Type} {f : α → β} (hf : ∀ a b, f a = f b → a = b) : ∀ {l m : List α}, l.map f = m.map f → l = m
  | [], [], _ => rfl
  | [], _ :: _, h => by simp at h
  | _ :: _, [], h => by simp at h
  | a :: l, b :: m, h => by
    rw [List.map_cons, List.map_cons] at h
    injection h with h1 h2
    rw [hf a b h1, map_inj hf h2]
theorem str_inj {a b : String} : (Str.ofString a = Str.ofString b) = (a = b) := by
  apply propext
  constructor
  · intro h
    rw [Str.ofString_eq_toList, Str.ofString_eq_toList] at h
    have h1 : (a.toList.map Char.toNat).toArray = (b.toList.map Char.toNat).toArray := congrArg Str.cps h
    have h2 : a.toList.map Char.toNat = b.toList.map Char.toNat := by simpa using h1
    have h3 := map_inj (fun x y e => Char.ext (UInt32.toNat_inj.mp e)) h2
    exact String.toList_inj.mp h3
  · rintro rfl; rfl
theorem str_beq {a b : String} : (Str.ofString a == Str.ofString b) = decide (a = b) := by
  by_cases h : a = b
  · subst h; simp
  · have : ¬ Str.ofString a = Str.ofString b := by rw [str_inj]; exact h
    rw [beq_false_of_ne this]; simp [h]
theorem kEq_str {x y : Str} : kEq (.str x) (.str y) = some (.bl (decide (x = y))) := rfl
/-! slices -/
theorem cut2_1 {α : Type} {a b : α} : cutT [a, b] (some 1) none = [b] := rfl
theorem cut4_1 {α : Type} {a b c d : α} : cutT [a, b, c, d] (some 1) none = [b, c, d] := rfl
theorem cut1_13 {α : Type} {a : α} : cutT [a] (some 1) (some 3) = [] := rfl
theorem cut2_13 {α : Type} {a b : α} : cutT [a, b] (some 1) (some 3) = [b] := rfl
theorem cut4_13 {α : Type} {a b c d : α} : cutT [a, b, c, d] (some 1) (some 3) = [b, c] := rfl
end Vt

/-! Loops, as functions. -/
namespace Vt
open PySem PySem.Spec PyProof.Rows L2
/-- one turn of a comprehension -/
def lcTurn (it : Nat → En → Option En) (g : En → Option En) (cf : BF) (elt : EF) (ws : List Nat) (j : Nat) : En → Option En := fun δ => match it j δ with
  | none => none
  | some δ1 => match g δ1 with
    | none => none
    | some δ2 => match cf δ2 with
      | .ok false δ3 => wipeE ws δ3
      | .ok true δ3 => match elt δ3 with
        | .ok δ4 => match accum δ4 with
          | none => none
          | some δ5 => wipeE ws δ5
        | _ => none
      | _ => none
theorem lcGo_succ {n k : Nat} {it fin g cf elt ws} {δ : En} : lcGo n it fin g cf elt ws (k + 1) δ = (lcTurn it g cf elt ws (n - (k + 1)) δ).bind (lcGo n it fin g cf elt ws k) := by
  rw [lcGo.eq_def]
  unfold lcTurn
  simp only
  cases it (n - (k + 1)) δ with
  | none => rfl
  | some δ1 =>
    simp only
    cases g δ1 with
    | none => rfl
    | some δ2 =>
      simp only
      cases cf δ2 with
      | no => rfl
      | ex _ _ => rfl
      | ok b δ3 =>
        cases b with
        | false =>
          simp only
          cases wipeE ws δ3 <;> rfl
        | true =>
          simp only
          cases elt δ3 with
          | no => rfl
          | ex _ _ => rfl
          | ok δ4 =>
            simp only
            cases accum δ4 with
            | none => rfl
            | some δ5 =>
              simp only
              cases wipeE ws δ5 <;> rfl
/-- a comprehension of n turns: S j the slots ahead of turn j, v j what it yields -/
theorem lcGo_run {n : Nat} {it fin g cf elt ws} {st : List Ent} (S : Nat → List Ent) (v : Nat → List T) (hn : n < lineA) (hv : ∀ j, (v j).length ≤ 1)
    (hf : ∀ acc, fin ⟨S n, .own (.lst .mu acc) :: st⟩ = true) (ht : ∀ j acc, j < n → acc.length < lineA → lcTurn it g cf elt ws j ⟨S j, .own (.lst .mu acc) :: st⟩ = some ⟨S (j + 1), .own (.lst .mu (acc ++ v j)) :: st⟩) :
    lcGo n it fin g cf elt ws n ⟨S 0, .own (.lst .mu []) :: st⟩ = some ⟨S n, .own (.lst .mu ((List.range n).flatMap v)) :: st⟩ := by
  have key : ∀ k j acc, j + k = n → acc = (List.range j).flatMap v → acc.length ≤ j → lcGo n it fin g cf elt ws k ⟨S j, .own (.lst .mu acc) :: st⟩ = some ⟨S n, .own (.lst .mu ((List.range n).flatMap v)) :: st⟩ := by
    intro k
    induction k with
    | zero =>
      intro j acc e h _
      have : j = n := by omega
      subst this h
      unfold lcGo
      rw [if_pos (hf _)]
    | succ k ih =>
      intro j acc e h hl
      rw [lcGo_succ, show n - (k + 1) = j by omega, ht j acc (by omega) (by omega)]
      show lcGo n it fin g cf elt ws k _ = _
      refine ih (j + 1) _ (by omega) ?_ ?_
      · rw [h, List.range_succ, List.flatMap_append]; simp
      · rw [List.length_append]; have := hv j; omega
  exact key n 0 [] (by omega) rfl (Nat.le_refl _)
/-- turns that yield one each -/
theorem flatMap_one {α : Type} {f : Nat → α} (n : Nat) : (List.range n).flatMap (fun j => [f j]) = (List.range n).map f := by
  induction n with
  | zero => rfl
  | succ n ih => rw [List.range_succ, List.flatMap_append, ih, List.map_append]; rfl
theorem range_get {α β : Type} {l : List α} {f : Nat → β} {g : α → β} (h : ∀ j a, l[j]? = some a → f j = g a) : (List.range l.length).map f = l.map g := by
  apply List.ext_getElem?
  intro j
  rw [List.getElem?_map, List.getElem?_map]
  by_cases hj : j < l.length
  · rw [List.getElem?_range hj, List.getElem?_eq_getElem hj]
    exact congrArg some (h j _ (List.getElem?_eq_getElem hj))
  · rw [List.getElem?_eq_none (by simpa using hj), List.getElem?_eq_none (by omega)]; rfl
/-! loops -/
theorem forGo_run {kd : T → Option (List T)} {n : Nat} {g : En → Option En} {body : SF} (S : Nat → En) (hm : many kd (S n) = some n) (ht : ∀ j, j < n → ∃ δ1 δ2, item kd j (S j) = some δ1 ∧ g δ1 = some δ2 ∧ body δ2 = .nx (S (j + 1))) : forGo kd n g body n (S 0) = .nx ⟨(S n).sl, (S n).st.tail⟩ := by
  have key : ∀ k j, j + k = n → forGo kd n g body k (S j) = .nx ⟨(S n).sl, (S n).st.tail⟩ := by
    intro k
    induction k with
    | zero =>
      intro j e
      have : j = n := by omega
      subst this
      unfold forGo
      rw [if_pos hm]
    | succ k ih =>
      intro j e
      obtain ⟨δ1, δ2, h1, h2, h3⟩ := ht j (by omega)
      unfold forGo
      rw [show n - (k + 1) = j by omega, h1]
      simp only [h2, h3]
      exact ih (j + 1) (by omega)
  exact key n 0 (by omega)
theorem rngGo_run {lo : Int} {n : Nat} {g : En → Option En} {body : SF} (S : Nat → En) (ht : ∀ j, j < n → ∃ δ2, g ⟨(S j).sl, .own (.int (lo + (j : Nat))) :: (S j).st⟩ = some δ2 ∧ body δ2 = .nx (S (j + 1))) : rngGo lo n g body n (S 0) = .nx (S n) := by
  have key : ∀ k j, j + k = n → rngGo lo n g body k (S j) = .nx (S n) := by
    intro k
    induction k with
    | zero =>
      intro j e
      have : j = n := by omega
      subst this
      rfl
    | succ k ih =>
      intro j e
      obtain ⟨δ2, h2, h3⟩ := ht j (by omega)
      unfold rngGo
      rw [show n - (k + 1) = j by omega, h2]
      simp only [h3]
      exact ih (j + 1) (by omega)
  exact key n 0 (by omega)
/-! comprehensions as they stand -/
theorem eLc_run {kd : T → Option (List T)} {fe : EF} {g : En → Option En} {cf : BF} {elt : EF} {ws : List Nat} {δ : En} {sl : List Ent} {e : Ent} {st : List Ent} {n : Nat} (S : Nat → List Ent) (v : Nat → List T) (hfe : fe δ = .ok ⟨sl, e :: st⟩) (hw : wipeE ws ⟨sl, e :: st⟩ = some ⟨S 0, e :: st⟩) (hm : manyE kd e (S 0) = some n) (hn : n < lineA) (hv : ∀ j, (v j).length ≤ 1) (hf : manyE kd e (S n) = some n)
    (ht : ∀ j acc, j < n → acc.length < lineA → lcTurn (item2 kd) g cf elt ws j ⟨S j, .own (.lst .mu acc) :: e :: st⟩ = some ⟨S (j + 1), .own (.lst .mu (acc ++ v j)) :: e :: st⟩) : eLc kd fe g cf elt ws δ = .ok ⟨S n, .own (.lst .mu ((List.range n).flatMap v)) :: st⟩ := by
  unfold eLc
  rw [hfe]
  show (match wipeE ws ⟨sl, e :: st⟩ with | none => Res.no | some δ2 => match many kd δ2 with | none => .no | some n => optR ((lcGo n (item2 kd) (many2 kd n) g cf elt ws n (lay0 δ2)).map rt2)) = _
  rw [hw]
  show (match manyE kd e (S 0) with | none => Res.no | some n => optR ((lcGo n (item2 kd) (many2 kd n) g cf elt ws n ⟨S 0, .own (.lst .mu []) :: e :: st⟩).map rt2)) = _
  rw [hm]
  simp only
  rw [lcGo_run S v hn hv (fun acc => by show (manyE kd e (S n) == some n) = true; rw [hf]; simp) ht]
  rfl
theorem eLc1_run {fe : EF} {g : En → Option En} {cf : BF} {elt : EF} {ws : List Nat} {δ : En} {sl : List Ent} {st : List Ent} {i : Int} (S : Nat → List Ent) (v : Nat → List T) (hfe : fe δ = .ok ⟨sl, .own (.int i) :: st⟩) (hw : wipeE ws ⟨sl, st⟩ = some ⟨S 0, st⟩) (h0 : 0 ≤ i) (hn : i.toNat < lineA) (hv : ∀ j, (v j).length ≤ 1)
    (ht : ∀ j acc, j < i.toNat → acc.length < lineA → lcTurn (pushI fun i => .int (0 + (i : Nat))) g cf elt ws j ⟨S j, .own (.lst .mu acc) :: st⟩ = some ⟨S (j + 1), .own (.lst .mu (acc ++ v j)) :: st⟩) : eLc1 fe g cf elt ws δ = .ok ⟨S i.toNat, .own (.lst .mu ((List.range i.toNat).flatMap v)) :: st⟩ := by
  unfold eLc1
  rw [hfe]
  show (if In62 i then (match wipeE ws ⟨sl, st⟩ with | none => Res.no | some δ3 => optR (lcGo i.toNat (pushI fun i => .int (0 + (i : Nat))) yes g cf elt ws i.toNat (lay0 δ3))) else .no) = _
  have hl : lineA = 1000000 := rfl
  rw [if_pos (show In62 i by unfold In62; omega), hw]
  show optR (lcGo i.toNat (pushI fun i => .int (0 + (i : Nat))) yes g cf elt ws i.toNat ⟨S 0, .own (.lst .mu []) :: st⟩) = _
  rw [lcGo_run S v hn hv (fun acc => rfl) ht]
  rfl
theorem sFor_run {kd : T → Option (List T)} {fe : EF} {g : En → Option En} {body : SF} {δ : En} {sl : List Ent} {e : Ent} {st : List Ent} {n : Nat} (S : Nat → List Ent) (hfe : fe δ = .ok ⟨S 0, e :: st⟩) (hm : manyE kd e (S 0) = some n) (hf : manyE kd e (S n) = some n)
    (ht : ∀ j, j < n → ∃ δ1 δ2, item kd j ⟨S j, e :: st⟩ = some δ1 ∧ g δ1 = some δ2 ∧ body δ2 = .nx ⟨S (j + 1), e :: st⟩) : sFor kd fe g body δ = .nx ⟨S n, st⟩ := by
  unfold sFor
  rw [hfe]
  show (match manyE kd e (S 0) with | some n => forGo kd n g body n ⟨S 0, e :: st⟩ | none => SR.no) = _
  rw [hm]
  exact forGo_run (fun j => ⟨S j, e :: st⟩) hf ht
theorem sFor1_run {fe : EF} {g : En → Option En} {body : SF} {δ : En} {st : List Ent} {i : Int} (S : Nat → List Ent) (hfe : fe δ = .ok ⟨S 0, .own (.int i) :: st⟩) (h0 : 0 ≤ i) (h1 : i < 2 ^ 62)
    (ht : ∀ j : Nat, j < i.toNat → ∃ δ2, g ⟨S j, .own (.int (0 + (j : Nat))) :: st⟩ = some δ2 ∧ body δ2 = .nx ⟨S (j + 1), st⟩) : sFor1 fe g body δ = .nx ⟨S i.toNat, st⟩ := by
  unfold sFor1
  rw [hfe]
  show (if In62 i then rngGo 0 i.toNat g body i.toNat ⟨S 0, st⟩ else SR.no) = _
  rw [if_pos (show In62 i by unfold In62; omega)]
  exact rngGo_run (fun j => ⟨S j, st⟩) ht
/-! kinds -/
theorem kb_ii : kitB "int" "int" = some true := by decide +kernel
theorem kb_ib : kitB "int" "bool" = some false := by decide +kernel
theorem kb_bb : kitB "bool" "bool" = some true := by decide +kernel
theorem kb_ll : kitB "list" "list" = some true := by decide +kernel
theorem kb_tt : kitB "tuple" "tuple" = some true := by decide +kernel
theorem isi_ii {i : Int} : kIsi (.int i) (.ty "int") = some (.bl true) := by show (kitB "int" "int").map T.bl = _; rw [kb_ii]; rfl
theorem isi_ib {i : Int} : kIsi (.int i) (.ty "bool") = some (.bl false) := by show (kitB "int" "bool").map T.bl = _; rw [kb_ib]; rfl
theorem isi_bb {i : Bool} : kIsi (.bl i) (.ty "bool") = some (.bl true) := by show (kitB "bool" "bool").map T.bl = _; rw [kb_bb]; rfl
theorem isi_ll {m ts} : kIsi (.lst m ts) (.ty "list") = some (.bl true) := by show (kitB "list" "list").map T.bl = _; rw [kb_ll]; rfl
theorem isi_tt {ts} : kIsi (.tup ts) (.ty "tuple") = some (.bl true) := by show (kitB "tuple" "tuple").map T.bl = _; rw [kb_tt]; rfl
theorem kNe_int {i j : Int} : kNe (.int i) (.int j) = some (.bl (!decide (i = j))) := rfl
theorem kNe_str {x y : Str} : kNe (.str x) (.str y) = some (.bl (!decide (x = y))) := rfl
theorem isN_non : kIsN .non .non = some (.bl true) := rfl
theorem isN_int {i : Int} : kIsN (.int i) .non = some (.bl false) := rfl
theorem isN_tup {ts} : kIsN (.tup ts) .non = some (.bl false) := rfl
theorem kMod_pos {i j : Int} (h : 0 < j) : kMod (.int i) (.int j) = some (.int (i % j)) := if_pos h
theorem kFdiv_pos {i j : Int} (h : 0 < j) (h1 : j < 1073741824) : kFdiv (.int i) (.int j) = some (.int (i / j)) := if_pos ⟨h, h1⟩
theorem kMul_int {i j : Int} (h : mulOk i j = true) : kMul (.int i) (.int j) = some (.int (i * j)) := if_pos h
/-! trees that can be compared -/
def CmpT (n : Nat) (t : T) : Prop := ∃ d, t.py = some d ∧ d.canLay0 = true ∧ d.depth ≤ n
theorem cmp_non {n} : CmpT n .non := ⟨_, rfl, rfl, Nat.zero_le _⟩
theorem cmp_int {n i} : CmpT n (.int i) := ⟨_, rfl, rfl, Nat.zero_le _⟩
theorem cmp_bl {n b} : CmpT n (.bl b) := ⟨_, rfl, rfl, Nat.zero_le _⟩
theorem cmp_str {n} {x : Str} (h : PyData.canLay0 (.str x) = true) : CmpT n (.str x) := ⟨_, rfl, h, Nat.zero_le _⟩
theorem cmps {n : Nat} : ∀ {ts : List T}, (∀ u ∈ ts, CmpT n u) → ∃ ds, pys ts = some ds ∧ PyData.canLayAll0 ds = true ∧ PyData.depthAll ds ≤ n
  | [], _ => ⟨[], rfl, rfl, Nat.zero_le _⟩
  | t :: ts, h => by
    obtain ⟨d, e1, e2, e3⟩ := h t (List.mem_cons_self ..)
    obtain ⟨ds, f1, f2, f3⟩ := cmps (fun u hu => h u (List.mem_cons_of_mem _ hu))
    refine ⟨d :: ds, ?_, ?_, ?_⟩
    · show (match t.py, pys ts with | some d, some ds => some (d :: ds) | _, _ => none) = _
      rw [e1, f1]
    · show (d.canLay0 && PyData.canLayAll0 ds) = true
      rw [e2, f2]; rfl
    · show max d.depth (PyData.depthAll ds) ≤ n
      omega
theorem cmp_tup {n : Nat} {ts : List T} (h : ∀ u ∈ ts, CmpT n u) : CmpT (n + 1) (.tup ts) := by
  obtain ⟨ds, e1, e2, e3⟩ := cmps h
  refine ⟨.tuple ds, ?_, e2, ?_⟩
  · show (pys ts).map PyData.tuple = _
    rw [e1]; rfl
  · show PyData.depthAll ds + 1 ≤ n + 1
    omega
theorem cmp_lst {n : Nat} {m : Md} {ts : List T} (h : ∀ u ∈ ts, CmpT n u) : CmpT (n + 1) (.lst m ts) := by
  obtain ⟨ds, e1, e2, e3⟩ := cmps h
  refine ⟨.list ds, ?_, e2, ?_⟩
  · show (pys ts).map PyData.list = _
    rw [e1]; rfl
  · show PyData.depthAll ds + 1 ≤ n + 1
    omega
theorem eqT_py {x y : T} {d e : PyData} (hx : x.py = some d) (hy : y.py = some e) (h1 : SeqAt.shaped d = true) (h2 : SeqAt.shaped e = true) : eqT x y = some (PyData.eqv d e) := by
  cases x <;> cases y <;> first | (cases hx; cases hy; rfl) | (cases hx; done) | (cases hy; done) | (unfold eqT; simp only [hx, hy, h1, h2]; rfl)
theorem cmp_eq {n : Nat} {x y : T} (h : CmpT n x) (e : y.py = x.py) (hn : n ≤ 64) : eqT x y = some true := by
  obtain ⟨d, h1, h2, h3⟩ := h
  have hs : SeqAt.shaped d = true := by
    unfold SeqAt.shaped
    rw [h2, decide_eq_true (by omega : d.depth ≤ 64)]; rfl
  rw [eqT_py h1 (e.trans h1) hs hs, SeqAt.eqv_refl d h2]
theorem kEq_refl {n : Nat} {x y : T} (h : CmpT n x) (e : y.py = x.py) (hn : n ≤ 64) : kEq x y = some (.bl true) := by
  unfold kEq; rw [cmp_eq h e hn]; rfl
theorem kNe_refl {n : Nat} {x y : T} (h : CmpT n x) (e : y.py = x.py) (hn : n ≤ 64) : kNe x y = some (.bl false) := by
  unfold kNe; rw [cmp_eq h e hn]; rfl
theorem cmp_slot {v : Option (Int × Bool)} : CmpT 1 (slotT v) := by
  cases v with
  | none => exact cmp_non
  | some p => exact cmp_tup (fun u hu => by simp at hu; rcases hu with rfl | rfl <;> first | exact cmp_int | exact cmp_bl)
theorem cmp_deed {d : Deed} : CmpT 1 (deedT d) := by
  cases d with
  | up => exact cmp_tup (fun u hu => by simp at hu; subst hu; exact cmp_str (by decide +kernel))
  | down n => exact cmp_tup (fun u hu => by simp at hu; rcases hu with rfl | rfl <;> first | exact cmp_int | exact cmp_str (by decide +kernel))
  | hang n m h => exact cmp_tup (fun u hu => by simp at hu; rcases hu with rfl | rfl | rfl | rfl <;> first | exact cmp_int | exact cmp_bl | exact cmp_str (by decide +kernel))
theorem cmp_deeds {m : Md} {ds : List Deed} : CmpT 2 (.lst m (ds.map deedT)) := cmp_lst (fun u hu => by
  obtain ⟨d, _, rfl⟩ := List.mem_map.mp hu
  exact cmp_deed)
theorem cmp_ints {m : Md} {is : List Int} : CmpT 1 (.lst m (is.map .int)) := cmp_lst (fun u hu => by
  obtain ⟨d, _, rfl⟩ := List.mem_map.mp hu
  exact cmp_int)
theorem plains_map {β : Type} {g : β → T} (h : ∀ b, (g b).plain = true) : ∀ l : List β, plains (l.map g) = true
  | [] => rfl
  | b :: l => by
    show ((g b).plain && plains (l.map g)) = true
    rw [h, plains_map h l]; rfl
theorem frzs_map {β : Type} {g : β → T} (h : ∀ b, (g b).frz = g b) : ∀ l : List β, frzs (l.map g) = l.map g
  | [] => rfl
  | b :: l => by
    show (g b).frz :: frzs (l.map g) = g b :: l.map g
    rw [h, frzs_map h l]
theorem datas_ints {l : List Int} : datas (l.map T.int) = true := datas_map (fun _ => rfl) l
theorem plains_ints {l : List Int} : plains (l.map T.int) = true := plains_map (fun _ => rfl) l
theorem frzs_ints {l : List Int} : frzs (l.map T.int) = l.map T.int := frzs_map (fun _ => rfl) l
/-! a loop over a dict -/
theorem walkGo_run {n : Nat} {it : Nat → En → Option En} {g : En → Option En} {body : SF} (S : Nat → En) (ht : ∀ j, j < n → ∃ δ1 δ2, it j (S j) = some δ1 ∧ g δ1 = some δ2 ∧ body δ2 = .nx (S (j + 1))) : walkGo n it g body n (S 0) = .nx (S n) := by
  have key : ∀ k j, j + k = n → walkGo n it g body k (S j) = .nx (S n) := by
    intro k
    induction k with
    | zero =>
      intro j e
      have : j = n := by omega
      subst this
      rfl
    | succ k ih =>
      intro j e
      obtain ⟨δ1, δ2, h1, h2, h3⟩ := ht j (by omega)
      unfold walkGo
      rw [show n - (k + 1) = j by omega, h1]
      simp only [h2, h3]
      exact ih (j + 1) (by omega)
  exact key n 0 (by omega)
theorem sForD_run {fe : EF} {g : En → Option En} {body : SF} {sl sl' st : List Ent} {i : Nat} {p : List Sp} {kvs : List (Int × T)} (S : Nat → List Ent)
    (h0 : fe ⟨sl, st⟩ = .ok ⟨sl, .al i p :: st⟩) (hl : look sl (.al i p) = some (.dct false kvs)) (hf : (⟨sl, st⟩ : En).free i p = true)
    (h1 : fe ⟨putAt sl i p (.dct true kvs), .al i p :: st⟩ = .ok ⟨S 0, .al i p :: .al i p :: st⟩)
    (ht : ∀ j, j < kvs.length → ∃ δ2, g ⟨S j, .own (.int ((kvs.map (·.1)).getD j 0)) :: .al i p :: st⟩ = some δ2 ∧ body δ2 = .nx ⟨S (j + 1), .al i p :: st⟩)
    (he : unlkT ⟨S kvs.length, .al i p :: st⟩ = some ⟨sl', st⟩) : sForD fe g body ⟨sl, st⟩ = .nx ⟨sl', st⟩ := by
  unfold sForD
  simp only [h0, hl, hf, if_true, h1, and_self]
  rw [walkGo_run (fun j => ⟨S j, .al i p :: st⟩) (fun j hj => by
    obtain ⟨δ2, a1, a2⟩ := ht j hj
    exact ⟨_, δ2, rfl, a1, a2⟩)]
  show optS (unlkT _) = _
  rw [he]; rfl
theorem int_at {l : List Int} {j : Nat} (h : j < l.length) : (l.map T.int)[j]? = some (.int (l[j]'h)) := by
  rw [List.getElem?_map, List.getElem?_eq_getElem h]; rfl
theorem ixN_nat {n j : Nat} (h : j < n) : ixN n (j : Int) = some j := by
  have := ixN_in (n := n) (s := (j : Int)) (by omega) (by omega)
  rw [this]; simp
def lastJ : Nat → Ent
  | 0 => .emp
  | j + 1 => .own (.int j)
theorem lastJ_noal {j i : Nat} : (lastJ j).noal i = true := by cases j <;> rfl
theorem lastJ_free {j i : Nat} {p : List Sp} : (lastJ j).freeE i p = true := by cases j <;> rfl
end Vt

/-! The words, applied. -/
namespace Vt
open PySem PySem.Spec PyProof.Rows L2
theorem ap_ePush (t : T) (δ : En) : ePush t δ = (.ok ⟨δ.sl, .own t :: δ.st⟩) := rfl
theorem ap_eName (i : Nat) (δ : En) : eName i δ = (match δ.sl[i]? with
  | some (.own t) => .ok ⟨δ.sl, rdE i (.own t) :: δ.st⟩
  | some (.al j q) => .ok ⟨δ.sl, .al j q :: δ.st⟩
  | _ => .no) := rfl
theorem ap_eNil  (δ : En) : eNil  δ = (.ok δ) := rfl
theorem ap_eThen (f g : EF) (δ : En) : eThen f g δ = ((f δ).bind g) := rfl
theorem ap_eBin (f g k : EF) (δ : En) : eBin f g k δ = (((f δ).bind g).bind k) := rfl
theorem ap_popB  (δ : En) : popB  δ = (match δ.st with
  | .own (.bl b) :: st => .ok b ⟨δ.sl, st⟩
  | _ => .no) := rfl
theorem ap_tVal (f : EF) (δ : En) : tVal f δ = ((f δ).bindB popB) := rfl
theorem ap_popTr  (δ : En) : popTr  δ = (match δ.st with
  | e :: st => match look δ.sl e with
    | some t => match truT t with
      | some b => .ok b ⟨δ.sl, st⟩
      | none => .no
    | none => .no
  | [] => .no) := rfl
theorem ap_tTru (f : EF) (δ : En) : tTru f δ = ((f δ).bindB popTr) := rfl
theorem ap_tNot (f : BF) (δ : En) : tNot f δ = ((f δ).bind fun b δ1 => .ok (!b) δ1) := rfl
theorem ap_tAnd (f g : BF) (δ : En) : tAnd f g δ = ((f δ).bind fun b δ1 => if b = true then g δ1 else .ok false δ1) := rfl
theorem ap_tOr (f g : BF) (δ : En) : tOr f g δ = ((f δ).bind fun b δ1 => if b = true then .ok true δ1 else g δ1) := rfl
theorem ap_eNot (f : EF) (δ : En) : eNot f δ = (((f δ).bindB popB).bindF fun b δ1 => ePush (.bl (!b)) δ1) := rfl
theorem ap_eAnd (f g : EF) (δ : En) : eAnd f g δ = (((f δ).bindB popB).bindF fun b δ1 => if b = true then g δ1 else ePush (.bl false) δ1) := rfl
theorem ap_eOr (f g : EF) (δ : En) : eOr f g δ = (((f δ).bindB popB).bindF fun b δ1 => if b = true then ePush (.bl true) δ1 else g δ1) := rfl
theorem ap_eIf (c : BF) (f g : EF) (δ : En) : eIf c f g δ = ((c δ).bindF fun b δ1 => if b = true then f δ1 else g δ1) := rfl
theorem ap_eDup  (δ : En) : eDup  δ = (match δ.st with
  | .own y :: .own x :: st => if y.data = true then .ok ⟨δ.sl, .own y :: .own x :: .own y :: st⟩ else .no
  | _ => .no) := rfl
theorem ap_eChain (fa fb r1 fc r2 : EF) (δ : En) : eChain fa fb r1 fc r2 δ = (((((fa δ).bind fb).bind eDup).bind r1).bindB popB |>.bindF fun b δ1 => if b = true then (fc δ1).bind r2 else (match δ1.st with
  | _ :: st => ePush (.bl false) ⟨δ1.sl, st⟩
  | [] => .no)) := rfl
theorem ap_eLst (n : Nat) (f : EF) (δ : En) : eLst n f δ = ((f δ).bind fun δ1 => match takeOwn n δ1.st with
  | some (ts, st) => if n ≤ sizeLine then .ok ⟨δ1.sl, .own (.lst .mu ts.reverse) :: st⟩ else .no
  | none => .no) := rfl
theorem ap_eTup (n : Nat) (f : EF) (δ : En) : eTup n f δ = ((f δ).bind fun δ1 => match takeOwn n δ1.st with
  | some (ts, st) => if n ≤ sizeLine then .ok ⟨δ1.sl, .own (.tup ts.reverse) :: st⟩ else .no
  | none => .no) := rfl
theorem ap_op2 (k : T → T → Option T) (δ : En) : op2 k δ = (match δ.st with
  | ey :: ex :: st => match look δ.sl ex with
    | some x => match look δ.sl ey with
      | some y => match k x y with
        | some r => .ok ⟨δ.sl, .own r :: st⟩
        | none => .no
      | none => .no
    | none => .no
  | _ => .no) := rfl
theorem ap_op1 (k : T → Option T) (δ : En) : op1 k δ = (match δ.st with
  | ex :: st => match look δ.sl ex with
    | some x => match k x with
      | some r => .ok ⟨δ.sl, .own r :: st⟩
      | none => .no
    | none => .no
  | _ => .no) := rfl
theorem ap_eIx  (δ : En) : eIx  δ = (match δ.st with
  | .own (.int i) :: ex :: st => match look δ.sl ex with
    | some (.lst m ts) => match ixN ts.length i with
      | some j => kidOf δ.sl ex st (.lst m ts) (.ix j)
      | none => .no
    | some (.tup ts) => match ixN ts.length i with
      | some j => kidOf δ.sl ex st (.tup ts) (.ix j)
      | none => .no
    | some (.dct lk kvs) => kidOf δ.sl ex st (.dct lk kvs) (.key i)
    | some (.scr ns) => match atI ns i with
      | some n => .ok ⟨δ.sl, .own (.int n) :: st⟩
      | none => .no
    | some (.str z) => if z.length ≤ sizeLine then (match atI z.cps.toList i with
      | some c => .ok ⟨δ.sl, .own (.str ⟨#[c]⟩) :: st⟩
      | none => .no) else .no
    | _ => .no
  | _ => .no) := rfl
theorem ap_eFld (f : Str) (δ : En) : eFld f δ = (match δ.st with
  | ex :: st => match look δ.sl ex with
    | some (.ins C fs) => kidOf δ.sl ex st (.ins C fs) (.fld f)
    | _ => .no
  | _ => .no) := rfl
theorem ap_eCatO  (δ : En) : eCatO  δ = (match δ.st with
  | .own (.lst .mu us) :: .own (.lst .mu ts) :: st => if ts.length + us.length ≤ sizeLine then .ok ⟨δ.sl, .own (.lst .mu (ts ++ us)) :: st⟩ else .no
  | _ => .no) := rfl
theorem ap_eFrz  (δ : En) : eFrz  δ = (match δ.st with
  | .own t :: st => if t.plain then .ok ⟨δ.sl, .own t.frz :: st⟩ else .no
  | .al i p :: st => match δ.sl[i]? with
    | some (.own r) => match r.at p with
      | some u => if u.plain && (⟨δ.sl, st⟩ : En).free i p then .ok ⟨δ.sl.set i (.own (r.put p u.frz)), .own u.frz :: st⟩ else .no
      | none => .no
    | _ => .no
  | _ => .no) := rfl
theorem ap_eMov  (δ : En) : eMov  δ = (match δ.st with
  | .al i [] :: st => match δ.sl[i]? with
    | some (.own t) => if (⟨δ.sl, st⟩ : En).noal i then .ok ⟨δ.sl.set i .emp, .own t :: st⟩ else .no
    | _ => .no
  | .own t :: st => .ok ⟨δ.sl, .own t :: st⟩
  | _ => .no) := rfl
theorem ap_eAppend  (δ : En) : eAppend  δ = (match δ.st with
  | .own t :: .al i p :: st => mutL δ.sl st i p fun ts => if ts.length < lineA then some (ts ++ [t], .non) else none
  | _ => .no) := rfl
theorem ap_eExtend  (δ : En) : eExtend  δ = (match δ.st with
  | ex :: .al i p :: st => match look δ.sl ex with
    | some (.lst .mu us) => mutL δ.sl st i p fun ts => if datas us && decide (ts.length + us.length < lineA) then some (ts ++ us, .non) else none
    | _ => .no
  | _ => .no) := rfl
theorem ap_ePop0  (δ : En) : ePop0  δ = (match δ.st with
  | .al i p :: st => mutL δ.sl st i p fun ts => match ts.getLast? with
    | some t => some (ts.dropLast, if t.data = true then t else .gone)
    | none => none
  | _ => .no) := rfl
theorem ap_eRemove  (δ : En) : eRemove  δ = (match δ.st with
  | .own (.int n) :: .al i p :: st => mutL δ.sl st i p fun ts => match allOf T.toInt ts with
    | some ns => if n ∈ ns then some ((ns.erase n).map .int, .non) else none
    | none => none
  | _ => .no) := rfl
theorem ap_eInsert  (δ : En) : eInsert  δ = (match δ.st with
  | .own t :: .own (.int n) :: .al i p :: st => mutL δ.sl st i p fun ts => if 0 ≤ n ∧ n < 2 ^ 63 ∧ ts.length < lineA then some (ts.take n.toNat ++ [t] ++ ts.drop n.toNat, .non) else none
  | _ => .no) := rfl
theorem ap_eDpop  (δ : En) : eDpop  δ = (match δ.st with
  | .own (.int n) :: .al i p :: st => match look δ.sl (.al i p) with
    | some (.dct false kvs) => match gGet kvs n with
      | some u => if (⟨δ.sl, st⟩ : En).free i p = true then .ok ⟨putAt δ.sl i p (.dct false (gDrop kvs n)), .own (if u.data = true then u else .gone) :: st⟩ else .no
      | none => .no
    | _ => .no
  | _ => .no) := rfl
theorem ap_eDget  (δ : En) : eDget  δ = (match δ.st with
  | .own f :: .own (.int n) :: ex :: st => match look δ.sl ex with
    | some (.dct lk kvs) => match gGet kvs n with
      | some _ => kidOf δ.sl ex st (.dct lk kvs) (.key n)
      | none => .ok ⟨δ.sl, .own f :: st⟩
    | _ => .no
  | _ => .no) := rfl
theorem ap_eFldC (C : Nat) (f : Str) (δ : En) : eFldC C f δ = (match δ.st with
  | ex :: st => match look δ.sl ex with
    | some (.ins C' fs) => if C' = C then kidOf δ.sl ex st (.ins C' fs) (.fld f) else .no
    | _ => .no
  | _ => .no) := rfl
theorem ap_chk (c : T → Bool) (δ : En) : chk c δ = (match δ.st with
  | e :: _ => match look δ.sl e with
    | some t => if c t = true then .ok δ else .no
    | none => .no
  | _ => .no) := rfl
theorem ap_eMeth (c : T → Bool) (fo fa g : EF) (δ : En) : eMeth c fo fa g δ = ((((fo δ).bind (chk c)).bind fa).bind g) := rfl
theorem ap_eSl (fe : EF) (fl fh : OF) (δ : En) : eSl fe fl fh δ = ((fe δ).bind fun δ1 => match fl δ1 with
  | some (lo, δ2) => match fh δ2 with
    | some (hi, δ3) => op1 (kSl lo hi) δ3
    | none => .no
  | none => .no) := rfl
theorem ap_sNil  (δ : En) : sNil  δ = (.nx δ) := rfl
theorem ap_sSeq (f g : SF) (δ : En) : sSeq f g δ = ((f δ).then g) := rfl
theorem ap_sSet (i : Nat) (fe : EF) (δ : En) : sSet i fe δ = ((fe δ).toS fun δ1 => optS (gSlot i δ1)) := rfl
theorem ap_sSub (fv fo fi : EF) (δ : En) : sSub fv fo fi δ = ((((fv δ).bind fo).bind fi).toS fun δ1 => optS (sPut δ1)) := rfl
theorem ap_sAttr (C : Nat) (f : Str) (fv fo : EF) (δ : En) : sAttr C f fv fo δ = (((fv δ).bind fo).toS fun δ1 => optS (sFld C f δ1)) := rfl
theorem ap_sExpr (fe : EF) (δ : En) : sExpr fe δ = ((fe δ).toS fun δ1 => match δ1.st with
  | _ :: st => .nx ⟨δ1.sl, st⟩
  | [] => .no) := rfl
theorem ap_sRet (fe : EF) (δ : En) : sRet fe δ = ((fe δ).toS fun δ1 => match δ1.st with
  | .own _ :: _ => .rt δ1
  | _ => .no) := rfl
theorem ap_sRetN  (δ : En) : sRetN  δ = (.rt ⟨δ.sl, .own .non :: δ.st⟩) := rfl
theorem ap_sIf (c : BF) (a b : SF) (δ : En) : sIf c a b δ = ((c δ).toS fun k δ1 => if k = true then a δ1 else b δ1) := rfl
theorem ap_sBreak  (δ : En) : sBreak  δ = (.bk δ) := rfl
theorem ap_sCont  (δ : En) : sCont  δ = (.ct δ) := rfl
theorem ap_sRaise (C : Nat) (δ : En) : sRaise C δ = (.ex C δ.sl) := rfl
theorem ap_sFor1 (fe : EF) (g : En → Option En) (body : SF) (δ : En) : sFor1 fe g body δ = ((fe δ).toS fun δ1 => match popI δ1 with
  | some (j, δ2) => if In62 j then rngGo 0 j.toNat g body j.toNat δ2 else .no
  | none => .no) := rfl
theorem ap_sFor2 (fa fb : EF) (g : En → Option En) (body : SF) (δ : En) : sFor2 fa fb g body δ = (((fa δ).bind fb).toS fun δ1 => match popI δ1 with
  | some (j, δ2) => match popI δ2 with
    | some (i, δ3) => if In62 i ∧ In62 j then rngGo i (j - i).toNat g body (j - i).toNat δ3 else .no
    | none => .no
  | none => .no) := rfl
theorem ap_sForS (fe : EF) (g : En → Option En) (body : SF) (δ : En) : sForS fe g body δ = ((fe δ).toS fun δ1 => match δ1.st with
  | .own (.str z) :: st => walkGo z.cps.size (pushI (strItem z)) g body z.cps.size ⟨δ1.sl, st⟩
  | _ => .no) := rfl
theorem ap_sForD (fe : EF) (g : En → Option En) (body : SF) (δ : En) : sForD fe g body δ = (match fe δ with
  | .ok δ0 => match δ0.st with
    | .al i p :: _ => match look δ.sl (.al i p) with
      | some (.dct false kvs) => if δ.free i p = true then (match fe ⟨putAt δ.sl i p (.dct true kvs), .al i p :: δ.st⟩ with
        | .ok δ1 => match δ1.st with
          | .al i2 p2 :: .al i3 p3 :: st3 => if i2 = i3 ∧ p2 = p3 then endD (walkGo kvs.length (pushI (keyItem (kvs.map (·.1)))) g body kvs.length ⟨δ1.sl, .al i3 p3 :: st3⟩) else .no
          | _ => .no
        | _ => .no) else .no
      | _ => .no
    | _ => .no
  | _ => .no) := rfl
theorem ap_bYes  (δ : En) : bYes  δ = (.ok true δ) := rfl
theorem ap_eLc1 (fe : EF) (g : En → Option En) (cf : BF) (elt : EF) (ws : List Nat) (δ : En) : eLc1 fe g cf elt ws δ = ((fe δ).bind fun δ1 => match popI δ1 with
  | none => .no
  | some (j, δ2) => if In62 j then (match wipeE ws δ2 with
    | none => .no
    | some δ3 => optR (lcGo j.toNat (pushI fun i => .int (0 + (i : Nat))) yes g cf elt ws j.toNat (lay0 δ3))) else .no) := rfl
theorem ap_eLc2 (fa fb : EF) (g : En → Option En) (cf : BF) (elt : EF) (ws : List Nat) (δ : En) : eLc2 fa fb g cf elt ws δ = (((fa δ).bind fb).bind fun δ1 => match popI δ1 with
  | none => .no
  | some (j, δ2) => match popI δ2 with
    | none => .no
    | some (i, δ3) => if In62 i ∧ In62 j then (match wipeE ws δ3 with
      | none => .no
      | some δ4 => optR (lcGo (j - i).toNat (pushI fun m => .int (i + (m : Nat))) yes g cf elt ws (j - i).toNat (lay0 δ4))) else .no) := rfl
theorem ap_eLcS (fe : EF) (g : En → Option En) (cf : BF) (elt : EF) (ws : List Nat) (δ : En) : eLcS fe g cf elt ws δ = ((fe δ).bind fun δ1 => match δ1.st with
  | .own (.str z) :: st => match wipeE ws ⟨δ1.sl, st⟩ with
    | none => .no
    | some δ2 => optR (lcGo z.cps.size (pushI (strItem z)) yes g cf elt ws z.cps.size (lay0 δ2))
  | _ => .no) := rfl
theorem ap_eLcD (fe : EF) (g : En → Option En) (cf : BF) (elt : EF) (ws : List Nat) (δ : En) : eLcD fe g cf elt ws δ = (match fe δ with
  | .ok δ0 => match δ0.st with
    | .al i p :: _ => match look δ.sl (.al i p) with
      | some (.dct false kvs) => if δ.free i p = true then (match fe ⟨putAt δ.sl i p (.dct true kvs), .al i p :: δ.st⟩ with
        | .ok δ1 => match δ1.st with
          | .al i2 p2 :: .al i3 p3 :: st3 => if i2 = i3 ∧ p2 = p3 then (match wipeE ws ⟨δ1.sl, .al i3 p3 :: st3⟩ with
            | none => .no
            | some δ2 => match lcGo kvs.length (pushI (keyItem (kvs.map (·.1)))) yes g cf elt ws kvs.length (lay0 δ2) with
              | none => .no
              | some δ3 => optR (unlk2 δ3)) else .no
          | _ => .no
        | _ => .no) else .no
      | _ => .no
    | _ => .no
  | _ => .no) := rfl
theorem ap_doCall (n : Nat) (F : Fn) (δ : En) : doCall n F δ = (match splitN n δ.st with
  | none => .no
  | some (es, st) => match takeR es δ.sl st with
    | none => .no
    | some (ts, slh, sth) => match F ts.reverse with
      | .no => .no
      | .ok t outs => match giveR es.reverse outs slh sth with
        | some δ' => .ok ⟨δ'.sl, .own t :: δ'.st⟩
        | none => .no
      | .ex C outs => match giveR es.reverse outs slh sth with
        | some δ' => .ex C δ'.sl
        | none => .no) := rfl
theorem ap_eMet (C : Nat) (m : Str) (n : Nat) (F : Fn) (fo fa : EF) (δ : En) : eMet C m n F fo fa δ = ((((fo δ).bind (chk (isIns C m))).bind fa).bind (doCall n F)) := rfl
theorem ap_eMake (C : Nat) (F : Fn) (δ : En) : eMake C F δ = (match F [.ins C []] with
  | .ok .non [t] => .ok ⟨δ.sl, .own t :: δ.st⟩
  | _ => .no) := rfl
theorem ap_eWord (i : Nat) (t : T) (δ : En) : eWord i t δ = (if slotGone i δ.sl = true then ePush t δ else .no) := rfl
theorem ap_sTry (i : Nat) (sb : SF) (su : Nat → SF) (δ : En) : sTry i sb su δ = (match sb δ with
  | .ex C sl => tryEx i su C sl
  | r => r) := rfl
theorem ap_eCall (n : Nat) (F : Fn) (fa : EF) (δ : En) : eCall n F fa δ = (fa δ).bind (doCall n F) := rfl
theorem ap_sFor (kd : T → Option (List T)) (fe : EF) (g : En → Option En) (body : SF) (δ : En) : sFor kd fe g body δ = ((fe δ).toS fun δ1 => match many kd δ1 with | some n => forGo kd n g body n δ1 | none => .no) := rfl
theorem ap_eLc (kd : T → Option (List T)) (fe : EF) (g : En → Option En) (cf : BF) (elt : EF) (ws : List Nat) (δ : En) : eLc kd fe g cf elt ws δ = ((fe δ).bind fun δ1 => match wipeE ws δ1 with | none => .no | some δ2 => match many kd δ2 with | none => .no | some n => optR ((lcGo n (item2 kd) (many2 kd n) g cf elt ws n (lay0 δ2)).map rt2)) := rfl
theorem ap_gSlot (i : Nat) (δ : En) : gSlot i δ = (match δ.st with | e :: st => if δ.noal i && decide (i < δ.sl.length) then some ⟨δ.sl.set i e, st⟩ else none | [] => none) := rfl
end Vt

namespace Vt
open PySem PySem.Spec PyProof.Rows L2
def top (i : Nat) : Stmt := PySem.Challenge.pw_lastwill_k06_lost.main.body.getD i (.Pass ⟨0, 0, 0, 0⟩)
abbrev sf_held_by : Stmt := top 1
abbrev nf_held_by : List Str := ["chest", "box", "found", "slot", "told"]
theorem scf_held_by : FnScope nf_held_by ["chest", "box"] (defScope sf_held_by) := ⟨rfl, rfl, rfl, by decide +kernel, rfl, by decide +kernel, by decide +kernel⟩
abbrev sf_next_row : Stmt := top 2
abbrev nf_next_row : List Str := ["chest", "rows", "known", "row", "slot", "other", "pair", "home", "key", "value"]
theorem scf_next_row : FnScope nf_next_row ["chest", "rows", "known"] (defScope sf_next_row) := ⟨rfl, rfl, rfl, by decide +kernel, rfl, by decide +kernel, by decide +kernel⟩
abbrev sf_come_to : Stmt := top 3
abbrev nf_come_to : List Str := ["chest", "rows", "box", "known", "row"]
theorem scf_come_to : FnScope nf_come_to ["chest"] (defScope sf_come_to) := ⟨rfl, rfl, rfl, by decide +kernel, rfl, by decide +kernel, by decide +kernel⟩
abbrev sf_lost : Stmt := top 4
abbrev nf_lost : List Str := ["chest", "known", "row", "box"]
theorem scf_lost : FnScope nf_lost ["chest"] (defScope sf_lost) := ⟨rfl, rfl, rfl, by decide +kernel, rfl, by decide +kernel, by decide +kernel⟩
abbrev sf_is_deed : Stmt := top 18
abbrev nf_is_deed : List Str := ["deed", "at"]
theorem scf_is_deed : FnScope nf_is_deed ["deed"] (defScope sf_is_deed) := ⟨rfl, rfl, rfl, by decide +kernel, rfl, by decide +kernel, by decide +kernel⟩
abbrev sm_init : Stmt := inClass (top 19) 0
abbrev nm_init : List Str := ["self"]
theorem scm_init : FnScope nm_init ["self"] (defScope sm_init) := ⟨rfl, rfl, rfl, by decide +kernel, rfl, by decide +kernel, by decide +kernel⟩
abbrev sm_need_box : Stmt := inClass (top 19) 1
abbrev nm_need_box : List Str := ["self", "box"]
theorem scm_need_box : FnScope nm_need_box ["self", "box"] (defScope sm_need_box) := ⟨rfl, rfl, rfl, by decide +kernel, rfl, by decide +kernel, by decide +kernel⟩
abbrev sm_need_slot : Stmt := inClass (top 19) 2
abbrev nm_need_slot : List Str := ["self", "box", "slot"]
theorem scm_need_slot : FnScope nm_need_slot ["self", "box", "slot"] (defScope sm_need_slot) := ⟨rfl, rfl, rfl, by decide +kernel, rfl, by decide +kernel, by decide +kernel⟩
abbrev sm_make : Stmt := inClass (top 19) 3
abbrev nm_make : List Str := ["self", "size", "box"]
theorem scm_make : FnScope nm_make ["self", "size"] (defScope sm_make) := ⟨rfl, rfl, rfl, by decide +kernel, rfl, by decide +kernel, by decide +kernel⟩
abbrev sm_boxes : Stmt := inClass (top 19) 4
abbrev nm_boxes : List Str := ["self"]
theorem scm_boxes : FnScope nm_boxes ["self"] (defScope sm_boxes) := ⟨rfl, rfl, rfl, by decide +kernel, rfl, by decide +kernel, by decide +kernel⟩
abbrev sm_size : Stmt := inClass (top 19) 5
abbrev nm_size : List Str := ["self", "box"]
theorem scm_size : FnScope nm_size ["self", "box"] (defScope sm_size) := ⟨rfl, rfl, rfl, by decide +kernel, rfl, by decide +kernel, by decide +kernel⟩
abbrev sm_put : Stmt := inClass (top 19) 6
abbrev nm_put : List Str := ["self", "box", "slot", "other", "holds"]
theorem scm_put : FnScope nm_put ["self", "box", "slot", "other", "holds"] (defScope sm_put) := ⟨rfl, rfl, rfl, by decide +kernel, rfl, by decide +kernel, by decide +kernel⟩
abbrev sm_empty : Stmt := inClass (top 19) 7
abbrev nm_empty : List Str := ["self", "box", "slot"]
theorem scm_empty : FnScope nm_empty ["self", "box", "slot"] (defScope sm_empty) := ⟨rfl, rfl, rfl, by decide +kernel, rfl, by decide +kernel, by decide +kernel⟩
abbrev sm_told : Stmt := inClass (top 19) 8
abbrev nm_told : List Str := ["self", "box", "slot"]
theorem scm_told : FnScope nm_told ["self", "box", "slot"] (defScope sm_told) := ⟨rfl, rfl, rfl, by decide +kernel, rfl, by decide +kernel, by decide +kernel⟩
abbrev sm_take : Stmt := inClass (top 19) 9
abbrev nm_take : List Str := ["self", "box"]
theorem scm_take : FnScope nm_take ["self", "box"] (defScope sm_take) := ⟨rfl, rfl, rfl, by decide +kernel, rfl, by decide +kernel, by decide +kernel⟩
abbrev sm_drop : Stmt := inClass (top 19) 10
abbrev nm_drop : List Str := ["self", "box"]
theorem scm_drop : FnScope nm_drop ["self", "box"] (defScope sm_drop) := ⟨rfl, rfl, rfl, by decide +kernel, rfl, by decide +kernel, by decide +kernel⟩
abbrev sm_hands : Stmt := inClass (top 19) 11
abbrev nm_hands : List Str := ["self"]
theorem scm_hands : FnScope nm_hands ["self"] (defScope sm_hands) := ⟨rfl, rfl, rfl, by decide +kernel, rfl, by decide +kernel, by decide +kernel⟩
abbrev sm_pair : Stmt := inClass (top 19) 12
abbrev nm_pair : List Str := ["self", "home", "key", "other", "box", "number"]
theorem scm_pair : FnScope nm_pair ["self", "home", "key", "other"] (defScope sm_pair) := ⟨rfl, rfl, rfl, by decide +kernel, rfl, by decide +kernel, by decide +kernel⟩
abbrev sm_unpair : Stmt := inClass (top 19) 13
abbrev nm_unpair : List Str := ["self", "pair"]
theorem scm_unpair : FnScope nm_unpair ["self", "pair"] (defScope sm_unpair) := ⟨rfl, rfl, rfl, by decide +kernel, rfl, by decide +kernel, by decide +kernel⟩
abbrev sm_pairs : Stmt := inClass (top 19) 14
abbrev nm_pairs : List Str := ["self", "number"]
theorem scm_pairs : FnScope nm_pairs ["self"] (defScope sm_pairs) := ⟨rfl, rfl, rfl, by decide +kernel, rfl, by decide +kernel, by decide +kernel⟩
abbrev sm_bequeath : Stmt := inClass (top 19) 15
abbrev nm_bequeath : List Str := ["self", "box", "deeds", "deed"]
theorem scm_bequeath : FnScope nm_bequeath ["self", "box", "deeds"] (defScope sm_bequeath) := ⟨rfl, rfl, rfl, by decide +kernel, rfl, by decide +kernel, by decide +kernel⟩
abbrev sm_will : Stmt := inClass (top 19) 16
abbrev nm_will : List Str := ["self", "box"]
theorem scm_will : FnScope nm_will ["self", "box"] (defScope sm_will) := ⟨rfl, rfl, rfl, by decide +kernel, rfl, by decide +kernel, by decide +kernel⟩
abbrev sf_law_cell_at : Stmt := top 21
abbrev nf_law_cell_at : List Str := ["_law_script", "_law_k"]
theorem scf_law_cell_at : FnScope nf_law_cell_at ["_law_script", "_law_k"] (defScope sf_law_cell_at) := ⟨rfl, rfl, rfl, by decide +kernel, rfl, by decide +kernel, by decide +kernel⟩
abbrev sf_law_whole : Stmt := top 22
abbrev nf_law_whole : List Str := ["_law_found"]
theorem scf_law_whole : FnScope nf_law_whole ["_law_found"] (defScope sf_law_whole) := ⟨rfl, rfl, rfl, by decide +kernel, rfl, by decide +kernel, by decide +kernel⟩
abbrev sf_law_mixed : Stmt := top 23
abbrev nf_law_mixed : List Str := ["_law_cell", "_law_k", "_law_many", "_law_some", "_law_made"]
theorem scf_law_mixed : FnScope nf_law_mixed ["_law_cell", "_law_k", "_law_many"] (defScope sf_law_mixed) := ⟨rfl, rfl, rfl, by decide +kernel, rfl, by decide +kernel, by decide +kernel⟩
abbrev sf_law_numbers : Stmt := top 24
abbrev nf_law_numbers : List Str := ["_law_found", "_law_due", "_law_k"]
theorem scf_law_numbers : FnScope nf_law_numbers ["_law_found", "_law_due"] (defScope sf_law_numbers) := ⟨rfl, rfl, rfl, by decide +kernel, rfl, by decide +kernel, by decide +kernel⟩
abbrev sf_law_do : Stmt := top 25
abbrev nf_law_do : List Str := ["_law_world_here", "_law_deed"]
theorem scf_law_do : FnScope nf_law_do ["_law_world_here", "_law_deed"] (defScope sf_law_do) := ⟨rfl, rfl, rfl, by decide +kernel, rfl, by decide +kernel, by decide +kernel⟩
abbrev sf_law_told : Stmt := top 26
abbrev nf_law_told : List Str := ["_law_chest", "_law_deed"]
theorem scf_law_told : FnScope nf_law_told ["_law_chest", "_law_deed"] (defScope sf_law_told) := ⟨rfl, rfl, rfl, by decide +kernel, rfl, by decide +kernel, by decide +kernel⟩
abbrev sf_law_world : Stmt := top 27
abbrev nf_law_world : List Str := []
theorem scf_law_world : FnScope nf_law_world [] (defScope sf_law_world) := ⟨rfl, rfl, rfl, by decide +kernel, rfl, by decide +kernel, by decide +kernel⟩
abbrev sf_law_will_of : Stmt := top 28
abbrev nf_law_will_of : List Str := ["_law_boxes", "_law_cell", "_law_coming", "_law_deeds", "_law_k", "_law_other", "_law_way"]
theorem scf_law_will_of : FnScope nf_law_will_of ["_law_boxes", "_law_cell", "_law_coming"] (defScope sf_law_will_of) := ⟨rfl, rfl, rfl, by decide +kernel, rfl, by decide +kernel, by decide +kernel⟩
abbrev sf_law_deed_by : Stmt := top 29
abbrev nf_law_deed_by : List Str := ["_law_cell", "_law_world_here", "_law_boxes", "_law_hands", "_law_pairs", "_law_way", "_law_box", "_law_other", "_law_size"]
theorem scf_law_deed_by : FnScope nf_law_deed_by ["_law_cell", "_law_world_here"] (defScope sf_law_deed_by) := ⟨rfl, rfl, rfl, by decide +kernel, rfl, by decide +kernel, by decide +kernel⟩
abbrev sf_law_laid : Stmt := top 30
abbrev nf_law_laid : List Str := ["_law_far", "_law_many", "_law_deeds", "_law_box", "_law_step", "_law_other", "_law_way", "_law_will"]
theorem scf_law_laid : FnScope nf_law_laid ["_law_far"] (defScope sf_law_laid) := ⟨rfl, rfl, rfl, by decide +kernel, rfl, by decide +kernel, by decide +kernel⟩
abbrev sf_law_cells : Stmt := top 31
abbrev nf_law_cells : List Str := ["_law_script", "_law_far", "_law_k"]
theorem scf_law_cells : FnScope nf_law_cells ["_law_script"] (defScope sf_law_cells) := ⟨rfl, rfl, rfl, by decide +kernel, rfl, by decide +kernel, by decide +kernel⟩
abbrev sf_law_known : Stmt := top 32
abbrev nf_law_known : List Str := ["_law_world_here", "_law_known_here", "_law_box", "_law_grown", "_law_fresh", "_law_one"]
theorem scf_law_known : FnScope nf_law_known ["_law_world_here"] (defScope sf_law_known) := ⟨rfl, rfl, rfl, by decide +kernel, rfl, by decide +kernel, by decide +kernel⟩
abbrev sf_law_lost : Stmt := top 33
abbrev nf_law_lost : List Str := ["_law_world_here", "_law_known_here", "_law_box"]
theorem scf_law_lost : FnScope nf_law_lost ["_law_world_here"] (defScope sf_law_lost) := ⟨rfl, rfl, rfl, by decide +kernel, rfl, by decide +kernel, by decide +kernel⟩
abbrev sf_law : Stmt := top 34
abbrev nf_law : List Str := ["_law_script", "_law_chest", "_law_world_here", "_law_kept", "_law_cells_here", "_law_k", "_law_deed", "_law_due", "_law_found", "_law_one"]
theorem scf_law : FnScope nf_law ["_law_script"] (defScope sf_law) := ⟨rfl, rfl, rfl, by decide +kernel, rfl, by decide +kernel, by decide +kernel⟩
structure Txt (K : PySem.W.Frag) (mg : Str → Option Value) (cm : Nat → Addr) (we : Addr) : Prop where
  cl : Cls K (cm 7)
  ch : mg "Chest" = some (.ref (cm 7))
  n0 : NoAttr K (cm 7) "slots"
  n1 : NoAttr K (cm 7) "held"
  n2 : NoAttr K (cm 7) "paired"
  n3 : NoAttr K (cm 7) "wills"
  n4 : NoAttr K (cm 7) "coming"
  n5 : NoAttr K (cm 7) "next_pair"
  ms : ∃ t, mg "MOST_SLOTS" = some (.int 9 t)
  mb : ∃ t, mg "MOST_BOXES" = some (.int 60 t)
  mp : ∃ t, mg "MOST_PAIRS" = some (.int 60 t)
  md : ∃ t, mg "MOST_DEEDS" = some (.int 9 t)
  g_all : mg "all" = none
  g_bool : mg "bool" = none
  g_int : mg "int" = none
  g_isinstance : mg "isinstance" = none
  g_len : mg "len" = none
  g_list : mg "list" = none
  g_min : mg "min" = none
  g_range : mg "range" = none
  g_sorted : mg "sorted" = none
  g_tuple : mg "tuple" = none
  x0 : ExF K mg "NoBox" (cm 0)
  x1 : ExF K mg "NoSlot" (cm 1)
  x2 : ExF K mg "NoHand" (cm 2)
  x3 : ExF K mg "NoPair" (cm 3)
  x4 : ExF K mg "NoWill" (cm 4)
  x5 : ExF K mg "TooMany" (cm 5)
noncomputable abbrev cdm_init : SF := (sSeq (sAttr 7 "slots" eDct (eName 0)) (sSeq (sAttr 7 "held" eDct (eName 0)) (sSeq (sAttr 7 "paired" eDct (eName 0)) (sSeq (sAttr 7 "wills" eDct (eName 0)) (sSeq (sAttr 7 "coming" (ePush (.int 0)) (eName 0)) (sAttr 7 "next_pair" (ePush (.int 0)) (eName 0)))))))
noncomputable def Fm_init : Fn := runDef 1 cdm_init
noncomputable abbrev cdf_law_cell_at : SF := (sSeq (sIf (tVal (eBin (eName 1) (eThen (eThen (eName 0) eNil) (op1 kLen)) (op2 kLt))) (sRet (eBin (eName 0) (eName 1) eIx)) sNil) (sRet (ePush (.int 0))))
noncomputable def Ff_law_cell_at : Fn := runDef 2 cdf_law_cell_at
noncomputable abbrev cdf_law_mixed : SF := (sSeq (sSet 3 (eLst 11 (eThen (ePush (.int 99991)) (eThen (ePush (.int 99989)) (eThen (ePush (.int 99971)) (eThen (ePush (.int 99961)) (eThen (ePush (.int 99929)) (eThen (ePush (.int 99923)) (eThen (ePush (.int 99907)) (eThen (ePush (.int 99901)) (eThen (ePush (.int 99881)) (eThen (ePush (.int 99877)) (eThen (ePush (.int 99871)) eNil))))))))))))) (sSeq (sSet 4 (eBin (eBin (eBin (eName 0) (eBin (ePush (.int 7)) (eName 1) (op2 kMul)) (op2 kAdd)) (ePush (.int 48271)) (op2 kMul)) (eBin (eName 3) (eBin (eName 1) (ePush (.int 11)) (op2 kMod)) eIx) (op2 kMod))) (sRet (eBin (eBin (eBin (eBin (eBin (eBin (eName 4) (eName 4) (op2 kMul)) (ePush (.int 7)) (op2 kMul)) (eName 4) (op2 kAdd)) (eName 1) (op2 kAdd)) (ePush (.int 1000003)) (op2 kMod)) (eName 2) (op2 kMod)))))
noncomputable def Ff_law_mixed : Fn := runDef 5 cdf_law_mixed
noncomputable abbrev cdf_law_laid : SF := (sSeq (sSet 1 (eBin (ePush (.int 3)) (eBin (eName 0) (ePush (.int 9)) (op2 kMod)) (op2 kAdd))) (sSeq (sIf (tVal (eBin (eBin (eBin (eName 0) (ePush (.int 9)) (op2 kFdiv)) (ePush (.int 6)) (op2 kMod)) (ePush (.int 1)) (op2 kEq))) (sSet 1 (eBin (ePush (.int 50)) (eBin (eBin (eName 0) (ePush (.int 54)) (op2 kFdiv)) (ePush (.int 11)) (op2 kMod)) (op2 kAdd))) sNil) (sSeq (sSet 2 (eLc1 (eName 1) (gSlot 3) bYes (eTup 2 (eThen (ePush (.str "make")) (eThen (ePush (.int 3)) eNil))) [3])) (sSeq (sSet 4 (eBin (eLst 4 (eThen (ePush (.int 1)) (eThen (eThen (ePush (.int 1)) (op1 kNeg)) (eThen (ePush (.int 2)) (eThen (eBin (eName 1) (ePush (.int 1)) (op2 kSub)) eNil))))) (eBin (eBin (eName 0) (ePush (.int 54)) (op2 kFdiv)) (ePush (.int 4)) (op2 kMod)) eIx)) (sSeq (sFor1 (eName 1) (gSlot 3) (sSeq (sSet 5 (eBin (eBin (eName 3) (eName 4) (op2 kAdd)) (eName 1) (op2 kMod))) (sSeq (sSet 6 (eCall 3 Ff_law_mixed (eThen (eName 0) (eThen (eName 3) (eThen (ePush (.int 5)) eNil))))) (sSeq (sIf (tVal (eBin (eName 6) (ePush (.int 1)) (op2 kEq))) (sExpr (eMeth isLst (eName 2) (eThen (eThen (eTup 4 (eThen (ePush (.str "pair")) (eThen (eBin (eCall 3 Ff_law_mixed (eThen (eName 0) (eThen (eBin (eName 3) (ePush (.int 1)) (op2 kAdd)) (eThen (ePush (.int 2)) eNil)))) (eBin (eName 1) (ePush (.int 1)) (op2 kSub)) (op2 kMul)) (eThen (eThen (eName 3) eFrz) (eThen (eThen (eName 5) eFrz) eNil))))) eFrz) eNil) eAppend)) (sExpr (eMeth isLst (eName 2) (eThen (eThen (eTup 5 (eThen (ePush (.str "put")) (eThen (eThen (eName 3) eFrz) (eThen (eCall 3 Ff_law_mixed (eThen (eName 0) (eThen (eBin (eName 3) (ePush (.int 2)) (op2 kAdd)) (eThen (ePush (.int 3)) eNil)))) (eThen (eThen (eName 5) eFrz) (eThen (eBin (eName 6) (ePush (.int 0)) (op2 kGt)) eNil)))))) eFrz) eNil) eAppend))) (sIf (tVal (eBin (eCall 3 Ff_law_mixed (eThen (eName 0) (eThen (eBin (eName 3) (ePush (.int 3)) (op2 kAdd)) (eThen (ePush (.int 2)) eNil)))) (ePush (.int 1)) (op2 kEq))) (sSeq (sSet 7 (eBin (eLst 3 (eThen (eLst 1 (eThen (eTup 4 (eThen (ePush (.str "hang")) (eThen (eBin (eBin (eName 3) (ePush (.int 2)) (op2 kAdd)) (eName 1) (op2 kMod)) (eThen (ePush (.int 0)) (eThen (eBin (eName 6) (ePush (.int 1)) (op2 kGt)) eNil))))) eNil)) (eThen (eLst 1 (eThen (eTup 1 (eThen (ePush (.str "up")) eNil)) eNil)) (eThen (eLst 1 (eThen (eTup 2 (eThen (ePush (.str "down")) (eThen (ePush (.int 0)) eNil))) eNil)) eNil)))) (eBin (eName 6) (ePush (.int 3)) (op2 kMod)) eIx)) (sExpr (eMeth isLst (eName 2) (eThen (eThen (eTup 3 (eThen (ePush (.str "bequeath")) (eThen (eThen (eName 3) eFrz) (eThen (eThen (eName 7) eFrz) eNil)))) eFrz) eNil) eAppend))) sNil))))) (sSeq (sFor1 (eName 1) (gSlot 3) (sIf (tVal (eBin (eCall 3 Ff_law_mixed (eThen (eName 0) (eThen (eBin (eName 3) (ePush (.int 4)) (op2 kAdd)) (eThen (ePush (.int 6)) eNil)))) (ePush (.int 0)) (op2 kGt))) (sExpr (eMeth isLst (eName 2) (eThen (eThen (eTup 2 (eThen (ePush (.str "drop")) (eThen (eThen (eName 3) eFrz) eNil))) eFrz) eNil) eAppend)) sNil)) (sSeq (sIf (tVal (eBin (eBin (eBin (eName 0) (ePush (.int 9)) (op2 kFdiv)) (ePush (.int 6)) (op2 kMod)) (ePush (.int 2)) (op2 kEq))) (sSeq (sSet 2 (eBin (eName 2) (eLst 4 (eThen (eTup 2 (eThen (ePush (.str "make")) (eThen (ePush (.int 1)) eNil))) (eThen (eTup 2 (eThen (ePush (.str "make")) (eThen (ePush (.int 2)) eNil))) (eThen (eTup 2 (eThen (ePush (.str "make")) (eThen (ePush (.int 1)) eNil))) (eThen (eTup 4 (eThen (ePush (.str "pair")) (eThen (eThen (eName 1) eFrz) (eThen (eBin (eName 1) (ePush (.int 1)) (op2 kAdd)) (eThen (eBin (eName 1) (ePush (.int 2)) (op2 kAdd)) eNil))))) eNil))))) (op2 kAdd))) (sSeq (sSet 2 (eBin (eName 2) (eLst 3 (eThen (eTup 3 (eThen (ePush (.str "bequeath")) (eThen (eBin (eName 1) (ePush (.int 1)) (op2 kAdd)) (eThen (eThen (eLst 2 (eThen (eTup 1 (eThen (ePush (.str "up")) eNil)) (eThen (eTup 2 (eThen (ePush (.str "down")) (eThen (eThen (eName 1) eFrz) eNil))) eNil))) eFrz) eNil)))) (eThen (eTup 2 (eThen (ePush (.str "drop")) (eThen (eBin (eName 1) (ePush (.int 1)) (op2 kAdd)) eNil))) (eThen (eTup 2 (eThen (ePush (.str "drop")) (eThen (eBin (eName 1) (ePush (.int 2)) (op2 kAdd)) eNil))) eNil)))) (op2 kAdd))) (sSet 2 (eBin (eName 2) (eLst 1 (eThen (eTup 5 (eThen (ePush (.str "put")) (eThen (eBin (eName 1) (ePush (.int 1)) (op2 kAdd)) (eThen (ePush (.int 0)) (eThen (eThen (eName 1) eFrz) (eThen (eBin (eBin (eBin (eName 0) (ePush (.int 54)) (op2 kFdiv)) (ePush (.int 2)) (op2 kMod)) (ePush (.int 1)) (op2 kEq)) eNil)))))) eNil)) (op2 kAdd))))) sNil) (sRet (eThen (eName 2) eMov)))))))))
noncomputable def Ff_law_laid : Fn := runDef 8 cdf_law_laid
noncomputable abbrev cdf_law_cells : SF := (sSeq (sSet 1 (eCall 2 Ff_law_cell_at (eThen (eName 0) (eThen (ePush (.int 0)) eNil)))) (sSeq (sIf (tVal (eBin (eBin (eName 1) (ePush (.int 3)) (op2 kMod)) (ePush (.int 1)) (op2 kEq))) (sRet (eBin (eCall 1 Ff_law_laid (eThen (eBin (eName 1) (ePush (.int 3)) (op2 kFdiv)) eNil)) (eSl (eName 0) (oSome (ePush (.int 1))) (oSome (ePush (.int 30)))) (op2 kAdd))) sNil) (sSeq (sIf (tVal (eBin (eBin (eName 1) (ePush (.int 12)) (op2 kMod)) (ePush (.int 2)) (op2 kEq))) (sRet (eBin (eLc1 (eBin (ePush (.int 60)) (eBin (eBin (eName 1) (ePush (.int 12)) (op2 kFdiv)) (ePush (.int 60)) (op2 kMod)) (op2 kAdd)) (gSlot 2) bYes (eBin (eBin (eName 1) (ePush (.int 12)) (op2 kFdiv)) (eBin (ePush (.int 17)) (eName 2) (op2 kMul)) (op2 kAdd)) [2]) (eSl (eName 0) (oSome (ePush (.int 1))) (oSome (ePush (.int 20)))) (op2 kAdd))) sNil) (sRet (eSl (eName 0) (oSome (ePush (.int 1))) (oSome (ePush (.int 80))))))))
noncomputable def Ff_law_cells : Fn := runDef 3 cdf_law_cells
noncomputable abbrev cdf_law_will_of : SF := (sSeq (sSet 3 (eLst 0 eNil)) (sSeq (sFor1 (eBin (eLst 7 (eThen (ePush (.int 1)) (eThen (ePush (.int 1)) (eThen (ePush (.int 2)) (eThen (ePush (.int 3)) (eThen (ePush (.int 9)) (eThen (ePush (.int 2)) (eThen (ePush (.int 1)) eNil)))))))) (eCall 3 Ff_law_mixed (eThen (eName 1) (eThen (ePush (.int 1)) (eThen (ePush (.int 7)) eNil)))) eIx) (gSlot 4) (sSeq (sSet 5 (eBin (eName 0) (eCall 3 Ff_law_mixed (eThen (eBin (eName 1) (eName 4) (op2 kAdd)) (eThen (ePush (.int 2)) (eThen (eThen (eThen (eName 0) eNil) (op1 kLen)) eNil)))) eIx)) (sSeq (sIf (tVal (eBin (eCall 3 Ff_law_mixed (eThen (eBin (eName 1) (eName 4) (op2 kAdd)) (eThen (ePush (.int 3)) (eThen (ePush (.int 9)) eNil)))) (ePush (.int 1)) (op2 kEq))) (sSet 5 (eBin (eLst 3 (eThen (eThen (eName 2) eFrz) (eThen (eBin (eName 2) (ePush (.int 7)) (op2 kAdd)) (eThen (ePush (.int 999999)) eNil)))) (eCall 3 Ff_law_mixed (eThen (eBin (eName 1) (eName 4) (op2 kAdd)) (eThen (ePush (.int 4)) (eThen (ePush (.int 3)) eNil)))) eIx)) sNil) (sSeq (sSet 6 (eCall 3 Ff_law_mixed (eThen (eBin (eName 1) (eName 4) (op2 kAdd)) (eThen (ePush (.int 5)) (eThen (ePush (.int 10)) eNil))))) (sIf (tVal (eBin (eName 6) (ePush (.int 3)) (op2 kLt))) (sExpr (eMeth isLst (eName 3) (eThen (eThen (eTup 1 (eThen (ePush (.str "up")) eNil)) eFrz) eNil) eAppend)) (sIf (tVal (eBin (eName 6) (ePush (.int 5)) (op2 kLt))) (sExpr (eMeth isLst (eName 3) (eThen (eThen (eTup 2 (eThen (ePush (.str "down")) (eThen (eThen (eName 5) eFrz) eNil))) eFrz) eNil) eAppend)) (sExpr (eMeth isLst (eName 3) (eThen (eThen (eTup 4 (eThen (ePush (.str "hang")) (eThen (eThen (eName 5) eFrz) (eThen (eCall 3 Ff_law_mixed (eThen (eBin (eName 1) (eName 4) (op2 kAdd)) (eThen (ePush (.int 6)) (eThen (ePush (.int 4)) eNil)))) (eThen (eBin (eName 6) (ePush (.int 8)) (op2 kLt)) eNil))))) eFrz) eNil) eAppend)))))))) (sRet (eThen (eName 3) eMov))))
noncomputable def Ff_law_will_of : Fn := runDef 7 cdf_law_will_of
noncomputable abbrev cdf_law_deed_by : SF := (sSeq (sIf (tTru (eThen (eThen (eName 0) (eThen (ePush (.ty "tuple")) eNil)) (op2 kIsi))) (sRet (eThen (eName 0) eMov)) sNil) (sSeq (sSet 2 (eThen (eThen (eBin (eName 1) (ePush (.int 0)) eIx) eNil) (op1 kSorted))) (sSeq (sSet 3 (eThen (eThen (eBin (eName 1) (ePush (.int 1)) eIx) eNil) (op1 kSorted))) (sSeq (sSet 4 (eThen (eThen (eBin (eName 1) (ePush (.int 2)) eIx) eNil) (op1 kSorted))) (sSeq (sSet 5 (eCall 3 Ff_law_mixed (eThen (eName 0) (eThen (ePush (.int 9)) (eThen (ePush (.int 25)) eNil))))) (sSeq (sIf (tOr (tVal (eBin (eThen (eThen (eName 2) eNil) (op1 kLen)) (ePush (.int 2)) (op2 kLt))) (tAnd (tVal (eBin (eName 5) (ePush (.int 4)) (op2 kLt))) (tVal (eBin (eThen (eThen (eName 2) eNil) (op1 kLen)) (ePush (.int 60)) (op2 kLt))))) (sRet (eTup 2 (eThen (ePush (.str "make")) (eThen (eBin (eLst 8 (eThen (ePush (.int 1)) (eThen (ePush (.int 2)) (eThen (ePush (.int 3)) (eThen (ePush (.int 2)) (eThen (ePush (.int 1)) (eThen (ePush (.int 9)) (eThen (ePush (.int 0)) (eThen (ePush (.int 4)) eNil))))))))) (eCall 3 Ff_law_mixed (eThen (eName 0) (eThen (ePush (.int 4)) (eThen (ePush (.int 8)) eNil)))) eIx) eNil)))) sNil) (sSeq (sSet 6 (eBin (eName 2) (eCall 3 Ff_law_mixed (eThen (eName 0) (eThen (ePush (.int 0)) (eThen (eThen (eThen (eName 2) eNil) (op1 kLen)) eNil)))) eIx)) (sSeq (sSet 7 (eBin (eName 2) (eCall 3 Ff_law_mixed (eThen (eName 0) (eThen (ePush (.int 1)) (eThen (eThen (eThen (eName 2) eNil) (op1 kLen)) eNil)))) eIx)) (sSeq (sSet 8 (eThen (eThen (eBin (eBin (eName 1) (ePush (.int 0)) eIx) (eName 6) eIx) eNil) (op1 kLen))) (sSeq (sIf (tAnd (tVal (eBin (eName 5) (ePush (.int 12)) (op2 kLt))) (tVal (eBin (eName 8) (ePush (.int 0)) (op2 kGt)))) (sRet (eTup 5 (eThen (ePush (.str "put")) (eThen (eThen (eName 6) eFrz) (eThen (eCall 3 Ff_law_mixed (eThen (eName 0) (eThen (ePush (.int 10)) (eThen (eName 8) eNil)))) (eThen (eThen (eName 7) eFrz) (eThen (eBin (eName 5) (ePush (.int 10)) (op2 kLt)) eNil))))))) sNil) (sSeq (sIf (tAnd (tVal (eBin (eName 5) (ePush (.int 12)) (op2 kEq))) (tVal (eBin (eName 8) (ePush (.int 0)) (op2 kGt)))) (sRet (eTup 3 (eThen (ePush (.str "empty")) (eThen (eThen (eName 6) eFrz) (eThen (eCall 3 Ff_law_mixed (eThen (eName 0) (eThen (ePush (.int 10)) (eThen (eName 8) eNil)))) eNil))))) sNil) (sSeq (sIf (tVal (eBin (eName 5) (ePush (.int 13)) (op2 kEq))) (sRet (eTup 2 (eThen (ePush (.str "take")) (eThen (eThen (eName 6) eFrz) eNil)))) sNil) (sSeq (sIf (tAnd (tVal (eBin (eName 5) (ePush (.int 18)) (op2 kLt))) (tVal (eBin (eThen (eThen (eName 3) eNil) (op1 kLen)) (ePush (.int 0)) (op2 kGt)))) (sRet (eTup 2 (eThen (ePush (.str "drop")) (eThen (eBin (eName 3) (eCall 3 Ff_law_mixed (eThen (eName 0) (eThen (ePush (.int 2)) (eThen (eThen (eThen (eName 3) eNil) (op1 kLen)) eNil)))) eIx) eNil)))) sNil) (sSeq (sIf (tAnd (tVal (eBin (eName 5) (ePush (.int 21)) (op2 kLt))) (tVal (eBin (eThen (eThen (eName 4) eNil) (op1 kLen)) (ePush (.int 60)) (op2 kLt)))) (sRet (eTup 4 (eThen (ePush (.str "pair")) (eThen (eThen (eName 6) eFrz) (eThen (eThen (eName 7) eFrz) (eThen (eBin (eName 2) (eCall 3 Ff_law_mixed (eThen (eName 0) (eThen (ePush (.int 3)) (eThen (eThen (eThen (eName 2) eNil) (op1 kLen)) eNil)))) eIx) eNil)))))) sNil) (sSeq (sIf (tAnd (tVal (eBin (eName 5) (ePush (.int 21)) (op2 kEq))) (tVal (eBin (eThen (eThen (eName 4) eNil) (op1 kLen)) (ePush (.int 0)) (op2 kGt)))) (sRet (eTup 2 (eThen (ePush (.str "unpair")) (eThen (eBin (eName 4) (eCall 3 Ff_law_mixed (eThen (eName 0) (eThen (ePush (.int 5)) (eThen (eThen (eThen (eName 4) eNil) (op1 kLen)) eNil)))) eIx) eNil)))) sNil) (sSeq (sIf (tVal (eBin (eName 5) (ePush (.int 22)) (op2 kEq))) (sRet (eTup 3 (eThen (ePush (.str "bequeath")) (eThen (eThen (eName 6) eFrz) (eThen (eThen (eLst 0 eNil) eFrz) eNil))))) sNil) (sRet (eTup 3 (eThen (ePush (.str "bequeath")) (eThen (eThen (eName 6) eFrz) (eThen (eThen (eCall 3 Ff_law_will_of (eThen (eName 2) (eThen (eName 0) (eThen (eBin (eBin (eName 1) (ePush (.int 4)) eIx) (ePush (.int 0)) eIx) eNil)))) eFrz) eNil)))))))))))))))))))))
noncomputable def Ff_law_deed_by : Fn := runDef 9 cdf_law_deed_by
noncomputable abbrev cdf_law_do : SF := (sSeq (sIf (tVal (eBin (eBin (eName 1) (ePush (.int 0)) eIx) (ePush (.str "make")) (op2 kEq))) (sSeq (sSub (eBin (eLst 1 (eThen (ePush .non) eNil)) (eBin (eName 1) (ePush (.int 1)) eIx) (op2 kMul)) (eBin (eName 0) (ePush (.int 0)) eIx) (eBin (eBin (eName 0) (ePush (.int 4)) eIx) (ePush (.int 0)) eIx)) (sSeq (sSub (ePush (.bl true)) (eBin (eName 0) (ePush (.int 1)) eIx) (eBin (eBin (eName 0) (ePush (.int 4)) eIx) (ePush (.int 0)) eIx)) (sSub (eBin (eBin (eBin (eName 0) (ePush (.int 4)) eIx) (ePush (.int 0)) eIx) (ePush (.int 1)) (op2 kAdd)) (eBin (eName 0) (ePush (.int 4)) eIx) (ePush (.int 0))))) sNil) (sSeq (sIf (tVal (eBin (eBin (eName 1) (ePush (.int 0)) eIx) (ePush (.str "put")) (op2 kEq))) (sSub (eThen (eSl (eName 1) (oSome (ePush (.int 3))) oNone) eFrz) (eBin (eBin (eName 0) (ePush (.int 0)) eIx) (eBin (eName 1) (ePush (.int 1)) eIx) eIx) (eBin (eName 1) (ePush (.int 2)) eIx)) sNil) (sSeq (sIf (tVal (eBin (eBin (eName 1) (ePush (.int 0)) eIx) (ePush (.str "empty")) (op2 kEq))) (sSub (ePush .non) (eBin (eBin (eName 0) (ePush (.int 0)) eIx) (eBin (eName 1) (ePush (.int 1)) eIx) eIx) (eBin (eName 1) (ePush (.int 2)) eIx)) sNil) (sSeq (sIf (tVal (eBin (eBin (eName 1) (ePush (.int 0)) eIx) (ePush (.str "take")) (op2 kEq))) (sSub (ePush (.bl true)) (eBin (eName 0) (ePush (.int 1)) eIx) (eBin (eName 1) (ePush (.int 1)) eIx)) sNil) (sSeq (sIf (tVal (eBin (eBin (eName 1) (ePush (.int 0)) eIx) (ePush (.str "drop")) (op2 kEq))) (sExpr (eMeth isDct (eBin (eName 0) (ePush (.int 1)) eIx) (eBin (eName 1) (ePush (.int 1)) eIx) eDpop)) sNil) (sSeq (sIf (tVal (eBin (eBin (eName 1) (ePush (.int 0)) eIx) (ePush (.str "pair")) (op2 kEq))) (sSeq (sSub (eThen (eSl (eName 1) (oSome (ePush (.int 1))) oNone) eFrz) (eBin (eName 0) (ePush (.int 2)) eIx) (eBin (eBin (eName 0) (ePush (.int 4)) eIx) (ePush (.int 1)) eIx)) (sSub (eBin (eBin (eBin (eName 0) (ePush (.int 4)) eIx) (ePush (.int 1)) eIx) (ePush (.int 1)) (op2 kAdd)) (eBin (eName 0) (ePush (.int 4)) eIx) (ePush (.int 1)))) sNil) (sSeq (sIf (tVal (eBin (eBin (eName 1) (ePush (.int 0)) eIx) (ePush (.str "unpair")) (op2 kEq))) (sExpr (eMeth isDct (eBin (eName 0) (ePush (.int 2)) eIx) (eBin (eName 1) (ePush (.int 1)) eIx) eDpop)) sNil) (sIf (tVal (eBin (eBin (eName 1) (ePush (.int 0)) eIx) (ePush (.str "bequeath")) (op2 kEq))) (sSeq (sSub (eThen (eThen (eThen (eBin (eName 1) (ePush (.int 2)) eIx) eNil) (op1 kList)) eFrz) (eBin (eName 0) (ePush (.int 3)) eIx) (eBin (eName 1) (ePush (.int 1)) eIx)) (sIf (tVal (eBin (eThen (eThen (eBin (eName 1) (ePush (.int 2)) eIx) eNil) (op1 kLen)) (ePush (.int 0)) (op2 kEq))) (sExpr (eMeth isDct (eBin (eName 0) (ePush (.int 3)) eIx) (eBin (eName 1) (ePush (.int 1)) eIx) eDpop)) sNil)) sNil))))))))
noncomputable def Ff_law_do : Fn := runDef 2 cdf_law_do
noncomputable abbrev cdf_law_known : SF := (sSeq (sSet 1 eDct) (sSeq (sForD (eBin (eName 0) (ePush (.int 1)) eIx) (gSlot 2) (sSub (ePush (.bl true)) (eName 1) (eName 2))) (sSeq (sSet 3 (ePush (.bl true))) (sSeq (sWhile (tTru (eName 3)) (sSeq (sSet 3 (ePush (.bl false))) (sSeq (sSet 4 (eLc kL (eThen (eBin (eName 0) (ePush (.int 2)) eIx) (op1 kVals)) (gSlot 5) (tAnd (tVal (eBin (eBin (eName 5) (ePush (.int 0)) eIx) (eName 1) (op2 kIn))) (tVal (eBin (eBin (eName 5) (ePush (.int 1)) eIx) (eName 1) (op2 kIn)))) (eBin (eName 5) (ePush (.int 2)) eIx) [5])) (sSeq (sFor kL (eThen (eThen (eName 1) eNil) (op1 kList)) (gSlot 2) (sSet 4 (eBin (eName 4) (eLc kL (eBin (eBin (eName 0) (ePush (.int 0)) eIx) (eName 2) eIx) (gSlot 5) (tAnd (tVal (eBin (eName 5) (ePush .non) (op2 kNotN))) (tTru (eBin (eName 5) (ePush (.int 1)) eIx))) (eBin (eName 5) (ePush (.int 0)) eIx) [5]) (op2 kAdd)))) (sFor kL (eName 4) (gSlot 2) (sIf (tVal (eBin (eName 2) (eName 1) (op2 kNin))) (sSeq (sSub (ePush (.bl true)) (eName 1) (eName 2)) (sSet 3 (ePush (.bl true)))) sNil)))))) (sRet (eThen (eName 1) eMov))))))
noncomputable def Ff_law_known : Fn := runDef 6 cdf_law_known
noncomputable abbrev cdf_law_lost : SF := (sSeq (sSet 1 (eCall 1 Ff_law_known (eThen (eName 0) eNil))) (sRet (eLc kL (eThen (eThen (eBin (eName 0) (ePush (.int 0)) eIx) eNil) (op1 kSorted)) (gSlot 2) (tVal (eBin (eName 2) (eName 1) (op2 kNin))) (eThen (eName 2) eFrz) [2])))
noncomputable def Ff_law_lost : Fn := runDef 3 cdf_law_lost
noncomputable abbrev cdf_law_whole : SF := (sRet (eAnd (eThen (eThen (eName 0) (eThen (ePush (.ty "int")) eNil)) (op2 kIsi)) (eNot (eThen (eThen (eName 0) (eThen (ePush (.ty "bool")) eNil)) (op2 kIsi)))))
noncomputable def Ff_law_whole : Fn := runDef 1 cdf_law_whole
noncomputable abbrev cdf_law_numbers : SF := (sSeq (sIf (tOr (tNot (tTru (eThen (eThen (eName 0) (eThen (ePush (.ty "list")) eNil)) (op2 kIsi)))) (tVal (eBin (eThen (eThen (eName 0) eNil) (op1 kLen)) (eThen (eThen (eName 1) eNil) (op1 kLen)) (op2 kNe)))) (sRet (ePush (.bl false))) sNil) (sSeq (sFor1 (eThen (eThen (eName 1) eNil) (op1 kLen)) (gSlot 2) (sIf (tOr (tNot (tTru (eCall 1 Ff_law_whole (eThen (eBin (eName 0) (eName 2) eIx) eNil)))) (tVal (eBin (eBin (eName 0) (eName 2) eIx) (eBin (eName 1) (eName 2) eIx) (op2 kNe)))) (sRet (ePush (.bl false))) sNil)) (sRet (ePush (.bl true)))))
noncomputable def Ff_law_numbers : Fn := runDef 3 cdf_law_numbers
noncomputable abbrev cdm_need_box : SF := (sIf (tVal (eBin (eName 1) (eThen (eName 0) (eFldC 7 "slots")) (op2 kNin))) (sRaise 0) sNil)
noncomputable def Fm_need_box : Fn := runDef 2 cdm_need_box
noncomputable abbrev cdf_is_deed : SF := (sRet (eThen (eThen (eLc2 (ePush (.int 1)) (eThen (eThen (eThen (eThen (eName 0) eNil) (op1 kLen)) (eThen (ePush (.int 3)) eNil)) (op2 kMin2)) (gSlot 1) bYes (eBin (eBin (eName 0) (eName 1) eIx) (ePush (.int 0)) (op2 kGe)) [1]) eNil) (op1 kAll)))
noncomputable def Ff_is_deed : Fn := runDef 2 cdf_is_deed
noncomputable abbrev cdm_bequeath : SF := (sSeq (sExpr (eMet 7 "need_box" 2 Fm_need_box (eName 0) (eThen (eName 1) eNil))) (sSeq (sIf (tOr (tVal (eBin (eThen (eThen (eName 2) eNil) (op1 kLen)) (ePush (.int 9)) (op2 kGt))) (tNot (tTru (eThen (eThen (eLc kL (eName 2) (gSlot 3) bYes (eCall 1 Ff_is_deed (eThen (eName 3) eNil)) [3]) eNil) (op1 kAll))))) (sRaise 4) sNil) (sIf (tTru (eName 2)) (sSub (eThen (eThen (eThen (eName 2) eNil) (op1 kList)) eFrz) (eThen (eName 0) (eFldC 7 "wills")) (eName 1)) (sIf (tVal (eBin (eName 1) (eThen (eName 0) (eFldC 7 "wills")) (op2 kIn))) (sExpr (eMeth isDct (eThen (eName 0) (eFldC 7 "wills")) (eName 1) eDpop)) sNil))))
noncomputable def Fm_bequeath : Fn := runDef 4 cdm_bequeath
noncomputable abbrev cdm_drop : SF := (sSeq (sExpr (eMet 7 "need_box" 2 Fm_need_box (eName 0) (eThen (eName 1) eNil))) (sSeq (sIf (tVal (eBin (eName 1) (eThen (eName 0) (eFldC 7 "held")) (op2 kNin))) (sRaise 2) sNil) (sExpr (eMeth isDct (eThen (eName 0) (eFldC 7 "held")) (eName 1) eDpop))))
noncomputable def Fm_drop : Fn := runDef 2 cdm_drop
noncomputable abbrev cdm_need_slot : SF := (sSeq (sExpr (eMet 7 "need_box" 2 Fm_need_box (eName 0) (eThen (eName 1) eNil))) (sIf (tNot (tVal (eChain (ePush (.int 0)) (eName 2) (op2 kLe) (eThen (eThen (eBin (eThen (eName 0) (eFldC 7 "slots")) (eName 1) eIx) eNil) (op1 kLen)) (op2 kLt)))) (sRaise 1) sNil))
noncomputable def Fm_need_slot : Fn := runDef 3 cdm_need_slot
noncomputable abbrev cdm_empty : SF := (sSeq (sExpr (eMet 7 "need_slot" 3 Fm_need_slot (eName 0) (eThen (eName 1) (eThen (eName 2) eNil)))) (sSub (ePush .non) (eBin (eThen (eName 0) (eFldC 7 "slots")) (eName 1) eIx) (eName 2)))
noncomputable def Fm_empty : Fn := runDef 3 cdm_empty
noncomputable abbrev cdm_make : SF := (sSeq (sIf (tNot (tVal (eChain (ePush (.int 0)) (eName 1) (op2 kLe) (ePush (.int 9)) (op2 kLe)))) (sRaise 1) sNil) (sSeq (sIf (tVal (eBin (eThen (eThen (eThen (eName 0) (eFldC 7 "slots")) eNil) (op1 kLen)) (ePush (.int 60)) (op2 kEq))) (sRaise 5) sNil) (sSeq (sSet 2 (eThen (eName 0) (eFldC 7 "coming"))) (sSeq (sAttr 7 "coming" (eBin (eName 2) (ePush (.int 1)) (op2 kAdd)) (eName 0)) (sSeq (sSub (eBin (eLst 1 (eThen (ePush .non) eNil)) (eName 1) (op2 kMul)) (eThen (eName 0) (eFldC 7 "slots")) (eName 2)) (sSeq (sSub (ePush (.bl true)) (eThen (eName 0) (eFldC 7 "held")) (eName 2)) (sRet (eThen (eName 2) eMov))))))))
noncomputable def Fm_make : Fn := runDef 3 cdm_make
noncomputable abbrev cdm_pair : SF := (sSeq (sFor kT (eTup 3 (eThen (eThen (eName 1) eFrz) (eThen (eThen (eName 2) eFrz) (eThen (eThen (eName 3) eFrz) eNil)))) (gSlot 4) (sExpr (eMet 7 "need_box" 2 Fm_need_box (eName 0) (eThen (eName 4) eNil)))) (sSeq (sIf (tVal (eBin (eThen (eThen (eThen (eName 0) (eFldC 7 "paired")) eNil) (op1 kLen)) (ePush (.int 60)) (op2 kEq))) (sRaise 5) sNil) (sSeq (sSet 5 (eThen (eName 0) (eFldC 7 "next_pair"))) (sSeq (sAttr 7 "next_pair" (eBin (eName 5) (ePush (.int 1)) (op2 kAdd)) (eName 0)) (sSeq (sSub (eTup 3 (eThen (eThen (eName 1) eFrz) (eThen (eThen (eName 2) eFrz) (eThen (eThen (eName 3) eFrz) eNil)))) (eThen (eName 0) (eFldC 7 "paired")) (eName 5)) (sRet (eThen (eName 5) eMov)))))))
noncomputable def Fm_pair : Fn := runDef 6 cdm_pair
noncomputable abbrev cdm_put : SF := (sSeq (sExpr (eMet 7 "need_slot" 3 Fm_need_slot (eName 0) (eThen (eName 1) (eThen (eName 2) eNil)))) (sSeq (sExpr (eMet 7 "need_box" 2 Fm_need_box (eName 0) (eThen (eName 3) eNil))) (sSub (eTup 2 (eThen (eThen (eName 3) eFrz) (eThen (eThen (eName 4) eFrz) eNil))) (eBin (eThen (eName 0) (eFldC 7 "slots")) (eName 1) eIx) (eName 2))))
noncomputable def Fm_put : Fn := runDef 5 cdm_put
noncomputable abbrev cdm_take : SF := (sSeq (sExpr (eMet 7 "need_box" 2 Fm_need_box (eName 0) (eThen (eName 1) eNil))) (sSub (ePush (.bl true)) (eThen (eName 0) (eFldC 7 "held")) (eName 1)))
noncomputable def Fm_take : Fn := runDef 2 cdm_take
noncomputable abbrev cdm_unpair : SF := (sSeq (sIf (tVal (eBin (eName 1) (eThen (eName 0) (eFldC 7 "paired")) (op2 kNin))) (sRaise 3) sNil) (sExpr (eMeth isDct (eThen (eName 0) (eFldC 7 "paired")) (eName 1) eDpop)))
noncomputable def Fm_unpair : Fn := runDef 2 cdm_unpair
noncomputable abbrev cdf_law_told : SF := (sSeq (sIf (tVal (eBin (eBin (eName 1) (ePush (.int 0)) eIx) (ePush (.str "make")) (op2 kEq))) (sRet (eMet 7 "make" 2 Fm_make (eName 0) (eThen (eBin (eName 1) (ePush (.int 1)) eIx) eNil))) sNil) (sSeq (sIf (tVal (eBin (eBin (eName 1) (ePush (.int 0)) eIx) (ePush (.str "put")) (op2 kEq))) (sRet (eMet 7 "put" 5 Fm_put (eName 0) (eThen (eBin (eName 1) (ePush (.int 1)) eIx) (eThen (eBin (eName 1) (ePush (.int 2)) eIx) (eThen (eBin (eName 1) (ePush (.int 3)) eIx) (eThen (eBin (eName 1) (ePush (.int 4)) eIx) eNil)))))) sNil) (sSeq (sIf (tVal (eBin (eBin (eName 1) (ePush (.int 0)) eIx) (ePush (.str "empty")) (op2 kEq))) (sRet (eMet 7 "empty" 3 Fm_empty (eName 0) (eThen (eBin (eName 1) (ePush (.int 1)) eIx) (eThen (eBin (eName 1) (ePush (.int 2)) eIx) eNil)))) sNil) (sSeq (sIf (tVal (eBin (eBin (eName 1) (ePush (.int 0)) eIx) (ePush (.str "take")) (op2 kEq))) (sRet (eMet 7 "take" 2 Fm_take (eName 0) (eThen (eBin (eName 1) (ePush (.int 1)) eIx) eNil))) sNil) (sSeq (sIf (tVal (eBin (eBin (eName 1) (ePush (.int 0)) eIx) (ePush (.str "drop")) (op2 kEq))) (sRet (eMet 7 "drop" 2 Fm_drop (eName 0) (eThen (eBin (eName 1) (ePush (.int 1)) eIx) eNil))) sNil) (sSeq (sIf (tVal (eBin (eBin (eName 1) (ePush (.int 0)) eIx) (ePush (.str "pair")) (op2 kEq))) (sRet (eMet 7 "pair" 4 Fm_pair (eName 0) (eThen (eBin (eName 1) (ePush (.int 1)) eIx) (eThen (eBin (eName 1) (ePush (.int 2)) eIx) (eThen (eBin (eName 1) (ePush (.int 3)) eIx) eNil))))) sNil) (sSeq (sIf (tVal (eBin (eBin (eName 1) (ePush (.int 0)) eIx) (ePush (.str "unpair")) (op2 kEq))) (sRet (eMet 7 "unpair" 2 Fm_unpair (eName 0) (eThen (eBin (eName 1) (ePush (.int 1)) eIx) eNil))) sNil) (sRet (eMet 7 "bequeath" 3 Fm_bequeath (eName 0) (eThen (eBin (eName 1) (ePush (.int 1)) eIx) (eThen (eThen (eThen (eBin (eName 1) (ePush (.int 2)) eIx) eNil) (op1 kList)) eNil)))))))))))
noncomputable def Ff_law_told : Fn := runDef 2 cdf_law_told
noncomputable abbrev cdf_law_world : SF := (sRet (eLst 5 (eThen eDct (eThen eDct (eThen eDct (eThen eDct (eThen (eLst 2 (eThen (ePush (.int 0)) (eThen (ePush (.int 0)) eNil))) eNil)))))))
noncomputable def Ff_law_world : Fn := runDef 0 cdf_law_world
noncomputable abbrev cdm_boxes : SF := (sRet (eThen (eThen (eThen (eName 0) (eFldC 7 "slots")) eNil) (op1 kSorted)))
noncomputable def Fm_boxes : Fn := runDef 1 cdm_boxes
noncomputable abbrev cdm_hands : SF := (sRet (eThen (eThen (eThen (eName 0) (eFldC 7 "held")) eNil) (op1 kSorted)))
noncomputable def Fm_hands : Fn := runDef 1 cdm_hands
noncomputable abbrev cdm_pairs : SF := (sRet (eLc kL (eThen (eThen (eThen (eName 0) (eFldC 7 "paired")) eNil) (op1 kSorted)) (gSlot 1) bYes (eBin (eTup 1 (eThen (eThen (eName 1) eFrz) eNil)) (eBin (eThen (eName 0) (eFldC 7 "paired")) (eName 1) eIx) (op2 kAdd)) [1]))
noncomputable def Fm_pairs : Fn := runDef 2 cdm_pairs
noncomputable abbrev cdm_size : SF := (sSeq (sExpr (eMet 7 "need_box" 2 Fm_need_box (eName 0) (eThen (eName 1) eNil))) (sRet (eThen (eThen (eBin (eThen (eName 0) (eFldC 7 "slots")) (eName 1) eIx) eNil) (op1 kLen))))
noncomputable def Fm_size : Fn := runDef 2 cdm_size
noncomputable abbrev cdm_told : SF := (sSeq (sExpr (eMet 7 "need_slot" 3 Fm_need_slot (eName 0) (eThen (eName 1) (eThen (eName 2) eNil)))) (sRet (eBin (eBin (eThen (eName 0) (eFldC 7 "slots")) (eName 1) eIx) (eName 2) eIx)))
noncomputable def Fm_told : Fn := runDef 3 cdm_told
noncomputable abbrev cdf_held_by : SF := (sSeq (sSet 2 (eLst 0 eNil)) (sSeq (sFor1 (eMet 7 "size" 2 Fm_size (eName 0) (eThen (eName 1) eNil)) (gSlot 3) (sSeq (sSet 4 (eMet 7 "told" 3 Fm_told (eName 0) (eThen (eName 1) (eThen (eName 3) eNil)))) (sIf (tAnd (tVal (eBin (eName 4) (ePush .non) (op2 kNotN))) (tTru (eBin (eName 4) (ePush (.int 1)) eIx))) (sExpr (eMeth isLst (eName 2) (eThen (eThen (eTup 2 (eThen (eThen (eName 3) eFrz) (eThen (eBin (eName 4) (ePush (.int 0)) eIx) eNil))) eFrz) eNil) eAppend)) sNil))) (sRet (eThen (eName 2) eMov))))
noncomputable def Ff_held_by : Fn := runDef 5 cdf_held_by
noncomputable abbrev cdf_next_row : SF := (sSeq (sFor kL (eName 1) (gSlot 3) (sFor kL (eCall 2 Ff_held_by (eThen (eName 0) (eThen (eBin (eName 3) (ePush (.int 0)) eIx) eNil))) (gTupW [(gSlot 4), (gSlot 5)]) (sIf (tVal (eBin (eName 5) (eName 2) (op2 kNin))) (sRet (eTup 2 (eThen (eThen (eName 5) eFrz) (eThen (eTup 3 (eThen (ePush (.str "slot")) (eThen (eBin (eName 3) (ePush (.int 0)) eIx) (eThen (eThen (eName 4) eFrz) eNil)))) eNil)))) sNil))) (sSeq (sFor kL (eMet 7 "pairs" 1 Fm_pairs (eName 0) eNil) (gTupW [(gSlot 6), (gSlot 7), (gSlot 8), (gSlot 9)]) (sIf (tAnd (tVal (eBin (eName 7) (eName 2) (op2 kIn))) (tAnd (tVal (eBin (eName 8) (eName 2) (op2 kIn))) (tVal (eBin (eName 9) (eName 2) (op2 kNin))))) (sRet (eTup 2 (eThen (eThen (eName 9) eFrz) (eThen (eTup 2 (eThen (ePush (.str "pair")) (eThen (eThen (eName 6) eFrz) eNil))) eNil)))) sNil)) (sRet (ePush .non))))
noncomputable def Ff_next_row : Fn := runDef 10 cdf_next_row
noncomputable abbrev cdf_come_to : SF := (sSeq (sSet 1 (eLc kL (eMet 7 "hands" 1 Fm_hands (eName 0) eNil) (gSlot 2) bYes (eTup 2 (eThen (eThen (eName 2) eFrz) (eThen (eTup 1 (eThen (ePush (.str "hand")) eNil)) eNil))) [2])) (sSeq (sSet 3 eDct) (sSeq (sFor kL (eName 1) (gSlot 4) (sSub (ePush (.bl true)) (eName 3) (eBin (eName 4) (ePush (.int 0)) eIx))) (sSeq (sSet 4 (eCall 3 Ff_next_row (eThen (eName 0) (eThen (eName 1) (eThen (eName 3) eNil))))) (sSeq (sWhile (tVal (eBin (eName 4) (ePush .non) (op2 kNotN))) (sSeq (sExpr (eMeth isLst (eName 1) (eThen (eThen (eName 4) eFrz) eNil) eAppend)) (sSeq (sSub (ePush (.bl true)) (eName 3) (eBin (eName 4) (ePush (.int 0)) eIx)) (sSet 4 (eCall 3 Ff_next_row (eThen (eName 0) (eThen (eName 1) (eThen (eName 3) eNil)))))))) (sRet (eThen (eName 1) eMov)))))))
noncomputable def Ff_come_to : Fn := runDef 5 cdf_come_to
noncomputable abbrev cdf_lost : SF := (sSeq (sSet 1 eDct) (sSeq (sFor kL (eCall 1 Ff_come_to (eThen (eName 0) eNil)) (gSlot 2) (sSub (ePush (.bl true)) (eName 1) (eBin (eName 2) (ePush (.int 0)) eIx))) (sRet (eLc kL (eMet 7 "boxes" 1 Fm_boxes (eName 0) eNil) (gSlot 3) (tVal (eBin (eName 3) (eName 1) (op2 kNin))) (eThen (eName 3) eFrz) [3]))))
noncomputable def Ff_lost : Fn := runDef 4 cdf_lost
noncomputable abbrev cdf_law : SF := (sSeq (sSet 1 (eMake 7 Fm_init)) (sSeq (sSet 2 (eCall 0 Ff_law_world eNil)) (sSeq (sSet 3 (eLst 0 eNil)) (sSeq (sSet 4 (eCall 1 Ff_law_cells (eThen (eName 0) eNil))) (sSeq (sFor1 (eThen (eThen (eName 4) eNil) (op1 kLen)) (gSlot 5) (sSeq (sSet 6 (eCall 2 Ff_law_deed_by (eThen (eBin (eName 4) (eName 5) eIx) (eThen (eName 2) eNil)))) (sSeq (sExpr (eCall 2 Ff_law_told (eThen (eName 1) (eThen (eName 6) eNil)))) (sSeq (sExpr (eCall 2 Ff_law_do (eThen (eName 2) (eThen (eName 6) eNil)))) (sIf (tOr (tVal (eBin (eBin (eName 5) (ePush (.int 3)) (op2 kMod)) (ePush (.int 2)) (op2 kEq))) (tVal (eBin (eName 5) (eBin (eThen (eThen (eName 4) eNil) (op1 kLen)) (ePush (.int 1)) (op2 kSub)) (op2 kEq)))) (sSeq (sSet 7 (eCall 1 Ff_law_lost (eThen (eName 2) eNil))) (sSeq (sSet 8 (eCall 1 Ff_lost (eThen (eName 1) eNil))) (sSeq (sIf (tNot (tTru (eCall 2 Ff_law_numbers (eThen (eName 8) (eThen (eName 7) eNil))))) (sRet (ePush (.bl false))) sNil) (sSeq (sExpr (eMeth isLst (eName 8) (eThen (eThen (eThen (ePush (.int 1)) (op1 kNeg)) eFrz) eNil) eAppend)) (sSeq (sExpr (eMeth isLst (eName 3) (eThen (eThen (eLst 2 (eThen (eThen (eName 8) eFrz) (eThen (eThen (eThen (eThen (eName 8) eNil) (op1 kList)) eFrz) eNil))) eFrz) eNil) eAppend)) (sIf (tNot (tTru (eCall 2 Ff_law_numbers (eThen (eCall 1 Ff_lost (eThen (eName 1) eNil)) (eThen (eName 7) eNil))))) (sRet (ePush (.bl false))) sNil)))))) sNil))))) (sRet (eThen (eThen (eLc kL (eName 3) (gSlot 9) bYes (eBin (eBin (eName 9) (ePush (.int 0)) eIx) (eBin (eName 9) (ePush (.int 1)) eIx) (op2 kEq)) [9]) eNil) (op1 kAll))))))))
noncomputable def Ff_law : Fn := runDef 10 cdf_law
end Vt

namespace Vt
open PySem PySem.Spec PyProof.Rows L2
section
variable {P : Program} {w : World} {K : PySem.W.Frag} {mg : Str → Option Value} {base : Heap} {cm : Nat → Addr} {we : Addr} {f fI : Addr} {fd fdI : FuncData} {psI : List Str}
theorem okf_come_to (M : Txt K mg cm we) (F : Fun K "come_to" "come_to" sf_come_to f fd) (Dm_hands : MetF P w K mg base cm 7 "hands" 1 1 Fm_hands) (Df_next_row : DefF P w K mg base cm "next_row" 5 3 Ff_next_row) : FnOk P w K mg base (L2.CX P w) 6 f fd ["chest"] (spF K cm 1 Ff_come_to) :=
  okF (k := 5) F scf_come_to (by decide) fun cdv A outer s H E B Ψ c hp hcm => by
    subst hcm
    exact (sts_cons (st_setLc (i := 1) c (lc_L (own := [("box", 2)]) c (blkOk_by (N := nf_come_to) (sc := defScope sf_come_to) (by decide +kernel)) rfl (tgt_name (i := 2) (fun s H C cl fp => pg_name scf_come_to.nd rfl (Or.inl rfl)) (hp 2 (by decide))) (ev_meth0 c rfl Dm_hands (by decide) (ev_name (i := 0) rfl (Or.inl rfl)) rfl) (fun s1 H1 C1 cl1 fp1 => tss_nil) (fun s1 H1 C1 cl1 fp1 => (ev_tup (ag_cons (ev_frz (ev_name (i := 2) rfl (Or.inl rfl))) (ag_cons (ev_tup (ag_cons ev_str ag_nil se_Constant)) ag_nil se_Tuple) se_Name))) (fun _ => rfl)) rfl rfl rfl (hp 1 (by decide))) (sts_cons (st_set (i := 3) c rfl (Or.inl rfl) ev_dct rfl (Or.inl rfl) (hp 3 (by decide))) (sts_cons (st_forL c (ev_name (i := 1) rfl (Or.inl rfl)) (tg_name (i := 4) c rfl (Or.inl rfl) (Or.inl rfl) (hp 4 (by decide))) (sts_one (st_sub c ev_bl (ev_name (i := 3) rfl (Or.inl rfl)) (ev_sub (ev_name (i := 4) rfl (Or.inl rfl)) ev_int (ixU (CxOk.room c).units) (fun _ _ => rfl)) (fun _ => rfl) rfl rfl rfl)) (fun _ => rfl)) (sts_cons (st_set (i := 4) c rfl (Or.inl rfl) (ev_call c rfl Df_next_row (by decide) rfl (ag_cons (ev_name (i := 0) rfl (Or.inl rfl)) (ag_cons (ev_name (i := 1) rfl (Or.inl rfl)) (ag_cons (ev_name (i := 3) rfl (Or.inl rfl)) ag_nil se_Name) se_Name) se_Name) se_Name rfl) rfl (Or.inl rfl) (hp 4 (by decide))) (sts_cons (st_while c (ts_cmp (ev_name (i := 4) rfl (Or.inl rfl)) ev_non bi_notN rfl) (sts_cons (st_expr (ev_bm PySem.F.plainAttrs_list PySem.F.slot_list_append PySem.F.type_list_append (ev_name (i := 1) rfl (Or.inl rfl)) (ag_cons (ev_frz (ev_name (i := 4) rfl (Or.inl rfl))) ag_nil se_Name) mt_appendF rfl rfl rfl rfl rfl) rfl) (sts_cons (st_sub c ev_bl (ev_name (i := 3) rfl (Or.inl rfl)) (ev_sub (ev_name (i := 4) rfl (Or.inl rfl)) ev_int (ixU (CxOk.room c).units) (fun _ _ => rfl)) (fun _ => rfl) rfl rfl rfl) (sts_one (st_set (i := 4) c rfl (Or.inl rfl) (ev_call c rfl Df_next_row (by decide) rfl (ag_cons (ev_name (i := 0) rfl (Or.inl rfl)) (ag_cons (ev_name (i := 1) rfl (Or.inl rfl)) (ag_cons (ev_name (i := 3) rfl (Or.inl rfl)) ag_nil se_Name) se_Name) se_Name) se_Name rfl) rfl (Or.inl rfl) (hp 4 (by decide))))))) (sts_one (st_ret (ev_mov (ev_name (i := 1) rfl (Or.inl rfl))))))))))
end
end Vt

namespace Vt
open PySem PySem.Spec PyProof.Rows L2
section
variable {P : Program} {w : World} {K : PySem.W.Frag} {mg : Str → Option Value} {base : Heap} {cm : Nat → Addr} {we : Addr} {f fI : Addr} {fd fdI : FuncData} {psI : List Str}
theorem okf_held_by (M : Txt K mg cm we) (F : Fun K "held_by" "held_by" sf_held_by f fd) (Dm_size : MetF P w K mg base cm 7 "size" 2 2 Fm_size) (Dm_told : MetF P w K mg base cm 7 "told" 3 3 Fm_told) : FnOk P w K mg base (L2.CX P w) 4 f fd ["chest", "box"] (spF K cm 2 Ff_held_by) :=
  okF (k := 3) F scf_held_by (by decide) fun cdv A outer s H E B Ψ c hp hcm => by
    subst hcm
    exact (sts_cons (st_set (i := 2) c rfl (Or.inl rfl) (ev_lst ag_nil) rfl (Or.inl rfl) (hp 2 (by decide))) (sts_cons (st_for1 c M.g_range rfl (ev_meth c rfl Dm_size (by decide) (ev_name (i := 0) rfl (Or.inl rfl)) (ag_cons (ev_name (i := 1) rfl (Or.inl rfl)) ag_nil se_Name) se_Name rfl rfl) (tg_name (i := 3) c rfl (Or.inl rfl) (Or.inl rfl) (hp 3 (by decide))) (sts_cons (st_set (i := 4) c rfl (Or.inl rfl) (ev_meth c rfl Dm_told (by decide) (ev_name (i := 0) rfl (Or.inl rfl)) (ag_cons (ev_name (i := 1) rfl (Or.inl rfl)) (ag_cons (ev_name (i := 3) rfl (Or.inl rfl)) ag_nil se_Name) se_Name) se_Name rfl rfl) rfl (Or.inl rfl) (hp 4 (by decide))) (sts_one (st_if (ts_w (tw_and (ts_cmp (ev_name (i := 4) rfl (Or.inl rfl)) ev_non bi_notN rfl) (tw_one (ts_tru (ev_sub (ev_name (i := 4) rfl (Or.inl rfl)) ev_int (ixU (CxOk.room c).units) (fun _ _ => rfl)) (fun _ => rfl))))) (sts_one (st_expr (ev_bm PySem.F.plainAttrs_list PySem.F.slot_list_append PySem.F.type_list_append (ev_name (i := 2) rfl (Or.inl rfl)) (ag_cons (ev_frz (ev_tup (ag_cons (ev_frz (ev_name (i := 3) rfl (Or.inl rfl))) (ag_cons (ev_sub (ev_name (i := 4) rfl (Or.inl rfl)) ev_int (ixU (CxOk.room c).units) (fun _ _ => rfl)) ag_nil se_Subscript) se_Name))) ag_nil se_Tuple) mt_appendF rfl rfl rfl rfl rfl) rfl)) sts_nil))) rfl (fun _ => rfl)) (sts_one (st_ret (ev_mov (ev_name (i := 2) rfl (Or.inl rfl)))))))
end
end Vt

namespace Vt
open PySem PySem.Spec PyProof.Rows L2
section
variable {P : Program} {w : World} {K : PySem.W.Frag} {mg : Str → Option Value} {base : Heap} {cm : Nat → Addr} {we : Addr} {f fI : Addr} {fd fdI : FuncData} {psI : List Str}
theorem okf_is_deed (M : Txt K mg cm we) (F : Fun K "is_deed" "is_deed" sf_is_deed f fd)  : FnOk P w K mg base (L2.CX P w) 1 f fd ["deed"] (spF K cm 1 Ff_is_deed) :=
  okF (k := 0) F scf_is_deed (by decide) fun cdv A outer s H E B Ψ c hp hcm => by
    subst hcm
    exact (sts_one (st_ret (ev_callB (id := "all") M.g_all rfl (by decide +kernel) (ag_cons (ev_lc c (lc_2 (own := [("at", 1)]) c (blkOk_by (N := nf_is_deed) (sc := defScope sf_is_deed) (by decide +kernel)) rfl (tgt_name (i := 1) (fun s H C cl fp => pg_name scf_is_deed.nd rfl (Or.inl rfl)) (hp 1 (by decide))) M.g_range rfl ev_int (ev_callB (id := "min") M.g_min rfl (by decide +kernel) (ag_cons (ev_callB (id := "len") M.g_len rfl (by decide +kernel) (ag_cons (ev_name (i := 0) rfl (Or.inr (Or.inl rfl))) ag_nil se_Name) cl_len rfl rfl) (ag_cons ev_int ag_nil se_Constant) se_Call) (cl_min2 c) rfl rfl) (fun s1 H1 C1 cl1 fp1 => tss_nil) (fun s1 H1 C1 cl1 fp1 => (ev_cmp (ev_sub (ev_name (i := 0) rfl (Or.inr (Or.inl rfl))) (ev_name (i := 1) rfl (Or.inl rfl)) (ixU (CxOk.room c).units) (fun _ _ => rfl)) ev_int bi_ge rfl)) rfl rfl (fun _ => rfl))) ag_nil se_ListComp) (cl_all c) rfl rfl)))
end
end Vt

namespace Vt
open PySem PySem.Spec PyProof.Rows L2
section
variable {P : Program} {w : World} {K : PySem.W.Frag} {mg : Str → Option Value} {base : Heap} {cm : Nat → Addr} {we : Addr} {f fI : Addr} {fd fdI : FuncData} {psI : List Str}
theorem okf_law (M : Txt K mg cm we) (F : Fun K "law" "law" sf_law f fd) (MK1 : Mk K (cm 7) fI) (MK2 : FnOk P w K mg base (L2.CX P w) 1 fI fdI psI (spF K cm 1 Fm_init)) (MK3 : Binds K fdI psI []) (Df_law_cells : DefF P w K mg base cm "_law_cells" 3 1 Ff_law_cells) (Df_law_deed_by : DefF P w K mg base cm "_law_deed_by" 3 2 Ff_law_deed_by) (Df_law_do : DefF P w K mg base cm "_law_do" 1 2 Ff_law_do) (Df_law_lost : DefF P w K mg base cm "_law_lost" 2 1 Ff_law_lost) (Df_law_numbers : DefF P w K mg base cm "_law_numbers" 2 2 Ff_law_numbers) (Df_law_told : DefF P w K mg base cm "_law_told" 4 2 Ff_law_told) (Df_law_world : DefF P w K mg base cm "_law_world" 1 0 Ff_law_world) (Df_lost : DefF P w K mg base cm "lost" 7 1 Ff_lost) : FnOk P w K mg base (L2.CX P w) 8 f fd ["_law_script"] (spF K cm 1 Ff_law) :=
  okF (k := 7) F scf_law (by decide) fun cdv A outer s H E B Ψ c hp hcm => by
    subst hcm
    exact (sts_cons (st_set (i := 1) c rfl (Or.inl rfl) (ev_make (C := 7) c rfl MK1 MK2 (by decide) MK3 M.ch rfl) rfl (Or.inl rfl) (hp 1 (by decide))) (sts_cons (st_set (i := 2) c rfl (Or.inl rfl) (ev_call0 c rfl Df_law_world (by decide) rfl) rfl (Or.inl rfl) (hp 2 (by decide))) (sts_cons (st_set (i := 3) c rfl (Or.inl rfl) (ev_lst ag_nil) rfl (Or.inl rfl) (hp 3 (by decide))) (sts_cons (st_set (i := 4) c rfl (Or.inl rfl) (ev_call c rfl Df_law_cells (by decide) rfl (ag_cons (ev_name (i := 0) rfl (Or.inl rfl)) ag_nil se_Name) se_Name rfl) rfl (Or.inl rfl) (hp 4 (by decide))) (sts_cons (st_for1 c M.g_range rfl (ev_callB (id := "len") M.g_len rfl (by decide +kernel) (ag_cons (ev_name (i := 4) rfl (Or.inl rfl)) ag_nil se_Name) cl_len rfl rfl) (tg_name (i := 5) c rfl (Or.inl rfl) (Or.inl rfl) (hp 5 (by decide))) (sts_cons (st_set (i := 6) c rfl (Or.inl rfl) (ev_call c rfl Df_law_deed_by (by decide) rfl (ag_cons (ev_sub (ev_name (i := 4) rfl (Or.inl rfl)) (ev_name (i := 5) rfl (Or.inl rfl)) (ixU (CxOk.room c).units) (fun _ _ => rfl)) (ag_cons (ev_name (i := 2) rfl (Or.inl rfl)) ag_nil se_Name) se_Subscript) se_Subscript rfl) rfl (Or.inl rfl) (hp 6 (by decide))) (sts_cons (st_expr (ev_call c rfl Df_law_told (by decide) rfl (ag_cons (ev_name (i := 1) rfl (Or.inl rfl)) (ag_cons (ev_name (i := 6) rfl (Or.inl rfl)) ag_nil se_Name) se_Name) se_Name rfl) rfl) (sts_cons (st_expr (ev_call c rfl Df_law_do (by decide) rfl (ag_cons (ev_name (i := 2) rfl (Or.inl rfl)) (ag_cons (ev_name (i := 6) rfl (Or.inl rfl)) ag_nil se_Name) se_Name) se_Name rfl) rfl) (sts_one (st_if (ts_w (tw_or (ts_cmp (ev_bin (ev_name (i := 5) rfl (Or.inl rfl)) ev_int bi_mod) ev_int (bi_eqU (CxOk.room c).units) rfl) (tw_one (ts_cmp (ev_name (i := 5) rfl (Or.inl rfl)) (ev_bin (ev_callB (id := "len") M.g_len rfl (by decide +kernel) (ag_cons (ev_name (i := 4) rfl (Or.inl rfl)) ag_nil se_Name) cl_len rfl rfl) ev_int bi_sub) (bi_eqU (CxOk.room c).units) rfl)))) (sts_cons (st_set (i := 7) c rfl (Or.inl rfl) (ev_call c rfl Df_law_lost (by decide) rfl (ag_cons (ev_name (i := 2) rfl (Or.inl rfl)) ag_nil se_Name) se_Name rfl) rfl (Or.inl rfl) (hp 7 (by decide))) (sts_cons (st_set (i := 8) c rfl (Or.inl rfl) (ev_call c rfl Df_lost (by decide) rfl (ag_cons (ev_name (i := 1) rfl (Or.inl rfl)) ag_nil se_Name) se_Name rfl) rfl (Or.inl rfl) (hp 8 (by decide))) (sts_cons (st_if (ts_not (ts_tru (ev_call c rfl Df_law_numbers (by decide) rfl (ag_cons (ev_name (i := 8) rfl (Or.inl rfl)) (ag_cons (ev_name (i := 7) rfl (Or.inl rfl)) ag_nil se_Name) se_Name) se_Name rfl) (fun _ => rfl))) (sts_one (st_ret ev_bl)) sts_nil) (sts_cons (st_expr (ev_bm PySem.F.plainAttrs_list PySem.F.slot_list_append PySem.F.type_list_append (ev_name (i := 8) rfl (Or.inl rfl)) (ag_cons (ev_frz (ev_un ev_int un_negF)) ag_nil se_UnaryOp) mt_appendF rfl rfl rfl rfl rfl) rfl) (sts_cons (st_expr (ev_bm PySem.F.plainAttrs_list PySem.F.slot_list_append PySem.F.type_list_append (ev_name (i := 3) rfl (Or.inl rfl)) (ag_cons (ev_frz (ev_lst (ag_cons (ev_frz (ev_name (i := 8) rfl (Or.inl rfl))) (ag_cons (ev_frz (ev_callTy (T := "list") M.g_list rfl (by decide +kernel) (ag_cons (ev_name (i := 8) rfl (Or.inl rfl)) ag_nil se_Name) (cl_list c) rfl rfl)) ag_nil se_Call) se_Name))) ag_nil se_List) mt_appendF rfl rfl rfl rfl rfl) rfl) (sts_one (st_if (ts_not (ts_tru (ev_call c rfl Df_law_numbers (by decide) rfl (ag_cons (ev_call c rfl Df_lost (by decide) rfl (ag_cons (ev_name (i := 1) rfl (Or.inl rfl)) ag_nil se_Name) se_Name rfl) (ag_cons (ev_name (i := 7) rfl (Or.inl rfl)) ag_nil se_Name) se_Call) se_Call rfl) (fun _ => rfl))) (sts_one (st_ret ev_bl)) sts_nil))))))) sts_nil))))) rfl (fun _ => rfl)) (sts_one (st_ret (ev_callB (id := "all") M.g_all rfl (by decide +kernel) (ag_cons (ev_lc c (lc_L (own := [("_law_one", 9)]) c (blkOk_by (N := nf_law) (sc := defScope sf_law) (by decide +kernel)) rfl (tgt_name (i := 9) (fun s H C cl fp => pg_name scf_law.nd rfl (Or.inl rfl)) (hp 9 (by decide))) (ev_name (i := 3) rfl (Or.inl rfl)) (fun s1 H1 C1 cl1 fp1 => tss_nil) (fun s1 H1 C1 cl1 fp1 => (ev_cmp (ev_sub (ev_name (i := 9) rfl (Or.inl rfl)) ev_int (ixU (CxOk.room c).units) (fun _ _ => rfl)) (ev_sub (ev_name (i := 9) rfl (Or.inl rfl)) ev_int (ixU (CxOk.room c).units) (fun _ _ => rfl)) (bi_eqU (CxOk.room c).units) rfl)) (fun _ => rfl))) ag_nil se_ListComp) (cl_all c) rfl rfl))))))))
end
end Vt

namespace Vt
open PySem PySem.Spec PyProof.Rows L2
section
variable {P : Program} {w : World} {K : PySem.W.Frag} {mg : Str → Option Value} {base : Heap} {cm : Nat → Addr} {we : Addr} {f fI : Addr} {fd fdI : FuncData} {psI : List Str}
theorem okf_law_cell_at (M : Txt K mg cm we) (F : Fun K "_law_cell_at" "_law_cell_at" sf_law_cell_at f fd)  : FnOk P w K mg base (L2.CX P w) 1 f fd ["_law_script", "_law_k"] (spF K cm 2 Ff_law_cell_at) :=
  okF (k := 0) F scf_law_cell_at (by decide) fun cdv A outer s H E B Ψ c hp hcm => by
    subst hcm
    exact (sts_cons (st_if (ts_cmp (ev_name (i := 1) rfl (Or.inl rfl)) (ev_callB (id := "len") M.g_len rfl (by decide +kernel) (ag_cons (ev_name (i := 0) rfl (Or.inl rfl)) ag_nil se_Name) cl_len rfl rfl) bi_lt rfl) (sts_one (st_ret (ev_sub (ev_name (i := 0) rfl (Or.inl rfl)) (ev_name (i := 1) rfl (Or.inl rfl)) (ixU (CxOk.room c).units) (fun _ _ => rfl)))) sts_nil) (sts_one (st_ret ev_int)))
end
end Vt

namespace Vt
open PySem PySem.Spec PyProof.Rows L2
section
variable {P : Program} {w : World} {K : PySem.W.Frag} {mg : Str → Option Value} {base : Heap} {cm : Nat → Addr} {we : Addr} {f fI : Addr} {fd fdI : FuncData} {psI : List Str}
theorem okf_law_cells (M : Txt K mg cm we) (F : Fun K "_law_cells" "_law_cells" sf_law_cells f fd) (Df_law_cell_at : DefF P w K mg base cm "_law_cell_at" 1 2 Ff_law_cell_at) (Df_law_laid : DefF P w K mg base cm "_law_laid" 2 1 Ff_law_laid) : FnOk P w K mg base (L2.CX P w) 3 f fd ["_law_script"] (spF K cm 1 Ff_law_cells) :=
  okF (k := 2) F scf_law_cells (by decide) fun cdv A outer s H E B Ψ c hp hcm => by
    subst hcm
    exact (sts_cons (st_set (i := 1) c rfl (Or.inr rfl) (ev_call c rfl Df_law_cell_at (by decide) rfl (ag_cons (ev_name (i := 0) rfl (Or.inl rfl)) (ag_cons ev_int ag_nil se_Constant) se_Name) se_Name rfl) rfl (Or.inl rfl) (hp 1 (by decide))) (sts_cons (st_if (ts_cmp (ev_bin (ev_name (i := 1) rfl (Or.inr (Or.inl rfl))) ev_int bi_mod) ev_int (bi_eqU (CxOk.room c).units) rfl) (sts_one (st_ret (ev_bin (ev_call c rfl Df_law_laid (by decide) rfl (ag_cons (ev_bin (ev_name (i := 1) rfl (Or.inr (Or.inl rfl))) ev_int bi_fdiv) ag_nil se_BinOp) se_BinOp rfl) (ev_slice (ev_name (i := 0) rfl (Or.inl rfl)) (pt_some ev_int) (pt_some ev_int)) bi_add))) sts_nil) (sts_cons (st_if (ts_cmp (ev_bin (ev_name (i := 1) rfl (Or.inr (Or.inl rfl))) ev_int bi_mod) ev_int (bi_eqU (CxOk.room c).units) rfl) (sts_one (st_ret (ev_bin (ev_lc c (lc_1 (own := [("_law_k", 2)]) c (blkOk_by (N := nf_law_cells) (sc := defScope sf_law_cells) (by decide +kernel)) rfl (tgt_name (i := 2) (fun s H C cl fp => pg_name scf_law_cells.nd rfl (Or.inl rfl)) (hp 2 (by decide))) M.g_range rfl (ev_bin ev_int (ev_bin (ev_bin (ev_name (i := 1) rfl (Or.inr (Or.inl rfl))) ev_int bi_fdiv) ev_int bi_mod) bi_add) (fun s1 H1 C1 cl1 fp1 => tss_nil) (fun s1 H1 C1 cl1 fp1 => (ev_bin (ev_bin (ev_name (i := 1) rfl (Or.inr (Or.inl rfl))) ev_int bi_fdiv) (ev_bin ev_int (ev_name (i := 2) rfl (Or.inl rfl)) bi_mul) bi_add)) rfl (fun _ => rfl))) (ev_slice (ev_name (i := 0) rfl (Or.inl rfl)) (pt_some ev_int) (pt_some ev_int)) bi_add))) sts_nil) (sts_one (st_ret (ev_slice (ev_name (i := 0) rfl (Or.inl rfl)) (pt_some ev_int) (pt_some ev_int)))))))
end
end Vt

namespace Vt
open PySem PySem.Spec PyProof.Rows L2
section
variable {P : Program} {w : World} {K : PySem.W.Frag} {mg : Str → Option Value} {base : Heap} {cm : Nat → Addr} {we : Addr} {f fI : Addr} {fd fdI : FuncData} {psI : List Str}
theorem okf_law_deed_by (M : Txt K mg cm we) (F : Fun K "_law_deed_by" "_law_deed_by" sf_law_deed_by f fd) (Df_law_mixed : DefF P w K mg base cm "_law_mixed" 1 3 Ff_law_mixed) (Df_law_will_of : DefF P w K mg base cm "_law_will_of" 2 3 Ff_law_will_of) : FnOk P w K mg base (L2.CX P w) 3 f fd ["_law_cell", "_law_world_here"] (spF K cm 2 Ff_law_deed_by) :=
  okF (k := 2) F scf_law_deed_by (by decide) fun cdv A outer s H E B Ψ c hp hcm => by
    subst hcm
    refine sts_cons ?_ ?_
    · refine st_if ?_ ?_ ?_
      · exact (ts_tru (ev_callB (id := "isinstance") M.g_isinstance rfl (by decide +kernel) (ag_cons (ev_name (i := 0) rfl (Or.inl rfl)) (ag_cons (ev_ty (n := "tuple") M.g_tuple rfl (by decide +kernel)) ag_nil se_Name) se_Name) cl_isi rfl rfl) (fun _ => rfl))
      · refine sts_one ?_
        · refine st_ret ?_
          · exact (ev_mov (ev_name (i := 0) rfl (Or.inl rfl)))
      · exact sts_nil
    · refine sts_cons ?_ ?_
      · refine st_set (i := 2) (W := fun cls d _ H => E cls d H) (k := 2) ?_ ?_ ?_ ?_ ?_ ?_ ?_
        · exact c
        · exact rfl
        · exact (Or.inl rfl)
        · exact (ev_callB (id := "sorted") M.g_sorted rfl (by decide +kernel) (ag_cons (ev_sub (ev_name (i := 1) rfl (Or.inl rfl)) ev_int (ixU (CxOk.room c).units) (fun _ _ => rfl)) ag_nil se_Subscript) (cl_sorted c) rfl rfl)
        · exact rfl
        · exact (Or.inl rfl)
        · exact (hp 2 (by decide))
      · refine sts_cons ?_ ?_
        · refine st_set (i := 3) (W := fun cls d _ H => E cls d H) (k := 2) ?_ ?_ ?_ ?_ ?_ ?_ ?_
          · exact c
          · exact rfl
          · exact (Or.inl rfl)
          · exact (ev_callB (id := "sorted") M.g_sorted rfl (by decide +kernel) (ag_cons (ev_sub (ev_name (i := 1) rfl (Or.inl rfl)) ev_int (ixU (CxOk.room c).units) (fun _ _ => rfl)) ag_nil se_Subscript) (cl_sorted c) rfl rfl)
          · exact rfl
          · exact (Or.inl rfl)
          · exact (hp 3 (by decide))
        · refine sts_cons ?_ ?_
          · refine st_set (i := 4) (W := fun cls d _ H => E cls d H) (k := 2) ?_ ?_ ?_ ?_ ?_ ?_ ?_
            · exact c
            · exact rfl
            · exact (Or.inl rfl)
            · exact (ev_callB (id := "sorted") M.g_sorted rfl (by decide +kernel) (ag_cons (ev_sub (ev_name (i := 1) rfl (Or.inl rfl)) ev_int (ixU (CxOk.room c).units) (fun _ _ => rfl)) ag_nil se_Subscript) (cl_sorted c) rfl rfl)
            · exact rfl
            · exact (Or.inl rfl)
            · exact (hp 4 (by decide))
          · refine sts_cons ?_ ?_
            · refine st_set (i := 5) (W := fun cls d _ H => E cls d H) (k := 2) ?_ ?_ ?_ ?_ ?_ ?_ ?_
              · exact c
              · exact rfl
              · exact (Or.inl rfl)
              · exact (ev_call c rfl Df_law_mixed (by decide) rfl (ag_cons (ev_name (i := 0) rfl (Or.inl rfl)) (ag_cons ev_int (ag_cons ev_int ag_nil se_Constant) se_Constant) se_Name) se_Name rfl)
              · exact rfl
              · exact (Or.inl rfl)
              · exact (hp 5 (by decide))
            · refine sts_cons ?_ ?_
              · refine st_if ?_ ?_ ?_
                · exact (ts_w (tw_or (ts_cmp (ev_callB (id := "len") M.g_len rfl (by decide +kernel) (ag_cons (ev_name (i := 2) rfl (Or.inl rfl)) ag_nil se_Name) cl_len rfl rfl) ev_int bi_lt rfl) (tw_one (ts_w (tw_and (ts_cmp (ev_name (i := 5) rfl (Or.inl rfl)) ev_int bi_lt rfl) (tw_one (ts_cmp (ev_callB (id := "len") M.g_len rfl (by decide +kernel) (ag_cons (ev_name (i := 2) rfl (Or.inl rfl)) ag_nil se_Name) cl_len rfl rfl) ev_int bi_lt rfl)))))))
                · refine sts_one ?_
                  · refine st_ret ?_
                    · refine ev_tup ?_
                      · refine ag_cons ?_ ?_ ?_
                        · exact ev_str
                        · refine ag_cons ?_ ?_ ?_
                          · refine ev_sub ?_ ?_ ?_ ?_
                            · refine ev_lst ?_
                              · refine ag_cons ?_ ?_ ?_
                                · exact ev_int
                                · refine ag_cons ?_ ?_ ?_
                                  · exact ev_int
                                  · refine ag_cons ?_ ?_ ?_
                                    · exact ev_int
                                    · refine ag_cons ?_ ?_ ?_
                                      · exact ev_int
                                      · refine ag_cons ?_ ?_ ?_
                                        · exact ev_int
                                        · refine ag_cons ?_ ?_ ?_
                                          · exact ev_int
                                          · refine ag_cons ?_ ?_ ?_
                                            · exact ev_int
                                            · refine ag_cons ?_ ?_ ?_
                                              · exact ev_int
                                              · exact ag_nil
                                              · exact se_Constant
                                            · exact se_Constant
                                          · exact se_Constant
                                        · exact se_Constant
                                      · exact se_Constant
                                    · exact se_Constant
                                  · exact se_Constant
                                · exact se_Constant
                            · exact (ev_call c rfl Df_law_mixed (by decide) rfl (ag_cons (ev_name (i := 0) rfl (Or.inl rfl)) (ag_cons ev_int (ag_cons ev_int ag_nil se_Constant) se_Constant) se_Name) se_Name rfl)
                            · exact (ixU (CxOk.room c).units)
                            · exact (fun _ _ => rfl)
                          · exact ag_nil
                          · exact se_Subscript
                        · exact se_Constant
                · exact sts_nil
              · refine sts_cons ?_ ?_
                · refine st_set (i := 6) (W := fun cls d _ H => E cls d H) (k := 2) ?_ ?_ ?_ ?_ ?_ ?_ ?_
                  · exact c
                  · exact rfl
                  · exact (Or.inl rfl)
                  · refine ev_sub ?_ ?_ ?_ ?_
                    · exact (ev_name (i := 2) rfl (Or.inl rfl))
                    · exact (ev_call c rfl Df_law_mixed (by decide) rfl (ag_cons (ev_name (i := 0) rfl (Or.inl rfl)) (ag_cons ev_int (ag_cons (ev_callB (id := "len") M.g_len rfl (by decide +kernel) (ag_cons (ev_name (i := 2) rfl (Or.inl rfl)) ag_nil se_Name) cl_len rfl rfl) ag_nil se_Call) se_Constant) se_Name) se_Name rfl)
                    · exact (ixU (CxOk.room c).units)
                    · exact (fun _ _ => rfl)
                  · exact rfl
                  · exact (Or.inl rfl)
                  · exact (hp 6 (by decide))
                · refine sts_cons ?_ ?_
                  · refine st_set (i := 7) (W := fun cls d _ H => E cls d H) (k := 2) ?_ ?_ ?_ ?_ ?_ ?_ ?_
                    · exact c
                    · exact rfl
                    · exact (Or.inl rfl)
                    · refine ev_sub ?_ ?_ ?_ ?_
                      · exact (ev_name (i := 2) rfl (Or.inl rfl))
                      · exact (ev_call c rfl Df_law_mixed (by decide) rfl (ag_cons (ev_name (i := 0) rfl (Or.inl rfl)) (ag_cons ev_int (ag_cons (ev_callB (id := "len") M.g_len rfl (by decide +kernel) (ag_cons (ev_name (i := 2) rfl (Or.inl rfl)) ag_nil se_Name) cl_len rfl rfl) ag_nil se_Call) se_Constant) se_Name) se_Name rfl)
                      · exact (ixU (CxOk.room c).units)
                      · exact (fun _ _ => rfl)
                    · exact rfl
                    · exact (Or.inl rfl)
                    · exact (hp 7 (by decide))
                  · refine sts_cons ?_ ?_
                    · refine st_set (i := 8) (W := fun cls d _ H => E cls d H) (k := 2) ?_ ?_ ?_ ?_ ?_ ?_ ?_
                      · exact c
                      · exact rfl
                      · exact (Or.inl rfl)
                      · exact (ev_callB (id := "len") M.g_len rfl (by decide +kernel) (ag_cons (ev_sub (ev_sub (ev_name (i := 1) rfl (Or.inl rfl)) ev_int (ixU (CxOk.room c).units) (fun _ _ => rfl)) (ev_name (i := 6) rfl (Or.inl rfl)) (ixU (CxOk.room c).units) (fun _ _ => rfl)) ag_nil se_Subscript) cl_len rfl rfl)
                      · exact rfl
                      · exact (Or.inl rfl)
                      · exact (hp 8 (by decide))
                    · refine sts_cons ?_ ?_
                      · refine st_if ?_ ?_ ?_
                        · exact (ts_w (tw_and (ts_cmp (ev_name (i := 5) rfl (Or.inl rfl)) ev_int bi_lt rfl) (tw_one (ts_cmp (ev_name (i := 8) rfl (Or.inl rfl)) ev_int bi_gt rfl))))
                        · refine sts_one ?_
                          · refine st_ret ?_
                            · refine ev_tup ?_
                              · refine ag_cons ?_ ?_ ?_
                                · exact ev_str
                                · refine ag_cons ?_ ?_ ?_
                                  · exact (ev_frz (ev_name (i := 6) rfl (Or.inl rfl)))
                                  · refine ag_cons ?_ ?_ ?_
                                    · exact (ev_call c rfl Df_law_mixed (by decide) rfl (ag_cons (ev_name (i := 0) rfl (Or.inl rfl)) (ag_cons ev_int (ag_cons (ev_name (i := 8) rfl (Or.inl rfl)) ag_nil se_Name) se_Constant) se_Name) se_Name rfl)
                                    · refine ag_cons ?_ ?_ ?_
                                      · exact (ev_frz (ev_name (i := 7) rfl (Or.inl rfl)))
                                      · refine ag_cons ?_ ?_ ?_
                                        · exact (ev_cmp (ev_name (i := 5) rfl (Or.inl rfl)) ev_int bi_lt rfl)
                                        · exact ag_nil
                                        · exact se_Compare
                                      · exact se_Name
                                    · exact se_Call
                                  · exact se_Name
                                · exact se_Constant
                        · exact sts_nil
                      · refine sts_cons ?_ ?_
                        · refine st_if ?_ ?_ ?_
                          · exact (ts_w (tw_and (ts_cmp (ev_name (i := 5) rfl (Or.inl rfl)) ev_int (bi_eqU (CxOk.room c).units) rfl) (tw_one (ts_cmp (ev_name (i := 8) rfl (Or.inl rfl)) ev_int bi_gt rfl))))
                          · refine sts_one ?_
                            · refine st_ret ?_
                              · refine ev_tup ?_
                                · refine ag_cons ?_ ?_ ?_
                                  · exact ev_str
                                  · refine ag_cons ?_ ?_ ?_
                                    · exact (ev_frz (ev_name (i := 6) rfl (Or.inl rfl)))
                                    · refine ag_cons ?_ ?_ ?_
                                      · exact (ev_call c rfl Df_law_mixed (by decide) rfl (ag_cons (ev_name (i := 0) rfl (Or.inl rfl)) (ag_cons ev_int (ag_cons (ev_name (i := 8) rfl (Or.inl rfl)) ag_nil se_Name) se_Constant) se_Name) se_Name rfl)
                                      · exact ag_nil
                                      · exact se_Call
                                    · exact se_Name
                                  · exact se_Constant
                          · exact sts_nil
                        · refine sts_cons ?_ ?_
                          · refine st_if ?_ ?_ ?_
                            · exact (ts_cmp (ev_name (i := 5) rfl (Or.inl rfl)) ev_int (bi_eqU (CxOk.room c).units) rfl)
                            · refine sts_one ?_
                              · refine st_ret ?_
                                · refine ev_tup ?_
                                  · refine ag_cons ?_ ?_ ?_
                                    · exact ev_str
                                    · refine ag_cons ?_ ?_ ?_
                                      · exact (ev_frz (ev_name (i := 6) rfl (Or.inl rfl)))
                                      · exact ag_nil
                                      · exact se_Name
                                    · exact se_Constant
                            · exact sts_nil
                          · refine sts_cons ?_ ?_
                            · refine st_if ?_ ?_ ?_
                              · exact (ts_w (tw_and (ts_cmp (ev_name (i := 5) rfl (Or.inl rfl)) ev_int bi_lt rfl) (tw_one (ts_cmp (ev_callB (id := "len") M.g_len rfl (by decide +kernel) (ag_cons (ev_name (i := 3) rfl (Or.inl rfl)) ag_nil se_Name) cl_len rfl rfl) ev_int bi_gt rfl))))
                              · refine sts_one ?_
                                · refine st_ret ?_
                                  · refine ev_tup ?_
                                    · refine ag_cons ?_ ?_ ?_
                                      · exact ev_str
                                      · refine ag_cons ?_ ?_ ?_
                                        · refine ev_sub ?_ ?_ ?_ ?_
                                          · exact (ev_name (i := 3) rfl (Or.inl rfl))
                                          · exact (ev_call c rfl Df_law_mixed (by decide) rfl (ag_cons (ev_name (i := 0) rfl (Or.inl rfl)) (ag_cons ev_int (ag_cons (ev_callB (id := "len") M.g_len rfl (by decide +kernel) (ag_cons (ev_name (i := 3) rfl (Or.inl rfl)) ag_nil se_Name) cl_len rfl rfl) ag_nil se_Call) se_Constant) se_Name) se_Name rfl)
                                          · exact (ixU (CxOk.room c).units)
                                          · exact (fun _ _ => rfl)
                                        · exact ag_nil
                                        · exact se_Subscript
                                      · exact se_Constant
                              · exact sts_nil
                            · refine sts_cons ?_ ?_
                              · refine st_if ?_ ?_ ?_
                                · exact (ts_w (tw_and (ts_cmp (ev_name (i := 5) rfl (Or.inl rfl)) ev_int bi_lt rfl) (tw_one (ts_cmp (ev_callB (id := "len") M.g_len rfl (by decide +kernel) (ag_cons (ev_name (i := 4) rfl (Or.inl rfl)) ag_nil se_Name) cl_len rfl rfl) ev_int bi_lt rfl))))
                                · refine sts_one ?_
                                  · refine st_ret ?_
                                    · refine ev_tup ?_
                                      · refine ag_cons ?_ ?_ ?_
                                        · exact ev_str
                                        · refine ag_cons ?_ ?_ ?_
                                          · exact (ev_frz (ev_name (i := 6) rfl (Or.inl rfl)))
                                          · refine ag_cons ?_ ?_ ?_
                                            · exact (ev_frz (ev_name (i := 7) rfl (Or.inl rfl)))
                                            · refine ag_cons ?_ ?_ ?_
                                              · refine ev_sub ?_ ?_ ?_ ?_
                                                · exact (ev_name (i := 2) rfl (Or.inl rfl))
                                                · exact (ev_call c rfl Df_law_mixed (by decide) rfl (ag_cons (ev_name (i := 0) rfl (Or.inl rfl)) (ag_cons ev_int (ag_cons (ev_callB (id := "len") M.g_len rfl (by decide +kernel) (ag_cons (ev_name (i := 2) rfl (Or.inl rfl)) ag_nil se_Name) cl_len rfl rfl) ag_nil se_Call) se_Constant) se_Name) se_Name rfl)
                                                · exact (ixU (CxOk.room c).units)
                                                · exact (fun _ _ => rfl)
                                              · exact ag_nil
                                              · exact se_Subscript
                                            · exact se_Name
                                          · exact se_Name
                                        · exact se_Constant
                                · exact sts_nil
                              · refine sts_cons ?_ ?_
                                · refine st_if ?_ ?_ ?_
                                  · exact (ts_w (tw_and (ts_cmp (ev_name (i := 5) rfl (Or.inl rfl)) ev_int (bi_eqU (CxOk.room c).units) rfl) (tw_one (ts_cmp (ev_callB (id := "len") M.g_len rfl (by decide +kernel) (ag_cons (ev_name (i := 4) rfl (Or.inl rfl)) ag_nil se_Name) cl_len rfl rfl) ev_int bi_gt rfl))))
                                  · refine sts_one ?_
                                    · refine st_ret ?_
                                      · refine ev_tup ?_
                                        · refine ag_cons ?_ ?_ ?_
                                          · exact ev_str
                                          · refine ag_cons ?_ ?_ ?_
                                            · refine ev_sub ?_ ?_ ?_ ?_
                                              · exact (ev_name (i := 4) rfl (Or.inl rfl))
                                              · exact (ev_call c rfl Df_law_mixed (by decide) rfl (ag_cons (ev_name (i := 0) rfl (Or.inl rfl)) (ag_cons ev_int (ag_cons (ev_callB (id := "len") M.g_len rfl (by decide +kernel) (ag_cons (ev_name (i := 4) rfl (Or.inl rfl)) ag_nil se_Name) cl_len rfl rfl) ag_nil se_Call) se_Constant) se_Name) se_Name rfl)
                                              · exact (ixU (CxOk.room c).units)
                                              · exact (fun _ _ => rfl)
                                            · exact ag_nil
                                            · exact se_Subscript
                                          · exact se_Constant
                                  · exact sts_nil
                                · refine sts_cons ?_ ?_
                                  · refine st_if ?_ ?_ ?_
                                    · exact (ts_cmp (ev_name (i := 5) rfl (Or.inl rfl)) ev_int (bi_eqU (CxOk.room c).units) rfl)
                                    · refine sts_one ?_
                                      · refine st_ret ?_
                                        · refine ev_tup ?_
                                          · refine ag_cons ?_ ?_ ?_
                                            · exact ev_str
                                            · refine ag_cons ?_ ?_ ?_
                                              · exact (ev_frz (ev_name (i := 6) rfl (Or.inl rfl)))
                                              · refine ag_cons ?_ ?_ ?_
                                                · exact (ev_frz (ev_lst ag_nil))
                                                · exact ag_nil
                                                · exact se_List
                                              · exact se_Name
                                            · exact se_Constant
                                    · exact sts_nil
                                  · refine sts_one ?_
                                    · refine st_ret ?_
                                      · refine ev_tup ?_
                                        · refine ag_cons ?_ ?_ ?_
                                          · exact ev_str
                                          · refine ag_cons ?_ ?_ ?_
                                            · exact (ev_frz (ev_name (i := 6) rfl (Or.inl rfl)))
                                            · refine ag_cons ?_ ?_ ?_
                                              · exact (ev_frz (ev_call c rfl Df_law_will_of (by decide) rfl (ag_cons (ev_name (i := 2) rfl (Or.inl rfl)) (ag_cons (ev_name (i := 0) rfl (Or.inl rfl)) (ag_cons (ev_sub (ev_sub (ev_name (i := 1) rfl (Or.inl rfl)) ev_int (ixU (CxOk.room c).units) (fun _ _ => rfl)) ev_int (ixU (CxOk.room c).units) (fun _ _ => rfl)) ag_nil se_Subscript) se_Name) se_Name) se_Name rfl))
                                              · exact ag_nil
                                              · exact se_Call
                                            · exact se_Name
                                          · exact se_Constant
end
end Vt

namespace Vt
open PySem PySem.Spec PyProof.Rows L2
section
variable {P : Program} {w : World} {K : PySem.W.Frag} {mg : Str → Option Value} {base : Heap} {cm : Nat → Addr} {we : Addr} {f fI : Addr} {fd fdI : FuncData} {psI : List Str}
theorem okf_law_do (M : Txt K mg cm we) (F : Fun K "_law_do" "_law_do" sf_law_do f fd)  : FnOk P w K mg base (L2.CX P w) 1 f fd ["_law_world_here", "_law_deed"] (spF K cm 2 Ff_law_do) :=
  okF (k := 0) F scf_law_do (by decide) fun cdv A outer s H E B Ψ c hp hcm => by
    subst hcm
    exact (sts_cons (st_if (ts_cmp (ev_sub (ev_name (i := 1) rfl (Or.inl rfl)) ev_int (ixU (CxOk.room c).units) (fun _ _ => rfl)) ev_str (bi_eqU (CxOk.room c).units) rfl) (sts_cons (st_sub c (ev_bin (ev_lst (ag_cons ev_non ag_nil se_Constant)) (ev_sub (ev_name (i := 1) rfl (Or.inl rfl)) ev_int (ixU (CxOk.room c).units) (fun _ _ => rfl)) bi_mul) (ev_sub (ev_name (i := 0) rfl (Or.inl rfl)) ev_int (ixU (CxOk.room c).units) (fun _ _ => rfl)) (ev_sub (ev_sub (ev_name (i := 0) rfl (Or.inl rfl)) ev_int (ixU (CxOk.room c).units) (fun _ _ => rfl)) ev_int (ixU (CxOk.room c).units) (fun _ _ => rfl)) (fun _ => rfl) rfl rfl rfl) (sts_cons (st_sub c ev_bl (ev_sub (ev_name (i := 0) rfl (Or.inl rfl)) ev_int (ixU (CxOk.room c).units) (fun _ _ => rfl)) (ev_sub (ev_sub (ev_name (i := 0) rfl (Or.inl rfl)) ev_int (ixU (CxOk.room c).units) (fun _ _ => rfl)) ev_int (ixU (CxOk.room c).units) (fun _ _ => rfl)) (fun _ => rfl) rfl rfl rfl) (sts_one (st_sub c (ev_bin (ev_sub (ev_sub (ev_name (i := 0) rfl (Or.inl rfl)) ev_int (ixU (CxOk.room c).units) (fun _ _ => rfl)) ev_int (ixU (CxOk.room c).units) (fun _ _ => rfl)) ev_int bi_add) (ev_sub (ev_name (i := 0) rfl (Or.inl rfl)) ev_int (ixU (CxOk.room c).units) (fun _ _ => rfl)) ev_int (fun _ => rfl) rfl rfl rfl)))) sts_nil) (sts_cons (st_if (ts_cmp (ev_sub (ev_name (i := 1) rfl (Or.inl rfl)) ev_int (ixU (CxOk.room c).units) (fun _ _ => rfl)) ev_str (bi_eqU (CxOk.room c).units) rfl) (sts_one (st_sub c (ev_frz (ev_slice (ev_name (i := 1) rfl (Or.inl rfl)) (pt_some ev_int) pt_none)) (ev_sub (ev_sub (ev_name (i := 0) rfl (Or.inl rfl)) ev_int (ixU (CxOk.room c).units) (fun _ _ => rfl)) (ev_sub (ev_name (i := 1) rfl (Or.inl rfl)) ev_int (ixU (CxOk.room c).units) (fun _ _ => rfl)) (ixU (CxOk.room c).units) (fun _ _ => rfl)) (ev_sub (ev_name (i := 1) rfl (Or.inl rfl)) ev_int (ixU (CxOk.room c).units) (fun _ _ => rfl)) (fun _ => rfl) rfl rfl rfl)) sts_nil) (sts_cons (st_if (ts_cmp (ev_sub (ev_name (i := 1) rfl (Or.inl rfl)) ev_int (ixU (CxOk.room c).units) (fun _ _ => rfl)) ev_str (bi_eqU (CxOk.room c).units) rfl) (sts_one (st_sub c ev_non (ev_sub (ev_sub (ev_name (i := 0) rfl (Or.inl rfl)) ev_int (ixU (CxOk.room c).units) (fun _ _ => rfl)) (ev_sub (ev_name (i := 1) rfl (Or.inl rfl)) ev_int (ixU (CxOk.room c).units) (fun _ _ => rfl)) (ixU (CxOk.room c).units) (fun _ _ => rfl)) (ev_sub (ev_name (i := 1) rfl (Or.inl rfl)) ev_int (ixU (CxOk.room c).units) (fun _ _ => rfl)) (fun _ => rfl) rfl rfl rfl)) sts_nil) (sts_cons (st_if (ts_cmp (ev_sub (ev_name (i := 1) rfl (Or.inl rfl)) ev_int (ixU (CxOk.room c).units) (fun _ _ => rfl)) ev_str (bi_eqU (CxOk.room c).units) rfl) (sts_one (st_sub c ev_bl (ev_sub (ev_name (i := 0) rfl (Or.inl rfl)) ev_int (ixU (CxOk.room c).units) (fun _ _ => rfl)) (ev_sub (ev_name (i := 1) rfl (Or.inl rfl)) ev_int (ixU (CxOk.room c).units) (fun _ _ => rfl)) (fun _ => rfl) rfl rfl rfl)) sts_nil) (sts_cons (st_if (ts_cmp (ev_sub (ev_name (i := 1) rfl (Or.inl rfl)) ev_int (ixU (CxOk.room c).units) (fun _ _ => rfl)) ev_str (bi_eqU (CxOk.room c).units) rfl) (sts_one (st_expr (ev_dpop (ev_sub (ev_name (i := 0) rfl (Or.inl rfl)) ev_int (ixU (CxOk.room c).units) (fun _ _ => rfl)) (ev_sub (ev_name (i := 1) rfl (Or.inl rfl)) ev_int (ixU (CxOk.room c).units) (fun _ _ => rfl)) ⟨rfl, rfl, rfl, rfl⟩) rfl)) sts_nil) (sts_cons (st_if (ts_cmp (ev_sub (ev_name (i := 1) rfl (Or.inl rfl)) ev_int (ixU (CxOk.room c).units) (fun _ _ => rfl)) ev_str (bi_eqU (CxOk.room c).units) rfl) (sts_cons (st_sub c (ev_frz (ev_slice (ev_name (i := 1) rfl (Or.inl rfl)) (pt_some ev_int) pt_none)) (ev_sub (ev_name (i := 0) rfl (Or.inl rfl)) ev_int (ixU (CxOk.room c).units) (fun _ _ => rfl)) (ev_sub (ev_sub (ev_name (i := 0) rfl (Or.inl rfl)) ev_int (ixU (CxOk.room c).units) (fun _ _ => rfl)) ev_int (ixU (CxOk.room c).units) (fun _ _ => rfl)) (fun _ => rfl) rfl rfl rfl) (sts_one (st_sub c (ev_bin (ev_sub (ev_sub (ev_name (i := 0) rfl (Or.inl rfl)) ev_int (ixU (CxOk.room c).units) (fun _ _ => rfl)) ev_int (ixU (CxOk.room c).units) (fun _ _ => rfl)) ev_int bi_add) (ev_sub (ev_name (i := 0) rfl (Or.inl rfl)) ev_int (ixU (CxOk.room c).units) (fun _ _ => rfl)) ev_int (fun _ => rfl) rfl rfl rfl))) sts_nil) (sts_cons (st_if (ts_cmp (ev_sub (ev_name (i := 1) rfl (Or.inl rfl)) ev_int (ixU (CxOk.room c).units) (fun _ _ => rfl)) ev_str (bi_eqU (CxOk.room c).units) rfl) (sts_one (st_expr (ev_dpop (ev_sub (ev_name (i := 0) rfl (Or.inl rfl)) ev_int (ixU (CxOk.room c).units) (fun _ _ => rfl)) (ev_sub (ev_name (i := 1) rfl (Or.inl rfl)) ev_int (ixU (CxOk.room c).units) (fun _ _ => rfl)) ⟨rfl, rfl, rfl, rfl⟩) rfl)) sts_nil) (sts_one (st_if (ts_cmp (ev_sub (ev_name (i := 1) rfl (Or.inl rfl)) ev_int (ixU (CxOk.room c).units) (fun _ _ => rfl)) ev_str (bi_eqU (CxOk.room c).units) rfl) (sts_cons (st_sub c (ev_frz (ev_callTy (T := "list") M.g_list rfl (by decide +kernel) (ag_cons (ev_sub (ev_name (i := 1) rfl (Or.inl rfl)) ev_int (ixU (CxOk.room c).units) (fun _ _ => rfl)) ag_nil se_Subscript) (cl_list c) rfl rfl)) (ev_sub (ev_name (i := 0) rfl (Or.inl rfl)) ev_int (ixU (CxOk.room c).units) (fun _ _ => rfl)) (ev_sub (ev_name (i := 1) rfl (Or.inl rfl)) ev_int (ixU (CxOk.room c).units) (fun _ _ => rfl)) (fun _ => rfl) rfl rfl rfl) (sts_one (st_if (ts_cmp (ev_callB (id := "len") M.g_len rfl (by decide +kernel) (ag_cons (ev_sub (ev_name (i := 1) rfl (Or.inl rfl)) ev_int (ixU (CxOk.room c).units) (fun _ _ => rfl)) ag_nil se_Subscript) cl_len rfl rfl) ev_int (bi_eqU (CxOk.room c).units) rfl) (sts_one (st_expr (ev_dpop (ev_sub (ev_name (i := 0) rfl (Or.inl rfl)) ev_int (ixU (CxOk.room c).units) (fun _ _ => rfl)) (ev_sub (ev_name (i := 1) rfl (Or.inl rfl)) ev_int (ixU (CxOk.room c).units) (fun _ _ => rfl)) ⟨rfl, rfl, rfl, rfl⟩) rfl)) sts_nil))) sts_nil)))))))))
end
end Vt

namespace Vt
open PySem PySem.Spec PyProof.Rows L2
section
variable {P : Program} {w : World} {K : PySem.W.Frag} {mg : Str → Option Value} {base : Heap} {cm : Nat → Addr} {we : Addr} {f fI : Addr} {fd fdI : FuncData} {psI : List Str}
theorem okf_law_known (M : Txt K mg cm we) (F : Fun K "_law_known" "_law_known" sf_law_known f fd)  : FnOk P w K mg base (L2.CX P w) 1 f fd ["_law_world_here"] (spF K cm 1 Ff_law_known) :=
  okF (k := 0) F scf_law_known (by decide) fun cdv A outer s H E B Ψ c hp hcm => by
    subst hcm
    exact (sts_cons (st_set (i := 1) c rfl (Or.inr rfl) ev_dct rfl (Or.inl rfl) (hp 1 (by decide))) (sts_cons (st_forD c (fun d1 o1 hn1 => (ev_sub (ev_name (i := 0) rfl (Or.inl rfl)) ev_int (ixU (CxOk.room c).units) (fun _ _ => rfl))) (fun d1 o1 hn1 => (tg_name (i := 2) (CxOk.lk c hn1) rfl (Or.inl rfl) (Or.inl rfl) (hp 2 (by decide)))) (fun d1 o1 hn1 => (sts_one (st_sub (CxOk.lk c hn1) ev_bl (ev_name (i := 1) rfl (Or.inr (Or.inl rfl))) (ev_name (i := 2) rfl (Or.inl rfl)) (fun _ => rfl) rfl rfl rfl))) (fun _ => rfl)) (sts_cons (st_set (i := 3) c rfl (Or.inl rfl) ev_bl rfl (Or.inl rfl) (hp 3 (by decide))) (sts_cons (st_while c (ts_tru (ev_name (i := 3) rfl (Or.inl rfl)) (fun _ => rfl)) (sts_cons (st_set (i := 3) c rfl (Or.inl rfl) ev_bl rfl (Or.inl rfl) (hp 3 (by decide))) (sts_cons (st_setLc (i := 4) c (lc_L (own := [("_law_one", 5)]) c (blkOk_by (N := nf_law_known) (sc := defScope sf_law_known) (by decide +kernel)) rfl (tgt_name (i := 5) (fun s H C cl fp => pg_name scf_law_known.nd rfl (Or.inl rfl)) (hp 5 (by decide))) (ev_vals c rfl M.g_list (ev_sub (ev_name (i := 0) rfl (Or.inl rfl)) ev_int (ixU (CxOk.room c).units) (fun _ _ => rfl)) rfl rfl rfl) (fun s1 H1 C1 cl1 fp1 => (tss_one (ts_w (tw_and (ts_cmp (ev_sub (ev_name (i := 5) rfl (Or.inl rfl)) ev_int (ixU (CxOk.room c).units) (fun _ _ => rfl)) (ev_name (i := 1) rfl (Or.inr (Or.inl rfl))) (bi_inU (CxOk.room c).units) rfl) (tw_one (ts_cmp (ev_sub (ev_name (i := 5) rfl (Or.inl rfl)) ev_int (ixU (CxOk.room c).units) (fun _ _ => rfl)) (ev_name (i := 1) rfl (Or.inr (Or.inl rfl))) (bi_inU (CxOk.room c).units) rfl)))))) (fun s1 H1 C1 cl1 fp1 => (ev_sub (ev_name (i := 5) rfl (Or.inl rfl)) ev_int (ixU (CxOk.room c).units) (fun _ _ => rfl))) (fun _ => rfl)) rfl rfl rfl (hp 4 (by decide))) (sts_cons (st_forL c (ev_callTy (T := "list") M.g_list rfl (by decide +kernel) (ag_cons (ev_name (i := 1) rfl (Or.inr (Or.inl rfl))) ag_nil se_Name) (cl_list c) rfl rfl) (tg_name (i := 2) c rfl (Or.inl rfl) (Or.inl rfl) (hp 2 (by decide))) (sts_one (st_set (i := 4) c rfl (Or.inl rfl) (ev_bin (ev_name (i := 4) rfl (Or.inl rfl)) (ev_lc c (lc_L (own := [("_law_one", 5)]) c (blkOk_by (N := nf_law_known) (sc := defScope sf_law_known) (by decide +kernel)) rfl (tgt_name (i := 5) (fun s H C cl fp => pg_name scf_law_known.nd rfl (Or.inl rfl)) (hp 5 (by decide))) (ev_sub (ev_sub (ev_name (i := 0) rfl (Or.inl rfl)) ev_int (ixU (CxOk.room c).units) (fun _ _ => rfl)) (ev_name (i := 2) rfl (Or.inl rfl)) (ixU (CxOk.room c).units) (fun _ _ => rfl)) (fun s1 H1 C1 cl1 fp1 => (tss_one (ts_w (tw_and (ts_cmp (ev_name (i := 5) rfl (Or.inl rfl)) ev_non bi_notN rfl) (tw_one (ts_tru (ev_sub (ev_name (i := 5) rfl (Or.inl rfl)) ev_int (ixU (CxOk.room c).units) (fun _ _ => rfl)) (fun _ => rfl))))))) (fun s1 H1 C1 cl1 fp1 => (ev_sub (ev_name (i := 5) rfl (Or.inl rfl)) ev_int (ixU (CxOk.room c).units) (fun _ _ => rfl))) (fun _ => rfl))) bi_add) rfl (Or.inl rfl) (hp 4 (by decide)))) (fun _ => rfl)) (sts_one (st_forL c (ev_name (i := 4) rfl (Or.inl rfl)) (tg_name (i := 2) c rfl (Or.inl rfl) (Or.inl rfl) (hp 2 (by decide))) (sts_one (st_if (ts_cmp (ev_name (i := 2) rfl (Or.inl rfl)) (ev_name (i := 1) rfl (Or.inr (Or.inl rfl))) (bi_ninU (CxOk.room c).units) rfl) (sts_cons (st_sub c ev_bl (ev_name (i := 1) rfl (Or.inr (Or.inl rfl))) (ev_name (i := 2) rfl (Or.inl rfl)) (fun _ => rfl) rfl rfl rfl) (sts_one (st_set (i := 3) c rfl (Or.inl rfl) ev_bl rfl (Or.inl rfl) (hp 3 (by decide))))) sts_nil)) (fun _ => rfl))))))) (sts_one (st_ret (ev_mov (ev_name (i := 1) rfl (Or.inr (Or.inl rfl))))))))))
end
end Vt

namespace Vt
open PySem PySem.Spec PyProof.Rows L2
section
variable {P : Program} {w : World} {K : PySem.W.Frag} {mg : Str → Option Value} {base : Heap} {cm : Nat → Addr} {we : Addr} {f fI : Addr} {fd fdI : FuncData} {psI : List Str}
theorem okf_law_laid (M : Txt K mg cm we) (F : Fun K "_law_laid" "_law_laid" sf_law_laid f fd) (Df_law_mixed : DefF P w K mg base cm "_law_mixed" 1 3 Ff_law_mixed) : FnOk P w K mg base (L2.CX P w) 2 f fd ["_law_far"] (spF K cm 1 Ff_law_laid) :=
  okF (k := 1) F scf_law_laid (by decide) fun cdv A outer s H E B Ψ c hp hcm => by
    subst hcm
    refine sts_cons ?_ ?_
    · refine st_set (i := 1) (W := fun cls d _ H => E cls d H) (k := 1) ?_ ?_ ?_ ?_ ?_ ?_ ?_
      · exact c
      · exact rfl
      · exact (Or.inl rfl)
      · refine ev_bin ?_ ?_ ?_
        · exact ev_int
        · refine ev_bin ?_ ?_ ?_
          · exact (ev_name (i := 0) rfl (Or.inl rfl))
          · exact ev_int
          · exact bi_mod
        · exact bi_add
      · exact rfl
      · exact (Or.inl rfl)
      · exact (hp 1 (by decide))
    · refine sts_cons ?_ ?_
      · refine st_if ?_ ?_ ?_
        · exact (ts_cmp (ev_bin (ev_bin (ev_name (i := 0) rfl (Or.inl rfl)) ev_int bi_fdiv) ev_int bi_mod) ev_int (bi_eqU (CxOk.room c).units) rfl)
        · refine sts_one ?_
          · refine st_set (i := 1) (W := fun cls d _ H => E cls d H) (k := 1) ?_ ?_ ?_ ?_ ?_ ?_ ?_
            · exact c
            · exact rfl
            · exact (Or.inl rfl)
            · refine ev_bin ?_ ?_ ?_
              · exact ev_int
              · refine ev_bin ?_ ?_ ?_
                · refine ev_bin ?_ ?_ ?_
                  · exact (ev_name (i := 0) rfl (Or.inl rfl))
                  · exact ev_int
                  · exact bi_fdiv
                · exact ev_int
                · exact bi_mod
              · exact bi_add
            · exact rfl
            · exact (Or.inl rfl)
            · exact (hp 1 (by decide))
        · exact sts_nil
      · refine sts_cons ?_ ?_
        · exact (st_setLc (i := 2) c (lc_1 (own := [("_law_box", 3)]) c (blkOk_by (N := nf_law_laid) (sc := defScope sf_law_laid) (by decide +kernel)) rfl (tgt_name (i := 3) (fun s H C cl fp => pg_name scf_law_laid.nd rfl (Or.inl rfl)) (hp 3 (by decide))) M.g_range rfl (ev_name (i := 1) rfl (Or.inl rfl)) (fun s1 H1 C1 cl1 fp1 => tss_nil) (fun s1 H1 C1 cl1 fp1 => (ev_tup (ag_cons ev_str (ag_cons ev_int ag_nil se_Constant) se_Constant))) rfl (fun _ => rfl)) rfl rfl rfl (hp 2 (by decide)))
        · refine sts_cons ?_ ?_
          · refine st_set (i := 4) (W := fun cls d _ H => E cls d H) (k := 1) ?_ ?_ ?_ ?_ ?_ ?_ ?_
            · exact c
            · exact rfl
            · exact (Or.inl rfl)
            · refine ev_sub ?_ ?_ ?_ ?_
              · refine ev_lst ?_
                · refine ag_cons ?_ ?_ ?_
                  · exact ev_int
                  · refine ag_cons ?_ ?_ ?_
                    · exact (ev_un ev_int un_negF)
                    · refine ag_cons ?_ ?_ ?_
                      · exact ev_int
                      · refine ag_cons ?_ ?_ ?_
                        · refine ev_bin ?_ ?_ ?_
                          · exact (ev_name (i := 1) rfl (Or.inl rfl))
                          · exact ev_int
                          · exact bi_sub
                        · exact ag_nil
                        · exact se_BinOp
                      · exact se_Constant
                    · exact se_UnaryOp
                  · exact se_Constant
              · refine ev_bin ?_ ?_ ?_
                · refine ev_bin ?_ ?_ ?_
                  · exact (ev_name (i := 0) rfl (Or.inl rfl))
                  · exact ev_int
                  · exact bi_fdiv
                · exact ev_int
                · exact bi_mod
              · exact (ixU (CxOk.room c).units)
              · exact (fun _ _ => rfl)
            · exact rfl
            · exact (Or.inl rfl)
            · exact (hp 4 (by decide))
          · refine sts_cons ?_ ?_
            · refine st_for1 (W := fun cls d _ H => E cls d H) (k := 1) ?_ ?_ ?_ ?_ ?_ ?_ ?_ ?_
              · exact c
              · exact M.g_range
              · exact rfl
              · exact (ev_name (i := 1) rfl (Or.inl rfl))
              · exact (tg_name (i := 3) c rfl (Or.inl rfl) (Or.inl rfl) (hp 3 (by decide)))
              · refine sts_cons ?_ ?_
                · refine st_set (i := 5) (W := fun cls d _ H => E cls d H) (k := 1) ?_ ?_ ?_ ?_ ?_ ?_ ?_
                  · exact c
                  · exact rfl
                  · exact (Or.inl rfl)
                  · refine ev_bin ?_ ?_ ?_
                    · refine ev_bin ?_ ?_ ?_
                      · exact (ev_name (i := 3) rfl (Or.inl rfl))
                      · exact (ev_name (i := 4) rfl (Or.inl rfl))
                      · exact bi_add
                    · exact (ev_name (i := 1) rfl (Or.inl rfl))
                    · exact bi_mod
                  · exact rfl
                  · exact (Or.inl rfl)
                  · exact (hp 5 (by decide))
                · refine sts_cons ?_ ?_
                  · refine st_set (i := 6) (W := fun cls d _ H => E cls d H) (k := 1) ?_ ?_ ?_ ?_ ?_ ?_ ?_
                    · exact c
                    · exact rfl
                    · exact (Or.inl rfl)
                    · exact (ev_call c rfl Df_law_mixed (by decide) rfl (ag_cons (ev_name (i := 0) rfl (Or.inl rfl)) (ag_cons (ev_name (i := 3) rfl (Or.inl rfl)) (ag_cons ev_int ag_nil se_Constant) se_Name) se_Name) se_Name rfl)
                    · exact rfl
                    · exact (Or.inl rfl)
                    · exact (hp 6 (by decide))
                  · refine sts_cons ?_ ?_
                    · refine st_if ?_ ?_ ?_
                      · exact (ts_cmp (ev_name (i := 6) rfl (Or.inl rfl)) ev_int (bi_eqU (CxOk.room c).units) rfl)
                      · refine sts_one ?_
                        · refine st_expr ?_ ?_
                          · exact (ev_bm PySem.F.plainAttrs_list PySem.F.slot_list_append PySem.F.type_list_append (ev_name (i := 2) rfl (Or.inl rfl)) (ag_cons (ev_frz (ev_tup (ag_cons ev_str (ag_cons (ev_bin (ev_call c rfl Df_law_mixed (by decide) rfl (ag_cons (ev_name (i := 0) rfl (Or.inl rfl)) (ag_cons (ev_bin (ev_name (i := 3) rfl (Or.inl rfl)) ev_int bi_add) (ag_cons ev_int ag_nil se_Constant) se_BinOp) se_Name) se_Name rfl) (ev_bin (ev_name (i := 1) rfl (Or.inl rfl)) ev_int bi_sub) bi_mul) (ag_cons (ev_frz (ev_name (i := 3) rfl (Or.inl rfl))) (ag_cons (ev_frz (ev_name (i := 5) rfl (Or.inl rfl))) ag_nil se_Name) se_Name) se_BinOp) se_Constant))) ag_nil se_Tuple) mt_appendF rfl rfl rfl rfl rfl)
                          · exact rfl
                      · refine sts_one ?_
                        · refine st_expr ?_ ?_
                          · exact (ev_bm PySem.F.plainAttrs_list PySem.F.slot_list_append PySem.F.type_list_append (ev_name (i := 2) rfl (Or.inl rfl)) (ag_cons (ev_frz (ev_tup (ag_cons ev_str (ag_cons (ev_frz (ev_name (i := 3) rfl (Or.inl rfl))) (ag_cons (ev_call c rfl Df_law_mixed (by decide) rfl (ag_cons (ev_name (i := 0) rfl (Or.inl rfl)) (ag_cons (ev_bin (ev_name (i := 3) rfl (Or.inl rfl)) ev_int bi_add) (ag_cons ev_int ag_nil se_Constant) se_BinOp) se_Name) se_Name rfl) (ag_cons (ev_frz (ev_name (i := 5) rfl (Or.inl rfl))) (ag_cons (ev_cmp (ev_name (i := 6) rfl (Or.inl rfl)) ev_int bi_gt rfl) ag_nil se_Compare) se_Name) se_Call) se_Name) se_Constant))) ag_nil se_Tuple) mt_appendF rfl rfl rfl rfl rfl)
                          · exact rfl
                    · refine sts_one ?_
                      · refine st_if ?_ ?_ ?_
                        · exact (ts_cmp (ev_call c rfl Df_law_mixed (by decide) rfl (ag_cons (ev_name (i := 0) rfl (Or.inl rfl)) (ag_cons (ev_bin (ev_name (i := 3) rfl (Or.inl rfl)) ev_int bi_add) (ag_cons ev_int ag_nil se_Constant) se_BinOp) se_Name) se_Name rfl) ev_int (bi_eqU (CxOk.room c).units) rfl)
                        · refine sts_cons ?_ ?_
                          · refine st_set (i := 7) (W := fun cls d _ H => E cls d H) (k := 1) ?_ ?_ ?_ ?_ ?_ ?_ ?_
                            · exact c
                            · exact rfl
                            · exact (Or.inl rfl)
                            · refine ev_sub ?_ ?_ ?_ ?_
                              · refine ev_lst ?_
                                · refine ag_cons ?_ ?_ ?_
                                  · refine ev_lst ?_
                                    · refine ag_cons ?_ ?_ ?_
                                      · refine ev_tup ?_
                                        · refine ag_cons ?_ ?_ ?_
                                          · exact ev_str
                                          · refine ag_cons ?_ ?_ ?_
                                            · refine ev_bin ?_ ?_ ?_
                                              · refine ev_bin ?_ ?_ ?_
                                                · exact (ev_name (i := 3) rfl (Or.inl rfl))
                                                · exact ev_int
                                                · exact bi_add
                                              · exact (ev_name (i := 1) rfl (Or.inl rfl))
                                              · exact bi_mod
                                            · refine ag_cons ?_ ?_ ?_
                                              · exact ev_int
                                              · refine ag_cons ?_ ?_ ?_
                                                · exact (ev_cmp (ev_name (i := 6) rfl (Or.inl rfl)) ev_int bi_gt rfl)
                                                · exact ag_nil
                                                · exact se_Compare
                                              · exact se_Constant
                                            · exact se_BinOp
                                          · exact se_Constant
                                      · exact ag_nil
                                      · exact se_Tuple
                                  · refine ag_cons ?_ ?_ ?_
                                    · refine ev_lst ?_
                                      · refine ag_cons ?_ ?_ ?_
                                        · refine ev_tup ?_
                                          · refine ag_cons ?_ ?_ ?_
                                            · exact ev_str
                                            · exact ag_nil
                                            · exact se_Constant
                                        · exact ag_nil
                                        · exact se_Tuple
                                    · refine ag_cons ?_ ?_ ?_
                                      · refine ev_lst ?_
                                        · refine ag_cons ?_ ?_ ?_
                                          · refine ev_tup ?_
                                            · refine ag_cons ?_ ?_ ?_
                                              · exact ev_str
                                              · refine ag_cons ?_ ?_ ?_
                                                · exact ev_int
                                                · exact ag_nil
                                                · exact se_Constant
                                              · exact se_Constant
                                          · exact ag_nil
                                          · exact se_Tuple
                                      · exact ag_nil
                                      · exact se_List
                                    · exact se_List
                                  · exact se_List
                              · refine ev_bin ?_ ?_ ?_
                                · exact (ev_name (i := 6) rfl (Or.inl rfl))
                                · exact ev_int
                                · exact bi_mod
                              · exact (ixU (CxOk.room c).units)
                              · exact (fun _ _ => rfl)
                            · exact rfl
                            · exact (Or.inl rfl)
                            · exact (hp 7 (by decide))
                          · refine sts_one ?_
                            · refine st_expr ?_ ?_
                              · exact (ev_bm PySem.F.plainAttrs_list PySem.F.slot_list_append PySem.F.type_list_append (ev_name (i := 2) rfl (Or.inl rfl)) (ag_cons (ev_frz (ev_tup (ag_cons ev_str (ag_cons (ev_frz (ev_name (i := 3) rfl (Or.inl rfl))) (ag_cons (ev_frz (ev_name (i := 7) rfl (Or.inl rfl))) ag_nil se_Name) se_Name) se_Constant))) ag_nil se_Tuple) mt_appendF rfl rfl rfl rfl rfl)
                              · exact rfl
                        · exact sts_nil
              · exact rfl
              · exact (fun _ => rfl)
            · refine sts_cons ?_ ?_
              · refine st_for1 (W := fun cls d _ H => E cls d H) (k := 1) ?_ ?_ ?_ ?_ ?_ ?_ ?_ ?_
                · exact c
                · exact M.g_range
                · exact rfl
                · exact (ev_name (i := 1) rfl (Or.inl rfl))
                · exact (tg_name (i := 3) c rfl (Or.inl rfl) (Or.inl rfl) (hp 3 (by decide)))
                · refine sts_one ?_
                  · refine st_if ?_ ?_ ?_
                    · exact (ts_cmp (ev_call c rfl Df_law_mixed (by decide) rfl (ag_cons (ev_name (i := 0) rfl (Or.inl rfl)) (ag_cons (ev_bin (ev_name (i := 3) rfl (Or.inl rfl)) ev_int bi_add) (ag_cons ev_int ag_nil se_Constant) se_BinOp) se_Name) se_Name rfl) ev_int bi_gt rfl)
                    · refine sts_one ?_
                      · refine st_expr ?_ ?_
                        · exact (ev_bm PySem.F.plainAttrs_list PySem.F.slot_list_append PySem.F.type_list_append (ev_name (i := 2) rfl (Or.inl rfl)) (ag_cons (ev_frz (ev_tup (ag_cons ev_str (ag_cons (ev_frz (ev_name (i := 3) rfl (Or.inl rfl))) ag_nil se_Name) se_Constant))) ag_nil se_Tuple) mt_appendF rfl rfl rfl rfl rfl)
                        · exact rfl
                    · exact sts_nil
                · exact rfl
                · exact (fun _ => rfl)
              · refine sts_cons ?_ ?_
                · refine st_if ?_ ?_ ?_
                  · exact (ts_cmp (ev_bin (ev_bin (ev_name (i := 0) rfl (Or.inl rfl)) ev_int bi_fdiv) ev_int bi_mod) ev_int (bi_eqU (CxOk.room c).units) rfl)
                  · refine sts_cons ?_ ?_
                    · refine st_set (i := 2) (W := fun cls d _ H => E cls d H) (k := 1) ?_ ?_ ?_ ?_ ?_ ?_ ?_
                      · exact c
                      · exact rfl
                      · exact (Or.inl rfl)
                      · refine ev_bin ?_ ?_ ?_
                        · exact (ev_name (i := 2) rfl (Or.inl rfl))
                        · refine ev_lst ?_
                          · refine ag_cons ?_ ?_ ?_
                            · refine ev_tup ?_
                              · refine ag_cons ?_ ?_ ?_
                                · exact ev_str
                                · refine ag_cons ?_ ?_ ?_
                                  · exact ev_int
                                  · exact ag_nil
                                  · exact se_Constant
                                · exact se_Constant
                            · refine ag_cons ?_ ?_ ?_
                              · refine ev_tup ?_
                                · refine ag_cons ?_ ?_ ?_
                                  · exact ev_str
                                  · refine ag_cons ?_ ?_ ?_
                                    · exact ev_int
                                    · exact ag_nil
                                    · exact se_Constant
                                  · exact se_Constant
                              · refine ag_cons ?_ ?_ ?_
                                · refine ev_tup ?_
                                  · refine ag_cons ?_ ?_ ?_
                                    · exact ev_str
                                    · refine ag_cons ?_ ?_ ?_
                                      · exact ev_int
                                      · exact ag_nil
                                      · exact se_Constant
                                    · exact se_Constant
                                · refine ag_cons ?_ ?_ ?_
                                  · refine ev_tup ?_
                                    · refine ag_cons ?_ ?_ ?_
                                      · exact ev_str
                                      · refine ag_cons ?_ ?_ ?_
                                        · exact (ev_frz (ev_name (i := 1) rfl (Or.inl rfl)))
                                        · refine ag_cons ?_ ?_ ?_
                                          · refine ev_bin ?_ ?_ ?_
                                            · exact (ev_name (i := 1) rfl (Or.inl rfl))
                                            · exact ev_int
                                            · exact bi_add
                                          · refine ag_cons ?_ ?_ ?_
                                            · refine ev_bin ?_ ?_ ?_
                                              · exact (ev_name (i := 1) rfl (Or.inl rfl))
                                              · exact ev_int
                                              · exact bi_add
                                            · exact ag_nil
                                            · exact se_BinOp
                                          · exact se_BinOp
                                        · exact se_Name
                                      · exact se_Constant
                                  · exact ag_nil
                                  · exact se_Tuple
                                · exact se_Tuple
                              · exact se_Tuple
                            · exact se_Tuple
                        · exact bi_add
                      · exact rfl
                      · exact (Or.inl rfl)
                      · exact (hp 2 (by decide))
                    · refine sts_cons ?_ ?_
                      · refine st_set (i := 2) (W := fun cls d _ H => E cls d H) (k := 1) ?_ ?_ ?_ ?_ ?_ ?_ ?_
                        · exact c
                        · exact rfl
                        · exact (Or.inl rfl)
                        · refine ev_bin ?_ ?_ ?_
                          · exact (ev_name (i := 2) rfl (Or.inl rfl))
                          · refine ev_lst ?_
                            · refine ag_cons ?_ ?_ ?_
                              · refine ev_tup ?_
                                · refine ag_cons ?_ ?_ ?_
                                  · exact ev_str
                                  · refine ag_cons ?_ ?_ ?_
                                    · refine ev_bin ?_ ?_ ?_
                                      · exact (ev_name (i := 1) rfl (Or.inl rfl))
                                      · exact ev_int
                                      · exact bi_add
                                    · refine ag_cons ?_ ?_ ?_
                                      · exact (ev_frz (ev_lst (ag_cons (ev_tup (ag_cons ev_str ag_nil se_Constant)) (ag_cons (ev_tup (ag_cons ev_str (ag_cons (ev_frz (ev_name (i := 1) rfl (Or.inl rfl))) ag_nil se_Name) se_Constant)) ag_nil se_Tuple) se_Tuple)))
                                      · exact ag_nil
                                      · exact se_List
                                    · exact se_BinOp
                                  · exact se_Constant
                              · refine ag_cons ?_ ?_ ?_
                                · refine ev_tup ?_
                                  · refine ag_cons ?_ ?_ ?_
                                    · exact ev_str
                                    · refine ag_cons ?_ ?_ ?_
                                      · refine ev_bin ?_ ?_ ?_
                                        · exact (ev_name (i := 1) rfl (Or.inl rfl))
                                        · exact ev_int
                                        · exact bi_add
                                      · exact ag_nil
                                      · exact se_BinOp
                                    · exact se_Constant
                                · refine ag_cons ?_ ?_ ?_
                                  · refine ev_tup ?_
                                    · refine ag_cons ?_ ?_ ?_
                                      · exact ev_str
                                      · refine ag_cons ?_ ?_ ?_
                                        · refine ev_bin ?_ ?_ ?_
                                          · exact (ev_name (i := 1) rfl (Or.inl rfl))
                                          · exact ev_int
                                          · exact bi_add
                                        · exact ag_nil
                                        · exact se_BinOp
                                      · exact se_Constant
                                  · exact ag_nil
                                  · exact se_Tuple
                                · exact se_Tuple
                              · exact se_Tuple
                          · exact bi_add
                        · exact rfl
                        · exact (Or.inl rfl)
                        · exact (hp 2 (by decide))
                      · refine sts_one ?_
                        · refine st_set (i := 2) (W := fun cls d _ H => E cls d H) (k := 1) ?_ ?_ ?_ ?_ ?_ ?_ ?_
                          · exact c
                          · exact rfl
                          · exact (Or.inl rfl)
                          · refine ev_bin ?_ ?_ ?_
                            · exact (ev_name (i := 2) rfl (Or.inl rfl))
                            · refine ev_lst ?_
                              · refine ag_cons ?_ ?_ ?_
                                · refine ev_tup ?_
                                  · refine ag_cons ?_ ?_ ?_
                                    · exact ev_str
                                    · refine ag_cons ?_ ?_ ?_
                                      · refine ev_bin ?_ ?_ ?_
                                        · exact (ev_name (i := 1) rfl (Or.inl rfl))
                                        · exact ev_int
                                        · exact bi_add
                                      · refine ag_cons ?_ ?_ ?_
                                        · exact ev_int
                                        · refine ag_cons ?_ ?_ ?_
                                          · exact (ev_frz (ev_name (i := 1) rfl (Or.inl rfl)))
                                          · refine ag_cons ?_ ?_ ?_
                                            · exact (ev_cmp (ev_bin (ev_bin (ev_name (i := 0) rfl (Or.inl rfl)) ev_int bi_fdiv) ev_int bi_mod) ev_int (bi_eqU (CxOk.room c).units) rfl)
                                            · exact ag_nil
                                            · exact se_Compare
                                          · exact se_Name
                                        · exact se_Constant
                                      · exact se_BinOp
                                    · exact se_Constant
                                · exact ag_nil
                                · exact se_Tuple
                            · exact bi_add
                          · exact rfl
                          · exact (Or.inl rfl)
                          · exact (hp 2 (by decide))
                  · exact sts_nil
                · refine sts_one ?_
                  · refine st_ret ?_
                    · exact (ev_mov (ev_name (i := 2) rfl (Or.inl rfl)))
end
end Vt

namespace Vt
open PySem PySem.Spec PyProof.Rows L2
section
variable {P : Program} {w : World} {K : PySem.W.Frag} {mg : Str → Option Value} {base : Heap} {cm : Nat → Addr} {we : Addr} {f fI : Addr} {fd fdI : FuncData} {psI : List Str}
theorem okf_law_lost (M : Txt K mg cm we) (F : Fun K "_law_lost" "_law_lost" sf_law_lost f fd) (Df_law_known : DefF P w K mg base cm "_law_known" 1 1 Ff_law_known) : FnOk P w K mg base (L2.CX P w) 2 f fd ["_law_world_here"] (spF K cm 1 Ff_law_lost) :=
  okF (k := 1) F scf_law_lost (by decide) fun cdv A outer s H E B Ψ c hp hcm => by
    subst hcm
    exact (sts_cons (st_set (i := 1) c rfl (Or.inr rfl) (ev_call c rfl Df_law_known (by decide) rfl (ag_cons (ev_name (i := 0) rfl (Or.inl rfl)) ag_nil se_Name) se_Name rfl) rfl (Or.inl rfl) (hp 1 (by decide))) (sts_one (st_ret (ev_lc c (lc_L (own := [("_law_box", 2)]) c (blkOk_by (N := nf_law_lost) (sc := defScope sf_law_lost) (by decide +kernel)) rfl (tgt_name (i := 2) (fun s H C cl fp => pg_name scf_law_lost.nd rfl (Or.inl rfl)) (hp 2 (by decide))) (ev_callB (id := "sorted") M.g_sorted rfl (by decide +kernel) (ag_cons (ev_sub (ev_name (i := 0) rfl (Or.inl rfl)) ev_int (ixU (CxOk.room c).units) (fun _ _ => rfl)) ag_nil se_Subscript) (cl_sorted c) rfl rfl) (fun s1 H1 C1 cl1 fp1 => (tss_one (ts_cmp (ev_name (i := 2) rfl (Or.inl rfl)) (ev_name (i := 1) rfl (Or.inr (Or.inl rfl))) (bi_ninU (CxOk.room c).units) rfl))) (fun s1 H1 C1 cl1 fp1 => (ev_frz (ev_name (i := 2) rfl (Or.inl rfl)))) (fun _ => rfl))))))
end
end Vt

namespace Vt
open PySem PySem.Spec PyProof.Rows L2
section
variable {P : Program} {w : World} {K : PySem.W.Frag} {mg : Str → Option Value} {base : Heap} {cm : Nat → Addr} {we : Addr} {f fI : Addr} {fd fdI : FuncData} {psI : List Str}
theorem okf_law_mixed (M : Txt K mg cm we) (F : Fun K "_law_mixed" "_law_mixed" sf_law_mixed f fd)  : FnOk P w K mg base (L2.CX P w) 1 f fd ["_law_cell", "_law_k", "_law_many"] (spF K cm 3 Ff_law_mixed) :=
  okF (k := 0) F scf_law_mixed (by decide) fun cdv A outer s H E B Ψ c hp hcm => by
    subst hcm
    refine sts_cons ?_ ?_
    · refine st_set (i := 3) (W := fun cls d _ H => E cls d H) (k := 0) ?_ ?_ ?_ ?_ ?_ ?_ ?_
      · exact c
      · exact rfl
      · exact (Or.inl rfl)
      · refine ev_lst ?_
        · refine ag_cons ?_ ?_ ?_
          · exact ev_int
          · refine ag_cons ?_ ?_ ?_
            · exact ev_int
            · refine ag_cons ?_ ?_ ?_
              · exact ev_int
              · refine ag_cons ?_ ?_ ?_
                · exact ev_int
                · refine ag_cons ?_ ?_ ?_
                  · exact ev_int
                  · refine ag_cons ?_ ?_ ?_
                    · exact ev_int
                    · refine ag_cons ?_ ?_ ?_
                      · exact ev_int
                      · refine ag_cons ?_ ?_ ?_
                        · exact ev_int
                        · refine ag_cons ?_ ?_ ?_
                          · exact ev_int
                          · refine ag_cons ?_ ?_ ?_
                            · exact ev_int
                            · refine ag_cons ?_ ?_ ?_
                              · exact ev_int
                              · exact ag_nil
                              · exact se_Constant
                            · exact se_Constant
                          · exact se_Constant
                        · exact se_Constant
                      · exact se_Constant
                    · exact se_Constant
                  · exact se_Constant
                · exact se_Constant
              · exact se_Constant
            · exact se_Constant
          · exact se_Constant
      · exact rfl
      · exact (Or.inl rfl)
      · exact (hp 3 (by decide))
    · refine sts_cons ?_ ?_
      · refine st_set (i := 4) (W := fun cls d _ H => E cls d H) (k := 0) ?_ ?_ ?_ ?_ ?_ ?_ ?_
        · exact c
        · exact rfl
        · exact (Or.inl rfl)
        · refine ev_bin ?_ ?_ ?_
          · refine ev_bin ?_ ?_ ?_
            · refine ev_bin ?_ ?_ ?_
              · exact (ev_name (i := 0) rfl (Or.inl rfl))
              · refine ev_bin ?_ ?_ ?_
                · exact ev_int
                · exact (ev_name (i := 1) rfl (Or.inl rfl))
                · exact bi_mul
              · exact bi_add
            · exact ev_int
            · exact bi_mul
          · refine ev_sub ?_ ?_ ?_ ?_
            · exact (ev_name (i := 3) rfl (Or.inl rfl))
            · refine ev_bin ?_ ?_ ?_
              · exact (ev_name (i := 1) rfl (Or.inl rfl))
              · exact ev_int
              · exact bi_mod
            · exact (ixU (CxOk.room c).units)
            · exact (fun _ _ => rfl)
          · exact bi_mod
        · exact rfl
        · exact (Or.inl rfl)
        · exact (hp 4 (by decide))
      · refine sts_one ?_
        · refine st_ret ?_
          · refine ev_bin ?_ ?_ ?_
            · refine ev_bin ?_ ?_ ?_
              · refine ev_bin ?_ ?_ ?_
                · refine ev_bin ?_ ?_ ?_
                  · refine ev_bin ?_ ?_ ?_
                    · refine ev_bin ?_ ?_ ?_
                      · exact (ev_name (i := 4) rfl (Or.inl rfl))
                      · exact (ev_name (i := 4) rfl (Or.inl rfl))
                      · exact bi_mul
                    · exact ev_int
                    · exact bi_mul
                  · exact (ev_name (i := 4) rfl (Or.inl rfl))
                  · exact bi_add
                · exact (ev_name (i := 1) rfl (Or.inl rfl))
                · exact bi_add
              · exact ev_int
              · exact bi_mod
            · exact (ev_name (i := 2) rfl (Or.inl rfl))
            · exact bi_mod
end
end Vt

namespace Vt
open PySem PySem.Spec PyProof.Rows L2
section
variable {P : Program} {w : World} {K : PySem.W.Frag} {mg : Str → Option Value} {base : Heap} {cm : Nat → Addr} {we : Addr} {f fI : Addr} {fd fdI : FuncData} {psI : List Str}
theorem okf_law_numbers (M : Txt K mg cm we) (F : Fun K "_law_numbers" "_law_numbers" sf_law_numbers f fd) (Df_law_whole : DefF P w K mg base cm "_law_whole" 1 1 Ff_law_whole) : FnOk P w K mg base (L2.CX P w) 2 f fd ["_law_found", "_law_due"] (spF K cm 2 Ff_law_numbers) :=
  okF (k := 1) F scf_law_numbers (by decide) fun cdv A outer s H E B Ψ c hp hcm => by
    subst hcm
    exact (sts_cons (st_if (ts_w (tw_or (ts_not (ts_tru (ev_callB (id := "isinstance") M.g_isinstance rfl (by decide +kernel) (ag_cons (ev_name (i := 0) rfl (Or.inl rfl)) (ag_cons (ev_ty (n := "list") M.g_list rfl (by decide +kernel)) ag_nil se_Name) se_Name) cl_isi rfl rfl) (fun _ => rfl))) (tw_one (ts_cmp (ev_callB (id := "len") M.g_len rfl (by decide +kernel) (ag_cons (ev_name (i := 0) rfl (Or.inl rfl)) ag_nil se_Name) cl_len rfl rfl) (ev_callB (id := "len") M.g_len rfl (by decide +kernel) (ag_cons (ev_name (i := 1) rfl (Or.inl rfl)) ag_nil se_Name) cl_len rfl rfl) (bi_neU (CxOk.room c).units) rfl)))) (sts_one (st_ret ev_bl)) sts_nil) (sts_cons (st_for1 c M.g_range rfl (ev_callB (id := "len") M.g_len rfl (by decide +kernel) (ag_cons (ev_name (i := 1) rfl (Or.inl rfl)) ag_nil se_Name) cl_len rfl rfl) (tg_name (i := 2) c rfl (Or.inl rfl) (Or.inl rfl) (hp 2 (by decide))) (sts_one (st_if (ts_w (tw_or (ts_not (ts_tru (ev_call c rfl Df_law_whole (by decide) rfl (ag_cons (ev_sub (ev_name (i := 0) rfl (Or.inl rfl)) (ev_name (i := 2) rfl (Or.inl rfl)) (ixU (CxOk.room c).units) (fun _ _ => rfl)) ag_nil se_Subscript) se_Subscript rfl) (fun _ => rfl))) (tw_one (ts_cmp (ev_sub (ev_name (i := 0) rfl (Or.inl rfl)) (ev_name (i := 2) rfl (Or.inl rfl)) (ixU (CxOk.room c).units) (fun _ _ => rfl)) (ev_sub (ev_name (i := 1) rfl (Or.inl rfl)) (ev_name (i := 2) rfl (Or.inl rfl)) (ixU (CxOk.room c).units) (fun _ _ => rfl)) (bi_neU (CxOk.room c).units) rfl)))) (sts_one (st_ret ev_bl)) sts_nil)) rfl (fun _ => rfl)) (sts_one (st_ret ev_bl))))
end
end Vt

namespace Vt
open PySem PySem.Spec PyProof.Rows L2
section
variable {P : Program} {w : World} {K : PySem.W.Frag} {mg : Str → Option Value} {base : Heap} {cm : Nat → Addr} {we : Addr} {f fI : Addr} {fd fdI : FuncData} {psI : List Str}
theorem okf_law_told (M : Txt K mg cm we) (F : Fun K "_law_told" "_law_told" sf_law_told f fd) (Dm_bequeath : MetF P w K mg base cm 7 "bequeath" 2 3 Fm_bequeath) (Dm_drop : MetF P w K mg base cm 7 "drop" 2 2 Fm_drop) (Dm_empty : MetF P w K mg base cm 7 "empty" 3 3 Fm_empty) (Dm_make : MetF P w K mg base cm 7 "make" 1 2 Fm_make) (Dm_pair : MetF P w K mg base cm 7 "pair" 2 4 Fm_pair) (Dm_put : MetF P w K mg base cm 7 "put" 3 5 Fm_put) (Dm_take : MetF P w K mg base cm 7 "take" 2 2 Fm_take) (Dm_unpair : MetF P w K mg base cm 7 "unpair" 1 2 Fm_unpair) : FnOk P w K mg base (L2.CX P w) 4 f fd ["_law_chest", "_law_deed"] (spF K cm 2 Ff_law_told) :=
  okF (k := 3) F scf_law_told (by decide) fun cdv A outer s H E B Ψ c hp hcm => by
    subst hcm
    exact (sts_cons (st_if (ts_cmp (ev_sub (ev_name (i := 1) rfl (Or.inl rfl)) ev_int (ixU (CxOk.room c).units) (fun _ _ => rfl)) ev_str (bi_eqU (CxOk.room c).units) rfl) (sts_one (st_ret (ev_meth c rfl Dm_make (by decide) (ev_name (i := 0) rfl (Or.inl rfl)) (ag_cons (ev_sub (ev_name (i := 1) rfl (Or.inl rfl)) ev_int (ixU (CxOk.room c).units) (fun _ _ => rfl)) ag_nil se_Subscript) se_Subscript rfl rfl))) sts_nil) (sts_cons (st_if (ts_cmp (ev_sub (ev_name (i := 1) rfl (Or.inl rfl)) ev_int (ixU (CxOk.room c).units) (fun _ _ => rfl)) ev_str (bi_eqU (CxOk.room c).units) rfl) (sts_one (st_ret (ev_meth c rfl Dm_put (by decide) (ev_name (i := 0) rfl (Or.inl rfl)) (ag_cons (ev_sub (ev_name (i := 1) rfl (Or.inl rfl)) ev_int (ixU (CxOk.room c).units) (fun _ _ => rfl)) (ag_cons (ev_sub (ev_name (i := 1) rfl (Or.inl rfl)) ev_int (ixU (CxOk.room c).units) (fun _ _ => rfl)) (ag_cons (ev_sub (ev_name (i := 1) rfl (Or.inl rfl)) ev_int (ixU (CxOk.room c).units) (fun _ _ => rfl)) (ag_cons (ev_sub (ev_name (i := 1) rfl (Or.inl rfl)) ev_int (ixU (CxOk.room c).units) (fun _ _ => rfl)) ag_nil se_Subscript) se_Subscript) se_Subscript) se_Subscript) se_Subscript rfl rfl))) sts_nil) (sts_cons (st_if (ts_cmp (ev_sub (ev_name (i := 1) rfl (Or.inl rfl)) ev_int (ixU (CxOk.room c).units) (fun _ _ => rfl)) ev_str (bi_eqU (CxOk.room c).units) rfl) (sts_one (st_ret (ev_meth c rfl Dm_empty (by decide) (ev_name (i := 0) rfl (Or.inl rfl)) (ag_cons (ev_sub (ev_name (i := 1) rfl (Or.inl rfl)) ev_int (ixU (CxOk.room c).units) (fun _ _ => rfl)) (ag_cons (ev_sub (ev_name (i := 1) rfl (Or.inl rfl)) ev_int (ixU (CxOk.room c).units) (fun _ _ => rfl)) ag_nil se_Subscript) se_Subscript) se_Subscript rfl rfl))) sts_nil) (sts_cons (st_if (ts_cmp (ev_sub (ev_name (i := 1) rfl (Or.inl rfl)) ev_int (ixU (CxOk.room c).units) (fun _ _ => rfl)) ev_str (bi_eqU (CxOk.room c).units) rfl) (sts_one (st_ret (ev_meth c rfl Dm_take (by decide) (ev_name (i := 0) rfl (Or.inl rfl)) (ag_cons (ev_sub (ev_name (i := 1) rfl (Or.inl rfl)) ev_int (ixU (CxOk.room c).units) (fun _ _ => rfl)) ag_nil se_Subscript) se_Subscript rfl rfl))) sts_nil) (sts_cons (st_if (ts_cmp (ev_sub (ev_name (i := 1) rfl (Or.inl rfl)) ev_int (ixU (CxOk.room c).units) (fun _ _ => rfl)) ev_str (bi_eqU (CxOk.room c).units) rfl) (sts_one (st_ret (ev_meth c rfl Dm_drop (by decide) (ev_name (i := 0) rfl (Or.inl rfl)) (ag_cons (ev_sub (ev_name (i := 1) rfl (Or.inl rfl)) ev_int (ixU (CxOk.room c).units) (fun _ _ => rfl)) ag_nil se_Subscript) se_Subscript rfl rfl))) sts_nil) (sts_cons (st_if (ts_cmp (ev_sub (ev_name (i := 1) rfl (Or.inl rfl)) ev_int (ixU (CxOk.room c).units) (fun _ _ => rfl)) ev_str (bi_eqU (CxOk.room c).units) rfl) (sts_one (st_ret (ev_meth c rfl Dm_pair (by decide) (ev_name (i := 0) rfl (Or.inl rfl)) (ag_cons (ev_sub (ev_name (i := 1) rfl (Or.inl rfl)) ev_int (ixU (CxOk.room c).units) (fun _ _ => rfl)) (ag_cons (ev_sub (ev_name (i := 1) rfl (Or.inl rfl)) ev_int (ixU (CxOk.room c).units) (fun _ _ => rfl)) (ag_cons (ev_sub (ev_name (i := 1) rfl (Or.inl rfl)) ev_int (ixU (CxOk.room c).units) (fun _ _ => rfl)) ag_nil se_Subscript) se_Subscript) se_Subscript) se_Subscript rfl rfl))) sts_nil) (sts_cons (st_if (ts_cmp (ev_sub (ev_name (i := 1) rfl (Or.inl rfl)) ev_int (ixU (CxOk.room c).units) (fun _ _ => rfl)) ev_str (bi_eqU (CxOk.room c).units) rfl) (sts_one (st_ret (ev_meth c rfl Dm_unpair (by decide) (ev_name (i := 0) rfl (Or.inl rfl)) (ag_cons (ev_sub (ev_name (i := 1) rfl (Or.inl rfl)) ev_int (ixU (CxOk.room c).units) (fun _ _ => rfl)) ag_nil se_Subscript) se_Subscript rfl rfl))) sts_nil) (sts_one (st_ret (ev_meth c rfl Dm_bequeath (by decide) (ev_name (i := 0) rfl (Or.inl rfl)) (ag_cons (ev_sub (ev_name (i := 1) rfl (Or.inl rfl)) ev_int (ixU (CxOk.room c).units) (fun _ _ => rfl)) (ag_cons (ev_callTy (T := "list") M.g_list rfl (by decide +kernel) (ag_cons (ev_sub (ev_name (i := 1) rfl (Or.inl rfl)) ev_int (ixU (CxOk.room c).units) (fun _ _ => rfl)) ag_nil se_Subscript) (cl_list c) rfl rfl) ag_nil se_Call) se_Subscript) se_Subscript rfl rfl))))))))))
end
end Vt

namespace Vt
open PySem PySem.Spec PyProof.Rows L2
section
variable {P : Program} {w : World} {K : PySem.W.Frag} {mg : Str → Option Value} {base : Heap} {cm : Nat → Addr} {we : Addr} {f fI : Addr} {fd fdI : FuncData} {psI : List Str}
theorem okf_law_whole (M : Txt K mg cm we) (F : Fun K "_law_whole" "_law_whole" sf_law_whole f fd)  : FnOk P w K mg base (L2.CX P w) 1 f fd ["_law_found"] (spF K cm 1 Ff_law_whole) :=
  okF (k := 0) F scf_law_whole (by decide) fun cdv A outer s H E B Ψ c hp hcm => by
    subst hcm
    exact (sts_one (st_ret (ev_and (ev_callB (id := "isinstance") M.g_isinstance rfl (by decide +kernel) (ag_cons (ev_name (i := 0) rfl (Or.inl rfl)) (ag_cons (ev_ty (n := "int") M.g_int rfl (by decide +kernel)) ag_nil se_Name) se_Name) cl_isi rfl rfl) (ev_one (ev_not (ev_callB (id := "isinstance") M.g_isinstance rfl (by decide +kernel) (ag_cons (ev_name (i := 0) rfl (Or.inl rfl)) (ag_cons (ev_ty (n := "bool") M.g_bool rfl (by decide +kernel)) ag_nil se_Name) se_Name) cl_isi rfl rfl))))))
end
end Vt

namespace Vt
open PySem PySem.Spec PyProof.Rows L2
section
variable {P : Program} {w : World} {K : PySem.W.Frag} {mg : Str → Option Value} {base : Heap} {cm : Nat → Addr} {we : Addr} {f fI : Addr} {fd fdI : FuncData} {psI : List Str}
theorem okf_law_will_of (M : Txt K mg cm we) (F : Fun K "_law_will_of" "_law_will_of" sf_law_will_of f fd) (Df_law_mixed : DefF P w K mg base cm "_law_mixed" 1 3 Ff_law_mixed) : FnOk P w K mg base (L2.CX P w) 2 f fd ["_law_boxes", "_law_cell", "_law_coming"] (spF K cm 3 Ff_law_will_of) :=
  okF (k := 1) F scf_law_will_of (by decide) fun cdv A outer s H E B Ψ c hp hcm => by
    subst hcm
    refine sts_cons ?_ ?_
    · refine st_set (i := 3) (W := fun cls d _ H => E cls d H) (k := 1) ?_ ?_ ?_ ?_ ?_ ?_ ?_
      · exact c
      · exact rfl
      · exact (Or.inl rfl)
      · refine ev_lst ?_
        · exact ag_nil
      · exact rfl
      · exact (Or.inl rfl)
      · exact (hp 3 (by decide))
    · refine sts_cons ?_ ?_
      · refine st_for1 (W := fun cls d _ H => E cls d H) (k := 1) ?_ ?_ ?_ ?_ ?_ ?_ ?_ ?_
        · exact c
        · exact M.g_range
        · exact rfl
        · refine ev_sub ?_ ?_ ?_ ?_
          · refine ev_lst ?_
            · refine ag_cons ?_ ?_ ?_
              · exact ev_int
              · refine ag_cons ?_ ?_ ?_
                · exact ev_int
                · refine ag_cons ?_ ?_ ?_
                  · exact ev_int
                  · refine ag_cons ?_ ?_ ?_
                    · exact ev_int
                    · refine ag_cons ?_ ?_ ?_
                      · exact ev_int
                      · refine ag_cons ?_ ?_ ?_
                        · exact ev_int
                        · refine ag_cons ?_ ?_ ?_
                          · exact ev_int
                          · exact ag_nil
                          · exact se_Constant
                        · exact se_Constant
                      · exact se_Constant
                    · exact se_Constant
                  · exact se_Constant
                · exact se_Constant
              · exact se_Constant
          · exact (ev_call c rfl Df_law_mixed (by decide) rfl (ag_cons (ev_name (i := 1) rfl (Or.inl rfl)) (ag_cons ev_int (ag_cons ev_int ag_nil se_Constant) se_Constant) se_Name) se_Name rfl)
          · exact (ixU (CxOk.room c).units)
          · exact (fun _ _ => rfl)
        · exact (tg_name (i := 4) c rfl (Or.inl rfl) (Or.inl rfl) (hp 4 (by decide)))
        · refine sts_cons ?_ ?_
          · refine st_set (i := 5) (W := fun cls d _ H => E cls d H) (k := 1) ?_ ?_ ?_ ?_ ?_ ?_ ?_
            · exact c
            · exact rfl
            · exact (Or.inl rfl)
            · refine ev_sub ?_ ?_ ?_ ?_
              · exact (ev_name (i := 0) rfl (Or.inl rfl))
              · exact (ev_call c rfl Df_law_mixed (by decide) rfl (ag_cons (ev_bin (ev_name (i := 1) rfl (Or.inl rfl)) (ev_name (i := 4) rfl (Or.inl rfl)) bi_add) (ag_cons ev_int (ag_cons (ev_callB (id := "len") M.g_len rfl (by decide +kernel) (ag_cons (ev_name (i := 0) rfl (Or.inl rfl)) ag_nil se_Name) cl_len rfl rfl) ag_nil se_Call) se_Constant) se_BinOp) se_BinOp rfl)
              · exact (ixU (CxOk.room c).units)
              · exact (fun _ _ => rfl)
            · exact rfl
            · exact (Or.inl rfl)
            · exact (hp 5 (by decide))
          · refine sts_cons ?_ ?_
            · refine st_if ?_ ?_ ?_
              · exact (ts_cmp (ev_call c rfl Df_law_mixed (by decide) rfl (ag_cons (ev_bin (ev_name (i := 1) rfl (Or.inl rfl)) (ev_name (i := 4) rfl (Or.inl rfl)) bi_add) (ag_cons ev_int (ag_cons ev_int ag_nil se_Constant) se_Constant) se_BinOp) se_BinOp rfl) ev_int (bi_eqU (CxOk.room c).units) rfl)
              · refine sts_one ?_
                · refine st_set (i := 5) (W := fun cls d _ H => E cls d H) (k := 1) ?_ ?_ ?_ ?_ ?_ ?_ ?_
                  · exact c
                  · exact rfl
                  · exact (Or.inl rfl)
                  · refine ev_sub ?_ ?_ ?_ ?_
                    · refine ev_lst ?_
                      · refine ag_cons ?_ ?_ ?_
                        · exact (ev_frz (ev_name (i := 2) rfl (Or.inl rfl)))
                        · refine ag_cons ?_ ?_ ?_
                          · refine ev_bin ?_ ?_ ?_
                            · exact (ev_name (i := 2) rfl (Or.inl rfl))
                            · exact ev_int
                            · exact bi_add
                          · refine ag_cons ?_ ?_ ?_
                            · exact ev_int
                            · exact ag_nil
                            · exact se_Constant
                          · exact se_BinOp
                        · exact se_Name
                    · exact (ev_call c rfl Df_law_mixed (by decide) rfl (ag_cons (ev_bin (ev_name (i := 1) rfl (Or.inl rfl)) (ev_name (i := 4) rfl (Or.inl rfl)) bi_add) (ag_cons ev_int (ag_cons ev_int ag_nil se_Constant) se_Constant) se_BinOp) se_BinOp rfl)
                    · exact (ixU (CxOk.room c).units)
                    · exact (fun _ _ => rfl)
                  · exact rfl
                  · exact (Or.inl rfl)
                  · exact (hp 5 (by decide))
              · exact sts_nil
            · refine sts_cons ?_ ?_
              · refine st_set (i := 6) (W := fun cls d _ H => E cls d H) (k := 1) ?_ ?_ ?_ ?_ ?_ ?_ ?_
                · exact c
                · exact rfl
                · exact (Or.inl rfl)
                · exact (ev_call c rfl Df_law_mixed (by decide) rfl (ag_cons (ev_bin (ev_name (i := 1) rfl (Or.inl rfl)) (ev_name (i := 4) rfl (Or.inl rfl)) bi_add) (ag_cons ev_int (ag_cons ev_int ag_nil se_Constant) se_Constant) se_BinOp) se_BinOp rfl)
                · exact rfl
                · exact (Or.inl rfl)
                · exact (hp 6 (by decide))
              · refine sts_one ?_
                · refine st_if ?_ ?_ ?_
                  · exact (ts_cmp (ev_name (i := 6) rfl (Or.inl rfl)) ev_int bi_lt rfl)
                  · refine sts_one ?_
                    · refine st_expr ?_ ?_
                      · exact (ev_bm PySem.F.plainAttrs_list PySem.F.slot_list_append PySem.F.type_list_append (ev_name (i := 3) rfl (Or.inl rfl)) (ag_cons (ev_frz (ev_tup (ag_cons ev_str ag_nil se_Constant))) ag_nil se_Tuple) mt_appendF rfl rfl rfl rfl rfl)
                      · exact rfl
                  · refine sts_one ?_
                    · refine st_if ?_ ?_ ?_
                      · exact (ts_cmp (ev_name (i := 6) rfl (Or.inl rfl)) ev_int bi_lt rfl)
                      · refine sts_one ?_
                        · refine st_expr ?_ ?_
                          · exact (ev_bm PySem.F.plainAttrs_list PySem.F.slot_list_append PySem.F.type_list_append (ev_name (i := 3) rfl (Or.inl rfl)) (ag_cons (ev_frz (ev_tup (ag_cons ev_str (ag_cons (ev_frz (ev_name (i := 5) rfl (Or.inl rfl))) ag_nil se_Name) se_Constant))) ag_nil se_Tuple) mt_appendF rfl rfl rfl rfl rfl)
                          · exact rfl
                      · refine sts_one ?_
                        · refine st_expr ?_ ?_
                          · exact (ev_bm PySem.F.plainAttrs_list PySem.F.slot_list_append PySem.F.type_list_append (ev_name (i := 3) rfl (Or.inl rfl)) (ag_cons (ev_frz (ev_tup (ag_cons ev_str (ag_cons (ev_frz (ev_name (i := 5) rfl (Or.inl rfl))) (ag_cons (ev_call c rfl Df_law_mixed (by decide) rfl (ag_cons (ev_bin (ev_name (i := 1) rfl (Or.inl rfl)) (ev_name (i := 4) rfl (Or.inl rfl)) bi_add) (ag_cons ev_int (ag_cons ev_int ag_nil se_Constant) se_Constant) se_BinOp) se_BinOp rfl) (ag_cons (ev_cmp (ev_name (i := 6) rfl (Or.inl rfl)) ev_int bi_lt rfl) ag_nil se_Compare) se_Call) se_Name) se_Constant))) ag_nil se_Tuple) mt_appendF rfl rfl rfl rfl rfl)
                          · exact rfl
        · exact rfl
        · exact (fun _ => rfl)
      · refine sts_one ?_
        · refine st_ret ?_
          · exact (ev_mov (ev_name (i := 3) rfl (Or.inl rfl)))
end
end Vt

namespace Vt
open PySem PySem.Spec PyProof.Rows L2
section
variable {P : Program} {w : World} {K : PySem.W.Frag} {mg : Str → Option Value} {base : Heap} {cm : Nat → Addr} {we : Addr} {f fI : Addr} {fd fdI : FuncData} {psI : List Str}
theorem okf_law_world (M : Txt K mg cm we) (F : Fun K "_law_world" "_law_world" sf_law_world f fd)  : FnOk P w K mg base (L2.CX P w) 1 f fd [] (spF K cm 0 Ff_law_world) :=
  okF (k := 0) F scf_law_world (by decide) fun cdv A outer s H E B Ψ c hp hcm => by
    subst hcm
    refine sts_one ?_
    · refine st_ret ?_
      · refine ev_lst ?_
        · refine ag_cons ?_ ?_ ?_
          · exact ev_dct
          · refine ag_cons ?_ ?_ ?_
            · exact ev_dct
            · refine ag_cons ?_ ?_ ?_
              · exact ev_dct
              · refine ag_cons ?_ ?_ ?_
                · exact ev_dct
                · refine ag_cons ?_ ?_ ?_
                  · refine ev_lst ?_
                    · refine ag_cons ?_ ?_ ?_
                      · exact ev_int
                      · refine ag_cons ?_ ?_ ?_
                        · exact ev_int
                        · exact ag_nil
                        · exact se_Constant
                      · exact se_Constant
                  · exact ag_nil
                  · exact se_List
                · exact se_Dict
              · exact se_Dict
            · exact se_Dict
          · exact se_Dict
end
end Vt

namespace Vt
open PySem PySem.Spec PyProof.Rows L2
section
variable {P : Program} {w : World} {K : PySem.W.Frag} {mg : Str → Option Value} {base : Heap} {cm : Nat → Addr} {we : Addr} {f fI : Addr} {fd fdI : FuncData} {psI : List Str}
theorem okf_lost (M : Txt K mg cm we) (F : Fun K "lost" "lost" sf_lost f fd) (Dm_boxes : MetF P w K mg base cm 7 "boxes" 1 1 Fm_boxes) (Df_come_to : DefF P w K mg base cm "come_to" 6 1 Ff_come_to) : FnOk P w K mg base (L2.CX P w) 7 f fd ["chest"] (spF K cm 1 Ff_lost) :=
  okF (k := 6) F scf_lost (by decide) fun cdv A outer s H E B Ψ c hp hcm => by
    subst hcm
    exact (sts_cons (st_set (i := 1) c rfl (Or.inr rfl) ev_dct rfl (Or.inl rfl) (hp 1 (by decide))) (sts_cons (st_forL c (ev_call c rfl Df_come_to (by decide) rfl (ag_cons (ev_name (i := 0) rfl (Or.inl rfl)) ag_nil se_Name) se_Name rfl) (tg_name (i := 2) c rfl (Or.inl rfl) (Or.inl rfl) (hp 2 (by decide))) (sts_one (st_sub c ev_bl (ev_name (i := 1) rfl (Or.inr (Or.inl rfl))) (ev_sub (ev_name (i := 2) rfl (Or.inl rfl)) ev_int (ixU (CxOk.room c).units) (fun _ _ => rfl)) (fun _ => rfl) rfl rfl rfl)) (fun _ => rfl)) (sts_one (st_ret (ev_lc c (lc_L (own := [("box", 3)]) c (blkOk_by (N := nf_lost) (sc := defScope sf_lost) (by decide +kernel)) rfl (tgt_name (i := 3) (fun s H C cl fp => pg_name scf_lost.nd rfl (Or.inl rfl)) (hp 3 (by decide))) (ev_meth0 c rfl Dm_boxes (by decide) (ev_name (i := 0) rfl (Or.inl rfl)) rfl) (fun s1 H1 C1 cl1 fp1 => (tss_one (ts_cmp (ev_name (i := 3) rfl (Or.inl rfl)) (ev_name (i := 1) rfl (Or.inr (Or.inl rfl))) (bi_ninU (CxOk.room c).units) rfl))) (fun s1 H1 C1 cl1 fp1 => (ev_frz (ev_name (i := 3) rfl (Or.inl rfl)))) (fun _ => rfl)))))))
end
end Vt

namespace Vt
open PySem PySem.Spec PyProof.Rows L2
section
variable {P : Program} {w : World} {K : PySem.W.Frag} {mg : Str → Option Value} {base : Heap} {cm : Nat → Addr} {we : Addr} {f fI : Addr} {fd fdI : FuncData} {psI : List Str}
theorem okf_next_row (M : Txt K mg cm we) (F : Fun K "next_row" "next_row" sf_next_row f fd) (Dm_pairs : MetF P w K mg base cm 7 "pairs" 1 1 Fm_pairs) (Df_held_by : DefF P w K mg base cm "held_by" 4 2 Ff_held_by) : FnOk P w K mg base (L2.CX P w) 5 f fd ["chest", "rows", "known"] (spF K cm 3 Ff_next_row) :=
  okF (k := 4) F scf_next_row (by decide) fun cdv A outer s H E B Ψ c hp hcm => by
    subst hcm
    refine sts_cons ?_ ?_
    · refine st_forL (W := fun cls d _ H => E cls d H) (k := 4) ?_ ?_ ?_ ?_ ?_
      · exact c
      · exact (ev_name (i := 1) rfl (Or.inl rfl))
      · exact (tg_name (i := 3) c rfl (Or.inl rfl) (Or.inl rfl) (hp 3 (by decide)))
      · refine sts_one ?_
        · refine st_forL (W := fun cls d _ H => E cls d H) (k := 4) ?_ ?_ ?_ ?_ ?_
          · exact c
          · exact (ev_call c rfl Df_held_by (by decide) rfl (ag_cons (ev_name (i := 0) rfl (Or.inl rfl)) (ag_cons (ev_sub (ev_name (i := 3) rfl (Or.inl rfl)) ev_int (ixU (CxOk.room c).units) (fun _ _ => rfl)) ag_nil se_Subscript) se_Name) se_Name rfl)
          · exact (tg_tup c (tgs_cons (tg_name (i := 4) c rfl (Or.inl rfl) (Or.inl rfl) (hp 4 (by decide))) (tgs_cons (tg_name (i := 5) c rfl (Or.inl rfl) (Or.inl rfl) (hp 5 (by decide))) tgs_nil rfl) rfl) rfl rfl)
          · refine sts_one ?_
            · refine st_if ?_ ?_ ?_
              · exact (ts_cmp (ev_name (i := 5) rfl (Or.inl rfl)) (ev_name (i := 2) rfl (Or.inl rfl)) (bi_ninU (CxOk.room c).units) rfl)
              · refine sts_one ?_
                · refine st_ret ?_
                  · refine ev_tup ?_
                    · refine ag_cons ?_ ?_ ?_
                      · exact (ev_frz (ev_name (i := 5) rfl (Or.inl rfl)))
                      · refine ag_cons ?_ ?_ ?_
                        · refine ev_tup ?_
                          · refine ag_cons ?_ ?_ ?_
                            · exact ev_str
                            · refine ag_cons ?_ ?_ ?_
                              · refine ev_sub ?_ ?_ ?_ ?_
                                · exact (ev_name (i := 3) rfl (Or.inl rfl))
                                · exact ev_int
                                · exact (ixU (CxOk.room c).units)
                                · exact (fun _ _ => rfl)
                              · refine ag_cons ?_ ?_ ?_
                                · exact (ev_frz (ev_name (i := 4) rfl (Or.inl rfl)))
                                · exact ag_nil
                                · exact se_Name
                              · exact se_Subscript
                            · exact se_Constant
                        · exact ag_nil
                        · exact se_Tuple
                      · exact se_Name
              · exact sts_nil
          · exact (fun _ => rfl)
      · exact (fun _ => rfl)
    · refine sts_cons ?_ ?_
      · refine st_forL (W := fun cls d _ H => E cls d H) (k := 4) ?_ ?_ ?_ ?_ ?_
        · exact c
        · exact (ev_meth0 c rfl Dm_pairs (by decide) (ev_name (i := 0) rfl (Or.inl rfl)) rfl)
        · exact (tg_tup c (tgs_cons (tg_name (i := 6) c rfl (Or.inl rfl) (Or.inl rfl) (hp 6 (by decide))) (tgs_cons (tg_name (i := 7) c rfl (Or.inl rfl) (Or.inl rfl) (hp 7 (by decide))) (tgs_cons (tg_name (i := 8) c rfl (Or.inl rfl) (Or.inl rfl) (hp 8 (by decide))) (tgs_cons (tg_name (i := 9) c rfl (Or.inl rfl) (Or.inl rfl) (hp 9 (by decide))) tgs_nil rfl) rfl) rfl) rfl) rfl rfl)
        · refine sts_one ?_
          · refine st_if ?_ ?_ ?_
            · exact (ts_w (tw_and (ts_cmp (ev_name (i := 7) rfl (Or.inl rfl)) (ev_name (i := 2) rfl (Or.inl rfl)) (bi_inU (CxOk.room c).units) rfl) (tw_and (ts_cmp (ev_name (i := 8) rfl (Or.inl rfl)) (ev_name (i := 2) rfl (Or.inl rfl)) (bi_inU (CxOk.room c).units) rfl) (tw_one (ts_cmp (ev_name (i := 9) rfl (Or.inl rfl)) (ev_name (i := 2) rfl (Or.inl rfl)) (bi_ninU (CxOk.room c).units) rfl)))))
            · refine sts_one ?_
              · refine st_ret ?_
                · refine ev_tup ?_
                  · refine ag_cons ?_ ?_ ?_
                    · exact (ev_frz (ev_name (i := 9) rfl (Or.inl rfl)))
                    · refine ag_cons ?_ ?_ ?_
                      · refine ev_tup ?_
                        · refine ag_cons ?_ ?_ ?_
                          · exact ev_str
                          · refine ag_cons ?_ ?_ ?_
                            · exact (ev_frz (ev_name (i := 6) rfl (Or.inl rfl)))
                            · exact ag_nil
                            · exact se_Name
                          · exact se_Constant
                      · exact ag_nil
                      · exact se_Tuple
                    · exact se_Name
            · exact sts_nil
        · exact (fun _ => rfl)
      · refine sts_one ?_
        · refine st_ret ?_
          · exact ev_non
end
end Vt

namespace Vt
open PySem PySem.Spec PyProof.Rows L2
section
variable {P : Program} {w : World} {K : PySem.W.Frag} {mg : Str → Option Value} {base : Heap} {cm : Nat → Addr} {we : Addr} {f fI : Addr} {fd fdI : FuncData} {psI : List Str}
theorem okm_bequeath (M : Txt K mg cm we) (F : Fun K "bequeath" "Chest.bequeath" sm_bequeath f fd) (Dm_need_box : MetF P w K mg base cm 7 "need_box" 1 2 Fm_need_box) (Df_is_deed : DefF P w K mg base cm "is_deed" 1 1 Ff_is_deed) : FnOk P w K mg base (L2.CX P w) 2 f fd ["self", "box", "deeds"] (spF K cm 3 Fm_bequeath) :=
  okF (k := 1) F scm_bequeath (by decide) fun cdv A outer s H E B Ψ c hp hcm => by
    subst hcm
    exact (sts_cons (st_expr (ev_meth c rfl Dm_need_box (by decide) (ev_name (i := 0) rfl (Or.inl rfl)) (ag_cons (ev_name (i := 1) rfl (Or.inl rfl)) ag_nil se_Name) se_Name rfl rfl) rfl) (sts_cons (st_if (ts_w (tw_or (ts_cmp (ev_callB (id := "len") M.g_len rfl (by decide +kernel) (ag_cons (ev_name (i := 2) rfl (Or.inl rfl)) ag_nil se_Name) cl_len rfl rfl) (ev_gint M.md rfl) bi_gt rfl) (tw_one (ts_not (ts_tru (ev_callB (id := "all") M.g_all rfl (by decide +kernel) (ag_cons (ev_lc c (lc_L (own := [("deed", 3)]) c (blkOk_by (N := nm_bequeath) (sc := defScope sm_bequeath) (by decide +kernel)) rfl (tgt_name (i := 3) (fun s H C cl fp => pg_name scm_bequeath.nd rfl (Or.inl rfl)) (hp 3 (by decide))) (ev_name (i := 2) rfl (Or.inl rfl)) (fun s1 H1 C1 cl1 fp1 => tss_nil) (fun s1 H1 C1 cl1 fp1 => (ev_call (CxOk.blk c s1 H1 C1 cl1 fp1) rfl Df_is_deed (by decide) rfl (ag_cons (ev_name (i := 3) rfl (Or.inl rfl)) ag_nil se_Name) se_Name rfl)) (fun _ => rfl))) ag_nil se_ListComp) (cl_all c) rfl rfl) (fun _ => rfl)))))) (sts_one (st_rs (C := 4) c M.x4 rfl)) sts_nil) (sts_one (st_if (ts_tru (ev_name (i := 2) rfl (Or.inl rfl)) (fun _ => rfl)) (sts_one (st_sub c (ev_frz (ev_callTy (T := "list") M.g_list rfl (by decide +kernel) (ag_cons (ev_name (i := 2) rfl (Or.inl rfl)) ag_nil se_Name) (cl_list c) rfl rfl)) (ev_fld (C := 7) (ev_name (i := 0) rfl (Or.inl rfl)) M.cl M.n3 rfl) (ev_name (i := 1) rfl (Or.inl rfl)) (fun _ => rfl) rfl rfl rfl)) (sts_one (st_if (ts_cmp (ev_name (i := 1) rfl (Or.inl rfl)) (ev_fld (C := 7) (ev_name (i := 0) rfl (Or.inl rfl)) M.cl M.n3 rfl) (bi_inU (CxOk.room c).units) rfl) (sts_one (st_expr (ev_dpop (ev_fld (C := 7) (ev_name (i := 0) rfl (Or.inl rfl)) M.cl M.n3 rfl) (ev_name (i := 1) rfl (Or.inl rfl)) ⟨rfl, rfl, rfl, rfl⟩) rfl)) sts_nil))))))
end
end Vt

namespace Vt
open PySem PySem.Spec PyProof.Rows L2
section
variable {P : Program} {w : World} {K : PySem.W.Frag} {mg : Str → Option Value} {base : Heap} {cm : Nat → Addr} {we : Addr} {f fI : Addr} {fd fdI : FuncData} {psI : List Str}
theorem okm_boxes (M : Txt K mg cm we) (F : Fun K "boxes" "Chest.boxes" sm_boxes f fd)  : FnOk P w K mg base (L2.CX P w) 1 f fd ["self"] (spF K cm 1 Fm_boxes) :=
  okF (k := 0) F scm_boxes (by decide) fun cdv A outer s H E B Ψ c hp hcm => by
    subst hcm
    exact (sts_one (st_ret (ev_callB (id := "sorted") M.g_sorted rfl (by decide +kernel) (ag_cons (ev_fld (C := 7) (ev_name (i := 0) rfl (Or.inl rfl)) M.cl M.n0 rfl) ag_nil se_Attribute) (cl_sorted c) rfl rfl)))
end
end Vt

namespace Vt
open PySem PySem.Spec PyProof.Rows L2
section
variable {P : Program} {w : World} {K : PySem.W.Frag} {mg : Str → Option Value} {base : Heap} {cm : Nat → Addr} {we : Addr} {f fI : Addr} {fd fdI : FuncData} {psI : List Str}
theorem okm_drop (M : Txt K mg cm we) (F : Fun K "drop" "Chest.drop" sm_drop f fd) (Dm_need_box : MetF P w K mg base cm 7 "need_box" 1 2 Fm_need_box) : FnOk P w K mg base (L2.CX P w) 2 f fd ["self", "box"] (spF K cm 2 Fm_drop) :=
  okF (k := 1) F scm_drop (by decide) fun cdv A outer s H E B Ψ c hp hcm => by
    subst hcm
    exact (sts_cons (st_expr (ev_meth c rfl Dm_need_box (by decide) (ev_name (i := 0) rfl (Or.inl rfl)) (ag_cons (ev_name (i := 1) rfl (Or.inl rfl)) ag_nil se_Name) se_Name rfl rfl) rfl) (sts_cons (st_if (ts_cmp (ev_name (i := 1) rfl (Or.inl rfl)) (ev_fld (C := 7) (ev_name (i := 0) rfl (Or.inl rfl)) M.cl M.n1 rfl) (bi_ninU (CxOk.room c).units) rfl) (sts_one (st_rs (C := 2) c M.x2 rfl)) sts_nil) (sts_one (st_expr (ev_dpop (ev_fld (C := 7) (ev_name (i := 0) rfl (Or.inl rfl)) M.cl M.n1 rfl) (ev_name (i := 1) rfl (Or.inl rfl)) ⟨rfl, rfl, rfl, rfl⟩) rfl))))
end
end Vt

namespace Vt
open PySem PySem.Spec PyProof.Rows L2
section
variable {P : Program} {w : World} {K : PySem.W.Frag} {mg : Str → Option Value} {base : Heap} {cm : Nat → Addr} {we : Addr} {f fI : Addr} {fd fdI : FuncData} {psI : List Str}
theorem okm_empty (M : Txt K mg cm we) (F : Fun K "empty" "Chest.empty" sm_empty f fd) (Dm_need_slot : MetF P w K mg base cm 7 "need_slot" 2 3 Fm_need_slot) : FnOk P w K mg base (L2.CX P w) 3 f fd ["self", "box", "slot"] (spF K cm 3 Fm_empty) :=
  okF (k := 2) F scm_empty (by decide) fun cdv A outer s H E B Ψ c hp hcm => by
    subst hcm
    exact (sts_cons (st_expr (ev_meth c rfl Dm_need_slot (by decide) (ev_name (i := 0) rfl (Or.inl rfl)) (ag_cons (ev_name (i := 1) rfl (Or.inl rfl)) (ag_cons (ev_name (i := 2) rfl (Or.inl rfl)) ag_nil se_Name) se_Name) se_Name rfl rfl) rfl) (sts_one (st_sub c ev_non (ev_sub (ev_fld (C := 7) (ev_name (i := 0) rfl (Or.inl rfl)) M.cl M.n0 rfl) (ev_name (i := 1) rfl (Or.inl rfl)) (ixU (CxOk.room c).units) (fun _ _ => rfl)) (ev_name (i := 2) rfl (Or.inl rfl)) (fun _ => rfl) rfl rfl rfl)))
end
end Vt

namespace Vt
open PySem PySem.Spec PyProof.Rows L2
section
variable {P : Program} {w : World} {K : PySem.W.Frag} {mg : Str → Option Value} {base : Heap} {cm : Nat → Addr} {we : Addr} {f fI : Addr} {fd fdI : FuncData} {psI : List Str}
theorem okm_hands (M : Txt K mg cm we) (F : Fun K "hands" "Chest.hands" sm_hands f fd)  : FnOk P w K mg base (L2.CX P w) 1 f fd ["self"] (spF K cm 1 Fm_hands) :=
  okF (k := 0) F scm_hands (by decide) fun cdv A outer s H E B Ψ c hp hcm => by
    subst hcm
    exact (sts_one (st_ret (ev_callB (id := "sorted") M.g_sorted rfl (by decide +kernel) (ag_cons (ev_fld (C := 7) (ev_name (i := 0) rfl (Or.inl rfl)) M.cl M.n1 rfl) ag_nil se_Attribute) (cl_sorted c) rfl rfl)))
end
end Vt

namespace Vt
open PySem PySem.Spec PyProof.Rows L2
section
variable {P : Program} {w : World} {K : PySem.W.Frag} {mg : Str → Option Value} {base : Heap} {cm : Nat → Addr} {we : Addr} {f fI : Addr} {fd fdI : FuncData} {psI : List Str}
theorem okm_init (M : Txt K mg cm we) (F : Fun K "__init__" "Chest.__init__" sm_init f fd)  : FnOk P w K mg base (L2.CX P w) 1 f fd ["self"] (spF K cm 1 Fm_init) :=
  okF (k := 0) F scm_init (by decide) fun cdv A outer s H E B Ψ c hp hcm => by
    subst hcm
    exact (sts_cons (st_attr (C := 7) ev_dct (ev_name (i := 0) rfl (Or.inl rfl)) M.cl M.n0 rfl) (sts_cons (st_attr (C := 7) ev_dct (ev_name (i := 0) rfl (Or.inl rfl)) M.cl M.n1 rfl) (sts_cons (st_attr (C := 7) ev_dct (ev_name (i := 0) rfl (Or.inl rfl)) M.cl M.n2 rfl) (sts_cons (st_attr (C := 7) ev_dct (ev_name (i := 0) rfl (Or.inl rfl)) M.cl M.n3 rfl) (sts_cons (st_attr (C := 7) ev_int (ev_name (i := 0) rfl (Or.inl rfl)) M.cl M.n4 rfl) (sts_one (st_attr (C := 7) ev_int (ev_name (i := 0) rfl (Or.inl rfl)) M.cl M.n5 rfl)))))))
end
end Vt

namespace Vt
open PySem PySem.Spec PyProof.Rows L2
section
variable {P : Program} {w : World} {K : PySem.W.Frag} {mg : Str → Option Value} {base : Heap} {cm : Nat → Addr} {we : Addr} {f fI : Addr} {fd fdI : FuncData} {psI : List Str}
theorem okm_make (M : Txt K mg cm we) (F : Fun K "make" "Chest.make" sm_make f fd)  : FnOk P w K mg base (L2.CX P w) 1 f fd ["self", "size"] (spF K cm 2 Fm_make) :=
  okF (k := 0) F scm_make (by decide) fun cdv A outer s H E B Ψ c hp hcm => by
    subst hcm
    exact (sts_cons (st_if (ts_not (ts_chainT ev_int (ev_name (i := 1) rfl (Or.inl rfl)) bi_le (ev_gint M.ms rfl) bi_le rfl)) (sts_one (st_rs (C := 1) c M.x1 rfl)) sts_nil) (sts_cons (st_if (ts_cmp (ev_callB (id := "len") M.g_len rfl (by decide +kernel) (ag_cons (ev_fld (C := 7) (ev_name (i := 0) rfl (Or.inl rfl)) M.cl M.n0 rfl) ag_nil se_Attribute) cl_len rfl rfl) (ev_gint M.mb rfl) (bi_eqU (CxOk.room c).units) rfl) (sts_one (st_rs (C := 5) c M.x5 rfl)) sts_nil) (sts_cons (st_set (i := 2) c rfl (Or.inl rfl) (ev_fld (C := 7) (ev_name (i := 0) rfl (Or.inl rfl)) M.cl M.n4 rfl) rfl (Or.inl rfl) (hp 2 (by decide))) (sts_cons (st_attr (C := 7) (ev_bin (ev_name (i := 2) rfl (Or.inl rfl)) ev_int bi_add) (ev_name (i := 0) rfl (Or.inl rfl)) M.cl M.n4 rfl) (sts_cons (st_sub c (ev_bin (ev_lst (ag_cons ev_non ag_nil se_Constant)) (ev_name (i := 1) rfl (Or.inl rfl)) bi_mul) (ev_fld (C := 7) (ev_name (i := 0) rfl (Or.inl rfl)) M.cl M.n0 rfl) (ev_name (i := 2) rfl (Or.inl rfl)) (fun _ => rfl) rfl rfl rfl) (sts_cons (st_sub c ev_bl (ev_fld (C := 7) (ev_name (i := 0) rfl (Or.inl rfl)) M.cl M.n1 rfl) (ev_name (i := 2) rfl (Or.inl rfl)) (fun _ => rfl) rfl rfl rfl) (sts_one (st_ret (ev_mov (ev_name (i := 2) rfl (Or.inl rfl)))))))))))
end
end Vt

namespace Vt
open PySem PySem.Spec PyProof.Rows L2
section
variable {P : Program} {w : World} {K : PySem.W.Frag} {mg : Str → Option Value} {base : Heap} {cm : Nat → Addr} {we : Addr} {f fI : Addr} {fd fdI : FuncData} {psI : List Str}
theorem okm_need_box (M : Txt K mg cm we) (F : Fun K "need_box" "Chest.need_box" sm_need_box f fd)  : FnOk P w K mg base (L2.CX P w) 1 f fd ["self", "box"] (spF K cm 2 Fm_need_box) :=
  okF (k := 0) F scm_need_box (by decide) fun cdv A outer s H E B Ψ c hp hcm => by
    subst hcm
    exact (sts_one (st_if (ts_cmp (ev_name (i := 1) rfl (Or.inl rfl)) (ev_fld (C := 7) (ev_name (i := 0) rfl (Or.inl rfl)) M.cl M.n0 rfl) (bi_ninU (CxOk.room c).units) rfl) (sts_one (st_rs (C := 0) c M.x0 rfl)) sts_nil))
end
end Vt

namespace Vt
open PySem PySem.Spec PyProof.Rows L2
section
variable {P : Program} {w : World} {K : PySem.W.Frag} {mg : Str → Option Value} {base : Heap} {cm : Nat → Addr} {we : Addr} {f fI : Addr} {fd fdI : FuncData} {psI : List Str}
theorem okm_need_slot (M : Txt K mg cm we) (F : Fun K "need_slot" "Chest.need_slot" sm_need_slot f fd) (Dm_need_box : MetF P w K mg base cm 7 "need_box" 1 2 Fm_need_box) : FnOk P w K mg base (L2.CX P w) 2 f fd ["self", "box", "slot"] (spF K cm 3 Fm_need_slot) :=
  okF (k := 1) F scm_need_slot (by decide) fun cdv A outer s H E B Ψ c hp hcm => by
    subst hcm
    exact (sts_cons (st_expr (ev_meth c rfl Dm_need_box (by decide) (ev_name (i := 0) rfl (Or.inl rfl)) (ag_cons (ev_name (i := 1) rfl (Or.inl rfl)) ag_nil se_Name) se_Name rfl rfl) rfl) (sts_one (st_if (ts_not (ts_chainT ev_int (ev_name (i := 2) rfl (Or.inl rfl)) bi_le (ev_callB (id := "len") M.g_len rfl (by decide +kernel) (ag_cons (ev_sub (ev_fld (C := 7) (ev_name (i := 0) rfl (Or.inl rfl)) M.cl M.n0 rfl) (ev_name (i := 1) rfl (Or.inl rfl)) (ixU (CxOk.room c).units) (fun _ _ => rfl)) ag_nil se_Subscript) cl_len rfl rfl) bi_lt rfl)) (sts_one (st_rs (C := 1) c M.x1 rfl)) sts_nil)))
end
end Vt

namespace Vt
open PySem PySem.Spec PyProof.Rows L2
section
variable {P : Program} {w : World} {K : PySem.W.Frag} {mg : Str → Option Value} {base : Heap} {cm : Nat → Addr} {we : Addr} {f fI : Addr} {fd fdI : FuncData} {psI : List Str}
theorem okm_pair (M : Txt K mg cm we) (F : Fun K "pair" "Chest.pair" sm_pair f fd) (Dm_need_box : MetF P w K mg base cm 7 "need_box" 1 2 Fm_need_box) : FnOk P w K mg base (L2.CX P w) 2 f fd ["self", "home", "key", "other"] (spF K cm 4 Fm_pair) :=
  okF (k := 1) F scm_pair (by decide) fun cdv A outer s H E B Ψ c hp hcm => by
    subst hcm
    exact (sts_cons (st_forT c (ev_tup (ag_cons (ev_frz (ev_name (i := 1) rfl (Or.inl rfl))) (ag_cons (ev_frz (ev_name (i := 2) rfl (Or.inl rfl))) (ag_cons (ev_frz (ev_name (i := 3) rfl (Or.inl rfl))) ag_nil se_Name) se_Name) se_Name)) (tg_name (i := 4) c rfl (Or.inl rfl) (Or.inl rfl) (hp 4 (by decide))) (sts_one (st_expr (ev_meth c rfl Dm_need_box (by decide) (ev_name (i := 0) rfl (Or.inl rfl)) (ag_cons (ev_name (i := 4) rfl (Or.inl rfl)) ag_nil se_Name) se_Name rfl rfl) rfl)) (fun _ => rfl)) (sts_cons (st_if (ts_cmp (ev_callB (id := "len") M.g_len rfl (by decide +kernel) (ag_cons (ev_fld (C := 7) (ev_name (i := 0) rfl (Or.inl rfl)) M.cl M.n2 rfl) ag_nil se_Attribute) cl_len rfl rfl) (ev_gint M.mp rfl) (bi_eqU (CxOk.room c).units) rfl) (sts_one (st_rs (C := 5) c M.x5 rfl)) sts_nil) (sts_cons (st_set (i := 5) c rfl (Or.inl rfl) (ev_fld (C := 7) (ev_name (i := 0) rfl (Or.inl rfl)) M.cl M.n5 rfl) rfl (Or.inl rfl) (hp 5 (by decide))) (sts_cons (st_attr (C := 7) (ev_bin (ev_name (i := 5) rfl (Or.inl rfl)) ev_int bi_add) (ev_name (i := 0) rfl (Or.inl rfl)) M.cl M.n5 rfl) (sts_cons (st_sub c (ev_tup (ag_cons (ev_frz (ev_name (i := 1) rfl (Or.inl rfl))) (ag_cons (ev_frz (ev_name (i := 2) rfl (Or.inl rfl))) (ag_cons (ev_frz (ev_name (i := 3) rfl (Or.inl rfl))) ag_nil se_Name) se_Name) se_Name)) (ev_fld (C := 7) (ev_name (i := 0) rfl (Or.inl rfl)) M.cl M.n2 rfl) (ev_name (i := 5) rfl (Or.inl rfl)) (fun _ => rfl) rfl rfl rfl) (sts_one (st_ret (ev_mov (ev_name (i := 5) rfl (Or.inl rfl))))))))))
end
end Vt

namespace Vt
open PySem PySem.Spec PyProof.Rows L2
section
variable {P : Program} {w : World} {K : PySem.W.Frag} {mg : Str → Option Value} {base : Heap} {cm : Nat → Addr} {we : Addr} {f fI : Addr} {fd fdI : FuncData} {psI : List Str}
theorem okm_pairs (M : Txt K mg cm we) (F : Fun K "pairs" "Chest.pairs" sm_pairs f fd)  : FnOk P w K mg base (L2.CX P w) 1 f fd ["self"] (spF K cm 1 Fm_pairs) :=
  okF (k := 0) F scm_pairs (by decide) fun cdv A outer s H E B Ψ c hp hcm => by
    subst hcm
    exact (sts_one (st_ret (ev_lc c (lc_L (own := [("number", 1)]) c (blkOk_by (N := nm_pairs) (sc := defScope sm_pairs) (by decide +kernel)) rfl (tgt_name (i := 1) (fun s H C cl fp => pg_name scm_pairs.nd rfl (Or.inl rfl)) (hp 1 (by decide))) (ev_callB (id := "sorted") M.g_sorted rfl (by decide +kernel) (ag_cons (ev_fld (C := 7) (ev_name (i := 0) rfl (Or.inr (Or.inl rfl))) M.cl M.n2 rfl) ag_nil se_Attribute) (cl_sorted c) rfl rfl) (fun s1 H1 C1 cl1 fp1 => tss_nil) (fun s1 H1 C1 cl1 fp1 => (ev_bin (ev_tup (ag_cons (ev_frz (ev_name (i := 1) rfl (Or.inl rfl))) ag_nil se_Name)) (ev_sub (ev_fld (C := 7) (ev_name (i := 0) rfl (Or.inr (Or.inl rfl))) M.cl M.n2 rfl) (ev_name (i := 1) rfl (Or.inl rfl)) (ixU (CxOk.room c).units) (fun _ _ => rfl)) bi_add)) (fun _ => rfl)))))
end
end Vt

namespace Vt
open PySem PySem.Spec PyProof.Rows L2
section
variable {P : Program} {w : World} {K : PySem.W.Frag} {mg : Str → Option Value} {base : Heap} {cm : Nat → Addr} {we : Addr} {f fI : Addr} {fd fdI : FuncData} {psI : List Str}
theorem okm_put (M : Txt K mg cm we) (F : Fun K "put" "Chest.put" sm_put f fd) (Dm_need_box : MetF P w K mg base cm 7 "need_box" 1 2 Fm_need_box) (Dm_need_slot : MetF P w K mg base cm 7 "need_slot" 2 3 Fm_need_slot) : FnOk P w K mg base (L2.CX P w) 3 f fd ["self", "box", "slot", "other", "holds"] (spF K cm 5 Fm_put) :=
  okF (k := 2) F scm_put (by decide) fun cdv A outer s H E B Ψ c hp hcm => by
    subst hcm
    exact (sts_cons (st_expr (ev_meth c rfl Dm_need_slot (by decide) (ev_name (i := 0) rfl (Or.inl rfl)) (ag_cons (ev_name (i := 1) rfl (Or.inl rfl)) (ag_cons (ev_name (i := 2) rfl (Or.inl rfl)) ag_nil se_Name) se_Name) se_Name rfl rfl) rfl) (sts_cons (st_expr (ev_meth c rfl Dm_need_box (by decide) (ev_name (i := 0) rfl (Or.inl rfl)) (ag_cons (ev_name (i := 3) rfl (Or.inl rfl)) ag_nil se_Name) se_Name rfl rfl) rfl) (sts_one (st_sub c (ev_tup (ag_cons (ev_frz (ev_name (i := 3) rfl (Or.inl rfl))) (ag_cons (ev_frz (ev_name (i := 4) rfl (Or.inl rfl))) ag_nil se_Name) se_Name)) (ev_sub (ev_fld (C := 7) (ev_name (i := 0) rfl (Or.inl rfl)) M.cl M.n0 rfl) (ev_name (i := 1) rfl (Or.inl rfl)) (ixU (CxOk.room c).units) (fun _ _ => rfl)) (ev_name (i := 2) rfl (Or.inl rfl)) (fun _ => rfl) rfl rfl rfl))))
end
end Vt

namespace Vt
open PySem PySem.Spec PyProof.Rows L2
section
variable {P : Program} {w : World} {K : PySem.W.Frag} {mg : Str → Option Value} {base : Heap} {cm : Nat → Addr} {we : Addr} {f fI : Addr} {fd fdI : FuncData} {psI : List Str}
theorem okm_size (M : Txt K mg cm we) (F : Fun K "size" "Chest.size" sm_size f fd) (Dm_need_box : MetF P w K mg base cm 7 "need_box" 1 2 Fm_need_box) : FnOk P w K mg base (L2.CX P w) 2 f fd ["self", "box"] (spF K cm 2 Fm_size) :=
  okF (k := 1) F scm_size (by decide) fun cdv A outer s H E B Ψ c hp hcm => by
    subst hcm
    exact (sts_cons (st_expr (ev_meth c rfl Dm_need_box (by decide) (ev_name (i := 0) rfl (Or.inl rfl)) (ag_cons (ev_name (i := 1) rfl (Or.inl rfl)) ag_nil se_Name) se_Name rfl rfl) rfl) (sts_one (st_ret (ev_callB (id := "len") M.g_len rfl (by decide +kernel) (ag_cons (ev_sub (ev_fld (C := 7) (ev_name (i := 0) rfl (Or.inl rfl)) M.cl M.n0 rfl) (ev_name (i := 1) rfl (Or.inl rfl)) (ixU (CxOk.room c).units) (fun _ _ => rfl)) ag_nil se_Subscript) cl_len rfl rfl))))
end
end Vt

namespace Vt
open PySem PySem.Spec PyProof.Rows L2
section
variable {P : Program} {w : World} {K : PySem.W.Frag} {mg : Str → Option Value} {base : Heap} {cm : Nat → Addr} {we : Addr} {f fI : Addr} {fd fdI : FuncData} {psI : List Str}
theorem okm_take (M : Txt K mg cm we) (F : Fun K "take" "Chest.take" sm_take f fd) (Dm_need_box : MetF P w K mg base cm 7 "need_box" 1 2 Fm_need_box) : FnOk P w K mg base (L2.CX P w) 2 f fd ["self", "box"] (spF K cm 2 Fm_take) :=
  okF (k := 1) F scm_take (by decide) fun cdv A outer s H E B Ψ c hp hcm => by
    subst hcm
    exact (sts_cons (st_expr (ev_meth c rfl Dm_need_box (by decide) (ev_name (i := 0) rfl (Or.inl rfl)) (ag_cons (ev_name (i := 1) rfl (Or.inl rfl)) ag_nil se_Name) se_Name rfl rfl) rfl) (sts_one (st_sub c ev_bl (ev_fld (C := 7) (ev_name (i := 0) rfl (Or.inl rfl)) M.cl M.n1 rfl) (ev_name (i := 1) rfl (Or.inl rfl)) (fun _ => rfl) rfl rfl rfl)))
end
end Vt

namespace Vt
open PySem PySem.Spec PyProof.Rows L2
section
variable {P : Program} {w : World} {K : PySem.W.Frag} {mg : Str → Option Value} {base : Heap} {cm : Nat → Addr} {we : Addr} {f fI : Addr} {fd fdI : FuncData} {psI : List Str}
theorem okm_told (M : Txt K mg cm we) (F : Fun K "told" "Chest.told" sm_told f fd) (Dm_need_slot : MetF P w K mg base cm 7 "need_slot" 2 3 Fm_need_slot) : FnOk P w K mg base (L2.CX P w) 3 f fd ["self", "box", "slot"] (spF K cm 3 Fm_told) :=
  okF (k := 2) F scm_told (by decide) fun cdv A outer s H E B Ψ c hp hcm => by
    subst hcm
    exact (sts_cons (st_expr (ev_meth c rfl Dm_need_slot (by decide) (ev_name (i := 0) rfl (Or.inl rfl)) (ag_cons (ev_name (i := 1) rfl (Or.inl rfl)) (ag_cons (ev_name (i := 2) rfl (Or.inl rfl)) ag_nil se_Name) se_Name) se_Name rfl rfl) rfl) (sts_one (st_ret (ev_sub (ev_sub (ev_fld (C := 7) (ev_name (i := 0) rfl (Or.inl rfl)) M.cl M.n0 rfl) (ev_name (i := 1) rfl (Or.inl rfl)) (ixU (CxOk.room c).units) (fun _ _ => rfl)) (ev_name (i := 2) rfl (Or.inl rfl)) (ixU (CxOk.room c).units) (fun _ _ => rfl)))))
end
end Vt

namespace Vt
open PySem PySem.Spec PyProof.Rows L2
section
variable {P : Program} {w : World} {K : PySem.W.Frag} {mg : Str → Option Value} {base : Heap} {cm : Nat → Addr} {we : Addr} {f fI : Addr} {fd fdI : FuncData} {psI : List Str}
theorem okm_unpair (M : Txt K mg cm we) (F : Fun K "unpair" "Chest.unpair" sm_unpair f fd)  : FnOk P w K mg base (L2.CX P w) 1 f fd ["self", "pair"] (spF K cm 2 Fm_unpair) :=
  okF (k := 0) F scm_unpair (by decide) fun cdv A outer s H E B Ψ c hp hcm => by
    subst hcm
    exact (sts_cons (st_if (ts_cmp (ev_name (i := 1) rfl (Or.inl rfl)) (ev_fld (C := 7) (ev_name (i := 0) rfl (Or.inl rfl)) M.cl M.n2 rfl) (bi_ninU (CxOk.room c).units) rfl) (sts_one (st_rs (C := 3) c M.x3 rfl)) sts_nil) (sts_one (st_expr (ev_dpop (ev_fld (C := 7) (ev_name (i := 0) rfl (Or.inl rfl)) M.cl M.n2 rfl) (ev_name (i := 1) rfl (Or.inl rfl)) ⟨rfl, rfl, rfl, rfl⟩) rfl)))
end
end Vt

namespace Vt
open PySem PySem.Spec PyProof.Rows L2
noncomputable abbrev lp_laid_0 : EF := (eLc1 (eName 1) (gSlot 3) bYes (eTup 2 (eThen (ePush (.str "make")) (eThen (ePush (.int 3)) eNil))) [3])
noncomputable abbrev lp_laid_1 : SF := (sFor1 (eName 1) (gSlot 3) (sSeq (sSet 5 (eBin (eBin (eName 3) (eName 4) (op2 kAdd)) (eName 1) (op2 kMod))) (sSeq (sSet 6 (eCall 3 Ff_law_mixed (eThen (eName 0) (eThen (eName 3) (eThen (ePush (.int 5)) eNil))))) (sSeq (sIf (tVal (eBin (eName 6) (ePush (.int 1)) (op2 kEq))) (sExpr (eMeth isLst (eName 2) (eThen (eThen (eTup 4 (eThen (ePush (.str "pair")) (eThen (eBin (eCall 3 Ff_law_mixed (eThen (eName 0) (eThen (eBin (eName 3) (ePush (.int 1)) (op2 kAdd)) (eThen (ePush (.int 2)) eNil)))) (eBin (eName 1) (ePush (.int 1)) (op2 kSub)) (op2 kMul)) (eThen (eThen (eName 3) eFrz) (eThen (eThen (eName 5) eFrz) eNil))))) eFrz) eNil) eAppend)) (sExpr (eMeth isLst (eName 2) (eThen (eThen (eTup 5 (eThen (ePush (.str "put")) (eThen (eThen (eName 3) eFrz) (eThen (eCall 3 Ff_law_mixed (eThen (eName 0) (eThen (eBin (eName 3) (ePush (.int 2)) (op2 kAdd)) (eThen (ePush (.int 3)) eNil)))) (eThen (eThen (eName 5) eFrz) (eThen (eBin (eName 6) (ePush (.int 0)) (op2 kGt)) eNil)))))) eFrz) eNil) eAppend))) (sIf (tVal (eBin (eCall 3 Ff_law_mixed (eThen (eName 0) (eThen (eBin (eName 3) (ePush (.int 3)) (op2 kAdd)) (eThen (ePush (.int 2)) eNil)))) (ePush (.int 1)) (op2 kEq))) (sSeq (sSet 7 (eBin (eLst 3 (eThen (eLst 1 (eThen (eTup 4 (eThen (ePush (.str "hang")) (eThen (eBin (eBin (eName 3) (ePush (.int 2)) (op2 kAdd)) (eName 1) (op2 kMod)) (eThen (ePush (.int 0)) (eThen (eBin (eName 6) (ePush (.int 1)) (op2 kGt)) eNil))))) eNil)) (eThen (eLst 1 (eThen (eTup 1 (eThen (ePush (.str "up")) eNil)) eNil)) (eThen (eLst 1 (eThen (eTup 2 (eThen (ePush (.str "down")) (eThen (ePush (.int 0)) eNil))) eNil)) eNil)))) (eBin (eName 6) (ePush (.int 3)) (op2 kMod)) eIx)) (sExpr (eMeth isLst (eName 2) (eThen (eThen (eTup 3 (eThen (ePush (.str "bequeath")) (eThen (eThen (eName 3) eFrz) (eThen (eThen (eName 7) eFrz) eNil)))) eFrz) eNil) eAppend))) sNil)))))
noncomputable abbrev lp_laid_2 : SF := (sFor1 (eName 1) (gSlot 3) (sIf (tVal (eBin (eCall 3 Ff_law_mixed (eThen (eName 0) (eThen (eBin (eName 3) (ePush (.int 4)) (op2 kAdd)) (eThen (ePush (.int 6)) eNil)))) (ePush (.int 0)) (op2 kGt))) (sExpr (eMeth isLst (eName 2) (eThen (eThen (eTup 2 (eThen (ePush (.str "drop")) (eThen (eThen (eName 3) eFrz) eNil))) eFrz) eNil) eAppend)) sNil))
noncomputable abbrev lp_cells_0 : EF := (eLc1 (eBin (ePush (.int 60)) (eBin (eBin (eName 1) (ePush (.int 12)) (op2 kFdiv)) (ePush (.int 60)) (op2 kMod)) (op2 kAdd)) (gSlot 2) bYes (eBin (eBin (eName 1) (ePush (.int 12)) (op2 kFdiv)) (eBin (ePush (.int 17)) (eName 2) (op2 kMul)) (op2 kAdd)) [2])
noncomputable abbrev lp_will_of_0 : SF := (sFor1 (eBin (eLst 7 (eThen (ePush (.int 1)) (eThen (ePush (.int 1)) (eThen (ePush (.int 2)) (eThen (ePush (.int 3)) (eThen (ePush (.int 9)) (eThen (ePush (.int 2)) (eThen (ePush (.int 1)) eNil)))))))) (eCall 3 Ff_law_mixed (eThen (eName 1) (eThen (ePush (.int 1)) (eThen (ePush (.int 7)) eNil)))) eIx) (gSlot 4) (sSeq (sSet 5 (eBin (eName 0) (eCall 3 Ff_law_mixed (eThen (eBin (eName 1) (eName 4) (op2 kAdd)) (eThen (ePush (.int 2)) (eThen (eThen (eThen (eName 0) eNil) (op1 kLen)) eNil)))) eIx)) (sSeq (sIf (tVal (eBin (eCall 3 Ff_law_mixed (eThen (eBin (eName 1) (eName 4) (op2 kAdd)) (eThen (ePush (.int 3)) (eThen (ePush (.int 9)) eNil)))) (ePush (.int 1)) (op2 kEq))) (sSet 5 (eBin (eLst 3 (eThen (eThen (eName 2) eFrz) (eThen (eBin (eName 2) (ePush (.int 7)) (op2 kAdd)) (eThen (ePush (.int 999999)) eNil)))) (eCall 3 Ff_law_mixed (eThen (eBin (eName 1) (eName 4) (op2 kAdd)) (eThen (ePush (.int 4)) (eThen (ePush (.int 3)) eNil)))) eIx)) sNil) (sSeq (sSet 6 (eCall 3 Ff_law_mixed (eThen (eBin (eName 1) (eName 4) (op2 kAdd)) (eThen (ePush (.int 5)) (eThen (ePush (.int 10)) eNil))))) (sIf (tVal (eBin (eName 6) (ePush (.int 3)) (op2 kLt))) (sExpr (eMeth isLst (eName 3) (eThen (eThen (eTup 1 (eThen (ePush (.str "up")) eNil)) eFrz) eNil) eAppend)) (sIf (tVal (eBin (eName 6) (ePush (.int 5)) (op2 kLt))) (sExpr (eMeth isLst (eName 3) (eThen (eThen (eTup 2 (eThen (ePush (.str "down")) (eThen (eThen (eName 5) eFrz) eNil))) eFrz) eNil) eAppend)) (sExpr (eMeth isLst (eName 3) (eThen (eThen (eTup 4 (eThen (ePush (.str "hang")) (eThen (eThen (eName 5) eFrz) (eThen (eCall 3 Ff_law_mixed (eThen (eBin (eName 1) (eName 4) (op2 kAdd)) (eThen (ePush (.int 6)) (eThen (ePush (.int 4)) eNil)))) (eThen (eBin (eName 6) (ePush (.int 8)) (op2 kLt)) eNil))))) eFrz) eNil) eAppend))))))))
noncomputable abbrev lp_known_0 : SF := (sForD (eBin (eName 0) (ePush (.int 1)) eIx) (gSlot 2) (sSub (ePush (.bl true)) (eName 1) (eName 2)))
noncomputable abbrev lp_known_1 : EF := (eLc kL (eThen (eBin (eName 0) (ePush (.int 2)) eIx) (op1 kVals)) (gSlot 5) (tAnd (tVal (eBin (eBin (eName 5) (ePush (.int 0)) eIx) (eName 1) (op2 kIn))) (tVal (eBin (eBin (eName 5) (ePush (.int 1)) eIx) (eName 1) (op2 kIn)))) (eBin (eName 5) (ePush (.int 2)) eIx) [5])
noncomputable abbrev lp_known_2 : EF := (eLc kL (eBin (eBin (eName 0) (ePush (.int 0)) eIx) (eName 2) eIx) (gSlot 5) (tAnd (tVal (eBin (eName 5) (ePush .non) (op2 kNotN))) (tTru (eBin (eName 5) (ePush (.int 1)) eIx))) (eBin (eName 5) (ePush (.int 0)) eIx) [5])
noncomputable abbrev lp_known_3 : SF := (sFor kL (eThen (eThen (eName 1) eNil) (op1 kList)) (gSlot 2) (sSet 4 (eBin (eName 4) (eLc kL (eBin (eBin (eName 0) (ePush (.int 0)) eIx) (eName 2) eIx) (gSlot 5) (tAnd (tVal (eBin (eName 5) (ePush .non) (op2 kNotN))) (tTru (eBin (eName 5) (ePush (.int 1)) eIx))) (eBin (eName 5) (ePush (.int 0)) eIx) [5]) (op2 kAdd))))
noncomputable abbrev lp_known_4 : SF := (sFor kL (eName 4) (gSlot 2) (sIf (tVal (eBin (eName 2) (eName 1) (op2 kNin))) (sSeq (sSub (ePush (.bl true)) (eName 1) (eName 2)) (sSet 3 (ePush (.bl true)))) sNil))
noncomputable abbrev lp_lawlost_0 : EF := (eLc kL (eThen (eThen (eBin (eName 0) (ePush (.int 0)) eIx) eNil) (op1 kSorted)) (gSlot 2) (tVal (eBin (eName 2) (eName 1) (op2 kNin))) (eThen (eName 2) eFrz) [2])
noncomputable abbrev lp_numbers_0 : SF := (sFor1 (eThen (eThen (eName 1) eNil) (op1 kLen)) (gSlot 2) (sIf (tOr (tNot (tTru (eCall 1 Ff_law_whole (eThen (eBin (eName 0) (eName 2) eIx) eNil)))) (tVal (eBin (eBin (eName 0) (eName 2) eIx) (eBin (eName 1) (eName 2) eIx) (op2 kNe)))) (sRet (ePush (.bl false))) sNil))
noncomputable abbrev lp_is_deed_0 : EF := (eLc2 (ePush (.int 1)) (eThen (eThen (eThen (eThen (eName 0) eNil) (op1 kLen)) (eThen (ePush (.int 3)) eNil)) (op2 kMin2)) (gSlot 1) bYes (eBin (eBin (eName 0) (eName 1) eIx) (ePush (.int 0)) (op2 kGe)) [1])
noncomputable abbrev lp_bequeath_0 : EF := (eLc kL (eName 2) (gSlot 3) bYes (eCall 1 Ff_is_deed (eThen (eName 3) eNil)) [3])
noncomputable abbrev lp_pair_0 : SF := (sFor kT (eTup 3 (eThen (eThen (eName 1) eFrz) (eThen (eThen (eName 2) eFrz) (eThen (eThen (eName 3) eFrz) eNil)))) (gSlot 4) (sExpr (eMet 7 "need_box" 2 Fm_need_box (eName 0) (eThen (eName 4) eNil))))
noncomputable abbrev lp_pairs_0 : EF := (eLc kL (eThen (eThen (eThen (eName 0) (eFldC 7 "paired")) eNil) (op1 kSorted)) (gSlot 1) bYes (eBin (eTup 1 (eThen (eThen (eName 1) eFrz) eNil)) (eBin (eThen (eName 0) (eFldC 7 "paired")) (eName 1) eIx) (op2 kAdd)) [1])
noncomputable abbrev lp_held_by_0 : SF := (sFor1 (eMet 7 "size" 2 Fm_size (eName 0) (eThen (eName 1) eNil)) (gSlot 3) (sSeq (sSet 4 (eMet 7 "told" 3 Fm_told (eName 0) (eThen (eName 1) (eThen (eName 3) eNil)))) (sIf (tAnd (tVal (eBin (eName 4) (ePush .non) (op2 kNotN))) (tTru (eBin (eName 4) (ePush (.int 1)) eIx))) (sExpr (eMeth isLst (eName 2) (eThen (eThen (eTup 2 (eThen (eThen (eName 3) eFrz) (eThen (eBin (eName 4) (ePush (.int 0)) eIx) eNil))) eFrz) eNil) eAppend)) sNil)))
noncomputable abbrev lp_next_row_0 : SF := (sFor kL (eCall 2 Ff_held_by (eThen (eName 0) (eThen (eBin (eName 3) (ePush (.int 0)) eIx) eNil))) (gTupW [(gSlot 4), (gSlot 5)]) (sIf (tVal (eBin (eName 5) (eName 2) (op2 kNin))) (sRet (eTup 2 (eThen (eThen (eName 5) eFrz) (eThen (eTup 3 (eThen (ePush (.str "slot")) (eThen (eBin (eName 3) (ePush (.int 0)) eIx) (eThen (eThen (eName 4) eFrz) eNil)))) eNil)))) sNil))
noncomputable abbrev lp_next_row_1 : SF := (sFor kL (eName 1) (gSlot 3) (sFor kL (eCall 2 Ff_held_by (eThen (eName 0) (eThen (eBin (eName 3) (ePush (.int 0)) eIx) eNil))) (gTupW [(gSlot 4), (gSlot 5)]) (sIf (tVal (eBin (eName 5) (eName 2) (op2 kNin))) (sRet (eTup 2 (eThen (eThen (eName 5) eFrz) (eThen (eTup 3 (eThen (ePush (.str "slot")) (eThen (eBin (eName 3) (ePush (.int 0)) eIx) (eThen (eThen (eName 4) eFrz) eNil)))) eNil)))) sNil)))
noncomputable abbrev lp_next_row_2 : SF := (sFor kL (eMet 7 "pairs" 1 Fm_pairs (eName 0) eNil) (gTupW [(gSlot 6), (gSlot 7), (gSlot 8), (gSlot 9)]) (sIf (tAnd (tVal (eBin (eName 7) (eName 2) (op2 kIn))) (tAnd (tVal (eBin (eName 8) (eName 2) (op2 kIn))) (tVal (eBin (eName 9) (eName 2) (op2 kNin))))) (sRet (eTup 2 (eThen (eThen (eName 9) eFrz) (eThen (eTup 2 (eThen (ePush (.str "pair")) (eThen (eThen (eName 6) eFrz) eNil))) eNil)))) sNil))
noncomputable abbrev lp_come_to_0 : EF := (eLc kL (eMet 7 "hands" 1 Fm_hands (eName 0) eNil) (gSlot 2) bYes (eTup 2 (eThen (eThen (eName 2) eFrz) (eThen (eTup 1 (eThen (ePush (.str "hand")) eNil)) eNil))) [2])
noncomputable abbrev lp_come_to_1 : SF := (sFor kL (eName 1) (gSlot 4) (sSub (ePush (.bl true)) (eName 3) (eBin (eName 4) (ePush (.int 0)) eIx)))
noncomputable abbrev lp_lost_0 : SF := (sFor kL (eCall 1 Ff_come_to (eThen (eName 0) eNil)) (gSlot 2) (sSub (ePush (.bl true)) (eName 1) (eBin (eName 2) (ePush (.int 0)) eIx)))
noncomputable abbrev lp_lost_1 : EF := (eLc kL (eMet 7 "boxes" 1 Fm_boxes (eName 0) eNil) (gSlot 3) (tVal (eBin (eName 3) (eName 1) (op2 kNin))) (eThen (eName 3) eFrz) [3])
noncomputable abbrev lp_law_0 : SF := (sFor1 (eThen (eThen (eName 4) eNil) (op1 kLen)) (gSlot 5) (sSeq (sSet 6 (eCall 2 Ff_law_deed_by (eThen (eBin (eName 4) (eName 5) eIx) (eThen (eName 2) eNil)))) (sSeq (sExpr (eCall 2 Ff_law_told (eThen (eName 1) (eThen (eName 6) eNil)))) (sSeq (sExpr (eCall 2 Ff_law_do (eThen (eName 2) (eThen (eName 6) eNil)))) (sIf (tOr (tVal (eBin (eBin (eName 5) (ePush (.int 3)) (op2 kMod)) (ePush (.int 2)) (op2 kEq))) (tVal (eBin (eName 5) (eBin (eThen (eThen (eName 4) eNil) (op1 kLen)) (ePush (.int 1)) (op2 kSub)) (op2 kEq)))) (sSeq (sSet 7 (eCall 1 Ff_law_lost (eThen (eName 2) eNil))) (sSeq (sSet 8 (eCall 1 Ff_lost (eThen (eName 1) eNil))) (sSeq (sIf (tNot (tTru (eCall 2 Ff_law_numbers (eThen (eName 8) (eThen (eName 7) eNil))))) (sRet (ePush (.bl false))) sNil) (sSeq (sExpr (eMeth isLst (eName 8) (eThen (eThen (eThen (ePush (.int 1)) (op1 kNeg)) eFrz) eNil) eAppend)) (sSeq (sExpr (eMeth isLst (eName 3) (eThen (eThen (eLst 2 (eThen (eThen (eName 8) eFrz) (eThen (eThen (eThen (eThen (eName 8) eNil) (op1 kList)) eFrz) eNil))) eFrz) eNil) eAppend)) (sIf (tNot (tTru (eCall 2 Ff_law_numbers (eThen (eCall 1 Ff_lost (eThen (eName 1) eNil)) (eThen (eName 7) eNil))))) (sRet (ePush (.bl false))) sNil)))))) sNil)))))
noncomputable abbrev lp_law_1 : EF := (eLc kL (eName 3) (gSlot 9) bYes (eBin (eBin (eName 9) (ePush (.int 0)) eIx) (eBin (eName 9) (ePush (.int 1)) eIx) (op2 kEq)) [9])
local macro_rules | `(tactic| wtm_at "V.run") => `(tactic| simp (config := { decide := false, maxSteps := 400000 }) only [ap_ePush, ap_eName, ap_eNil, ap_eThen, ap_eBin, ap_popB, ap_tVal, ap_popTr, ap_tTru, ap_tNot, ap_tAnd, ap_tOr, ap_eNot, ap_eAnd, ap_eOr, ap_eIf, ap_eDup, ap_eChain, ap_eLst, ap_eTup, ap_op2, ap_op1, ap_eIx, ap_eFld, ap_eCatO, ap_eFrz, ap_eMov, ap_eAppend, ap_eExtend, ap_ePop0, ap_eRemove, ap_eInsert, ap_eDpop, ap_eDget, ap_eFldC, ap_chk, ap_eMeth, ap_eSl, ap_sNil, ap_sSeq, ap_sSet, ap_sSub, ap_sAttr, ap_sExpr, ap_sRet, ap_sRetN, ap_sIf, ap_sBreak, ap_sCont, ap_sRaise, ap_bYes, ap_doCall, ap_eMet, ap_eMake, ap_eWord, ap_sTry, ap_eCall, ap_gSlot, ap_eCall, ap_gSlot, runDef, startE, outsOf, List.map_cons, List.map_nil, List.length_cons, List.length_nil, List.replicate, List.append_nil, List.cons_append, List.nil_append, List.zipWith_cons_cons, List.zipWith_nil_left, List.zipWith_nil_right, SR.then, RB.toS, Res.toS, optS, sPut, sFld, RB.bind, Res.bindB, RB.bindF, truT, Res.bind, takeOwn, Option.map_some, Option.map_none,
  List.getElem?_cons_zero, List.getElem?_cons_succ, List.getElem?_nil, look, rdE, Ent.tr, En.noal, En.free, Ent.noal, Ent.freeE, List.all_cons, List.all_nil, Bool.and_true, Bool.true_and, Bool.and_false, Bool.false_and, if_true, if_false, reduceIte, Bool.false_eq_true, Bool.not_true, Bool.not_false, decide_true, decide_false,
  List.set_cons_zero, List.set_cons_succ, putAt, T.put, T.at, splitN, takeR, giveR, isGone, List.reverse_cons, List.reverse_nil, mutL, Nat.reduceAdd, Nat.reduceSub, List.replicate_zero, List.replicate_succ, kidOf, T.kid, T.step, T.put1, T.data, chestT, cf_slots, cf_held, cf_paired, cf_wills, cf_coming, cf_nextp, cf_len, cp_slots, cp_held, cp_paired, cp_wills, cp_coming, cp_nextp,
  kNin_dct, kIn_dct, kEq_int, kLe_int, kLt_int, kGt_int, kGe_int, kAdd_int, tbl_get, tbl_len, tbl_put, tbl_drop, tbl_keys, Option.isSome_map, Option.isSome_some, Option.isSome_none, Bool.true_eq_false, and_true, true_and, and_self, and_false, false_and, rowT, deedsT, trueT, trioT, List.length_map, List.getElem?_map, put_row, put_true, put_trio, put_deeds, row_set, row_setN, slotT_data, deedT_data, datas_deeds, under, T.plain, plains_deeds, plains, T.frz, frzs_deeds, frzs, map_isEmpty, isDct, isLst, isStr, kList, kSorted, datas, List.tail_cons, rt2, wipeE, popI, accum, optR, lay0, Option.bind_some, Option.bind_none, kMin2, ix1_0, ix2_0, ix2_1, ix3_0, ix3_1, ix3_2, ix4_0, ix4_1, ix4_2, ix4_3, ix5_0, ix5_1, ix5_2, ix5_3, ix5_4, ix6_0, ix6_1, ix6_2, ix6_3, ix6_4, ix6_5, ix7_0, ix7_1, ix7_2, ix7_3, ix7_4, ix7_5, ix7_6, worldT, kSub, Int.add_sub_cancel, oSome, oNone, kSl, cut2_1, cut4_1, cut1_13, cut2_13, cut4_13, kEq_str, str_inj, str_beq, String.reduceEq, kIn, inT, T.flat, inF, eqF, List.any_cons, List.any_nil, Bool.or_false, Bool.false_or, Bool.true_or, Bool.or_true, Nat.reduceBEq, beq_self_eq_true, Nat.reduceLT, Nat.reduceLeDiff, Nat.reduceEqDiff, isi_ii, isi_ib, isi_bb, isi_ll, isi_tt, kNe_int, kNe_str, isN_non, isN_int, isN_tup, datas_ints, plains_ints, frzs_ints, lastJ_noal, lastJ_free, dropE, ci_need_box, ci_need_slot, ci_make, ci_boxes, ci_size, ci_put, ci_empty, ci_told, ci_take, ci_drop, ci_hands, ci_pair, ci_unpair, ci_pairs, ci_bequeath, ci_will, kLen_dct, kLen_lst, Bool.not_eq_true, *])
local macro_rules | `(tactic| wtm_at "V.loop") => `(tactic| simp (config := { decide := false, maxSteps := 400000 }) only [ap_ePush, ap_eName, ap_eNil, ap_eThen, ap_eBin, ap_popB, ap_tVal, ap_popTr, ap_tTru, ap_tNot, ap_tAnd, ap_tOr, ap_eNot, ap_eAnd, ap_eOr, ap_eIf, ap_eDup, ap_eChain, ap_eLst, ap_eTup, ap_op2, ap_op1, ap_eIx, ap_eFld, ap_eCatO, ap_eFrz, ap_eMov, ap_eAppend, ap_eExtend, ap_ePop0, ap_eRemove, ap_eInsert, ap_eDpop, ap_eDget, ap_eFldC, ap_chk, ap_eMeth, ap_eSl, ap_sNil, ap_sSeq, ap_sSet, ap_sSub, ap_sAttr, ap_sExpr, ap_sRet, ap_sRetN, ap_sIf, ap_sBreak, ap_sCont, ap_sRaise, ap_bYes, ap_doCall, ap_eMet, ap_eMake, ap_eWord, ap_sTry, ap_eCall, ap_gSlot, ap_eCall, ap_gSlot, runDef, startE, outsOf, List.map_cons, List.map_nil, List.length_cons, List.length_nil, List.replicate, List.append_nil, List.cons_append, List.nil_append, List.zipWith_cons_cons, List.zipWith_nil_left, List.zipWith_nil_right, SR.then, RB.toS, Res.toS, optS, sPut, sFld, RB.bind, Res.bindB, RB.bindF, truT, Res.bind, takeOwn, Option.map_some, Option.map_none,
  List.getElem?_cons_zero, List.getElem?_cons_succ, List.getElem?_nil, look, rdE, Ent.tr, En.noal, En.free, Ent.noal, Ent.freeE, List.all_cons, List.all_nil, Bool.and_true, Bool.true_and, Bool.and_false, Bool.false_and, if_true, if_false, reduceIte, Bool.false_eq_true, Bool.not_true, Bool.not_false, decide_true, decide_false,
  List.set_cons_zero, List.set_cons_succ, putAt, T.put, T.at, splitN, takeR, giveR, isGone, List.reverse_cons, List.reverse_nil, mutL, Nat.reduceAdd, Nat.reduceSub, List.replicate_zero, List.replicate_succ, kidOf, T.kid, T.step, T.put1, T.data, chestT, cf_slots, cf_held, cf_paired, cf_wills, cf_coming, cf_nextp, cf_len, cp_slots, cp_held, cp_paired, cp_wills, cp_coming, cp_nextp,
  kNin_dct, kIn_dct, kEq_int, kLe_int, kLt_int, kGt_int, kGe_int, kAdd_int, tbl_get, tbl_len, tbl_put, tbl_drop, tbl_keys, Option.isSome_map, Option.isSome_some, Option.isSome_none, Bool.true_eq_false, and_true, true_and, and_self, and_false, false_and, rowT, deedsT, trueT, trioT, List.length_map, List.getElem?_map, put_row, put_true, put_trio, put_deeds, row_set, row_setN, slotT_data, deedT_data, datas_deeds, under, T.plain, plains_deeds, plains, T.frz, frzs_deeds, frzs, map_isEmpty, isDct, isLst, isStr, kList, kSorted, datas, List.tail_cons, rt2, wipeE, popI, accum, optR, lay0, Option.bind_some, Option.bind_none, kMin2, ix1_0, ix2_0, ix2_1, ix3_0, ix3_1, ix3_2, ix4_0, ix4_1, ix4_2, ix4_3, ix5_0, ix5_1, ix5_2, ix5_3, ix5_4, ix6_0, ix6_1, ix6_2, ix6_3, ix6_4, ix6_5, ix7_0, ix7_1, ix7_2, ix7_3, ix7_4, ix7_5, ix7_6, worldT, kSub, Int.add_sub_cancel, oSome, oNone, kSl, cut2_1, cut4_1, cut1_13, cut2_13, cut4_13, kEq_str, str_inj, str_beq, String.reduceEq, kIn, inT, T.flat, inF, eqF, List.any_cons, List.any_nil, Bool.or_false, Bool.false_or, Bool.true_or, Bool.or_true, Nat.reduceBEq, beq_self_eq_true, Nat.reduceLT, Nat.reduceLeDiff, Nat.reduceEqDiff, isi_ii, isi_ib, isi_bb, isi_ll, isi_tt, kNe_int, kNe_str, isN_non, isN_int, isN_tup, datas_ints, plains_ints, frzs_ints, lastJ_noal, lastJ_free, dropE, ci_need_box, ci_need_slot, ci_make, ci_boxes, ci_size, ci_put, ci_empty, ci_told, ci_take, ci_drop, ci_hands, ci_pair, ci_unpair, ci_pairs, ci_bequeath, ci_will, ap_sFor, ap_sFor1, ap_sFor2, ap_sForS, ap_sForD, ap_eLc1, ap_eLc2, ap_eLcS, ap_eLcD, ap_eLc, many, manyE, forGo, rngGo, item, itemE, kT, kL, item2, many2, pushI, yes, lcGo, kLen_dct, kLen_lst, kAdd, kMinT, eq_self, kAll, allOf, T.toBl, T.toInt, List.all_cons, id, Bool.not_eq_true, *])
local macro_rules | `(tactic| wtm_at "V.runs") => `(tactic| simp (config := { decide := false, maxSteps := 400000 }) [ap_ePush, ap_eName, ap_eNil, ap_eThen, ap_eBin, ap_popB, ap_tVal, ap_popTr, ap_tTru, ap_tNot, ap_tAnd, ap_tOr, ap_eNot, ap_eAnd, ap_eOr, ap_eIf, ap_eDup, ap_eChain, ap_eLst, ap_eTup, ap_op2, ap_op1, ap_eIx, ap_eFld, ap_eCatO, ap_eFrz, ap_eMov, ap_eAppend, ap_eExtend, ap_ePop0, ap_eRemove, ap_eInsert, ap_eDpop, ap_eDget, ap_eFldC, ap_chk, ap_eMeth, ap_eSl, ap_sNil, ap_sSeq, ap_sSet, ap_sSub, ap_sAttr, ap_sExpr, ap_sRet, ap_sRetN, ap_sIf, ap_sBreak, ap_sCont, ap_sRaise, ap_bYes, ap_doCall, ap_eMet, ap_eMake, ap_eWord, ap_sTry, ap_eCall, ap_gSlot, ap_eCall, ap_gSlot, runDef, startE, outsOf, List.map_cons, List.map_nil, List.length_cons, List.length_nil, List.replicate, List.append_nil, List.cons_append, List.nil_append, List.zipWith_cons_cons, List.zipWith_nil_left, List.zipWith_nil_right, SR.then, RB.toS, Res.toS, optS, sPut, sFld, RB.bind, Res.bindB, RB.bindF, truT, Res.bind, takeOwn, Option.map_some, Option.map_none,
  List.getElem?_cons_zero, List.getElem?_cons_succ, List.getElem?_nil, look, rdE, Ent.tr, En.noal, En.free, Ent.noal, Ent.freeE, List.all_cons, List.all_nil, Bool.and_true, Bool.true_and, Bool.and_false, Bool.false_and, if_true, if_false, reduceIte, Bool.false_eq_true, Bool.not_true, Bool.not_false, decide_true, decide_false,
  List.set_cons_zero, List.set_cons_succ, putAt, T.put, T.at, splitN, takeR, giveR, isGone, List.reverse_cons, List.reverse_nil, mutL, Nat.reduceAdd, Nat.reduceSub, List.replicate_zero, List.replicate_succ, kidOf, T.kid, T.step, T.put1, T.data, chestT, cf_slots, cf_held, cf_paired, cf_wills, cf_coming, cf_nextp, cf_len, cp_slots, cp_held, cp_paired, cp_wills, cp_coming, cp_nextp,
  kNin_dct, kIn_dct, kEq_int, kLe_int, kLt_int, kGt_int, kGe_int, kAdd_int, tbl_get, tbl_len, tbl_put, tbl_drop, tbl_keys, Option.isSome_map, Option.isSome_some, Option.isSome_none, Bool.true_eq_false, and_true, true_and, and_self, and_false, false_and, rowT, deedsT, trueT, trioT, List.length_map, List.getElem?_map, put_row, put_true, put_trio, put_deeds, row_set, row_setN, slotT_data, deedT_data, datas_deeds, under, T.plain, plains_deeds, plains, T.frz, frzs_deeds, frzs, map_isEmpty, isDct, isLst, isStr, kList, kSorted, datas, List.tail_cons, rt2, wipeE, popI, accum, optR, lay0, Option.bind_some, Option.bind_none, kMin2, ix1_0, ix2_0, ix2_1, ix3_0, ix3_1, ix3_2, ix4_0, ix4_1, ix4_2, ix4_3, ix5_0, ix5_1, ix5_2, ix5_3, ix5_4, ix6_0, ix6_1, ix6_2, ix6_3, ix6_4, ix6_5, ix7_0, ix7_1, ix7_2, ix7_3, ix7_4, ix7_5, ix7_6, worldT, kSub, Int.add_sub_cancel, oSome, oNone, kSl, cut2_1, cut4_1, cut1_13, cut2_13, cut4_13, kEq_str, str_inj, str_beq, String.reduceEq, kIn, inT, T.flat, inF, eqF, List.any_cons, List.any_nil, Bool.or_false, Bool.false_or, Bool.true_or, Bool.or_true, Nat.reduceBEq, beq_self_eq_true, Nat.reduceLT, Nat.reduceLeDiff, Nat.reduceEqDiff, isi_ii, isi_ib, isi_bb, isi_ll, isi_tt, kNe_int, kNe_str, isN_non, isN_int, isN_tup, datas_ints, plains_ints, frzs_ints, lastJ_noal, lastJ_free, dropE, ci_need_box, ci_need_slot, ci_make, ci_boxes, ci_size, ci_put, ci_empty, ci_told, ci_take, ci_drop, ci_hands, ci_pair, ci_unpair, ci_pairs, ci_bequeath, ci_will, ap_sFor, ap_sFor1, ap_sFor2, ap_sForS, ap_sForD, ap_eLc1, ap_eLc2, ap_eLcS, ap_eLcD, ap_eLc, many, manyE, forGo, rngGo, item, itemE, kT, kL, item2, many2, pushI, yes, lcGo, ixN, kLen, kAll, allOf, T.toBl, T.toInt, In62, *])
theorem need_box_ok {c : CS} {b : Int} {xs} (h : gGet c.slots b = some xs) : Fm_need_box [chestT c, .int b] = .ok .non [chestT c, .int b] := by
  unfold Fm_need_box
  wtm_at "V.run"
theorem need_box_ex {c : CS} {b : Int} (h : gGet c.slots b = none) : Fm_need_box [chestT c, .int b] = .ex 0 [chestT c, .int b] := by
  unfold Fm_need_box
  wtm_at "V.run"
theorem need_slot_nb {c : CS} {b s : Int} (h : gGet c.slots b = none) : Fm_need_slot [chestT c, .int b, .int s] = .ex 0 [chestT c, .int b, .int s] := by
  have e := need_box_ex h
  unfold Fm_need_slot
  wtm_at "V.run"
theorem need_slot_ok {c : CS} {b s : Int} {xs} (h : gGet c.slots b = some xs) (h0 : 0 ≤ s) (h1 : s < xs.length) : Fm_need_slot [chestT c, .int b, .int s] = .ok .non [chestT c, .int b, .int s] := by
  have e := need_box_ok h
  unfold Fm_need_slot
  wtm_at "V.run"
theorem need_slot_lo {c : CS} {b s : Int} {xs} (h : gGet c.slots b = some xs) (h0 : ¬ 0 ≤ s) : Fm_need_slot [chestT c, .int b, .int s] = .ex 1 [chestT c, .int b, .int s] := by
  have e := need_box_ok h
  unfold Fm_need_slot
  wtm_at "V.run"
theorem need_slot_hi {c : CS} {b s : Int} {xs} (h : gGet c.slots b = some xs) (h0 : 0 ≤ s) (h1 : ¬ s < xs.length) : Fm_need_slot [chestT c, .int b, .int s] = .ex 1 [chestT c, .int b, .int s] := by
  have e := need_box_ok h
  unfold Fm_need_slot
  wtm_at "V.run"
theorem make_lo {c : CS} {z : Int} (h : ¬ 0 ≤ z) : Fm_make [chestT c, .int z] = .ex 1 [chestT c, .int z] := by
  unfold Fm_make
  wtm_at "V.run"
theorem make_hi {c : CS} {z : Int} (h : 0 ≤ z) (h1 : ¬ z ≤ 9) : Fm_make [chestT c, .int z] = .ex 1 [chestT c, .int z] := by
  unfold Fm_make
  wtm_at "V.run"
theorem make_many {c : CS} {z : Int} (h : 0 ≤ z) (h1 : z ≤ 9) (h2 : (c.slots.length : Int) = 60) : Fm_make [chestT c, .int z] = .ex 5 [chestT c, .int z] := by
  unfold Fm_make
  wtm_at "V.run"
theorem make_ok {c : CS} {z : Int} (h : 0 ≤ z) (h1 : z ≤ 9) (h2 : ¬ (c.slots.length : Int) = 60) (h3 : c.slots.length < lineA) (h4 : c.held.length < lineA) : Fm_make [chestT c, .int z] = .ok (.int c.coming) [chestT (c.make z), .int z] := by
  have e := kMul_none h h1
  have e1 : decide (6 < 1000) = true := rfl
  have e2 : (1 : Nat) ≤ sizeLine := by decide
  unfold Fm_make
  wtm_at "V.run"
  rfl
theorem take_ok {c : CS} {b : Int} {xs} (h : gGet c.slots b = some xs) (h4 : c.held.length < lineA) : Fm_take [chestT c, .int b] = .ok .non [chestT (c.take b), .int b] := by
  have e := need_box_ok h
  unfold Fm_take
  wtm_at "V.run"
  rfl
theorem take_ex {c : CS} {b : Int} (h : gGet c.slots b = none) : Fm_take [chestT c, .int b] = .ex 0 [chestT c, .int b] := by
  have e := need_box_ex h
  unfold Fm_take
  wtm_at "V.run"
theorem drop_ok {c : CS} {b : Int} {xs u} (h : gGet c.slots b = some xs) (h1 : gGet c.held b = some u) : Fm_drop [chestT c, .int b] = .ok .non [chestT (c.drop b), .int b] := by
  have e := need_box_ok h
  unfold Fm_drop
  wtm_at "V.run"
  rfl
theorem drop_nh {c : CS} {b : Int} {xs} (h : gGet c.slots b = some xs) (h1 : gGet c.held b = none) : Fm_drop [chestT c, .int b] = .ex 2 [chestT c, .int b] := by
  have e := need_box_ok h
  unfold Fm_drop
  wtm_at "V.run"
theorem drop_ex {c : CS} {b : Int} (h : gGet c.slots b = none) : Fm_drop [chestT c, .int b] = .ex 0 [chestT c, .int b] := by
  have e := need_box_ex h
  unfold Fm_drop
  wtm_at "V.run"
theorem unpair_ok {c : CS} {n : Int} {p} (h : gGet c.paired n = some p) : Fm_unpair [chestT c, .int n] = .ok .non [chestT (c.unpair n), .int n] := by
  unfold Fm_unpair
  wtm_at "V.run"
  rfl
theorem unpair_ex {c : CS} {n : Int} (h : gGet c.paired n = none) : Fm_unpair [chestT c, .int n] = .ex 3 [chestT c, .int n] := by
  unfold Fm_unpair
  wtm_at "V.run"
theorem put_nb {c : CS} {b s o : Int} {h : Bool} (hb : gGet c.slots b = none) : Fm_put [chestT c, .int b, .int s, .int o, .bl h] = .ex 0 [chestT c, .int b, .int s, .int o, .bl h] := by
  have e := need_slot_nb (s := s) hb
  unfold Fm_put
  wtm_at "V.run"
theorem put_lo {c : CS} {b s o : Int} {h : Bool} {xs} (hb : gGet c.slots b = some xs) (h0 : ¬ 0 ≤ s) : Fm_put [chestT c, .int b, .int s, .int o, .bl h] = .ex 1 [chestT c, .int b, .int s, .int o, .bl h] := by
  have e := need_slot_lo hb h0
  unfold Fm_put
  wtm_at "V.run"
theorem put_hi {c : CS} {b s o : Int} {h : Bool} {xs} (hb : gGet c.slots b = some xs) (h0 : 0 ≤ s) (h1 : ¬ s < xs.length) : Fm_put [chestT c, .int b, .int s, .int o, .bl h] = .ex 1 [chestT c, .int b, .int s, .int o, .bl h] := by
  have e := need_slot_hi hb h0 h1
  unfold Fm_put
  wtm_at "V.run"
theorem put_no {c : CS} {b s o : Int} {h : Bool} {xs} (hb : gGet c.slots b = some xs) (h0 : 0 ≤ s) (h1 : s < xs.length) (h2 : gGet c.slots o = none) : Fm_put [chestT c, .int b, .int s, .int o, .bl h] = .ex 0 [chestT c, .int b, .int s, .int o, .bl h] := by
  have e := need_slot_ok hb h0 h1
  have e2 := need_box_ex h2
  unfold Fm_put
  wtm_at "V.run"
theorem put_ok {c : CS} {b s o : Int} {h : Bool} {xs ys} (hb : gGet c.slots b = some xs) (h0 : 0 ≤ s) (h1 : s < xs.length) (h2 : gGet c.slots o = some ys) : Fm_put [chestT c, .int b, .int s, .int o, .bl h] = .ok .non [chestT (c.setSlot b xs s (some (o, h))), .int b, .int s, .int o, .bl h] := by
  have e := need_slot_ok hb h0 h1
  have e2 := need_box_ok h2
  have e3 := ixN_in h0 h1
  have e4 : (2 : Nat) ≤ sizeLine := by decide
  unfold Fm_put
  wtm_at "V.run"
  rfl
theorem empty_ok {c : CS} {b s : Int} {xs} (hb : gGet c.slots b = some xs) (h0 : 0 ≤ s) (h1 : s < xs.length) : Fm_empty [chestT c, .int b, .int s] = .ok .non [chestT (c.setSlot b xs s none), .int b, .int s] := by
  have e := need_slot_ok hb h0 h1
  have e3 := ixN_in h0 h1
  unfold Fm_empty
  wtm_at "V.run"
  rfl
theorem told_ok {c : CS} {b s : Int} {xs v} (hb : gGet c.slots b = some xs) (h0 : 0 ≤ s) (h1 : s < xs.length) (h2 : xs[s.toNat]? = some v) : Fm_told [chestT c, .int b, .int s] = .ok (slotT v) [chestT c, .int b, .int s] := by
  have e := need_slot_ok hb h0 h1
  have e3 := ixN_in h0 h1
  unfold Fm_told
  wtm_at "V.run"
theorem size_ok {c : CS} {b : Int} {xs} (hb : gGet c.slots b = some xs) : Fm_size [chestT c, .int b] = .ok (.int xs.length) [chestT c, .int b] := by
  have e := need_box_ok hb
  unfold Fm_size
  wtm_at "V.run"
theorem boxes_ok {c : CS} (h : c.slots.length < 64) : Fm_boxes [chestT c] = .ok (.lst .mu ((srt (c.slots.map (·.1))).map .int)) [chestT c] := by
  unfold Fm_boxes
  wtm_at "V.run"
theorem hands_ok {c : CS} (h : c.held.length < 64) : Fm_hands [chestT c] = .ok (.lst .mu ((srt (c.held.map (·.1))).map .int)) [chestT c] := by
  unfold Fm_hands
  wtm_at "V.run"

/-! pair, pairs -/
theorem pair_many {c : CS} {a b d : Int} {xa xb xd} (ha : gGet c.slots a = some xa) (hb : gGet c.slots b = some xb) (hd : gGet c.slots d = some xd) (h : (c.paired.length : Int) = 60) : Fm_pair [chestT c, .int a, .int b, .int d] = .ex 5 [chestT c, .int a, .int b, .int d] := by
  have e1 := need_box_ok ha
  have e2 := need_box_ok hb
  have e3 := need_box_ok hd
  have e4 : (3 : Nat) ≤ sizeLine := by decide
  unfold Fm_pair
  wtm_at "V.loop"
theorem pair_a {c : CS} {a b d : Int} (ha : gGet c.slots a = none) : Fm_pair [chestT c, .int a, .int b, .int d] = .ex 0 [chestT c, .int a, .int b, .int d] := by
  have e1 := need_box_ex ha
  have e4 : (3 : Nat) ≤ sizeLine := by decide
  unfold Fm_pair
  wtm_at "V.loop"
theorem pair_b {c : CS} {a b d : Int} {xa} (ha : gGet c.slots a = some xa) (hb : gGet c.slots b = none) : Fm_pair [chestT c, .int a, .int b, .int d] = .ex 0 [chestT c, .int a, .int b, .int d] := by
  have e1 := need_box_ok ha
  have e2 := need_box_ex hb
  have e4 : (3 : Nat) ≤ sizeLine := by decide
  unfold Fm_pair
  wtm_at "V.loop"
theorem pair_d {c : CS} {a b d : Int} {xa xb} (ha : gGet c.slots a = some xa) (hb : gGet c.slots b = some xb) (hd : gGet c.slots d = none) : Fm_pair [chestT c, .int a, .int b, .int d] = .ex 0 [chestT c, .int a, .int b, .int d] := by
  have e1 := need_box_ok ha
  have e2 := need_box_ok hb
  have e3 := need_box_ex hd
  have e4 : (3 : Nat) ≤ sizeLine := by decide
  unfold Fm_pair
  wtm_at "V.loop"
theorem pair_ok {c : CS} {a b d : Int} {xa xb xd} (ha : gGet c.slots a = some xa) (hb : gGet c.slots b = some xb) (hd : gGet c.slots d = some xd) (h : ¬ (c.paired.length : Int) = 60) (hl : c.paired.length < lineA) : Fm_pair [chestT c, .int a, .int b, .int d] = .ok (.int c.nextp) [chestT (c.pair (a, b, d)), .int a, .int b, .int d] := by
  have e1 := need_box_ok ha
  have e2 := need_box_ok hb
  have e3 := need_box_ok hd
  have e4 : (3 : Nat) ≤ sizeLine := by decide
  unfold Fm_pair
  wtm_at "V.loop"
  rfl

def Deed.ok : Deed → Bool
  | .up => true
  | .down n => decide (0 ≤ n)
  | .hang n m _ => decide (0 ≤ n) && decide (0 ≤ m)
theorem is_deed_ok {d : Deed} : Ff_is_deed [deedT d] = .ok (.bl d.ok) [deedT d] := by
  have e : (2 : Nat) < lineA := by decide
  have e0 : (0 : Nat) < lineA := by decide
  have e1 : (1 : Nat) < lineA := by decide
  cases d with
  | up =>
    unfold Ff_is_deed deedT Deed.ok
    wtm_at "V.runs"
  | down n =>
    unfold Ff_is_deed deedT Deed.ok
    wtm_at "V.runs"
  | hang n m h =>
    unfold Ff_is_deed deedT Deed.ok
    wtm_at "V.runs"

theorem item_deeds {ds : List Deed} {j : Nat} (h : j < ds.length) : (ds.map deedT)[j]? = some (deedT (ds[j]'h)) := by
  rw [List.getElem?_map, List.getElem?_eq_getElem h]; rfl
theorem beq_lc {c : CS} {b : Int} {ds : List Deed} (hn : ds.length < lineA) : eLc kL (eName 2) (gSlot 3) bYes (eCall 1 Ff_is_deed (eThen (eName 3) eNil)) [3] ⟨[.own (.ins 7 (chestF c)), .own (.int b), .own (.lst .mu (ds.map deedT)), .emp], []⟩ = .ok ⟨[.own (.ins 7 (chestF c)), .own (.int b), .own (.lst .mu (ds.map deedT)), .emp], [.own (.lst .mu (ds.map fun d => .bl d.ok))]⟩ := by
  have h := eLc_run (kd := kL) (fe := eName 2) (g := gSlot 3) (cf := bYes) (elt := eCall 1 Ff_is_deed (eThen (eName 3) eNil)) (ws := [3]) (δ := ⟨[.own (.ins 7 (chestF c)), .own (.int b), .own (.lst .mu (ds.map deedT)), .emp], []⟩) (n := ds.length) (st := []) (e := .al 2 []) (sl := [.own (.ins 7 (chestF c)), .own (.int b), .own (.lst .mu (ds.map deedT)), .emp])
    (fun _ => [.own (.ins 7 (chestF c)), .own (.int b), .own (.lst .mu (ds.map deedT)), .emp]) (fun j => [.bl (ds.getD j .up).ok]) rfl rfl (by show some (ds.map deedT).length = _; rw [List.length_map]) hn (fun _ => Nat.le_refl _) (by show some (ds.map deedT).length = _; rw [List.length_map]) (fun j acc hj ha => by
      have e := item_deeds hj
      have e2 := is_deed_ok (d := ds[j])
      have e3 : ds.getD j .up = ds[j] := by rw [List.getD_eq_getElem?_getD, List.getElem?_eq_getElem hj]; rfl
      rw [e3]
      unfold lcTurn item2 itemE kL
      wtm_at "V.run")
  rw [h, flatMap_one, range_get (g := fun d : Deed => T.bl d.ok)]
  intro j a ha
  rw [List.getD_eq_getElem?_getD, ha]; rfl
theorem all_bls {ds : List Deed} : kAll (.lst .mu (ds.map fun d => .bl d.ok)) = some (.bl (ds.all Deed.ok)) := by
  unfold kAll
  have : allOf T.toBl (ds.map fun d => T.bl d.ok) = some (ds.map Deed.ok) := by
    have := allOf_map (f := T.toBl) (g := T.bl) (fun _ => rfl) (ds.map Deed.ok)
    rw [List.map_map] at this
    exact this
  show Option.map _ (allOf T.toBl (ds.map fun d => T.bl d.ok)) = _
  rw [this]
  show some (T.bl ((ds.map Deed.ok).all id)) = _
  rw [List.all_map]; rfl
theorem deeds_tru {ds : List Deed} : truT (.lst .mu (ds.map deedT)) = some (!ds.isEmpty) := by cases ds <;> rfl
theorem beq_nb {c : CS} {b : Int} {ds : List Deed} (h : gGet c.slots b = none) : Fm_bequeath [chestT c, .int b, .lst .mu (ds.map deedT)] = .ex 0 [chestT c, .int b, .lst .mu (ds.map deedT)] := by
  have e := need_box_ex h
  unfold Fm_bequeath
  wtm_at "V.run"
theorem beq_long {c : CS} {b : Int} {ds : List Deed} {xs} (h : gGet c.slots b = some xs) (h9 : (9 : Int) < ds.length) : Fm_bequeath [chestT c, .int b, .lst .mu (ds.map deedT)] = .ex 4 [chestT c, .int b, .lst .mu (ds.map deedT)] := by
  have e := need_box_ok h
  unfold Fm_bequeath
  wtm_at "V.run"
theorem beq_bad {c : CS} {b : Int} {ds : List Deed} {xs} (h : gGet c.slots b = some xs) (h9 : ¬ (9 : Int) < ds.length) (hb : ds.all Deed.ok = false) (hn : ds.length < lineA) : Fm_bequeath [chestT c, .int b, .lst .mu (ds.map deedT)] = .ex 4 [chestT c, .int b, .lst .mu (ds.map deedT)] := by
  have e := need_box_ok h
  have e2 := beq_lc (c := c) (b := b) hn
  have e3 := all_bls (ds := ds)
  unfold Fm_bequeath
  wtm_at "V.run"
theorem beq_set {c : CS} {b : Int} {ds : List Deed} {xs} (h : gGet c.slots b = some xs) (h9 : ¬ (9 : Int) < ds.length) (hb : ds.all Deed.ok = true) (hn : ds.length < lineA) (h0 : ds.isEmpty = false) (hw : c.wills.length < lineA) : Fm_bequeath [chestT c, .int b, .lst .mu (ds.map deedT)] = .ok .non [chestT (c.setWill b ds), .int b, .lst .mu (ds.map deedT)] := by
  have e := need_box_ok h
  have e2 := beq_lc (c := c) (b := b) hn
  have e3 := all_bls (ds := ds)
  have e4 := deeds_tru (ds := ds)
  unfold Fm_bequeath
  wtm_at "V.run"
  simp only [CS.setWill, if_neg (show ¬ ds = [] by rintro rfl; simp at h0)]
theorem beq_none {c : CS} {b : Int} {xs} (h : gGet c.slots b = some xs) (h1 : gGet c.wills b = none) : Fm_bequeath [chestT c, .int b, .lst .mu []] = .ok .non [chestT c, .int b, .lst .mu []] := by
  have e := need_box_ok h
  have e2 := beq_lc (c := c) (b := b) (ds := []) (by decide)
  have e3 := all_bls (ds := [])
  simp only [List.map_nil, List.all_nil] at e2 e3
  unfold Fm_bequeath
  wtm_at "V.runs"
theorem beq_drop {c : CS} {b : Int} {xs ds} (h : gGet c.slots b = some xs) (h1 : gGet c.wills b = some ds) : Fm_bequeath [chestT c, .int b, .lst .mu []] = .ok .non [chestT (c.setWill b []), .int b, .lst .mu []] := by
  have e := need_box_ok h
  have e2 := beq_lc (c := c) (b := b) (ds := []) (by decide)
  have e3 := all_bls (ds := [])
  simp only [List.map_nil, List.all_nil] at e2 e3
  unfold Fm_bequeath
  wtm_at "V.runs"
  simp [CS.setWill]

def rowP (c : CS) (n : Int) : T := .tup [.int n, .int ((gGet c.paired n).getD (0, 0, 0)).1, .int ((gGet c.paired n).getD (0, 0, 0)).2.1, .int ((gGet c.paired n).getD (0, 0, 0)).2.2]
def pairsT (c : CS) : List T := (srt (c.paired.map (·.1))).map (rowP c)
theorem srt_int_at {l : List Int} {j : Nat} (h : j < (srt l).length) : ((srt l).map T.int)[j]? = some (.int ((srt l)[j]'h)) := by
  rw [List.getElem?_map, List.getElem?_eq_getElem h]; rfl
theorem paired_at {c : CS} {j : Nat} (h : j < (srt (c.paired.map (·.1))).length) : gGet c.paired ((srt (c.paired.map (·.1)))[j]'h) = some ((gGet c.paired ((srt (c.paired.map (·.1)))[j]'h)).getD (0, 0, 0)) := by
  have hm : (srt (c.paired.map (·.1)))[j]'h ∈ c.paired.map (·.1) := mem_srt.mp (List.getElem_mem h)
  cases z : gGet c.paired ((srt (c.paired.map (·.1)))[j]'h) with
  | none => exact absurd hm (gGet_none.mp z)
  | some p => rfl
theorem pairs_ok {c : CS} (h : c.paired.length < 64) : Fm_pairs [chestT c] = .ok (.lst .mu (pairsT c)) [chestT c] := by
  have e2 : (1 : Nat) ≤ sizeLine := by decide
  have e4 : 1 + 3 ≤ sizeLine := by decide
  have hln : (srt (c.paired.map (·.1))).length = c.paired.length := by rw [srt_length, List.length_map]
  have hl := eLc_run (kd := kL) (fe := eThen (eThen (eThen (eName 0) (eFldC 7 "paired")) eNil) (op1 kSorted)) (g := gSlot 1) (cf := bYes) (elt := eBin (eTup 1 (eThen (eThen (eName 1) eFrz) eNil)) (eBin (eThen (eName 0) (eFldC 7 "paired")) (eName 1) eIx) (op2 kAdd)) (ws := [1]) (δ := ⟨[.own (.ins 7 (chestF c)), .emp], []⟩) (n := (srt (c.paired.map (·.1))).length) (st := []) (e := .own (.lst .mu ((srt (c.paired.map (·.1))).map .int))) (sl := [.own (.ins 7 (chestF c)), .emp])
    (fun _ => [.own (.ins 7 (chestF c)), .emp]) (fun j => [rowP c ((srt (c.paired.map (·.1))).getD j 0)]) (by wtm_at "V.run") rfl (by show some _ = _; rw [List.length_map]) (by rw [hln]; have : lineA = 1000000 := rfl; omega) (fun _ => Nat.le_refl _) (by show some _ = _; rw [List.length_map]) (fun j acc hj ha => by
      have e := srt_int_at hj
      have e3 : (srt (c.paired.map (·.1))).getD j 0 = (srt (c.paired.map (·.1)))[j] := by rw [List.getD_eq_getElem?_getD, List.getElem?_eq_getElem hj]; rfl
      have e5 := paired_at hj
      rw [e3]
      unfold rowP
      generalize (srt (c.paired.map (·.1)))[j]'hj = n at e e5 ⊢
      generalize (gGet c.paired n).getD (0, 0, 0) = p at e5 ⊢
      unfold lcTurn item2 itemE kL kAdd
      wtm_at "V.run")
  unfold Fm_pairs
  wtm_at "V.run"
  rw [flatMap_one, ← hln, range_get (g := rowP c)]
  · rfl
  · intro j a ha
    rw [List.getD_eq_getElem?_getD, ha]; rfl

theorem minI_deed {n m : Int} : (decide (minI n [m, 0] = 0)) = (decide (0 ≤ n) && decide (0 ≤ m)) := by
  unfold minI minI minI
  by_cases h1 : 0 ≤ n <;> by_cases h2 : 0 ≤ m <;> simp [h1, h2] <;> (repeat' split) <;> omega
theorem minI_one {n : Int} : (decide (minI n [0] = 0)) = decide (0 ≤ n) := by
  unfold minI minI
  by_cases h1 : 0 ≤ n <;> simp [h1] <;> (repeat' split) <;> omega
theorem wb_lc {c : CS} {b : Int} {ds : List Deed} (hn : ds.length < lineA) : eLc kL (eBin (eName 1) (ePush (.int 2)) eIx) (gSlot 2) bYes (eBin (eThen (eThen (eBin (eSl (eName 2) (oSome (ePush (.int 1))) (oSome (ePush (.int 3)))) (eTup 1 (eThen (ePush (.int 0)) eNil)) (op2 kAdd)) eNil) (op1 kMinT)) (ePush (.int 0)) (op2 kEq)) [2]
    ⟨[.own (worldT c), .own (.tup [.str "bequeath", .int b, .lst .fz (ds.map deedT)]), .emp], []⟩ = .ok ⟨[.own (worldT c), .own (.tup [.str "bequeath", .int b, .lst .fz (ds.map deedT)]), .emp], [.own (.lst .mu (ds.map fun d => .bl d.ok))]⟩ := by
  have e1 : (1 : Nat) ≤ sizeLine := by decide
  have a0 : 0 + 1 ≤ sizeLine := by decide
  have a1 : 1 + 1 ≤ sizeLine := by decide
  have a2 : 2 + 1 ≤ sizeLine := by decide
  have a3 : (3 : Nat) ≤ sizeLine := by decide
  have a4 : (2 : Nat) ≤ sizeLine := by decide
  have h := eLc_run (kd := kL) (fe := eBin (eName 1) (ePush (.int 2)) eIx) (g := gSlot 2) (cf := bYes) (elt := eBin (eThen (eThen (eBin (eSl (eName 2) (oSome (ePush (.int 1))) (oSome (ePush (.int 3)))) (eTup 1 (eThen (ePush (.int 0)) eNil)) (op2 kAdd)) eNil) (op1 kMinT)) (ePush (.int 0)) (op2 kEq)) (ws := [2]) (δ := ⟨[.own (worldT c), .own (.tup [.str "bequeath", .int b, .lst .fz (ds.map deedT)]), .emp], []⟩) (n := ds.length) (st := []) (e := .own (.lst .fz (ds.map deedT))) (sl := [.own (worldT c), .own (.tup [.str "bequeath", .int b, .lst .fz (ds.map deedT)]), .emp])
    (fun _ => [.own (worldT c), .own (.tup [.str "bequeath", .int b, .lst .fz (ds.map deedT)]), .emp]) (fun j => [.bl (ds.getD j .up).ok]) (by wtm_at "V.run") (by wtm_at "V.run") (by show some (ds.map deedT).length = _; rw [List.length_map]) hn (fun _ => Nat.le_refl _) (by show some (ds.map deedT).length = _; rw [List.length_map]) (fun j acc hj ha => by
      have e := item_deeds hj
      have e3 : ds.getD j .up = ds[j] := by rw [List.getD_eq_getElem?_getD, List.getElem?_eq_getElem hj]; rfl
      rw [e3]
      generalize ds[j]'hj = d at e ⊢
      unfold lcTurn item2 itemE kL
      cases d with
      | up =>
        simp only [deedT] at e
        have hk : Deed.ok .up = true := rfl
        have hm : minI 0 [] = 0 := rfl
        wtm_at "V.loop"
      | down n =>
        simp only [deedT] at e
        have hk : Deed.ok (.down n) = decide (minI n [0] = 0) := minI_one.symm
        wtm_at "V.loop"
      | hang n m hh =>
        simp only [deedT] at e
        have hk : Deed.ok (.hang n m hh) = decide (minI n [m, 0] = 0) := minI_deed.symm
        wtm_at "V.loop")
  rw [h, flatMap_one, range_get (g := fun d : Deed => T.bl d.ok)]
  intro j a ha
  rw [List.getD_eq_getElem?_getD, ha]; rfl
theorem len9 {ds : List Deed} : (ds.length : Int) = 0 ↔ ds = [] := by cases ds <;> simp <;> omega
abbrev beqT (b : Int) (ds : List Deed) : T := .tup [.str "bequeath", .int b, .lst .fz (ds.map deedT)]
theorem drop_put {α : Type} {l : List (Int × α)} {k : Int} {v : α} : gDrop (gPut l k v) k = gDrop l k := by
  unfold gDrop gPut
  split
  · rw [List.filter_map]
    have : ∀ p ∈ l.filter ((fun p : Int × α => decide (p.1 ≠ k)) ∘ fun p => if p.1 = k then (p.1, v) else p), (if p.1 = k then (p.1, v) else p) = p := fun p hp => by
      have := (List.mem_filter.mp hp).2
      by_cases e : p.1 = k
      · simp [e] at this
      · rw [if_neg e]
    rw [List.map_congr_left this, List.map_id'']
    · apply List.filter_congr
      intro p _
      show decide ((if p.1 = k then (p.1, v) else p).1 ≠ k) = _
      by_cases e : p.1 = k <;> simp [e]
    · intro p; rfl
  · rw [List.filter_append]; simp
theorem told_put {c c' : CS} {b s o : Int} {h : Bool} {r : T} (e : Fm_put [chestT c, .int b, .int s, .int o, .bl h] = .ok r [chestT c', .int b, .int s, .int o, .bl h]) : Ff_law_told [chestT c, .tup [.str "put", .int b, .int s, .int o, .bl h]] = .ok r [chestT c', .tup [.str "put", .int b, .int s, .int o, .bl h]] := by
  unfold Ff_law_told
  wtm_at "V.run"
theorem told_putX {c : CS} {b s o : Int} {h : Bool} {k : Nat} (e : Fm_put [chestT c, .int b, .int s, .int o, .bl h] = .ex k [chestT c, .int b, .int s, .int o, .bl h]) : Ff_law_told [chestT c, .tup [.str "put", .int b, .int s, .int o, .bl h]] = .ex k [chestT c, .tup [.str "put", .int b, .int s, .int o, .bl h]] := by
  unfold Ff_law_told
  wtm_at "V.run"
theorem told_empty {c c' : CS} {b s : Int} {r : T} (e : Fm_empty [chestT c, .int b, .int s] = .ok r [chestT c', .int b, .int s]) : Ff_law_told [chestT c, .tup [.str "empty", .int b, .int s]] = .ok r [chestT c', .tup [.str "empty", .int b, .int s]] := by
  unfold Ff_law_told
  wtm_at "V.run"
theorem told_emptyX {c : CS} {b s : Int} {k : Nat} (e : Fm_empty [chestT c, .int b, .int s] = .ex k [chestT c, .int b, .int s]) : Ff_law_told [chestT c, .tup [.str "empty", .int b, .int s]] = .ex k [chestT c, .tup [.str "empty", .int b, .int s]] := by
  unfold Ff_law_told
  wtm_at "V.run"
theorem told_take {c c' : CS} {b : Int} {r : T} (e : Fm_take [chestT c, .int b] = .ok r [chestT c', .int b]) : Ff_law_told [chestT c, .tup [.str "take", .int b]] = .ok r [chestT c', .tup [.str "take", .int b]] := by
  unfold Ff_law_told
  wtm_at "V.run"
theorem told_takeX {c : CS} {b : Int} {k : Nat} (e : Fm_take [chestT c, .int b] = .ex k [chestT c, .int b]) : Ff_law_told [chestT c, .tup [.str "take", .int b]] = .ex k [chestT c, .tup [.str "take", .int b]] := by
  unfold Ff_law_told
  wtm_at "V.run"
theorem told_drop {c c' : CS} {b : Int} {r : T} (e : Fm_drop [chestT c, .int b] = .ok r [chestT c', .int b]) : Ff_law_told [chestT c, .tup [.str "drop", .int b]] = .ok r [chestT c', .tup [.str "drop", .int b]] := by
  unfold Ff_law_told
  wtm_at "V.run"
theorem told_dropX {c : CS} {b : Int} {k : Nat} (e : Fm_drop [chestT c, .int b] = .ex k [chestT c, .int b]) : Ff_law_told [chestT c, .tup [.str "drop", .int b]] = .ex k [chestT c, .tup [.str "drop", .int b]] := by
  unfold Ff_law_told
  wtm_at "V.run"
theorem told_pair {c c' : CS} {a b d : Int} {r : T} (e : Fm_pair [chestT c, .int a, .int b, .int d] = .ok r [chestT c', .int a, .int b, .int d]) : Ff_law_told [chestT c, .tup [.str "pair", .int a, .int b, .int d]] = .ok r [chestT c', .tup [.str "pair", .int a, .int b, .int d]] := by
  unfold Ff_law_told
  wtm_at "V.run"
theorem told_pairX {c : CS} {a b d : Int} {k : Nat} (e : Fm_pair [chestT c, .int a, .int b, .int d] = .ex k [chestT c, .int a, .int b, .int d]) : Ff_law_told [chestT c, .tup [.str "pair", .int a, .int b, .int d]] = .ex k [chestT c, .tup [.str "pair", .int a, .int b, .int d]] := by
  unfold Ff_law_told
  wtm_at "V.run"
theorem told_unpair {c c' : CS} {n : Int} {r : T} (e : Fm_unpair [chestT c, .int n] = .ok r [chestT c', .int n]) : Ff_law_told [chestT c, .tup [.str "unpair", .int n]] = .ok r [chestT c', .tup [.str "unpair", .int n]] := by
  unfold Ff_law_told
  wtm_at "V.run"
theorem told_unpairX {c : CS} {n : Int} {k : Nat} (e : Fm_unpair [chestT c, .int n] = .ex k [chestT c, .int n]) : Ff_law_told [chestT c, .tup [.str "unpair", .int n]] = .ex k [chestT c, .tup [.str "unpair", .int n]] := by
  unfold Ff_law_told
  wtm_at "V.run"
theorem told_make {c c' : CS} {z : Int} {r : T} (e : Fm_make [chestT c, .int z] = .ok r [chestT c', .int z]) : Ff_law_told [chestT c, .tup [.str "make", .int z]] = .ok r [chestT c', .tup [.str "make", .int z]] := by
  unfold Ff_law_told
  wtm_at "V.run"
theorem told_makeX {c : CS} {z : Int} {k : Nat} (e : Fm_make [chestT c, .int z] = .ex k [chestT c, .int z]) : Ff_law_told [chestT c, .tup [.str "make", .int z]] = .ex k [chestT c, .tup [.str "make", .int z]] := by
  unfold Ff_law_told
  wtm_at "V.run"

theorem whole_int {i : Int} : Ff_law_whole [.int i] = .ok (.bl true) [.int i] := by
  unfold Ff_law_whole
  wtm_at "V.run"

/-! what a deed does -/
inductive Op where
  | make (z : Int) | put (b s o : Int) (h : Bool) | empty (b s : Int) | take (b : Int) | drop (b : Int) | pair (a b d : Int) | unpair (n : Int) | will (b : Int) (ds : List Deed)
def opT : Op → T
  | .make z => .tup [.str "make", .int z]
  | .put b s o h => .tup [.str "put", .int b, .int s, .int o, .bl h]
  | .empty b s => .tup [.str "empty", .int b, .int s]
  | .take b => .tup [.str "take", .int b]
  | .drop b => .tup [.str "drop", .int b]
  | .pair a b d => .tup [.str "pair", .int a, .int b, .int d]
  | .unpair n => .tup [.str "unpair", .int n]
  | .will b ds => beqT b ds
/-- refused, or done: what is told, what is then -/
inductive Eff where | no (k : Nat) | yes (v : Option Int) (c : CS)
def vT : Option Int → T
  | none => .non
  | some i => .int i
def CS.act (c : CS) : Op → Eff
  | .make z => if 0 ≤ z ∧ z ≤ 9 then (if (c.slots.length : Int) = 60 then .no 5 else .yes (some c.coming) (c.make z)) else .no 1
  | .put b s o h => match gGet c.slots b with
    | none => .no 0
    | some xs => if 0 ≤ s ∧ s < xs.length then (if (gGet c.slots o).isSome then .yes none (c.setSlot b xs s (some (o, h))) else .no 0) else .no 1
  | .empty b s => match gGet c.slots b with
    | none => .no 0
    | some xs => if 0 ≤ s ∧ s < xs.length then .yes none (c.setSlot b xs s none) else .no 1
  | .take b => if (gGet c.slots b).isSome then .yes none (c.take b) else .no 0
  | .drop b => if (gGet c.slots b).isSome then (if (gGet c.held b).isSome then .yes none (c.drop b) else .no 2) else .no 0
  | .pair a b d => if (gGet c.slots a).isSome ∧ (gGet c.slots b).isSome ∧ (gGet c.slots d).isSome then (if (c.paired.length : Int) = 60 then .no 5 else .yes (some c.nextp) (c.pair (a, b, d))) else .no 0
  | .unpair n => if (gGet c.paired n).isSome then .yes none (c.unpair n) else .no 3
  | .will b ds => if (gGet c.slots b).isSome then (if (ds.length : Int) ≤ 9 ∧ ds.all Deed.ok = true then .yes none (c.setWill b ds) else .no 4) else .no 0
/-- a whole chest -/
structure CS.wf (c : CS) : Prop where
  ks : (c.slots.map (·.1)).Nodup
  kc : ∀ b xs, gGet c.slots b = some xs → 0 ≤ b ∧ b < c.coming ∧ xs.length ≤ 9
  sl : c.slots.length ≤ 60
  kh : (c.held.map (·.1)).Nodup
  hs : ∀ b u, gGet c.held b = some u → (gGet c.slots b).isSome
  kw : (c.wills.map (·.1)).Nodup
  ws : ∀ b ds, gGet c.wills b = some ds → (gGet c.slots b).isSome ∧ ds ≠ [] ∧ ds.length ≤ 9 ∧ ds.all Deed.ok = true
  kp : (c.paired.map (·.1)).Nodup
  ps : ∀ n p, gGet c.paired n = some p → 0 ≤ n ∧ n < c.nextp ∧ (gGet c.slots p.1).isSome ∧ (gGet c.slots p.2.1).isSome ∧ (gGet c.slots p.2.2).isSome
  pl : c.paired.length ≤ 60
  c0 : 0 ≤ c.coming
  p0 : 0 ≤ c.nextp
def CS.nil : CS := ⟨[], [], [], [], 0, 0⟩
theorem nodup_len {α : Type} [DecidableEq α] : ∀ {l m : List α}, l.Nodup → (∀ x ∈ l, x ∈ m) → l.length ≤ m.length
  | [], _, _, _ => Nat.zero_le _
  | a :: l, m, hn, hs => by
    have hn' := List.nodup_cons.mp hn
    have ha : a ∈ m := hs a (List.mem_cons_self ..)
    have := nodup_len (l := l) (m := m.erase a) hn'.2 (fun x hx => by
      have hx' : x ≠ a := by rintro rfl; exact hn'.1 hx
      exact (List.mem_erase_of_ne hx').mpr (hs x (List.mem_cons_of_mem _ hx)))
    rw [List.length_erase_of_mem ha] at this
    have h0 : 0 < m.length := List.length_pos_of_mem ha
    rw [List.length_cons]; omega
theorem gGet_mem {α : Type} {l : List (Int × α)} {k : Int} : (gGet l k).isSome = true ↔ k ∈ l.map (·.1) := by
  have := gGet_none (l := l) (k := k)
  cases h : gGet l k with
  | none => simp [this.mp h]
  | some v =>
    simp only [Option.isSome_some, true_iff]
    by_cases z : k ∈ l.map (·.1)
    · exact z
    · rw [this.mpr z] at h; cases h
theorem gGet_some {α : Type} {l : List (Int × α)} {k : Int} (h : k ∈ l.map (·.1)) : ∃ v, gGet l k = some v := Option.isSome_iff_exists.mp (gGet_mem.mpr h)
section
variable {c c' : CS} {op : Op} {v : Option Int} {k : Nat}
theorem CS.wf.hl (W : c.wf) : c.held.length ≤ 60 := by
  have := nodup_len W.kh (m := c.slots.map (·.1)) (fun x hx => by
    obtain ⟨u, hu⟩ := gGet_some hx
    exact gGet_mem.mp (W.hs _ _ hu))
  rw [List.length_map, List.length_map] at this
  have := W.sl
  omega
theorem CS.wf.wl (W : c.wf) : c.wills.length ≤ 60 := by
  have := nodup_len W.kw (m := c.slots.map (·.1)) (fun x hx => by
    obtain ⟨u, hu⟩ := gGet_some hx
    exact gGet_mem.mp (W.ws _ _ hu).1)
  rw [List.length_map, List.length_map] at this
  have := W.sl
  omega
theorem CS.wf.sA (W : c.wf) : c.slots.length < lineA := Nat.lt_of_le_of_lt W.sl (by decide)
theorem CS.wf.hA (W : c.wf) : c.held.length < lineA := Nat.lt_of_le_of_lt W.hl (by decide)
theorem CS.wf.wA (W : c.wf) : c.wills.length < lineA := Nat.lt_of_le_of_lt W.wl (by decide)
theorem CS.wf.pA (W : c.wf) : c.paired.length < lineA := Nat.lt_of_le_of_lt W.pl (by decide)
theorem wf_nil : CS.nil.wf := by
  constructor <;> first | exact List.nodup_nil | (intro _ _ h; cases h) | decide
theorem len_put {α : Type} {l : List (Int × α)} {k : Int} {v : α} : (gPut l k v).length = if k ∈ l.map (·.1) then l.length else l.length + 1 := by
  have := congrArg List.length (gPut_keys (l := l) (k := k) (v := v))
  rw [List.length_map] at this
  rw [this]
  split <;> simp
theorem len_drop {α : Type} {l : List (Int × α)} {k : Int} : (gDrop l k).length ≤ l.length := List.length_filter_le ..
theorem some_put {α : Type} {l : List (Int × α)} {k j : Int} {v : α} (h : (gGet l j).isSome) : (gGet (gPut l k v) j).isSome := by
  rw [gGet_put]; split <;> simp [h]
theorem wf_slot {b s : Int} {xs : List (Option (Int × Bool))} {o} (W : c.wf) (hx : gGet c.slots b = some xs) : (c.setSlot b xs s o).wf := by
  obtain ⟨ks, kc, sl, kh, hs, kw, ws, kp, ps, pl, c0, p0⟩ := W
  refine ⟨gPut_nodup ks, ?_, ?_, kh, ?_, kw, ?_, kp, ?_, pl, c0, p0⟩ <;> simp only [CS.setSlot]
  · intro b' xs' hb
    rw [gGet_put] at hb
    split at hb
    · cases hb; rename_i e; subst e; have := kc _ _ hx; simp; omega
    · exact kc _ _ hb
  · rw [len_put, if_pos (gGet_mem.mp (by rw [hx]; rfl))]; exact sl
  · intro b' u hb; exact some_put (hs _ _ hb)
  · intro b' ds hb; exact ⟨some_put (ws _ _ hb).1, (ws _ _ hb).2⟩
  · intro n p hp
    have := ps _ _ hp
    exact ⟨this.1, this.2.1, some_put this.2.2.1, some_put this.2.2.2.1, some_put this.2.2.2.2⟩
theorem wf_act (W : c.wf) (h : c.act op = .yes v c') : c'.wf := by
  obtain ⟨ks, kc, sl, kh, hs, kw, ws, kp, ps, pl, c0, p0⟩ := W
  cases op with
  | make z =>
    simp only [CS.act] at h
    split at h
    rotate_left
    · cases h
    split at h <;> cases h
    rename_i hz h6
    have hnew : c.coming ∉ c.slots.map (·.1) := fun z => by
      obtain ⟨u, hu⟩ := gGet_some z
      have := kc _ _ hu; omega
    constructor <;> simp only [CS.make]
    · exact gPut_nodup ks
    · intro b xs hb
      rw [gGet_put] at hb
      split at hb
      · cases hb; rename_i e; subst e; simp; omega
      · have := kc _ _ hb; omega
    · rw [len_put, if_neg hnew]; omega
    · exact gPut_nodup kh
    · intro b u hb
      rw [gGet_put] at hb ⊢
      split at hb
      · rename_i e; rw [if_pos e]; rfl
      · rename_i e; rw [if_neg e]; exact hs _ _ hb
    · exact kw
    · intro b ds hb
      exact ⟨some_put (ws _ _ hb).1, (ws _ _ hb).2⟩
    · exact kp
    · intro n p hp
      have := ps _ _ hp
      exact ⟨this.1, this.2.1, some_put this.2.2.1, some_put this.2.2.2.1, some_put this.2.2.2.2⟩
    · exact pl
    · omega
    · exact p0
  | put b s o hh =>
    simp only [CS.act] at h
    split at h
    · cases h
    rename_i xs hx
    split at h
    rotate_left
    · cases h
    split at h <;> cases h
    exact wf_slot ⟨ks, kc, sl, kh, hs, kw, ws, kp, ps, pl, c0, p0⟩ hx
  | empty b s =>
    simp only [CS.act] at h
    split at h
    · cases h
    rename_i xs hx
    split at h <;> cases h
    exact wf_slot ⟨ks, kc, sl, kh, hs, kw, ws, kp, ps, pl, c0, p0⟩ hx
  | take b =>
    simp only [CS.act] at h
    split at h <;> cases h
    rename_i hb
    refine ⟨ks, kc, sl, gPut_nodup kh, ?_, kw, ws, kp, ps, pl, c0, p0⟩
    intro b' u h'
    simp only [CS.take] at h' ⊢
    rw [gGet_put] at h'
    split at h'
    · rename_i e; subst e; exact hb
    · exact hs _ _ h'
  | drop b =>
    simp only [CS.act] at h
    split at h
    rotate_left
    · cases h
    split at h <;> cases h
    refine ⟨ks, kc, sl, gDrop_nodup kh, ?_, kw, ws, kp, ps, pl, c0, p0⟩
    intro b' u h'
    simp only [CS.drop] at h' ⊢
    rw [gGet_drop] at h'
    split at h'
    · cases h'
    · exact hs _ _ h'
  | pair a b d =>
    simp only [CS.act] at h
    split at h
    rotate_left
    · cases h
    split at h <;> cases h
    rename_i hb h6
    refine ⟨ks, kc, sl, kh, hs, kw, ws, gPut_nodup kp, ?_, ?_, c0, ?_⟩
    · intro n p hp
      simp only [CS.pair] at hp ⊢
      rw [gGet_put] at hp
      split at hp
      · cases hp; rename_i e; subst e; exact ⟨p0, by omega, hb⟩
      · have := ps _ _ hp; exact ⟨this.1, by omega, this.2.2⟩
    · simp only [CS.pair]; rw [len_put]; split <;> omega
    · simp only [CS.pair]; omega
  | unpair n =>
    simp only [CS.act] at h
    split at h <;> cases h
    refine ⟨ks, kc, sl, kh, hs, kw, ws, gDrop_nodup kp, ?_, Nat.le_trans len_drop pl, c0, p0⟩
    intro n' p hp
    simp only [CS.unpair] at hp ⊢
    rw [gGet_drop] at hp
    split at hp
    · cases hp
    · exact ps _ _ hp
  | will b ds =>
    simp only [CS.act] at h
    split at h
    rotate_left
    · cases h
    split at h <;> cases h
    rename_i hb hd
    refine ⟨ks, kc, sl, kh, hs, ?_, ?_, kp, ps, pl, c0, p0⟩
    · simp only [CS.setWill]
      split
      · exact gDrop_nodup kw
      · exact gPut_nodup kw
    · intro b' ds' h'
      simp only [CS.setWill] at h' ⊢
      split at h'
      · rw [gGet_drop] at h'
        split at h'
        · cases h'
        · exact ws _ _ h'
      · rename_i hne
        rw [gGet_put] at h'
        split at h'
        · cases h'; rename_i e; subst e; exact ⟨hb, hne, by omega, hd.2⟩
        · exact ws _ _ h'
end

/-! a deed, in the chest and in the law's own world -/
theorem gDrop_none {α : Type} {l : List (Int × α)} {k : Int} (h : gGet l k = none) : gDrop l k = l := gDrop_new (gGet_none.mp h)
theorem isSome_ex {α : Type} {o : Option α} (h : o.isSome = true) : ∃ v, o = some v := Option.isSome_iff_exists.mp h
theorem not_some {α : Type} {o : Option α} (h : ¬ o.isSome = true) : o = none := by cases o <;> simp_all
theorem told_will {c c' : CS} {b : Int} {ds : List Deed} {r : T} (e : Fm_bequeath [chestT c, .int b, .lst .mu (ds.map deedT)] = .ok r [chestT c', .int b, .lst .mu (ds.map deedT)]) : Ff_law_told [chestT c, beqT b ds] = .ok r [chestT c', beqT b ds] := by
  unfold beqT at ⊢
  unfold Ff_law_told
  wtm_at "V.run"
theorem told_willX {c : CS} {b : Int} {ds : List Deed} {k : Nat} (e : Fm_bequeath [chestT c, .int b, .lst .mu (ds.map deedT)] = .ex k [chestT c, .int b, .lst .mu (ds.map deedT)]) : Ff_law_told [chestT c, beqT b ds] = .ex k [chestT c, beqT b ds] := by
  unfold beqT at ⊢
  unfold Ff_law_told
  wtm_at "V.run"
section
variable {c c' : CS} {op : Op} {v : Option Int} {k : Nat}
theorem emptyX_b {b s : Int} (h : gGet c.slots b = none) : Fm_empty [chestT c, .int b, .int s] = .ex 0 [chestT c, .int b, .int s] := by
  have e := need_slot_nb (s := s) h
  unfold Fm_empty
  wtm_at "V.run"
theorem emptyX_lo {b s : Int} {xs} (h : gGet c.slots b = some xs) (h0 : ¬ 0 ≤ s) : Fm_empty [chestT c, .int b, .int s] = .ex 1 [chestT c, .int b, .int s] := by
  have e := need_slot_lo h h0
  unfold Fm_empty
  wtm_at "V.run"
theorem emptyX_hi {b s : Int} {xs} (h : gGet c.slots b = some xs) (h0 : 0 ≤ s) (h1 : ¬ s < xs.length) : Fm_empty [chestT c, .int b, .int s] = .ex 1 [chestT c, .int b, .int s] := by
  have e := need_slot_hi h h0 h1
  unfold Fm_empty
  wtm_at "V.run"
/-- a deed of a will that isn't too long -/
def Op.short : Op → Prop
  | .will _ ds => ds.length < lineA
  | _ => True
theorem opT_data : (opT op).data = true := by
  cases op <;> first | rfl | (show datas _ = true; simp [datas, T.data, datas_deeds])
end

/-! a deed told to the chest and done in the law's own world -/
def CS.after (c : CS) (op : Op) : CS := match c.act op with
  | .no _ => c
  | .yes _ c' => c'
theorem wf_after {c : CS} {op : Op} (W : c.wf) : (c.after op).wf := by
  unfold CS.after
  split
  · exact W
  · rename_i h; exact wf_act W h
theorem kLen_tup {ts} : kLen (.tup ts) = some (.int ts.length) := rfl
theorem kLen_scr {ns : List Int} : kLen (.scr ns) = some (.int ns.length) := rfl
theorem numbers_loop {m : Md} {l : List Int} (hn : l.length < lineA) : lp_numbers_0 ⟨[.own (.lst m (l.map T.int)), .own (.lst .mu (l.map T.int)), .emp], []⟩ = .nx ⟨[.own (.lst m (l.map T.int)), .own (.lst .mu (l.map T.int)), lastJ l.length], []⟩ := by
  have hA : lineA = 1000000 := rfl
  refine (sFor1_run (i := (l.length : Int)) (st := []) (fun j => [.own (.lst m (l.map T.int)), .own (.lst .mu (l.map T.int)), lastJ j]) ?_ (by omega) (by omega) ?_).trans ?_
  · simp only [lastJ]
    cases m <;> wtm_at "V.run"
  · intro j hj
    have hj' : j < l.length := by omega
    have e1 := ixN_nat (n := l.length) hj'
    have e2 := int_at hj'
    have e3 := @whole_int
    refine ⟨⟨[.own (.lst m (l.map T.int)), .own (.lst .mu (l.map T.int)), .own (.int j)], []⟩, ?_, ?_⟩
    · rw [Int.zero_add]; cases j <;> rfl
    · simp only [lastJ]
      cases m <;> wtm_at "V.run"
  · simp
theorem numbers_ok {m : Md} {l : List Int} (hn : l.length < lineA) : Ff_law_numbers [.lst m (l.map T.int), .lst .mu (l.map T.int)] = .ok (.bl true) [.lst m (l.map T.int), .lst .mu (l.map T.int)] := by
  have e := numbers_loop (m := m) hn
  unfold Ff_law_numbers
  cases m <;> wtm_at "V.run"
theorem isi_deed {d : Deed} : kIsi (deedT d) (.ty "tuple") = some (.bl true) := by cases d <;> exact isi_tt
theorem all_true {α : Type} {l : List α} : kAll (.lst .mu (l.map fun _ => .bl true)) = some (.bl true) := by
  unfold kAll
  show Option.map _ (allOf T.toBl (l.map fun _ => T.bl true)) = _
  have := allOf_map (f := T.toBl) (g := T.bl) (fun _ => rfl) (l.map fun _ => true)
  rw [List.map_map] at this
  rw [show (l.map fun _ => T.bl true) = l.map (T.bl ∘ fun _ => true) from rfl, this]
  show some (T.bl ((l.map fun _ => true).all id)) = _
  rw [show (l.map fun _ => true).all id = true by simp]
def rowI (xs : List Int) : T := .tup (xs.map .int)
theorem row_at {l : List (List Int)} {j : Nat} (h : j < l.length) : (l.map rowI)[j]? = some (rowI (l[j]'h)) := by
  rw [List.getElem?_map, List.getElem?_eq_getElem h]; rfl
theorem rowI_data {xs : List Int} : (rowI xs).data = true := datas_ints
theorem isi_row {xs : List Int} : kIsi (rowI xs) (.ty "tuple") = some (.bl true) := isi_tt
theorem cmp_row {xs : List Int} : CmpT 1 (rowI xs) := cmp_tup (fun u hu => by
  obtain ⟨d, _, rfl⟩ := List.mem_map.mp hu
  exact cmp_int)
/-! the drawn numbers -/
def mixS : List Int := [99991, 99989, 99971, 99961, 99929, 99923, 99907, 99901, 99881, 99877, 99871]
def mixA (c k : Int) : Int := (c + 7 * k) * 48271
def mixM (c k : Int) : Int := mixA c k % mixS.getD (k % 11).toNat 1
def mixF (c k m : Int) : Int := (mixM c k * mixM c k * 7 + mixM c k + k) % 1000003 % m
theorem mixS_bd : ∀ x ∈ mixS, 0 < x ∧ x < 100000 := by
  intro x hx
  unfold mixS at hx
  simp only [List.mem_cons, List.not_mem_nil, or_false] at hx
  omega
theorem mix_at {k : Int} : ∃ v : Int, (mixS.map T.int)[(k % 11).toNat]? = some (.int v) ∧ mixS.getD (k % 11).toNat 1 = v ∧ 0 < v ∧ v < 100000 := by
  have h1 := Int.emod_nonneg k (show (11 : Int) ≠ 0 by omega)
  have h2 := Int.emod_lt_of_pos k (show (0 : Int) < 11 by omega)
  have hl : (k % 11).toNat < mixS.length := by show _ < 11; omega
  refine ⟨mixS[(k % 11).toNat], int_at hl, ?_, mixS_bd _ (List.getElem_mem hl)⟩
  rw [List.getD_eq_getElem?_getD, List.getElem?_eq_getElem hl]; rfl
theorem mulS_l {i j : Int} (h0 : 0 ≤ i) (h : i < 100000) : mulOk i j = true := by
  unfold mulOk
  rw [decide_eq_true (by omega : i.natAbs < 2 ^ 64)]; rfl
theorem mulS_r {i j : Int} (h0 : 0 ≤ j) (h : j < 100000) : mulOk i j = true := by
  unfold mulOk
  rw [decide_eq_true (by omega : j.natAbs < 2 ^ 64), Bool.true_or, Bool.or_true]
theorem mixM_bd {c k : Int} : 0 ≤ mixM c k ∧ mixM c k < 100000 := by
  obtain ⟨v, _, e, h0, h1⟩ := mix_at (k := k)
  unfold mixM
  rw [e]
  have a := Int.emod_nonneg (mixA c k) (show v ≠ 0 by omega)
  have b := Int.emod_lt_of_pos (mixA c k) h0
  omega
theorem mixF_bd {c k m : Int} (h : 0 < m) : 0 ≤ mixF c k m ∧ mixF c k m < m := ⟨Int.emod_nonneg _ (by omega), Int.emod_lt_of_pos _ h⟩
theorem mixed_ok {c k m : Int} (hk : 0 ≤ k) (hm : 0 < m) : Ff_law_mixed [.int c, .int k, .int m] = .ok (.int (mixF c k m)) [.int c, .int k, .int m] := by
  obtain ⟨v, e1, e2, h0, h1⟩ := mix_at (k := k)
  have e3 : kMod (.int k) (.int 11) = some (.int (k % 11)) := kMod_pos (by decide)
  have a1 := Int.emod_nonneg k (show (11 : Int) ≠ 0 by omega)
  have a2 := Int.emod_lt_of_pos k (show (0 : Int) < 11 by omega)
  have e4 : ixN 11 (k % 11) = some (k % 11).toNat := ixN_in a1 (by omega)
  have e5 : kMul (.int 7) (.int k) = some (.int (7 * k)) := kMul_int (mulS_l (by omega) (by omega))
  have e6 : kMul (.int (c + 7 * k)) (.int 48271) = some (.int (mixA c k)) := kMul_int (mulS_r (by omega) (by omega))
  have e7 : kMod (.int (mixA c k)) (.int v) = some (.int (mixM c k)) := by rw [kMod_pos h0]; unfold mixM; rw [e2]
  have hb := mixM_bd (c := c) (k := k)
  have e8 : kMul (.int (mixM c k)) (.int (mixM c k)) = some (.int (mixM c k * mixM c k)) := kMul_int (mulS_l hb.1 hb.2)
  have e9 : kMul (.int (mixM c k * mixM c k)) (.int 7) = some (.int (mixM c k * mixM c k * 7)) := kMul_int (mulS_r (by omega) (by omega))
  have e10 : kMod (.int (mixM c k * mixM c k * 7 + mixM c k + k)) (.int 1000003) = some (.int ((mixM c k * mixM c k * 7 + mixM c k + k) % 1000003)) := kMod_pos (by decide)
  have e11 : kMod (.int ((mixM c k * mixM c k * 7 + mixM c k + k) % 1000003)) (.int m) = some (.int (mixF c k m)) := kMod_pos hm
  have e12 : (11 : Nat) ≤ sizeLine := by decide
  unfold mixS at e1
  simp only [List.map_cons, List.map_nil] at e1
  unfold Ff_law_mixed
  wtm_at "V.run"
theorem cell_at_in {ns : List Int} {n : Nat} (h : n < ns.length) : Ff_law_cell_at [.scr ns, .int n] = .ok (.int (ns[n]'h)) [.scr ns, .int n] := by
  have e1 := @kLen_scr
  have e2 : ((n : Int) < (ns.length : Int)) = True := by simp; omega
  have e3 : atI ns (n : Int) = some (ns[n]'h) := by
    unfold atI
    rw [ixN_nat h]
    show ns[n]? = _
    rw [List.getElem?_eq_getElem h]
  unfold Ff_law_cell_at
  wtm_at "V.run"
theorem cell_at_out {ns : List Int} {n : Nat} (h : ¬ n < ns.length) : Ff_law_cell_at [.scr ns, .int n] = .ok (.int 0) [.scr ns, .int n] := by
  have e1 := @kLen_scr
  have e2 : ((n : Int) < (ns.length : Int)) = False := by simp; omega
  unfold Ff_law_cell_at
  wtm_at "V.run"

/-! what is asked -/
def keptT (xs : List T) : T := .lst .fz [.lst .fz xs, .lst .fz xs]
def boxesT (c : CS) : List T := (srt (c.slots.map (·.1))).map .int
def handsT (c : CS) : List T := (srt (c.held.map (·.1))).map .int
theorem sort_slots {c : CS} (h : c.slots.length < 64) : kSorted (.dct false (tbl rowT c.slots)) = some (.lst .mu ((srt (c.slots.map (·.1))).map .int)) := by
  show (if (tbl rowT c.slots).length < 64 then some (T.lst .mu ((srt ((tbl rowT c.slots).map (·.1))).map .int)) else none) = _
  rw [tbl_len, if_pos h, tbl_keys]
theorem sort_held {c : CS} (h : c.held.length < 64) : kSorted (.dct false (tbl trueT c.held)) = some (.lst .mu ((srt (c.held.map (·.1))).map .int)) := by
  show (if (tbl trueT c.held).length < 64 then some (T.lst .mu ((srt ((tbl trueT c.held).map (·.1))).map .int)) else none) = _
  rw [tbl_len, if_pos h, tbl_keys]
theorem sort_paired {c : CS} (h : c.paired.length < 64) : kSorted (.dct false (tbl trioT c.paired)) = some (.lst .mu ((srt (c.paired.map (·.1))).map .int)) := by
  show (if (tbl trioT c.paired).length < 64 then some (T.lst .mu ((srt ((tbl trioT c.paired).map (·.1))).map .int)) else none) = _
  rw [tbl_len, if_pos h, tbl_keys]
def pairsL (c : CS) : List (List Int) := (srt (c.paired.map (·.1))).map fun n => [n, ((gGet c.paired n).getD (0, 0, 0)).1, ((gGet c.paired n).getD (0, 0, 0)).2.1, ((gGet c.paired n).getD (0, 0, 0)).2.2]
theorem pairsT_rows {c : CS} : pairsT c = (pairsL c).map rowI := by
  unfold pairsT pairsL
  rw [List.map_map]; rfl
theorem pairs_plain {c : CS} : plains (pairsT c) = true := plains_map (g := rowP c) (fun _ => rfl) _
theorem pairs_frz {c : CS} : frzs (pairsT c) = pairsT c := frzs_map (g := rowP c) (fun _ => rfl) _
theorem pairs_datas {c : CS} : datas (pairsT c) = true := datas_map (g := rowP c) (fun _ => rfl) _
/-- the law's own world, its boxes walked -/
abbrev worldL (c : CS) : T := .lst .mu [.dct true (tbl rowT c.slots), heldD c, pairD c, willD c, .lst .mu [.int c.coming, .int c.nextp]]
def keyS (c : CS) (j : Nat) : Int := ((tbl rowT c.slots).map (·.1)).getD j 0
theorem keyS_get {c : CS} (W : c.wf) {j : Nat} (h : j < c.slots.length) : ∃ xs, gGet c.slots (keyS c j) = some xs ∧ c.slots[j]? = some (keyS c j, xs) := by
  have e : keyS c j = (c.slots[j]'h).1 := by
    unfold keyS
    rw [tbl_keys, List.getD_eq_getElem?_getD, List.getElem?_map, List.getElem?_eq_getElem h]; rfl
  have e2 : c.slots[j]? = some ((c.slots[j]'h).1, (c.slots[j]'h).2) := List.getElem?_eq_getElem h
  rw [e]
  exact ⟨_, gGet_of W.ks e2, e2⟩
def bxJ (c : CS) : Nat → Ent
  | 0 => .emp
  | j + 1 => .own (.int (keyS c j))
def duJ (c : CS) : Nat → Ent
  | 0 => .emp
  | j + 1 => .al 1 [.ix 0, .key (keyS c j)]
theorem slot_at {xs : List (Option (Int × Bool))} {j : Nat} (h : j < xs.length) : (xs.map slotT)[j]? = some (slotT (xs[j]'h)) := by
  rw [List.getElem?_map, List.getElem?_eq_getElem h]; rfl
def willL (c : CS) (b : Int) : List Deed := (gGet c.wills b).getD []
def fdJ (c : CS) : Nat → Ent
  | 0 => .emp
  | j + 1 => .own (.lst .fz ((willL c (keyS c j)).map deedT))
def keptW (c : CS) (kept : List T) : Nat → List T
  | 0 => kept
  | j + 1 => keptW c kept j ++ [keptT ((willL c (keyS c j)).map deedT)]
theorem keptW_len {c : CS} {kept : List T} {j : Nat} : (keptW c kept j).length = kept.length + j := by
  induction j with
  | zero => rfl
  | succ j ih => unfold keptW; rw [List.length_append, ih]; rfl
theorem willL_len {c : CS} (W : c.wf) {b : Int} : (willL c b).length < lineA := by
  unfold willL
  cases h : gGet c.wills b with
  | none => decide
  | some ds => exact Nat.lt_of_le_of_lt (W.ws _ _ h).2.2.1 (by decide)
/-- what was told, and a copy of it -/
def Same (k : T) : Prop := ∃ xs, k = keptT xs ∧ CmpT 2 (.lst .fz xs) ∧ datas xs = true
theorem cmp_mono {n m : Nat} {t : T} (h : CmpT n t) (hm : n ≤ m) : CmpT m t := by
  obtain ⟨d, a, b, e⟩ := h
  exact ⟨d, a, b, Nat.le_trans e hm⟩
def askK (c : CS) (way : Int) (kept : List T) : List T :=
  if way = 0 then kept ++ [keptT (boxesT c)] else if way = 1 then kept ++ [keptT (handsT c)] else if way = 2 then kept ++ [keptT (pairsT c)] else if way = 3 then kept else keptW c kept c.slots.length
theorem askK_len {c : CS} {way : Int} {kept : List T} (W : c.wf) : (askK c way kept).length ≤ kept.length + 60 := by
  have := W.sl
  unfold askK
  repeat' split
  all_goals first | (rw [List.length_append]; simp; done) | (rw [keptW_len]; omega) | omega
theorem keptW_same {c : CS} {kept : List T} (h : ∀ k ∈ kept, Same k) : ∀ {j : Nat}, ∀ k ∈ keptW c kept j, Same k
  | 0 => h
  | j + 1 => by
    intro k hk
    unfold keptW at hk
    rcases List.mem_append.mp hk with hk | hk
    · exact keptW_same h k hk
    · have := List.mem_singleton.mp hk
      subst this
      exact ⟨_, rfl, cmp_deeds, datas_deeds⟩
theorem askK_same {c : CS} {way : Int} {kept : List T} (h : ∀ k ∈ kept, Same k) : ∀ k ∈ askK c way kept, Same k := by
  have one : ∀ {xs : List T}, CmpT 2 (.lst .fz xs) → datas xs = true → ∀ k ∈ kept ++ [keptT xs], Same k := fun hc hd k hk => by
    rcases List.mem_append.mp hk with hk | hk
    · exact h k hk
    · have := List.mem_singleton.mp hk
      subst this
      exact ⟨_, rfl, hc, hd⟩
  unfold askK
  repeat' split
  · exact one (cmp_mono cmp_ints (by omega)) datas_ints
  · exact one (cmp_mono cmp_ints (by omega)) datas_ints
  · refine one (cmp_lst fun u hu => ?_) pairs_datas
    rw [pairsT_rows] at hu
    obtain ⟨xs, _, rfl⟩ := List.mem_map.mp hu
    exact cmp_row
  · exact h
  · exact keptW_same h
/-! all that is asked, in a drawn order -/
def likeW (cell : Int) (j : Nat) : Int := (mixF cell 3 5 + (j : Int) * (1 + mixF cell 4 4)) % 5
def likeK (c : CS) (cell : Int) (kept : List T) : Nat → List T
  | 0 => kept
  | j + 1 => askK c (likeW cell j) (likeK c cell kept j)
theorem likeK_len {c : CS} {cell : Int} {kept : List T} (W : c.wf) {j : Nat} : (likeK c cell kept j).length ≤ kept.length + 60 * j := by
  induction j with
  | zero => exact Nat.le_refl _
  | succ j ih =>
    have := askK_len (way := likeW cell j) (kept := likeK c cell kept j) W
    unfold likeK
    omega
theorem likeK_same {c : CS} {cell : Int} {kept : List T} (h : ∀ k ∈ kept, Same k) : ∀ {j : Nat}, ∀ k ∈ likeK c cell kept j, Same k
  | 0 => h
  | j + 1 => by
    unfold likeK
    exact askK_same (likeK_same h)
/-! loops, by what holds ahead of each turn -/
theorem forGo_inv {kd : T → Option (List T)} {n : Nat} {g : En → Option En} {body : SF} (P : Nat → En → Prop) (hm : ∀ δ, P n δ → many kd δ = some n) (ht : ∀ j δ, j < n → P j δ → ∃ δ1 δ2 δ3, item kd j δ = some δ1 ∧ g δ1 = some δ2 ∧ body δ2 = .nx δ3 ∧ P (j + 1) δ3) {δ0 : En} (h0 : P 0 δ0) : ∃ δ, forGo kd n g body n δ0 = .nx ⟨δ.sl, δ.st.tail⟩ ∧ P n δ := by
  have key : ∀ k j δ, j + k = n → P j δ → ∃ δ', forGo kd n g body k δ = .nx ⟨δ'.sl, δ'.st.tail⟩ ∧ P n δ' := by
    intro k
    induction k with
    | zero =>
      intro j δ e h
      have : j = n := by omega
      subst this
      refine ⟨δ, ?_, h⟩
      unfold forGo
      rw [if_pos (hm _ h)]
    | succ k ih =>
      intro j δ e h
      obtain ⟨δ1, δ2, δ3, h1, h2, h3, h4⟩ := ht j δ (by omega) h
      unfold forGo
      rw [show n - (k + 1) = j by omega, h1]
      simp only [h2, h3]
      exact ih (j + 1) δ3 (by omega) h4
  exact key n 0 δ0 (by omega) h0
theorem sFor_inv {kd : T → Option (List T)} {fe : EF} {g : En → Option En} {body : SF} {δ : En} {sl : List Ent} {e : Ent} {st : List Ent} {n : Nat} (P : Nat → List Ent → Prop) (hfe : fe δ = .ok ⟨sl, e :: st⟩) (h0 : P 0 sl) (hm : ∀ j sl, P j sl → manyE kd e sl = some n)
    (ht : ∀ j sl, j < n → P j sl → ∃ δ1 δ2 sl', item kd j ⟨sl, e :: st⟩ = some δ1 ∧ g δ1 = some δ2 ∧ body δ2 = .nx ⟨sl', e :: st⟩ ∧ P (j + 1) sl') : ∃ sl', sFor kd fe g body δ = .nx ⟨sl', st⟩ ∧ P n sl' := by
  unfold sFor
  rw [hfe]
  show ∃ sl', (match manyE kd e sl with | some n => forGo kd n g body n ⟨sl, e :: st⟩ | none => SR.no) = _ ∧ _
  rw [hm 0 sl h0]
  obtain ⟨δ', a, b, c⟩ := forGo_inv (kd := kd) (n := n) (g := g) (body := body) (fun j δ => δ.st = e :: st ∧ P j δ.sl) (fun δ hh => by
    obtain ⟨sl1, st1⟩ := δ
    obtain ⟨rfl, h⟩ := hh
    exact hm _ _ h) (fun j δ hj hh => by
    obtain ⟨sl1, st1⟩ := δ
    obtain ⟨rfl, h⟩ := hh
    obtain ⟨δ1, δ2, sl', h1, h2, h3, h4⟩ := ht j sl1 hj h
    exact ⟨δ1, δ2, _, h1, h2, h3, rfl, h4⟩) (δ0 := ⟨sl, e :: st⟩) ⟨rfl, h0⟩
  refine ⟨δ'.sl, ?_, c⟩
  show forGo kd n g body n ⟨sl, e :: st⟩ = _
  rw [a, b]; rfl
theorem rngGo_inv {lo : Int} {n : Nat} {g : En → Option En} {body : SF} (P : Nat → En → Prop) (ht : ∀ j δ, j < n → P j δ → ∃ δ2 δ3, g ⟨δ.sl, .own (.int (lo + (j : Nat))) :: δ.st⟩ = some δ2 ∧ body δ2 = .nx δ3 ∧ P (j + 1) δ3) {δ0 : En} (h0 : P 0 δ0) : ∃ δ, rngGo lo n g body n δ0 = .nx δ ∧ P n δ := by
  have key : ∀ k j δ, j + k = n → P j δ → ∃ δ', rngGo lo n g body k δ = .nx δ' ∧ P n δ' := by
    intro k
    induction k with
    | zero =>
      intro j δ e h
      have : j = n := by omega
      subst this
      exact ⟨δ, rfl, h⟩
    | succ k ih =>
      intro j δ e h
      obtain ⟨δ2, δ3, h2, h3, h4⟩ := ht j δ (by omega) h
      unfold rngGo
      rw [show n - (k + 1) = j by omega, h2]
      simp only [h3]
      exact ih (j + 1) δ3 (by omega) h4
  exact key n 0 δ0 (by omega) h0
theorem sFor1_inv {fe : EF} {g : En → Option En} {body : SF} {δ : En} {sl st : List Ent} {i : Int} (P : Nat → List Ent → Prop) (hfe : fe δ = .ok ⟨sl, .own (.int i) :: st⟩) (hi : 0 ≤ i) (h1 : i < 2 ^ 62) (h0 : P 0 sl)
    (ht : ∀ (j : Nat) sl, j < i.toNat → P j sl → ∃ δ2 sl', g ⟨sl, .own (.int (j : Int)) :: st⟩ = some δ2 ∧ body δ2 = .nx ⟨sl', st⟩ ∧ P (j + 1) sl') : ∃ sl', sFor1 fe g body δ = .nx ⟨sl', st⟩ ∧ P i.toNat sl' := by
  unfold sFor1
  rw [hfe]
  show ∃ sl', (if In62 i then rngGo 0 i.toNat g body i.toNat ⟨sl, st⟩ else SR.no) = _ ∧ _
  rw [if_pos (show In62 i by unfold In62; omega)]
  obtain ⟨δ', a, b, c⟩ := rngGo_inv (lo := 0) (n := i.toNat) (g := g) (body := body) (fun j δ => δ.st = st ∧ P j δ.sl) (fun j δ hj hh => by
    obtain ⟨sl1, st1⟩ := δ
    obtain ⟨rfl, h⟩ := hh
    obtain ⟨δ2, sl', h2, h3, h4⟩ := ht j sl1 hj h
    exact ⟨δ2, _, by rw [Int.zero_add]; exact h2, h3, rfl, h4⟩) (δ0 := ⟨sl, st⟩) ⟨rfl, h0⟩
  exact ⟨δ'.sl, by rw [a, ← b], c⟩
theorem gSlot_ok {i : Nat} {e : Ent} {sl st : List Ent} (h : ((e :: st).all (Ent.noal i) && sl.all (Ent.noal i) && decide (i < sl.length)) = true) : gSlot i ⟨sl, e :: st⟩ = some ⟨sl.set i e, st⟩ := by
  show (if ((e :: st).all (Ent.noal i) && sl.all (Ent.noal i) && decide (i < sl.length)) = true then some (⟨sl.set i e, st⟩ : En) else none) = _
  rw [if_pos h]
theorem sFor1_slot {fe : EF} {i0 : Nat} {body : SF} {δ : En} {sl st : List Ent} {i : Int} (P : Nat → List Ent → Prop) (hfe : fe δ = .ok ⟨sl, .own (.int i) :: st⟩) (hi : 0 ≤ i) (h1 : i < 2 ^ 62) (h0 : P 0 sl)
    (ht : ∀ (j : Nat) sl, j < i.toNat → P j sl → (st.all (Ent.noal i0) && sl.all (Ent.noal i0) && decide (i0 < sl.length)) = true ∧ ∃ sl', body ⟨sl.set i0 (.own (.int (j : Int))), st⟩ = .nx ⟨sl', st⟩ ∧ P (j + 1) sl') : ∃ sl', sFor1 fe (gSlot i0) body δ = .nx ⟨sl', st⟩ ∧ P i.toNat sl' :=
  sFor1_inv P hfe hi h1 h0 fun j sl hj hp => by
    obtain ⟨a, sl', b, c⟩ := ht j sl hj hp
    exact ⟨_, sl', gSlot_ok a, b, c⟩
def In5 (e : Ent) : Prop := e = .emp ∨ ∃ i, e = .own (.int i)
theorem In5.noal {e : Ent} (h : In5 e) {i : Nat} : e.noal i = true := by rcases h with rfl | ⟨i, rfl⟩ <;> rfl
theorem In5.emp : In5 .emp := .inl rfl
theorem In5.int {i : Int} : In5 (.own (.int i)) := .inr ⟨_, rfl⟩
theorem noal_own {i : Nat} {t : T} : Ent.noal i (.own t) = true := rfl
theorem noal_emp {i : Nat} : Ent.noal i .emp = true := rfl

/-! drawn boxes, drawn deeds -/
theorem four {x : Int} (h : 0 ≤ x ∧ x < 4) : x = 0 ∨ x = 1 ∨ x = 2 ∨ x = 3 := by omega
theorem kb_it : kitB "int" "tuple" = some false := by decide +kernel
theorem isi_it {i : Int} : kIsi (.int i) (.ty "tuple") = some (.bl false) := by show (kitB "int" "tuple").map T.bl = _; rw [kb_it]; rfl
theorem pow12 : kPow (.int 10) (.int 12) = some (.int 1000000000000) := by unfold kPow; simp
theorem pow9 : kPow (.int 10) (.int 9) = some (.int 1000000000) := by unfold kPow; simp
theorem neg_int {i : Int} : kNeg (.int i) = some (.int (-i)) := rfl
theorem three {x : Int} (h : 0 ≤ x ∧ x < 3) : x = 0 ∨ x = 1 ∨ x = 2 := by omega
theorem seven {x : Int} (h : 0 ≤ x ∧ x < 7) : x = 0 ∨ x = 1 ∨ x = 2 ∨ x = 3 ∨ x = 4 ∨ x = 5 ∨ x = 6 := by omega
theorem max0 {v : Int} : kMax2 (.int 0) (.int v) = some (.int (max 0 v)) := by
  show some (T.int (if v > 0 then v else 0)) = _
  by_cases h : v > 0
  · rw [if_pos h, Int.max_eq_right (by omega)]
  · rw [if_neg h, Int.max_eq_left (by omega)]
/-- what stands ahead of a turn of will_of's loop -/
def WofP (l : List Int) (cell co : Int) (j : Nat) (sl : List Ent) : Prop := ∃ (ds : List Deed) (e4 e5 e6 : Ent), ds.length ≤ j ∧ In5 e4 ∧ In5 e5 ∧ In5 e6 ∧ sl = [.own (.lst .mu (l.map .int)), .own (.int cell), .own (.int co), .own (.lst .mu (ds.map deedT)), e4, e5, e6]
theorem will_of_fe {l : List Int} {cell co : Int} : ∃ n : Int, 0 ≤ n ∧ n ≤ 10 ∧ eBin (eLst 7 (eThen (ePush (.int 1)) (eThen (ePush (.int 1)) (eThen (ePush (.int 2)) (eThen (ePush (.int 3)) (eThen (ePush (.int 0)) (eThen (ePush (.int 9)) (eThen (ePush (.int 10)) eNil)))))))) (eCall 3 Ff_law_mixed (eThen (eName 1) (eThen (ePush (.int 1)) (eThen (ePush (.int 7)) eNil)))) eIx ⟨[.own (.lst .mu (l.map .int)), .own (.int cell), .own (.int co), .own (.lst .mu []), .emp, .emp, .emp], []⟩ = .ok ⟨[.own (.lst .mu (l.map .int)), .own (.int cell), .own (.int co), .own (.lst .mu []), .emp, .emp, .emp], [.own (.int n)]⟩ := by
  have e1 := mixed_ok (c := cell) (k := 1) (m := 7) (by decide) (by decide)
  have e2 : (7 : Nat) ≤ sizeLine := by decide
  rcases seven (mixF_bd (c := cell) (k := 1) (m := 7) (by decide)) with h | h | h | h | h | h | h <;> rw [h] at e1
  · exact ⟨1, by decide, by decide, by wtm_at "V.run"⟩
  · exact ⟨1, by decide, by decide, by wtm_at "V.run"⟩
  · exact ⟨2, by decide, by decide, by wtm_at "V.run"⟩
  · exact ⟨3, by decide, by decide, by wtm_at "V.run"⟩
  · exact ⟨0, by decide, by decide, by wtm_at "V.run"⟩
  · exact ⟨9, by decide, by decide, by wtm_at "V.run"⟩
  · exact ⟨10, by decide, by decide, by wtm_at "V.run"⟩
theorem isi_op {op : Op} : kIsi (opT op) (.ty "tuple") = some (.bl true) := by cases op <;> exact isi_tt
theorem deed_by_op {op : Op} {l p : List Int} {co : Int} : Ff_law_deed_by [opT op, .lst .mu (l.map T.int), .lst .mu (p.map T.int), .int co] = .ok (opT op) [opT op, .lst .mu (l.map T.int), .lst .mu (p.map T.int), .int co] := by
  have e1 := @isi_op
  have e2 := @opT_data
  unfold Ff_law_deed_by
  wtm_at "V.run"
theorem twelve {x : Int} (h : 0 ≤ x ∧ x < 12) : x = 0 ∨ x = 1 ∨ x = 2 ∨ x = 3 ∨ x = 4 ∨ x = 5 ∨ x = 6 ∨ x = 7 ∨ x = 8 ∨ x = 9 ∨ x = 10 ∨ x = 11 := by omega
theorem int_bl {b : Bool} : kInt (.bl b) = some (.int (if b = true then 1 else 0)) := rfl
theorem ix12_0 : ixN 12 0 = some 0 := rfl
theorem ix12_1 : ixN 12 1 = some 1 := rfl
theorem ix12_2 : ixN 12 2 = some 2 := rfl
theorem ix12_3 : ixN 12 3 = some 3 := rfl
theorem ix12_4 : ixN 12 4 = some 4 := rfl
theorem ix12_5 : ixN 12 5 = some 5 := rfl
theorem ix12_6 : ixN 12 6 = some 6 := rfl
theorem ix12_7 : ixN 12 7 = some 7 := rfl
theorem ix12_8 : ixN 12 8 = some 8 := rfl
theorem ix12_9 : ixN 12 9 = some 9 := rfl
theorem ix12_10 : ixN 12 10 = some 10 := rfl
theorem ix12_11 : ixN 12 11 = some 11 := rfl

theorem seq_nx {a b : SF} {δ δ' : En} (h : a δ = .nx δ') : sSeq a b δ = b δ' := by rw [ap_sSeq, h]; rfl
/-! a ring of boxes -/
def OwnE (e : Ent) : Prop := e = .emp ∨ ∃ t, e = .own t
theorem OwnE.noal {e : Ent} (h : OwnE e) {i : Nat} : e.noal i = true := by rcases h with rfl | ⟨i, rfl⟩ <;> rfl
theorem datas_ops {ops : List Op} : datas (ops.map opT) = true := datas_map (fun _ => opT_data) ops
theorem push_op {ops : List Op} {op : Op} : ops.map opT ++ [opT op] = (ops ++ [op]).map opT := by rw [List.map_append]; rfl
abbrev laidS (far many step : Int) (ops : List Op) (e3 e5 e6 e7 : Ent) : List Ent := [.own (.int far), .own (.int many), .own (.lst .mu (ops.map opT)), e3, .own (.int step), e5, e6, e7]
theorem laid_A {far many step j : Int} {ops : List Op} {e5 e6 e7 : Ent} (hm : 0 < many) (h5 : In5 e5) (h6 : In5 e6) (h7 : OwnE e7) : (sSet 5 (eBin (eBin (eName 3) (eName 4) (op2 kAdd)) (eName 1) (op2 kMod))) ⟨laidS far many step ops (.own (.int j)) e5 e6 e7, []⟩ = .nx ⟨laidS far many step ops (.own (.int j)) (.own (.int ((j + step) % many))) e6 e7, []⟩ := by
  have e1 : kMod (.int (j + step)) (.int many) = some (.int ((j + step) % many)) := kMod_pos hm
  clear hm
  rcases h5 with rfl | ⟨i5, rfl⟩ <;> rcases h6 with rfl | ⟨i6, rfl⟩ <;> rcases h7 with rfl | ⟨i7, rfl⟩ <;> wtm_at "V.run"
theorem laid_B {far many step : Int} {j : Nat} {ot : Int} {ops : List Op} {e6 e7 : Ent} (h6 : In5 e6) (h7 : OwnE e7) : (sSet 6 (eCall 3 Ff_law_mixed (eThen (eName 0) (eThen (eName 3) (eThen (ePush (.int 5)) eNil))))) ⟨laidS far many step ops (.own (.int j)) (.own (.int ot)) e6 e7, []⟩ = .nx ⟨laidS far many step ops (.own (.int j)) (.own (.int ot)) (.own (.int (mixF far j 5))) e7, []⟩ := by
  have e1 := mixed_ok (c := far) (k := (j : Int)) (m := 5) (by omega) (by decide)
  rcases h6 with rfl | ⟨i6, rfl⟩ <;> rcases h7 with rfl | ⟨i7, rfl⟩ <;> wtm_at "V.run"
theorem laid_C {far many step : Int} {j : Nat} {ot way : Int} {ops : List Op} {e7 : Ent} (h7 : OwnE e7) (hl : ops.length < lineA) : ∃ op : Op, op.short ∧ (sIf (tVal (eBin (eName 6) (ePush (.int 1)) (op2 kEq))) (sExpr (eMeth isLst (eName 2) (eThen (eThen (eTup 4 (eThen (ePush (.str "pair")) (eThen (eBin (eCall 3 Ff_law_mixed (eThen (eName 0) (eThen (eBin (eName 3) (ePush (.int 1)) (op2 kAdd)) (eThen (ePush (.int 2)) eNil)))) (eBin (eName 1) (ePush (.int 1)) (op2 kSub)) (op2 kMul)) (eThen (eThen (eName 3) eFrz) (eThen (eThen (eName 5) eFrz) eNil))))) eFrz) eNil) eAppend)) (sExpr (eMeth isLst (eName 2) (eThen (eThen (eTup 5 (eThen (ePush (.str "put")) (eThen (eThen (eName 3) eFrz) (eThen (eCall 3 Ff_law_mixed (eThen (eName 0) (eThen (eBin (eName 3) (ePush (.int 2)) (op2 kAdd)) (eThen (ePush (.int 3)) eNil)))) (eThen (eThen (eName 5) eFrz) (eThen (eBin (eName 6) (ePush (.int 0)) (op2 kGt)) eNil)))))) eFrz) eNil) eAppend))) ⟨laidS far many step ops (.own (.int j)) (.own (.int ot)) (.own (.int way)) e7, []⟩ = .nx ⟨laidS far many step (ops ++ [op]) (.own (.int j)) (.own (.int ot)) (.own (.int way)) e7, []⟩ := by
  have z4 : (4 : Nat) ≤ sizeLine := by decide
  have z5 : (5 : Nat) ≤ sizeLine := by decide
  by_cases hw : way = 1
  · subst hw
    have e1 := mixed_ok (c := far) (k := (j : Int) + 1) (m := 2) (by omega) (by decide)
    have b1 := mixF_bd (c := far) (k := (j : Int) + 1) (m := 2) (by decide)
    have e2 : kMul (.int (mixF far ((j : Int) + 1) 2)) (.int (many - 1)) = some (.int (mixF far ((j : Int) + 1) 2 * (many - 1))) := kMul_int (mulS_l b1.1 (by omega))
    refine ⟨.pair (mixF far ((j : Int) + 1) 2 * (many - 1)) j ot, trivial, ?_⟩
    have k1 := push_op (ops := ops) (op := .pair (mixF far ((j : Int) + 1) 2 * (many - 1)) j ot)
    unfold laidS
    rw [← k1]
    clear k1 b1
    unfold opT
    rcases h7 with rfl | ⟨i7, rfl⟩ <;> wtm_at "V.run"
  · have e1 := mixed_ok (c := far) (k := (j : Int) + 2) (m := 3) (by omega) (by decide)
    refine ⟨.put j (mixF far ((j : Int) + 2) 3) ot (decide (0 < way)), trivial, ?_⟩
    have k1 := push_op (ops := ops) (op := .put j (mixF far ((j : Int) + 2) 3) ot (decide (0 < way)))
    unfold laidS
    rw [← k1]
    clear k1
    unfold opT
    rcases h7 with rfl | ⟨i7, rfl⟩ <;> wtm_at "V.run"
theorem laid_D {far many step : Int} {j : Nat} {ot way : Int} {ops : List Op} {e7 : Ent} (hm : 0 < many) (h7 : OwnE e7) (hl : ops.length < lineA) : ∃ (ops' : List Op) (e7' : Ent), (∀ op ∈ ops', op.short) ∧ ops'.length ≤ 1 ∧ OwnE e7' ∧ (sIf (tVal (eBin (eCall 3 Ff_law_mixed (eThen (eName 0) (eThen (eBin (eName 3) (ePush (.int 3)) (op2 kAdd)) (eThen (ePush (.int 2)) eNil)))) (ePush (.int 1)) (op2 kEq))) (sSeq (sSet 7 (eBin (eLst 3 (eThen (eLst 1 (eThen (eTup 4 (eThen (ePush (.str "hang")) (eThen (eBin (eBin (eName 3) (ePush (.int 2)) (op2 kAdd)) (eName 1) (op2 kMod)) (eThen (ePush (.int 0)) (eThen (eBin (eName 6) (ePush (.int 1)) (op2 kGt)) eNil))))) eNil)) (eThen (eLst 1 (eThen (eTup 1 (eThen (ePush (.str "up")) eNil)) eNil)) (eThen (eLst 1 (eThen (eTup 2 (eThen (ePush (.str "down")) (eThen (ePush (.int 0)) eNil))) eNil)) eNil)))) (eBin (eName 6) (ePush (.int 3)) (op2 kMod)) eIx)) (sExpr (eMeth isLst (eName 2) (eThen (eThen (eTup 3 (eThen (ePush (.str "bequeath")) (eThen (eThen (eName 3) eFrz) (eThen (eThen (eName 7) eFrz) eNil)))) eFrz) eNil) eAppend))) sNil) ⟨laidS far many step ops (.own (.int j)) (.own (.int ot)) (.own (.int way)) e7, []⟩ = .nx ⟨laidS far many step (ops ++ ops') (.own (.int j)) (.own (.int ot)) (.own (.int way)) e7', []⟩ := by
  have z1 : (1 : Nat) ≤ sizeLine := by decide
  have z2 : (2 : Nat) ≤ sizeLine := by decide
  have z3 : (3 : Nat) ≤ sizeLine := by decide
  have z4 : (4 : Nat) ≤ sizeLine := by decide
  have e1 := mixed_ok (c := far) (k := (j : Int) + 3) (m := 2) (by omega) (by decide)
  by_cases hx : mixF far ((j : Int) + 3) 2 = 1
  · rw [hx] at e1
    have e2 : kMod (.int way) (.int 3) = some (.int (way % 3)) := kMod_pos (by decide)
    have e3 : kMod (.int ((j : Int) + 2)) (.int many) = some (.int (((j : Int) + 2) % many)) := kMod_pos hm
    have h3 := three ⟨Int.emod_nonneg way (by decide : (3 : Int) ≠ 0), Int.emod_lt_of_pos way (by decide : (0 : Int) < 3)⟩
    have key : ∀ ds : List Deed, ds.length < lineA → (sIf (tVal (eBin (eCall 3 Ff_law_mixed (eThen (eName 0) (eThen (eBin (eName 3) (ePush (.int 3)) (op2 kAdd)) (eThen (ePush (.int 2)) eNil)))) (ePush (.int 1)) (op2 kEq))) (sSeq (sSet 7 (eBin (eLst 3 (eThen (eLst 1 (eThen (eTup 4 (eThen (ePush (.str "hang")) (eThen (eBin (eBin (eName 3) (ePush (.int 2)) (op2 kAdd)) (eName 1) (op2 kMod)) (eThen (ePush (.int 0)) (eThen (eBin (eName 6) (ePush (.int 1)) (op2 kGt)) eNil))))) eNil)) (eThen (eLst 1 (eThen (eTup 1 (eThen (ePush (.str "up")) eNil)) eNil)) (eThen (eLst 1 (eThen (eTup 2 (eThen (ePush (.str "down")) (eThen (ePush (.int 0)) eNil))) eNil)) eNil)))) (eBin (eName 6) (ePush (.int 3)) (op2 kMod)) eIx)) (sExpr (eMeth isLst (eName 2) (eThen (eThen (eTup 3 (eThen (ePush (.str "bequeath")) (eThen (eThen (eName 3) eFrz) (eThen (eThen (eName 7) eFrz) eNil)))) eFrz) eNil) eAppend))) sNil) ⟨laidS far many step ops (.own (.int j)) (.own (.int ot)) (.own (.int way)) e7, []⟩ = .nx ⟨[.own (.int far), .own (.int many), .own (.lst .mu (ops.map opT ++ [beqT j ds])), .own (.int j), .own (.int step), .own (.int ot), .own (.int way), .own (.lst .fz (ds.map deedT))], []⟩ → ∃ (ops' : List Op) (e7' : Ent), (∀ op ∈ ops', op.short) ∧ ops'.length ≤ 1 ∧ OwnE e7' ∧ (sIf (tVal (eBin (eCall 3 Ff_law_mixed (eThen (eName 0) (eThen (eBin (eName 3) (ePush (.int 3)) (op2 kAdd)) (eThen (ePush (.int 2)) eNil)))) (ePush (.int 1)) (op2 kEq))) (sSeq (sSet 7 (eBin (eLst 3 (eThen (eLst 1 (eThen (eTup 4 (eThen (ePush (.str "hang")) (eThen (eBin (eBin (eName 3) (ePush (.int 2)) (op2 kAdd)) (eName 1) (op2 kMod)) (eThen (ePush (.int 0)) (eThen (eBin (eName 6) (ePush (.int 1)) (op2 kGt)) eNil))))) eNil)) (eThen (eLst 1 (eThen (eTup 1 (eThen (ePush (.str "up")) eNil)) eNil)) (eThen (eLst 1 (eThen (eTup 2 (eThen (ePush (.str "down")) (eThen (ePush (.int 0)) eNil))) eNil)) eNil)))) (eBin (eName 6) (ePush (.int 3)) (op2 kMod)) eIx)) (sExpr (eMeth isLst (eName 2) (eThen (eThen (eTup 3 (eThen (ePush (.str "bequeath")) (eThen (eThen (eName 3) eFrz) (eThen (eThen (eName 7) eFrz) eNil)))) eFrz) eNil) eAppend))) sNil) ⟨laidS far many step ops (.own (.int j)) (.own (.int ot)) (.own (.int way)) e7, []⟩ = .nx ⟨laidS far many step (ops ++ ops') (.own (.int j)) (.own (.int ot)) (.own (.int way)) e7', []⟩ := fun ds hd h => by
      refine ⟨[.will j ds], .own (.lst .fz (ds.map deedT)), fun op ho => ?_, Nat.le_refl _, .inr ⟨_, rfl⟩, ?_⟩
      · have := List.mem_singleton.mp ho
        subst this
        exact hd
      · rw [h]
        unfold laidS
        rw [← push_op]; rfl
    clear hx hm
    rcases h3 with h | h | h <;> rw [h] at e2 <;> clear h
    · refine key [.hang (((j : Int) + 2) % many) 0 (decide (1 < way))] (by show 1 < lineA; decide) ?_
      clear key
      unfold laidS beqT
      simp only [List.map_cons, List.map_nil, deedT]
      rcases h7 with rfl | ⟨i7, rfl⟩ <;> wtm_at "V.run"
    · refine key [.up] (by decide) ?_
      clear key
      unfold laidS beqT
      simp only [List.map_cons, List.map_nil, deedT]
      rcases h7 with rfl | ⟨i7, rfl⟩ <;> wtm_at "V.run"
    · refine key [.down 0] (by decide) ?_
      clear key
      unfold laidS beqT
      simp only [List.map_cons, List.map_nil, deedT]
      rcases h7 with rfl | ⟨i7, rfl⟩ <;> wtm_at "V.run"
  · refine ⟨[], e7, fun op ho => (nomatch ho), Nat.zero_le _, h7, ?_⟩
    generalize mixF far ((j : Int) + 3) 2 = x at *
    rw [List.append_nil]
    unfold laidS
    rcases h7 with rfl | ⟨i7, rfl⟩ <;> wtm_at "V.run"
def LaidP (far many step : Int) (n0 : Nat) (j : Nat) (sl : List Ent) : Prop := ∃ (ops : List Op) (e3 e5 e6 e7 : Ent), (∀ op ∈ ops, op.short) ∧ ops.length ≤ n0 + 2 * j ∧ In5 e3 ∧ In5 e5 ∧ In5 e6 ∧ OwnE e7 ∧ sl = laidS far many step ops e3 e5 e6 e7
theorem laid_loop1 {far many step : Int} {ops : List Op} (hm : 0 < many) (h60 : many ≤ 60) (hs : ∀ op ∈ ops, op.short) (hl : ops.length ≤ 60) : ∃ sl', lp_laid_1 ⟨laidS far many step ops .emp .emp .emp .emp, []⟩ = .nx ⟨sl', []⟩ ∧ LaidP far many step 60 many.toNat sl' := by
  refine sFor1_slot (i := many) (LaidP far many step 60) ?_ (by omega) (by omega) ⟨ops, _, _, _, _, hs, hl, .inl rfl, .inl rfl, .inl rfl, .inl rfl, rfl⟩ fun j sl hj hP => ?_
  · clear hs hl
    unfold laidS
    wtm_at "V.run"
  · obtain ⟨o, e3, e5, e6, e7, hs, hl, h3, h5, h6, h7, rfl⟩ := hP
    have hA : o.length < lineA := by
      have : lineA = 1000000 := rfl
      omega
    refine ⟨by simp [noal_own, noal_emp, h3.noal, h5.noal, h6.noal, h7.noal], ?_⟩
    obtain ⟨op, c1, c2⟩ := laid_C (far := far) (many := many) (step := step) (j := j) (ot := ((j : Int) + step) % many) (way := mixF far j 5) h7 hA
    obtain ⟨ops', e7', d1, d2, d3, d4⟩ := laid_D (far := far) (many := many) (step := step) (j := j) (ot := ((j : Int) + step) % many) (way := mixF far j 5) (ops := o ++ [op]) hm h7 (by
      have : lineA = 1000000 := rfl
      rw [List.length_append]; simp; omega)
    refine ⟨_, (seq_nx (laid_A hm h5 h6 h7)).trans ((seq_nx (laid_B h6 h7)).trans ((seq_nx c2).trans d4)), _, _, _, _, _, fun op' ho => ?_, ?_, .inr ⟨_, rfl⟩, .inr ⟨_, rfl⟩, .inr ⟨_, rfl⟩, d3, rfl⟩
    · rcases List.mem_append.mp ho with ho | ho
      · rcases List.mem_append.mp ho with ho | ho
        · exact hs _ ho
        · have := List.mem_singleton.mp ho
          subst this; exact c1
      · exact d1 _ ho
    · simp only [List.length_append, List.length_cons, List.length_nil]; omega
theorem laid_loop2 {far many step : Int} {sl : List Ent} (hm : 0 < many) (h60 : many ≤ 60) (hP0 : LaidP far many step 60 many.toNat sl) : ∃ sl', lp_laid_2 ⟨sl, []⟩ = .nx ⟨sl', []⟩ ∧ LaidP far many step 180 many.toNat sl' := by
  refine sFor1_slot (i := many) (sl := sl) (LaidP far many step 180) ?_ (by omega) (by omega) ?_ fun j sl hj hP => ?_
  · obtain ⟨o, e3, e5, e6, e7, hs, hl, h3, h5, h6, h7, rfl⟩ := hP0
    clear hs hl
    unfold laidS
    rcases h3 with rfl | ⟨i3, rfl⟩ <;> rcases h5 with rfl | ⟨i5, rfl⟩ <;> rcases h6 with rfl | ⟨i6, rfl⟩ <;> rcases h7 with rfl | ⟨i7, rfl⟩ <;> rfl
  · obtain ⟨o, e3, e5, e6, e7, hs, hl, h3, h5, h6, h7, rfl⟩ := hP0
    exact ⟨o, e3, e5, e6, e7, hs, by omega, h3, h5, h6, h7, rfl⟩
  · obtain ⟨o, e3, e5, e6, e7, hs, hl, h3, h5, h6, h7, rfl⟩ := hP
    have hA : o.length < lineA := by
      have : lineA = 1000000 := rfl
      omega
    have z2 : (2 : Nat) ≤ sizeLine := by decide
    refine ⟨by simp [noal_own, noal_emp, h3.noal, h5.noal, h6.noal, h7.noal], ?_⟩
    have e1 := mixed_ok (c := far) (k := (j : Int) + 4) (m := 6) (by omega) (by decide)
    generalize mixF far ((j : Int) + 4) 6 = x at *
    by_cases hx : 0 < x
    · refine ⟨laidS far many step (o ++ [.drop j]) (.own (.int j)) e5 e6 e7, ?_, _, _, _, _, _, fun op' ho => ?_, ?_, .inr ⟨_, rfl⟩, h5, h6, h7, rfl⟩
      · have k1 := push_op (ops := o) (op := .drop j)
        unfold laidS
        rw [← k1]
        clear k1 hs hl hj hm h60 hP0
        unfold opT
        rcases h5 with rfl | ⟨i5, rfl⟩ <;> rcases h6 with rfl | ⟨i6, rfl⟩ <;> rcases h7 with rfl | ⟨i7, rfl⟩ <;> wtm_at "V.run"
      · rcases List.mem_append.mp ho with ho | ho
        · exact hs _ ho
        · have := List.mem_singleton.mp ho
          subst this; trivial
      · simp only [List.length_append, List.length_cons, List.length_nil]; omega
    · refine ⟨laidS far many step o (.own (.int j)) e5 e6 e7, ?_, o, _, _, _, _, hs, by omega, .inr ⟨_, rfl⟩, h5, h6, h7, rfl⟩
      unfold laidS
      clear hs hl hj hm h60 hP0
      rcases h5 with rfl | ⟨i5, rfl⟩ <;> rcases h6 with rfl | ⟨i6, rfl⟩ <;> rcases h7 with rfl | ⟨i7, rfl⟩ <;> wtm_at "V.run"

theorem add_ops {ops us : List Op} (h : ops.length + us.length ≤ 1000) : kAdd (.lst .mu (ops.map opT)) (.lst .mu (us.map opT)) = some (.lst .mu ((ops ++ us).map opT)) := by
  show (if datas (ops.map opT) && datas (us.map opT) && decide ((ops.map opT).length + (us.map opT).length ≤ sizeLine) then some (T.lst .mu (ops.map opT ++ us.map opT)) else none) = _
  have hz : (1000 : Nat) ≤ sizeLine := by decide
  rw [datas_ops, datas_ops, List.length_map, List.length_map, decide_eq_true (by omega : ops.length + us.length ≤ sizeLine), List.map_append]
  rfl
theorem laid_many {far : Int} {rest : SF} : ∃ many : Int, 0 < many ∧ many ≤ 60 ∧ sSeq (sSet 1 (eBin (ePush (.int 3)) (eBin (eName 0) (ePush (.int 9)) (op2 kMod)) (op2 kAdd))) (sSeq (sIf (tVal (eBin (eBin (eBin (eName 0) (ePush (.int 9)) (op2 kFdiv)) (ePush (.int 6)) (op2 kMod)) (ePush (.int 1)) (op2 kEq))) (sSet 1 (eBin (ePush (.int 50)) (eBin (eBin (eName 0) (ePush (.int 54)) (op2 kFdiv)) (ePush (.int 11)) (op2 kMod)) (op2 kAdd))) sNil) rest) ⟨[.own (.int far), .emp, .emp, .emp, .emp, .emp, .emp, .emp], []⟩ = rest ⟨[.own (.int far), .own (.int many), .emp, .emp, .emp, .emp, .emp, .emp], []⟩ := by
  have e1 : kMod (.int far) (.int 9) = some (.int (far % 9)) := kMod_pos (by decide)
  have e2 : kFdiv (.int far) (.int 9) = some (.int (far / 9)) := kFdiv_pos (by decide) (by decide)
  have e3 : kMod (.int (far / 9)) (.int 6) = some (.int (far / 9 % 6)) := kMod_pos (by decide)
  have e4 : kFdiv (.int far) (.int 54) = some (.int (far / 54)) := kFdiv_pos (by decide) (by decide)
  have e5 : kMod (.int (far / 54)) (.int 11) = some (.int (far / 54 % 11)) := kMod_pos (by decide)
  have a1 := Int.emod_nonneg far (show (9 : Int) ≠ 0 by omega)
  have a2 := Int.emod_lt_of_pos far (show (0 : Int) < 9 by omega)
  have a3 := Int.emod_nonneg (far / 54) (show (11 : Int) ≠ 0 by omega)
  have a4 := Int.emod_lt_of_pos (far / 54) (show (0 : Int) < 11 by omega)
  by_cases h : far / 9 % 6 = 1
  · rw [h] at e3
    refine ⟨50 + far / 54 % 11, by omega, by omega, ?_⟩
    clear a1 a2 a3 a4 h
    wtm_at "V.run"
  · refine ⟨3 + far % 9, by omega, by omega, ?_⟩
    clear a1 a2 a3 a4
    generalize far / 9 % 6 = w at *
    wtm_at "V.run"
theorem laid_lc {far many : Int} (h0 : 0 < many) (h60 : many ≤ 60) : (sSet 2 (eLc1 (eName 1) (gSlot 3) bYes (eTup 2 (eThen (ePush (.str "make")) (eThen (ePush (.int 3)) eNil))) [3])) ⟨[.own (.int far), .own (.int many), .emp, .emp, .emp, .emp, .emp, .emp], []⟩ = .nx ⟨[.own (.int far), .own (.int many), .own (.lst .mu (((List.range many.toNat).map fun _ => Op.make 3).map opT)), .emp, .emp, .emp, .emp, .emp], []⟩ := by
  have lc : lp_laid_0 ⟨[.own (.int far), .own (.int many), .emp, .emp, .emp, .emp, .emp, .emp], []⟩ = .ok ⟨[.own (.int far), .own (.int many), .emp, .emp, .emp, .emp, .emp, .emp], [.own (.lst .mu (((List.range many.toNat).map fun _ => Op.make 3).map opT))]⟩ := by
    have e2 : (2 : Nat) ≤ sizeLine := by decide
    refine (eLc1_run (i := many) (st := []) (sl := [.own (.int far), .own (.int many), .emp, .emp, .emp, .emp, .emp, .emp]) (fun j => [.own (.int far), .own (.int many), .emp, .emp, .emp, .emp, .emp, .emp]) (fun j => [opT (.make 3)]) ?_ ?_ (by omega) ?_ (fun _ => Nat.le_refl _) ?_).trans ?_
    · clear h0 h60
      wtm_at "V.run"
    · rfl
    · have : lineA = 1000000 := rfl
      omega
    · intro j acc hj ha
      clear h0 h60 hj
      unfold lcTurn pushI opT
      simp only [Int.zero_add]
      wtm_at "V.run"
    · rw [flatMap_one, List.map_map]; rfl
  clear h0 h60
  wtm_at "V.run"
theorem laid_step {far many : Int} {l : T} (hl : l.data = false) : ∃ step : Int, (sSet 4 (eBin (eLst 4 (eThen (ePush (.int 1)) (eThen (eThen (ePush (.int 1)) (op1 kNeg)) (eThen (ePush (.int 2)) (eThen (eBin (eName 1) (ePush (.int 1)) (op2 kSub)) eNil))))) (eBin (eBin (eName 0) (ePush (.int 54)) (op2 kFdiv)) (ePush (.int 4)) (op2 kMod)) eIx)) ⟨[.own (.int far), .own (.int many), .own l, .emp, .emp, .emp, .emp, .emp], []⟩ = .nx ⟨[.own (.int far), .own (.int many), .own l, .emp, .own (.int step), .emp, .emp, .emp], []⟩ := by
  have e4 : kFdiv (.int far) (.int 54) = some (.int (far / 54)) := kFdiv_pos (by decide) (by decide)
  have e5 : kMod (.int (far / 54)) (.int 4) = some (.int (far / 54 % 4)) := kMod_pos (by decide)
  have h := four ⟨Int.emod_nonneg (far / 54) (show (4 : Int) ≠ 0 by omega), Int.emod_lt_of_pos (far / 54) (show (0 : Int) < 4 by omega)⟩
  have z4 : (4 : Nat) ≤ sizeLine := by decide
  have q2 := @neg_int
  rcases h with h | h | h | h <;> rw [h] at e5 <;> clear h
  · exact ⟨1, by wtm_at "V.run"⟩
  · exact ⟨-1, by wtm_at "V.run"⟩
  · exact ⟨2, by wtm_at "V.run"⟩
  · exact ⟨many - 1, by wtm_at "V.run"⟩
theorem laid_end {far many step : Int} {ops : List Op} {e3 e5 e6 e7 : Ent} (h3 : In5 e3) (h5 : In5 e5) (h6 : In5 e6) (h7 : OwnE e7) (hs : ∀ op ∈ ops, op.short) (hl : ops.length ≤ 300) : ∃ ops' : List Op, (∀ op ∈ ops', op.short) ∧ ops'.length ≤ 320 ∧ (sIf (tVal (eBin (eBin (eBin (eName 0) (ePush (.int 9)) (op2 kFdiv)) (ePush (.int 6)) (op2 kMod)) (ePush (.int 2)) (op2 kEq))) (sSeq (sSet 2 (eBin (eName 2) (eLst 4 (eThen (eTup 2 (eThen (ePush (.str "make")) (eThen (ePush (.int 1)) eNil))) (eThen (eTup 2 (eThen (ePush (.str "make")) (eThen (ePush (.int 2)) eNil))) (eThen (eTup 2 (eThen (ePush (.str "make")) (eThen (ePush (.int 1)) eNil))) (eThen (eTup 4 (eThen (ePush (.str "pair")) (eThen (eThen (eName 1) eFrz) (eThen (eBin (eName 1) (ePush (.int 1)) (op2 kAdd)) (eThen (eBin (eName 1) (ePush (.int 2)) (op2 kAdd)) eNil))))) eNil))))) (op2 kAdd))) (sSeq (sSet 2 (eBin (eName 2) (eLst 3 (eThen (eTup 3 (eThen (ePush (.str "bequeath")) (eThen (eBin (eName 1) (ePush (.int 1)) (op2 kAdd)) (eThen (eThen (eLst 2 (eThen (eTup 1 (eThen (ePush (.str "up")) eNil)) (eThen (eTup 2 (eThen (ePush (.str "down")) (eThen (eThen (eName 1) eFrz) eNil))) eNil))) eFrz) eNil)))) (eThen (eTup 2 (eThen (ePush (.str "drop")) (eThen (eBin (eName 1) (ePush (.int 1)) (op2 kAdd)) eNil))) (eThen (eTup 2 (eThen (ePush (.str "drop")) (eThen (eBin (eName 1) (ePush (.int 2)) (op2 kAdd)) eNil))) eNil)))) (op2 kAdd))) (sSet 2 (eBin (eName 2) (eLst 1 (eThen (eTup 5 (eThen (ePush (.str "put")) (eThen (eBin (eName 1) (ePush (.int 1)) (op2 kAdd)) (eThen (ePush (.int 0)) (eThen (eThen (eName 1) eFrz) (eThen (eBin (eBin (eBin (eName 0) (ePush (.int 54)) (op2 kFdiv)) (ePush (.int 2)) (op2 kMod)) (ePush (.int 1)) (op2 kEq)) eNil)))))) eNil)) (op2 kAdd))))) sNil) ⟨laidS far many step ops e3 e5 e6 e7, []⟩ = .nx ⟨laidS far many step ops' e3 e5 e6 e7, []⟩ := by
  have e2 : kFdiv (.int far) (.int 9) = some (.int (far / 9)) := kFdiv_pos (by decide) (by decide)
  have e3' : kMod (.int (far / 9)) (.int 6) = some (.int (far / 9 % 6)) := kMod_pos (by decide)
  have e4 : kFdiv (.int far) (.int 54) = some (.int (far / 54)) := kFdiv_pos (by decide) (by decide)
  have e5' : kMod (.int (far / 54)) (.int 2) = some (.int (far / 54 % 2)) := kMod_pos (by decide)
  have z1 : (1 : Nat) ≤ sizeLine := by decide
  have z2 : (2 : Nat) ≤ sizeLine := by decide
  have z3 : (3 : Nat) ≤ sizeLine := by decide
  have z4 : (4 : Nat) ≤ sizeLine := by decide
  have z5 : (5 : Nat) ≤ sizeLine := by decide
  by_cases h : far / 9 % 6 = 2
  · rw [h] at e3'
    obtain ⟨u1, hu1⟩ : ∃ u, u = [Op.make 1, .make 2, .make 1, .pair many (many + 1) (many + 2)] := ⟨_, rfl⟩
    obtain ⟨u2, hu2⟩ : ∃ u, u = [Op.will (many + 1) [.up, .down many], .drop (many + 1), .drop (many + 2)] := ⟨_, rfl⟩
    obtain ⟨u3, hu3⟩ : ∃ u, u = [Op.put (many + 1) 0 many (decide (far / 54 % 2 = 1))] := ⟨_, rfl⟩
    have l1 : u1.length = 4 := by rw [hu1]; rfl
    have l2 : u2.length = 3 := by rw [hu2]; rfl
    have l3 : u3.length = 1 := by rw [hu3]; rfl
    have k1 := add_ops (ops := ops) (us := u1) (by omega)
    have k2 := add_ops (ops := ops ++ u1) (us := u2) (by rw [List.length_append]; omega)
    have k3 := add_ops (ops := ops ++ u1 ++ u2) (us := u3) (by rw [List.length_append, List.length_append]; omega)
    refine ⟨ops ++ u1 ++ u2 ++ u3, fun op ho => ?_, by rw [List.length_append, List.length_append, List.length_append]; omega, ?_⟩
    · rcases List.mem_append.mp ho with ho | ho
      · rcases List.mem_append.mp ho with ho | ho
        · rcases List.mem_append.mp ho with ho | ho
          · exact hs _ ho
          · rw [hu1] at ho
            simp at ho
            rcases ho with rfl | rfl | rfl | rfl <;> trivial
        · rw [hu2] at ho
          simp at ho
          rcases ho with rfl | rfl | rfl
          · show 2 < lineA
            decide
          · trivial
          · trivial
      · rw [hu3] at ho
        simp at ho
        rcases ho with rfl; trivial
    · have g1 : u1.map opT = [.tup [.str "make", .int 1], .tup [.str "make", .int 2], .tup [.str "make", .int 1], .tup [.str "pair", .int many, .int (many + 1), .int (many + 2)]] := by rw [hu1]; rfl
      have g2 : u2.map opT = [.tup [.str "bequeath", .int (many + 1), .lst .fz [.tup [.str "up"], .tup [.str "down", .int many]]], .tup [.str "drop", .int (many + 1)], .tup [.str "drop", .int (many + 2)]] := by rw [hu2]; rfl
      have g3 : u3.map opT = [.tup [.str "put", .int (many + 1), .int 0, .int many, .bl (decide (far / 54 % 2 = 1))]] := by rw [hu3]; rfl
      generalize (ops ++ u1 ++ u2 ++ u3) = o3 at *
      generalize (ops ++ u1 ++ u2) = o2 at *
      generalize (ops ++ u1) = o1 at *
      rw [g1] at k1
      rw [g2] at k2
      rw [g3] at k3
      clear hu1 hu2 hu3 l1 l2 l3 g1 g2 g3 hs hl h
      unfold laidS
      rcases h3 with rfl | ⟨i3, rfl⟩ <;> rcases h5 with rfl | ⟨i5, rfl⟩ <;> rcases h6 with rfl | ⟨i6, rfl⟩ <;> rcases h7 with rfl | ⟨i7, rfl⟩ <;> wtm_at "V.run"
  · refine ⟨ops, hs, by omega, ?_⟩
    clear hs hl
    generalize far / 9 % 6 = w at *
    unfold laidS
    wtm_at "V.run"
theorem laid_ok {far : Int} : ∃ ops : List Op, (∀ op ∈ ops, op.short) ∧ ops.length ≤ 320 ∧ Ff_law_laid [.int far] = .ok (.lst .mu (ops.map opT)) [.int far] := by
  obtain ⟨many, hm, h60, e1⟩ := laid_many (far := far) (rest := (sSeq (sSet 2 (eLc1 (eName 1) (gSlot 3) bYes (eTup 2 (eThen (ePush (.str "make")) (eThen (ePush (.int 3)) eNil))) [3])) (sSeq (sSet 4 (eBin (eLst 4 (eThen (ePush (.int 1)) (eThen (eThen (ePush (.int 1)) (op1 kNeg)) (eThen (ePush (.int 2)) (eThen (eBin (eName 1) (ePush (.int 1)) (op2 kSub)) eNil))))) (eBin (eBin (eName 0) (ePush (.int 54)) (op2 kFdiv)) (ePush (.int 4)) (op2 kMod)) eIx)) (sSeq (sFor1 (eName 1) (gSlot 3) (sSeq (sSet 5 (eBin (eBin (eName 3) (eName 4) (op2 kAdd)) (eName 1) (op2 kMod))) (sSeq (sSet 6 (eCall 3 Ff_law_mixed (eThen (eName 0) (eThen (eName 3) (eThen (ePush (.int 5)) eNil))))) (sSeq (sIf (tVal (eBin (eName 6) (ePush (.int 1)) (op2 kEq))) (sExpr (eMeth isLst (eName 2) (eThen (eThen (eTup 4 (eThen (ePush (.str "pair")) (eThen (eBin (eCall 3 Ff_law_mixed (eThen (eName 0) (eThen (eBin (eName 3) (ePush (.int 1)) (op2 kAdd)) (eThen (ePush (.int 2)) eNil)))) (eBin (eName 1) (ePush (.int 1)) (op2 kSub)) (op2 kMul)) (eThen (eThen (eName 3) eFrz) (eThen (eThen (eName 5) eFrz) eNil))))) eFrz) eNil) eAppend)) (sExpr (eMeth isLst (eName 2) (eThen (eThen (eTup 5 (eThen (ePush (.str "put")) (eThen (eThen (eName 3) eFrz) (eThen (eCall 3 Ff_law_mixed (eThen (eName 0) (eThen (eBin (eName 3) (ePush (.int 2)) (op2 kAdd)) (eThen (ePush (.int 3)) eNil)))) (eThen (eThen (eName 5) eFrz) (eThen (eBin (eName 6) (ePush (.int 0)) (op2 kGt)) eNil)))))) eFrz) eNil) eAppend))) (sIf (tVal (eBin (eCall 3 Ff_law_mixed (eThen (eName 0) (eThen (eBin (eName 3) (ePush (.int 3)) (op2 kAdd)) (eThen (ePush (.int 2)) eNil)))) (ePush (.int 1)) (op2 kEq))) (sSeq (sSet 7 (eBin (eLst 3 (eThen (eLst 1 (eThen (eTup 4 (eThen (ePush (.str "hang")) (eThen (eBin (eBin (eName 3) (ePush (.int 2)) (op2 kAdd)) (eName 1) (op2 kMod)) (eThen (ePush (.int 0)) (eThen (eBin (eName 6) (ePush (.int 1)) (op2 kGt)) eNil))))) eNil)) (eThen (eLst 1 (eThen (eTup 1 (eThen (ePush (.str "up")) eNil)) eNil)) (eThen (eLst 1 (eThen (eTup 2 (eThen (ePush (.str "down")) (eThen (ePush (.int 0)) eNil))) eNil)) eNil)))) (eBin (eName 6) (ePush (.int 3)) (op2 kMod)) eIx)) (sExpr (eMeth isLst (eName 2) (eThen (eThen (eTup 3 (eThen (ePush (.str "bequeath")) (eThen (eThen (eName 3) eFrz) (eThen (eThen (eName 7) eFrz) eNil)))) eFrz) eNil) eAppend))) sNil))))) (sSeq (sFor1 (eName 1) (gSlot 3) (sIf (tVal (eBin (eCall 3 Ff_law_mixed (eThen (eName 0) (eThen (eBin (eName 3) (ePush (.int 4)) (op2 kAdd)) (eThen (ePush (.int 6)) eNil)))) (ePush (.int 0)) (op2 kGt))) (sExpr (eMeth isLst (eName 2) (eThen (eThen (eTup 2 (eThen (ePush (.str "drop")) (eThen (eThen (eName 3) eFrz) eNil))) eFrz) eNil) eAppend)) sNil)) (sSeq (sIf (tVal (eBin (eBin (eBin (eName 0) (ePush (.int 9)) (op2 kFdiv)) (ePush (.int 6)) (op2 kMod)) (ePush (.int 2)) (op2 kEq))) (sSeq (sSet 2 (eBin (eName 2) (eLst 4 (eThen (eTup 2 (eThen (ePush (.str "make")) (eThen (ePush (.int 1)) eNil))) (eThen (eTup 2 (eThen (ePush (.str "make")) (eThen (ePush (.int 2)) eNil))) (eThen (eTup 2 (eThen (ePush (.str "make")) (eThen (ePush (.int 1)) eNil))) (eThen (eTup 4 (eThen (ePush (.str "pair")) (eThen (eThen (eName 1) eFrz) (eThen (eBin (eName 1) (ePush (.int 1)) (op2 kAdd)) (eThen (eBin (eName 1) (ePush (.int 2)) (op2 kAdd)) eNil))))) eNil))))) (op2 kAdd))) (sSeq (sSet 2 (eBin (eName 2) (eLst 3 (eThen (eTup 3 (eThen (ePush (.str "bequeath")) (eThen (eBin (eName 1) (ePush (.int 1)) (op2 kAdd)) (eThen (eThen (eLst 2 (eThen (eTup 1 (eThen (ePush (.str "up")) eNil)) (eThen (eTup 2 (eThen (ePush (.str "down")) (eThen (eThen (eName 1) eFrz) eNil))) eNil))) eFrz) eNil)))) (eThen (eTup 2 (eThen (ePush (.str "drop")) (eThen (eBin (eName 1) (ePush (.int 1)) (op2 kAdd)) eNil))) (eThen (eTup 2 (eThen (ePush (.str "drop")) (eThen (eBin (eName 1) (ePush (.int 2)) (op2 kAdd)) eNil))) eNil)))) (op2 kAdd))) (sSet 2 (eBin (eName 2) (eLst 1 (eThen (eTup 5 (eThen (ePush (.str "put")) (eThen (eBin (eName 1) (ePush (.int 1)) (op2 kAdd)) (eThen (ePush (.int 0)) (eThen (eThen (eName 1) eFrz) (eThen (eBin (eBin (eBin (eName 0) (ePush (.int 54)) (op2 kFdiv)) (ePush (.int 2)) (op2 kMod)) (ePush (.int 1)) (op2 kEq)) eNil)))))) eNil)) (op2 kAdd))))) sNil) (sRet (eThen (eName 2) eMov))))))))
  have e2 := laid_lc (far := far) hm h60
  have hr : ∀ op ∈ (List.range many.toNat).map fun _ => Op.make 3, op.short := fun op ho => by
    obtain ⟨_, _, rfl⟩ := List.mem_map.mp ho
    trivial
  have hrl : ((List.range many.toNat).map fun _ => Op.make 3).length ≤ 60 := by
    rw [List.length_map, List.length_range]; omega
  generalize ((List.range many.toNat).map fun _ => Op.make 3) = o0 at *
  obtain ⟨step, e3⟩ := laid_step (far := far) (many := many) (l := .lst .mu (o0.map opT)) rfl
  obtain ⟨sl1, e4, p1⟩ := laid_loop1 (far := far) (step := step) hm h60 hr hrl
  obtain ⟨sl2, e5, p2⟩ := laid_loop2 hm h60 p1
  obtain ⟨ops, q3, q5, q6, q7, hs, hl, h3, h5, h6, h7, rfl⟩ := p2
  obtain ⟨ops', s1, s2, e6⟩ := laid_end (far := far) (many := many) (step := step) h3 h5 h6 h7 hs (by omega)
  refine ⟨ops', s1, s2, ?_⟩
  have e7 : (sRet (eThen (eName 2) eMov)) ⟨laidS far many step ops' q3 q5 q6 q7, []⟩ = .rt ⟨[.own (.int far), .own (.int many), .emp, q3, .own (.int step), q5, q6, q7], [.own (.lst .mu (ops'.map opT))]⟩ := by
    clear hs hl s1 s2
    unfold laidS
    rcases h3 with rfl | ⟨i3, rfl⟩ <;> rcases h5 with rfl | ⟨i5, rfl⟩ <;> rcases h6 with rfl | ⟨i6, rfl⟩ <;> rcases h7 with rfl | ⟨i7, rfl⟩ <;> wtm_at "V.run"
  have e : cdf_law_laid ⟨[.own (.int far), .emp, .emp, .emp, .emp, .emp, .emp, .emp], []⟩ = .rt ⟨[.own (.int far), .own (.int many), .emp, q3, .own (.int step), q5, q6, q7], [.own (.lst .mu (ops'.map opT))]⟩ :=
    e1.trans ((seq_nx e2).trans ((seq_nx e3).trans ((seq_nx e4).trans ((seq_nx e5).trans ((seq_nx e6).trans e7)))))
  unfold Ff_law_laid runDef
  show (match cdf_law_laid ⟨[.own (.int far), .emp, .emp, .emp, .emp, .emp, .emp, .emp], []⟩ with | .nx δ => FR.ok .non (outsOf [.int far] δ.sl) | .rt δ => (match δ.st with | .own t :: _ => .ok t (outsOf [.int far] δ.sl) | _ => .no) | .ex C sl => .ex C (outsOf [.int far] sl) | _ => .no) = _
  rw [e]
  rfl

/-! the cells -/
def cellT : Int ⊕ Op → T
  | .inl i => .int i
  | .inr op => opT op
def okC (c : Int ⊕ Op) : Prop := match c with
  | .inl _ => True
  | .inr op => op.short
theorem cellT_data {c : Int ⊕ Op} : (cellT c).data = true := by cases c <;> first | rfl | exact opT_data
theorem datas_cells {cs : List (Int ⊕ Op)} : datas (cs.map cellT) = true := datas_map (fun _ => cellT_data) cs
theorem cells_ints {l : List Int} : (l.map Sum.inl).map cellT = l.map T.int := by rw [List.map_map]; rfl
theorem cells_ops {l : List Op} : (l.map Sum.inr).map cellT = l.map opT := by rw [List.map_map]; rfl
theorem cut_len {α : Type} {l : List α} {a b : Option Int} : (cutT l a b).length ≤ l.length := by
  unfold cutT
  rw [List.length_take, List.length_drop]; omega
theorem add_lst {ts us : List T} (h1 : datas ts = true) (h2 : datas us = true) (h : ts.length + us.length ≤ 1000) : kAdd (.lst .mu ts) (.lst .mu us) = some (.lst .mu (ts ++ us)) := by
  show (if datas ts && datas us && decide (ts.length + us.length ≤ sizeLine) then some (T.lst .mu (ts ++ us)) else none) = _
  have hz : (1000 : Nat) ≤ sizeLine := by decide
  rw [h1, h2, decide_eq_true (by omega : ts.length + us.length ≤ sizeLine)]
  rfl
theorem cell0 {ns : List Int} : ∃ far, Ff_law_cell_at [.scr ns, .int 0] = .ok (.int far) [.scr ns, .int 0] := by
  by_cases h : 0 < ns.length
  · exact ⟨_, cell_at_in (n := 0) h⟩
  · exact ⟨_, cell_at_out (n := 0) h⟩
theorem cells_lc {ns : List Int} {far : Int} : ∃ l : List Int, l.length ≤ 120 ∧ lp_cells_0 ⟨[.own (.scr ns), .own (.int far), .emp], []⟩ = .ok ⟨[.own (.scr ns), .own (.int far), .emp], [.own (.lst .mu (l.map .int))]⟩ := by
  have e1 : kFdiv (.int far) (.int 12) = some (.int (far / 12)) := kFdiv_pos (by decide) (by decide)
  have e2 : kMod (.int (far / 12)) (.int 60) = some (.int (far / 12 % 60)) := kMod_pos (by decide)
  have h0 := Int.emod_nonneg (far / 12) (show (60 : Int) ≠ 0 by omega)
  have h1 := Int.emod_lt_of_pos (far / 12) (show (0 : Int) < 60 by omega)
  refine ⟨(List.range (60 + far / 12 % 60).toNat).map fun j : Nat => far / 12 + 17 * (j : Int), by rw [List.length_map, List.length_range]; omega, ?_⟩
  refine (eLc1_run (i := 60 + far / 12 % 60) (st := []) (sl := [.own (.scr ns), .own (.int far), .emp]) (fun _ => [.own (.scr ns), .own (.int far), .emp]) (fun j : Nat => [.int (far / 12 + 17 * (j : Int))]) ?_ ?_ (by omega) ?_ (fun _ => Nat.le_refl _) ?_).trans ?_
  · wtm_at "V.run"
  · rfl
  · have : lineA = 1000000 := rfl
    omega
  · intro j acc hj ha
    have e3 : kMul (.int 17) (.int (j : Int)) = some (.int (17 * (j : Int))) := kMul_int (mulS_l (by omega) (by omega))
    unfold lcTurn pushI
    simp only [Int.zero_add]
    wtm_at "V.run"
  · rw [flatMap_one, List.map_map]; rfl
theorem cells_ok {ns : List Int} (hl : ns.length ≤ 63) : ∃ cs : List (Int ⊕ Op), (∀ c ∈ cs, okC c) ∧ cs.length ≤ 500 ∧ Ff_law_cells [.scr ns] = .ok (.lst .mu (cs.map cellT)) [.scr ns] := by
  obtain ⟨far, e1⟩ := cell0 (ns := ns)
  have e2 : kMod (.int far) (.int 3) = some (.int (far % 3)) := kMod_pos (by decide)
  have e3 : kMod (.int far) (.int 12) = some (.int (far % 12)) := kMod_pos (by decide)
  have e4 : kFdiv (.int far) (.int 3) = some (.int (far / 3)) := kFdiv_pos (by decide) (by decide)
  by_cases h3 : far % 3 = 1
  · rw [h3] at e2
    obtain ⟨ops, hs, hn, e5⟩ := laid_ok (far := far / 3)
    obtain ⟨l, hl1⟩ : ∃ l, cutT ns (some 1) (some 30) = l := ⟨_, rfl⟩
    have hl2 : l.length ≤ 63 := by rw [← hl1]; exact Nat.le_trans cut_len hl
    refine ⟨ops.map .inr ++ l.map .inl, ?_, by rw [List.length_append, List.length_map, List.length_map]; omega, ?_⟩
    · intro c hc
      rcases List.mem_append.mp hc with hc | hc
      · obtain ⟨op, ho, rfl⟩ := List.mem_map.mp hc
        exact hs op ho
      · obtain ⟨op, ho, rfl⟩ := List.mem_map.mp hc
        trivial
    · have e6 := add_lst (datas_ops (ops := ops)) (datas_ints (l := l)) (by rw [List.length_map, List.length_map]; omega)
      rw [List.map_append, cells_ops, cells_ints]
      clear hs hn hl2 h3
      unfold Ff_law_cells
      wtm_at "V.run"
  · by_cases h12 : far % 12 = 2
    · rw [h12] at e3
      obtain ⟨l0, hn, e5⟩ := cells_lc (ns := ns) (far := far)
      obtain ⟨l, hl1⟩ : ∃ l, cutT ns (some 1) (some 20) = l := ⟨_, rfl⟩
      have hl2 : l.length ≤ 63 := by rw [← hl1]; exact Nat.le_trans cut_len hl
      refine ⟨l0.map .inl ++ l.map .inl, ?_, by rw [List.length_append, List.length_map, List.length_map]; omega, ?_⟩
      · intro c hc
        rcases List.mem_append.mp hc with hc | hc <;> obtain ⟨op, ho, rfl⟩ := List.mem_map.mp hc <;> trivial
      · have e6 := add_lst (datas_ints (l := l0)) (datas_ints (l := l)) (by rw [List.length_map, List.length_map]; omega)
        rw [List.map_append, cells_ints, cells_ints]
        clear hn hl2 h12
        generalize far % 3 = w3 at *
        unfold Ff_law_cells
        wtm_at "V.run"
    · obtain ⟨l, hl1⟩ : ∃ l, cutT ns (some 1) (some 80) = l := ⟨_, rfl⟩
      have hl2 : l.length ≤ 63 := by rw [← hl1]; exact Nat.le_trans cut_len hl
      refine ⟨l.map .inl, ?_, by rw [List.length_map]; omega, ?_⟩
      · intro c hc
        obtain ⟨op, ho, rfl⟩ := List.mem_map.mp hc
        trivial
      · rw [cells_ints]
        clear hl2
        generalize far % 3 = w3 at *
        generalize far % 12 = w12 at *
        unfold Ff_law_cells
        wtm_at "V.run"
/-! loops that may return -/
theorem forGo_ret {kd : T → Option (List T)} {n : Nat} {g : En → Option En} {body : SF} {e : Ent} {st : List Ent} (P : Nat → List Ent → Prop) (R : T → List Ent → Prop) (hm : ∀ sl, P n sl → manyE kd e sl = some n)
    (ht : ∀ j sl, j < n → P j sl → ∃ δ1 δ2, item kd j ⟨sl, e :: st⟩ = some δ1 ∧ g δ1 = some δ2 ∧ ((∃ sl', body δ2 = .nx ⟨sl', e :: st⟩ ∧ P (j + 1) sl') ∨ (∃ v sl', body δ2 = .rt ⟨sl', .own v :: e :: st⟩ ∧ R v sl'))) {sl0 : List Ent} (h0 : P 0 sl0) :
    (∃ sl', forGo kd n g body n ⟨sl0, e :: st⟩ = .nx ⟨sl', st⟩ ∧ P n sl') ∨ (∃ v sl', forGo kd n g body n ⟨sl0, e :: st⟩ = .rt ⟨sl', .own v :: st⟩ ∧ R v sl') := by
  have key : ∀ k j sl, j + k = n → P j sl → (∃ sl', forGo kd n g body k ⟨sl, e :: st⟩ = .nx ⟨sl', st⟩ ∧ P n sl') ∨ (∃ v sl', forGo kd n g body k ⟨sl, e :: st⟩ = .rt ⟨sl', .own v :: st⟩ ∧ R v sl') := by
    intro k
    induction k with
    | zero =>
      intro j sl hj h
      have : j = n := by omega
      subst this
      refine .inl ⟨sl, ?_, h⟩
      unfold forGo
      rw [if_pos (show many kd ⟨sl, e :: st⟩ = some j from hm _ h)]; rfl
    | succ k ih =>
      intro j sl hj h
      obtain ⟨δ1, δ2, h1, h2, h3⟩ := ht j sl (by omega) h
      unfold forGo
      rw [show n - (k + 1) = j by omega, h1]
      simp only [h2]
      rcases h3 with ⟨sl', h3, h4⟩ | ⟨v, sl', h3, h4⟩
      · rw [h3]; exact ih (j + 1) sl' (by omega) h4
      · rw [h3]; exact .inr ⟨v, sl', rfl, h4⟩
  exact key n 0 sl0 (by omega) h0
theorem sFor_ret {kd : T → Option (List T)} {fe : EF} {g : En → Option En} {body : SF} {δ : En} {sl : List Ent} {e : Ent} {st : List Ent} {n : Nat} (P : Nat → List Ent → Prop) (R : T → List Ent → Prop) (hfe : fe δ = .ok ⟨sl, e :: st⟩) (h0 : P 0 sl) (hm : ∀ j sl, P j sl → manyE kd e sl = some n)
    (ht : ∀ j sl, j < n → P j sl → ∃ δ1 δ2, item kd j ⟨sl, e :: st⟩ = some δ1 ∧ g δ1 = some δ2 ∧ ((∃ sl', body δ2 = .nx ⟨sl', e :: st⟩ ∧ P (j + 1) sl') ∨ (∃ v sl', body δ2 = .rt ⟨sl', .own v :: e :: st⟩ ∧ R v sl'))) :
    (∃ sl', sFor kd fe g body δ = .nx ⟨sl', st⟩ ∧ P n sl') ∨ (∃ v sl', sFor kd fe g body δ = .rt ⟨sl', .own v :: st⟩ ∧ R v sl') := by
  unfold sFor
  rw [hfe]
  show (∃ sl', (match manyE kd e sl with | some n => forGo kd n g body n ⟨sl, e :: st⟩ | none => SR.no) = _ ∧ _) ∨ (∃ v sl', (match manyE kd e sl with | some n => forGo kd n g body n ⟨sl, e :: st⟩ | none => SR.no) = _ ∧ _)
  rw [hm 0 sl h0]
  exact forGo_ret P R (fun sl h => hm _ _ h) ht h0
theorem sWhile_inv {c : BF} {body : SF} {st : List Ent} (P : Nat → List Ent → Prop) (R : List Ent → Prop)
    (ht : ∀ m sl, P m sl → (∃ sl1, c ⟨sl, st⟩ = .ok false ⟨sl1, st⟩ ∧ R sl1) ∨ (∃ sl1 sl2 m', c ⟨sl, st⟩ = .ok true ⟨sl1, st⟩ ∧ body ⟨sl1, st⟩ = .nx ⟨sl2, st⟩ ∧ m' < m ∧ P m' sl2)) {m : Nat} {sl : List Ent} (h : P m sl) : ∃ sl', sWhile c body ⟨sl, st⟩ = .nx ⟨sl', st⟩ ∧ R sl' := by
  have key : ∀ m sl, P m sl → ∃ n sl', whGo c body n ⟨sl, st⟩ = .nx ⟨sl', st⟩ ∧ R sl' := by
    intro m
    induction m using Nat.strongRecOn with
    | _ m ih =>
      intro sl h
      rcases ht m sl h with ⟨sl1, h1, h2⟩ | ⟨sl1, sl2, m', h1, h2, h3, h4⟩
      · refine ⟨1, sl1, ?_, h2⟩
        unfold whGo
        rw [h1]
      · obtain ⟨n, sl', a, b⟩ := ih m' h3 sl2 h4
        refine ⟨n + 1, sl', ?_, b⟩
        unfold whGo
        rw [h1]
        simp only [h2]
        exact a
  obtain ⟨n, sl', a, b⟩ := key m sl h
  exact ⟨sl', sWhile_eq a (fun z => by cases z), b⟩

/-! which boxes are come to -/
def heldF (s : Nat) : Option (Int × Bool) → List (Nat × Int)
  | some (o, true) => [(s, o)]
  | _ => []
def heldJ (xs : List (Option (Int × Bool))) : Nat → List (Nat × Int)
  | 0 => []
  | j + 1 => heldJ xs j ++ heldF j (xs.getD j none)
def hpT (p : Nat × Int) : T := .tup [.int p.1, .int p.2]
theorem heldJ_mem {xs : List (Option (Int × Bool))} {s : Nat} {o : Int} : ∀ {j : Nat}, (s, o) ∈ heldJ xs j ↔ s < j ∧ xs[s]? = some (some (o, true))
  | 0 => by simp [heldJ]
  | j + 1 => by
    unfold heldJ
    rw [List.mem_append, heldJ_mem]
    have e : xs.getD j none = some (o, true) ↔ xs[j]? = some (some (o, true)) := by
      rw [List.getD_eq_getElem?_getD]
      cases xs[j]? <;> simp
    constructor
    · rintro (⟨h1, h2⟩ | h)
      · exact ⟨by omega, h2⟩
      · cases hx : xs.getD j none with
        | none => rw [hx] at h; simp [heldF] at h
        | some p =>
          obtain ⟨o', b⟩ := p
          rw [hx] at h
          cases b with
          | false => simp [heldF] at h
          | true =>
            simp [heldF] at h
            obtain ⟨rfl, rfl⟩ := h
            exact ⟨by omega, e.mp hx⟩
    · rintro ⟨h1, h2⟩
      by_cases hs : s < j
      · exact .inl ⟨hs, h2⟩
      · have : s = j := by omega
        subst this
        rw [e.mpr h2]
        exact .inr (by simp [heldF])
theorem heldJ_len {xs : List (Option (Int × Bool))} : ∀ {j : Nat}, (heldJ xs j).length ≤ j
  | 0 => Nat.le_refl _
  | j + 1 => by
    unfold heldJ
    rw [List.length_append]
    have := heldJ_len (xs := xs) (j := j)
    have : (heldF j (xs.getD j none)).length ≤ 1 := by unfold heldF; split <;> simp
    omega
def HeldP (c : CS) (b : Int) (xs : List (Option (Int × Bool))) (j : Nat) (sl : List Ent) : Prop := ∃ e3 e4, In5 e3 ∧ OwnE e4 ∧ sl = [.own (chestT c), .own (.int b), .own (.lst .mu ((heldJ xs j).map hpT)), e3, e4]
theorem held_loop {c : CS} {b : Int} {xs : List (Option (Int × Bool))} (W : c.wf) (hb : gGet c.slots b = some xs) : ∃ sl', lp_held_by_0 ⟨[.own (chestT c), .own (.int b), .own (.lst .mu []), .emp, .emp], []⟩ = .nx ⟨sl', []⟩ ∧ HeldP c b xs ((xs.length : Int)).toNat sl' := by
  have hx := (W.kc _ _ hb).2.2
  refine sFor1_slot (i := (xs.length : Int)) (HeldP c b xs) ?_ (by omega) (by omega) ⟨.emp, .emp, In5.emp, .inl rfl, rfl⟩ fun j sl hj hP => ?_
  · have e1 := size_ok hb
    clear hx
    wtm_at "V.run"
    rfl
  · obtain ⟨e3, e4, h3, h4, rfl⟩ := hP
    have hj' : j < xs.length := by omega
    refine ⟨by simp [noal_own, noal_emp, h3.noal, h4.noal], ?_⟩
    have e3 := told_ok (s := (j : Int)) (v := xs[j]) hb (by omega) (by omega) (by simp)
    have hg : xs.getD j none = xs[j] := by rw [List.getD_eq_getElem?_getD, List.getElem?_eq_getElem hj']; rfl
    have hl : (heldJ xs j).length < lineA := by
      have := heldJ_len (xs := xs) (j := j)
      have : lineA = 1000000 := rfl
      omega
    have z2 : (2 : Nat) ≤ sizeLine := by decide
    refine ⟨[.own (chestT c), .own (.int b), .own (.lst .mu ((heldJ xs (j + 1)).map hpT)), .own (.int j), .own (slotT xs[j])], ?_, _, _, In5.int, .inr ⟨_, rfl⟩, rfl⟩
    rw [show heldJ xs (j + 1) = heldJ xs j ++ heldF j (xs.getD j none) from rfl, hg]
    generalize heldJ xs j = hs at *
    cases hx2 : xs[j] with
    | none =>
      rw [hx2] at e3
      clear hx hj hj' hg hx2 hl
      rw [show hs ++ heldF j none = hs by simp [heldF]]
      simp only [slotT] at e3 ⊢
      have q1 : kNotN .non .non = some (.bl false) := rfl
      rcases h4 with rfl | ⟨i4, rfl⟩ <;> wtm_at "V.run"
    | some p =>
      obtain ⟨o, h⟩ := p
      rw [hx2] at e3
      clear hx hj hj' hg hx2
      have q1 : kNotN (.tup [.int o, .bl h]) .non = some (.bl true) := rfl
      cases h with
      | false =>
        rw [show hs ++ heldF j (some (o, false)) = hs by simp [heldF]]
        simp only [slotT] at e3 ⊢
        rcases h4 with rfl | ⟨i4, rfl⟩ <;> wtm_at "V.run"
      | true =>
        rw [show hs ++ heldF j (some (o, true)) = hs ++ [(j, o)] by simp [heldF], List.map_append]
        simp only [slotT, List.map_cons, List.map_nil, hpT] at e3 ⊢
        rcases h4 with rfl | ⟨i4, rfl⟩ <;> wtm_at "V.run"
theorem held_ok {c : CS} {b : Int} {xs : List (Option (Int × Bool))} (W : c.wf) (hb : gGet c.slots b = some xs) : Ff_held_by [chestT c, .int b] = .ok (.lst .mu ((heldJ xs xs.length).map hpT)) [chestT c, .int b] := by
  obtain ⟨sl', e1, e3, e4, h3, h4, rfl⟩ := held_loop W hb
  rw [Int.toNat_natCast] at e1
  have z0 : (0 : Nat) ≤ sizeLine := by decide
  clear W hb
  unfold Ff_held_by
  rcases h3 with rfl | ⟨i3, rfl⟩ <;> rcases h4 with rfl | ⟨i4, rfl⟩ <;> wtm_at "V.run"

inductive Why where | hand | slot (b : Int) (s : Nat) | pair (n : Int)
def whyT : Why → T
  | .hand => .tup [.str "hand"]
  | .slot b s => .tup [.str "slot", .int b, .int s]
  | .pair n => .tup [.str "pair", .int n]
abbrev Row := Int × Why
def rowW (r : Row) : T := .tup [.int r.1, whyT r.2]
theorem whyT_data {w : Why} : (whyT w).data = true := by cases w <;> rfl
theorem rowW_data {r : Row} : (rowW r).data = true := by
  show datas [.int r.1, whyT r.2] = true
  simp only [datas, T.data, whyT_data, Bool.and_true, Bool.true_and]
abbrev knD (kn : List (Int × Unit)) : T := .dct false (tbl trueT kn)
def good (c : CS) (kn : List (Int × Unit)) (r : Row) : Prop := match r.2 with
  | .hand => (gGet c.held r.1).isSome
  | .slot b s => (gGet kn b).isSome ∧ ∃ xs, gGet c.slots b = some xs ∧ xs[s]? = some (some (r.1, true))
  | .pair n => ∃ h k, gGet c.paired n = some (h, k, r.1) ∧ (gGet kn h).isSome ∧ (gGet kn k).isSome
/-- what a box's slots hold is known -/
def shut (c : CS) (kn : List (Int × Unit)) (b : Int) : Prop := ∀ (xs : List (Option (Int × Bool))) (s : Nat) (o : Int), gGet c.slots b = some xs → xs[s]? = some (some (o, true)) → (gGet kn o).isSome
def shutP (kn : List (Int × Unit)) (p : Int × Int × Int) : Prop := (gGet kn p.1).isSome → (gGet kn p.2.1).isSome → (gGet kn p.2.2).isSome
abbrev nxS (c : CS) (rows : List Row) (kn : List (Int × Unit)) (e3 e4 e5 e6 e7 e8 e9 : Ent) : List Ent := [.own (chestT c), .own (.lst .mu (rows.map rowW)), .own (knD kn), e3, e4, e5, e6, e7, e8, e9]
section
variable {c : CS} {rows : List Row} {kn : List (Int × Unit)}
theorem hp_at {hs : List (Nat × Int)} {j : Nat} (h : j < hs.length) : (hs.map hpT)[j]? = some (hpT (hs[j]'h)) := by
  rw [List.getElem?_map, List.getElem?_eq_getElem h]; rfl
theorem rw_at {j : Nat} (h : j < rows.length) : (rows.map rowW)[j]? = some (rowW (rows[j]'h)) := by
  rw [List.getElem?_map, List.getElem?_eq_getElem h]; rfl
/-- one box's slots -/
theorem next_in {r : Row} {xs : List (Option (Int × Bool))} {e4 e5 : Ent} (W : c.wf) (hb : gGet c.slots r.1 = some xs) (h4 : In5 e4) (h5 : In5 e5) : (∃ (e4' e5' : Ent), In5 e4' ∧ In5 e5' ∧ shut c kn r.1 ∧ (sFor kL (eCall 2 Ff_held_by (eThen (eName 0) (eThen (eBin (eName 3) (ePush (.int 0)) eIx) eNil))) (gTupW [(gSlot 4), (gSlot 5)]) (sIf (tVal (eBin (eName 5) (eName 2) (op2 kNin))) (sRet (eTup 2 (eThen (eThen (eName 5) eFrz) (eThen (eTup 3 (eThen (ePush (.str "slot")) (eThen (eBin (eName 3) (ePush (.int 0)) eIx) (eThen (eThen (eName 4) eFrz) eNil)))) eNil)))) sNil)) ⟨nxS c rows kn (.own (rowW r)) e4 e5 .emp .emp .emp .emp, [.al 1 []]⟩ = .nx ⟨nxS c rows kn (.own (rowW r)) e4' e5' .emp .emp .emp .emp, [.al 1 []]⟩) ∨
    (∃ (s : Nat) (o : Int) (e4' e5' : Ent), In5 e4' ∧ In5 e5' ∧ xs[s]? = some (some (o, true)) ∧ ¬ (gGet kn o).isSome ∧ (sFor kL (eCall 2 Ff_held_by (eThen (eName 0) (eThen (eBin (eName 3) (ePush (.int 0)) eIx) eNil))) (gTupW [(gSlot 4), (gSlot 5)]) (sIf (tVal (eBin (eName 5) (eName 2) (op2 kNin))) (sRet (eTup 2 (eThen (eThen (eName 5) eFrz) (eThen (eTup 3 (eThen (ePush (.str "slot")) (eThen (eBin (eName 3) (ePush (.int 0)) eIx) (eThen (eThen (eName 4) eFrz) eNil)))) eNil)))) sNil)) ⟨nxS c rows kn (.own (rowW r)) e4 e5 .emp .emp .emp .emp, [.al 1 []]⟩ = .rt ⟨nxS c rows kn (.own (rowW r)) e4' e5' .emp .emp .emp .emp, [.own (rowW (o, .slot r.1 s)), .al 1 []]⟩) := by
  have hk := held_ok W hb
  have hmem := fun s o => heldJ_mem (xs := xs) (s := s) (o := o) (j := xs.length)
  generalize heldJ xs xs.length = hs at *
  have hh := sFor_ret (kd := kL) (fe := (eCall 2 Ff_held_by (eThen (eName 0) (eThen (eBin (eName 3) (ePush (.int 0)) eIx) eNil)))) (g := (gTupW [(gSlot 4), (gSlot 5)])) (body := (sIf (tVal (eBin (eName 5) (eName 2) (op2 kNin))) (sRet (eTup 2 (eThen (eThen (eName 5) eFrz) (eThen (eTup 3 (eThen (ePush (.str "slot")) (eThen (eBin (eName 3) (ePush (.int 0)) eIx) (eThen (eThen (eName 4) eFrz) eNil)))) eNil)))) sNil)) (δ := ⟨nxS c rows kn (.own (rowW r)) e4 e5 .emp .emp .emp .emp, [.al 1 []]⟩) (sl := nxS c rows kn (.own (rowW r)) e4 e5 .emp .emp .emp .emp) (e := .own (.lst .mu (hs.map hpT))) (st := [.al 1 []]) (n := hs.length)
    (fun i sl => ∃ (e4' e5' : Ent), In5 e4' ∧ In5 e5' ∧ (∀ i', i' < i → ∀ p, hs[i']? = some p → (gGet kn p.2).isSome) ∧ sl = nxS c rows kn (.own (rowW r)) e4' e5' .emp .emp .emp .emp)
    (fun v sl => ∃ (s : Nat) (o : Int) (e4' e5' : Ent), In5 e4' ∧ In5 e5' ∧ (s, o) ∈ hs ∧ ¬ (gGet kn o).isSome ∧ v = rowW (o, .slot r.1 s) ∧ sl = nxS c rows kn (.own (rowW r)) e4' e5' .emp .emp .emp .emp)
    ?_ ⟨e4, e5, h4, h5, fun i' h => absurd h (Nat.not_lt_zero _), rfl⟩ (fun i sl hh => by
      obtain ⟨a, b, _, _, _, rfl⟩ := hh
      show some (hs.map hpT).length = _
      rw [List.length_map]) ?_
  · rcases hh with ⟨sl', g1, e4', e5', k4, k5, k6, rfl⟩ | ⟨v, sl', g1, s, o, e4', e5', k4, k5, k6, k7, rfl, rfl⟩
    · refine .inl ⟨e4', e5', k4, k5, fun xs' s o hx ho => ?_, g1⟩
      rw [hb] at hx
      cases hx
      have hs' : s < xs.length := (List.getElem?_eq_some_iff.mp ho).1
      obtain ⟨i, hi, hi2⟩ := List.mem_iff_getElem.mp ((hmem s o).mpr ⟨hs', ho⟩)
      have := k6 i hi (s, o) (by rw [List.getElem?_eq_getElem hi, hi2])
      exact this
    · exact .inr ⟨s, o, e4', e5', k4, k5, ((hmem s o).mp k6).2, k7, g1⟩
  · clear hmem
    have q := @whyT_data
    unfold nxS rowW
    rcases h4 with rfl | ⟨i4, rfl⟩ <;> rcases h5 with rfl | ⟨i5, rfl⟩ <;> wtm_at "V.run"
  · intro i sl hi hP
    obtain ⟨e4', e5', k4, k5, k6, rfl⟩ := hP
    have ha := hp_at hi
    have hmi : hs[i] ∈ hs := List.getElem_mem hi
    have hge : hs[i]? = some hs[i] := List.getElem?_eq_getElem hi
    generalize hs[i] = p at ha hmi hge
    obtain ⟨s, o⟩ := p
    have q := @whyT_data
    have z2 : (2 : Nat) ≤ sizeLine := by decide
    have z3 : (3 : Nat) ≤ sizeLine := by decide
    refine ⟨⟨nxS c rows kn (.own (rowW r)) e4' e5' .emp .emp .emp .emp, [.own (hpT (s, o)), .own (.lst .mu (hs.map hpT)), .al 1 []]⟩, ⟨nxS c rows kn (.own (rowW r)) (.own (.int s)) (.own (.int o)) .emp .emp .emp .emp, [.own (.lst .mu (hs.map hpT)), .al 1 []]⟩, ?_, ?_, ?_⟩
    · clear hk hge hmi k6
      unfold item itemE kL hpT
      unfold hpT at ha
      wtm_at "V.run"
    · clear hk hge hmi k6
      unfold nxS rowW hpT gTupW runG
      rcases k4 with rfl | ⟨i4, rfl⟩ <;> rcases k5 with rfl | ⟨i5, rfl⟩ <;> rfl
    · cases hn : (gGet kn o) with
      | none =>
        refine .inr ⟨rowW (o, .slot r.1 s), nxS c rows kn (.own (rowW r)) (.own (.int s)) (.own (.int o)) .emp .emp .emp .emp, ?_, s, o, _, _, In5.int, In5.int, hmi, by rw [hn]; simp, rfl, rfl⟩
        clear hk hge hmi k6 ha
        unfold nxS
        rw [show rowW (o, .slot r.1 s) = .tup [.int o, .tup [.str "slot", .int r.1, .int s]] from rfl, show rowW r = .tup [.int r.1, whyT r.2] from rfl]
        wtm_at "V.run"
      | some u =>
        refine .inl ⟨nxS c rows kn (.own (rowW r)) (.own (.int s)) (.own (.int o)) .emp .emp .emp .emp, ?_, _, _, In5.int, In5.int, fun i' hi' p hp => ?_, rfl⟩
        · clear hk hge hmi k6 ha
          unfold nxS rowW
          wtm_at "V.run"
        · by_cases h : i' < i
          · exact k6 i' h p hp
          · have : i' = i := by omega
            subst this
            rw [hge] at hp
            cases hp
            rw [hn]; rfl
end
/-- the rows, then the pairs -/
def okV (c : CS) (kn : List (Int × Unit)) (r : Row) : Prop := ¬ (gGet kn r.1).isSome ∧ (gGet c.slots r.1).isSome ∧ good c kn r
def tgtOk (c : CS) : Prop := ∀ b (xs : List (Option (Int × Bool))) (s : Nat) (o : Int) (h : Bool), gGet c.slots b = some xs → xs[s]? = some (some (o, h)) → (gGet c.slots o).isSome
theorem next_1 {c : CS} {rows : List Row} {kn : List (Int × Unit)} (W : c.wf) (G : tgtOk c) (hr : ∀ r ∈ rows, (gGet c.slots r.1).isSome ∧ (gGet kn r.1).isSome) : (∃ (e3 e4 e5 : Ent), OwnE e3 ∧ In5 e4 ∧ In5 e5 ∧ (∀ r ∈ rows, shut c kn r.1) ∧ (sFor kL (eName 1) (gSlot 3) (sFor kL (eCall 2 Ff_held_by (eThen (eName 0) (eThen (eBin (eName 3) (ePush (.int 0)) eIx) eNil))) (gTupW [(gSlot 4), (gSlot 5)]) (sIf (tVal (eBin (eName 5) (eName 2) (op2 kNin))) (sRet (eTup 2 (eThen (eThen (eName 5) eFrz) (eThen (eTup 3 (eThen (ePush (.str "slot")) (eThen (eBin (eName 3) (ePush (.int 0)) eIx) (eThen (eThen (eName 4) eFrz) eNil)))) eNil)))) sNil))) ⟨nxS c rows kn .emp .emp .emp .emp .emp .emp .emp, []⟩ = .nx ⟨nxS c rows kn e3 e4 e5 .emp .emp .emp .emp, []⟩) ∨
    (∃ (r : Row) (e3 e4 e5 : Ent), OwnE e3 ∧ In5 e4 ∧ In5 e5 ∧ okV c kn r ∧ (sFor kL (eName 1) (gSlot 3) (sFor kL (eCall 2 Ff_held_by (eThen (eName 0) (eThen (eBin (eName 3) (ePush (.int 0)) eIx) eNil))) (gTupW [(gSlot 4), (gSlot 5)]) (sIf (tVal (eBin (eName 5) (eName 2) (op2 kNin))) (sRet (eTup 2 (eThen (eThen (eName 5) eFrz) (eThen (eTup 3 (eThen (ePush (.str "slot")) (eThen (eBin (eName 3) (ePush (.int 0)) eIx) (eThen (eThen (eName 4) eFrz) eNil)))) eNil)))) sNil))) ⟨nxS c rows kn .emp .emp .emp .emp .emp .emp .emp, []⟩ = .rt ⟨nxS c rows kn e3 e4 e5 .emp .emp .emp .emp, [.own (rowW r)]⟩) := by
  have hh := sFor_ret (kd := kL) (fe := eName 1) (g := gSlot 3) (body := (sFor kL (eCall 2 Ff_held_by (eThen (eName 0) (eThen (eBin (eName 3) (ePush (.int 0)) eIx) eNil))) (gTupW [(gSlot 4), (gSlot 5)]) (sIf (tVal (eBin (eName 5) (eName 2) (op2 kNin))) (sRet (eTup 2 (eThen (eThen (eName 5) eFrz) (eThen (eTup 3 (eThen (ePush (.str "slot")) (eThen (eBin (eName 3) (ePush (.int 0)) eIx) (eThen (eThen (eName 4) eFrz) eNil)))) eNil)))) sNil))) (δ := ⟨nxS c rows kn .emp .emp .emp .emp .emp .emp .emp, []⟩) (sl := nxS c rows kn .emp .emp .emp .emp .emp .emp .emp) (e := .al 1 []) (st := []) (n := rows.length)
    (fun i sl => ∃ (e3 e4 e5 : Ent), OwnE e3 ∧ In5 e4 ∧ In5 e5 ∧ (∀ i', i' < i → ∀ r, rows[i']? = some r → shut c kn r.1) ∧ sl = nxS c rows kn e3 e4 e5 .emp .emp .emp .emp)
    (fun v sl => ∃ (r : Row) (e3 e4 e5 : Ent), OwnE e3 ∧ In5 e4 ∧ In5 e5 ∧ okV c kn r ∧ v = rowW r ∧ sl = nxS c rows kn e3 e4 e5 .emp .emp .emp .emp)
    rfl ⟨.emp, .emp, .emp, .inl rfl, In5.emp, In5.emp, fun i' h => absurd h (Nat.not_lt_zero _), rfl⟩ (fun i sl hh => by
      obtain ⟨a, b, d, _, _, _, _, rfl⟩ := hh
      show some (rows.map rowW).length = _
      rw [List.length_map]) ?_
  · rcases hh with ⟨sl', g1, e3, e4, e5, k3, k4, k5, k6, rfl⟩ | ⟨v, sl', g1, r, e3, e4, e5, k3, k4, k5, k6, rfl, rfl⟩
    · refine .inl ⟨e3, e4, e5, k3, k4, k5, fun r hr => ?_, g1⟩
      obtain ⟨i, hi, rfl⟩ := List.mem_iff_getElem.mp hr
      exact k6 i hi _ (List.getElem?_eq_getElem hi)
    · exact .inr ⟨r, e3, e4, e5, k3, k4, k5, k6, g1⟩
  · intro i sl hi hP
    obtain ⟨e3, e4, e5, k3, k4, k5, k6, rfl⟩ := hP
    have ha := rw_at hi
    have hmi : rows[i] ∈ rows := List.getElem_mem hi
    have hge : rows[i]? = some rows[i] := List.getElem?_eq_getElem hi
    generalize rows[i] = r at ha hmi hge
    have q := @rowW_data
    obtain ⟨xs, hx⟩ := isSome_ex (hr r hmi).1
    refine ⟨⟨nxS c rows kn e3 e4 e5 .emp .emp .emp .emp, [.own (rowW r), .al 1 []]⟩, ⟨nxS c rows kn (.own (rowW r)) e4 e5 .emp .emp .emp .emp, [.al 1 []]⟩, ?_, ?_, ?_⟩
    · clear hge hmi k6 hr G
      unfold item itemE kL
      wtm_at "V.run"
    · exact gSlot_ok (by simp [noal_own, noal_emp, k3.noal, k4.noal, k5.noal, show Ent.noal 3 (.al 1 []) = true from rfl])
    · rcases next_in (kn := kn) (rows := rows) W hx k4 k5 with ⟨e4', e5', j4, j5, j6, j7⟩ | ⟨s, o, e4', e5', j4, j5, j6, j7, j8⟩
      · refine .inl ⟨_, j7, _, _, _, .inr ⟨_, rfl⟩, j4, j5, fun i' hi' r' hp => ?_, rfl⟩
        by_cases h : i' < i
        · exact k6 i' h r' hp
        · have : i' = i := by omega
          subst this
          rw [hge] at hp
          cases hp
          exact j6
      · exact .inr ⟨_, _, j8, (o, .slot r.1 s), _, _, _, .inr ⟨_, rfl⟩, j4, j5, ⟨j7, G _ _ _ _ _ hx j6, (hr r hmi).2, xs, hx, j6⟩, rfl, rfl⟩
theorem next_2 {c : CS} {rows : List Row} {kn : List (Int × Unit)} {e3 e4 e5 : Ent} (W : c.wf) (h3 : OwnE e3) (h4 : In5 e4) (h5 : In5 e5) : (∃ (e6 e7 e8 e9 : Ent), In5 e6 ∧ In5 e7 ∧ In5 e8 ∧ In5 e9 ∧ (∀ m p, gGet c.paired m = some p → shutP kn p) ∧ (sFor kL (eMet 7 "pairs" 1 Fm_pairs (eName 0) eNil) (gTupW [(gSlot 6), (gSlot 7), (gSlot 8), (gSlot 9)]) (sIf (tAnd (tVal (eBin (eName 7) (eName 2) (op2 kIn))) (tAnd (tVal (eBin (eName 8) (eName 2) (op2 kIn))) (tVal (eBin (eName 9) (eName 2) (op2 kNin))))) (sRet (eTup 2 (eThen (eThen (eName 9) eFrz) (eThen (eTup 2 (eThen (ePush (.str "pair")) (eThen (eThen (eName 6) eFrz) eNil))) eNil)))) sNil)) ⟨nxS c rows kn e3 e4 e5 .emp .emp .emp .emp, []⟩ = .nx ⟨nxS c rows kn e3 e4 e5 e6 e7 e8 e9, []⟩) ∨
    (∃ (r : Row) (e6 e7 e8 e9 : Ent), In5 e6 ∧ In5 e7 ∧ In5 e8 ∧ In5 e9 ∧ okV c kn r ∧ (sFor kL (eMet 7 "pairs" 1 Fm_pairs (eName 0) eNil) (gTupW [(gSlot 6), (gSlot 7), (gSlot 8), (gSlot 9)]) (sIf (tAnd (tVal (eBin (eName 7) (eName 2) (op2 kIn))) (tAnd (tVal (eBin (eName 8) (eName 2) (op2 kIn))) (tVal (eBin (eName 9) (eName 2) (op2 kNin))))) (sRet (eTup 2 (eThen (eThen (eName 9) eFrz) (eThen (eTup 2 (eThen (ePush (.str "pair")) (eThen (eThen (eName 6) eFrz) eNil))) eNil)))) sNil)) ⟨nxS c rows kn e3 e4 e5 .emp .emp .emp .emp, []⟩ = .rt ⟨nxS c rows kn e3 e4 e5 e6 e7 e8 e9, [.own (rowW r)]⟩) := by
  have h64 : c.paired.length < 64 := Nat.lt_of_le_of_lt W.pl (by decide)
  have hp := pairs_ok h64
  have hmem : ∀ m, m ∈ srt (c.paired.map (·.1)) ↔ m ∈ c.paired.map (·.1) := fun m => mem_srt
  unfold pairsT at hp
  generalize srt (c.paired.map (·.1)) = ks at *
  have hh := sFor_ret (kd := kL) (fe := (eMet 7 "pairs" 1 Fm_pairs (eName 0) eNil)) (g := (gTupW [(gSlot 6), (gSlot 7), (gSlot 8), (gSlot 9)])) (body := (sIf (tAnd (tVal (eBin (eName 7) (eName 2) (op2 kIn))) (tAnd (tVal (eBin (eName 8) (eName 2) (op2 kIn))) (tVal (eBin (eName 9) (eName 2) (op2 kNin))))) (sRet (eTup 2 (eThen (eThen (eName 9) eFrz) (eThen (eTup 2 (eThen (ePush (.str "pair")) (eThen (eThen (eName 6) eFrz) eNil))) eNil)))) sNil)) (δ := ⟨nxS c rows kn e3 e4 e5 .emp .emp .emp .emp, []⟩) (sl := nxS c rows kn e3 e4 e5 .emp .emp .emp .emp) (e := .own (.lst .mu (ks.map (rowP c)))) (st := []) (n := ks.length)
    (fun i sl => ∃ (e6 e7 e8 e9 : Ent), In5 e6 ∧ In5 e7 ∧ In5 e8 ∧ In5 e9 ∧ (∀ i', i' < i → ∀ m, ks[i']? = some m → ∀ p, gGet c.paired m = some p → shutP kn p) ∧ sl = nxS c rows kn e3 e4 e5 e6 e7 e8 e9)
    (fun v sl => ∃ (r : Row) (e6 e7 e8 e9 : Ent), In5 e6 ∧ In5 e7 ∧ In5 e8 ∧ In5 e9 ∧ okV c kn r ∧ v = rowW r ∧ sl = nxS c rows kn e3 e4 e5 e6 e7 e8 e9)
    ?_ ⟨.emp, .emp, .emp, .emp, In5.emp, In5.emp, In5.emp, In5.emp, fun i' h => absurd h (Nat.not_lt_zero _), rfl⟩ (fun i sl hh => by
      obtain ⟨_, _, _, _, _, _, _, _, _, rfl⟩ := hh
      show some (ks.map (rowP c)).length = _
      rw [List.length_map]) ?_
  · rcases hh with ⟨sl', g1, e6, e7, e8, e9, k6, k7, k8, k9, k, rfl⟩ | ⟨v, sl', g1, r, e6, e7, e8, e9, k6, k7, k8, k9, k, rfl, rfl⟩
    · refine .inl ⟨e6, e7, e8, e9, k6, k7, k8, k9, fun m p hm => ?_, g1⟩
      have h1 := (hmem m).mpr (gGet_mem.mp (by rw [hm]; rfl))
      obtain ⟨i, hi, rfl⟩ := List.mem_iff_getElem.mp h1
      exact k i hi _ (List.getElem?_eq_getElem hi) p hm
    · exact .inr ⟨r, e6, e7, e8, e9, k6, k7, k8, k9, k, g1⟩
  · clear hmem
    unfold nxS
    rcases h3 with rfl | ⟨i3, rfl⟩ <;> rcases h4 with rfl | ⟨i4, rfl⟩ <;> rcases h5 with rfl | ⟨i5, rfl⟩ <;> wtm_at "V.run"
  · intro i sl hi hP
    obtain ⟨e6, e7, e8, e9, k6, k7, k8, k9, k, rfl⟩ := hP
    have ha : (ks.map (rowP c))[i]? = some (rowP c ks[i]) := by rw [List.getElem?_map, List.getElem?_eq_getElem hi]; rfl
    have hge : ks[i]? = some ks[i] := List.getElem?_eq_getElem hi
    have hmi : ks[i] ∈ ks := List.getElem_mem hi
    generalize ks[i] = m at ha hge hmi
    obtain ⟨p, hpm⟩ := gGet_some ((hmem m).mp hmi)
    obtain ⟨ph, pk, pv⟩ := p
    have hpv := W.ps _ _ hpm
    have hrow : rowP c m = .tup [.int m, .int ph, .int pk, .int pv] := by unfold rowP; rw [hpm]; rfl
    have z2 : (2 : Nat) ≤ sizeLine := by decide
    refine ⟨⟨nxS c rows kn e3 e4 e5 e6 e7 e8 e9, [.own (rowP c m), .own (.lst .mu (ks.map (rowP c)))]⟩, ⟨nxS c rows kn e3 e4 e5 (.own (.int m)) (.own (.int ph)) (.own (.int pk)) (.own (.int pv)), [.own (.lst .mu (ks.map (rowP c)))]⟩, ?_, ?_, ?_⟩
    · rw [hrow] at ha ⊢
      clear hp hmem hge hmi k
      unfold item itemE kL
      wtm_at "V.run"
    · rw [hrow]
      have s6 := gSlot_ok (i := 6) (e := .own (.int m)) (sl := nxS c rows kn e3 e4 e5 e6 e7 e8 e9) (st := [.own (.int ph), .own (.int pk), .own (.int pv), .own (.lst .mu (ks.map (rowP c)))]) (by simp [noal_own, noal_emp, h3.noal, h4.noal, h5.noal, k6.noal, k7.noal, k8.noal, k9.noal])
      have s7 := gSlot_ok (i := 7) (e := .own (.int ph)) (sl := nxS c rows kn e3 e4 e5 (.own (.int m)) e7 e8 e9) (st := [.own (.int pk), .own (.int pv), .own (.lst .mu (ks.map (rowP c)))]) (by simp [noal_own, noal_emp, h3.noal, h4.noal, h5.noal, k6.noal, k7.noal, k8.noal, k9.noal])
      have s8 := gSlot_ok (i := 8) (e := .own (.int pk)) (sl := nxS c rows kn e3 e4 e5 (.own (.int m)) (.own (.int ph)) e8 e9) (st := [.own (.int pv), .own (.lst .mu (ks.map (rowP c)))]) (by simp [noal_own, noal_emp, h3.noal, h4.noal, h5.noal, k6.noal, k7.noal, k8.noal, k9.noal])
      have s9 := gSlot_ok (i := 9) (e := .own (.int pv)) (sl := nxS c rows kn e3 e4 e5 (.own (.int m)) (.own (.int ph)) (.own (.int pk)) e9) (st := [.own (.lst .mu (ks.map (rowP c)))]) (by simp [noal_own, noal_emp, h3.noal, h4.noal, h5.noal, k6.noal, k7.noal, k8.noal, k9.noal])
      show runG [gSlot 6, gSlot 7, gSlot 8, gSlot 9] ⟨nxS c rows kn e3 e4 e5 e6 e7 e8 e9, [.own (.int m), .own (.int ph), .own (.int pk), .own (.int pv), .own (.lst .mu (ks.map (rowP c)))]⟩ = _
      unfold runG
      rw [s6]
      show runG [gSlot 7, gSlot 8, gSlot 9] ⟨nxS c rows kn e3 e4 e5 (.own (.int m)) e7 e8 e9, _⟩ = _
      unfold runG
      rw [s7]
      show runG [gSlot 8, gSlot 9] ⟨nxS c rows kn e3 e4 e5 (.own (.int m)) (.own (.int ph)) e8 e9, _⟩ = _
      unfold runG
      rw [s8]
      show runG [gSlot 9] ⟨nxS c rows kn e3 e4 e5 (.own (.int m)) (.own (.int ph)) (.own (.int pk)) e9, _⟩ = _
      unfold runG
      rw [s9]
      rfl
    · by_cases hx : (gGet kn ph).isSome ∧ (gGet kn pk).isSome ∧ ¬ (gGet kn pv).isSome
      · obtain ⟨u1, y1⟩ := isSome_ex hx.1
        obtain ⟨u2, y2⟩ := isSome_ex hx.2.1
        have y3 := not_some hx.2.2
        refine .inr ⟨rowW (pv, .pair m), nxS c rows kn e3 e4 e5 (.own (.int m)) (.own (.int ph)) (.own (.int pk)) (.own (.int pv)), ?_, (pv, .pair m), _, _, _, _, In5.int, In5.int, In5.int, In5.int, ⟨hx.2.2, hpv.2.2.2.2, ph, pk, hpm, hx.1, hx.2.1⟩, rfl, rfl⟩
        clear hp hmem hge hmi k hx ha hpv hrow
        rw [show rowW (pv, .pair m) = .tup [.int pv, .tup [.str "pair", .int m]] from rfl]
        unfold nxS
        wtm_at "V.run"
      · refine .inl ⟨nxS c rows kn e3 e4 e5 (.own (.int m)) (.own (.int ph)) (.own (.int pk)) (.own (.int pv)), ?_, _, _, _, _, In5.int, In5.int, In5.int, In5.int, fun i' hi' m' hm' p' hp' => ?_, rfl⟩
        · clear hp hmem hge hmi k ha hpv hrow
          unfold nxS
          cases y1 : gGet kn ph with
          | none => clear hx; wtm_at "V.run"
          | some u1 => cases y2 : gGet kn pk with
            | none => clear hx; wtm_at "V.run"
            | some u2 => cases y3 : gGet kn pv with
              | none => exact absurd ⟨by rw [y1]; rfl, by rw [y2]; rfl, by rw [y3]; simp⟩ hx
              | some u3 => clear hx; wtm_at "V.run"
        · by_cases h : i' < i
          · exact k i' h m' hm' p' hp'
          · have : i' = i := by omega
            subst this
            rw [hge] at hm'
            cases hm'
            rw [hpm] at hp'
            cases hp'
            intro a b
            cases y3 : gGet kn pv with
            | none => exact absurd ⟨a, b, by rw [y3]; simp⟩ hx
            | some u => rfl
def rowO : Option Row → T
  | none => .non
  | some r => rowW r
/-- what next_row tells -/
theorem next_ok {c : CS} {rows : List Row} {kn : List (Int × Unit)} (W : c.wf) (G : tgtOk c) (hr : ∀ r ∈ rows, (gGet c.slots r.1).isSome ∧ (gGet kn r.1).isSome) : ∃ r : Option Row, (match r with
      | none => (∀ r ∈ rows, shut c kn r.1) ∧ (∀ m p, gGet c.paired m = some p → shutP kn p)
      | some r => okV c kn r) ∧ Ff_next_row [chestT c, .lst .mu (rows.map rowW), knD kn] = .ok (rowO r) [chestT c, .lst .mu (rows.map rowW), knD kn] := by
  rcases next_1 W G hr with ⟨e3, e4, e5, k3, k4, k5, k6, g1⟩ | ⟨r, e3, e4, e5, k3, k4, k5, k6, g1⟩
  · rcases next_2 (rows := rows) (kn := kn) W k3 k4 k5 with ⟨e6, e7, e8, e9, j6, j7, j8, j9, j, g2⟩ | ⟨r, e6, e7, e8, e9, j6, j7, j8, j9, j, g2⟩
    · refine ⟨none, ⟨k6, j⟩, ?_⟩
      have e : cdf_next_row ⟨nxS c rows kn .emp .emp .emp .emp .emp .emp .emp, []⟩ = .rt ⟨nxS c rows kn e3 e4 e5 e6 e7 e8 e9, [.own .non]⟩ := (seq_nx g1).trans ((seq_nx g2).trans rfl)
      unfold Ff_next_row runDef
      show (match cdf_next_row ⟨nxS c rows kn .emp .emp .emp .emp .emp .emp .emp, []⟩ with | .nx δ => FR.ok .non (outsOf [chestT c, .lst .mu (rows.map rowW), knD kn] δ.sl) | .rt δ => (match δ.st with | .own t :: _ => .ok t (outsOf [chestT c, .lst .mu (rows.map rowW), knD kn] δ.sl) | _ => .no) | .ex C sl => .ex C (outsOf [chestT c, .lst .mu (rows.map rowW), knD kn] sl) | _ => .no) = _
      rw [e]; rfl
    · refine ⟨some r, j, ?_⟩
      have e : cdf_next_row ⟨nxS c rows kn .emp .emp .emp .emp .emp .emp .emp, []⟩ = .rt ⟨nxS c rows kn e3 e4 e5 e6 e7 e8 e9, [.own (rowW r)]⟩ := (seq_nx g1).trans (by rw [ap_sSeq, g2]; rfl)
      unfold Ff_next_row runDef
      show (match cdf_next_row ⟨nxS c rows kn .emp .emp .emp .emp .emp .emp .emp, []⟩ with | .nx δ => FR.ok .non (outsOf [chestT c, .lst .mu (rows.map rowW), knD kn] δ.sl) | .rt δ => (match δ.st with | .own t :: _ => .ok t (outsOf [chestT c, .lst .mu (rows.map rowW), knD kn] δ.sl) | _ => .no) | .ex C sl => .ex C (outsOf [chestT c, .lst .mu (rows.map rowW), knD kn] sl) | _ => .no) = _
      rw [e]; rfl
  · refine ⟨some r, k6, ?_⟩
    have e : cdf_next_row ⟨nxS c rows kn .emp .emp .emp .emp .emp .emp .emp, []⟩ = .rt ⟨nxS c rows kn e3 e4 e5 .emp .emp .emp .emp, [.own (rowW r)]⟩ := by
      unfold cdf_next_row
      rw [ap_sSeq, g1]; rfl
    unfold Ff_next_row runDef
    show (match cdf_next_row ⟨nxS c rows kn .emp .emp .emp .emp .emp .emp .emp, []⟩ with | .nx δ => FR.ok .non (outsOf [chestT c, .lst .mu (rows.map rowW), knD kn] δ.sl) | .rt δ => (match δ.st with | .own t :: _ => .ok t (outsOf [chestT c, .lst .mu (rows.map rowW), knD kn] δ.sl) | _ => .no) | .ex C sl => .ex C (outsOf [chestT c, .lst .mu (rows.map rowW), knD kn] sl) | _ => .no) = _
    rw [e]; rfl

/-! come_to -/
def knOf (rows : List Row) : List (Int × Unit) := rows.map fun r => (r.1, ())
theorem knOf_keys {rows : List Row} : (knOf rows).map (·.1) = rows.map (·.1) := by unfold knOf; rw [List.map_map]; rfl
theorem knOf_len {rows : List Row} : (knOf rows).length = rows.length := List.length_map ..
theorem knOf_get {rows : List Row} {k : Int} : (gGet (knOf rows) k).isSome = true ↔ k ∈ rows.map (·.1) := by rw [gGet_mem, knOf_keys]
theorem knOf_put {rows : List Row} {r : Row} (h : r.1 ∉ rows.map (·.1)) : gPut (knOf rows) r.1 () = knOf (rows ++ [r]) := by
  rw [gPut_new (by rw [knOf_keys]; exact h)]
  unfold knOf
  rw [List.map_append]; rfl
structure RowsOk (c : CS) (rows : List Row) : Prop where
  nd : (rows.map (·.1)).Nodup
  ok : ∀ i r, rows[i]? = some r → good c (knOf (rows.take i)) r ∧ (gGet c.slots r.1).isSome
  hd : ∀ b u, gGet c.held b = some u → b ∈ rows.map (·.1)
theorem RowsOk.len {c : CS} {rows : List Row} (R : RowsOk c rows) : rows.length ≤ c.slots.length := by
  have := nodup_len R.nd (m := c.slots.map (·.1)) (fun x hx => by
    obtain ⟨r, hr, rfl⟩ := List.mem_map.mp hx
    obtain ⟨i, hi, rfl⟩ := List.mem_iff_getElem.mp hr
    exact gGet_mem.mp (R.ok i _ (List.getElem?_eq_getElem hi)).2)
  rwa [List.length_map, List.length_map] at this
theorem RowsOk.add {c : CS} {rows : List Row} {r : Row} (R : RowsOk c rows) (h : okV c (knOf rows) r) : RowsOk c (rows ++ [r]) := by
  obtain ⟨h1, h2, h3⟩ := h
  have hn : r.1 ∉ rows.map (·.1) := fun z => h1 (knOf_get.mpr z)
  refine ⟨?_, ?_, ?_⟩
  · rw [List.map_append, List.nodup_append]
    refine ⟨R.nd, by simp, ?_⟩
    intro a ha b hb
    simp at hb
    subst hb
    rintro rfl
    exact hn ha
  · intro i r' hr'
    by_cases hi : i < rows.length
    · rw [List.getElem?_append_left hi] at hr'
      have := R.ok i r' hr'
      rw [List.take_append_of_le_length (by omega)]
      exact this
    · have hl : i < (rows ++ [r]).length := (List.getElem?_eq_some_iff.mp hr').1
      simp at hl
      have : i = rows.length := by omega
      subst this
      simp at hr'
      subst hr'
      simp
      exact ⟨h3, h2⟩
  · intro b u hb
    rw [List.map_append]
    exact List.mem_append_left _ (R.hd b u hb)
/-- all that is come to -/
structure Whole (c : CS) (rows : List Row) : Prop where
  ro : RowsOk c rows
  sh : ∀ r ∈ rows, shut c (knOf rows) r.1
  pr : ∀ m p, gGet c.paired m = some p → shutP (knOf rows) p
def hands0 (c : CS) : List Row := (srt (c.held.map (·.1))).map fun b => (b, .hand)
theorem hands0_keys {c : CS} : (hands0 c).map (·.1) = srt (c.held.map (·.1)) := by unfold hands0; rw [List.map_map]; exact List.map_id _
theorem hands0_ok {c : CS} (W : c.wf) : RowsOk c (hands0 c) := by
  refine ⟨?_, ?_, ?_⟩
  · rw [hands0_keys]; exact (srt_perm _).nodup_iff.mpr W.kh
  · intro i r hr
    have hm : r ∈ hands0 c := List.mem_of_getElem? hr
    unfold hands0 at hm
    obtain ⟨b, hb, rfl⟩ := List.mem_map.mp hm
    obtain ⟨u, hu⟩ := gGet_some (mem_srt.mp hb)
    exact ⟨by show (gGet c.held b).isSome; rw [hu]; rfl, W.hs _ _ hu⟩
  · intro b u hb
    rw [hands0_keys]
    exact mem_srt.mpr (gGet_mem.mp (by rw [hb]; rfl))
abbrev ctS (c : CS) (rows : List Row) (kn : List (Int × Unit)) (e4 : Ent) : List Ent := [.own (chestT c), .own (.lst .mu (rows.map rowW)), .emp, .own (knD kn), e4]
theorem ct_0 {c : CS} (W : c.wf) : (sSet 1 (eLc kL (eMet 7 "hands" 1 Fm_hands (eName 0) eNil) (gSlot 2) bYes (eTup 2 (eThen (eThen (eName 2) eFrz) (eThen (eTup 1 (eThen (ePush (.str "hand")) eNil)) eNil))) [2])) ⟨[.own (chestT c), .emp, .emp, .emp, .emp], []⟩ = .nx ⟨[.own (chestT c), .own (.lst .mu ((hands0 c).map rowW)), .emp, .emp, .emp], []⟩ := by
  have h64 : c.held.length < 64 := Nat.lt_of_le_of_lt W.hl (by decide)
  have e1 := hands_ok h64
  have hln : (srt (c.held.map (·.1))).length < lineA := by rw [srt_length, List.length_map]; exact W.hA
  have lc : lp_come_to_0 ⟨[.own (chestT c), .emp, .emp, .emp, .emp], []⟩ = .ok ⟨[.own (chestT c), .emp, .emp, .emp, .emp], [.own (.lst .mu ((hands0 c).map rowW))]⟩ := by
    have z1 : (1 : Nat) ≤ sizeLine := by decide
    have z2 : (2 : Nat) ≤ sizeLine := by decide
    unfold hands0
    generalize srt (c.held.map (·.1)) = ks at *
    refine (eLc_run (n := ks.length) (st := []) (e := .own (.lst .mu (ks.map .int))) (sl := [.own (chestT c), .emp, .emp, .emp, .emp]) (fun _ => [.own (chestT c), .emp, .emp, .emp, .emp]) (fun j => [rowW (ks.getD j 0, .hand)]) ?_ rfl ?_ hln (fun _ => Nat.le_refl _) ?_ ?_).trans ?_
    · clear hln h64 W
      wtm_at "V.run"
    · show some (ks.map T.int).length = _; rw [List.length_map]
    · show some (ks.map T.int).length = _; rw [List.length_map]
    · intro j acc hj ha
      have e := int_at hj
      have e3 : ks.getD j 0 = ks[j] := by rw [List.getD_eq_getElem?_getD, List.getElem?_eq_getElem hj]; rfl
      rw [e3]
      generalize ks[j] = b at *
      clear hln hj e1 h64 W
      unfold rowW whyT lcTurn item2 itemE kL
      wtm_at "V.run"
    · rw [flatMap_one, range_get (g := fun b : Int => rowW (b, .hand))]
      · rw [List.map_map]; rfl
      · intro j a ha
        rw [List.getD_eq_getElem?_getD, ha]; rfl
  clear e1 hln h64 W
  wtm_at "V.run"
theorem ct_2 {c : CS} {rows : List Row} (W : c.wf) (R : RowsOk c rows) : ∃ e4, OwnE e4 ∧ (sFor kL (eName 1) (gSlot 4) (sSub (ePush (.bl true)) (eName 3) (eBin (eName 4) (ePush (.int 0)) eIx))) ⟨ctS c rows [] .emp, []⟩ = .nx ⟨ctS c rows (knOf rows) e4, []⟩ := by
  have hl := R.len
  have hh := sFor_inv (kd := kL) (fe := (eName 1)) (g := (gSlot 4)) (body := (sSub (ePush (.bl true)) (eName 3) (eBin (eName 4) (ePush (.int 0)) eIx))) (δ := ⟨ctS c rows [] .emp, []⟩) (sl := ctS c rows [] .emp) (e := .al 1 []) (st := []) (n := rows.length)
    (fun j sl => ∃ e4, OwnE e4 ∧ sl = ctS c rows (knOf (rows.take j)) e4) rfl ⟨.emp, .inl rfl, rfl⟩ (fun j sl hh => by
      obtain ⟨_, _, rfl⟩ := hh
      show some (rows.map rowW).length = _
      rw [List.length_map]) ?_
  · obtain ⟨sl', g, e4, k4, rfl⟩ := hh
    rw [List.take_length] at g
    exact ⟨e4, k4, g⟩
  · intro j sl hj hP
    obtain ⟨e4, k4, rfl⟩ := hP
    have ha := rw_at hj
    have hge : rows[j]? = some rows[j] := List.getElem?_eq_getElem hj
    have hn : rows[j].1 ∉ (rows.take j).map (·.1) := by
      have h1 := R.nd
      rw [← List.take_append_drop j rows, List.map_append, List.nodup_append] at h1
      intro z
      refine h1.2.2 _ z rows[j].1 ?_ rfl
      refine List.mem_map_of_mem ?_
      rw [List.drop_eq_getElem_cons hj]
      exact List.mem_cons_self
    have hp := knOf_put hn
    rw [show rows.take j ++ [rows[j]] = rows.take (j + 1) by rw [List.take_succ, hge]; rfl] at hp
    have hkl : (knOf (rows.take j)).length < lineA := by
      rw [knOf_len, List.length_take]
      have := W.sA
      omega
    refine ⟨⟨ctS c rows (knOf (rows.take j)) e4, [.own (rowW rows[j]), .al 1 []]⟩, ⟨ctS c rows (knOf (rows.take j)) (.own (rowW rows[j])), [.al 1 []]⟩, ctS c rows (knOf (rows.take (j + 1))) (.own (rowW rows[j])), ?_, ?_, ?_, _, .inr ⟨_, rfl⟩, rfl⟩
    · have q := @rowW_data
      generalize rows[j] = r at *
      clear hp hn hkl hge
      unfold item itemE kL
      wtm_at "V.run"
    · exact gSlot_ok (by simp [noal_own, noal_emp, k4.noal, show Ent.noal 4 (.al 1 []) = true from rfl])
    · have q := @whyT_data
      rw [← hp]
      generalize rows[j] = r at *
      generalize knOf (rows.take j) = kn at *
      clear hp hn ha hge hj hl
      rw [show rowW r = .tup [.int r.1, whyT r.2] from rfl]
      wtm_at "V.run"
theorem ct_while {c : CS} {rows : List Row} {e4 : Ent} (W : c.wf) (G : tgtOk c) (R : RowsOk c rows) (h4 : OwnE e4) : ∃ rows', Whole c rows' ∧ sSeq (sSet 4 (eCall 3 Ff_next_row (eThen (eName 0) (eThen (eName 1) (eThen (eName 3) eNil))))) (sWhile (tVal (eBin (eName 4) (ePush .non) (op2 kNotN))) (sSeq (sExpr (eMeth isLst (eName 1) (eThen (eThen (eName 4) eFrz) eNil) eAppend)) (sSeq (sSub (ePush (.bl true)) (eName 3) (eBin (eName 4) (ePush (.int 0)) eIx)) (sSet 4 (eCall 3 Ff_next_row (eThen (eName 0) (eThen (eName 1) (eThen (eName 3) eNil)))))))) ⟨ctS c rows (knOf rows) e4, []⟩ = .nx ⟨ctS c rows' (knOf rows') (.own .non), []⟩ := by
  have nxt : ∀ {rows : List Row} {e4 : Ent}, RowsOk c rows → OwnE e4 → ∃ r : Option Row, (match r with
      | none => (∀ r ∈ rows, shut c (knOf rows) r.1) ∧ (∀ m p, gGet c.paired m = some p → shutP (knOf rows) p)
      | some r => okV c (knOf rows) r) ∧ (sSet 4 (eCall 3 Ff_next_row (eThen (eName 0) (eThen (eName 1) (eThen (eName 3) eNil))))) ⟨ctS c rows (knOf rows) e4, []⟩ = .nx ⟨ctS c rows (knOf rows) (.own (rowO r)), []⟩ := fun {rows e4} R h4 => by
    obtain ⟨r, hr, e⟩ := next_ok (rows := rows) (kn := knOf rows) W G (fun r hr => by
      obtain ⟨i, hi, rfl⟩ := List.mem_iff_getElem.mp hr
      exact ⟨(R.ok i _ (List.getElem?_eq_getElem hi)).2, knOf_get.mpr (List.mem_map_of_mem hr)⟩)
    refine ⟨r, hr, ?_⟩
    clear hr
    rcases h4 with rfl | ⟨i4, rfl⟩ <;> wtm_at "V.run"
  obtain ⟨r0, hr0, e0⟩ := nxt R h4
  have hw := sWhile_inv (c := (tVal (eBin (eName 4) (ePush .non) (op2 kNotN)))) (body := (sSeq (sExpr (eMeth isLst (eName 1) (eThen (eThen (eName 4) eFrz) eNil) eAppend)) (sSeq (sSub (ePush (.bl true)) (eName 3) (eBin (eName 4) (ePush (.int 0)) eIx)) (sSet 4 (eCall 3 Ff_next_row (eThen (eName 0) (eThen (eName 1) (eThen (eName 3) eNil)))))))) (st := [])
    (fun m sl => ∃ (rows : List Row) (r : Option Row), RowsOk c rows ∧ m = 60 - rows.length ∧ (match r with
      | none => (∀ r ∈ rows, shut c (knOf rows) r.1) ∧ (∀ m p, gGet c.paired m = some p → shutP (knOf rows) p)
      | some r => okV c (knOf rows) r) ∧ sl = ctS c rows (knOf rows) (.own (rowO r)))
    (fun sl => ∃ rows', Whole c rows' ∧ sl = ctS c rows' (knOf rows') (.own .non)) ?_ (m := 60 - rows.length) (sl := ctS c rows (knOf rows) (.own (rowO r0))) ⟨rows, r0, R, rfl, hr0, rfl⟩
  · obtain ⟨sl', g, rows', w, rfl⟩ := hw
    exact ⟨rows', w, (seq_nx e0).trans g⟩
  · intro m sl hP
    obtain ⟨rows, r, R, rfl, hr, rfl⟩ := hP
    cases r with
    | none =>
      refine .inl ⟨_, ?_, rows, ⟨R, hr.1, hr.2⟩, rfl⟩
      clear hr nxt e0 hr0
      have q1 : kNotN .non .non = some (.bl false) := rfl
      unfold rowO
      wtm_at "V.run"
    | some r =>
      have R' := R.add hr
      have hl' := R'.len
      rw [List.length_append] at hl'
      simp at hl'
      have hsl := W.sl
      have hn : r.1 ∉ rows.map (·.1) := fun z => hr.1 (knOf_get.mpr z)
      have hp := knOf_put hn
      have hA : rows.length < lineA := by
        have : lineA = 1000000 := rfl
        omega
      have hkl : (knOf rows).length < lineA := by rw [knOf_len]; exact hA
      obtain ⟨r', hr', e'⟩ := nxt R' (e4 := .own (rowW r)) (.inr ⟨_, rfl⟩)
      refine .inr ⟨ctS c rows (knOf rows) (.own (rowW r)), ctS c (rows ++ [r]) (knOf (rows ++ [r])) (.own (rowO r')), _, ?_, ?_, ?_, rows ++ [r], r', R', rfl, hr', rfl⟩
      · clear hr nxt e0 hr0 hr' e' hp hn R' hl'
        have q1 : kNotN (.tup [.int r.1, whyT r.2]) .non = some (.bl true) := rfl
        have q := @whyT_data
        simp only [rowO]
        rw [show rowW r = .tup [.int r.1, whyT r.2] from rfl]
        wtm_at "V.run"
      · have b1 : (sExpr (eMeth isLst (eName 1) (eThen (eThen (eName 4) eFrz) eNil) eAppend)) ⟨ctS c rows (knOf rows) (.own (rowW r)), []⟩ = .nx ⟨ctS c (rows ++ [r]) (knOf rows) (.own (rowW r)), []⟩ := by
          clear hr nxt e0 hr0 hr' e' hp hn R' hl'
          have q := @rowW_data
          have q2 : (rowW r).plain = true := by unfold rowW; cases r.2 <;> rfl
          have q3 : (rowW r).frz = rowW r := by unfold rowW; cases r.2 <;> rfl
          unfold ctS
          rw [List.map_append, List.map_cons, List.map_nil]
          wtm_at "V.run"
        have b2 : (sSub (ePush (.bl true)) (eName 3) (eBin (eName 4) (ePush (.int 0)) eIx)) ⟨ctS c (rows ++ [r]) (knOf rows) (.own (rowW r)), []⟩ = .nx ⟨ctS c (rows ++ [r]) (knOf (rows ++ [r])) (.own (rowW r)), []⟩ := by
          rw [← hp]
          generalize rows ++ [r] = rw2 at *
          generalize knOf rows = kn at *
          clear hr nxt e0 hr0 hr' e' hp hn R' hl'
          have q := @whyT_data
          rw [show rowW r = .tup [.int r.1, whyT r.2] from rfl]
          wtm_at "V.run"
        exact (seq_nx b1).trans ((seq_nx b2).trans e')
      · rw [List.length_append]; simp; omega
theorem come_ok {c : CS} (W : c.wf) (G : tgtOk c) : ∃ rows, Whole c rows ∧ Ff_come_to [chestT c] = .ok (.lst .mu (rows.map rowW)) [chestT c] := by
  have R0 := hands0_ok W
  have e0 := ct_0 W
  generalize hands0 c = r0 at *
  have e1 : (sSet 3 eDct) ⟨[.own (chestT c), .own (.lst .mu (r0.map rowW)), .emp, .emp, .emp], []⟩ = .nx ⟨ctS c r0 [] .emp, []⟩ := by
    clear e0
    wtm_at "V.run"
    rfl
  obtain ⟨e4, h4, e2⟩ := ct_2 W R0
  obtain ⟨rows, w, e3⟩ := ct_while W G R0 h4
  refine ⟨rows, w, ?_⟩
  have e5 : (sRet (eThen (eName 1) eMov)) ⟨ctS c rows (knOf rows) (.own .non), []⟩ = .rt ⟨[.own (chestT c), .emp, .emp, .own (knD (knOf rows)), .own .non], [.own (.lst .mu (rows.map rowW))]⟩ := by
    clear e0 e1 e2 e3
    wtm_at "V.run"
  have assoc : ∀ (a b d : SF) (δ δ' : En), sSeq a b δ = .nx δ' → sSeq a (sSeq b d) δ = d δ' := fun a b d δ δ' h => by
    rw [ap_sSeq] at h ⊢
    cases ha : a δ with
    | nx δ1 =>
      rw [ha] at h
      have h' : b δ1 = .nx δ' := h
      show sSeq b d δ1 = _
      rw [ap_sSeq, h']; rfl
    | _ => rw [ha] at h; cases h
  have e : cdf_come_to ⟨[.own (chestT c), .emp, .emp, .emp, .emp], []⟩ = .rt ⟨[.own (chestT c), .emp, .emp, .own (knD (knOf rows)), .own .non], [.own (.lst .mu (rows.map rowW))]⟩ :=
    (seq_nx e0).trans ((seq_nx e1).trans ((seq_nx e2).trans ((assoc _ _ _ _ _ e3).trans e5)))
  unfold Ff_come_to runDef
  show (match cdf_come_to ⟨[.own (chestT c), .emp, .emp, .emp, .emp], []⟩ with | .nx δ => FR.ok .non (outsOf [chestT c] δ.sl) | .rt δ => (match δ.st with | .own t :: _ => .ok t (outsOf [chestT c] δ.sl) | _ => .no) | .ex C sl => .ex C (outsOf [chestT c] sl) | _ => .no) = _
  rw [e]; rfl

theorem eLcD_run {fe : EF} {g : En → Option En} {cf : BF} {elt : EF} {ws : List Nat} {sl sl1 sl' st : List Ent} {i : Nat} {p : List Sp} {kvs : List (Int × T)} (S : Nat → List Ent) (v : Nat → List T)
    (h0 : fe ⟨sl, st⟩ = .ok ⟨sl, .al i p :: st⟩) (hl : look sl (.al i p) = some (.dct false kvs)) (hf : (⟨sl, st⟩ : En).free i p = true)
    (h1 : fe ⟨putAt sl i p (.dct true kvs), .al i p :: st⟩ = .ok ⟨sl1, .al i p :: .al i p :: st⟩) (hw : wipeE ws ⟨sl1, .al i p :: st⟩ = some ⟨S 0, .al i p :: st⟩) (hn : kvs.length < lineA) (hv : ∀ j, (v j).length ≤ 1)
    (ht : ∀ j acc, j < kvs.length → acc.length < lineA → lcTurn (pushI (keyItem (kvs.map (·.1)))) g cf elt ws j ⟨S j, .own (.lst .mu acc) :: .al i p :: st⟩ = some ⟨S (j + 1), .own (.lst .mu (acc ++ v j)) :: .al i p :: st⟩)
    (he : ∀ acc, unlkT ⟨S kvs.length, .al i p :: .own (.lst .mu acc) :: st⟩ = some ⟨sl', .own (.lst .mu acc) :: st⟩) : eLcD fe g cf elt ws ⟨sl, st⟩ = .ok ⟨sl', .own (.lst .mu ((List.range kvs.length).flatMap v)) :: st⟩ := by
  unfold eLcD
  simp only [h0, hl, hf, if_true, h1, and_self, hw, lay0]
  rw [lcGo_run S v hn hv (fun acc => rfl) ht]
  show optR (unlkT ⟨S kvs.length, .al i p :: .own (.lst .mu ((List.range kvs.length).flatMap v)) :: st⟩) = _
  rw [he]; rfl
theorem kb_ss : kitB "str" "str" = some true := by decide +kernel
theorem isi_ss {x : Str} : kIsi (.str x) (.ty "str") = some (.bl true) := by show (kitB "str" "str").map T.bl = _; rw [kb_ss]; rfl
section
variable {c : CS} {kn : List (Int × Unit)} {b : Int}
abbrev worldH (c : CS) : T := .lst .mu [slotsD c, .dct true (tbl trueT c.held), pairD c, willD c, .lst .mu [.int c.coming, .int c.nextp]]
theorem vals_paired : kVals (.dct false (tbl trioT c.paired)) = some (.lst .mu (c.paired.map fun p => trioT p.2)) := by
  have e : (tbl trioT c.paired).map (·.2) = c.paired.map fun p => trioT p.2 := by unfold tbl; rw [List.map_map]; rfl
  show (if datas ((tbl trioT c.paired).map (·.2)) = true then some (T.lst .mu ((tbl trioT c.paired).map (·.2))) else none) = _
  rw [e, if_pos (datas_map (g := fun p : Int × (Int × Int × Int) => trioT p.2) (fun _ => rfl) c.paired)]
theorem closed_1 (W : c.wf) (hp : ∀ m p, gGet c.paired m = some p → shutP kn p) : ∃ e3, OwnE e3 ∧ (sFor kL (eThen (eBin (eName 0) (ePush (.int 2)) eIx) (op1 kVals)) (gSlot 3) (sIf (tAnd (tVal (eBin (eBin (eName 3) (ePush (.int 0)) eIx) (eName 1) (op2 kIn))) (tAnd (tVal (eBin (eBin (eName 3) (ePush (.int 1)) eIx) (eName 1) (op2 kIn))) (tVal (eBin (eBin (eName 3) (ePush (.int 2)) eIx) (eName 1) (op2 kNin))))) (sRet (ePush (.bl false))) sNil)) ⟨[.own (worldT c), .own (knD kn), .emp, .emp], []⟩ = .nx ⟨[.own (worldT c), .own (knD kn), .emp, e3], []⟩ := by
  have ev := vals_paired (c := c)
  have hh := sFor_inv (kd := kL) (fe := (eThen (eBin (eName 0) (ePush (.int 2)) eIx) (op1 kVals))) (g := (gSlot 3)) (body := (sIf (tAnd (tVal (eBin (eBin (eName 3) (ePush (.int 0)) eIx) (eName 1) (op2 kIn))) (tAnd (tVal (eBin (eBin (eName 3) (ePush (.int 1)) eIx) (eName 1) (op2 kIn))) (tVal (eBin (eBin (eName 3) (ePush (.int 2)) eIx) (eName 1) (op2 kNin))))) (sRet (ePush (.bl false))) sNil)) (δ := ⟨[.own (worldT c), .own (knD kn), .emp, .emp], []⟩) (sl := [.own (worldT c), .own (knD kn), .emp, .emp]) (e := .own (.lst .mu (c.paired.map fun p => trioT p.2))) (st := []) (n := c.paired.length)
    (fun j sl => ∃ e3, OwnE e3 ∧ sl = [.own (worldT c), .own (knD kn), .emp, e3]) ?_ ⟨.emp, .inl rfl, rfl⟩ (fun j sl hh => by
      obtain ⟨_, _, rfl⟩ := hh
      show some (c.paired.map fun p => trioT p.2).length = _
      rw [List.length_map]) ?_
  · obtain ⟨sl', g, e3, k3, rfl⟩ := hh
    exact ⟨e3, k3, g⟩
  · clear hp W
    unfold worldT pairD
    wtm_at "V.run"
  · intro j sl hj hP
    obtain ⟨e3, k3, rfl⟩ := hP
    have ha : (c.paired.map fun p => trioT p.2)[j]? = some (trioT (c.paired[j]'hj).2) := by rw [List.getElem?_map, List.getElem?_eq_getElem hj]; rfl
    have hg : gGet c.paired (c.paired[j]'hj).1 = some (c.paired[j]'hj).2 := gGet_of W.kp (List.getElem?_eq_getElem hj)
    have hs := hp _ _ hg
    generalize (c.paired[j]'hj).2 = p at *
    obtain ⟨x, y, z⟩ := p
    refine ⟨⟨[.own (worldT c), .own (knD kn), .emp, e3], [.own (trioT (x, y, z)), .own (.lst .mu (c.paired.map fun p => trioT p.2))]⟩, ⟨[.own (worldT c), .own (knD kn), .emp, .own (trioT (x, y, z))], [.own (.lst .mu (c.paired.map fun p => trioT p.2))]⟩, [.own (worldT c), .own (knD kn), .emp, .own (trioT (x, y, z))], ?_, gSlot_ok (by simp [noal_own, noal_emp, k3.noal]), ?_, _, .inr ⟨_, rfl⟩, rfl⟩
    · clear hg hs hp
      unfold item itemE kL
      unfold trioT at ha ⊢
      wtm_at "V.run"
    · clear hg hp ha
      generalize (c.paired.map fun p => trioT p.2) = lst at *
      have hs' : ∀ u1 u2, gGet kn x = some u1 → gGet kn y = some u2 → ∃ u3, gGet kn z = some u3 := fun u1 u2 a b => isSome_ex (hs (by rw [show (x, y, z).1 = x from rfl, a]; rfl) (by rw [show (x, y, z).2.1 = y from rfl, b]; rfl))
      clear hs
      cases h1 : gGet kn x with
      | none =>
        clear hs'
        wtm_at "V.run"
      | some u1 => cases h2 : gGet kn y with
        | none =>
          clear hs'
          wtm_at "V.run"
        | some u2 =>
          obtain ⟨u3, h3⟩ := hs' u1 u2 h1 h2
          clear hs'
          wtm_at "V.run"
abbrev knL (kn : List (Int × Unit)) : T := .dct true (tbl trueT kn)
end

section
variable {c : CS} {kn : List (Int × Unit)}
def knK (kn : List (Int × Unit)) (j : Nat) : Int := ((tbl trueT kn).map (·.1)).getD j 0
def bxK (kn : List (Int × Unit)) : Nat → Ent
  | 0 => .emp
  | j + 1 => .own (.int (knK kn j))
def e3K (e3 : Ent) : Nat → Ent
  | 0 => e3
  | _ + 1 => .emp
theorem knK_mem {j : Nat} (h : j < kn.length) : knK kn j ∈ kn.map (·.1) := by
  unfold knK
  rw [tbl_keys, List.getD_eq_getElem?_getD, List.getElem?_map, List.getElem?_eq_getElem h]
  exact List.mem_map_of_mem (List.getElem_mem h)
theorem bxK_in {j : Nat} : In5 (bxK kn j) := by cases j <;> first | exact .inl rfl | exact .inr ⟨_, rfl⟩
end
abbrev riS (c : CS) (rows : List Row) (kn : List (Int × Unit)) (e3 : Ent) : List Ent := [.own (worldT c), .own (.lst .mu (rows.map rowW)), .own (knD kn), e3]
/-! deeds, told to the chest, done in the law's own world -/
section
variable {c c' : CS} {op : Op} {v : Option Int} {k : Nat}
theorem beq_yes1 {b : Int} {ds : List Deed} (W : c.wf) (h : c.act (.will b ds) = .yes v c') : v = none ∧ Fm_bequeath [chestT c, .int b, .lst .mu (ds.map deedT)] = .ok .non [chestT c', .int b, .lst .mu (ds.map deedT)] := by
  simp only [CS.act] at h
  split at h
  rotate_left
  · cases h
  split at h <;> cases h
  rename_i hb hd
  obtain ⟨xs, hx⟩ := isSome_ex hb
  have h9 : ¬ (9 : Int) < ds.length := by omega
  have hA : ds.length < lineA := Nat.lt_of_le_of_lt (m := 9) (by omega) (by decide)
  refine ⟨rfl, ?_⟩
  cases ds with
  | nil =>
    cases hw : gGet c.wills b with
    | none =>
      have : c.setWill b [] = c := by
        show ({ c with wills := gDrop c.wills b } : CS) = c
        rw [gDrop_none hw]
      rw [this]
      exact beq_none hx hw
    | some ds => exact beq_drop hx hw
  | cons d ds => exact beq_set hx h9 hd.2 hA rfl W.wA
theorem told_yes (W : c.wf) (h : c.act op = .yes v c') : Ff_law_told [chestT c, opT op] = .ok (vT v) [chestT c', opT op] := by
  cases op with
  | make z =>
    simp only [CS.act] at h
    split at h
    rotate_left
    · cases h
    split at h <;> cases h
    rename_i hz h6
    exact told_make (make_ok hz.1 hz.2 h6 W.sA W.hA)
  | put b s o hh =>
    simp only [CS.act] at h
    split at h
    · cases h
    rename_i xs hx
    split at h
    rotate_left
    · cases h
    split at h <;> cases h
    rename_i hs ho
    obtain ⟨ys, hy⟩ := isSome_ex ho
    exact told_put (put_ok hx hs.1 hs.2 hy)
  | empty b s =>
    simp only [CS.act] at h
    split at h
    · cases h
    rename_i xs hx
    split at h <;> cases h
    rename_i hs
    exact told_empty (empty_ok hx hs.1 hs.2)
  | take b =>
    simp only [CS.act] at h
    split at h <;> cases h
    rename_i hb
    obtain ⟨xs, hx⟩ := isSome_ex hb
    exact told_take (take_ok hx W.hA)
  | drop b =>
    simp only [CS.act] at h
    split at h
    rotate_left
    · cases h
    split at h <;> cases h
    rename_i hb hh
    obtain ⟨xs, hx⟩ := isSome_ex hb
    obtain ⟨u, hu⟩ := isSome_ex hh
    exact told_drop (drop_ok hx hu)
  | pair a b d =>
    simp only [CS.act] at h
    split at h
    rotate_left
    · cases h
    split at h <;> cases h
    rename_i hb h6
    obtain ⟨xa, ha⟩ := isSome_ex hb.1
    obtain ⟨xb, hx⟩ := isSome_ex hb.2.1
    obtain ⟨xd, hd⟩ := isSome_ex hb.2.2
    exact told_pair (pair_ok ha hx hd h6 W.pA)
  | unpair n =>
    simp only [CS.act] at h
    split at h <;> cases h
    rename_i hb
    obtain ⟨p, hp⟩ := isSome_ex hb
    exact told_unpair (unpair_ok hp)
  | will b ds =>
    obtain ⟨rfl, h1⟩ := beq_yes1 W h
    exact told_will h1
theorem cut5_3 {α : Type} {a b d e f : α} : cutT [a, b, d, e, f] (some 3) none = [e, f] := rfl
theorem do_make {z : Int} (W : c.wf) (h0 : 0 ≤ z) (h1 : z ≤ 9) : Ff_law_do [worldT c, .tup [.str "make", .int z]] = .ok .non [worldT (c.make z), .tup [.str "make", .int z]] := by
  have e := kMul_none h0 h1
  have e2 : (1 : Nat) ≤ sizeLine := by decide
  have k1 := W.sA
  have k2 := W.hA
  clear W h0 h1
  unfold Ff_law_do worldT slotsD heldD
  wtm_at "V.run"
  rfl
theorem do_put {b s o : Int} {h : Bool} {xs : List (Option (Int × Bool))} (hx : gGet c.slots b = some xs) (h0 : 0 ≤ s) (h1 : s < xs.length) : Ff_law_do [worldT c, .tup [.str "put", .int b, .int s, .int o, .bl h]] = .ok .non [worldT (c.setSlot b xs s (some (o, h))), .tup [.str "put", .int b, .int s, .int o, .bl h]] := by
  have e3 := ixN_in h0 h1
  have c1 := @cut5_3 T
  clear h0 h1
  unfold Ff_law_do worldT slotsD
  wtm_at "V.run"
  rfl
theorem do_empty {b s : Int} {xs : List (Option (Int × Bool))} (hx : gGet c.slots b = some xs) (h0 : 0 ≤ s) (h1 : s < xs.length) : Ff_law_do [worldT c, .tup [.str "empty", .int b, .int s]] = .ok .non [worldT (c.setSlot b xs s none), .tup [.str "empty", .int b, .int s]] := by
  have e3 := ixN_in h0 h1
  clear h0 h1
  unfold Ff_law_do worldT slotsD
  wtm_at "V.run"
  rfl
theorem do_take {b : Int} (W : c.wf) : Ff_law_do [worldT c, .tup [.str "take", .int b]] = .ok .non [worldT (c.take b), .tup [.str "take", .int b]] := by
  have k2 := W.hA
  clear W
  unfold Ff_law_do worldT heldD
  wtm_at "V.run"
  rfl
theorem do_drop {b : Int} {u} (h1 : gGet c.held b = some u) : Ff_law_do [worldT c, .tup [.str "drop", .int b]] = .ok .non [worldT (c.drop b), .tup [.str "drop", .int b]] := by
  unfold Ff_law_do worldT heldD
  wtm_at "V.run"
  rfl
theorem do_pair {a b d : Int} (W : c.wf) : Ff_law_do [worldT c, .tup [.str "pair", .int a, .int b, .int d]] = .ok .non [worldT (c.pair (a, b, d)), .tup [.str "pair", .int a, .int b, .int d]] := by
  have k2 := W.pA
  clear W
  unfold Ff_law_do worldT pairD
  wtm_at "V.run"
  rfl
theorem do_unpair {n : Int} {p} (h1 : gGet c.paired n = some p) : Ff_law_do [worldT c, .tup [.str "unpair", .int n]] = .ok .non [worldT (c.unpair n), .tup [.str "unpair", .int n]] := by
  unfold Ff_law_do worldT pairD
  wtm_at "V.run"
  rfl
theorem do_will {b : Int} {ds : List Deed} (W : c.wf) : Ff_law_do [worldT c, beqT b ds] = .ok .non [worldT (c.setWill b ds), beqT b ds] := by
  have k2 := W.wA
  clear W
  cases ds with
  | nil =>
    have z : (((0 : Nat) : Int) = 0) = True := by simp
    have g : ∀ l : List (Int × T), gGet (gPut l b (.lst .fz [])) b = some (.lst .fz []) := fun l => by rw [gGet_put, if_pos rfl]
    have g2 : ∀ l : List (Int × T), gDrop (gPut l b (.lst .fz [])) b = gDrop l b := fun l => drop_put
    unfold Ff_law_do worldT willD beqT
    simp only [List.map_nil]
    wtm_at "V.run"
    simp [CS.setWill]
    exact ⟨rfl, rfl, rfl⟩
  | cons d ds =>
    have z : (((d :: ds).length : Int) = 0) = False := eq_false (by simp; omega)
    unfold beqT
    generalize hds : d :: ds = dl at *
    have hn : ¬ dl = [] := by rw [← hds]; simp
    clear hds
    unfold Ff_law_do worldT willD
    wtm_at "V.run"
    simp only [CS.setWill, if_neg hn]
    rfl
theorem do_yes (W : c.wf) (h : c.act op = .yes v c') : Ff_law_do [worldT c, opT op] = .ok .non [worldT c', opT op] := by
  cases op with
  | make z =>
    simp only [CS.act] at h
    split at h
    rotate_left
    · cases h
    split at h <;> cases h
    rename_i hz h6
    exact do_make W hz.1 hz.2
  | put b s o hh =>
    simp only [CS.act] at h
    split at h
    · cases h
    rename_i xs hx
    split at h
    rotate_left
    · cases h
    split at h <;> cases h
    rename_i hs ho
    exact do_put hx hs.1 hs.2
  | empty b s =>
    simp only [CS.act] at h
    split at h
    · cases h
    rename_i xs hx
    split at h <;> cases h
    rename_i hs
    exact do_empty hx hs.1 hs.2
  | take b =>
    simp only [CS.act] at h
    split at h <;> cases h
    exact do_take W
  | drop b =>
    simp only [CS.act] at h
    split at h
    rotate_left
    · cases h
    split at h <;> cases h
    rename_i hb hh
    obtain ⟨u, hu⟩ := isSome_ex hh
    exact do_drop hu
  | pair a b d =>
    simp only [CS.act] at h
    split at h
    rotate_left
    · cases h
    split at h <;> cases h
    exact do_pair W
  | unpair n =>
    simp only [CS.act] at h
    split at h <;> cases h
    rename_i hb
    obtain ⟨p, hp⟩ := isSome_ex hb
    exact do_unpair hp
  | will b ds =>
    simp only [CS.act] at h
    split at h
    rotate_left
    · cases h
    split at h <;> cases h
    exact do_will W
/-- targets stay -/
theorem tgt_nil : tgtOk CS.nil := fun b xs s o h hx _ => by cases hx
theorem tgt_act (W : c.wf) (G : tgtOk c) (h : c.act op = .yes v c') : tgtOk c' := by
  have keep : ∀ {b s : Int} {ys : List (Option (Int × Bool))} {w : Option (Int × Bool)}, gGet c.slots b = some ys → (∀ o h, w = some (o, h) → (gGet c.slots o).isSome) → tgtOk (c.setSlot b ys s w) := fun {b s ys w} hy hw => by
    intro b' xs s' o h hx ho
    show (gGet (gPut c.slots b _) o).isSome
    have hx' : gGet (gPut c.slots b (ys.set s.toNat w)) b' = some xs := hx
    rw [gGet_put] at hx'
    apply some_put
    split at hx'
    · cases hx'
      by_cases hs : s.toNat = s'
      · subst hs
        by_cases hl : s.toNat < ys.length
        · rw [List.getElem?_set_self hl] at ho
          cases ho
          exact hw o h rfl
        · rw [List.getElem?_eq_none (by simp; omega)] at ho
          cases ho
      · rw [List.getElem?_set_ne hs] at ho
        exact G b ys s' o h hy ho
    · exact G b' xs s' o h hx' ho
  cases op with
  | make z =>
    simp only [CS.act] at h
    split at h
    rotate_left
    · cases h
    split at h <;> cases h
    intro b' xs s' o h hx ho
    have hx' : gGet (gPut c.slots c.coming (List.replicate z.toNat none)) b' = some xs := hx
    show (gGet (gPut c.slots c.coming _) o).isSome
    rw [gGet_put] at hx'
    apply some_put
    split at hx'
    · cases hx'
      rw [List.getElem?_replicate] at ho
      split at ho <;> cases ho
    · exact G b' xs s' o h hx' ho
  | put b s o hh =>
    simp only [CS.act] at h
    split at h
    · cases h
    rename_i xs hx
    split at h
    rotate_left
    · cases h
    split at h <;> cases h
    rename_i hs ho
    exact keep hx fun o' h' e => by cases e; exact ho
  | empty b s =>
    simp only [CS.act] at h
    split at h
    · cases h
    rename_i xs hx
    split at h <;> cases h
    exact keep hx fun o' h' e => by cases e
  | take b =>
    simp only [CS.act] at h
    split at h <;> cases h
    exact G
  | drop b =>
    simp only [CS.act] at h
    split at h
    rotate_left
    · cases h
    split at h <;> cases h
    exact G
  | pair a b d =>
    simp only [CS.act] at h
    split at h
    rotate_left
    · cases h
    split at h <;> cases h
    exact G
  | unpair n =>
    simp only [CS.act] at h
    split at h <;> cases h
    exact G
  | will b ds =>
    simp only [CS.act] at h
    split at h
    rotate_left
    · cases h
    split at h <;> cases h
    exact G
end

/-! runs of deeds -/
def runL (c : CS) : List Op → Option CS
  | [] => some c
  | op :: ops => match c.act op with
    | .yes _ c' => runL c' ops
    | .no _ => none
theorem runL_app {c : CS} {a b : List Op} : runL c (a ++ b) = (runL c a).bind fun c' => runL c' b := by
  induction a generalizing c with
  | nil => rfl
  | cons op a ih =>
    show (match c.act op with | .yes _ c' => runL c' (a ++ b) | .no _ => none) = Option.bind (match c.act op with | .yes _ c' => runL c' a | .no _ => none) _
    cases c.act op with
    | no k => rfl
    | yes v c' => exact ih
theorem runL_snoc {c c1 c2 : CS} {a : List Op} {op : Op} {v : Option Int} (h : runL c a = some c1) (h2 : c1.act op = .yes v c2) : runL c (a ++ [op]) = some c2 := by
  rw [runL_app, h]
  show (match c1.act op with | .yes _ c' => runL c' [] | .no _ => none) = _
  rw [h2]; rfl
theorem runL_at {c cn : CS} {ops : List Op} (h : runL c ops = some cn) {j : Nat} (hj : j < ops.length) : ∃ c1 v c2, runL c (ops.take j) = some c1 ∧ c1.act ops[j] = .yes v c2 ∧ runL c (ops.take (j + 1)) = some c2 := by
  have e1 : ops = ops.take j ++ ops.drop j := (List.take_append_drop j ops).symm
  rw [e1, runL_app] at h
  cases h1 : runL c (ops.take j) with
  | none => rw [h1] at h; cases h
  | some c1 =>
    rw [h1, List.drop_eq_getElem_cons hj] at h
    have h' : (match c1.act ops[j] with | .yes _ c' => runL c' (ops.drop (j + 1)) | .no _ => none) = some cn := h
    cases h2 : c1.act ops[j] with
    | no k => rw [h2] at h'; cases h'
    | yes v c2 =>
      refine ⟨c1, v, c2, rfl, h2, ?_⟩
      rw [List.take_succ, List.getElem?_eq_getElem hj]
      exact runL_snoc h1 h2
structure RingOk (c : CS) (many : Int) (np hf : Nat) : Prop where
  W : c.wf
  G : tgtOk c
  sl : ∀ i : Int, 0 ≤ i → i < many → ∃ xs, gGet c.slots i = some xs ∧ xs.length = 3
  ln : (c.slots.length : Int) = many
  cm : c.coming = many
  np : c.paired.length ≤ np
  hd : ∀ i : Int, hf ≤ i → i < many → (gGet c.held i).isSome
section
variable {c c' : CS} {many : Int} {np hf : Nat}
theorem ring_nil : RingOk CS.nil 0 0 0 := ⟨wf_nil, tgt_nil, fun i h1 h2 => by omega, rfl, rfl, Nat.le_refl _, fun i h1 h2 => by omega⟩
theorem ring_is (R : RingOk c many np hf) {i : Int} (h0 : 0 ≤ i) (h1 : i < many) : (gGet c.slots i).isSome := by
  obtain ⟨xs, h, _⟩ := R.sl i h0 h1
  rw [h]; rfl
theorem ring_make (R : RingOk c many np hf) (h : many < 60) : ∃ v c', c.act (.make 3) = .yes v c' ∧ RingOk c' (many + 1) np hf := by
  have hln := R.ln
  have hact : c.act (.make 3) = .yes (some c.coming) (c.make 3) := by
    simp only [CS.act]
    rw [if_pos (by decide), if_neg (by omega)]
  have hnew : c.coming ∉ c.slots.map (·.1) := fun z => by
    obtain ⟨u, hu⟩ := gGet_some z
    have := R.W.kc _ _ hu; omega
  refine ⟨_, _, hact, wf_act R.W hact, tgt_act R.W R.G hact, ?_, ?_, ?_, R.np, ?_⟩
  · intro i h0 h1
    show ∃ xs, gGet (gPut c.slots c.coming _) i = some xs ∧ _
    rw [gGet_put]
    split
    · exact ⟨_, rfl, by simp⟩
    · exact R.sl i h0 (by have := R.cm; omega)
  · show ((gPut c.slots c.coming _).length : Int) = _
    rw [len_put, if_neg hnew]; omega
  · show c.coming + 1 = _
    rw [R.cm]
  · intro i h0 h1
    show (gGet (gPut c.held c.coming ()) i).isSome
    rw [gGet_put]
    split
    · rfl
    · exact R.hd i h0 (by have := R.cm; omega)
theorem ring_pair {a b d : Int} (R : RingOk c many np hf) (hn : np < 60) (ha : 0 ≤ a ∧ a < many) (hb : 0 ≤ b ∧ b < many) (hd : 0 ≤ d ∧ d < many) : ∃ v c', c.act (.pair a b d) = .yes v c' ∧ RingOk c' many (np + 1) hf := by
  have h6 := R.np
  have hact : c.act (.pair a b d) = .yes (some c.nextp) (c.pair (a, b, d)) := by
    simp only [CS.act]
    rw [if_pos ⟨ring_is R ha.1 ha.2, ring_is R hb.1 hb.2, ring_is R hd.1 hd.2⟩, if_neg (by omega)]
  refine ⟨_, _, hact, wf_act R.W hact, tgt_act R.W R.G hact, R.sl, R.ln, R.cm, ?_, R.hd⟩
  show (gPut c.paired c.nextp _).length ≤ _
  rw [len_put]
  split <;> omega
theorem ring_slot {b s : Int} {xs : List (Option (Int × Bool))} {w} (R : RingOk c many np hf) (hx : gGet c.slots b = some xs) {v : Option Int} {op : Op} (hact : c.act op = .yes v (c.setSlot b xs s w)) : RingOk (c.setSlot b xs s w) many np hf := by
  refine ⟨wf_act R.W hact, tgt_act R.W R.G hact, ?_, ?_, R.cm, R.np, R.hd⟩
  · intro i h0 h1
    show ∃ ys, gGet (gPut c.slots b _) i = some ys ∧ _
    rw [gGet_put]
    split
    · rename_i e
      subst e
      obtain ⟨ys, h2, h3⟩ := R.sl i h0 h1
      rw [hx] at h2; cases h2
      exact ⟨_, rfl, by simp [h3]⟩
    · exact R.sl i h0 h1
  · show ((gPut c.slots b _).length : Int) = _
    rw [len_put, if_pos (gGet_mem.mp (by rw [hx]; rfl))]; exact R.ln
theorem ring_put {b s o : Int} {h : Bool} (R : RingOk c many np hf) (hb : 0 ≤ b ∧ b < many) (hs : 0 ≤ s ∧ s < 3) (ho : 0 ≤ o ∧ o < many) : ∃ v c', c.act (.put b s o h) = .yes v c' ∧ RingOk c' many np hf := by
  obtain ⟨xs, hx, h3⟩ := R.sl b hb.1 hb.2
  have hact : c.act (.put b s o h) = .yes none (c.setSlot b xs s (some (o, h))) := by
    simp only [CS.act, hx]
    rw [if_pos ⟨hs.1, by omega⟩, if_pos (ring_is R ho.1 ho.2)]
  exact ⟨_, _, hact, ring_slot R hx hact⟩
theorem ring_will {b : Int} {ds : List Deed} (R : RingOk c many np hf) (hb : 0 ≤ b ∧ b < many) (h9 : ds.length ≤ 9) (hk : ds.all Deed.ok = true) : ∃ v c', c.act (.will b ds) = .yes v c' ∧ RingOk c' many np hf := by
  have hact : c.act (.will b ds) = .yes none (c.setWill b ds) := by
    simp only [CS.act]
    rw [if_pos (ring_is R hb.1 hb.2), if_pos ⟨by omega, hk⟩]
  exact ⟨_, _, hact, wf_act R.W hact, tgt_act R.W R.G hact, R.sl, R.ln, R.cm, R.np, R.hd⟩
theorem ring_drop {j : Nat} (R : RingOk c many np j) (hj : (j : Int) < many) : ∃ v c', c.act (.drop j) = .yes v c' ∧ RingOk c' many np (j + 1) := by
  have hact : c.act (.drop j) = .yes none (c.drop j) := by
    simp only [CS.act]
    rw [if_pos (ring_is R (by omega) hj), if_pos (R.hd j (by omega) hj)]
  refine ⟨_, _, hact, wf_act R.W hact, tgt_act R.W R.G hact, R.sl, R.ln, R.cm, R.np, ?_⟩
  intro i h0 h1
  show (gGet (gDrop c.held j) i).isSome
  rw [gGet_drop, if_neg (by omega)]
  exact R.hd i (by omega) h1
theorem RingOk.mono {np' hf' : Nat} (R : RingOk c many np hf) (h1 : np ≤ np') (h2 : hf ≤ hf') : RingOk c many np' hf' := ⟨R.W, R.G, R.sl, R.ln, R.cm, Nat.le_trans R.np h1, fun i a b => R.hd i (by omega) b⟩
/-- three boxes more -/
theorem ring_end {h : Bool} (R : RingOk c many np hf) (h0 : 0 ≤ many) (hm : many ≤ 11) (hn : np ≤ 11) : ∃ c', runL c ([Op.make 1, .make 2, .make 1, .pair many (many + 1) (many + 2)] ++ [Op.will (many + 1) [.up, .down many], .drop (many + 1), .drop (many + 2)] ++ [Op.put (many + 1) 0 many h]) = some c' ∧ c'.wf ∧ tgtOk c' := by
  have a1 : c.act (.make 1) = .yes (some c.coming) (c.make 1) := by
    have := R.ln
    simp only [CS.act]
    rw [if_pos (by decide), if_neg (by omega)]
  have W1 := wf_act R.W a1
  have G1 := tgt_act R.W R.G a1
  have cm1 : (c.make 1).coming = many + 1 := by show c.coming + 1 = _; rw [R.cm]
  have l1 : (c.make 1).slots.length ≤ 12 := by
    show (gPut c.slots c.coming _).length ≤ 12
    rw [len_put]
    have := R.ln
    split <;> omega
  have s1 : (gGet (c.make 1).slots many).isSome := by
    show (gGet (gPut c.slots c.coming _) many).isSome
    rw [gGet_put, if_pos R.cm.symm]; rfl
  have p1 : (c.make 1).paired.length ≤ 11 := Nat.le_trans R.np hn
  generalize c.make 1 = c1 at *
  have a2 : c1.act (.make 2) = .yes (some c1.coming) (c1.make 2) := by
    simp only [CS.act]
    rw [if_pos (by decide), if_neg (by omega)]
  have W2 := wf_act W1 a2
  have G2 := tgt_act W1 G1 a2
  have cm2 : (c1.make 2).coming = many + 2 := by show c1.coming + 1 = _; rw [cm1]; omega
  have l2 : (c1.make 2).slots.length ≤ 13 := by
    show (gPut c1.slots c1.coming _).length ≤ 13
    rw [len_put]
    split <;> omega
  have s2 : (gGet (c1.make 2).slots many).isSome := by
    show (gGet (gPut c1.slots c1.coming _) many).isSome
    exact some_put s1
  have t2 : ∃ xs, gGet (c1.make 2).slots (many + 1) = some xs ∧ xs.length = 2 := by
    show ∃ xs, gGet (gPut c1.slots c1.coming _) (many + 1) = some xs ∧ _
    rw [gGet_put, if_pos cm1.symm]
    exact ⟨_, rfl, by simp⟩
  have k2 : (gGet (c1.make 2).held (many + 1)).isSome := by
    show (gGet (gPut c1.held c1.coming ()) (many + 1)).isSome
    rw [gGet_put, if_pos cm1.symm]; rfl
  have p2 : (c1.make 2).paired.length ≤ 11 := p1
  generalize c1.make 2 = c2 at *
  have a3 : c2.act (.make 1) = .yes (some c2.coming) (c2.make 1) := by
    simp only [CS.act]
    rw [if_pos (by decide), if_neg (by omega)]
  have W3 := wf_act W2 a3
  have G3 := tgt_act W2 G2 a3
  have s3 : (gGet (c2.make 1).slots many).isSome := some_put s2
  have t3 : ∃ xs, gGet (c2.make 1).slots (many + 1) = some xs ∧ xs.length = 2 := by
    show ∃ xs, gGet (gPut c2.slots c2.coming _) (many + 1) = some xs ∧ _
    rw [gGet_put, if_neg (by omega)]
    exact t2
  have u3 : (gGet (c2.make 1).slots (many + 2)).isSome := by
    show (gGet (gPut c2.slots c2.coming _) (many + 2)).isSome
    rw [gGet_put, if_pos cm2.symm]; rfl
  have k3 : (gGet (c2.make 1).held (many + 1)).isSome := some_put k2
  have m3 : (gGet (c2.make 1).held (many + 2)).isSome := by
    show (gGet (gPut c2.held c2.coming ()) (many + 2)).isSome
    rw [gGet_put, if_pos cm2.symm]; rfl
  have p3 : (c2.make 1).paired.length ≤ 11 := p2
  generalize c2.make 1 = c3 at *
  obtain ⟨xs, t3a, t3b⟩ := t3
  have t3s : (gGet c3.slots (many + 1)).isSome := by rw [t3a]; rfl
  have a4 : c3.act (.pair many (many + 1) (many + 2)) = .yes (some c3.nextp) (c3.pair (many, many + 1, many + 2)) := by
    simp only [CS.act]
    rw [if_pos ⟨s3, t3s, u3⟩, if_neg (by omega)]
  have W4 := wf_act W3 a4
  have G4 := tgt_act W3 G3 a4
  have a5 : (c3.pair (many, many + 1, many + 2)).act (.will (many + 1) [.up, .down many]) = .yes none ((c3.pair (many, many + 1, many + 2)).setWill (many + 1) [.up, .down many]) := by
    simp only [CS.act]
    rw [if_pos (show (gGet (c3.pair (many, many + 1, many + 2)).slots (many + 1)).isSome = true from t3s), if_pos ⟨by show (2 : Int) ≤ 9; decide, by simp [Deed.ok, h0]⟩]
  have W5 := wf_act W4 a5
  have G5 := tgt_act W4 G4 a5
  generalize hc5 : (c3.pair (many, many + 1, many + 2)).setWill (many + 1) [.up, .down many] = c5 at *
  have e5s : c5.slots = c3.slots := by rw [← hc5]; rfl
  have e5h : c5.held = c3.held := by rw [← hc5]; rfl
  have a6 : c5.act (.drop (many + 1)) = .yes none (c5.drop (many + 1)) := by
    simp only [CS.act]
    rw [if_pos (by rw [e5s]; exact t3s), if_pos (by rw [e5h]; exact k3)]
  have W6 := wf_act W5 a6
  have G6 := tgt_act W5 G5 a6
  have a7 : (c5.drop (many + 1)).act (.drop (many + 2)) = .yes none ((c5.drop (many + 1)).drop (many + 2)) := by
    simp only [CS.act]
    have x1 : (gGet (c5.drop (many + 1)).slots (many + 2)).isSome = true := by show (gGet c5.slots (many + 2)).isSome = true; rw [e5s]; exact u3
    have x2 : (gGet (c5.drop (many + 1)).held (many + 2)).isSome = true := by show (gGet (gDrop c5.held (many + 1)) (many + 2)).isSome = true; rw [gGet_drop, if_neg (by omega), e5h]; exact m3
    rw [if_pos x1, if_pos x2]
  have W7 := wf_act W6 a7
  have G7 := tgt_act W6 G6 a7
  have a8 : ((c5.drop (many + 1)).drop (many + 2)).act (.put (many + 1) 0 many h) = .yes none (((c5.drop (many + 1)).drop (many + 2)).setSlot (many + 1) xs 0 (some (many, h))) := by
    have e : gGet ((c5.drop (many + 1)).drop (many + 2)).slots (many + 1) = some xs := by show gGet c5.slots _ = _; rw [e5s]; exact t3a
    have e2 : (gGet ((c5.drop (many + 1)).drop (many + 2)).slots many).isSome = true := by show (gGet c5.slots _).isSome = true; rw [e5s]; exact s3
    simp only [CS.act, e]
    rw [if_pos ⟨by decide, by omega⟩, if_pos e2]
  have W8 := wf_act W7 a8
  have G8 := tgt_act W7 G7 a8
  refine ⟨_, ?_, W8, G8⟩
  simp only [List.cons_append, List.nil_append, runL, a1, a2, a3, a4, a5, a6, a7, a8]
end

/-! the ring, deed by deed -/
theorem laid5_C {far many step : Int} {j : Nat} {ot way : Int} {ops : List Op} {e7 : Ent} (h7 : OwnE e7) (hl : ops.length < lineA) : ∃ op : Op, ((∃ x : Int, (x = 0 ∨ x = many - 1) ∧ op = .pair x j ot) ∨ (∃ (s : Int) (h : Bool), (0 ≤ s ∧ s < 3) ∧ op = .put j s ot h)) ∧ (sIf (tVal (eBin (eName 6) (ePush (.int 1)) (op2 kEq))) (sExpr (eMeth isLst (eName 2) (eThen (eThen (eTup 4 (eThen (ePush (.str "pair")) (eThen (eBin (eCall 3 Ff_law_mixed (eThen (eName 0) (eThen (eBin (eName 3) (ePush (.int 1)) (op2 kAdd)) (eThen (ePush (.int 2)) eNil)))) (eBin (eName 1) (ePush (.int 1)) (op2 kSub)) (op2 kMul)) (eThen (eThen (eName 3) eFrz) (eThen (eThen (eName 5) eFrz) eNil))))) eFrz) eNil) eAppend)) (sExpr (eMeth isLst (eName 2) (eThen (eThen (eTup 5 (eThen (ePush (.str "put")) (eThen (eThen (eName 3) eFrz) (eThen (eCall 3 Ff_law_mixed (eThen (eName 0) (eThen (eBin (eName 3) (ePush (.int 2)) (op2 kAdd)) (eThen (ePush (.int 3)) eNil)))) (eThen (eThen (eName 5) eFrz) (eThen (eBin (eName 6) (ePush (.int 0)) (op2 kGt)) eNil)))))) eFrz) eNil) eAppend))) ⟨laidS far many step ops (.own (.int j)) (.own (.int ot)) (.own (.int way)) e7, []⟩ = .nx ⟨laidS far many step (ops ++ [op]) (.own (.int j)) (.own (.int ot)) (.own (.int way)) e7, []⟩ := by
  have z4 : (4 : Nat) ≤ sizeLine := by decide
  have z5 : (5 : Nat) ≤ sizeLine := by decide
  by_cases hw : way = 1
  · subst hw
    have e1 := mixed_ok (c := far) (k := (j : Int) + 1) (m := 2) (by omega) (by decide)
    have b1 := mixF_bd (c := far) (k := (j : Int) + 1) (m := 2) (by decide)
    have e2 : kMul (.int (mixF far ((j : Int) + 1) 2)) (.int (many - 1)) = some (.int (mixF far ((j : Int) + 1) 2 * (many - 1))) := kMul_int (mulS_l b1.1 (by omega))
    have hx : mixF far ((j : Int) + 1) 2 * (many - 1) = 0 ∨ mixF far ((j : Int) + 1) 2 * (many - 1) = many - 1 := by
      have : mixF far ((j : Int) + 1) 2 = 0 ∨ mixF far ((j : Int) + 1) 2 = 1 := by omega
      rcases this with h | h <;> rw [h]
      · exact .inl (Int.zero_mul _)
      · exact .inr (Int.one_mul _)
    refine ⟨.pair (mixF far ((j : Int) + 1) 2 * (many - 1)) j ot, .inl ⟨_, hx, rfl⟩, ?_⟩
    have k1 := push_op (ops := ops) (op := .pair (mixF far ((j : Int) + 1) 2 * (many - 1)) j ot)
    unfold laidS
    rw [← k1]
    clear k1 b1 hx
    unfold opT
    rcases h7 with rfl | ⟨i7, rfl⟩ <;> wtm_at "V.run"
  · have e1 := mixed_ok (c := far) (k := (j : Int) + 2) (m := 3) (by omega) (by decide)
    have b1 := mixF_bd (c := far) (k := (j : Int) + 2) (m := 3) (by decide)
    refine ⟨.put j (mixF far ((j : Int) + 2) 3) ot (decide (0 < way)), .inr ⟨_, _, b1, rfl⟩, ?_⟩
    have k1 := push_op (ops := ops) (op := .put j (mixF far ((j : Int) + 2) 3) ot (decide (0 < way)))
    unfold laidS
    rw [← k1]
    clear k1 b1
    unfold opT
    rcases h7 with rfl | ⟨i7, rfl⟩ <;> wtm_at "V.run"
theorem laid5_D {far many step : Int} {j : Nat} {ot way : Int} {ops : List Op} {e7 : Ent} (hm : 0 < many) (h7 : OwnE e7) (hl : ops.length < lineA) : ∃ (ops' : List Op) (e7' : Ent), (ops' = [] ∨ ∃ ds : List Deed, ds.length ≤ 9 ∧ ds.all Deed.ok = true ∧ ops' = [.will j ds]) ∧ OwnE e7' ∧ (sIf (tVal (eBin (eCall 3 Ff_law_mixed (eThen (eName 0) (eThen (eBin (eName 3) (ePush (.int 3)) (op2 kAdd)) (eThen (ePush (.int 2)) eNil)))) (ePush (.int 1)) (op2 kEq))) (sSeq (sSet 7 (eBin (eLst 3 (eThen (eLst 1 (eThen (eTup 4 (eThen (ePush (.str "hang")) (eThen (eBin (eBin (eName 3) (ePush (.int 2)) (op2 kAdd)) (eName 1) (op2 kMod)) (eThen (ePush (.int 0)) (eThen (eBin (eName 6) (ePush (.int 1)) (op2 kGt)) eNil))))) eNil)) (eThen (eLst 1 (eThen (eTup 1 (eThen (ePush (.str "up")) eNil)) eNil)) (eThen (eLst 1 (eThen (eTup 2 (eThen (ePush (.str "down")) (eThen (ePush (.int 0)) eNil))) eNil)) eNil)))) (eBin (eName 6) (ePush (.int 3)) (op2 kMod)) eIx)) (sExpr (eMeth isLst (eName 2) (eThen (eThen (eTup 3 (eThen (ePush (.str "bequeath")) (eThen (eThen (eName 3) eFrz) (eThen (eThen (eName 7) eFrz) eNil)))) eFrz) eNil) eAppend))) sNil) ⟨laidS far many step ops (.own (.int j)) (.own (.int ot)) (.own (.int way)) e7, []⟩ = .nx ⟨laidS far many step (ops ++ ops') (.own (.int j)) (.own (.int ot)) (.own (.int way)) e7', []⟩ := by
  have z1 : (1 : Nat) ≤ sizeLine := by decide
  have z2 : (2 : Nat) ≤ sizeLine := by decide
  have z3 : (3 : Nat) ≤ sizeLine := by decide
  have z4 : (4 : Nat) ≤ sizeLine := by decide
  have e1 := mixed_ok (c := far) (k := (j : Int) + 3) (m := 2) (by omega) (by decide)
  by_cases hx : mixF far ((j : Int) + 3) 2 = 1
  · rw [hx] at e1
    have e2 : kMod (.int way) (.int 3) = some (.int (way % 3)) := kMod_pos (by decide)
    have e3 : kMod (.int ((j : Int) + 2)) (.int many) = some (.int (((j : Int) + 2) % many)) := kMod_pos hm
    have h3 := three ⟨Int.emod_nonneg way (by decide : (3 : Int) ≠ 0), Int.emod_lt_of_pos way (by decide : (0 : Int) < 3)⟩
    have hmod : 0 ≤ ((j : Int) + 2) % many := Int.emod_nonneg _ (by omega)
    have key : ∀ ds : List Deed, ds.length ≤ 9 → ds.all Deed.ok = true → (sIf (tVal (eBin (eCall 3 Ff_law_mixed (eThen (eName 0) (eThen (eBin (eName 3) (ePush (.int 3)) (op2 kAdd)) (eThen (ePush (.int 2)) eNil)))) (ePush (.int 1)) (op2 kEq))) (sSeq (sSet 7 (eBin (eLst 3 (eThen (eLst 1 (eThen (eTup 4 (eThen (ePush (.str "hang")) (eThen (eBin (eBin (eName 3) (ePush (.int 2)) (op2 kAdd)) (eName 1) (op2 kMod)) (eThen (ePush (.int 0)) (eThen (eBin (eName 6) (ePush (.int 1)) (op2 kGt)) eNil))))) eNil)) (eThen (eLst 1 (eThen (eTup 1 (eThen (ePush (.str "up")) eNil)) eNil)) (eThen (eLst 1 (eThen (eTup 2 (eThen (ePush (.str "down")) (eThen (ePush (.int 0)) eNil))) eNil)) eNil)))) (eBin (eName 6) (ePush (.int 3)) (op2 kMod)) eIx)) (sExpr (eMeth isLst (eName 2) (eThen (eThen (eTup 3 (eThen (ePush (.str "bequeath")) (eThen (eThen (eName 3) eFrz) (eThen (eThen (eName 7) eFrz) eNil)))) eFrz) eNil) eAppend))) sNil) ⟨laidS far many step ops (.own (.int j)) (.own (.int ot)) (.own (.int way)) e7, []⟩ = .nx ⟨[.own (.int far), .own (.int many), .own (.lst .mu (ops.map opT ++ [beqT j ds])), .own (.int j), .own (.int step), .own (.int ot), .own (.int way), .own (.lst .fz (ds.map deedT))], []⟩ → ∃ (ops' : List Op) (e7' : Ent), (ops' = [] ∨ ∃ ds : List Deed, ds.length ≤ 9 ∧ ds.all Deed.ok = true ∧ ops' = [.will j ds]) ∧ OwnE e7' ∧ (sIf (tVal (eBin (eCall 3 Ff_law_mixed (eThen (eName 0) (eThen (eBin (eName 3) (ePush (.int 3)) (op2 kAdd)) (eThen (ePush (.int 2)) eNil)))) (ePush (.int 1)) (op2 kEq))) (sSeq (sSet 7 (eBin (eLst 3 (eThen (eLst 1 (eThen (eTup 4 (eThen (ePush (.str "hang")) (eThen (eBin (eBin (eName 3) (ePush (.int 2)) (op2 kAdd)) (eName 1) (op2 kMod)) (eThen (ePush (.int 0)) (eThen (eBin (eName 6) (ePush (.int 1)) (op2 kGt)) eNil))))) eNil)) (eThen (eLst 1 (eThen (eTup 1 (eThen (ePush (.str "up")) eNil)) eNil)) (eThen (eLst 1 (eThen (eTup 2 (eThen (ePush (.str "down")) (eThen (ePush (.int 0)) eNil))) eNil)) eNil)))) (eBin (eName 6) (ePush (.int 3)) (op2 kMod)) eIx)) (sExpr (eMeth isLst (eName 2) (eThen (eThen (eTup 3 (eThen (ePush (.str "bequeath")) (eThen (eThen (eName 3) eFrz) (eThen (eThen (eName 7) eFrz) eNil)))) eFrz) eNil) eAppend))) sNil) ⟨laidS far many step ops (.own (.int j)) (.own (.int ot)) (.own (.int way)) e7, []⟩ = .nx ⟨laidS far many step (ops ++ ops') (.own (.int j)) (.own (.int ot)) (.own (.int way)) e7', []⟩ := fun ds hd hk h => by
      refine ⟨[.will j ds], .own (.lst .fz (ds.map deedT)), .inr ⟨ds, hd, hk, rfl⟩, .inr ⟨_, rfl⟩, ?_⟩
      rw [h]
      unfold laidS
      rw [← push_op]; rfl
    clear hx hm
    rcases h3 with h | h | h <;> rw [h] at e2 <;> clear h
    · refine key [.hang (((j : Int) + 2) % many) 0 (decide (1 < way))] (by show 1 ≤ 9; decide) (by simp [Deed.ok, hmod]) ?_
      clear key hmod
      unfold laidS beqT
      simp only [List.map_cons, List.map_nil, deedT]
      rcases h7 with rfl | ⟨i7, rfl⟩ <;> wtm_at "V.run"
    · refine key [.up] (by decide) rfl ?_
      clear key hmod
      unfold laidS beqT
      simp only [List.map_cons, List.map_nil, deedT]
      rcases h7 with rfl | ⟨i7, rfl⟩ <;> wtm_at "V.run"
    · refine key [.down 0] (by decide) (by decide) ?_
      clear key hmod
      unfold laidS beqT
      simp only [List.map_cons, List.map_nil, deedT]
      rcases h7 with rfl | ⟨i7, rfl⟩ <;> wtm_at "V.run"
  · refine ⟨[], e7, .inl rfl, h7, ?_⟩
    generalize mixF far ((j : Int) + 3) 2 = x at *
    rw [List.append_nil]
    unfold laidS
    rcases h7 with rfl | ⟨i7, rfl⟩ <;> wtm_at "V.run"
def Laid5 (far many step : Int) (n0 np hf : Nat) (j : Nat) (sl : List Ent) : Prop := ∃ (ops : List Op) (c : CS) (e3 e5 e6 e7 : Ent), runL CS.nil ops = some c ∧ RingOk c many np hf ∧ ops.length ≤ n0 + 2 * j ∧ In5 e3 ∧ In5 e5 ∧ In5 e6 ∧ OwnE e7 ∧ sl = laidS far many step ops e3 e5 e6 e7
theorem laid5_loop1 {far many step : Int} {ops : List Op} {c0 : CS} (hm : 0 < many) (h60 : many ≤ 60) (hr : runL CS.nil ops = some c0) (R0 : RingOk c0 many 0 0) (hl : ops.length ≤ 60) : ∃ sl', lp_laid_1 ⟨laidS far many step ops .emp .emp .emp .emp, []⟩ = .nx ⟨sl', []⟩ ∧ Laid5 far many step 60 many.toNat 0 many.toNat sl' := by
  refine sFor1_slot (i := many) (fun j sl => Laid5 far many step 60 j 0 j sl) ?_ (by omega) (by omega) ⟨ops, c0, _, _, _, _, hr, R0, hl, .inl rfl, .inl rfl, .inl rfl, .inl rfl, rfl⟩ fun j sl hj hP => ?_
  · clear hl hr R0
    unfold laidS
    wtm_at "V.run"
  · obtain ⟨o, c, e3, e5, e6, e7, hr, R, hl, h3, h5, h6, h7, rfl⟩ := hP
    have hA : o.length < lineA := by
      have : lineA = 1000000 := rfl
      omega
    have hj' : (j : Int) < many := by omega
    have hot : 0 ≤ ((j : Int) + step) % many ∧ ((j : Int) + step) % many < many := ⟨Int.emod_nonneg _ (by omega), Int.emod_lt_of_pos _ hm⟩
    refine ⟨by simp [noal_own, noal_emp, h3.noal, h5.noal, h6.noal, h7.noal], ?_⟩
    obtain ⟨op, c1, c2⟩ := laid5_C (far := far) (many := many) (step := step) (j := j) (ot := ((j : Int) + step) % many) (way := mixF far j 5) h7 hA
    obtain ⟨ops', e7', d1, d3, d4⟩ := laid5_D (far := far) (many := many) (step := step) (j := j) (ot := ((j : Int) + step) % many) (way := mixF far j 5) (ops := o ++ [op]) hm h7 (by
      have : lineA = 1000000 := rfl
      rw [List.length_append]; simp; omega)
    have hrun : ∃ v c', c.act op = .yes v c' ∧ RingOk c' many (j + 1) 0 := by
      rcases c1 with ⟨x, hx, rfl⟩ | ⟨s, h, hs, rfl⟩
      · exact ring_pair R (by omega) (by rcases hx with rfl | rfl <;> omega) ⟨by omega, hj'⟩ hot
      · obtain ⟨v, c', a, R'⟩ := ring_put (h := h) R ⟨by omega, hj'⟩ hs hot
        exact ⟨v, c', a, R'.mono (by omega) (Nat.le_refl _)⟩
    obtain ⟨v, c', ha, R'⟩ := hrun
    have hr1 := runL_snoc hr ha
    have hrun2 : ∃ c'', runL CS.nil (o ++ [op] ++ ops') = some c'' ∧ RingOk c'' many (j + 1) 0 ∧ ops'.length ≤ 1 := by
      rcases d1 with rfl | ⟨ds, hd, hk, rfl⟩
      · exact ⟨c', by rw [List.append_nil]; exact hr1, R', Nat.zero_le _⟩
      · obtain ⟨v2, c2, a2, R2⟩ := ring_will R' ⟨by omega, hj'⟩ hd hk
        exact ⟨c2, runL_snoc hr1 a2, R2, Nat.le_refl _⟩
    obtain ⟨c'', hr2, R2, hl2⟩ := hrun2
    refine ⟨_, (seq_nx (laid_A hm h5 h6 h7)).trans ((seq_nx (laid_B h6 h7)).trans ((seq_nx c2).trans d4)), _, c'', _, _, _, _, hr2, R2, ?_, .inr ⟨_, rfl⟩, .inr ⟨_, rfl⟩, .inr ⟨_, rfl⟩, d3, rfl⟩
    simp only [List.length_append, List.length_cons, List.length_nil]; omega
theorem laid5_loop2 {far many step : Int} {sl : List Ent} (hm : 0 < many) (h60 : many ≤ 60) (hP0 : Laid5 far many step 60 many.toNat 0 many.toNat sl) : ∃ sl', lp_laid_2 ⟨sl, []⟩ = .nx ⟨sl', []⟩ ∧ Laid5 far many step 180 many.toNat many.toNat many.toNat sl' := by
  refine sFor1_slot (i := many) (sl := sl) (fun j sl => Laid5 far many step 180 many.toNat j j sl) ?_ (by omega) (by omega) ?_ fun j sl hj hP => ?_
  · obtain ⟨o, c, e3, e5, e6, e7, hr, R, hl, h3, h5, h6, h7, rfl⟩ := hP0
    clear hl hr R
    unfold laidS
    rcases h3 with rfl | ⟨i3, rfl⟩ <;> rcases h5 with rfl | ⟨i5, rfl⟩ <;> rcases h6 with rfl | ⟨i6, rfl⟩ <;> rcases h7 with rfl | ⟨i7, rfl⟩ <;> rfl
  · obtain ⟨o, c, e3, e5, e6, e7, hr, R, hl, h3, h5, h6, h7, rfl⟩ := hP0
    exact ⟨o, c, e3, e5, e6, e7, hr, R, by omega, h3, h5, h6, h7, rfl⟩
  · obtain ⟨o, c, e3, e5, e6, e7, hr, R, hl, h3, h5, h6, h7, rfl⟩ := hP
    have hA : o.length < lineA := by
      have : lineA = 1000000 := rfl
      omega
    have z2 : (2 : Nat) ≤ sizeLine := by decide
    refine ⟨by simp [noal_own, noal_emp, h3.noal, h5.noal, h6.noal, h7.noal], ?_⟩
    have e1 := mixed_ok (c := far) (k := (j : Int) + 4) (m := 6) (by omega) (by decide)
    generalize mixF far ((j : Int) + 4) 6 = x at *
    by_cases hx : 0 < x
    · obtain ⟨v, c', a, R'⟩ := ring_drop R (by omega)
      refine ⟨laidS far many step (o ++ [.drop j]) (.own (.int j)) e5 e6 e7, ?_, _, c', _, _, _, _, runL_snoc hr a, R', ?_, .inr ⟨_, rfl⟩, h5, h6, h7, rfl⟩
      · have k1 := push_op (ops := o) (op := .drop j)
        unfold laidS
        rw [← k1]
        clear k1 hl hj hm h60 hP0 hr R R' a
        unfold opT
        rcases h5 with rfl | ⟨i5, rfl⟩ <;> rcases h6 with rfl | ⟨i6, rfl⟩ <;> rcases h7 with rfl | ⟨i7, rfl⟩ <;> wtm_at "V.run"
      · simp only [List.length_append, List.length_cons, List.length_nil]; omega
    · refine ⟨laidS far many step o (.own (.int j)) e5 e6 e7, ?_, o, c, _, _, _, _, hr, R.mono (Nat.le_refl _) (by omega), by omega, .inr ⟨_, rfl⟩, h5, h6, h7, rfl⟩
      unfold laidS
      clear hl hj hm h60 hP0 hr R
      rcases h5 with rfl | ⟨i5, rfl⟩ <;> rcases h6 with rfl | ⟨i6, rfl⟩ <;> rcases h7 with rfl | ⟨i7, rfl⟩ <;> wtm_at "V.run"
theorem laid5_many {far : Int} {rest : SF} : ∃ many : Int, 0 < many ∧ many ≤ 60 ∧ (far / 9 % 6 = 2 → many ≤ 11) ∧ sSeq (sSet 1 (eBin (ePush (.int 3)) (eBin (eName 0) (ePush (.int 9)) (op2 kMod)) (op2 kAdd))) (sSeq (sIf (tVal (eBin (eBin (eBin (eName 0) (ePush (.int 9)) (op2 kFdiv)) (ePush (.int 6)) (op2 kMod)) (ePush (.int 1)) (op2 kEq))) (sSet 1 (eBin (ePush (.int 50)) (eBin (eBin (eName 0) (ePush (.int 54)) (op2 kFdiv)) (ePush (.int 11)) (op2 kMod)) (op2 kAdd))) sNil) rest) ⟨[.own (.int far), .emp, .emp, .emp, .emp, .emp, .emp, .emp], []⟩ = rest ⟨[.own (.int far), .own (.int many), .emp, .emp, .emp, .emp, .emp, .emp], []⟩ := by
  have e1 : kMod (.int far) (.int 9) = some (.int (far % 9)) := kMod_pos (by decide)
  have e2 : kFdiv (.int far) (.int 9) = some (.int (far / 9)) := kFdiv_pos (by decide) (by decide)
  have e3 : kMod (.int (far / 9)) (.int 6) = some (.int (far / 9 % 6)) := kMod_pos (by decide)
  have e4 : kFdiv (.int far) (.int 54) = some (.int (far / 54)) := kFdiv_pos (by decide) (by decide)
  have e5 : kMod (.int (far / 54)) (.int 11) = some (.int (far / 54 % 11)) := kMod_pos (by decide)
  have a1 := Int.emod_nonneg far (show (9 : Int) ≠ 0 by omega)
  have a2 := Int.emod_lt_of_pos far (show (0 : Int) < 9 by omega)
  have a3 := Int.emod_nonneg (far / 54) (show (11 : Int) ≠ 0 by omega)
  have a4 := Int.emod_lt_of_pos (far / 54) (show (0 : Int) < 11 by omega)
  by_cases h : far / 9 % 6 = 1
  · refine ⟨50 + far / 54 % 11, by omega, by omega, fun z => by omega, ?_⟩
    rw [h] at e3
    clear a1 a2 a3 a4 h
    wtm_at "V.run"
  · refine ⟨3 + far % 9, by omega, by omega, fun z => by omega, ?_⟩
    clear a1 a2 a3 a4
    generalize far / 9 % 6 = w at *
    wtm_at "V.run"
theorem ring_start : ∀ n : Nat, n ≤ 60 → ∃ c, runL CS.nil ((List.range n).map fun _ => Op.make 3) = some c ∧ RingOk c n 0 0
  | 0, _ => ⟨CS.nil, rfl, ring_nil⟩
  | n + 1, h => by
    obtain ⟨c, h1, R⟩ := ring_start n (by omega)
    obtain ⟨v, c', a, R'⟩ := ring_make R (by omega)
    refine ⟨c', ?_, by have := R'; rw [show ((n : Int) + 1) = ((n + 1 : Nat) : Int) by omega] at this; exact this⟩
    rw [List.range_succ, List.map_append]
    exact runL_snoc h1 a
theorem laid5_end {far many step : Int} {np hf : Nat} {ops : List Op} {c : CS} {e3 e5 e6 e7 : Ent} (h3 : In5 e3) (h5 : In5 e5) (h6 : In5 e6) (h7 : OwnE e7) (hr : runL CS.nil ops = some c) (R : RingOk c many np hf) (h0 : 0 ≤ many) (hm : far / 9 % 6 = 2 → many ≤ 11 ∧ np ≤ 11) (hl : ops.length ≤ 300) : ∃ (ops' : List Op) (c' : CS), runL CS.nil ops' = some c' ∧ ops'.length ≤ 320 ∧ (sIf (tVal (eBin (eBin (eBin (eName 0) (ePush (.int 9)) (op2 kFdiv)) (ePush (.int 6)) (op2 kMod)) (ePush (.int 2)) (op2 kEq))) (sSeq (sSet 2 (eBin (eName 2) (eLst 4 (eThen (eTup 2 (eThen (ePush (.str "make")) (eThen (ePush (.int 1)) eNil))) (eThen (eTup 2 (eThen (ePush (.str "make")) (eThen (ePush (.int 2)) eNil))) (eThen (eTup 2 (eThen (ePush (.str "make")) (eThen (ePush (.int 1)) eNil))) (eThen (eTup 4 (eThen (ePush (.str "pair")) (eThen (eThen (eName 1) eFrz) (eThen (eBin (eName 1) (ePush (.int 1)) (op2 kAdd)) (eThen (eBin (eName 1) (ePush (.int 2)) (op2 kAdd)) eNil))))) eNil))))) (op2 kAdd))) (sSeq (sSet 2 (eBin (eName 2) (eLst 3 (eThen (eTup 3 (eThen (ePush (.str "bequeath")) (eThen (eBin (eName 1) (ePush (.int 1)) (op2 kAdd)) (eThen (eThen (eLst 2 (eThen (eTup 1 (eThen (ePush (.str "up")) eNil)) (eThen (eTup 2 (eThen (ePush (.str "down")) (eThen (eThen (eName 1) eFrz) eNil))) eNil))) eFrz) eNil)))) (eThen (eTup 2 (eThen (ePush (.str "drop")) (eThen (eBin (eName 1) (ePush (.int 1)) (op2 kAdd)) eNil))) (eThen (eTup 2 (eThen (ePush (.str "drop")) (eThen (eBin (eName 1) (ePush (.int 2)) (op2 kAdd)) eNil))) eNil)))) (op2 kAdd))) (sSet 2 (eBin (eName 2) (eLst 1 (eThen (eTup 5 (eThen (ePush (.str "put")) (eThen (eBin (eName 1) (ePush (.int 1)) (op2 kAdd)) (eThen (ePush (.int 0)) (eThen (eThen (eName 1) eFrz) (eThen (eBin (eBin (eBin (eName 0) (ePush (.int 54)) (op2 kFdiv)) (ePush (.int 2)) (op2 kMod)) (ePush (.int 1)) (op2 kEq)) eNil)))))) eNil)) (op2 kAdd))))) sNil) ⟨laidS far many step ops e3 e5 e6 e7, []⟩ = .nx ⟨laidS far many step ops' e3 e5 e6 e7, []⟩ := by
  have e2 : kFdiv (.int far) (.int 9) = some (.int (far / 9)) := kFdiv_pos (by decide) (by decide)
  have e3' : kMod (.int (far / 9)) (.int 6) = some (.int (far / 9 % 6)) := kMod_pos (by decide)
  have e4 : kFdiv (.int far) (.int 54) = some (.int (far / 54)) := kFdiv_pos (by decide) (by decide)
  have e5' : kMod (.int (far / 54)) (.int 2) = some (.int (far / 54 % 2)) := kMod_pos (by decide)
  have z1 : (1 : Nat) ≤ sizeLine := by decide
  have z2 : (2 : Nat) ≤ sizeLine := by decide
  have z3 : (3 : Nat) ≤ sizeLine := by decide
  have z4 : (4 : Nat) ≤ sizeLine := by decide
  have z5 : (5 : Nat) ≤ sizeLine := by decide
  by_cases h : far / 9 % 6 = 2
  · obtain ⟨c', hre, _, _⟩ := ring_end (h := decide (far / 54 % 2 = 1)) R h0 (hm h).1 (hm h).2
    rw [h] at e3'
    obtain ⟨u1, hu1⟩ : ∃ u, u = [Op.make 1, .make 2, .make 1, .pair many (many + 1) (many + 2)] := ⟨_, rfl⟩
    obtain ⟨u2, hu2⟩ : ∃ u, u = [Op.will (many + 1) [.up, .down many], .drop (many + 1), .drop (many + 2)] := ⟨_, rfl⟩
    obtain ⟨u3, hu3⟩ : ∃ u, u = [Op.put (many + 1) 0 many (decide (far / 54 % 2 = 1))] := ⟨_, rfl⟩
    have l1 : u1.length = 4 := by rw [hu1]; rfl
    have l2 : u2.length = 3 := by rw [hu2]; rfl
    have l3 : u3.length = 1 := by rw [hu3]; rfl
    have k1 := add_ops (ops := ops) (us := u1) (by omega)
    have k2 := add_ops (ops := ops ++ u1) (us := u2) (by rw [List.length_append]; omega)
    have k3 := add_ops (ops := ops ++ u1 ++ u2) (us := u3) (by rw [List.length_append, List.length_append]; omega)
    rw [← hu1, ← hu2, ← hu3] at hre
    refine ⟨ops ++ u1 ++ u2 ++ u3, c', ?_, by rw [List.length_append, List.length_append, List.length_append]; omega, ?_⟩
    · rw [List.append_assoc, List.append_assoc, runL_app, hr]
      show runL c (u1 ++ (u2 ++ u3)) = _
      rw [← List.append_assoc]; exact hre
    · have g1 : u1.map opT = [.tup [.str "make", .int 1], .tup [.str "make", .int 2], .tup [.str "make", .int 1], .tup [.str "pair", .int many, .int (many + 1), .int (many + 2)]] := by rw [hu1]; rfl
      have g2 : u2.map opT = [.tup [.str "bequeath", .int (many + 1), .lst .fz [.tup [.str "up"], .tup [.str "down", .int many]]], .tup [.str "drop", .int (many + 1)], .tup [.str "drop", .int (many + 2)]] := by rw [hu2]; rfl
      have g3 : u3.map opT = [.tup [.str "put", .int (many + 1), .int 0, .int many, .bl (decide (far / 54 % 2 = 1))]] := by rw [hu3]; rfl
      generalize (ops ++ u1 ++ u2 ++ u3) = o3 at *
      generalize (ops ++ u1 ++ u2) = o2 at *
      generalize (ops ++ u1) = o1 at *
      rw [g1] at k1
      rw [g2] at k2
      rw [g3] at k3
      clear hu1 hu2 hu3 l1 l2 l3 g1 g2 g3 hl h hm hr R hre h0
      unfold laidS
      rcases h3 with rfl | ⟨i3, rfl⟩ <;> rcases h5 with rfl | ⟨i5, rfl⟩ <;> rcases h6 with rfl | ⟨i6, rfl⟩ <;> rcases h7 with rfl | ⟨i7, rfl⟩ <;> wtm_at "V.run"
  · refine ⟨ops, c, hr, by omega, ?_⟩
    clear hr hl R hm
    generalize far / 9 % 6 = w at *
    unfold laidS
    wtm_at "V.run"
theorem laid5_ok {far : Int} : ∃ (ops : List Op) (c : CS), runL CS.nil ops = some c ∧ ops.length ≤ 320 ∧ Ff_law_laid [.int far] = .ok (.lst .mu (ops.map opT)) [.int far] := by
  obtain ⟨many, hm, h60, h11, e1⟩ := laid5_many (far := far) (rest := (sSeq (sSet 2 (eLc1 (eName 1) (gSlot 3) bYes (eTup 2 (eThen (ePush (.str "make")) (eThen (ePush (.int 3)) eNil))) [3])) (sSeq (sSet 4 (eBin (eLst 4 (eThen (ePush (.int 1)) (eThen (eThen (ePush (.int 1)) (op1 kNeg)) (eThen (ePush (.int 2)) (eThen (eBin (eName 1) (ePush (.int 1)) (op2 kSub)) eNil))))) (eBin (eBin (eName 0) (ePush (.int 54)) (op2 kFdiv)) (ePush (.int 4)) (op2 kMod)) eIx)) (sSeq (sFor1 (eName 1) (gSlot 3) (sSeq (sSet 5 (eBin (eBin (eName 3) (eName 4) (op2 kAdd)) (eName 1) (op2 kMod))) (sSeq (sSet 6 (eCall 3 Ff_law_mixed (eThen (eName 0) (eThen (eName 3) (eThen (ePush (.int 5)) eNil))))) (sSeq (sIf (tVal (eBin (eName 6) (ePush (.int 1)) (op2 kEq))) (sExpr (eMeth isLst (eName 2) (eThen (eThen (eTup 4 (eThen (ePush (.str "pair")) (eThen (eBin (eCall 3 Ff_law_mixed (eThen (eName 0) (eThen (eBin (eName 3) (ePush (.int 1)) (op2 kAdd)) (eThen (ePush (.int 2)) eNil)))) (eBin (eName 1) (ePush (.int 1)) (op2 kSub)) (op2 kMul)) (eThen (eThen (eName 3) eFrz) (eThen (eThen (eName 5) eFrz) eNil))))) eFrz) eNil) eAppend)) (sExpr (eMeth isLst (eName 2) (eThen (eThen (eTup 5 (eThen (ePush (.str "put")) (eThen (eThen (eName 3) eFrz) (eThen (eCall 3 Ff_law_mixed (eThen (eName 0) (eThen (eBin (eName 3) (ePush (.int 2)) (op2 kAdd)) (eThen (ePush (.int 3)) eNil)))) (eThen (eThen (eName 5) eFrz) (eThen (eBin (eName 6) (ePush (.int 0)) (op2 kGt)) eNil)))))) eFrz) eNil) eAppend))) (sIf (tVal (eBin (eCall 3 Ff_law_mixed (eThen (eName 0) (eThen (eBin (eName 3) (ePush (.int 3)) (op2 kAdd)) (eThen (ePush (.int 2)) eNil)))) (ePush (.int 1)) (op2 kEq))) (sSeq (sSet 7 (eBin (eLst 3 (eThen (eLst 1 (eThen (eTup 4 (eThen (ePush (.str "hang")) (eThen (eBin (eBin (eName 3) (ePush (.int 2)) (op2 kAdd)) (eName 1) (op2 kMod)) (eThen (ePush (.int 0)) (eThen (eBin (eName 6) (ePush (.int 1)) (op2 kGt)) eNil))))) eNil)) (eThen (eLst 1 (eThen (eTup 1 (eThen (ePush (.str "up")) eNil)) eNil)) (eThen (eLst 1 (eThen (eTup 2 (eThen (ePush (.str "down")) (eThen (ePush (.int 0)) eNil))) eNil)) eNil)))) (eBin (eName 6) (ePush (.int 3)) (op2 kMod)) eIx)) (sExpr (eMeth isLst (eName 2) (eThen (eThen (eTup 3 (eThen (ePush (.str "bequeath")) (eThen (eThen (eName 3) eFrz) (eThen (eThen (eName 7) eFrz) eNil)))) eFrz) eNil) eAppend))) sNil))))) (sSeq (sFor1 (eName 1) (gSlot 3) (sIf (tVal (eBin (eCall 3 Ff_law_mixed (eThen (eName 0) (eThen (eBin (eName 3) (ePush (.int 4)) (op2 kAdd)) (eThen (ePush (.int 6)) eNil)))) (ePush (.int 0)) (op2 kGt))) (sExpr (eMeth isLst (eName 2) (eThen (eThen (eTup 2 (eThen (ePush (.str "drop")) (eThen (eThen (eName 3) eFrz) eNil))) eFrz) eNil) eAppend)) sNil)) (sSeq (sIf (tVal (eBin (eBin (eBin (eName 0) (ePush (.int 9)) (op2 kFdiv)) (ePush (.int 6)) (op2 kMod)) (ePush (.int 2)) (op2 kEq))) (sSeq (sSet 2 (eBin (eName 2) (eLst 4 (eThen (eTup 2 (eThen (ePush (.str "make")) (eThen (ePush (.int 1)) eNil))) (eThen (eTup 2 (eThen (ePush (.str "make")) (eThen (ePush (.int 2)) eNil))) (eThen (eTup 2 (eThen (ePush (.str "make")) (eThen (ePush (.int 1)) eNil))) (eThen (eTup 4 (eThen (ePush (.str "pair")) (eThen (eThen (eName 1) eFrz) (eThen (eBin (eName 1) (ePush (.int 1)) (op2 kAdd)) (eThen (eBin (eName 1) (ePush (.int 2)) (op2 kAdd)) eNil))))) eNil))))) (op2 kAdd))) (sSeq (sSet 2 (eBin (eName 2) (eLst 3 (eThen (eTup 3 (eThen (ePush (.str "bequeath")) (eThen (eBin (eName 1) (ePush (.int 1)) (op2 kAdd)) (eThen (eThen (eLst 2 (eThen (eTup 1 (eThen (ePush (.str "up")) eNil)) (eThen (eTup 2 (eThen (ePush (.str "down")) (eThen (eThen (eName 1) eFrz) eNil))) eNil))) eFrz) eNil)))) (eThen (eTup 2 (eThen (ePush (.str "drop")) (eThen (eBin (eName 1) (ePush (.int 1)) (op2 kAdd)) eNil))) (eThen (eTup 2 (eThen (ePush (.str "drop")) (eThen (eBin (eName 1) (ePush (.int 2)) (op2 kAdd)) eNil))) eNil)))) (op2 kAdd))) (sSet 2 (eBin (eName 2) (eLst 1 (eThen (eTup 5 (eThen (ePush (.str "put")) (eThen (eBin (eName 1) (ePush (.int 1)) (op2 kAdd)) (eThen (ePush (.int 0)) (eThen (eThen (eName 1) eFrz) (eThen (eBin (eBin (eBin (eName 0) (ePush (.int 54)) (op2 kFdiv)) (ePush (.int 2)) (op2 kMod)) (ePush (.int 1)) (op2 kEq)) eNil)))))) eNil)) (op2 kAdd))))) sNil) (sRet (eThen (eName 2) eMov))))))))
  have e2 := laid_lc (far := far) hm h60
  obtain ⟨c0, hr0, R0⟩ := ring_start many.toNat (by omega)
  have hrl : ((List.range many.toNat).map fun _ => Op.make 3).length ≤ 60 := by
    rw [List.length_map, List.length_range]; omega
  rw [show ((many.toNat : Nat) : Int) = many by omega] at R0
  generalize ((List.range many.toNat).map fun _ => Op.make 3) = o0 at *
  obtain ⟨step, e3⟩ := laid_step (far := far) (many := many) (l := .lst .mu (o0.map opT)) rfl
  obtain ⟨sl1, e4, p1⟩ := laid5_loop1 (far := far) (step := step) hm h60 hr0 R0 hrl
  obtain ⟨sl2, e5, p2⟩ := laid5_loop2 hm h60 p1
  obtain ⟨ops, c, q3, q5, q6, q7, hr, R, hl, h3, h5, h6, h7, rfl⟩ := p2
  obtain ⟨ops', c', s1, s2, e6⟩ := laid5_end (far := far) (many := many) (step := step) h3 h5 h6 h7 hr R (by omega) (fun z => ⟨h11 z, by have := h11 z; omega⟩) (by omega)
  refine ⟨ops', c', s1, s2, ?_⟩
  have e7 : (sRet (eThen (eName 2) eMov)) ⟨laidS far many step ops' q3 q5 q6 q7, []⟩ = .rt ⟨[.own (.int far), .own (.int many), .emp, q3, .own (.int step), q5, q6, q7], [.own (.lst .mu (ops'.map opT))]⟩ := by
    clear hl s1 s2 hr R R0 hr0 p1
    unfold laidS
    rcases h3 with rfl | ⟨i3, rfl⟩ <;> rcases h5 with rfl | ⟨i5, rfl⟩ <;> rcases h6 with rfl | ⟨i6, rfl⟩ <;> rcases h7 with rfl | ⟨i7, rfl⟩ <;> wtm_at "V.run"
  have e : cdf_law_laid ⟨[.own (.int far), .emp, .emp, .emp, .emp, .emp, .emp, .emp], []⟩ = .rt ⟨[.own (.int far), .own (.int many), .emp, q3, .own (.int step), q5, q6, q7], [.own (.lst .mu (ops'.map opT))]⟩ :=
    e1.trans ((seq_nx e2).trans ((seq_nx e3).trans ((seq_nx e4).trans ((seq_nx e5).trans ((seq_nx e6).trans e7)))))
  unfold Ff_law_laid runDef
  show (match cdf_law_laid ⟨[.own (.int far), .emp, .emp, .emp, .emp, .emp, .emp, .emp], []⟩ with | .nx δ => FR.ok .non (outsOf [.int far] δ.sl) | .rt δ => (match δ.st with | .own t :: _ => .ok t (outsOf [.int far] δ.sl) | _ => .no) | .ex C sl => .ex C (outsOf [.int far] sl) | _ => .no) = _
  rw [e]
  rfl

/-! drawn wills -/
abbrev wfS (l : List Int) (cell co : Int) (ds : List Deed) (e4 e5 e6 : Ent) : List Ent := [.own (.lst .mu (l.map .int)), .own (.int cell), .own (.int co), .own (.lst .mu (ds.map deedT)), e4, e5, e6]
section
variable {l : List Int} {cell co : Int} {ds : List Deed} {e4 e5 e6 : Ent} {j : Nat}
theorem wf_fe (hl : l ≠ []) : ∃ n : Int, 0 ≤ n ∧ n ≤ 9 ∧ (eBin (eLst 7 (eThen (ePush (.int 1)) (eThen (ePush (.int 1)) (eThen (ePush (.int 2)) (eThen (ePush (.int 3)) (eThen (ePush (.int 9)) (eThen (ePush (.int 2)) (eThen (ePush (.int 1)) eNil)))))))) (eCall 3 Ff_law_mixed (eThen (eName 1) (eThen (ePush (.int 1)) (eThen (ePush (.int 7)) eNil)))) eIx) ⟨wfS l cell co [] .emp .emp .emp, []⟩ = .ok ⟨wfS l cell co [] .emp .emp .emp, [.own (.int n)]⟩ := by
  have e1 := mixed_ok (c := cell) (k := 1) (m := 7) (by decide) (by decide)
  have e2 : (7 : Nat) ≤ sizeLine := by decide
  rcases seven (mixF_bd (c := cell) (k := 1) (m := 7) (by decide)) with h | h | h | h | h | h | h <;> rw [h] at e1 <;> clear h
  · exact ⟨1, by decide, by decide, by wtm_at "V.run"⟩
  · exact ⟨1, by decide, by decide, by wtm_at "V.run"⟩
  · exact ⟨2, by decide, by decide, by wtm_at "V.run"⟩
  · exact ⟨3, by decide, by decide, by wtm_at "V.run"⟩
  · exact ⟨9, by decide, by decide, by wtm_at "V.run"⟩
  · exact ⟨2, by decide, by decide, by wtm_at "V.run"⟩
  · exact ⟨1, by decide, by decide, by wtm_at "V.run"⟩
theorem wf_0 (hl : l ≠ []) (h0 : ∀ x ∈ l, 0 ≤ x) (h5 : In5 e5) (h6 : In5 e6) : ∃ v : Int, 0 ≤ v ∧ (sSet 5 (eBin (eName 0) (eCall 3 Ff_law_mixed (eThen (eBin (eName 1) (eName 4) (op2 kAdd)) (eThen (ePush (.int 2)) (eThen (eThen (eThen (eName 0) eNil) (op1 kLen)) eNil)))) eIx)) ⟨wfS l cell co ds (.own (.int j)) e5 e6, []⟩ = .nx ⟨wfS l cell co ds (.own (.int j)) (.own (.int v)) e6, []⟩ := by
  have hp : 0 < l.length := List.length_pos_iff.mpr hl
  have hpi : (0 : Int) < (l.length : Int) := by omega
  have m2 := mixed_ok (c := cell + (j : Int)) (k := 2) (m := (l.length : Int)) (by decide) hpi
  have hb := mixF_bd (c := cell + (j : Int)) (k := 2) (m := (l.length : Int)) hpi
  have hlt : (mixF (cell + (j : Int)) 2 (l.length : Int)).toNat < l.length := by omega
  have e9 := ixN_in (n := l.length) hb.1 hb.2
  have e10 := int_at hlt
  have hv := h0 _ (List.getElem_mem hlt)
  generalize mixF (cell + (j : Int)) 2 (l.length : Int) = ix at *
  generalize l[ix.toNat] = v at *
  refine ⟨v, hv, ?_⟩
  clear hp hpi hb hlt hv h0 hl
  rcases h5 with rfl | ⟨i5, rfl⟩ <;> rcases h6 with rfl | ⟨i6, rfl⟩ <;> wtm_at "V.run"
theorem wf_1 {v : Int} (hv : 0 ≤ v) (hc : 0 ≤ co) (h6 : In5 e6) : ∃ v' : Int, 0 ≤ v' ∧ (sIf (tVal (eBin (eCall 3 Ff_law_mixed (eThen (eBin (eName 1) (eName 4) (op2 kAdd)) (eThen (ePush (.int 3)) (eThen (ePush (.int 9)) eNil)))) (ePush (.int 1)) (op2 kEq))) (sSet 5 (eBin (eLst 3 (eThen (eThen (eName 2) eFrz) (eThen (eBin (eName 2) (ePush (.int 7)) (op2 kAdd)) (eThen (ePush (.int 999999)) eNil)))) (eCall 3 Ff_law_mixed (eThen (eBin (eName 1) (eName 4) (op2 kAdd)) (eThen (ePush (.int 4)) (eThen (ePush (.int 3)) eNil)))) eIx)) sNil) ⟨wfS l cell co ds (.own (.int j)) (.own (.int v)) e6, []⟩ = .nx ⟨wfS l cell co ds (.own (.int j)) (.own (.int v')) e6, []⟩ := by
  have m3 := mixed_ok (c := cell + (j : Int)) (k := 3) (m := 9) (by decide) (by decide)
  have m4 := mixed_ok (c := cell + (j : Int)) (k := 4) (m := 3) (by decide) (by decide)
  have h3 := three (mixF_bd (c := cell + (j : Int)) (k := 4) (m := 3) (by decide))
  have z3 : (3 : Nat) ≤ sizeLine := by decide
  by_cases h : mixF (cell + (j : Int)) 3 9 = 1
  · rw [h] at m3
    clear h
    rcases h3 with h | h | h <;> rw [h] at m4 <;> clear h
    · exact ⟨co, hc, by clear hv hc; rcases h6 with rfl | ⟨i6, rfl⟩ <;> wtm_at "V.run"⟩
    · exact ⟨co + 7, by omega, by clear hv hc; rcases h6 with rfl | ⟨i6, rfl⟩ <;> wtm_at "V.run"⟩
    · exact ⟨999999, by decide, by clear hv hc; rcases h6 with rfl | ⟨i6, rfl⟩ <;> wtm_at "V.run"⟩
  · refine ⟨v, hv, ?_⟩
    clear hv hc m4 h3
    generalize mixF (cell + (j : Int)) 3 9 = w at *
    rcases h6 with rfl | ⟨i6, rfl⟩ <;> wtm_at "V.run"
theorem wf_2 {v : Int} (h6 : In5 e6) : (sSet 6 (eCall 3 Ff_law_mixed (eThen (eBin (eName 1) (eName 4) (op2 kAdd)) (eThen (ePush (.int 5)) (eThen (ePush (.int 10)) eNil))))) ⟨wfS l cell co ds (.own (.int j)) (.own (.int v)) e6, []⟩ = .nx ⟨wfS l cell co ds (.own (.int j)) (.own (.int v)) (.own (.int (mixF (cell + (j : Int)) 5 10))), []⟩ := by
  have m5 := mixed_ok (c := cell + (j : Int)) (k := 5) (m := 10) (by decide) (by decide)
  rcases h6 with rfl | ⟨i6, rfl⟩ <;> wtm_at "V.run"
theorem wf_3 {v w : Int} (hv : 0 ≤ v) (hl : ds.length < lineA) : ∃ d : Deed, d.ok = true ∧ (sIf (tVal (eBin (eName 6) (ePush (.int 3)) (op2 kLt))) (sExpr (eMeth isLst (eName 3) (eThen (eThen (eTup 1 (eThen (ePush (.str "up")) eNil)) eFrz) eNil) eAppend)) (sIf (tVal (eBin (eName 6) (ePush (.int 5)) (op2 kLt))) (sExpr (eMeth isLst (eName 3) (eThen (eThen (eTup 2 (eThen (ePush (.str "down")) (eThen (eThen (eName 5) eFrz) eNil))) eFrz) eNil) eAppend)) (sExpr (eMeth isLst (eName 3) (eThen (eThen (eTup 4 (eThen (ePush (.str "hang")) (eThen (eThen (eName 5) eFrz) (eThen (eCall 3 Ff_law_mixed (eThen (eBin (eName 1) (eName 4) (op2 kAdd)) (eThen (ePush (.int 6)) (eThen (ePush (.int 4)) eNil)))) (eThen (eBin (eName 6) (ePush (.int 8)) (op2 kLt)) eNil))))) eFrz) eNil) eAppend)))) ⟨wfS l cell co ds (.own (.int j)) (.own (.int v)) (.own (.int w)), []⟩ = .nx ⟨wfS l cell co (ds ++ [d]) (.own (.int j)) (.own (.int v)) (.own (.int w)), []⟩ := by
  have key : ∀ d : Deed, ds.map deedT ++ [deedT d] = (ds ++ [d]).map deedT := fun d => by rw [List.map_append]; rfl
  have s1 : (1 : Nat) ≤ sizeLine := by decide
  have s2 : (2 : Nat) ≤ sizeLine := by decide
  have s4 : (4 : Nat) ≤ sizeLine := by decide
  unfold wfS
  by_cases h3 : w < 3
  · refine ⟨.up, rfl, ?_⟩
    have k1 := key .up
    rw [← k1]
    clear key k1 hv
    simp only [deedT]
    wtm_at "V.run"
  · by_cases h5 : w < 5
    · refine ⟨.down v, by simp [Deed.ok, hv], ?_⟩
      have k1 := key (.down v)
      rw [← k1]
      clear key k1 hv
      simp only [deedT]
      wtm_at "V.run"
    · have m6 := mixed_ok (c := cell + (j : Int)) (k := 6) (m := 4) (by decide) (by decide)
      have b6 := mixF_bd (c := cell + (j : Int)) (k := 6) (m := 4) (by decide)
      refine ⟨.hang v (mixF (cell + (j : Int)) 6 4) (decide (w < 8)), by simp [Deed.ok, hv, b6.1], ?_⟩
      have k1 := key (.hang v (mixF (cell + (j : Int)) 6 4) (decide (w < 8)))
      rw [← k1]
      clear key k1 hv b6
      simp only [deedT]
      wtm_at "V.run"
end
theorem will5_ok {l : List Int} {cell co : Int} (hl : l ≠ []) (h0 : ∀ x ∈ l, 0 ≤ x) (hc : 0 ≤ co) : ∃ ds : List Deed, ds.length ≤ 9 ∧ ds.all Deed.ok = true ∧ Ff_law_will_of [.lst .mu (l.map T.int), .int cell, .int co] = .ok (.lst .mu (ds.map deedT)) [.lst .mu (l.map T.int), .int cell, .int co] := by
  obtain ⟨n, n0, n9, hfe⟩ := wf_fe (cell := cell) (co := co) hl
  have hh : ∃ sl', lp_will_of_0 ⟨wfS l cell co [] .emp .emp .emp, []⟩ = .nx ⟨sl', []⟩ ∧ ∃ (ds : List Deed) (e4 e5 e6 : Ent), ds.length ≤ n.toNat ∧ ds.all Deed.ok = true ∧ In5 e4 ∧ In5 e5 ∧ In5 e6 ∧ sl' = wfS l cell co ds e4 e5 e6 := by
    refine sFor1_slot (i := n) (fun j sl => ∃ (ds : List Deed) (e4 e5 e6 : Ent), ds.length ≤ j ∧ ds.all Deed.ok = true ∧ In5 e4 ∧ In5 e5 ∧ In5 e6 ∧ sl = wfS l cell co ds e4 e5 e6) hfe n0 (by omega) ⟨[], .emp, .emp, .emp, Nat.le_refl _, rfl, In5.emp, In5.emp, In5.emp, rfl⟩ fun j sl hj hP => ?_
    obtain ⟨ds, e4, e5, e6, hd, hk, h4, h5, h6, rfl⟩ := hP
    have hA : ds.length < lineA := by
      have : lineA = 1000000 := rfl
      omega
    refine ⟨by simp [noal_own, noal_emp, h4.noal, h5.noal, h6.noal], ?_⟩
    obtain ⟨v, v0, g0⟩ := wf_0 (cell := cell) (co := co) (ds := ds) (j := j) hl h0 h5 h6
    obtain ⟨v', v1, g1⟩ := wf_1 (l := l) (cell := cell) (ds := ds) (j := j) v0 hc h6
    have g2 := wf_2 (l := l) (cell := cell) (co := co) (ds := ds) (j := j) (v := v') h6
    obtain ⟨d, hdk, g3⟩ := wf_3 (l := l) (cell := cell) (co := co) (j := j) (w := mixF (cell + (j : Int)) 5 10) v1 hA
    exact ⟨_, (seq_nx g0).trans ((seq_nx g1).trans ((seq_nx g2).trans g3)), ds ++ [d], _, _, _, by rw [List.length_append]; simp; omega, by rw [List.all_append, hk]; simp [hdk], In5.int, In5.int, In5.int, rfl⟩
  obtain ⟨sl', e1, ds, e4, e5, e6, hd, hk, h4, h5, h6, rfl⟩ := hh
  refine ⟨ds, by omega, hk, ?_⟩
  have z0 : (0 : Nat) ≤ sizeLine := by decide
  clear hd hk hl h0 hc n0 n9 hfe
  unfold wfS at e1
  simp only [List.map_nil] at e1
  unfold Ff_law_will_of
  rcases h4 with rfl | ⟨i4, rfl⟩ <;> rcases h5 with rfl | ⟨i5, rfl⟩ <;> rcases h6 with rfl | ⟨i6, rfl⟩ <;> wtm_at "V.run"

/-! drawn deeds -/
theorem pick_ok {l : List Int} {cell k : Int} (hl : l ≠ []) (hk : 0 ≤ k) : ∃ (ix x : Int), x ∈ l ∧ Ff_law_mixed [.int cell, .int k, .int (l.length : Int)] = .ok (.int ix) [.int cell, .int k, .int (l.length : Int)] ∧ ixN l.length ix = some ix.toNat ∧ (l.map T.int)[ix.toNat]? = some (.int x) := by
  have hp : 0 < l.length := List.length_pos_iff.mpr hl
  have hpi : (0 : Int) < (l.length : Int) := by omega
  have hb := mixF_bd (c := cell) (k := k) (m := (l.length : Int)) hpi
  have hlt : (mixF cell k (l.length : Int)).toNat < l.length := by omega
  exact ⟨_, _, List.getElem_mem hlt, mixed_ok hk hpi, ixN_in hb.1 hb.2, int_at hlt⟩
theorem seq_rt {a b : SF} {δ δ' : En} (h : a δ = .rt δ') : sSeq a b δ = .rt δ' := by rw [ap_sSeq, h]; rfl
abbrev dbS (cell : Int) (c : CS) (l h p : List Int) (way : Int) (e6 e7 e8 : Ent) : List Ent := [.own (.int cell), .own (worldT c), .own (.lst .mu (l.map .int)), .own (.lst .mu (h.map .int)), .own (.lst .mu (p.map .int)), .own (.int way), e6, e7, e8]
theorem db_pre {c : CS} {cell : Int} {rest : SF} (W : c.wf) : (sSeq (sIf (tTru (eThen (eThen (eName 0) (eThen (ePush (.ty "tuple")) eNil)) (op2 kIsi))) (sRet (eThen (eName 0) eMov)) sNil) (sSeq (sSet 2 (eThen (eThen (eBin (eName 1) (ePush (.int 0)) eIx) eNil) (op1 kSorted))) (sSeq (sSet 3 (eThen (eThen (eBin (eName 1) (ePush (.int 1)) eIx) eNil) (op1 kSorted))) (sSeq (sSet 4 (eThen (eThen (eBin (eName 1) (ePush (.int 2)) eIx) eNil) (op1 kSorted))) (sSeq (sSet 5 (eCall 3 Ff_law_mixed (eThen (eName 0) (eThen (ePush (.int 9)) (eThen (ePush (.int 25)) eNil))))) rest))))) ⟨[.own (.int cell), .own (worldT c), .emp, .emp, .emp, .emp, .emp, .emp, .emp], []⟩ = rest ⟨dbS cell c (srt (c.slots.map (·.1))) (srt (c.held.map (·.1))) (srt (c.paired.map (·.1))) (mixF cell 9 25) .emp .emp .emp, []⟩ := by
  have q0 := @isi_it
  have e0 := sort_slots (c := c) (Nat.lt_of_le_of_lt W.sl (by decide))
  have e1 := sort_held (c := c) (Nat.lt_of_le_of_lt W.hl (by decide))
  have e2 := sort_paired (c := c) (Nat.lt_of_le_of_lt W.pl (by decide))
  have e3 := mixed_ok (c := cell) (k := 9) (m := 25) (by decide) (by decide)
  have h0 := Nat.lt_of_le_of_lt W.sl (show 60 < 64 by decide)
  have h1 := Nat.lt_of_le_of_lt W.hl (show 60 < 64 by decide)
  have h2 := Nat.lt_of_le_of_lt W.pl (show 60 < 64 by decide)
  clear W
  unfold worldT slotsD heldD pairD
  wtm_at "V.run"
  rfl
section
variable {c : CS} {cell way : Int} {l h p : List Int}
theorem db_5 {rest : SF} (hx : (l.length : Int) < 2 ∨ (way < 4 ∧ (l.length : Int) < 60)) : ∃ z : Int, 0 ≤ z ∧ z ≤ 9 ∧ sSeq (sIf (tOr (tVal (eBin (eThen (eThen (eName 2) eNil) (op1 kLen)) (ePush (.int 2)) (op2 kLt))) (tAnd (tVal (eBin (eName 5) (ePush (.int 4)) (op2 kLt))) (tVal (eBin (eThen (eThen (eName 2) eNil) (op1 kLen)) (ePush (.int 60)) (op2 kLt))))) (sRet (eTup 2 (eThen (ePush (.str "make")) (eThen (eBin (eLst 8 (eThen (ePush (.int 1)) (eThen (ePush (.int 2)) (eThen (ePush (.int 3)) (eThen (ePush (.int 2)) (eThen (ePush (.int 1)) (eThen (ePush (.int 9)) (eThen (ePush (.int 0)) (eThen (ePush (.int 4)) eNil))))))))) (eCall 3 Ff_law_mixed (eThen (eName 0) (eThen (ePush (.int 4)) (eThen (ePush (.int 8)) eNil)))) eIx) eNil)))) sNil) rest ⟨dbS cell c l h p way .emp .emp .emp, []⟩ = .rt ⟨dbS cell c l h p way .emp .emp .emp, [.own (opT (.make z))]⟩ := by
  have m4 := mixed_ok (c := cell) (k := 4) (m := 8) (by decide) (by decide)
  have b4 := mixF_bd (c := cell) (k := 4) (m := 8) (by decide)
  have z8 : (8 : Nat) ≤ sizeLine := by decide
  have z2 : (2 : Nat) ≤ sizeLine := by decide
  generalize mixF cell 4 8 = x4 at *
  have i1 : ixN 8 x4 = some x4.toNat := ixN_in b4.1 b4.2
  obtain ⟨z, zm, i2⟩ : ∃ z : Int, z ∈ [1, 2, 3, 2, 1, 9, 0, 4] ∧ ([1, 2, 3, 2, 1, 9, 0, 4].map T.int)[x4.toNat]? = some (.int z) := ⟨_, List.getElem_mem (h := by show _ < 8; omega), int_at (by show _ < 8; omega)⟩
  simp only [List.map_cons, List.map_nil] at i2
  have hz : 0 ≤ z ∧ z ≤ 9 := by
    simp only [List.mem_cons, List.not_mem_nil, or_false] at zm
    omega
  refine ⟨z, hz.1, hz.2, seq_rt ?_⟩
  clear zm hz b4
  unfold opT
  by_cases h2 : (l.length : Int) < 2
  · have h2' := eq_true h2
    clear hx h2
    wtm_at "V.run"
  · have h2' := eq_false h2
    have h4' := eq_true (hx.resolve_left h2).1
    have h6' := eq_true (hx.resolve_left h2).2
    clear hx h2
    wtm_at "V.run"
theorem db_5n (hx : ¬ ((l.length : Int) < 2 ∨ (way < 4 ∧ (l.length : Int) < 60))) : (sIf (tOr (tVal (eBin (eThen (eThen (eName 2) eNil) (op1 kLen)) (ePush (.int 2)) (op2 kLt))) (tAnd (tVal (eBin (eName 5) (ePush (.int 4)) (op2 kLt))) (tVal (eBin (eThen (eThen (eName 2) eNil) (op1 kLen)) (ePush (.int 60)) (op2 kLt))))) (sRet (eTup 2 (eThen (ePush (.str "make")) (eThen (eBin (eLst 8 (eThen (ePush (.int 1)) (eThen (ePush (.int 2)) (eThen (ePush (.int 3)) (eThen (ePush (.int 2)) (eThen (ePush (.int 1)) (eThen (ePush (.int 9)) (eThen (ePush (.int 0)) (eThen (ePush (.int 4)) eNil))))))))) (eCall 3 Ff_law_mixed (eThen (eName 0) (eThen (ePush (.int 4)) (eThen (ePush (.int 8)) eNil)))) eIx) eNil)))) sNil) ⟨dbS cell c l h p way .emp .emp .emp, []⟩ = .nx ⟨dbS cell c l h p way .emp .emp .emp, []⟩ := by
  have h2' : ((l.length : Int) < 2) = False := eq_false fun z => hx (.inl z)
  by_cases h4 : way < 4
  · have h6' : ((l.length : Int) < 60) = False := eq_false fun z => hx (.inr ⟨h4, z⟩)
    have h4' := eq_true h4
    clear hx h4
    wtm_at "V.run"
  · have h4' := eq_false h4
    clear hx h4
    wtm_at "V.run"
theorem db_6 (hl : l ≠ []) : ∃ b, b ∈ l ∧ (sSet 6 (eBin (eName 2) (eCall 3 Ff_law_mixed (eThen (eName 0) (eThen (ePush (.int 0)) (eThen (eThen (eThen (eName 2) eNil) (op1 kLen)) eNil)))) eIx)) ⟨dbS cell c l h p way .emp .emp .emp, []⟩ = .nx ⟨dbS cell c l h p way (.own (.int b)) .emp .emp, []⟩ := by
  obtain ⟨ix, x, hx, e1, e2, e3⟩ := pick_ok (cell := cell) (k := 0) hl (by decide)
  refine ⟨x, hx, ?_⟩
  clear hx hl
  wtm_at "V.run"
theorem db_7 {b : Int} (hl : l ≠ []) : ∃ o, o ∈ l ∧ (sSet 7 (eBin (eName 2) (eCall 3 Ff_law_mixed (eThen (eName 0) (eThen (ePush (.int 1)) (eThen (eThen (eThen (eName 2) eNil) (op1 kLen)) eNil)))) eIx)) ⟨dbS cell c l h p way (.own (.int b)) .emp .emp, []⟩ = .nx ⟨dbS cell c l h p way (.own (.int b)) (.own (.int o)) .emp, []⟩ := by
  obtain ⟨ix, x, hx, e1, e2, e3⟩ := pick_ok (cell := cell) (k := 1) hl (by decide)
  refine ⟨x, hx, ?_⟩
  clear hx hl
  wtm_at "V.run"
theorem db_8 {b o : Int} {xs} (hb : gGet c.slots b = some xs) : (sSet 8 (eThen (eThen (eBin (eBin (eName 1) (ePush (.int 0)) eIx) (eName 6) eIx) eNil) (op1 kLen))) ⟨dbS cell c l h p way (.own (.int b)) (.own (.int o)) .emp, []⟩ = .nx ⟨dbS cell c l h p way (.own (.int b)) (.own (.int o)) (.own (.int (xs.length : Int))), []⟩ := by
  unfold dbS worldT slotsD
  wtm_at "V.run"
theorem db_rest {b o : Int} {xs : List (Option (Int × Bool))} (W : c.wf) (hl : l = srt (c.slots.map (·.1))) (hh : h = srt (c.held.map (·.1))) (hp : p = srt (c.paired.map (·.1))) (hne : l ≠ []) (hbl : b ∈ l) (hol : o ∈ l) (hb : gGet c.slots b = some xs) : ∃ (op : Op) (v : Option Int) (c' : CS), c.act op = .yes v c' ∧ (sSeq (sIf (tAnd (tVal (eBin (eName 5) (ePush (.int 12)) (op2 kLt))) (tVal (eBin (eName 8) (ePush (.int 0)) (op2 kGt)))) (sRet (eTup 5 (eThen (ePush (.str "put")) (eThen (eThen (eName 6) eFrz) (eThen (eCall 3 Ff_law_mixed (eThen (eName 0) (eThen (ePush (.int 10)) (eThen (eName 8) eNil)))) (eThen (eThen (eName 7) eFrz) (eThen (eBin (eName 5) (ePush (.int 10)) (op2 kLt)) eNil))))))) sNil) (sSeq (sIf (tAnd (tVal (eBin (eName 5) (ePush (.int 12)) (op2 kEq))) (tVal (eBin (eName 8) (ePush (.int 0)) (op2 kGt)))) (sRet (eTup 3 (eThen (ePush (.str "empty")) (eThen (eThen (eName 6) eFrz) (eThen (eCall 3 Ff_law_mixed (eThen (eName 0) (eThen (ePush (.int 10)) (eThen (eName 8) eNil)))) eNil))))) sNil) (sSeq (sIf (tVal (eBin (eName 5) (ePush (.int 13)) (op2 kEq))) (sRet (eTup 2 (eThen (ePush (.str "take")) (eThen (eThen (eName 6) eFrz) eNil)))) sNil) (sSeq (sIf (tAnd (tVal (eBin (eName 5) (ePush (.int 18)) (op2 kLt))) (tVal (eBin (eThen (eThen (eName 3) eNil) (op1 kLen)) (ePush (.int 0)) (op2 kGt)))) (sRet (eTup 2 (eThen (ePush (.str "drop")) (eThen (eBin (eName 3) (eCall 3 Ff_law_mixed (eThen (eName 0) (eThen (ePush (.int 2)) (eThen (eThen (eThen (eName 3) eNil) (op1 kLen)) eNil)))) eIx) eNil)))) sNil) (sSeq (sIf (tAnd (tVal (eBin (eName 5) (ePush (.int 21)) (op2 kLt))) (tVal (eBin (eThen (eThen (eName 4) eNil) (op1 kLen)) (ePush (.int 60)) (op2 kLt)))) (sRet (eTup 4 (eThen (ePush (.str "pair")) (eThen (eThen (eName 6) eFrz) (eThen (eThen (eName 7) eFrz) (eThen (eBin (eName 2) (eCall 3 Ff_law_mixed (eThen (eName 0) (eThen (ePush (.int 3)) (eThen (eThen (eThen (eName 2) eNil) (op1 kLen)) eNil)))) eIx) eNil)))))) sNil) (sSeq (sIf (tAnd (tVal (eBin (eName 5) (ePush (.int 21)) (op2 kEq))) (tVal (eBin (eThen (eThen (eName 4) eNil) (op1 kLen)) (ePush (.int 0)) (op2 kGt)))) (sRet (eTup 2 (eThen (ePush (.str "unpair")) (eThen (eBin (eName 4) (eCall 3 Ff_law_mixed (eThen (eName 0) (eThen (ePush (.int 5)) (eThen (eThen (eThen (eName 4) eNil) (op1 kLen)) eNil)))) eIx) eNil)))) sNil) (sSeq (sIf (tVal (eBin (eName 5) (ePush (.int 22)) (op2 kEq))) (sRet (eTup 3 (eThen (ePush (.str "bequeath")) (eThen (eThen (eName 6) eFrz) (eThen (eThen (eLst 0 eNil) eFrz) eNil))))) sNil) (sRet (eTup 3 (eThen (ePush (.str "bequeath")) (eThen (eThen (eName 6) eFrz) (eThen (eThen (eCall 3 Ff_law_will_of (eThen (eName 2) (eThen (eName 0) (eThen (eBin (eBin (eName 1) (ePush (.int 4)) eIx) (ePush (.int 0)) eIx) eNil)))) eFrz) eNil)))))))))))) ⟨dbS cell c l h p way (.own (.int b)) (.own (.int o)) (.own (.int (xs.length : Int))), []⟩ = .rt ⟨dbS cell c l h p way (.own (.int b)) (.own (.int o)) (.own (.int (xs.length : Int))), [.own (opT op)]⟩ := by
  have inl : ∀ x, x ∈ l → (gGet c.slots x).isSome := fun x hx => gGet_mem.mpr (mem_srt.mp (by rw [← hl]; exact hx))
  have z5 : (5 : Nat) ≤ sizeLine := by decide
  have z4 : (4 : Nat) ≤ sizeLine := by decide
  have z3 : (3 : Nat) ≤ sizeLine := by decide
  have z2 : (2 : Nat) ≤ sizeLine := by decide
  have z0 : (0 : Nat) ≤ sizeLine := by decide
  -- put
  by_cases c9 : way < 12 ∧ 0 < xs.length
  · have hpi : (0 : Int) < (xs.length : Int) := by omega
    have m10 := mixed_ok (c := cell) (k := 10) (m := (xs.length : Int)) (by decide) hpi
    have b10 := mixF_bd (c := cell) (k := 10) (m := (xs.length : Int)) hpi
    refine ⟨.put b (mixF cell 10 (xs.length : Int)) o (decide (way < 10)), none, _, by simp only [CS.act, hb]; rw [if_pos b10, if_pos (inl o hol)], seq_rt ?_⟩
    have h1 := eq_true c9.1
    have h2 := eq_true hpi
    clear c9 hpi b10 inl hl hh hp hne W hbl hol hb
    unfold opT
    wtm_at "V.run"
  have n9 : (sIf (tAnd (tVal (eBin (eName 5) (ePush (.int 12)) (op2 kLt))) (tVal (eBin (eName 8) (ePush (.int 0)) (op2 kGt)))) (sRet (eTup 5 (eThen (ePush (.str "put")) (eThen (eThen (eName 6) eFrz) (eThen (eCall 3 Ff_law_mixed (eThen (eName 0) (eThen (ePush (.int 10)) (eThen (eName 8) eNil)))) (eThen (eThen (eName 7) eFrz) (eThen (eBin (eName 5) (ePush (.int 10)) (op2 kLt)) eNil))))))) sNil) ⟨dbS cell c l h p way (.own (.int b)) (.own (.int o)) (.own (.int (xs.length : Int))), []⟩ = .nx ⟨dbS cell c l h p way (.own (.int b)) (.own (.int o)) (.own (.int (xs.length : Int))), []⟩ := by
    by_cases h1 : way < 12
    · have h2 : ((0 : Int) < (xs.length : Int)) = False := eq_false fun z => c9 ⟨h1, by omega⟩
      have h1' := eq_true h1
      clear c9 inl hl hh hp hne W hbl hol hb h1
      wtm_at "V.run"
    · have h1' := eq_false h1
      clear c9 inl hl hh hp hne W hbl hol hb h1
      wtm_at "V.run"
  -- empty
  by_cases c10 : way = 12 ∧ 0 < xs.length
  · have hpi : (0 : Int) < (xs.length : Int) := by omega
    have m10 := mixed_ok (c := cell) (k := 10) (m := (xs.length : Int)) (by decide) hpi
    have b10 := mixF_bd (c := cell) (k := 10) (m := (xs.length : Int)) hpi
    refine ⟨.empty b (mixF cell 10 (xs.length : Int)), none, _, by simp only [CS.act, hb]; rw [if_pos b10], (seq_nx n9).trans (seq_rt ?_)⟩
    have h1 := eq_true c10.1
    have h2 := eq_true hpi
    clear c10 c9 n9 hpi b10 inl hl hh hp hne W hbl hol hb
    unfold opT
    wtm_at "V.run"
  have n10 : (sIf (tAnd (tVal (eBin (eName 5) (ePush (.int 12)) (op2 kEq))) (tVal (eBin (eName 8) (ePush (.int 0)) (op2 kGt)))) (sRet (eTup 3 (eThen (ePush (.str "empty")) (eThen (eThen (eName 6) eFrz) (eThen (eCall 3 Ff_law_mixed (eThen (eName 0) (eThen (ePush (.int 10)) (eThen (eName 8) eNil)))) eNil))))) sNil) ⟨dbS cell c l h p way (.own (.int b)) (.own (.int o)) (.own (.int (xs.length : Int))), []⟩ = .nx ⟨dbS cell c l h p way (.own (.int b)) (.own (.int o)) (.own (.int (xs.length : Int))), []⟩ := by
    by_cases h1 : way = 12
    · have h2 : ((0 : Int) < (xs.length : Int)) = False := eq_false fun z => c10 ⟨h1, by omega⟩
      have h1' := eq_true h1
      clear c10 c9 n9 inl hl hh hp hne W hbl hol hb h1
      wtm_at "V.run"
    · have h1' := eq_false h1
      clear c10 c9 n9 inl hl hh hp hne W hbl hol hb h1
      wtm_at "V.run"
  -- take
  by_cases c11 : way = 13
  · refine ⟨.take b, none, _, by simp only [CS.act]; rw [if_pos (inl b hbl)], (seq_nx n9).trans ((seq_nx n10).trans (seq_rt ?_))⟩
    have h1 := eq_true c11
    clear c11 c10 c9 n9 n10 inl hl hh hp hne W hbl hol hb
    unfold opT
    wtm_at "V.run"
  have n11 : (sIf (tVal (eBin (eName 5) (ePush (.int 13)) (op2 kEq))) (sRet (eTup 2 (eThen (ePush (.str "take")) (eThen (eThen (eName 6) eFrz) eNil)))) sNil) ⟨dbS cell c l h p way (.own (.int b)) (.own (.int o)) (.own (.int (xs.length : Int))), []⟩ = .nx ⟨dbS cell c l h p way (.own (.int b)) (.own (.int o)) (.own (.int (xs.length : Int))), []⟩ := by
    have h1 := eq_false c11
    clear c11 c10 c9 n9 n10 inl hl hh hp hne W hbl hol hb
    wtm_at "V.run"
  -- drop
  by_cases c12 : way < 18 ∧ 0 < h.length
  · obtain ⟨ix, x, hx, e1, e2, e3⟩ := pick_ok (l := h) (cell := cell) (k := 2) (List.length_pos_iff.mp c12.2) (by decide)
    have hxh : (gGet c.held x).isSome := gGet_mem.mpr (mem_srt.mp (by rw [← hh]; exact hx))
    obtain ⟨u, hu⟩ := isSome_ex hxh
    refine ⟨.drop x, none, _, by simp only [CS.act]; rw [if_pos (W.hs _ _ hu), if_pos hxh], (seq_nx n9).trans ((seq_nx n10).trans ((seq_nx n11).trans (seq_rt ?_)))⟩
    have h1 := eq_true c12.1
    have h2 : ((0 : Int) < (h.length : Int)) = True := eq_true (by omega)
    clear c12 c11 c10 c9 n9 n10 n11 inl hl hh hp hne W hbl hol hb hx hxh hu
    unfold opT
    wtm_at "V.run"
  have n12 : (sIf (tAnd (tVal (eBin (eName 5) (ePush (.int 18)) (op2 kLt))) (tVal (eBin (eThen (eThen (eName 3) eNil) (op1 kLen)) (ePush (.int 0)) (op2 kGt)))) (sRet (eTup 2 (eThen (ePush (.str "drop")) (eThen (eBin (eName 3) (eCall 3 Ff_law_mixed (eThen (eName 0) (eThen (ePush (.int 2)) (eThen (eThen (eThen (eName 3) eNil) (op1 kLen)) eNil)))) eIx) eNil)))) sNil) ⟨dbS cell c l h p way (.own (.int b)) (.own (.int o)) (.own (.int (xs.length : Int))), []⟩ = .nx ⟨dbS cell c l h p way (.own (.int b)) (.own (.int o)) (.own (.int (xs.length : Int))), []⟩ := by
    by_cases h1 : way < 18
    · have h2 : ((0 : Int) < (h.length : Int)) = False := eq_false fun z => c12 ⟨h1, by omega⟩
      have h1' := eq_true h1
      clear c12 c11 c10 c9 n9 n10 n11 inl hl hh hp hne W hbl hol hb h1
      wtm_at "V.run"
    · have h1' := eq_false h1
      clear c12 c11 c10 c9 n9 n10 n11 inl hl hh hp hne W hbl hol hb h1
      wtm_at "V.run"
  -- pair
  by_cases c13 : way < 21 ∧ (p.length : Int) < 60
  · obtain ⟨ix, x, hx, e1, e2, e3⟩ := pick_ok (l := l) (cell := cell) (k := 3) hne (by decide)
    have hpl : p.length = c.paired.length := by rw [hp, srt_length, List.length_map]
    refine ⟨.pair b o x, some c.nextp, _, by simp only [CS.act]; rw [if_pos ⟨inl b hbl, inl o hol, inl x hx⟩, if_neg (by omega)], (seq_nx n9).trans ((seq_nx n10).trans ((seq_nx n11).trans ((seq_nx n12).trans (seq_rt ?_))))⟩
    have h1 := eq_true c13.1
    have h2 := eq_true c13.2
    clear c13 c12 c11 c10 c9 n9 n10 n11 n12 inl hl hh hp hne W hbl hol hb hx hpl
    unfold opT
    wtm_at "V.run"
  have n13 : (sIf (tAnd (tVal (eBin (eName 5) (ePush (.int 21)) (op2 kLt))) (tVal (eBin (eThen (eThen (eName 4) eNil) (op1 kLen)) (ePush (.int 60)) (op2 kLt)))) (sRet (eTup 4 (eThen (ePush (.str "pair")) (eThen (eThen (eName 6) eFrz) (eThen (eThen (eName 7) eFrz) (eThen (eBin (eName 2) (eCall 3 Ff_law_mixed (eThen (eName 0) (eThen (ePush (.int 3)) (eThen (eThen (eThen (eName 2) eNil) (op1 kLen)) eNil)))) eIx) eNil)))))) sNil) ⟨dbS cell c l h p way (.own (.int b)) (.own (.int o)) (.own (.int (xs.length : Int))), []⟩ = .nx ⟨dbS cell c l h p way (.own (.int b)) (.own (.int o)) (.own (.int (xs.length : Int))), []⟩ := by
    by_cases h1 : way < 21
    · have h2 : ((p.length : Int) < 60) = False := eq_false fun z => c13 ⟨h1, z⟩
      have h1' := eq_true h1
      clear c13 c12 c11 c10 c9 n9 n10 n11 n12 inl hl hh hp hne W hbl hol hb h1
      wtm_at "V.run"
    · have h1' := eq_false h1
      clear c13 c12 c11 c10 c9 n9 n10 n11 n12 inl hl hh hp hne W hbl hol hb h1
      wtm_at "V.run"
  -- unpair
  by_cases c14 : way = 21 ∧ 0 < p.length
  · obtain ⟨ix, x, hx, e1, e2, e3⟩ := pick_ok (l := p) (cell := cell) (k := 5) (List.length_pos_iff.mp c14.2) (by decide)
    have hxh : (gGet c.paired x).isSome := gGet_mem.mpr (mem_srt.mp (by rw [← hp]; exact hx))
    refine ⟨.unpair x, none, _, by simp only [CS.act]; rw [if_pos hxh], (seq_nx n9).trans ((seq_nx n10).trans ((seq_nx n11).trans ((seq_nx n12).trans ((seq_nx n13).trans (seq_rt ?_)))))⟩
    have h1 := eq_true c14.1
    have h2 : ((0 : Int) < (p.length : Int)) = True := eq_true (by omega)
    clear c14 c13 c12 c11 c10 c9 n9 n10 n11 n12 n13 inl hl hh hp hne W hbl hol hb hx hxh
    unfold opT
    wtm_at "V.run"
  have n14 : (sIf (tAnd (tVal (eBin (eName 5) (ePush (.int 21)) (op2 kEq))) (tVal (eBin (eThen (eThen (eName 4) eNil) (op1 kLen)) (ePush (.int 0)) (op2 kGt)))) (sRet (eTup 2 (eThen (ePush (.str "unpair")) (eThen (eBin (eName 4) (eCall 3 Ff_law_mixed (eThen (eName 0) (eThen (ePush (.int 5)) (eThen (eThen (eThen (eName 4) eNil) (op1 kLen)) eNil)))) eIx) eNil)))) sNil) ⟨dbS cell c l h p way (.own (.int b)) (.own (.int o)) (.own (.int (xs.length : Int))), []⟩ = .nx ⟨dbS cell c l h p way (.own (.int b)) (.own (.int o)) (.own (.int (xs.length : Int))), []⟩ := by
    by_cases h1 : way = 21
    · have h2 : ((0 : Int) < (p.length : Int)) = False := eq_false fun z => c14 ⟨h1, by omega⟩
      have h1' := eq_true h1
      clear c14 c13 c12 c11 c10 c9 n9 n10 n11 n12 n13 inl hl hh hp hne W hbl hol hb h1
      wtm_at "V.run"
    · have h1' := eq_false h1
      clear c14 c13 c12 c11 c10 c9 n9 n10 n11 n12 n13 inl hl hh hp hne W hbl hol hb h1
      wtm_at "V.run"
  -- an empty will
  by_cases c15 : way = 22
  · refine ⟨.will b [], none, _, by simp only [CS.act]; rw [if_pos (inl b hbl), if_pos ⟨by decide, rfl⟩], (seq_nx n9).trans ((seq_nx n10).trans ((seq_nx n11).trans ((seq_nx n12).trans ((seq_nx n13).trans ((seq_nx n14).trans (seq_rt ?_))))))⟩
    have h1 := eq_true c15
    clear c15 c14 c13 c12 c11 c10 c9 n9 n10 n11 n12 n13 n14 inl hl hh hp hne W hbl hol hb
    unfold opT beqT
    simp only [List.map_nil]
    wtm_at "V.run"
  have n15 : (sIf (tVal (eBin (eName 5) (ePush (.int 22)) (op2 kEq))) (sRet (eTup 3 (eThen (ePush (.str "bequeath")) (eThen (eThen (eName 6) eFrz) (eThen (eThen (eLst 0 eNil) eFrz) eNil))))) sNil) ⟨dbS cell c l h p way (.own (.int b)) (.own (.int o)) (.own (.int (xs.length : Int))), []⟩ = .nx ⟨dbS cell c l h p way (.own (.int b)) (.own (.int o)) (.own (.int (xs.length : Int))), []⟩ := by
    have h1 := eq_false c15
    clear c15 c14 c13 c12 c11 c10 c9 n9 n10 n11 n12 n13 n14 inl hl hh hp hne W hbl hol hb
    wtm_at "V.run"
  obtain ⟨ds, hd, hk, e1⟩ := will5_ok (cell := cell) (co := c.coming) hne (fun x hx => by
    obtain ⟨ys, hy⟩ := isSome_ex (inl x hx)
    exact (W.kc _ _ hy).1) W.c0
  refine ⟨.will b ds, none, _, by simp only [CS.act]; rw [if_pos (inl b hbl), if_pos ⟨by omega, hk⟩], (seq_nx n9).trans ((seq_nx n10).trans ((seq_nx n11).trans ((seq_nx n12).trans ((seq_nx n13).trans ((seq_nx n14).trans ((seq_nx n15).trans ?_))))))⟩
  clear c15 c14 c13 c12 c11 c10 c9 n9 n10 n11 n12 n13 n14 n15 inl hl hh hp hne W hbl hol hb hd hk
  unfold opT beqT
  wtm_at "V.run"
end
theorem deed5_int {c : CS} {cell : Int} (W : c.wf) : ∃ (op : Op) (v : Option Int) (c' : CS), c.act op = .yes v c' ∧ Ff_law_deed_by [.int cell, worldT c] = .ok (opT op) [.int cell, worldT c] := by
  have hfin : ∀ (op : Op) (sl : List Ent), sl.take 2 = [.own (.int cell), .own (worldT c)] → cdf_law_deed_by ⟨[.own (.int cell), .own (worldT c), .emp, .emp, .emp, .emp, .emp, .emp, .emp], []⟩ = .rt ⟨sl, [.own (opT op)]⟩ → Ff_law_deed_by [.int cell, worldT c] = .ok (opT op) [.int cell, worldT c] := fun op sl hs e => by
    unfold Ff_law_deed_by runDef
    show (match cdf_law_deed_by ⟨[.own (.int cell), .own (worldT c), .emp, .emp, .emp, .emp, .emp, .emp, .emp], []⟩ with | .nx δ => FR.ok .non (outsOf [.int cell, worldT c] δ.sl) | .rt δ => (match δ.st with | .own t :: _ => .ok t (outsOf [.int cell, worldT c] δ.sl) | _ => .no) | .ex C sl => .ex C (outsOf [.int cell, worldT c] sl) | _ => .no) = _
    rw [e]
    match sl, hs with
    | a :: b :: rest, hs =>
      simp only [List.take_succ_cons, List.take_zero, List.cons.injEq, and_true] at hs
      obtain ⟨rfl, rfl⟩ := hs
      rfl
    | [a], hs => simp at hs
    | [], hs => simp at hs
  have pre := db_pre (cell := cell) (rest := (sSeq (sIf (tOr (tVal (eBin (eThen (eThen (eName 2) eNil) (op1 kLen)) (ePush (.int 2)) (op2 kLt))) (tAnd (tVal (eBin (eName 5) (ePush (.int 4)) (op2 kLt))) (tVal (eBin (eThen (eThen (eName 2) eNil) (op1 kLen)) (ePush (.int 60)) (op2 kLt))))) (sRet (eTup 2 (eThen (ePush (.str "make")) (eThen (eBin (eLst 8 (eThen (ePush (.int 1)) (eThen (ePush (.int 2)) (eThen (ePush (.int 3)) (eThen (ePush (.int 2)) (eThen (ePush (.int 1)) (eThen (ePush (.int 9)) (eThen (ePush (.int 0)) (eThen (ePush (.int 4)) eNil))))))))) (eCall 3 Ff_law_mixed (eThen (eName 0) (eThen (ePush (.int 4)) (eThen (ePush (.int 8)) eNil)))) eIx) eNil)))) sNil) (sSeq (sSet 6 (eBin (eName 2) (eCall 3 Ff_law_mixed (eThen (eName 0) (eThen (ePush (.int 0)) (eThen (eThen (eThen (eName 2) eNil) (op1 kLen)) eNil)))) eIx)) (sSeq (sSet 7 (eBin (eName 2) (eCall 3 Ff_law_mixed (eThen (eName 0) (eThen (ePush (.int 1)) (eThen (eThen (eThen (eName 2) eNil) (op1 kLen)) eNil)))) eIx)) (sSeq (sSet 8 (eThen (eThen (eBin (eBin (eName 1) (ePush (.int 0)) eIx) (eName 6) eIx) eNil) (op1 kLen))) (sSeq (sIf (tAnd (tVal (eBin (eName 5) (ePush (.int 12)) (op2 kLt))) (tVal (eBin (eName 8) (ePush (.int 0)) (op2 kGt)))) (sRet (eTup 5 (eThen (ePush (.str "put")) (eThen (eThen (eName 6) eFrz) (eThen (eCall 3 Ff_law_mixed (eThen (eName 0) (eThen (ePush (.int 10)) (eThen (eName 8) eNil)))) (eThen (eThen (eName 7) eFrz) (eThen (eBin (eName 5) (ePush (.int 10)) (op2 kLt)) eNil))))))) sNil) (sSeq (sIf (tAnd (tVal (eBin (eName 5) (ePush (.int 12)) (op2 kEq))) (tVal (eBin (eName 8) (ePush (.int 0)) (op2 kGt)))) (sRet (eTup 3 (eThen (ePush (.str "empty")) (eThen (eThen (eName 6) eFrz) (eThen (eCall 3 Ff_law_mixed (eThen (eName 0) (eThen (ePush (.int 10)) (eThen (eName 8) eNil)))) eNil))))) sNil) (sSeq (sIf (tVal (eBin (eName 5) (ePush (.int 13)) (op2 kEq))) (sRet (eTup 2 (eThen (ePush (.str "take")) (eThen (eThen (eName 6) eFrz) eNil)))) sNil) (sSeq (sIf (tAnd (tVal (eBin (eName 5) (ePush (.int 18)) (op2 kLt))) (tVal (eBin (eThen (eThen (eName 3) eNil) (op1 kLen)) (ePush (.int 0)) (op2 kGt)))) (sRet (eTup 2 (eThen (ePush (.str "drop")) (eThen (eBin (eName 3) (eCall 3 Ff_law_mixed (eThen (eName 0) (eThen (ePush (.int 2)) (eThen (eThen (eThen (eName 3) eNil) (op1 kLen)) eNil)))) eIx) eNil)))) sNil) (sSeq (sIf (tAnd (tVal (eBin (eName 5) (ePush (.int 21)) (op2 kLt))) (tVal (eBin (eThen (eThen (eName 4) eNil) (op1 kLen)) (ePush (.int 60)) (op2 kLt)))) (sRet (eTup 4 (eThen (ePush (.str "pair")) (eThen (eThen (eName 6) eFrz) (eThen (eThen (eName 7) eFrz) (eThen (eBin (eName 2) (eCall 3 Ff_law_mixed (eThen (eName 0) (eThen (ePush (.int 3)) (eThen (eThen (eThen (eName 2) eNil) (op1 kLen)) eNil)))) eIx) eNil)))))) sNil) (sSeq (sIf (tAnd (tVal (eBin (eName 5) (ePush (.int 21)) (op2 kEq))) (tVal (eBin (eThen (eThen (eName 4) eNil) (op1 kLen)) (ePush (.int 0)) (op2 kGt)))) (sRet (eTup 2 (eThen (ePush (.str "unpair")) (eThen (eBin (eName 4) (eCall 3 Ff_law_mixed (eThen (eName 0) (eThen (ePush (.int 5)) (eThen (eThen (eThen (eName 4) eNil) (op1 kLen)) eNil)))) eIx) eNil)))) sNil) (sSeq (sIf (tVal (eBin (eName 5) (ePush (.int 22)) (op2 kEq))) (sRet (eTup 3 (eThen (ePush (.str "bequeath")) (eThen (eThen (eName 6) eFrz) (eThen (eThen (eLst 0 eNil) eFrz) eNil))))) sNil) (sRet (eTup 3 (eThen (ePush (.str "bequeath")) (eThen (eThen (eName 6) eFrz) (eThen (eThen (eCall 3 Ff_law_will_of (eThen (eName 2) (eThen (eName 0) (eThen (eBin (eBin (eName 1) (ePush (.int 4)) eIx) (ePush (.int 0)) eIx) eNil)))) eFrz) eNil))))))))))))))))) W
  by_cases hx : ((srt (c.slots.map (·.1))).length : Int) < 2 ∨ (mixF cell 9 25 < 4 ∧ ((srt (c.slots.map (·.1))).length : Int) < 60)
  · obtain ⟨z, z0, z9, g⟩ := db_5 (c := c) (cell := cell) (h := srt (c.held.map (·.1))) (p := srt (c.paired.map (·.1))) (rest := (sSeq (sSet 6 (eBin (eName 2) (eCall 3 Ff_law_mixed (eThen (eName 0) (eThen (ePush (.int 0)) (eThen (eThen (eThen (eName 2) eNil) (op1 kLen)) eNil)))) eIx)) (sSeq (sSet 7 (eBin (eName 2) (eCall 3 Ff_law_mixed (eThen (eName 0) (eThen (ePush (.int 1)) (eThen (eThen (eThen (eName 2) eNil) (op1 kLen)) eNil)))) eIx)) (sSeq (sSet 8 (eThen (eThen (eBin (eBin (eName 1) (ePush (.int 0)) eIx) (eName 6) eIx) eNil) (op1 kLen))) (sSeq (sIf (tAnd (tVal (eBin (eName 5) (ePush (.int 12)) (op2 kLt))) (tVal (eBin (eName 8) (ePush (.int 0)) (op2 kGt)))) (sRet (eTup 5 (eThen (ePush (.str "put")) (eThen (eThen (eName 6) eFrz) (eThen (eCall 3 Ff_law_mixed (eThen (eName 0) (eThen (ePush (.int 10)) (eThen (eName 8) eNil)))) (eThen (eThen (eName 7) eFrz) (eThen (eBin (eName 5) (ePush (.int 10)) (op2 kLt)) eNil))))))) sNil) (sSeq (sIf (tAnd (tVal (eBin (eName 5) (ePush (.int 12)) (op2 kEq))) (tVal (eBin (eName 8) (ePush (.int 0)) (op2 kGt)))) (sRet (eTup 3 (eThen (ePush (.str "empty")) (eThen (eThen (eName 6) eFrz) (eThen (eCall 3 Ff_law_mixed (eThen (eName 0) (eThen (ePush (.int 10)) (eThen (eName 8) eNil)))) eNil))))) sNil) (sSeq (sIf (tVal (eBin (eName 5) (ePush (.int 13)) (op2 kEq))) (sRet (eTup 2 (eThen (ePush (.str "take")) (eThen (eThen (eName 6) eFrz) eNil)))) sNil) (sSeq (sIf (tAnd (tVal (eBin (eName 5) (ePush (.int 18)) (op2 kLt))) (tVal (eBin (eThen (eThen (eName 3) eNil) (op1 kLen)) (ePush (.int 0)) (op2 kGt)))) (sRet (eTup 2 (eThen (ePush (.str "drop")) (eThen (eBin (eName 3) (eCall 3 Ff_law_mixed (eThen (eName 0) (eThen (ePush (.int 2)) (eThen (eThen (eThen (eName 3) eNil) (op1 kLen)) eNil)))) eIx) eNil)))) sNil) (sSeq (sIf (tAnd (tVal (eBin (eName 5) (ePush (.int 21)) (op2 kLt))) (tVal (eBin (eThen (eThen (eName 4) eNil) (op1 kLen)) (ePush (.int 60)) (op2 kLt)))) (sRet (eTup 4 (eThen (ePush (.str "pair")) (eThen (eThen (eName 6) eFrz) (eThen (eThen (eName 7) eFrz) (eThen (eBin (eName 2) (eCall 3 Ff_law_mixed (eThen (eName 0) (eThen (ePush (.int 3)) (eThen (eThen (eThen (eName 2) eNil) (op1 kLen)) eNil)))) eIx) eNil)))))) sNil) (sSeq (sIf (tAnd (tVal (eBin (eName 5) (ePush (.int 21)) (op2 kEq))) (tVal (eBin (eThen (eThen (eName 4) eNil) (op1 kLen)) (ePush (.int 0)) (op2 kGt)))) (sRet (eTup 2 (eThen (ePush (.str "unpair")) (eThen (eBin (eName 4) (eCall 3 Ff_law_mixed (eThen (eName 0) (eThen (ePush (.int 5)) (eThen (eThen (eThen (eName 4) eNil) (op1 kLen)) eNil)))) eIx) eNil)))) sNil) (sSeq (sIf (tVal (eBin (eName 5) (ePush (.int 22)) (op2 kEq))) (sRet (eTup 3 (eThen (ePush (.str "bequeath")) (eThen (eThen (eName 6) eFrz) (eThen (eThen (eLst 0 eNil) eFrz) eNil))))) sNil) (sRet (eTup 3 (eThen (ePush (.str "bequeath")) (eThen (eThen (eName 6) eFrz) (eThen (eThen (eCall 3 Ff_law_will_of (eThen (eName 2) (eThen (eName 0) (eThen (eBin (eBin (eName 1) (ePush (.int 4)) eIx) (ePush (.int 0)) eIx) eNil)))) eFrz) eNil)))))))))))))))) hx
    have hln : (srt (c.slots.map (·.1))).length = c.slots.length := by rw [srt_length, List.length_map]
    rw [hln] at hx
    refine ⟨.make z, some c.coming, _, by simp only [CS.act]; rw [if_pos ⟨z0, z9⟩, if_neg (by omega)], hfin _ _ ?_ (pre.trans g)⟩
    rfl
  · have hne : srt (c.slots.map (·.1)) ≠ [] := fun z => hx (.inl (by rw [z]; decide))
    have g5 := db_5n (c := c) (cell := cell) (h := srt (c.held.map (·.1))) (p := srt (c.paired.map (·.1))) hx
    obtain ⟨b, hb, g6⟩ := db_6 (c := c) (cell := cell) (way := mixF cell 9 25) (h := srt (c.held.map (·.1))) (p := srt (c.paired.map (·.1))) hne
    obtain ⟨o, ho, g7⟩ := db_7 (c := c) (cell := cell) (way := mixF cell 9 25) (h := srt (c.held.map (·.1))) (p := srt (c.paired.map (·.1))) (b := b) hne
    obtain ⟨xs, hxs⟩ := isSome_ex (gGet_mem.mpr (mem_srt.mp hb))
    have g8 := db_8 (cell := cell) (way := mixF cell 9 25) (l := srt (c.slots.map (·.1))) (h := srt (c.held.map (·.1))) (p := srt (c.paired.map (·.1))) (o := o) hxs
    obtain ⟨op, v, c', ha, g9⟩ := db_rest (cell := cell) (way := mixF cell 9 25) W rfl rfl rfl hne hb ho hxs
    exact ⟨op, v, c', ha, hfin _ _ rfl (pre.trans ((seq_nx g5).trans ((seq_nx g6).trans ((seq_nx g7).trans ((seq_nx g8).trans g9)))))⟩
theorem deed5_op {c : CS} {op : Op} : Ff_law_deed_by [opT op, worldT c] = .ok (opT op) [opT op, worldT c] := by
  have e1 := @isi_op
  have e2 := @opT_data
  unfold Ff_law_deed_by
  wtm_at "V.run"

/-! the cells, the law -/
theorem cells5_ok {ns : List Int} (hl : ns.length ≤ 63) : ∃ (ops : List Op) (l : List Int) (c : CS), runL CS.nil ops = some c ∧ ops.length + l.length ≤ 500 ∧ Ff_law_cells [.scr ns] = .ok (.lst .mu ((ops.map Sum.inr ++ l.map Sum.inl).map cellT)) [.scr ns] := by
  obtain ⟨far, e1⟩ := cell0 (ns := ns)
  have e2 : kMod (.int far) (.int 3) = some (.int (far % 3)) := kMod_pos (by decide)
  have e3 : kMod (.int far) (.int 12) = some (.int (far % 12)) := kMod_pos (by decide)
  have e4 : kFdiv (.int far) (.int 3) = some (.int (far / 3)) := kFdiv_pos (by decide) (by decide)
  by_cases h3 : far % 3 = 1
  · rw [h3] at e2
    obtain ⟨ops, c, hr, hn, e5⟩ := laid5_ok (far := far / 3)
    obtain ⟨l, hl1⟩ : ∃ l, cutT ns (some 1) (some 30) = l := ⟨_, rfl⟩
    have hl2 : l.length ≤ 63 := by rw [← hl1]; exact Nat.le_trans cut_len hl
    refine ⟨ops, l, c, hr, by omega, ?_⟩
    have e6 := add_lst (datas_ops (ops := ops)) (datas_ints (l := l)) (by rw [List.length_map, List.length_map]; omega)
    rw [List.map_append, cells_ops, cells_ints]
    clear hr hn hl2 h3
    unfold Ff_law_cells
    wtm_at "V.run"
  · by_cases h12 : far % 12 = 2
    · rw [h12] at e3
      obtain ⟨l0, hn, e5⟩ := cells_lc (ns := ns) (far := far)
      obtain ⟨l, hl1⟩ : ∃ l, cutT ns (some 1) (some 20) = l := ⟨_, rfl⟩
      have hl2 : l.length ≤ 63 := by rw [← hl1]; exact Nat.le_trans cut_len hl
      refine ⟨[], l0 ++ l, _, rfl, by rw [List.length_append]; simp; omega, ?_⟩
      have e6 := add_lst (datas_ints (l := l0)) (datas_ints (l := l)) (by rw [List.length_map, List.length_map]; omega)
      rw [List.map_nil, List.nil_append, cells_ints, List.map_append]
      clear hn hl2 h12
      generalize far % 3 = w3 at *
      unfold Ff_law_cells
      wtm_at "V.run"
    · obtain ⟨l, hl1⟩ : ∃ l, cutT ns (some 1) (some 80) = l := ⟨_, rfl⟩
      have hl2 : l.length ≤ 63 := by rw [← hl1]; exact Nat.le_trans cut_len hl
      refine ⟨[], l, _, rfl, by simp; omega, ?_⟩
      rw [List.map_nil, List.nil_append, cells_ints]
      clear hl2
      generalize far % 3 = w3 at *
      generalize far % 12 = w12 at *
      unfold Ff_law_cells
      wtm_at "V.run"
def DdE (e : Ent) : Prop := e = .emp ∨ ∃ op, e = .own (opT op)
theorem DdE.noal {e : Ent} (h : DdE e) {i : Nat} : e.noal i = true := by rcases h with rfl | ⟨i, rfl⟩ <;> rfl
def Same3 (k : T) : Prop := ∃ xs, k = keptT xs ∧ CmpT 3 (.lst .fz xs) ∧ datas xs = true
theorem cmp_why {w : Why} : CmpT 1 (whyT w) := by
  cases w with
  | hand => exact cmp_tup (fun u hu => by simp at hu; subst hu; exact cmp_str (by decide +kernel))
  | slot b s => exact cmp_tup (fun u hu => by simp at hu; rcases hu with rfl | rfl | rfl <;> first | exact cmp_int | exact cmp_str (by decide +kernel))
  | pair n => exact cmp_tup (fun u hu => by simp at hu; rcases hu with rfl | rfl <;> first | exact cmp_int | exact cmp_str (by decide +kernel))
theorem cmp_rows {rows : List Row} : CmpT 3 (.lst .fz (rows.map rowW)) := cmp_lst fun u hu => by
  obtain ⟨r, _, rfl⟩ := List.mem_map.mp hu
  refine cmp_tup fun v hv => ?_
  simp at hv
  rcases hv with rfl | rfl
  · exact cmp_int
  · exact cmp_why
theorem datas_rows {rows : List Row} : datas (rows.map rowW) = true := datas_map (fun _ => rowW_data) rows
theorem rowW_plain {r : Row} : (rowW r).plain = true := by
  obtain ⟨b, w⟩ := r
  cases w <;> rfl
theorem rowW_frz {r : Row} : (rowW r).frz = rowW r := by
  obtain ⟨b, w⟩ := r
  cases w <;> rfl
/-! what is come to, lost -/
inductive Rch (c : CS) : Int → Prop
  | hand {b : Int} {u : Unit} : gGet c.held b = some u → Rch c b
  | slot {b : Int} {xs : List (Option (Int × Bool))} {s : Nat} {o : Int} : Rch c b → gGet c.slots b = some xs → xs[s]? = some (some (o, true)) → Rch c o
  | pair {n h k v : Int} : gGet c.paired n = some (h, k, v) → Rch c h → Rch c k → Rch c v
theorem whole_rch {c : CS} {rows : List Row} (H : Whole c rows) (b : Int) : b ∈ rows.map (·.1) ↔ Rch c b := by
  constructor
  · have key : ∀ (i : Nat) (r : Row), rows[i]? = some r → Rch c r.1 := by
      intro i
      induction i using Nat.strongRecOn with
      | _ i ih =>
        intro r hr
        have hg := (H.ro.ok i r hr).1
        have up : ∀ x, (gGet (knOf (rows.take i)) x).isSome → Rch c x := fun x hx => by
          obtain ⟨r', hr', rfl⟩ := List.mem_map.mp (knOf_get.mp hx)
          obtain ⟨j, hj, rfl⟩ := List.mem_iff_getElem.mp hr'
          rw [List.length_take] at hj
          have hjl : j < rows.length := by omega
          have := ih j (by omega) rows[j] (List.getElem?_eq_getElem hjl)
          rw [List.getElem_take]
          exact this
        obtain ⟨o, w⟩ := r
        cases w with
        | hand =>
          obtain ⟨u, hu⟩ := isSome_ex hg
          exact .hand hu
        | slot b s =>
          obtain ⟨h1, xs, h2, h3⟩ := hg
          exact .slot (up _ h1) h2 h3
        | pair n =>
          obtain ⟨h, k, h1, h2, h3⟩ := hg
          exact .pair h1 (up _ h2) (up _ h3)
    intro hb
    obtain ⟨r, hr, rfl⟩ := List.mem_map.mp hb
    obtain ⟨i, hi, rfl⟩ := List.mem_iff_getElem.mp hr
    exact key i _ (List.getElem?_eq_getElem hi)
  · intro hb
    induction hb with
    | hand h => exact H.ro.hd _ _ h
    | slot hb hx ho ih =>
      obtain ⟨r, hr, rfl⟩ := List.mem_map.mp ih
      exact knOf_get.mp (H.sh r hr _ _ _ hx ho)
    | pair hp h1 h2 i1 i2 => exact knOf_get.mp (H.pr _ _ hp (knOf_get.mpr i1) (knOf_get.mpr i2))
def KnR (c : CS) (kn : List (Int × Unit)) : Prop := ∀ b, (gGet kn b).isSome = true ↔ Rch c b
def lostF (c : CS) (kn : List (Int × Unit)) : List Int := (srt (c.slots.map (·.1))).filter fun b => !(gGet kn b).isSome
theorem lostF_eq {c : CS} {kn kn' : List (Int × Unit)} (h : KnR c kn) (h' : KnR c kn') : lostF c kn = lostF c kn' := by
  unfold lostF
  refine List.filter_congr fun b _ => ?_
  have : (gGet kn b).isSome = (gGet kn' b).isSome := by
    rw [Bool.eq_iff_iff, h b, h' b]
  rw [this]
theorem whole_kn {c : CS} {rows : List Row} (H : Whole c rows) : KnR c (knOf rows) := fun b => knOf_get.trans (whole_rch H b)
theorem flat_get {α β : Type} {l : List α} {d : α} {f : α → List β} : (List.range l.length).flatMap (fun j => f (l.getD j d)) = l.flatMap f := by
  have h1 : (List.range l.length).flatMap (fun j => f (l.getD j d)) = ((List.range l.length).map fun j => l.getD j d).flatMap f := by rw [List.flatMap_map]
  rw [h1, range_get (g := id) (fun j a h => by rw [List.getD_eq_getElem?_getD, h]; rfl), List.map_id]
theorem flat_filter {l : List Int} {p : Int → Bool} : l.flatMap (fun b => if p b = true then [T.int b] else []) = (l.filter p).map T.int := by
  induction l with
  | nil => rfl
  | cons a l ih =>
    rw [List.flatMap_cons, ih, List.filter_cons]
    split <;> rfl
/-! lost -/
theorem lost_1 {c : CS} (W : c.wf) (G : tgtOk c) : ∃ rows e2, Whole c rows ∧ OwnE e2 ∧ (sFor kL (eCall 1 Ff_come_to (eThen (eName 0) eNil)) (gSlot 2) (sSub (ePush (.bl true)) (eName 1) (eBin (eName 2) (ePush (.int 0)) eIx))) ⟨[.own (chestT c), .own (knD []), .emp, .emp], []⟩ = .nx ⟨[.own (chestT c), .own (knD (knOf rows)), e2, .emp], []⟩ := by
  obtain ⟨rows, H, ec⟩ := come_ok W G
  have hl := H.ro.len
  have hh := sFor_inv (kd := kL) (fe := (eCall 1 Ff_come_to (eThen (eName 0) eNil))) (g := (gSlot 2)) (body := (sSub (ePush (.bl true)) (eName 1) (eBin (eName 2) (ePush (.int 0)) eIx))) (δ := ⟨[.own (chestT c), .own (knD []), .emp, .emp], []⟩) (sl := [.own (chestT c), .own (knD []), .emp, .emp]) (e := .own (.lst .mu (rows.map rowW))) (st := []) (n := rows.length)
    (fun j sl => ∃ e4, OwnE e4 ∧ sl = [.own (chestT c), .own (knD (knOf (rows.take j))), e4, .emp]) ?_ ⟨.emp, .inl rfl, rfl⟩ (fun j sl hh => by
      obtain ⟨_, _, rfl⟩ := hh
      show some (rows.map rowW).length = _
      rw [List.length_map]) ?_
  · obtain ⟨sl', g, e4, k4, rfl⟩ := hh
    rw [List.take_length] at g
    exact ⟨rows, e4, H, k4, g⟩
  · clear H hl W G
    wtm_at "V.run"
  · intro j sl hj hP
    obtain ⟨e4, k4, rfl⟩ := hP
    have ha := rw_at hj
    have hge : rows[j]? = some rows[j] := List.getElem?_eq_getElem hj
    have hn : rows[j].1 ∉ (rows.take j).map (·.1) := by
      have h1 := H.ro.nd
      rw [← List.take_append_drop j rows, List.map_append, List.nodup_append] at h1
      intro z
      refine h1.2.2 _ z rows[j].1 ?_ rfl
      refine List.mem_map_of_mem ?_
      rw [List.drop_eq_getElem_cons hj]
      exact List.mem_cons_self
    have hp := knOf_put hn
    rw [show rows.take j ++ [rows[j]] = rows.take (j + 1) by rw [List.take_succ, hge]; rfl] at hp
    have hkl : (knOf (rows.take j)).length < lineA := by
      rw [knOf_len, List.length_take]
      have := W.sA
      omega
    refine ⟨⟨[.own (chestT c), .own (knD (knOf (rows.take j))), e4, .emp], [.own (rowW rows[j]), .own (.lst .mu (rows.map rowW))]⟩, ⟨[.own (chestT c), .own (knD (knOf (rows.take j))), .own (rowW rows[j]), .emp], [.own (.lst .mu (rows.map rowW))]⟩, [.own (chestT c), .own (knD (knOf (rows.take (j + 1)))), .own (rowW rows[j]), .emp], ?_, ?_, ?_, _, .inr ⟨_, rfl⟩, rfl⟩
    · have q := @rowW_data
      generalize rows[j] = r at *
      clear hp hn hkl hge H W G ec
      unfold item itemE kL
      wtm_at "V.run"
    · exact gSlot_ok (by simp [noal_own, noal_emp, k4.noal])
    · have q := @whyT_data
      rw [← hp]
      generalize rows[j] = r at *
      generalize knOf (rows.take j) = kn at *
      clear hp hn ha hge hj hl H W G ec
      generalize (rows.map rowW) = rr at *
      rw [show rowW r = .tup [.int r.1, whyT r.2] from rfl]
      wtm_at "V.run"
theorem lost_lc {c : CS} {kn : List (Int × Unit)} {e2 : Ent} (W : c.wf) (h2 : OwnE e2) : (eLc kL (eMet 7 "boxes" 1 Fm_boxes (eName 0) eNil) (gSlot 3) (tVal (eBin (eName 3) (eName 1) (op2 kNin))) (eThen (eName 3) eFrz) [3]) ⟨[.own (chestT c), .own (knD kn), e2, .emp], []⟩ = .ok ⟨[.own (chestT c), .own (knD kn), e2, .emp], [.own (.lst .mu ((lostF c kn).map .int))]⟩ := by
  have h64 : c.slots.length < 64 := Nat.lt_of_le_of_lt W.sl (by decide)
  have e1 := boxes_ok h64
  have hln : (srt (c.slots.map (·.1))).length < lineA := by rw [srt_length, List.length_map]; exact W.sA
  unfold lostF
  generalize srt (c.slots.map (·.1)) = ks at *
  refine (eLc_run (n := ks.length) (st := []) (e := .own (.lst .mu (ks.map .int))) (sl := [.own (chestT c), .own (knD kn), e2, .emp]) (fun _ => [.own (chestT c), .own (knD kn), e2, .emp]) (fun j => (fun b => if (!(gGet kn b).isSome) = true then [T.int b] else []) (ks.getD j 0)) ?_ ?_ ?_ hln (fun j => by dsimp only; split <;> simp) ?_ ?_).trans ?_
  · clear hln h64 W
    rcases h2 with rfl | ⟨i2, rfl⟩ <;> wtm_at "V.run"
  · rcases h2 with rfl | ⟨i2, rfl⟩ <;> rfl
  · show some (ks.map T.int).length = _; rw [List.length_map]
  · show some (ks.map T.int).length = _; rw [List.length_map]
  · intro j acc hj ha
    have e := int_at hj
    have e3 : ks.getD j 0 = ks[j] := by rw [List.getD_eq_getElem?_getD, List.getElem?_eq_getElem hj]; rfl
    rw [e3]
    generalize ks[j] = b at *
    clear hln hj e1 h64 W e3
    cases hk : gGet kn b with
    | none =>
      have hv : (fun b => if (!(gGet kn b).isSome) = true then [T.int b] else []) b = [T.int b] := by simp [hk]
      rw [hv]
      clear hv
      unfold lcTurn item2 itemE kL
      rcases h2 with rfl | ⟨i2, rfl⟩ <;> wtm_at "V.run"
    | some u =>
      have hv : (fun b => if (!(gGet kn b).isSome) = true then [T.int b] else []) b = [] := by simp [hk]
      rw [hv, List.append_nil]
      clear hv
      unfold lcTurn item2 itemE kL
      rcases h2 with rfl | ⟨i2, rfl⟩ <;> wtm_at "V.run"
  · rw [flat_get (f := fun b => if (!(gGet kn b).isSome) = true then [T.int b] else []), flat_filter (p := fun b => !(gGet kn b).isSome)]
theorem lost_ok {c : CS} (W : c.wf) (G : tgtOk c) : ∃ kn, KnR c kn ∧ Ff_lost [chestT c] = .ok (.lst .mu ((lostF c kn).map .int)) [chestT c] := by
  obtain ⟨rows, e2, H, h2, g1⟩ := lost_1 W G
  refine ⟨knOf rows, whole_kn H, ?_⟩
  have g2 := lost_lc (kn := knOf rows) W h2
  generalize knOf rows = kn at *
  generalize lostF c kn = ll at *
  have g0 : (sSet 1 eDct) ⟨[.own (chestT c), .emp, .emp, .emp], []⟩ = .nx ⟨[.own (chestT c), .own (knD []), .emp, .emp], []⟩ := by
    clear g1 g2 H W G
    wtm_at "V.run"
    rfl
  have g3 : (sRet (eLc kL (eMet 7 "boxes" 1 Fm_boxes (eName 0) eNil) (gSlot 3) (tVal (eBin (eName 3) (eName 1) (op2 kNin))) (eThen (eName 3) eFrz) [3])) ⟨[.own (chestT c), .own (knD kn), e2, .emp], []⟩ = .rt ⟨[.own (chestT c), .own (knD kn), e2, .emp], [.own (.lst .mu (ll.map .int))]⟩ := by
    clear g0 g1 H W G
    rcases h2 with rfl | ⟨i2, rfl⟩ <;> wtm_at "V.run"
  have e : cdf_lost ⟨[.own (chestT c), .emp, .emp, .emp], []⟩ = .rt ⟨[.own (chestT c), .own (knD kn), e2, .emp], [.own (.lst .mu (ll.map .int))]⟩ := (seq_nx g0).trans ((seq_nx g1).trans g3)
  unfold Ff_lost runDef
  show (match cdf_lost ⟨[.own (chestT c), .emp, .emp, .emp], []⟩ with | .nx δ => FR.ok .non (outsOf [chestT c] δ.sl) | .rt δ => (match δ.st with | .own t :: _ => .ok t (outsOf [chestT c] δ.sl) | _ => .no) | .ex C sl => .ex C (outsOf [chestT c] sl) | _ => .no) = _
  rw [e]; rfl
/-! the law's own reckoning of what is come to -/
structure KInv (c : CS) (kn : List (Int × Unit)) : Prop where
  nd : (kn.map (·.1)).Nodup
  hd : ∀ b u, gGet c.held b = some u → (gGet kn b).isSome
  ok : ∀ b, (gGet kn b).isSome → Rch c b ∧ (gGet c.slots b).isSome
structure KCl (c : CS) (kn : List (Int × Unit)) : Prop where
  sh : ∀ b, (gGet kn b).isSome → shut c kn b
  pr : ∀ n p, gGet c.paired n = some p → shutP kn p
theorem kn_of {c : CS} {kn : List (Int × Unit)} (I : KInv c kn) (C : KCl c kn) : KnR c kn := fun b => by
  constructor
  · exact fun h => (I.ok b h).1
  · intro h
    induction h with
    | hand h => exact I.hd _ _ h
    | slot hb hx ho ih => exact C.sh _ ih _ _ _ hx ho
    | pair hp h1 h2 i1 i2 => exact C.pr _ _ hp i1 i2
theorem KInv.len {c : CS} {kn : List (Int × Unit)} (I : KInv c kn) : kn.length ≤ c.slots.length := by
  have := nodup_len I.nd (m := c.slots.map (·.1)) (fun x hx => gGet_mem.mp (I.ok x (gGet_mem.mpr hx)).2)
  rwa [List.length_map, List.length_map] at this
def Sound (c : CS) (F : List Int) : Prop := ∀ x ∈ F, Rch c x ∧ (gGet c.slots x).isSome
abbrev kS (c : CS) (kn : List (Int × Unit)) (e2 e3 e4 e5 : Ent) : List Ent := [.own (worldT c), .own (knD kn), e2, e3, e4, e5]
def bxH (c : CS) : Nat → Ent
  | 0 => .emp
  | j + 1 => .own (.int (((tbl trueT c.held).map (·.1)).getD j 0))
theorem bxH_in {c : CS} {j : Nat} : In5 (bxH c j) := by cases j <;> first | exact .inl rfl | exact .inr ⟨_, rfl⟩
section
variable {c : CS} {kn : List (Int × Unit)}
theorem kn_1 (W : c.wf) : ∃ e2, In5 e2 ∧ (sForD (eBin (eName 0) (ePush (.int 1)) eIx) (gSlot 2) (sSub (ePush (.bl true)) (eName 1) (eName 2))) ⟨kS c [] .emp .emp .emp .emp, []⟩ = .nx ⟨kS c c.held e2 .emp .emp .emp, []⟩ := by
  refine ⟨bxH c c.held.length, bxH_in, ?_⟩
  refine sForD_run (i := 0) (p := [.ix 1]) (kvs := tbl trueT c.held) (fun j => [.own (worldH c), .own (knD (c.held.take j)), bxH c j, .emp, .emp, .emp]) ?_ rfl rfl ?_ ?_ ?_
  · unfold kS worldT heldD
    wtm_at "V.run"
  · simp only [bxH, List.take_zero]
    unfold kS worldT heldD
    wtm_at "V.run"
  · intro j hj
    rw [tbl_len] at hj
    have hk : ((tbl trueT c.held).map (·.1)).getD j 0 = (c.held[j]'hj).1 := by
      rw [tbl_keys, List.getD_eq_getElem?_getD, List.getElem?_map, List.getElem?_eq_getElem hj]; rfl
    have kb := bxH_in (c := c) (j := j)
    have hn : (c.held[j]'hj).1 ∉ (c.held.take j).map (·.1) := by
      have h1 := W.kh
      rw [← List.take_append_drop j c.held, List.map_append, List.nodup_append] at h1
      intro z
      refine h1.2.2 _ z (c.held[j]'hj).1 ?_ rfl
      refine List.mem_map_of_mem ?_
      rw [List.drop_eq_getElem_cons hj]
      exact List.mem_cons_self
    have hp : gPut (c.held.take j) (c.held[j]'hj).1 () = c.held.take (j + 1) := by
      rw [gPut_new hn, List.take_succ, List.getElem?_eq_getElem hj]; rfl
    have hkl : (c.held.take j).length < lineA := by
      rw [List.length_take]
      have := W.hA
      omega
    refine ⟨⟨[.own (worldH c), .own (knD (c.held.take j)), .own (.int (((tbl trueT c.held).map (·.1)).getD j 0)), .emp, .emp, .emp], [.al 0 [.ix 1]]⟩, ?_, ?_⟩
    · exact gSlot_ok (by simp [noal_own, noal_emp, kb.noal, show Ent.noal 2 (.al 0 [.ix 1]) = true from rfl])
    · show _ = SR.nx ⟨[_, .own (knD (c.held.take (j + 1))), .own (.int (((tbl trueT c.held).map (·.1)).getD j 0)), _, _, _], _⟩
      rw [hk, ← hp]
      generalize (c.held[j]'hj).1 = x at *
      generalize c.held.take j = kj at *
      clear hk hn hp hj W kb
      wtm_at "V.run"
  · rw [tbl_len, List.take_length]
    have kb := bxH_in (c := c) (j := c.held.length)
    rcases kb with kb | ⟨i, kb⟩ <;> rw [kb] <;> rfl
theorem held_inv (W : c.wf) : KInv c c.held := ⟨W.kh, fun b u h => by rw [h]; rfl, fun b h => by
  obtain ⟨u, hu⟩ := isSome_ex h
  exact ⟨.hand hu, W.hs _ _ hu⟩⟩
def prF (kn : List (Int × Unit)) (p : Int × Int × Int) : List Int := if ((gGet kn p.1).isSome && (gGet kn p.2.1).isSome) = true then [p.2.2] else []
theorem flat_ints {α : Type} {l : List α} {f : α → List Int} : l.flatMap (fun a => (f a).map T.int) = (l.flatMap f).map T.int := by rw [List.map_flatMap]
theorem pair_at6 {j : Nat} (h : j < c.paired.length) : (c.paired.map fun p => trioT p.2)[j]? = some (trioT (c.paired[j]'h).2) := by rw [List.getElem?_map, List.getElem?_eq_getElem h]; rfl
theorem kn_W1 {e2 e4 : Ent} (W : c.wf) (h2 : In5 e2) (h4 : OwnE e4) : (sSet 4 (eLc kL (eThen (eBin (eName 0) (ePush (.int 2)) eIx) (op1 kVals)) (gSlot 5) (tAnd (tVal (eBin (eBin (eName 5) (ePush (.int 0)) eIx) (eName 1) (op2 kIn))) (tVal (eBin (eBin (eName 5) (ePush (.int 1)) eIx) (eName 1) (op2 kIn)))) (eBin (eName 5) (ePush (.int 2)) eIx) [5])) ⟨kS c kn e2 (.own (.bl false)) e4 .emp, []⟩ = .nx ⟨kS c kn e2 (.own (.bl false)) (.own (.lst .mu (((c.paired.map (·.2)).flatMap (prF kn)).map .int))) .emp, []⟩ := by
  have ev := vals_paired (c := c)
  have lc : (eLc kL (eThen (eBin (eName 0) (ePush (.int 2)) eIx) (op1 kVals)) (gSlot 5) (tAnd (tVal (eBin (eBin (eName 5) (ePush (.int 0)) eIx) (eName 1) (op2 kIn))) (tVal (eBin (eBin (eName 5) (ePush (.int 1)) eIx) (eName 1) (op2 kIn)))) (eBin (eName 5) (ePush (.int 2)) eIx) [5]) ⟨kS c kn e2 (.own (.bl false)) e4 .emp, []⟩ = .ok ⟨kS c kn e2 (.own (.bl false)) e4 .emp, [.own (.lst .mu (((c.paired.map (·.2)).flatMap (prF kn)).map .int))]⟩ := by
    refine (eLc_run (n := c.paired.length) (st := []) (e := .own (.lst .mu (c.paired.map fun p => trioT p.2))) (sl := kS c kn e2 (.own (.bl false)) e4 .emp) (fun _ => kS c kn e2 (.own (.bl false)) e4 .emp) (fun j => (fun q : Int × Int × Int => (prF kn q).map T.int) ((c.paired.map (·.2)).getD j (0, 0, 0))) ?_ ?_ ?_ W.pA (fun j => by dsimp only; unfold prF; split <;> simp) ?_ ?_).trans ?_
    · clear W
      unfold kS worldT pairD
      rcases h2 with rfl | ⟨i2, rfl⟩ <;> rcases h4 with rfl | ⟨i4, rfl⟩ <;> wtm_at "V.run"
    · rcases h2 with rfl | ⟨i2, rfl⟩ <;> rcases h4 with rfl | ⟨i4, rfl⟩ <;> rfl
    · show some (c.paired.map fun p => trioT p.2).length = _; rw [List.length_map]
    · show some (c.paired.map fun p => trioT p.2).length = _; rw [List.length_map]
    · intro j acc hj ha
      have e := pair_at6 hj
      have e3 : (c.paired.map (·.2)).getD j (0, 0, 0) = (c.paired[j]'hj).2 := by rw [List.getD_eq_getElem?_getD, List.getElem?_map, List.getElem?_eq_getElem hj]; rfl
      rw [e3]
      generalize (c.paired[j]'hj).2 = p at *
      obtain ⟨x, y, z⟩ := p
      clear ev hj W e3
      generalize (c.paired.map fun p => trioT p.2) = lst at *
      unfold kS
      cases h1 : gGet kn x with
      | none =>
        have hv : (fun q : Int × Int × Int => (prF kn q).map T.int) (x, y, z) = [] := by simp [prF, h1]
        rw [hv, List.append_nil]
        clear hv
        unfold lcTurn item2 itemE kL
        rcases h2 with rfl | ⟨i2, rfl⟩ <;> rcases h4 with rfl | ⟨i4, rfl⟩ <;> wtm_at "V.run"
      | some u1 => cases h5 : gGet kn y with
        | none =>
          have hv : (fun q : Int × Int × Int => (prF kn q).map T.int) (x, y, z) = [] := by simp [prF, h1, h5]
          rw [hv, List.append_nil]
          clear hv
          unfold lcTurn item2 itemE kL
          rcases h2 with rfl | ⟨i2, rfl⟩ <;> rcases h4 with rfl | ⟨i4, rfl⟩ <;> wtm_at "V.run"
        | some u2 =>
          have hv : (fun q : Int × Int × Int => (prF kn q).map T.int) (x, y, z) = [.int z] := by simp [prF, h1, h5]
          rw [hv]
          clear hv
          unfold lcTurn item2 itemE kL
          rcases h2 with rfl | ⟨i2, rfl⟩ <;> rcases h4 with rfl | ⟨i4, rfl⟩ <;> wtm_at "V.run"
    · have hf := flat_get (l := c.paired.map (·.2)) (d := (0, 0, 0)) (f := fun q : Int × Int × Int => (prF kn q).map T.int)
      rw [List.length_map] at hf
      rw [hf, flat_ints]
  generalize ((c.paired.map (·.2)).flatMap (prF kn)).map T.int = rr at *
  clear ev W
  rcases h2 with rfl | ⟨i2, rfl⟩ <;> rcases h4 with rfl | ⟨i4, rfl⟩ <;> wtm_at "V.run"
theorem prF_sound (W : c.wf) (I : KInv c kn) : Sound c ((c.paired.map (·.2)).flatMap (prF kn)) ∧ ((c.paired.map (·.2)).flatMap (prF kn)).length ≤ 60 ∧ ∀ n p, gGet c.paired n = some p → (gGet kn p.1).isSome → (gGet kn p.2.1).isSome → p.2.2 ∈ (c.paired.map (·.2)).flatMap (prF kn) := by
  refine ⟨?_, ?_, ?_⟩
  · intro x hx
    obtain ⟨p, hp, hx⟩ := List.mem_flatMap.mp hx
    obtain ⟨q, hq, rfl⟩ := List.mem_map.mp hp
    obtain ⟨i, hi, rfl⟩ := List.mem_iff_getElem.mp hq
    have hg : gGet c.paired (c.paired[i]'hi).1 = some (c.paired[i]'hi).2 := gGet_of W.kp (List.getElem?_eq_getElem hi)
    generalize (c.paired[i]'hi).1 = n at hg
    generalize (c.paired[i]'hi).2 = p at *
    obtain ⟨a, b, v⟩ := p
    unfold prF at hx
    split at hx
    · rename_i hc
      rw [Bool.and_eq_true] at hc
      have := List.mem_singleton.mp hx
      subst this
      exact ⟨.pair hg (I.ok _ hc.1).1 (I.ok _ hc.2).1, (W.ps _ _ hg).2.2.2.2⟩
    · cases hx
  · have : ∀ l : List (Int × Int × Int), (l.flatMap (prF kn)).length ≤ l.length := by
      intro l
      induction l with
      | nil => exact Nat.le_refl _
      | cons a l ih =>
        rw [List.flatMap_cons, List.length_append, List.length_cons]
        have : (prF kn a).length ≤ 1 := by unfold prF; split <;> simp
        omega
    have h := this (c.paired.map (·.2))
    rw [List.length_map] at h
    have := W.pl
    omega
  · intro n p hp h1 h2
    obtain ⟨i, hi⟩ := gGet_at hp
    refine List.mem_flatMap.mpr ⟨p, List.mem_map.mpr ⟨(n, p), List.mem_of_getElem? hi, rfl⟩, ?_⟩
    unfold prF
    rw [h1, h2]
    simp
def tgF : Option (Int × Bool) → List Int
  | some (o, true) => [o]
  | _ => []
theorem kn_lc2 {b : Int} {F : List Int} {xs : List (Option (Int × Bool))} {e0 : T} (W : c.wf) (hb : gGet c.slots b = some xs) : (eLc kL (eBin (eBin (eName 0) (ePush (.int 0)) eIx) (eName 2) eIx) (gSlot 5) (tAnd (tVal (eBin (eName 5) (ePush .non) (op2 kNotN))) (tTru (eBin (eName 5) (ePush (.int 1)) eIx))) (eBin (eName 5) (ePush (.int 0)) eIx) [5]) ⟨kS c kn (.own (.int b)) (.own (.bl false)) (.own (.lst .mu (F.map .int))) .emp, [.al 4 [], .own e0]⟩ = .ok ⟨kS c kn (.own (.int b)) (.own (.bl false)) (.own (.lst .mu (F.map .int))) .emp, [.own (.lst .mu ((xs.flatMap tgF).map .int)), .al 4 [], .own e0]⟩ := by
  have hx := (W.kc _ _ hb).2.2
  have hn : xs.length < lineA := by
    have : lineA = 1000000 := rfl
    omega
  clear hx W
  refine (eLc_run (n := xs.length) (st := [.al 4 [], .own e0]) (e := .al 0 [.ix 0, .key b]) (sl := kS c kn (.own (.int b)) (.own (.bl false)) (.own (.lst .mu (F.map .int))) .emp) (fun _ => kS c kn (.own (.int b)) (.own (.bl false)) (.own (.lst .mu (F.map .int))) .emp) (fun j => (fun w => (tgF w).map T.int) (xs.getD j none)) ?_ rfl ?_ hn (fun j => by dsimp only; unfold tgF; split <;> simp) ?_ ?_).trans ?_
  · unfold kS worldT slotsD
    wtm_at "V.run"
  · unfold manyE kL kS worldT slotsD
    wtm_at "V.run"
  · unfold manyE kL kS worldT slotsD
    wtm_at "V.run"
  · intro j acc hj ha
    have e2 := slot_at hj
    have e3 : xs.getD j none = xs[j] := by rw [List.getD_eq_getElem?_getD, List.getElem?_eq_getElem hj]; rfl
    have hge : xs[j]? = some xs[j] := List.getElem?_eq_getElem hj
    rw [e3]
    generalize xs[j] = w at *
    clear hn hj e3
    have q1 : kNotN .non .non = some (.bl false) := rfl
    have q2 : ∀ {o : Int} {h : Bool}, kNotN (.tup [.int o, .bl h]) .non = some (.bl true) := rfl
    unfold lcTurn item2 itemE kL kS worldT slotsD
    cases w with
    | none =>
      rw [show (fun w => (tgF w).map T.int) none = [] from rfl, List.append_nil]
      simp only [slotT] at e2
      wtm_at "V.run"
      done
    | some p =>
      obtain ⟨o, h⟩ := p
      simp only [slotT] at e2
      cases h with
      | false =>
        rw [show (fun w => (tgF w).map T.int) (some (o, false)) = [] from rfl, List.append_nil]
        simp only [slotT]
        wtm_at "V.run"
      | true =>
        rw [show (fun w => (tgF w).map T.int) (some (o, true)) = [.int o] from rfl]
        simp only [slotT]
        wtm_at "V.run"
  · rw [flat_get (f := fun w => (tgF w).map T.int), flat_ints]
theorem tgF_mem {xs : List (Option (Int × Bool))} {o : Int} : o ∈ xs.flatMap tgF ↔ ∃ s : Nat, xs[s]? = some (some (o, true)) := by
  constructor
  · intro h
    obtain ⟨w, hw, ho⟩ := List.mem_flatMap.mp h
    obtain ⟨i, hi, rfl⟩ := List.mem_iff_getElem.mp hw
    refine ⟨i, ?_⟩
    rw [List.getElem?_eq_getElem hi]
    unfold tgF at ho
    split at ho
    · rename_i e
      have := List.mem_singleton.mp ho
      subst this
      rw [e]
    · cases ho
  · rintro ⟨s, hs⟩
    refine List.mem_flatMap.mpr ⟨some (o, true), List.mem_of_getElem? hs, ?_⟩
    exact List.mem_singleton.mpr rfl
theorem tgF_len {xs : List (Option (Int × Bool))} : (xs.flatMap tgF).length ≤ xs.length := by
  induction xs with
  | nil => exact Nat.le_refl _
  | cons a l ih =>
    rw [List.flatMap_cons, List.length_append, List.length_cons]
    have : (tgF a).length ≤ 1 := by unfold tgF; split <;> simp
    omega
end
section
variable {c : CS} {kn : List (Int × Unit)}
/-- the targets of all that is known -/
theorem kn_W2 {e2 : Ent} {F0 : List Int} (W : c.wf) (G : tgtOk c) (I : KInv c kn) (h2 : In5 e2) (hF : Sound c F0) (hn : F0.length ≤ 60) : ∃ (e2' : Ent) (F : List Int), In5 e2' ∧ Sound c F ∧ (∀ x ∈ F0, x ∈ F) ∧ (∀ b, (gGet kn b).isSome → ∀ (xs : List (Option (Int × Bool))) (s : Nat) (o : Int), gGet c.slots b = some xs → xs[s]? = some (some (o, true)) → o ∈ F) ∧ (sFor kL (eThen (eThen (eName 1) eNil) (op1 kList)) (gSlot 2) (sSet 4 (eBin (eName 4) (eLc kL (eBin (eBin (eName 0) (ePush (.int 0)) eIx) (eName 2) eIx) (gSlot 5) (tAnd (tVal (eBin (eName 5) (ePush .non) (op2 kNotN))) (tTru (eBin (eName 5) (ePush (.int 1)) eIx))) (eBin (eName 5) (ePush (.int 0)) eIx) [5]) (op2 kAdd)))) ⟨kS c kn e2 (.own (.bl false)) (.own (.lst .mu (F0.map .int))) .emp, []⟩ = .nx ⟨kS c kn e2' (.own (.bl false)) (.own (.lst .mu (F.map .int))) .emp, []⟩ := by
  have hkl := I.len
  have hsl := W.sl
  have el : kList (knD kn) = some (.lst .mu ((kn.map (·.1)).map .int)) := by
    show some (T.lst .mu (((tbl trueT kn).map (·.1)).map .int)) = _
    rw [tbl_keys]
  have hh := sFor_inv (kd := kL) (fe := (eThen (eThen (eName 1) eNil) (op1 kList))) (g := (gSlot 2)) (body := (sSet 4 (eBin (eName 4) (eLc kL (eBin (eBin (eName 0) (ePush (.int 0)) eIx) (eName 2) eIx) (gSlot 5) (tAnd (tVal (eBin (eName 5) (ePush .non) (op2 kNotN))) (tTru (eBin (eName 5) (ePush (.int 1)) eIx))) (eBin (eName 5) (ePush (.int 0)) eIx) [5]) (op2 kAdd)))) (δ := ⟨kS c kn e2 (.own (.bl false)) (.own (.lst .mu (F0.map .int))) .emp, []⟩) (sl := kS c kn e2 (.own (.bl false)) (.own (.lst .mu (F0.map .int))) .emp) (e := .own (.lst .mu ((kn.map (·.1)).map .int))) (st := []) (n := kn.length)
    (fun j sl => ∃ (e2' : Ent) (F : List Int), In5 e2' ∧ Sound c F ∧ F.length ≤ 60 + 9 * j ∧ (∀ x ∈ F0, x ∈ F) ∧ (∀ j', j' < j → ∀ b, (kn.map (·.1))[j']? = some b → ∀ (xs : List (Option (Int × Bool))) (s : Nat) (o : Int), gGet c.slots b = some xs → xs[s]? = some (some (o, true)) → o ∈ F) ∧ sl = kS c kn e2' (.own (.bl false)) (.own (.lst .mu (F.map .int))) .emp) ?_ ⟨e2, F0, h2, hF, by omega, fun x hx => hx, fun j' h => absurd h (Nat.not_lt_zero _), rfl⟩ (fun j sl hh => by
      obtain ⟨_, _, _, _, _, _, _, rfl⟩ := hh
      show some ((kn.map (·.1)).map T.int).length = _
      rw [List.length_map, List.length_map]) ?_
  · obtain ⟨sl', g, e2', F, k2, s1, s2, s3, s4, rfl⟩ := hh
    refine ⟨e2', F, k2, s1, s3, fun b hb xs s o hx ho => ?_, g⟩
    obtain ⟨j, hj, e⟩ := List.mem_iff_getElem.mp (gGet_mem.mp hb)
    exact s4 j (by rw [List.length_map] at hj; exact hj) b (by rw [List.getElem?_eq_getElem hj, e]) xs s o hx ho
  · clear hkl hsl hF hn I W G
    unfold kS
    rcases h2 with rfl | ⟨i2, rfl⟩ <;> wtm_at "V.run"
  · intro j sl hj hP
    obtain ⟨e2', F, k2, s1, s2, s3, s4, rfl⟩ := hP
    have hj' : j < (kn.map (·.1)).length := by rw [List.length_map]; exact hj
    have ha := int_at hj'
    have hge : (kn.map (·.1))[j]? = some (kn.map (·.1))[j] := List.getElem?_eq_getElem hj'
    have hmem : (kn.map (·.1))[j] ∈ kn.map (·.1) := List.getElem_mem hj'
    generalize (kn.map (·.1))[j] = b at *
    have hb := I.ok b (gGet_mem.mpr hmem)
    obtain ⟨xs, hx⟩ := isSome_ex hb.2
    have hx9 := (W.kc _ _ hx).2.2
    have ht := tgF_len (xs := xs)
    have lc := kn_lc2 (kn := kn) (F := F) (e0 := .lst .mu ((kn.map (·.1)).map .int)) W hx
    have ad := add_lst (datas_ints (l := F)) (datas_ints (l := xs.flatMap tgF)) (by rw [List.length_map, List.length_map]; omega)
    rw [← List.map_append] at ad
    refine ⟨⟨kS c kn e2' (.own (.bl false)) (.own (.lst .mu (F.map .int))) .emp, [.own (.int b), .own (.lst .mu ((kn.map (·.1)).map .int))]⟩, ⟨kS c kn (.own (.int b)) (.own (.bl false)) (.own (.lst .mu (F.map .int))) .emp, [.own (.lst .mu ((kn.map (·.1)).map .int))]⟩, kS c kn (.own (.int b)) (.own (.bl false)) (.own (.lst .mu ((F ++ xs.flatMap tgF).map .int))) .emp, ?_, ?_, ?_, .own (.int b), F ++ xs.flatMap tgF, .inr ⟨_, rfl⟩, ?_, ?_, fun x hx' => List.mem_append_left _ (s3 x hx'), ?_, rfl⟩
    · clear lc ad ht hx9 hb hmem hge s1 s2 s3 s4 hkl hsl hF hn I W G
      generalize (kn.map (·.1)).map T.int = ks at *
      unfold item itemE kL
      wtm_at "V.run"
    · exact gSlot_ok (by simp [noal_own, noal_emp, k2.noal])
    · clear ha ht hx9 hb hmem hge s1 s2 s3 s4 hkl hsl hF hn I W G el hx
      generalize (kn.map (·.1)).map T.int = ks at *
      unfold kS at lc ⊢
      wtm_at "V.run"
    · intro x hx'
      rcases List.mem_append.mp hx' with hx' | hx'
      · exact s1 x hx'
      · obtain ⟨s, hs⟩ := tgF_mem.mp hx'
        exact ⟨.slot hb.1 hx hs, G _ _ _ _ _ hx hs⟩
    · rw [List.length_append]; omega
    · intro j' hj'' b' hb' xs' s o hx' ho
      by_cases h : j' < j
      · exact List.mem_append_left _ (s4 j' h b' hb' xs' s o hx' ho)
      · have : j' = j := by omega
        subst this
        rw [hge] at hb'
        cases hb'
        rw [hx] at hx'
        cases hx'
        exact List.mem_append_right _ (tgF_mem.mpr ⟨s, ho⟩)
theorem KInv.add {x : Int} (I : KInv c kn) (hx : Rch c x ∧ (gGet c.slots x).isSome) : KInv c (gPut kn x ()) := by
  refine ⟨gPut_nodup I.nd, fun b u h => some_put (I.hd b u h), fun b hb => ?_⟩
  rw [gGet_put] at hb
  split at hb
  · rename_i e; subst e; exact hx
  · exact I.ok b hb
/-- what is fresh becomes known -/
theorem kn_W3 {e2 : Ent} {F : List Int} (W : c.wf) (I : KInv c kn) (h2 : In5 e2) (hF : Sound c F) : ∃ (e2' : Ent) (kn' : List (Int × Unit)) (g : Bool), In5 e2' ∧ KInv c kn' ∧ (g = false → kn' = kn ∧ ∀ x ∈ F, (gGet kn x).isSome) ∧ (g = true → kn.length < kn'.length) ∧ (sFor kL (eName 4) (gSlot 2) (sIf (tVal (eBin (eName 2) (eName 1) (op2 kNin))) (sSeq (sSub (ePush (.bl true)) (eName 1) (eName 2)) (sSet 3 (ePush (.bl true)))) sNil)) ⟨kS c kn e2 (.own (.bl false)) (.own (.lst .mu (F.map .int))) .emp, []⟩ = .nx ⟨kS c kn' e2' (.own (.bl g)) (.own (.lst .mu (F.map .int))) .emp, []⟩ := by
  have hh := sFor_inv (kd := kL) (fe := eName 4) (g := gSlot 2) (body := (sIf (tVal (eBin (eName 2) (eName 1) (op2 kNin))) (sSeq (sSub (ePush (.bl true)) (eName 1) (eName 2)) (sSet 3 (ePush (.bl true)))) sNil)) (δ := ⟨kS c kn e2 (.own (.bl false)) (.own (.lst .mu (F.map .int))) .emp, []⟩) (sl := kS c kn e2 (.own (.bl false)) (.own (.lst .mu (F.map .int))) .emp) (e := .al 4 []) (st := []) (n := F.length)
    (fun j sl => ∃ (e2' : Ent) (kn' : List (Int × Unit)) (g : Bool), In5 e2' ∧ KInv c kn' ∧ (g = false → kn' = kn ∧ ∀ j', j' < j → ∀ x, F[j']? = some x → (gGet kn x).isSome) ∧ (g = true → kn.length < kn'.length) ∧ kn.length ≤ kn'.length ∧ sl = kS c kn' e2' (.own (.bl g)) (.own (.lst .mu (F.map .int))) .emp) ?_ ⟨e2, kn, false, h2, I, fun _ => ⟨rfl, fun j' h => absurd h (Nat.not_lt_zero _)⟩, fun h => (by cases h), Nat.le_refl _, rfl⟩ (fun j sl hh => by
      obtain ⟨_, _, _, _, _, _, _, _, rfl⟩ := hh
      show some (F.map T.int).length = _
      rw [List.length_map]) ?_
  · obtain ⟨sl', g0, e2', kn', g, k2, I', q1, q2, q3, rfl⟩ := hh
    refine ⟨e2', kn', g, k2, I', fun hg => ⟨(q1 hg).1, fun x hx => ?_⟩, q2, g0⟩
    obtain ⟨j, hj, rfl⟩ := List.mem_iff_getElem.mp hx
    exact (q1 hg).2 j hj _ (List.getElem?_eq_getElem hj)
  · rcases h2 with rfl | ⟨i2, rfl⟩ <;> rfl
  · intro j sl hj hP
    obtain ⟨e2', kn', g, k2, I', q1, q2, q3, rfl⟩ := hP
    have ha := int_at hj
    have hge : F[j]? = some F[j] := List.getElem?_eq_getElem hj
    have hs := hF F[j] (List.getElem_mem hj)
    generalize F[j] = x at *
    have hkl : kn'.length < lineA := Nat.lt_of_le_of_lt I'.len W.sA
    refine ⟨⟨kS c kn' e2' (.own (.bl g)) (.own (.lst .mu (F.map .int))) .emp, [.own (.int x), .al 4 []]⟩, ⟨kS c kn' (.own (.int x)) (.own (.bl g)) (.own (.lst .mu (F.map .int))) .emp, [.al 4 []]⟩, ?_⟩
    cases hx : gGet kn' x with
    | some u =>
      refine ⟨kS c kn' (.own (.int x)) (.own (.bl g)) (.own (.lst .mu (F.map .int))) .emp, ?_, gSlot_ok (by simp [noal_own, noal_emp, k2.noal, show Ent.noal 2 (.al 4 []) = true from rfl]), ?_, _, kn', g, .inr ⟨_, rfl⟩, I', fun hg => ⟨(q1 hg).1, fun j' hj' y hy => ?_⟩, q2, q3, rfl⟩
      · clear hx hkl hge hs q1 q2 q3 I' I W hF
        unfold item itemE kL
        wtm_at "V.run"
      · clear ha hkl hge hs q1 q2 q3 I' I W hF
        generalize F.map T.int = ff at *
        wtm_at "V.run"
      · by_cases h : j' < j
        · exact (q1 hg).2 j' h y hy
        · have : j' = j := by omega
          subst this
          rw [hge] at hy
          cases hy
          rw [← (q1 hg).1, hx]; rfl
    | none =>
      have hnm := gGet_none.mp hx
      refine ⟨kS c (gPut kn' x ()) (.own (.int x)) (.own (.bl true)) (.own (.lst .mu (F.map .int))) .emp, ?_, gSlot_ok (by simp [noal_own, noal_emp, k2.noal, show Ent.noal 2 (.al 4 []) = true from rfl]), ?_, _, gPut kn' x (), true, .inr ⟨_, rfl⟩, I'.add hs, fun hg => (by cases hg), fun _ => ?_, ?_, rfl⟩
      · clear hx hkl hge hs q1 q2 q3 I' I W hF hnm
        unfold item itemE kL
        wtm_at "V.run"
      · clear ha hge hs q1 q2 q3 I' I W hF hnm
        generalize F.map T.int = ff at *
        wtm_at "V.run"
      · rw [len_put, if_neg hnm]; omega
      · rw [len_put, if_neg hnm]; omega
theorem kn_while {e2 : Ent} (W : c.wf) (G : tgtOk c) (I : KInv c kn) (h2 : In5 e2) : ∃ (kn' : List (Int × Unit)) (e2' e4' : Ent), KnR c kn' ∧ In5 e2' ∧ OwnE e4' ∧ (sWhile (tTru (eName 3)) (sSeq (sSet 3 (ePush (.bl false))) (sSeq (sSet 4 (eLc kL (eThen (eBin (eName 0) (ePush (.int 2)) eIx) (op1 kVals)) (gSlot 5) (tAnd (tVal (eBin (eBin (eName 5) (ePush (.int 0)) eIx) (eName 1) (op2 kIn))) (tVal (eBin (eBin (eName 5) (ePush (.int 1)) eIx) (eName 1) (op2 kIn)))) (eBin (eName 5) (ePush (.int 2)) eIx) [5])) (sSeq (sFor kL (eThen (eThen (eName 1) eNil) (op1 kList)) (gSlot 2) (sSet 4 (eBin (eName 4) (eLc kL (eBin (eBin (eName 0) (ePush (.int 0)) eIx) (eName 2) eIx) (gSlot 5) (tAnd (tVal (eBin (eName 5) (ePush .non) (op2 kNotN))) (tTru (eBin (eName 5) (ePush (.int 1)) eIx))) (eBin (eName 5) (ePush (.int 0)) eIx) [5]) (op2 kAdd)))) (sFor kL (eName 4) (gSlot 2) (sIf (tVal (eBin (eName 2) (eName 1) (op2 kNin))) (sSeq (sSub (ePush (.bl true)) (eName 1) (eName 2)) (sSet 3 (ePush (.bl true)))) sNil)))))) ⟨kS c kn e2 (.own (.bl true)) .emp .emp, []⟩ = .nx ⟨kS c kn' e2' (.own (.bl false)) e4' .emp, []⟩ := by
  have hw := sWhile_inv (c := (tTru (eName 3))) (body := (sSeq (sSet 3 (ePush (.bl false))) (sSeq (sSet 4 (eLc kL (eThen (eBin (eName 0) (ePush (.int 2)) eIx) (op1 kVals)) (gSlot 5) (tAnd (tVal (eBin (eBin (eName 5) (ePush (.int 0)) eIx) (eName 1) (op2 kIn))) (tVal (eBin (eBin (eName 5) (ePush (.int 1)) eIx) (eName 1) (op2 kIn)))) (eBin (eName 5) (ePush (.int 2)) eIx) [5])) (sSeq (sFor kL (eThen (eThen (eName 1) eNil) (op1 kList)) (gSlot 2) (sSet 4 (eBin (eName 4) (eLc kL (eBin (eBin (eName 0) (ePush (.int 0)) eIx) (eName 2) eIx) (gSlot 5) (tAnd (tVal (eBin (eName 5) (ePush .non) (op2 kNotN))) (tTru (eBin (eName 5) (ePush (.int 1)) eIx))) (eBin (eName 5) (ePush (.int 0)) eIx) [5]) (op2 kAdd)))) (sFor kL (eName 4) (gSlot 2) (sIf (tVal (eBin (eName 2) (eName 1) (op2 kNin))) (sSeq (sSub (ePush (.bl true)) (eName 1) (eName 2)) (sSet 3 (ePush (.bl true)))) sNil)))))) (st := [])
    (fun m sl => ∃ (kn : List (Int × Unit)) (g : Bool) (e2 e4 : Ent), KInv c kn ∧ (g = false → KCl c kn) ∧ m = 2 * (61 - kn.length) + (if g = true then 1 else 0) ∧ In5 e2 ∧ OwnE e4 ∧ sl = kS c kn e2 (.own (.bl g)) e4 .emp)
    (fun sl => ∃ (kn' : List (Int × Unit)) (e2' e4' : Ent), KnR c kn' ∧ In5 e2' ∧ OwnE e4' ∧ sl = kS c kn' e2' (.own (.bl false)) e4' .emp) ?_ (m := 2 * (61 - kn.length) + 1) (sl := kS c kn e2 (.own (.bl true)) .emp .emp) ⟨kn, true, e2, .emp, I, fun h => (by cases h), rfl, h2, .inl rfl, rfl⟩
  · obtain ⟨sl', g, kn', e2', e4', a1, a2, a3, rfl⟩ := hw
    exact ⟨kn', e2', e4', a1, a2, a3, g⟩
  · intro m sl hP
    obtain ⟨kn, g, e2, e4, I, C, rfl, h2, h4, rfl⟩ := hP
    cases g with
    | false =>
      refine .inl ⟨_, ?_, kn, e2, e4, kn_of I (C rfl), h2, h4, rfl⟩
      clear C I W G
      wtm_at "V.run"
    | true =>
      obtain ⟨p1, p2, p3⟩ := prF_sound W I
      have w1 := kn_W1 (kn := kn) W h2 h4
      generalize (c.paired.map (·.2)).flatMap (prF kn) = F0 at *
      obtain ⟨e2', F, k2, s1, s2, s3, w2⟩ := kn_W2 W G I h2 p1 p2
      obtain ⟨e2'', kn', g', k2', I', q1, q2, w3⟩ := kn_W3 W I k2 s1
      have w0 : (sSet 3 (ePush (.bl false))) ⟨kS c kn e2 (.own (.bl true)) e4 .emp, []⟩ = .nx ⟨kS c kn e2 (.own (.bl false)) e4 .emp, []⟩ := by
        clear w1 w2 w3 q1 q2 I' s1 s2 s3 p1 p2 p3 C I W G
        rcases h2 with rfl | ⟨i2, rfl⟩ <;> rcases h4 with rfl | ⟨i4, rfl⟩ <;> wtm_at "V.run"
      have hl := I'.len
      have hsl := W.sl
      refine .inr ⟨kS c kn e2 (.own (.bl true)) e4 .emp, _, 2 * (61 - kn'.length) + (if g' = true then 1 else 0), ?_, (seq_nx w0).trans ((seq_nx w1).trans ((seq_nx w2).trans w3)), ?_, kn', g', e2'', _, I', fun hg => ?_, rfl, k2', .inr ⟨_, rfl⟩, rfl⟩
      · clear w0 w1 w2 w3 q1 q2 I' s1 s2 s3 p1 p2 p3 C I W G
        wtm_at "V.run"
      · cases g' with
        | false =>
          rw [(q1 rfl).1]
          simp
        | true =>
          have := q2 rfl
          simp
          omega
      · obtain ⟨rfl, hall⟩ := q1 hg
        exact ⟨fun b hb xs s o hx ho => hall o (s3 b hb xs s o hx ho), fun n p hp h1 h2 => hall _ (s2 _ (p3 n p hp h1 h2))⟩
theorem known_ok (W : c.wf) (G : tgtOk c) : ∃ kn', KnR c kn' ∧ Ff_law_known [worldT c] = .ok (knD kn') [worldT c] := by
  obtain ⟨e2, h2, g1⟩ := kn_1 W
  obtain ⟨kn', e2', e4', hk, h2', h4', g3⟩ := kn_while W G (held_inv W) h2
  refine ⟨kn', hk, ?_⟩
  have g0 : (sSet 1 eDct) ⟨[.own (worldT c), .emp, .emp, .emp, .emp, .emp], []⟩ = .nx ⟨kS c [] .emp .emp .emp .emp, []⟩ := by
    clear g1 g3 W G
    wtm_at "V.run"
    rfl
  have g2 : (sSet 3 (ePush (.bl true))) ⟨kS c c.held e2 .emp .emp .emp, []⟩ = .nx ⟨kS c c.held e2 (.own (.bl true)) .emp .emp, []⟩ := by
    clear g0 g1 g3 W G
    rcases h2 with rfl | ⟨i2, rfl⟩ <;> wtm_at "V.run"
  have g4 : (sRet (eThen (eName 1) eMov)) ⟨kS c kn' e2' (.own (.bl false)) e4' .emp, []⟩ = .rt ⟨[.own (worldT c), .emp, e2', .own (.bl false), e4', .emp], [.own (knD kn')]⟩ := by
    clear g0 g1 g2 g3 W G
    rcases h2' with rfl | ⟨i2, rfl⟩ <;> rcases h4' with rfl | ⟨i4, rfl⟩ <;> wtm_at "V.run"
  have e : cdf_law_known ⟨[.own (worldT c), .emp, .emp, .emp, .emp, .emp], []⟩ = .rt ⟨[.own (worldT c), .emp, e2', .own (.bl false), e4', .emp], [.own (knD kn')]⟩ := (seq_nx g0).trans ((seq_nx g1).trans ((seq_nx g2).trans ((seq_nx g3).trans g4)))
  unfold Ff_law_known runDef
  show (match cdf_law_known ⟨[.own (worldT c), .emp, .emp, .emp, .emp, .emp], []⟩ with | .nx δ => FR.ok .non (outsOf [worldT c] δ.sl) | .rt δ => (match δ.st with | .own t :: _ => .ok t (outsOf [worldT c] δ.sl) | _ => .no) | .ex C sl => .ex C (outsOf [worldT c] sl) | _ => .no) = _
  rw [e]; rfl
theorem lawlost_lc (W : c.wf) : lp_lawlost_0 ⟨[.own (worldT c), .own (knD kn), .emp], []⟩ = .ok ⟨[.own (worldT c), .own (knD kn), .emp], [.own (.lst .mu ((lostF c kn).map .int))]⟩ := by
  have h64 : c.slots.length < 64 := Nat.lt_of_le_of_lt W.sl (by decide)
  have e1 := sort_slots h64
  have hln : (srt (c.slots.map (·.1))).length < lineA := by rw [srt_length, List.length_map]; exact W.sA
  unfold lostF
  generalize hks : srt (c.slots.map (·.1)) = ks at *
  refine (eLc_run (n := ks.length) (st := []) (e := .own (.lst .mu (ks.map .int))) (sl := [.own (worldT c), .own (knD kn), .emp]) (fun _ => [.own (worldT c), .own (knD kn), .emp]) (fun j => (fun b => if (!(gGet kn b).isSome) = true then [T.int b] else []) (ks.getD j 0)) ?_ rfl ?_ hln (fun j => by dsimp only; split <;> simp) ?_ ?_).trans ?_
  · clear hln W
    subst hks
    unfold worldT slotsD
    wtm_at "V.run"
  · show some (ks.map T.int).length = _; rw [List.length_map]
  · show some (ks.map T.int).length = _; rw [List.length_map]
  · intro j acc hj ha
    have e := int_at hj
    have e3 : ks.getD j 0 = ks[j] := by rw [List.getD_eq_getElem?_getD, List.getElem?_eq_getElem hj]; rfl
    rw [e3]
    generalize ks[j] = b at *
    clear hln hj e1 h64 W e3 hks
    cases hk : gGet kn b with
    | none =>
      have hv : (fun b => if (!(gGet kn b).isSome) = true then [T.int b] else []) b = [T.int b] := by simp [hk]
      rw [hv]
      clear hv
      unfold lcTurn item2 itemE kL
      wtm_at "V.run"
    | some u =>
      have hv : (fun b => if (!(gGet kn b).isSome) = true then [T.int b] else []) b = [] := by simp [hk]
      rw [hv, List.append_nil]
      clear hv
      unfold lcTurn item2 itemE kL
      wtm_at "V.run"
  · rw [flat_get (f := fun b => if (!(gGet kn b).isSome) = true then [T.int b] else []), flat_filter (p := fun b => !(gGet kn b).isSome)]
end
theorem lawlost_ok {c : CS} (W : c.wf) (G : tgtOk c) : ∃ kn, KnR c kn ∧ Ff_law_lost [worldT c] = .ok (.lst .mu ((lostF c kn).map .int)) [worldT c] := by
  obtain ⟨kn, hk, e1⟩ := known_ok W G
  refine ⟨kn, hk, ?_⟩
  have e2 := lawlost_lc (kn := kn) W
  generalize lostF c kn = ll at *
  clear hk W G
  unfold Ff_law_lost
  wtm_at "V.run"
abbrev l6S (ns : List Int) (c1 c2 : CS) (kept : List T) (cs : List (Int ⊕ Op)) (e5 e6 e7 e8 : Ent) : List Ent := [.own (.scr ns), .own (chestT c1), .own (worldT c2), .own (.lst .mu kept), .own (.lst .mu (cs.map cellT)), e5, e6, e7, e8, .emp]
section
variable {ns : List Int} {c c' : CS} {kept : List T} {cs : List (Int ⊕ Op)} {e6 e7 e8 : Ent} {j : Nat} {op : Op} {v : Option Int}
theorem l6_B0 {ce : Int ⊕ Op} (h6 : DdE e6) (h7 : OwnE e7) (h8 : OwnE e8) (hj : cs[j]? = some ce) (hd : Ff_law_deed_by [cellT ce, worldT c] = .ok (opT op) [cellT ce, worldT c]) : (sSet 6 (eCall 2 Ff_law_deed_by (eThen (eBin (eName 4) (eName 5) eIx) (eThen (eName 2) eNil)))) ⟨l6S ns c c kept cs (.own (.int j)) e6 e7 e8, []⟩ = .nx ⟨l6S ns c c kept cs (.own (.int j)) (.own (opT op)) e7 e8, []⟩ := by
  have hlt : j < cs.length := (List.getElem?_eq_some_iff.mp hj).1
  have e3 : (cs.map cellT)[j]? = some (cellT ce) := by rw [List.getElem?_map, hj]; rfl
  have e4 := ixN_nat (n := cs.length) hlt
  have e5 := @cellT_data
  clear hj hlt
  unfold l6S
  rcases h6 with rfl | ⟨o6, rfl⟩ <;> rcases h7 with rfl | ⟨t7, rfl⟩ <;> rcases h8 with rfl | ⟨t8, rfl⟩ <;> wtm_at "V.run"
theorem l6_B1 (W : c.wf) (h7 : OwnE e7) (h8 : OwnE e8) (ha : c.act op = .yes v c') : (sExpr (eCall 2 Ff_law_told (eThen (eName 1) (eThen (eName 6) eNil)))) ⟨l6S ns c c kept cs (.own (.int j)) (.own (opT op)) e7 e8, []⟩ = .nx ⟨l6S ns c' c kept cs (.own (.int j)) (.own (opT op)) e7 e8, []⟩ := by
  have e1 := told_yes W ha
  have e2 := @opT_data
  clear W ha
  unfold l6S
  rcases h7 with rfl | ⟨t7, rfl⟩ <;> rcases h8 with rfl | ⟨t8, rfl⟩ <;> wtm_at "V.run"
theorem l6_B2 (W : c.wf) (h7 : OwnE e7) (h8 : OwnE e8) (ha : c.act op = .yes v c') : (sExpr (eCall 2 Ff_law_do (eThen (eName 2) (eThen (eName 6) eNil)))) ⟨l6S ns c' c kept cs (.own (.int j)) (.own (opT op)) e7 e8, []⟩ = .nx ⟨l6S ns c' c' kept cs (.own (.int j)) (.own (opT op)) e7 e8, []⟩ := by
  have e1 := do_yes W ha
  have e2 := @opT_data
  clear W ha
  unfold l6S
  rcases h7 with rfl | ⟨t7, rfl⟩ <;> rcases h8 with rfl | ⟨t8, rfl⟩ <;> wtm_at "V.run"
theorem l6_B3 (W : c.wf) (G : tgtOk c) (h7 : OwnE e7) (h8 : OwnE e8) (hk : kept.length < lineA) (hs : ∀ k ∈ kept, Same k) : ∃ (kept' : List T) (e7' e8' : Ent), kept'.length ≤ kept.length + 1 ∧ (∀ k ∈ kept', Same k) ∧ OwnE e7' ∧ OwnE e8' ∧ (sIf (tOr (tVal (eBin (eBin (eName 5) (ePush (.int 3)) (op2 kMod)) (ePush (.int 2)) (op2 kEq))) (tVal (eBin (eName 5) (eBin (eThen (eThen (eName 4) eNil) (op1 kLen)) (ePush (.int 1)) (op2 kSub)) (op2 kEq)))) (sSeq (sSet 7 (eCall 1 Ff_law_lost (eThen (eName 2) eNil))) (sSeq (sSet 8 (eCall 1 Ff_lost (eThen (eName 1) eNil))) (sSeq (sIf (tNot (tTru (eCall 2 Ff_law_numbers (eThen (eName 8) (eThen (eName 7) eNil))))) (sRet (ePush (.bl false))) sNil) (sSeq (sExpr (eMeth isLst (eName 8) (eThen (eThen (eThen (ePush (.int 1)) (op1 kNeg)) eFrz) eNil) eAppend)) (sSeq (sExpr (eMeth isLst (eName 3) (eThen (eThen (eLst 2 (eThen (eThen (eName 8) eFrz) (eThen (eThen (eThen (eThen (eName 8) eNil) (op1 kList)) eFrz) eNil))) eFrz) eNil) eAppend)) (sIf (tNot (tTru (eCall 2 Ff_law_numbers (eThen (eCall 1 Ff_lost (eThen (eName 1) eNil)) (eThen (eName 7) eNil))))) (sRet (ePush (.bl false))) sNil)))))) sNil) ⟨l6S ns c c kept cs (.own (.int j)) (.own (opT op)) e7 e8, []⟩ = .nx ⟨l6S ns c c kept' cs (.own (.int j)) (.own (opT op)) e7' e8', []⟩ := by
  have e1 : kMod (.int (j : Int)) (.int 3) = some (.int ((j : Int) % 3)) := kMod_pos (by decide)
  have e2 := @opT_data
  obtain ⟨kn, k1, e3⟩ := lost_ok W G
  obtain ⟨kn', k2, e4⟩ := lawlost_ok W G
  rw [lostF_eq k2 k1] at e4
  have hrl : (lostF c kn).length < lineA := by
    have h1 : (lostF c kn).length ≤ (srt (c.slots.map (·.1))).length := List.length_filter_le ..
    rw [srt_length, List.length_map] at h1
    exact Nat.lt_of_le_of_lt h1 W.sA
  generalize lostF c kn = ll at *
  have e5 := numbers_ok (m := .mu) hrl
  have z1 : (1 : Nat) ≤ sizeLine := by decide
  have z2 : (2 : Nat) ≤ sizeLine := by decide
  have q1 := @neg_int
  have x1 : ll.map T.int ++ [.int (-1)] = (ll ++ [-1]).map T.int := by rw [List.map_append]; rfl
  have x2 := datas_ints (l := ll ++ [-1])
  have x5 := cmp_ints (m := .fz) (is := ll ++ [-1])
  have fin : ∀ k ∈ kept ++ [keptT ((ll ++ [-1]).map T.int)], Same k := fun k hk => by
    rcases List.mem_append.mp hk with hk | hk
    · exact hs k hk
    · have := List.mem_singleton.mp hk
      subst this
      exact ⟨_, rfl, cmp_mono x5 (by omega), x2⟩
  by_cases h3 : (j : Int) % 3 = 2
  · refine ⟨_, .own (.lst .mu (ll.map .int)), .own (.lst .fz ((ll ++ [-1]).map .int)), by rw [List.length_append]; simp, fin, .inr ⟨_, rfl⟩, .inr ⟨_, rfl⟩, ?_⟩
    rw [h3] at e1
    clear fin x5 k1 k2 W G hs h3
    generalize hl2 : ll ++ [-1] = l2 at *
    clear hl2
    unfold l6S keptT
    rcases h7 with rfl | ⟨t7, rfl⟩ <;> rcases h8 with rfl | ⟨t8, rfl⟩ <;> wtm_at "V.run"
  · by_cases hl : (j : Int) = (cs.length : Int) - 1
    · refine ⟨_, .own (.lst .mu (ll.map .int)), .own (.lst .fz ((ll ++ [-1]).map .int)), by rw [List.length_append]; simp, fin, .inr ⟨_, rfl⟩, .inr ⟨_, rfl⟩, ?_⟩
      have hl' := eq_true hl
      have h3' := eq_false h3
      clear fin x5 k1 k2 W G hs h3 hl
      generalize hl2 : ll ++ [-1] = l2 at *
      clear hl2
      generalize (j : Int) % 3 = x at *
      unfold l6S keptT
      rcases h7 with rfl | ⟨t7, rfl⟩ <;> rcases h8 with rfl | ⟨t8, rfl⟩ <;> wtm_at "V.run"
    · refine ⟨kept, e7, e8, by omega, hs, h7, h8, ?_⟩
      have hl' := eq_false hl
      have h3' := eq_false h3
      clear fin x1 x2 x5 k1 k2 W G hs hl h3 e3 e4 e5
      generalize (j : Int) % 3 = x at *
      unfold l6S
      wtm_at "V.run"
end
theorem l6_stay {ns : List Int} {c : CS} {kept : List T} {cs : List (Int ⊕ Op)} {e5 e6 e7 e8 : Ent} (h5 : In5 e5) (h6 : DdE e6) (h7 : OwnE e7) (h8 : OwnE e8) (hk : kept.length < lineA) (hs : ∀ k ∈ kept, Same k) : (sRet (eThen (eThen (eLc kL (eName 3) (gSlot 9) bYes (eBin (eBin (eName 9) (ePush (.int 0)) eIx) (eBin (eName 9) (ePush (.int 1)) eIx) (op2 kEq)) [9]) eNil) (op1 kAll))) ⟨l6S ns c c kept cs e5 e6 e7 e8, []⟩ = .rt ⟨l6S ns c c kept cs e5 e6 e7 e8, [.own (.bl true)]⟩ := by
  have lc : lp_law_1 ⟨l6S ns c c kept cs e5 e6 e7 e8, []⟩ = .ok ⟨l6S ns c c kept cs e5 e6 e7 e8, [.own (.lst .mu (kept.map fun _ => .bl true))]⟩ := by
    refine (eLc_run (n := kept.length) (st := []) (e := .al 3 []) (sl := l6S ns c c kept cs e5 e6 e7 e8) (fun _ => l6S ns c c kept cs e5 e6 e7 e8) (fun j => [.bl true]) rfl ?_ rfl hk (fun _ => Nat.le_refl _) rfl fun j acc hj ha => ?_).trans ?_
    · rcases h5 with rfl | ⟨i5, rfl⟩ <;> rcases h6 with rfl | ⟨o6, rfl⟩ <;> rcases h7 with rfl | ⟨t7, rfl⟩ <;> rcases h8 with rfl | ⟨t8, rfl⟩ <;> rfl
    · obtain ⟨xs, e1, e2, e5'⟩ := hs kept[j] (List.getElem_mem hj)
      have e3 : kept[j]? = some (keptT xs) := by rw [List.getElem?_eq_getElem hj, e1]
      have e4 := kEq_refl (x := .lst .fz xs) (y := .lst .fz xs) e2 rfl (by decide)
      clear e1 e2 hk hs
      unfold keptT at e3
      unfold lcTurn item2 itemE kL l6S
      rcases h5 with rfl | ⟨i5, rfl⟩ <;> rcases h6 with rfl | ⟨o6, rfl⟩ <;> rcases h7 with rfl | ⟨t7, rfl⟩ <;> rcases h8 with rfl | ⟨t8, rfl⟩ <;> wtm_at "V.run"
    · rw [flatMap_one]
      rw [range_get (g := fun _ => T.bl true) (fun _ _ _ => rfl)]
  have e2 := all_true (l := kept)
  clear hs hk
  unfold l6S at lc ⊢
  wtm_at "V.run"
def Law6 (ns : List Int) (ops : List Op) (cs : List (Int ⊕ Op)) (j : Nat) (sl : List Ent) : Prop := ∃ (c : CS) (kept : List T) (e5 e6 e7 e8 : Ent), c.wf ∧ tgtOk c ∧ (j ≤ ops.length → runL CS.nil (ops.take j) = some c) ∧ (∀ k ∈ kept, Same k) ∧ kept.length ≤ j ∧ In5 e5 ∧ DdE e6 ∧ OwnE e7 ∧ OwnE e8 ∧ sl = l6S ns c c kept cs e5 e6 e7 e8
theorem l6_loop {ns : List Int} {ops : List Op} {l : List Int} {cn : CS} (hr : runL CS.nil ops = some cn) (hn : ops.length + l.length ≤ 500) : ∃ sl', lp_law_0 ⟨l6S ns CS.nil CS.nil [] (ops.map Sum.inr ++ l.map Sum.inl) .emp .emp .emp .emp, []⟩ = .nx ⟨sl', []⟩ ∧ Law6 ns ops (ops.map Sum.inr ++ l.map Sum.inl) (((ops.map Sum.inr ++ l.map Sum.inl : List (Int ⊕ Op)).length : Int)).toNat sl' := by
  have hcl : (ops.map Sum.inr ++ l.map Sum.inl : List (Int ⊕ Op)).length = ops.length + l.length := by rw [List.length_append, List.length_map, List.length_map]
  refine sFor1_slot (i := ((ops.map Sum.inr ++ l.map Sum.inl : List (Int ⊕ Op)).length : Int)) (Law6 ns ops (ops.map Sum.inr ++ l.map Sum.inl)) ?_ (by omega) (by omega) ⟨CS.nil, [], .emp, .emp, .emp, .emp, wf_nil, tgt_nil, fun _ => rfl, fun k hk => absurd hk (List.not_mem_nil), Nat.le_refl _, .inl rfl, .inl rfl, .inl rfl, .inl rfl, rfl⟩ fun j sl hj hP => ?_
  · clear hr hn hcl
    generalize (ops.map Sum.inr ++ l.map Sum.inl : List (Int ⊕ Op)) = cs at *
    unfold l6S
    wtm_at "V.run"
  · obtain ⟨c, kept, e5, e6, e7, e8, W, G, hrun, hs, hk, h5, h6, h7, h8, rfl⟩ := hP
    have hj' : j < ops.length + l.length := by omega
    have hA : lineA = 1000000 := rfl
    refine ⟨by simp [noal_own, noal_emp, h5.noal, h6.noal, h7.noal, h8.noal], ?_⟩
    have key : ∃ (ce : Int ⊕ Op) (op : Op) (v : Option Int) (c' : CS), (ops.map Sum.inr ++ l.map Sum.inl : List (Int ⊕ Op))[j]? = some ce ∧ c.act op = .yes v c' ∧ Ff_law_deed_by [cellT ce, worldT c] = .ok (opT op) [cellT ce, worldT c] ∧ (j + 1 ≤ ops.length → runL CS.nil (ops.take (j + 1)) = some c') := by
      by_cases hjo : j < ops.length
      · obtain ⟨c1, v, c2, r1, r2, r3⟩ := runL_at hr hjo
        rw [hrun (by omega)] at r1
        cases r1
        refine ⟨.inr ops[j], ops[j], v, c2, ?_, r2, deed5_op, fun _ => r3⟩
        rw [List.getElem?_append_left (by rw [List.length_map]; exact hjo), List.getElem?_map, List.getElem?_eq_getElem hjo]; rfl
      · have hjl : j - ops.length < l.length := by omega
        obtain ⟨op, v, c', ha, hd⟩ := deed5_int (cell := l[j - ops.length]) W
        refine ⟨.inl l[j - ops.length], op, v, c', ?_, ha, hd, fun z => by omega⟩
        rw [List.getElem?_append_right (by rw [List.length_map]; omega), List.length_map, List.getElem?_map, List.getElem?_eq_getElem hjl]; rfl
    obtain ⟨ce, op, v, c', k1, ha, hd, k3⟩ := key
    have W' := wf_act W ha
    have G' := tgt_act W G ha
    obtain ⟨kept', e7', e8', p1, p2, p3, p4, b3⟩ := l6_B3 (ns := ns) (cs := ops.map Sum.inr ++ l.map Sum.inl) (j := j) (op := op) W' G' h7 h8 (by omega : kept.length < lineA) hs
    exact ⟨_, (seq_nx (l6_B0 h6 h7 h8 k1 hd)).trans ((seq_nx (l6_B1 W h7 h8 ha)).trans ((seq_nx (l6_B2 W h7 h8 ha)).trans b3)), c', kept', _, _, _, _, W', G', k3, p2, by omega, .inr ⟨_, rfl⟩, .inr ⟨_, rfl⟩, p3, p4, rfl⟩
theorem init_nil : Fm_init [.ins 7 []] = .ok .non [chestT CS.nil] := by
  unfold Fm_init
  have e2 : (0 : Nat) ≤ sizeLine := by decide
  have e1 : decide (0 < 1000) = true := rfl
  wtm_at "V.runs"
  rfl
theorem world_nil : Ff_law_world [] = .ok (worldT CS.nil) [] := by
  have e2 : (5 : Nat) ≤ sizeLine := by decide
  have e1 : (2 : Nat) ≤ sizeLine := by decide
  unfold Ff_law_world
  wtm_at "V.run"
  rfl
theorem law_ok {ns : List Int} (hl : ns.length ≤ 63) : Ff_law [.scr ns] = .ok (.bl true) [.scr ns] := by
  obtain ⟨ops, l, cn, hr, hn, e2⟩ := cells5_ok hl
  obtain ⟨sl', e3, c, kept, e5, e6, e7, e8, W, G, hrun, hs, hk, h5, h6, h7, h8, rfl⟩ := l6_loop (ns := ns) hr hn
  have hcl : (ops.map Sum.inr ++ l.map Sum.inl : List (Int ⊕ Op)).length = ops.length + l.length := by rw [List.length_append, List.length_map, List.length_map]
  have hA : lineA = 1000000 := rfl
  have hst := l6_stay (ns := ns) (c := c) (cs := ops.map Sum.inr ++ l.map Sum.inl) h5 h6 h7 h8 (by omega : kept.length < lineA) hs
  have i1 := init_nil
  have i2 := world_nil
  have z0 : (0 : Nat) ≤ sizeLine := by decide
  generalize (ops.map Sum.inr ++ l.map Sum.inl : List (Int ⊕ Op)) = cs at *
  generalize CS.nil = cz at *
  have a0 : (sSet 1 (eMake 7 Fm_init)) ⟨[.own (.scr ns), .emp, .emp, .emp, .emp, .emp, .emp, .emp, .emp, .emp], []⟩ = .nx ⟨[.own (.scr ns), .own (chestT cz), .emp, .emp, .emp, .emp, .emp, .emp, .emp, .emp], []⟩ := by
    clear e3 hst hs hk
    wtm_at "V.run"
  have a1 : (sSet 2 (eCall 0 Ff_law_world eNil)) ⟨[.own (.scr ns), .own (chestT cz), .emp, .emp, .emp, .emp, .emp, .emp, .emp, .emp], []⟩ = .nx ⟨[.own (.scr ns), .own (chestT cz), .own (worldT cz), .emp, .emp, .emp, .emp, .emp, .emp, .emp], []⟩ := by
    clear e3 hst hs hk a0
    wtm_at "V.run"
  have a2 : (sSet 3 (eLst 0 eNil)) ⟨[.own (.scr ns), .own (chestT cz), .own (worldT cz), .emp, .emp, .emp, .emp, .emp, .emp, .emp], []⟩ = .nx ⟨[.own (.scr ns), .own (chestT cz), .own (worldT cz), .own (.lst .mu []), .emp, .emp, .emp, .emp, .emp, .emp], []⟩ := by
    clear e3 hst hs hk a0 a1
    wtm_at "V.run"
  have a3 : (sSet 4 (eCall 1 Ff_law_cells (eThen (eName 0) eNil))) ⟨[.own (.scr ns), .own (chestT cz), .own (worldT cz), .own (.lst .mu []), .emp, .emp, .emp, .emp, .emp, .emp], []⟩ = .nx ⟨l6S ns cz cz [] cs .emp .emp .emp .emp, []⟩ := by
    clear e3 hst hs hk a0 a1 a2
    unfold l6S
    wtm_at "V.run"
  have e : cdf_law ⟨[.own (.scr ns), .emp, .emp, .emp, .emp, .emp, .emp, .emp, .emp, .emp], []⟩ = .rt ⟨l6S ns c c kept cs e5 e6 e7 e8, [.own (.bl true)]⟩ := (seq_nx a0).trans ((seq_nx a1).trans ((seq_nx a2).trans ((seq_nx a3).trans ((seq_nx e3).trans hst))))
  unfold Ff_law runDef
  show (match cdf_law ⟨[.own (.scr ns), .emp, .emp, .emp, .emp, .emp, .emp, .emp, .emp, .emp], []⟩ with | .nx δ => FR.ok .non (outsOf [.scr ns] δ.sl) | .rt δ => (match δ.st with | .own t :: _ => .ok t (outsOf [.scr ns] δ.sl) | _ => .no) | .ex C sl => .ex C (outsOf [.scr ns] sl) | _ => .no) = _
  rw [e]; rfl
theorem kit_ref {K : PySem.W.Frag} {t C : Addr} {b : Bool} (hd : PySem.W.hasDictIn K C = true) (ht : PySem.W.typeIn K (.ref C) = some (.type "type")) (s : PySem.W.subIn K (.ref t) (.ref C) = some b) (self : PySem.W.subIn K (.ref t) (.ref t) = some true) : PySem.W.kitOne K (.ref t) (.ref C) = some b := by
  unfold PySem.W.kitOne
  by_cases h : ((Value.ref t) == (Value.ref C)) = true
  · rw [if_pos h]
    have e : t = C := Value.ref.inj (beq_iff_eq.mp h)
    subst e
    rw [self] at s
    exact s
  · rw [if_neg h]
    obtain ⟨cd, hc, _⟩ := PySem.W.any_some hd
    show (if ((PySem.W.clsIn K C).isSome && PySem.W.typeIn K (.ref C) == some (.type "type")) = true then PySem.W.subIn K (.ref t) (.ref C) else none) = some b
    rw [if_pos (by rw [hc, ht]; rfl)]
    exact s
theorem kit_ve {K : PySem.W.Frag} {t : Addr} (s : PySem.W.subIn K (.ref t) (.type "ValueError") = some true) : PySem.W.kitOne K (.ref t) (.type "ValueError") = some true := by
  unfold PySem.W.kitOne
  rw [if_neg (fun z => by cases (beq_iff_eq.mp z))]
  show (if PySem.W.kitMeta "ValueError" = true then PySem.W.subIn K (.ref t) (.type "ValueError") else none) = some true
  rw [if_pos (by decide +kernel)]
  exact s
/-- the script, and that the answer is True -/
def spLaw (K : PySem.W.Frag) : L2.Sp := fun vs H Q _ => ∃ (a : Addr) (ns : List Int), vs = [.ref a] ∧ ns.length ≤ 63 ∧ SqL K H a (ns.map V.int) ∧ ∀ H', Q (.bl true) H'
theorem spLaw_of {K : PySem.W.Frag} {cm : Nat → Addr} (vs : List V) (H : Hp) (Q : VK) (E : XK) (h : spLaw K vs H Q E) : spF K cm 1 Ff_law vs H Q E := by
  obtain ⟨a, ns, rfl, hl, hS, hQ⟩ := h
  refine ⟨H, hnil, [.scr ns], ?_, rfl, fun _ _ h => h, fun _ _ h => (nomatch h), fun _ h => absurd rfl h, ?_⟩
  · have r : RepTs ⟨K, cm⟩ H (join hnil hnil) [.scr ns] [.ref a] := .cons (fun _ _ => rfl) (.scr hS) .nil
    have e : join hnil hnil = hnil := by funext b; rfl
    rw [e] at r
    exact r
  · rw [law_ok hl]
    intro v H' S' F' _ r
    cases r with
    | cons d h r =>
      cases h with
      | leaf h => cases h; exact hQ H'
theorem all_mk {l : PySem.W.OpenLaw} {w : World} {K : PySem.W.Frag} {h : Heap} {mg : Str → Option Value} {fa C E0 E1 E2 E3 E4 E5 f0 f1 f2 f3 f4 f5 f6 f7 f8 f9 f10 f11 f12 f13 f14 f15 f16 f17 f18 f19 f20 f21 f22 f23 f24 f25 f26 f27 f28 f29 f30 f31 f32 f33 f34 : Addr} (X : K.In h) (Gm : h.Ns mainGlobals mg) (hfa : mg "law" = some (.ref fa))
    {od0 an0 od1 an1 od2 an2 od3 an3 od4 an4 od5 an5 od6 an6 od7 an7 od8 an8 od9 an9 od10 an10 od11 an11 od12 an12 od13 an13 od14 an14 od15 an15 od16 an16 od17 an17 od18 an18 od19 an19 od20 an20 od21 an21 od22 an22 od23 an23 od24 an24 od25 an25 od26 an26 od27 an27 od28 an28 od29 an29 od30 an30 od31 an31 od32 an32 od33 an33 od34 an34 : Option Addr} {sl0 sl1 sl2 sl3 sl4 sl5 sl6 sl7 sl8 sl9 sl10 sl11 sl12 sl13 sl14 sl15 sl16 sl17 sl18 sl19 sl20 sl21 sl22 sl23 sl24 sl25 sl26 sl27 sl28 sl29 sl30 sl31 sl32 sl33 sl34 : Array (Option Value)} {oc0 kV0 dc0 pm0 cd0 ct0 oc1 kV1 dc1 pm1 cd1 ct1 oc2 kV2 dc2 pm2 cd2 ct2 oc3 kV3 dc3 pm3 cd3 ct3 oc4 kV4 dc4 pm4 cd4 ct4 oc5 kV5 dc5 pm5 cd5 ct5 oc6 kV6 dc6 pm6 cd6 ct6 oc7 kV7 dc7 pm7 cd7 ct7 oc8 kV8 dc8 pm8 cd8 ct8 oc9 kV9 dc9 pm9 cd9 ct9 oc10 kV10 dc10 pm10 cd10 ct10 oc11 kV11 dc11 pm11 cd11 ct11 oc12 kV12 dc12 pm12 cd12 ct12 oc13 kV13 dc13 pm13 cd13 ct13 oc14 kV14 dc14 pm14 cd14 ct14 oc15 kV15 dc15 pm15 cd15 ct15 oc16 kV16 dc16 pm16 cd16 ct16 oc17 kV17 dc17 pm17 cd17 ct17 oc18 kV18 dc18 pm18 cd18 ct18 oc19 kV19 dc19 pm19 cd19 ct19 oc20 kV20 dc20 pm20 cd20 ct20 oc21 kV21 dc21 pm21 cd21 ct21 oc22 kV22 dc22 pm22 cd22 ct22 oc23 kV23 dc23 pm23 cd23 ct23 oc24 kV24 dc24 pm24 cd24 ct24 oc25 kV25 dc25 pm25 cd25 ct25 oc26 kV26 dc26 pm26 cd26 ct26 oc27 kV27 dc27 pm27 cd27 ct27 oc28 kV28 dc28 pm28 cd28 ct28 oc29 kV29 dc29 pm29 cd29 ct29 oc30 kV30 dc30 pm30 cd30 ct30 oc31 kV31 dc31 pm31 cd31 ct31 oc32 kV32 dc32 pm32 cd32 ct32 oc33 kV33 dc33 pm33 cd33 ct33 oc34 kV34 dc34 pm34 cd34 ct34 : Value} {t1 t2 t3 t4 : Tok}
    (aC : PySem.W.nsIn K mainGlobals "Chest" = some (some (.ref C)))
    (aE0 : PySem.W.nsIn K mainGlobals "NoBox" = some (some (.ref E0)))
    (aE1 : PySem.W.nsIn K mainGlobals "NoSlot" = some (some (.ref E1)))
    (aE2 : PySem.W.nsIn K mainGlobals "NoHand" = some (some (.ref E2)))
    (aE3 : PySem.W.nsIn K mainGlobals "NoPair" = some (some (.ref E3)))
    (aE4 : PySem.W.nsIn K mainGlobals "NoWill" = some (some (.ref E4)))
    (aE5 : PySem.W.nsIn K mainGlobals "TooMany" = some (some (.ref E5)))
    (a0 : PySem.W.findIn K (.ref C) "__init__" = some (some (.ref f0)))
    (i0 : PySem.W.isFn K (.ref f0) = true)
    (l0 : K.lookup f0 = some ⟨oc0, od0, .func (PySem.W.fnOf "__init__" "Chest.__init__" (defArgs sm_init) (defBody sm_init) (defScope sm_init) .none kV0 dc0 pm0 an0 cd0 ct0), sl0⟩)
    (c0 : PySem.W.codeIn K cd0 "Chest.__init__" = true)
    (k0 : PySem.W.keepIn K (.ref f0) = true)
    (a1 : PySem.W.nsIn K mainGlobals "_law_cell_at" = some (some (.ref f1)))
    (l1 : K.lookup f1 = some ⟨oc1, od1, .func (PySem.W.fnOf "_law_cell_at" "_law_cell_at" (defArgs sf_law_cell_at) (defBody sf_law_cell_at) (defScope sf_law_cell_at) .none kV1 dc1 pm1 an1 cd1 ct1), sl1⟩)
    (c1 : PySem.W.codeIn K cd1 "_law_cell_at" = true)
    (k1 : PySem.W.keepIn K (.ref f1) = true)
    (a2 : PySem.W.nsIn K mainGlobals "_law_mixed" = some (some (.ref f2)))
    (l2 : K.lookup f2 = some ⟨oc2, od2, .func (PySem.W.fnOf "_law_mixed" "_law_mixed" (defArgs sf_law_mixed) (defBody sf_law_mixed) (defScope sf_law_mixed) .none kV2 dc2 pm2 an2 cd2 ct2), sl2⟩)
    (c2 : PySem.W.codeIn K cd2 "_law_mixed" = true)
    (k2 : PySem.W.keepIn K (.ref f2) = true)
    (a3 : PySem.W.nsIn K mainGlobals "_law_laid" = some (some (.ref f3)))
    (l3 : K.lookup f3 = some ⟨oc3, od3, .func (PySem.W.fnOf "_law_laid" "_law_laid" (defArgs sf_law_laid) (defBody sf_law_laid) (defScope sf_law_laid) .none kV3 dc3 pm3 an3 cd3 ct3), sl3⟩)
    (c3 : PySem.W.codeIn K cd3 "_law_laid" = true)
    (k3 : PySem.W.keepIn K (.ref f3) = true)
    (a4 : PySem.W.nsIn K mainGlobals "_law_cells" = some (some (.ref f4)))
    (l4 : K.lookup f4 = some ⟨oc4, od4, .func (PySem.W.fnOf "_law_cells" "_law_cells" (defArgs sf_law_cells) (defBody sf_law_cells) (defScope sf_law_cells) .none kV4 dc4 pm4 an4 cd4 ct4), sl4⟩)
    (c4 : PySem.W.codeIn K cd4 "_law_cells" = true)
    (k4 : PySem.W.keepIn K (.ref f4) = true)
    (a5 : PySem.W.nsIn K mainGlobals "_law_will_of" = some (some (.ref f5)))
    (l5 : K.lookup f5 = some ⟨oc5, od5, .func (PySem.W.fnOf "_law_will_of" "_law_will_of" (defArgs sf_law_will_of) (defBody sf_law_will_of) (defScope sf_law_will_of) .none kV5 dc5 pm5 an5 cd5 ct5), sl5⟩)
    (c5 : PySem.W.codeIn K cd5 "_law_will_of" = true)
    (k5 : PySem.W.keepIn K (.ref f5) = true)
    (a6 : PySem.W.nsIn K mainGlobals "_law_deed_by" = some (some (.ref f6)))
    (l6 : K.lookup f6 = some ⟨oc6, od6, .func (PySem.W.fnOf "_law_deed_by" "_law_deed_by" (defArgs sf_law_deed_by) (defBody sf_law_deed_by) (defScope sf_law_deed_by) .none kV6 dc6 pm6 an6 cd6 ct6), sl6⟩)
    (c6 : PySem.W.codeIn K cd6 "_law_deed_by" = true)
    (k6 : PySem.W.keepIn K (.ref f6) = true)
    (a7 : PySem.W.nsIn K mainGlobals "_law_do" = some (some (.ref f7)))
    (l7 : K.lookup f7 = some ⟨oc7, od7, .func (PySem.W.fnOf "_law_do" "_law_do" (defArgs sf_law_do) (defBody sf_law_do) (defScope sf_law_do) .none kV7 dc7 pm7 an7 cd7 ct7), sl7⟩)
    (c7 : PySem.W.codeIn K cd7 "_law_do" = true)
    (k7 : PySem.W.keepIn K (.ref f7) = true)
    (a8 : PySem.W.nsIn K mainGlobals "_law_known" = some (some (.ref f8)))
    (l8 : K.lookup f8 = some ⟨oc8, od8, .func (PySem.W.fnOf "_law_known" "_law_known" (defArgs sf_law_known) (defBody sf_law_known) (defScope sf_law_known) .none kV8 dc8 pm8 an8 cd8 ct8), sl8⟩)
    (c8 : PySem.W.codeIn K cd8 "_law_known" = true)
    (k8 : PySem.W.keepIn K (.ref f8) = true)
    (a9 : PySem.W.nsIn K mainGlobals "_law_lost" = some (some (.ref f9)))
    (l9 : K.lookup f9 = some ⟨oc9, od9, .func (PySem.W.fnOf "_law_lost" "_law_lost" (defArgs sf_law_lost) (defBody sf_law_lost) (defScope sf_law_lost) .none kV9 dc9 pm9 an9 cd9 ct9), sl9⟩)
    (c9 : PySem.W.codeIn K cd9 "_law_lost" = true)
    (k9 : PySem.W.keepIn K (.ref f9) = true)
    (a10 : PySem.W.nsIn K mainGlobals "_law_whole" = some (some (.ref f10)))
    (l10 : K.lookup f10 = some ⟨oc10, od10, .func (PySem.W.fnOf "_law_whole" "_law_whole" (defArgs sf_law_whole) (defBody sf_law_whole) (defScope sf_law_whole) .none kV10 dc10 pm10 an10 cd10 ct10), sl10⟩)
    (c10 : PySem.W.codeIn K cd10 "_law_whole" = true)
    (k10 : PySem.W.keepIn K (.ref f10) = true)
    (a11 : PySem.W.nsIn K mainGlobals "_law_numbers" = some (some (.ref f11)))
    (l11 : K.lookup f11 = some ⟨oc11, od11, .func (PySem.W.fnOf "_law_numbers" "_law_numbers" (defArgs sf_law_numbers) (defBody sf_law_numbers) (defScope sf_law_numbers) .none kV11 dc11 pm11 an11 cd11 ct11), sl11⟩)
    (c11 : PySem.W.codeIn K cd11 "_law_numbers" = true)
    (k11 : PySem.W.keepIn K (.ref f11) = true)
    (a12 : PySem.W.findIn K (.ref C) "need_box" = some (some (.ref f12)))
    (i12 : PySem.W.isFn K (.ref f12) = true)
    (l12 : K.lookup f12 = some ⟨oc12, od12, .func (PySem.W.fnOf "need_box" "Chest.need_box" (defArgs sm_need_box) (defBody sm_need_box) (defScope sm_need_box) .none kV12 dc12 pm12 an12 cd12 ct12), sl12⟩)
    (c12 : PySem.W.codeIn K cd12 "Chest.need_box" = true)
    (k12 : PySem.W.keepIn K (.ref f12) = true)
    (a13 : PySem.W.nsIn K mainGlobals "is_deed" = some (some (.ref f13)))
    (l13 : K.lookup f13 = some ⟨oc13, od13, .func (PySem.W.fnOf "is_deed" "is_deed" (defArgs sf_is_deed) (defBody sf_is_deed) (defScope sf_is_deed) .none kV13 dc13 pm13 an13 cd13 ct13), sl13⟩)
    (c13 : PySem.W.codeIn K cd13 "is_deed" = true)
    (k13 : PySem.W.keepIn K (.ref f13) = true)
    (a14 : PySem.W.findIn K (.ref C) "bequeath" = some (some (.ref f14)))
    (i14 : PySem.W.isFn K (.ref f14) = true)
    (l14 : K.lookup f14 = some ⟨oc14, od14, .func (PySem.W.fnOf "bequeath" "Chest.bequeath" (defArgs sm_bequeath) (defBody sm_bequeath) (defScope sm_bequeath) .none kV14 dc14 pm14 an14 cd14 ct14), sl14⟩)
    (c14 : PySem.W.codeIn K cd14 "Chest.bequeath" = true)
    (k14 : PySem.W.keepIn K (.ref f14) = true)
    (a15 : PySem.W.findIn K (.ref C) "drop" = some (some (.ref f15)))
    (i15 : PySem.W.isFn K (.ref f15) = true)
    (l15 : K.lookup f15 = some ⟨oc15, od15, .func (PySem.W.fnOf "drop" "Chest.drop" (defArgs sm_drop) (defBody sm_drop) (defScope sm_drop) .none kV15 dc15 pm15 an15 cd15 ct15), sl15⟩)
    (c15 : PySem.W.codeIn K cd15 "Chest.drop" = true)
    (k15 : PySem.W.keepIn K (.ref f15) = true)
    (a16 : PySem.W.findIn K (.ref C) "need_slot" = some (some (.ref f16)))
    (i16 : PySem.W.isFn K (.ref f16) = true)
    (l16 : K.lookup f16 = some ⟨oc16, od16, .func (PySem.W.fnOf "need_slot" "Chest.need_slot" (defArgs sm_need_slot) (defBody sm_need_slot) (defScope sm_need_slot) .none kV16 dc16 pm16 an16 cd16 ct16), sl16⟩)
    (c16 : PySem.W.codeIn K cd16 "Chest.need_slot" = true)
    (k16 : PySem.W.keepIn K (.ref f16) = true)
    (a17 : PySem.W.findIn K (.ref C) "empty" = some (some (.ref f17)))
    (i17 : PySem.W.isFn K (.ref f17) = true)
    (l17 : K.lookup f17 = some ⟨oc17, od17, .func (PySem.W.fnOf "empty" "Chest.empty" (defArgs sm_empty) (defBody sm_empty) (defScope sm_empty) .none kV17 dc17 pm17 an17 cd17 ct17), sl17⟩)
    (c17 : PySem.W.codeIn K cd17 "Chest.empty" = true)
    (k17 : PySem.W.keepIn K (.ref f17) = true)
    (a18 : PySem.W.findIn K (.ref C) "make" = some (some (.ref f18)))
    (i18 : PySem.W.isFn K (.ref f18) = true)
    (l18 : K.lookup f18 = some ⟨oc18, od18, .func (PySem.W.fnOf "make" "Chest.make" (defArgs sm_make) (defBody sm_make) (defScope sm_make) .none kV18 dc18 pm18 an18 cd18 ct18), sl18⟩)
    (c18 : PySem.W.codeIn K cd18 "Chest.make" = true)
    (k18 : PySem.W.keepIn K (.ref f18) = true)
    (a19 : PySem.W.findIn K (.ref C) "pair" = some (some (.ref f19)))
    (i19 : PySem.W.isFn K (.ref f19) = true)
    (l19 : K.lookup f19 = some ⟨oc19, od19, .func (PySem.W.fnOf "pair" "Chest.pair" (defArgs sm_pair) (defBody sm_pair) (defScope sm_pair) .none kV19 dc19 pm19 an19 cd19 ct19), sl19⟩)
    (c19 : PySem.W.codeIn K cd19 "Chest.pair" = true)
    (k19 : PySem.W.keepIn K (.ref f19) = true)
    (a20 : PySem.W.findIn K (.ref C) "put" = some (some (.ref f20)))
    (i20 : PySem.W.isFn K (.ref f20) = true)
    (l20 : K.lookup f20 = some ⟨oc20, od20, .func (PySem.W.fnOf "put" "Chest.put" (defArgs sm_put) (defBody sm_put) (defScope sm_put) .none kV20 dc20 pm20 an20 cd20 ct20), sl20⟩)
    (c20 : PySem.W.codeIn K cd20 "Chest.put" = true)
    (k20 : PySem.W.keepIn K (.ref f20) = true)
    (a21 : PySem.W.findIn K (.ref C) "take" = some (some (.ref f21)))
    (i21 : PySem.W.isFn K (.ref f21) = true)
    (l21 : K.lookup f21 = some ⟨oc21, od21, .func (PySem.W.fnOf "take" "Chest.take" (defArgs sm_take) (defBody sm_take) (defScope sm_take) .none kV21 dc21 pm21 an21 cd21 ct21), sl21⟩)
    (c21 : PySem.W.codeIn K cd21 "Chest.take" = true)
    (k21 : PySem.W.keepIn K (.ref f21) = true)
    (a22 : PySem.W.findIn K (.ref C) "unpair" = some (some (.ref f22)))
    (i22 : PySem.W.isFn K (.ref f22) = true)
    (l22 : K.lookup f22 = some ⟨oc22, od22, .func (PySem.W.fnOf "unpair" "Chest.unpair" (defArgs sm_unpair) (defBody sm_unpair) (defScope sm_unpair) .none kV22 dc22 pm22 an22 cd22 ct22), sl22⟩)
    (c22 : PySem.W.codeIn K cd22 "Chest.unpair" = true)
    (k22 : PySem.W.keepIn K (.ref f22) = true)
    (a23 : PySem.W.nsIn K mainGlobals "_law_told" = some (some (.ref f23)))
    (l23 : K.lookup f23 = some ⟨oc23, od23, .func (PySem.W.fnOf "_law_told" "_law_told" (defArgs sf_law_told) (defBody sf_law_told) (defScope sf_law_told) .none kV23 dc23 pm23 an23 cd23 ct23), sl23⟩)
    (c23 : PySem.W.codeIn K cd23 "_law_told" = true)
    (k23 : PySem.W.keepIn K (.ref f23) = true)
    (a24 : PySem.W.nsIn K mainGlobals "_law_world" = some (some (.ref f24)))
    (l24 : K.lookup f24 = some ⟨oc24, od24, .func (PySem.W.fnOf "_law_world" "_law_world" (defArgs sf_law_world) (defBody sf_law_world) (defScope sf_law_world) .none kV24 dc24 pm24 an24 cd24 ct24), sl24⟩)
    (c24 : PySem.W.codeIn K cd24 "_law_world" = true)
    (k24 : PySem.W.keepIn K (.ref f24) = true)
    (a25 : PySem.W.findIn K (.ref C) "boxes" = some (some (.ref f25)))
    (i25 : PySem.W.isFn K (.ref f25) = true)
    (l25 : K.lookup f25 = some ⟨oc25, od25, .func (PySem.W.fnOf "boxes" "Chest.boxes" (defArgs sm_boxes) (defBody sm_boxes) (defScope sm_boxes) .none kV25 dc25 pm25 an25 cd25 ct25), sl25⟩)
    (c25 : PySem.W.codeIn K cd25 "Chest.boxes" = true)
    (k25 : PySem.W.keepIn K (.ref f25) = true)
    (a26 : PySem.W.findIn K (.ref C) "hands" = some (some (.ref f26)))
    (i26 : PySem.W.isFn K (.ref f26) = true)
    (l26 : K.lookup f26 = some ⟨oc26, od26, .func (PySem.W.fnOf "hands" "Chest.hands" (defArgs sm_hands) (defBody sm_hands) (defScope sm_hands) .none kV26 dc26 pm26 an26 cd26 ct26), sl26⟩)
    (c26 : PySem.W.codeIn K cd26 "Chest.hands" = true)
    (k26 : PySem.W.keepIn K (.ref f26) = true)
    (a27 : PySem.W.findIn K (.ref C) "pairs" = some (some (.ref f27)))
    (i27 : PySem.W.isFn K (.ref f27) = true)
    (l27 : K.lookup f27 = some ⟨oc27, od27, .func (PySem.W.fnOf "pairs" "Chest.pairs" (defArgs sm_pairs) (defBody sm_pairs) (defScope sm_pairs) .none kV27 dc27 pm27 an27 cd27 ct27), sl27⟩)
    (c27 : PySem.W.codeIn K cd27 "Chest.pairs" = true)
    (k27 : PySem.W.keepIn K (.ref f27) = true)
    (a28 : PySem.W.findIn K (.ref C) "size" = some (some (.ref f28)))
    (i28 : PySem.W.isFn K (.ref f28) = true)
    (l28 : K.lookup f28 = some ⟨oc28, od28, .func (PySem.W.fnOf "size" "Chest.size" (defArgs sm_size) (defBody sm_size) (defScope sm_size) .none kV28 dc28 pm28 an28 cd28 ct28), sl28⟩)
    (c28 : PySem.W.codeIn K cd28 "Chest.size" = true)
    (k28 : PySem.W.keepIn K (.ref f28) = true)
    (a29 : PySem.W.findIn K (.ref C) "told" = some (some (.ref f29)))
    (i29 : PySem.W.isFn K (.ref f29) = true)
    (l29 : K.lookup f29 = some ⟨oc29, od29, .func (PySem.W.fnOf "told" "Chest.told" (defArgs sm_told) (defBody sm_told) (defScope sm_told) .none kV29 dc29 pm29 an29 cd29 ct29), sl29⟩)
    (c29 : PySem.W.codeIn K cd29 "Chest.told" = true)
    (k29 : PySem.W.keepIn K (.ref f29) = true)
    (a30 : PySem.W.nsIn K mainGlobals "held_by" = some (some (.ref f30)))
    (l30 : K.lookup f30 = some ⟨oc30, od30, .func (PySem.W.fnOf "held_by" "held_by" (defArgs sf_held_by) (defBody sf_held_by) (defScope sf_held_by) .none kV30 dc30 pm30 an30 cd30 ct30), sl30⟩)
    (c30 : PySem.W.codeIn K cd30 "held_by" = true)
    (k30 : PySem.W.keepIn K (.ref f30) = true)
    (a31 : PySem.W.nsIn K mainGlobals "next_row" = some (some (.ref f31)))
    (l31 : K.lookup f31 = some ⟨oc31, od31, .func (PySem.W.fnOf "next_row" "next_row" (defArgs sf_next_row) (defBody sf_next_row) (defScope sf_next_row) .none kV31 dc31 pm31 an31 cd31 ct31), sl31⟩)
    (c31 : PySem.W.codeIn K cd31 "next_row" = true)
    (k31 : PySem.W.keepIn K (.ref f31) = true)
    (a32 : PySem.W.nsIn K mainGlobals "come_to" = some (some (.ref f32)))
    (l32 : K.lookup f32 = some ⟨oc32, od32, .func (PySem.W.fnOf "come_to" "come_to" (defArgs sf_come_to) (defBody sf_come_to) (defScope sf_come_to) .none kV32 dc32 pm32 an32 cd32 ct32), sl32⟩)
    (c32 : PySem.W.codeIn K cd32 "come_to" = true)
    (k32 : PySem.W.keepIn K (.ref f32) = true)
    (a33 : PySem.W.nsIn K mainGlobals "lost" = some (some (.ref f33)))
    (l33 : K.lookup f33 = some ⟨oc33, od33, .func (PySem.W.fnOf "lost" "lost" (defArgs sf_lost) (defBody sf_lost) (defScope sf_lost) .none kV33 dc33 pm33 an33 cd33 ct33), sl33⟩)
    (c33 : PySem.W.codeIn K cd33 "lost" = true)
    (k33 : PySem.W.keepIn K (.ref f33) = true)
    (a34 : PySem.W.nsIn K mainGlobals "law" = some (some (.ref f34)))
    (l34 : K.lookup f34 = some ⟨oc34, od34, .func (PySem.W.fnOf "law" "law" (defArgs sf_law) (defBody sf_law) (defScope sf_law) .none kV34 dc34 pm34 an34 cd34 ct34), sl34⟩)
    (c34 : PySem.W.codeIn K cd34 "law" = true)
    (k34 : PySem.W.keepIn K (.ref f34) = true)
    (pg : PySem.W.plainGet K C Str.empty = true)
    (hd : PySem.W.hasDictIn K C = true)
    (po : PySem.W.plainOver K C = true)
    (sa : PySem.W.findIn K (.ref C) "__setattr__" = some (some (.builtin "object.__setattr__")))
    (mk : PySem.W.makesIn K C = true)
    (kc : PySem.W.keepIn K (.ref C) = true)
    (n0 : PySem.W.findIn K (.ref C) "slots" = some none)
    (n1 : PySem.W.findIn K (.ref C) "held" = some none)
    (n2 : PySem.W.findIn K (.ref C) "paired" = some none)
    (n3 : PySem.W.findIn K (.ref C) "wills" = some none)
    (n4 : PySem.W.findIn K (.ref C) "coming" = some none)
    (n5 : PySem.W.findIn K (.ref C) "next_pair" = some none)
    (b0 : PySem.W.nsIn K mainGlobals "all" = some none)
    (b1 : PySem.W.nsIn K mainGlobals "bool" = some none)
    (b2 : PySem.W.nsIn K mainGlobals "int" = some none)
    (b3 : PySem.W.nsIn K mainGlobals "isinstance" = some none)
    (b4 : PySem.W.nsIn K mainGlobals "len" = some none)
    (b5 : PySem.W.nsIn K mainGlobals "list" = some none)
    (b6 : PySem.W.nsIn K mainGlobals "min" = some none)
    (b7 : PySem.W.nsIn K mainGlobals "range" = some none)
    (b8 : PySem.W.nsIn K mainGlobals "sorted" = some none)
    (b9 : PySem.W.nsIn K mainGlobals "tuple" = some none)
    (ms : PySem.W.nsIn K mainGlobals "MOST_SLOTS" = some (some (.int 9 t1)))
    (mb : PySem.W.nsIn K mainGlobals "MOST_BOXES" = some (some (.int 60 t2)))
    (mp : PySem.W.nsIn K mainGlobals "MOST_PAIRS" = some (some (.int 60 t3)))
    (md : PySem.W.nsIn K mainGlobals "MOST_DEEDS" = some (some (.int 9 t4)))
    (x0 : PySem.W.excIn K E0 [.type "ValueError", .type "Exception", .type "BaseException", .type "object"] "ValueError.__new__" = true)
    (xk0 : PySem.W.keepIn K (.ref E0) = true)
    (xs0 : PySem.W.subIn K (.ref E0) (.type "BaseException") = some true)
    (xt0 : PySem.W.typeIn K (.ref E0) = some (.type "type"))
    (x1 : PySem.W.excIn K E1 [.type "ValueError", .type "Exception", .type "BaseException", .type "object"] "ValueError.__new__" = true)
    (xk1 : PySem.W.keepIn K (.ref E1) = true)
    (xs1 : PySem.W.subIn K (.ref E1) (.type "BaseException") = some true)
    (xt1 : PySem.W.typeIn K (.ref E1) = some (.type "type"))
    (x2 : PySem.W.excIn K E2 [.type "ValueError", .type "Exception", .type "BaseException", .type "object"] "ValueError.__new__" = true)
    (xk2 : PySem.W.keepIn K (.ref E2) = true)
    (xs2 : PySem.W.subIn K (.ref E2) (.type "BaseException") = some true)
    (xt2 : PySem.W.typeIn K (.ref E2) = some (.type "type"))
    (x3 : PySem.W.excIn K E3 [.type "ValueError", .type "Exception", .type "BaseException", .type "object"] "ValueError.__new__" = true)
    (xk3 : PySem.W.keepIn K (.ref E3) = true)
    (xs3 : PySem.W.subIn K (.ref E3) (.type "BaseException") = some true)
    (xt3 : PySem.W.typeIn K (.ref E3) = some (.type "type"))
    (x4 : PySem.W.excIn K E4 [.type "ValueError", .type "Exception", .type "BaseException", .type "object"] "ValueError.__new__" = true)
    (xk4 : PySem.W.keepIn K (.ref E4) = true)
    (xs4 : PySem.W.subIn K (.ref E4) (.type "BaseException") = some true)
    (xt4 : PySem.W.typeIn K (.ref E4) = some (.type "type"))
    (x5 : PySem.W.excIn K E5 [.type "ValueError", .type "Exception", .type "BaseException", .type "object"] "ValueError.__new__" = true)
    (xk5 : PySem.W.keepIn K (.ref E5) = true)
    (xs5 : PySem.W.subIn K (.ref E5) (.type "BaseException") = some true)
    (xt5 : PySem.W.typeIn K (.ref E5) = some (.type "type"))
    : ∃ fd : FuncData, (∀ (s : Shared) (v : Value), BindsTo s fd ⟨[v], []⟩ [("_law_script", v)]) ∧ ∀ base : Heap, K.In base → base.Ns mainGlobals mg → FnOk l.prog w K mg base (L2.CX l.prog w) 8 fa fd ["_law_script"] (spLaw K) := by
  have e := hfa.symm.trans (PySem.W.mg_of X Gm a34)
  cases e
  have me : ∀ {x : Str} {a : Addr}, PySem.W.nsIn K mainGlobals x = some (some (.ref a)) → mg x = some (.ref a) := fun z => PySem.W.mg_of X Gm z
  have mo : ∀ {x : Str}, PySem.W.nsIn K mainGlobals x = some none → mg x = none := fun z => PySem.W.mg_none_of X Gm z
  let cm : Nat → Addr := fun i => match i with | 0 => E0 | 1 => E1 | 2 => E2 | 3 => E3 | 4 => E4 | 5 => E5 | _ => C
  have M : Txt K mg cm C := { cl := ⟨pg, hd, po, sa⟩, ch := me aC, n0 := n0, n1 := n1, n2 := n2, n3 := n3, n4 := n4, n5 := n5, ms := ⟨_, PySem.W.mg_of X Gm ms⟩, mb := ⟨_, PySem.W.mg_of X Gm mb⟩, mp := ⟨_, PySem.W.mg_of X Gm mp⟩, md := ⟨_, PySem.W.mg_of X Gm md⟩, g_all := mo b0, g_bool := mo b1, g_int := mo b2, g_isinstance := mo b3, g_len := mo b4, g_list := mo b5, g_min := mo b6, g_range := mo b7, g_sorted := mo b8, g_tuple := mo b9, x0 := ⟨me aE0, x0, xk0, xs0, xt0⟩, x1 := ⟨me aE1, x1, xk1, xs1, xt1⟩, x2 := ⟨me aE2, x2, xk2, xs2, xt2⟩, x3 := ⟨me aE3, x3, xk3, xs3, xt3⟩, x4 := ⟨me aE4, x4, xk4, xs4, xt4⟩, x5 := ⟨me aE5, x5, xk5, xs5, xt5⟩ }
  have F_m_init := fun_mk (st := sm_init) l0 c0 k0
  have b_m_init := F_m_init.binds (ps := ["self"]) fun _ _ _ _ _ _ us hl => match us, hl with | [_], _ => rfl
  have F_f_law_cell_at := fun_mk (st := sf_law_cell_at) l1 c1 k1
  have b_f_law_cell_at := F_f_law_cell_at.binds (ps := ["_law_script", "_law_k"]) fun _ _ _ _ _ _ us hl => match us, hl with | [_, _], _ => rfl
  have F_f_law_mixed := fun_mk (st := sf_law_mixed) l2 c2 k2
  have b_f_law_mixed := F_f_law_mixed.binds (ps := ["_law_cell", "_law_k", "_law_many"]) fun _ _ _ _ _ _ us hl => match us, hl with | [_, _, _], _ => rfl
  have F_f_law_laid := fun_mk (st := sf_law_laid) l3 c3 k3
  have b_f_law_laid := F_f_law_laid.binds (ps := ["_law_far"]) fun _ _ _ _ _ _ us hl => match us, hl with | [_], _ => rfl
  have F_f_law_cells := fun_mk (st := sf_law_cells) l4 c4 k4
  have b_f_law_cells := F_f_law_cells.binds (ps := ["_law_script"]) fun _ _ _ _ _ _ us hl => match us, hl with | [_], _ => rfl
  have F_f_law_will_of := fun_mk (st := sf_law_will_of) l5 c5 k5
  have b_f_law_will_of := F_f_law_will_of.binds (ps := ["_law_boxes", "_law_cell", "_law_coming"]) fun _ _ _ _ _ _ us hl => match us, hl with | [_, _, _], _ => rfl
  have F_f_law_deed_by := fun_mk (st := sf_law_deed_by) l6 c6 k6
  have b_f_law_deed_by := F_f_law_deed_by.binds (ps := ["_law_cell", "_law_world_here"]) fun _ _ _ _ _ _ us hl => match us, hl with | [_, _], _ => rfl
  have F_f_law_do := fun_mk (st := sf_law_do) l7 c7 k7
  have b_f_law_do := F_f_law_do.binds (ps := ["_law_world_here", "_law_deed"]) fun _ _ _ _ _ _ us hl => match us, hl with | [_, _], _ => rfl
  have F_f_law_known := fun_mk (st := sf_law_known) l8 c8 k8
  have b_f_law_known := F_f_law_known.binds (ps := ["_law_world_here"]) fun _ _ _ _ _ _ us hl => match us, hl with | [_], _ => rfl
  have F_f_law_lost := fun_mk (st := sf_law_lost) l9 c9 k9
  have b_f_law_lost := F_f_law_lost.binds (ps := ["_law_world_here"]) fun _ _ _ _ _ _ us hl => match us, hl with | [_], _ => rfl
  have F_f_law_whole := fun_mk (st := sf_law_whole) l10 c10 k10
  have b_f_law_whole := F_f_law_whole.binds (ps := ["_law_found"]) fun _ _ _ _ _ _ us hl => match us, hl with | [_], _ => rfl
  have F_f_law_numbers := fun_mk (st := sf_law_numbers) l11 c11 k11
  have b_f_law_numbers := F_f_law_numbers.binds (ps := ["_law_found", "_law_due"]) fun _ _ _ _ _ _ us hl => match us, hl with | [_, _], _ => rfl
  have F_m_need_box := fun_mk (st := sm_need_box) l12 c12 k12
  have b_m_need_box := F_m_need_box.binds (ps := ["self", "box"]) fun _ _ _ _ _ _ us hl => match us, hl with | [_, _], _ => rfl
  have F_f_is_deed := fun_mk (st := sf_is_deed) l13 c13 k13
  have b_f_is_deed := F_f_is_deed.binds (ps := ["deed"]) fun _ _ _ _ _ _ us hl => match us, hl with | [_], _ => rfl
  have F_m_bequeath := fun_mk (st := sm_bequeath) l14 c14 k14
  have b_m_bequeath := F_m_bequeath.binds (ps := ["self", "box", "deeds"]) fun _ _ _ _ _ _ us hl => match us, hl with | [_, _, _], _ => rfl
  have F_m_drop := fun_mk (st := sm_drop) l15 c15 k15
  have b_m_drop := F_m_drop.binds (ps := ["self", "box"]) fun _ _ _ _ _ _ us hl => match us, hl with | [_, _], _ => rfl
  have F_m_need_slot := fun_mk (st := sm_need_slot) l16 c16 k16
  have b_m_need_slot := F_m_need_slot.binds (ps := ["self", "box", "slot"]) fun _ _ _ _ _ _ us hl => match us, hl with | [_, _, _], _ => rfl
  have F_m_empty := fun_mk (st := sm_empty) l17 c17 k17
  have b_m_empty := F_m_empty.binds (ps := ["self", "box", "slot"]) fun _ _ _ _ _ _ us hl => match us, hl with | [_, _, _], _ => rfl
  have F_m_make := fun_mk (st := sm_make) l18 c18 k18
  have b_m_make := F_m_make.binds (ps := ["self", "size"]) fun _ _ _ _ _ _ us hl => match us, hl with | [_, _], _ => rfl
  have F_m_pair := fun_mk (st := sm_pair) l19 c19 k19
  have b_m_pair := F_m_pair.binds (ps := ["self", "home", "key", "other"]) fun _ _ _ _ _ _ us hl => match us, hl with | [_, _, _, _], _ => rfl
  have F_m_put := fun_mk (st := sm_put) l20 c20 k20
  have b_m_put := F_m_put.binds (ps := ["self", "box", "slot", "other", "holds"]) fun _ _ _ _ _ _ us hl => match us, hl with | [_, _, _, _, _], _ => rfl
  have F_m_take := fun_mk (st := sm_take) l21 c21 k21
  have b_m_take := F_m_take.binds (ps := ["self", "box"]) fun _ _ _ _ _ _ us hl => match us, hl with | [_, _], _ => rfl
  have F_m_unpair := fun_mk (st := sm_unpair) l22 c22 k22
  have b_m_unpair := F_m_unpair.binds (ps := ["self", "pair"]) fun _ _ _ _ _ _ us hl => match us, hl with | [_, _], _ => rfl
  have F_f_law_told := fun_mk (st := sf_law_told) l23 c23 k23
  have b_f_law_told := F_f_law_told.binds (ps := ["_law_chest", "_law_deed"]) fun _ _ _ _ _ _ us hl => match us, hl with | [_, _], _ => rfl
  have F_f_law_world := fun_mk (st := sf_law_world) l24 c24 k24
  have b_f_law_world := F_f_law_world.binds (ps := []) fun _ _ _ _ _ _ us hl => match us, hl with | [], _ => rfl
  have F_m_boxes := fun_mk (st := sm_boxes) l25 c25 k25
  have b_m_boxes := F_m_boxes.binds (ps := ["self"]) fun _ _ _ _ _ _ us hl => match us, hl with | [_], _ => rfl
  have F_m_hands := fun_mk (st := sm_hands) l26 c26 k26
  have b_m_hands := F_m_hands.binds (ps := ["self"]) fun _ _ _ _ _ _ us hl => match us, hl with | [_], _ => rfl
  have F_m_pairs := fun_mk (st := sm_pairs) l27 c27 k27
  have b_m_pairs := F_m_pairs.binds (ps := ["self"]) fun _ _ _ _ _ _ us hl => match us, hl with | [_], _ => rfl
  have F_m_size := fun_mk (st := sm_size) l28 c28 k28
  have b_m_size := F_m_size.binds (ps := ["self", "box"]) fun _ _ _ _ _ _ us hl => match us, hl with | [_, _], _ => rfl
  have F_m_told := fun_mk (st := sm_told) l29 c29 k29
  have b_m_told := F_m_told.binds (ps := ["self", "box", "slot"]) fun _ _ _ _ _ _ us hl => match us, hl with | [_, _, _], _ => rfl
  have F_f_held_by := fun_mk (st := sf_held_by) l30 c30 k30
  have b_f_held_by := F_f_held_by.binds (ps := ["chest", "box"]) fun _ _ _ _ _ _ us hl => match us, hl with | [_, _], _ => rfl
  have F_f_next_row := fun_mk (st := sf_next_row) l31 c31 k31
  have b_f_next_row := F_f_next_row.binds (ps := ["chest", "rows", "known"]) fun _ _ _ _ _ _ us hl => match us, hl with | [_, _, _], _ => rfl
  have F_f_come_to := fun_mk (st := sf_come_to) l32 c32 k32
  have b_f_come_to := F_f_come_to.binds (ps := ["chest"]) fun _ _ _ _ _ _ us hl => match us, hl with | [_], _ => rfl
  have F_f_lost := fun_mk (st := sf_lost) l33 c33 k33
  have b_f_lost := F_f_lost.binds (ps := ["chest"]) fun _ _ _ _ _ _ us hl => match us, hl with | [_], _ => rfl
  have F_f_law := fun_mk (st := sf_law) l34 c34 k34
  refine ⟨PySem.W.fnOf "law" "law" (defArgs sf_law) (defBody sf_law) (defScope sf_law) .none kV34 dc34 pm34 an34 cd34 ct34, fun s v => .of_eq rfl, fun base _ _ => ?_⟩
  have d_f_law_cell_at : DefF l.prog w K mg base cm "_law_cell_at" 1 2 Ff_law_cell_at := ⟨_, _, _, okf_law_cell_at M F_f_law_cell_at , me a1, k1, b_f_law_cell_at⟩
  have d_f_law_mixed : DefF l.prog w K mg base cm "_law_mixed" 1 3 Ff_law_mixed := ⟨_, _, _, okf_law_mixed M F_f_law_mixed , me a2, k2, b_f_law_mixed⟩
  have d_f_law_laid : DefF l.prog w K mg base cm "_law_laid" 2 1 Ff_law_laid := ⟨_, _, _, okf_law_laid M F_f_law_laid d_f_law_mixed, me a3, k3, b_f_law_laid⟩
  have d_f_law_cells : DefF l.prog w K mg base cm "_law_cells" 3 1 Ff_law_cells := ⟨_, _, _, okf_law_cells M F_f_law_cells d_f_law_cell_at d_f_law_laid, me a4, k4, b_f_law_cells⟩
  have d_f_law_will_of : DefF l.prog w K mg base cm "_law_will_of" 2 3 Ff_law_will_of := ⟨_, _, _, okf_law_will_of M F_f_law_will_of d_f_law_mixed, me a5, k5, b_f_law_will_of⟩
  have d_f_law_deed_by : DefF l.prog w K mg base cm "_law_deed_by" 3 2 Ff_law_deed_by := ⟨_, _, _, okf_law_deed_by M F_f_law_deed_by d_f_law_mixed d_f_law_will_of, me a6, k6, b_f_law_deed_by⟩
  have d_f_law_do : DefF l.prog w K mg base cm "_law_do" 1 2 Ff_law_do := ⟨_, _, _, okf_law_do M F_f_law_do , me a7, k7, b_f_law_do⟩
  have d_f_law_known : DefF l.prog w K mg base cm "_law_known" 1 1 Ff_law_known := ⟨_, _, _, okf_law_known M F_f_law_known , me a8, k8, b_f_law_known⟩
  have d_f_law_lost : DefF l.prog w K mg base cm "_law_lost" 2 1 Ff_law_lost := ⟨_, _, _, okf_law_lost M F_f_law_lost d_f_law_known, me a9, k9, b_f_law_lost⟩
  have d_f_law_whole : DefF l.prog w K mg base cm "_law_whole" 1 1 Ff_law_whole := ⟨_, _, _, okf_law_whole M F_f_law_whole , me a10, k10, b_f_law_whole⟩
  have d_f_law_numbers : DefF l.prog w K mg base cm "_law_numbers" 2 2 Ff_law_numbers := ⟨_, _, _, okf_law_numbers M F_f_law_numbers d_f_law_whole, me a11, k11, b_f_law_numbers⟩
  have d_m_need_box : MetF l.prog w K mg base cm 7 "need_box" 1 2 Fm_need_box := ⟨_, _, _, okm_need_box M F_m_need_box , ⟨a12, i12, k12⟩, M.cl, b_m_need_box⟩
  have d_f_is_deed : DefF l.prog w K mg base cm "is_deed" 1 1 Ff_is_deed := ⟨_, _, _, okf_is_deed M F_f_is_deed , me a13, k13, b_f_is_deed⟩
  have d_m_bequeath : MetF l.prog w K mg base cm 7 "bequeath" 2 3 Fm_bequeath := ⟨_, _, _, okm_bequeath M F_m_bequeath d_m_need_box d_f_is_deed, ⟨a14, i14, k14⟩, M.cl, b_m_bequeath⟩
  have d_m_drop : MetF l.prog w K mg base cm 7 "drop" 2 2 Fm_drop := ⟨_, _, _, okm_drop M F_m_drop d_m_need_box, ⟨a15, i15, k15⟩, M.cl, b_m_drop⟩
  have d_m_need_slot : MetF l.prog w K mg base cm 7 "need_slot" 2 3 Fm_need_slot := ⟨_, _, _, okm_need_slot M F_m_need_slot d_m_need_box, ⟨a16, i16, k16⟩, M.cl, b_m_need_slot⟩
  have d_m_empty : MetF l.prog w K mg base cm 7 "empty" 3 3 Fm_empty := ⟨_, _, _, okm_empty M F_m_empty d_m_need_slot, ⟨a17, i17, k17⟩, M.cl, b_m_empty⟩
  have d_m_make : MetF l.prog w K mg base cm 7 "make" 1 2 Fm_make := ⟨_, _, _, okm_make M F_m_make , ⟨a18, i18, k18⟩, M.cl, b_m_make⟩
  have d_m_pair : MetF l.prog w K mg base cm 7 "pair" 2 4 Fm_pair := ⟨_, _, _, okm_pair M F_m_pair d_m_need_box, ⟨a19, i19, k19⟩, M.cl, b_m_pair⟩
  have d_m_put : MetF l.prog w K mg base cm 7 "put" 3 5 Fm_put := ⟨_, _, _, okm_put M F_m_put d_m_need_box d_m_need_slot, ⟨a20, i20, k20⟩, M.cl, b_m_put⟩
  have d_m_take : MetF l.prog w K mg base cm 7 "take" 2 2 Fm_take := ⟨_, _, _, okm_take M F_m_take d_m_need_box, ⟨a21, i21, k21⟩, M.cl, b_m_take⟩
  have d_m_unpair : MetF l.prog w K mg base cm 7 "unpair" 1 2 Fm_unpair := ⟨_, _, _, okm_unpair M F_m_unpair , ⟨a22, i22, k22⟩, M.cl, b_m_unpair⟩
  have d_f_law_told : DefF l.prog w K mg base cm "_law_told" 4 2 Ff_law_told := ⟨_, _, _, okf_law_told M F_f_law_told d_m_bequeath d_m_drop d_m_empty d_m_make d_m_pair d_m_put d_m_take d_m_unpair, me a23, k23, b_f_law_told⟩
  have d_f_law_world : DefF l.prog w K mg base cm "_law_world" 1 0 Ff_law_world := ⟨_, _, _, okf_law_world M F_f_law_world , me a24, k24, b_f_law_world⟩
  have d_m_boxes : MetF l.prog w K mg base cm 7 "boxes" 1 1 Fm_boxes := ⟨_, _, _, okm_boxes M F_m_boxes , ⟨a25, i25, k25⟩, M.cl, b_m_boxes⟩
  have d_m_hands : MetF l.prog w K mg base cm 7 "hands" 1 1 Fm_hands := ⟨_, _, _, okm_hands M F_m_hands , ⟨a26, i26, k26⟩, M.cl, b_m_hands⟩
  have d_m_pairs : MetF l.prog w K mg base cm 7 "pairs" 1 1 Fm_pairs := ⟨_, _, _, okm_pairs M F_m_pairs , ⟨a27, i27, k27⟩, M.cl, b_m_pairs⟩
  have d_m_size : MetF l.prog w K mg base cm 7 "size" 2 2 Fm_size := ⟨_, _, _, okm_size M F_m_size d_m_need_box, ⟨a28, i28, k28⟩, M.cl, b_m_size⟩
  have d_m_told : MetF l.prog w K mg base cm 7 "told" 3 3 Fm_told := ⟨_, _, _, okm_told M F_m_told d_m_need_slot, ⟨a29, i29, k29⟩, M.cl, b_m_told⟩
  have d_f_held_by : DefF l.prog w K mg base cm "held_by" 4 2 Ff_held_by := ⟨_, _, _, okf_held_by M F_f_held_by d_m_size d_m_told, me a30, k30, b_f_held_by⟩
  have d_f_next_row : DefF l.prog w K mg base cm "next_row" 5 3 Ff_next_row := ⟨_, _, _, okf_next_row M F_f_next_row d_m_pairs d_f_held_by, me a31, k31, b_f_next_row⟩
  have d_f_come_to : DefF l.prog w K mg base cm "come_to" 6 1 Ff_come_to := ⟨_, _, _, okf_come_to M F_f_come_to d_m_hands d_f_next_row, me a32, k32, b_f_come_to⟩
  have d_f_lost : DefF l.prog w K mg base cm "lost" 7 1 Ff_lost := ⟨_, _, _, okf_lost M F_f_lost d_m_boxes d_f_come_to, me a33, k33, b_f_lost⟩
  exact (okf_law M F_f_law ⟨mk, a0, i0, kc⟩ (okm_init M F_m_init) b_m_init d_f_law_cells d_f_law_deed_by d_f_law_do d_f_law_lost d_f_law_numbers d_f_law_told d_f_law_world d_f_lost).imp spLaw_of
theorem no_ends {P : Program} {w : World} {H : Hp} {s : Shared} {e : Value} {s' : Shared} (h : L2.CX P w [] H s (fun _ _ _ => False) e s') : False := by
  obtain ⟨_, _, _, _, _, _, _, _, _, _, _, _, z⟩ := h
  exact z
theorem walk {l : PySem.W.OpenLaw} {q : Program} {loose : List Str} {XP : (Str → Option Value) → Heap → Prop} {YP : World → Heap → Prop} {d : DefRec} {K : Params → PySem.W.Frag} (hn : l.most = some 63) (hdf : d.params.defaults = [])
    (hY : ∀ (w : World) (h : Heap), YP w h → (K w.params).In h)
    (F : ∀ (w : World) (mg : Str → Option Value) (fa : Addr) (h : Heap), (K w.params).In h → h.Ns mainGlobals mg → mg d.name = some (.ref fa) →
      ∃ fd : FuncData, (∀ (s : Shared) (u : Value), BindsTo s fd ⟨[u], []⟩ [("_law_script", u)]) ∧ ∀ base : Heap, (K w.params).In base → base.Ns mainGlobals mg → FnOk l.prog w (K w.params) mg base (L2.CX l.prog w) 8 fa fd ["_law_script"] (spLaw (K w.params))) :
    PySem.W.WalkO q loose XP YP l.row.toRowW d [] (fun f vs => PySem.call f vs) :=
  L2.walk_of (n := 63) (k := 8) (x := "_law_script") (CX := fun w => L2.CX l.prog w) (sp := fun w => spLaw (K w.params)) hn (by decide) hdf ⟨rfl, by decide, by decide⟩ hY F (fun _ _ a ns hl _ hS => ⟨a, ns, rfl, hl, hS, fun _ => rfl⟩) fun _ _ _ _ _ z => no_ends z
end Vt

open PySem PySem.W PyProof.Rows
set_option maxRecDepth 100000 in
set_option maxHeartbeats 0 in
theorem PySem.Challenge.cw_lastwill_k06_lost_holds : PySem.Challenge.rw_lastwill_k06_lost.Holds := by
  w_on; o_law; k_head; (case hw => w_witness2)
  k_fill
  refine Vt.walk (l := PySem.Challenge.rw_lastwill_k06_lost) rfl rfl (fun w h Y => PySem.W.kIn_of Y) ?F
  case F =>
    intro w mg fa h KX Gm hmg
    refine' Vt.all_mk KX Gm hmg ?aC ?aE0 ?aE1 ?aE2 ?aE3 ?aE4 ?aE5 ?a0 ?i0 ?l0 ?c0 ?k0 ?a1 ?l1 ?c1 ?k1 ?a2 ?l2 ?c2 ?k2 ?a3 ?l3 ?c3 ?k3 ?a4 ?l4 ?c4 ?k4 ?a5 ?l5 ?c5 ?k5 ?a6 ?l6 ?c6 ?k6 ?a7 ?l7 ?c7 ?k7 ?a8 ?l8 ?c8 ?k8 ?a9 ?l9 ?c9 ?k9 ?a10 ?l10 ?c10 ?k10 ?a11 ?l11 ?c11 ?k11 ?a12 ?i12 ?l12 ?c12 ?k12 ?a13 ?l13 ?c13 ?k13 ?a14 ?i14 ?l14 ?c14 ?k14 ?a15 ?i15 ?l15 ?c15 ?k15 ?a16 ?i16 ?l16 ?c16 ?k16 ?a17 ?i17 ?l17 ?c17 ?k17 ?a18 ?i18 ?l18 ?c18 ?k18 ?a19 ?i19 ?l19 ?c19 ?k19 ?a20 ?i20 ?l20 ?c20 ?k20 ?a21 ?i21 ?l21 ?c21 ?k21 ?a22 ?i22 ?l22 ?c22 ?k22 ?a23 ?l23 ?c23 ?k23 ?a24 ?l24 ?c24 ?k24 ?a25 ?i25 ?l25 ?c25 ?k25 ?a26 ?i26 ?l26 ?c26 ?k26 ?a27 ?i27 ?l27 ?c27 ?k27 ?a28 ?i28 ?l28 ?c28 ?k28 ?a29 ?i29 ?l29 ?c29 ?k29 ?a30 ?l30 ?c30 ?k30 ?a31 ?l31 ?c31 ?k31 ?a32 ?l32 ?c32 ?k32 ?a33 ?l33 ?c33 ?k33 ?a34 ?l34 ?c34 ?k34 ?pg ?hd ?po ?sa ?mk ?kc ?n0 ?n1 ?n2 ?n3 ?n4 ?n5 ?b0 ?b1 ?b2 ?b3 ?b4 ?b5 ?b6 ?b7 ?b8 ?b9 ?ms ?mb ?mp ?md ?x0 ?xk0 ?xs0 ?xt0 ?x1 ?xk1 ?xs1 ?xt1 ?x2 ?xk2 ?xs2 ?xt2 ?x3 ?xk3 ?xs3 ?xt3 ?x4 ?xk4 ?xs4 ?xt4 ?x5 ?xk5 ?xs5 ?xt5
    (case aC => k_is); (case aE0 => k_is); (case aE1 => k_is); (case aE2 => k_is); (case aE3 => k_is); (case aE4 => k_is)
    (case aE5 => k_is); (case a0 => k_is); (case i0 => k_is); (case l0 => k_is); (case c0 => k_is); (case k0 => k_is)
    (case a1 => k_is); (case l1 => k_is); (case c1 => k_is); (case k1 => k_is); (case a2 => k_is); (case l2 => k_is)
    (case c2 => k_is); (case k2 => k_is); (case a3 => k_is); (case l3 => k_is); (case c3 => k_is); (case k3 => k_is)
    (case a4 => k_is); (case l4 => k_is); (case c4 => k_is); (case k4 => k_is); (case a5 => k_is); (case l5 => k_is)
    (case c5 => k_is); (case k5 => k_is); (case a6 => k_is); (case l6 => k_is); (case c6 => k_is); (case k6 => k_is)
    (case a7 => k_is); (case l7 => k_is); (case c7 => k_is); (case k7 => k_is); (case a8 => k_is); (case l8 => k_is)
    (case c8 => k_is); (case k8 => k_is); (case a9 => k_is); (case l9 => k_is); (case c9 => k_is); (case k9 => k_is)
    (case a10 => k_is); (case l10 => k_is); (case c10 => k_is); (case k10 => k_is); (case a11 => k_is); (case l11 => k_is)
    (case c11 => k_is); (case k11 => k_is); (case a12 => k_is); (case i12 => k_is); (case l12 => k_is); (case c12 => k_is)
    (case k12 => k_is); (case a13 => k_is); (case l13 => k_is); (case c13 => k_is); (case k13 => k_is); (case a14 => k_is)
    (case i14 => k_is); (case l14 => k_is); (case c14 => k_is); (case k14 => k_is); (case a15 => k_is); (case i15 => k_is)
    (case l15 => k_is); (case c15 => k_is); (case k15 => k_is); (case a16 => k_is); (case i16 => k_is); (case l16 => k_is)
    (case c16 => k_is); (case k16 => k_is); (case a17 => k_is); (case i17 => k_is); (case l17 => k_is); (case c17 => k_is)
    (case k17 => k_is); (case a18 => k_is); (case i18 => k_is); (case l18 => k_is); (case c18 => k_is); (case k18 => k_is)
    (case a19 => k_is); (case i19 => k_is); (case l19 => k_is); (case c19 => k_is); (case k19 => k_is); (case a20 => k_is)
    (case i20 => k_is); (case l20 => k_is); (case c20 => k_is); (case k20 => k_is); (case a21 => k_is); (case i21 => k_is)
    (case l21 => k_is); (case c21 => k_is); (case k21 => k_is); (case a22 => k_is); (case i22 => k_is); (case l22 => k_is)
    (case c22 => k_is); (case k22 => k_is); (case a23 => k_is); (case l23 => k_is); (case c23 => k_is); (case k23 => k_is)
    (case a24 => k_is); (case l24 => k_is); (case c24 => k_is); (case k24 => k_is); (case a25 => k_is); (case i25 => k_is)
    (case l25 => k_is); (case c25 => k_is); (case k25 => k_is); (case a26 => k_is); (case i26 => k_is); (case l26 => k_is)
    (case c26 => k_is); (case k26 => k_is); (case a27 => k_is); (case i27 => k_is); (case l27 => k_is); (case c27 => k_is)
    (case k27 => k_is); (case a28 => k_is); (case i28 => k_is); (case l28 => k_is); (case c28 => k_is); (case k28 => k_is)
    (case a29 => k_is); (case i29 => k_is); (case l29 => k_is); (case c29 => k_is); (case k29 => k_is); (case a30 => k_is)
    (case l30 => k_is); (case c30 => k_is); (case k30 => k_is); (case a31 => k_is); (case l31 => k_is); (case c31 => k_is)
    (case k31 => k_is); (case a32 => k_is); (case l32 => k_is); (case c32 => k_is); (case k32 => k_is); (case a33 => k_is)
    (case l33 => k_is); (case c33 => k_is); (case k33 => k_is); (case a34 => k_is); (case l34 => k_is); (case c34 => k_is)
    (case k34 => k_is); (case pg => k_is); (case hd => k_is); (case po => k_is); (case sa => k_is); (case mk => k_is)
    (case kc => k_is); (case n0 => k_is); (case n1 => k_is); (case n2 => k_is); (case n3 => k_is); (case n4 => k_is)
    (case n5 => k_is); (case b0 => k_is); (case b1 => k_is); (case b2 => k_is); (case b3 => k_is); (case b4 => k_is)
    (case b5 => k_is); (case b6 => k_is); (case b7 => k_is); (case b8 => k_is); (case b9 => k_is); (case ms => k_is)
    (case mb => k_is); (case mp => k_is); (case md => k_is); (case x0 => k_exc); (case xk0 => k_is); (case xs0 => k_is)
    (case xt0 => k_is); (case x1 => k_exc); (case xk1 => k_is); (case xs1 => k_is); (case xt1 => k_is); (case x2 => k_exc)
    (case xk2 => k_is); (case xs2 => k_is); (case xt2 => k_is); (case x3 => k_exc); (case xk3 => k_is); (case xs3 => k_is)
    (case xt3 => k_is); (case x4 => k_exc); (case xk4 => k_is); (case xs4 => k_is); (case xt4 => k_is); (case x5 => k_exc)
    (case xk5 => k_is); (case xs5 => k_is); (case xt5 => k_is)
