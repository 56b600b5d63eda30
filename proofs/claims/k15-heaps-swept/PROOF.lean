import PyProof.Rows.All
import Wide.All
import OpenK.AllK
import Wide.FinOn
import KE.KExcSuper
import HandS.ForMost
import HandS.ForExc
import HandS.Nested
import HandS.ExcInit
import PyProof.Rows.SetFrom
import HandS.Strs
import HandS.SetFor
import KE.KLam
import KE.KExcIs
import HandS.Lambda
import HandS.TryMany
import HandS.IsInst
import HandS.Words
import HandS.WordsExc
import HandS.ExcIs
import HandS.EndTab
import HandS.EndOwn
import HandS.NestedK
import HandS.Ends
import PySem.Challenge.RW_loopyard_k15_heaps_swept
import HandS.CallLocal
import HandS.Wide
import HandS.SortRule
import HandS.SortInts
import HandS.Deep
import HandS.Evl
import HandS.Style
namespace Hm
variable {α : Type}

/-! ### places changed -/
def swp (l : List α) (i j : Nat) : List α := match l[i]?, l[j]? with
  | some a, some b => (l.set i b).set j a
  | _, _ => l

theorem swp_len (l : List α) (i j : Nat) : (swp l i j).length = l.length := by
  unfold swp
  split
  · rw [List.length_set, List.length_set]
  · rfl

theorem swp_eq {l : List α} {i j : Nat} {a b : α} (hi : l[i]? = some a) (hj : l[j]? = some b) : swp l i j = (l.set i b).set j a := by
  unfold swp
  rw [hi, hj]

theorem swp_get {l : List α} {i j : Nat} (hi : i < l.length) (hj : j < l.length) (k : Nat) :
    (swp l i j)[k]? = if k = j then l[i]? else if k = i then l[j]? else l[k]? := by
  have ei : l[i]? = some l[i] := List.getElem?_eq_getElem hi
  have ej : l[j]? = some l[j] := List.getElem?_eq_getElem hj
  rw [swp_eq ei ej]
  by_cases h1 : k = j
  · subst h1
    rw [if_pos rfl, List.getElem?_set_self (by rw [List.length_set]; exact hj), ei]
  · rw [if_neg h1, List.getElem?_set_ne (fun h => h1 h.symm)]
    by_cases h2 : k = i
    · subst h2
      rw [if_pos rfl, List.getElem?_set_self hi, ej]
    · rw [if_neg h2, List.getElem?_set_ne (fun h => h2 h.symm)]

theorem set_perm : ∀ {l : List α} {i : Nat} {a : α} (b : α), l[i]? = some a → List.Perm (a :: l.set i b) (b :: l)
  | [], i, a, b, h => by simp at h
  | x :: r, 0, a, b, h => by
    have e : x = a := Option.some.inj h
    subst e
    exact List.Perm.swap _ _ _
  | x :: r, i + 1, a, b, h => by
    have ih := set_perm (l := r) (i := i) b h
    show List.Perm (a :: x :: r.set i b) (b :: x :: r)
    exact (List.Perm.swap x a _).trans ((List.Perm.cons x ih).trans (List.Perm.swap b x _))

theorem swp_perm (l : List α) (i j : Nat) : List.Perm (swp l i j) l := by
  unfold swp
  split
  · rename_i a b hi hj
    by_cases e : i = j
    · subst e
      have e2 : a = b := Option.some.inj (hi.symm.trans hj)
      subst e2
      have l1 : i < l.length := (List.getElem?_eq_some_iff.mp hi).1
      have : (l.set i a).set i a = l := by
        rw [List.set_set]
        apply List.ext_getElem?
        intro k
        by_cases h : k = i
        · subst h
          rw [List.getElem?_set_self l1, hi]
        · rw [List.getElem?_set_ne (fun z => h z.symm)]
      rw [this]
    · have h1 := set_perm (l := l) (i := i) b hi
      have hj2 : (l.set i b)[j]? = some b := by
        rw [List.getElem?_set_ne e]
        exact hj
      have h2 := set_perm (l := l.set i b) (i := j) a hj2
      exact (h2.trans h1).cons_inv
  · exact List.Perm.refl _

theorem swp_map {β : Type} (g : α → β) (l : List α) (i j : Nat) : swp (l.map g) i j = (swp l i j).map g := by
  unfold swp
  rw [List.getElem?_map, List.getElem?_map]
  cases hi : l[i]? with
  | none => rfl
  | some a =>
    cases hj : l[j]? with
    | none => rfl
    | some b =>
      show ((l.map g).set i (g b)).set j (g a) = ((l.set i b).set j a).map g
      rw [List.map_set, List.map_set]

/-! ### the moves -/
/-- whether the item at i has a lesser key than the one at j -/
def lss (f : α → Int) (l : List α) (i j : Nat) : Bool := match l[i]?, l[j]? with
  | some a, some b => decide (f a < f b)
  | _, _ => false

def rise (f : α → Int) (l : List α) (top place : Nat) : List α :=
  if h : top < place then
    if lss f l place ((place - 1) / 2) then rise f (swp l place ((place - 1) / 2)) top ((place - 1) / 2) else l
  else l
termination_by place
decreasing_by omega

/-- the lesser child of a place that has one -/
def child (f : α → Int) (l : List α) (place : Nat) : Nat :=
  if 2 * place + 1 + 1 < l.length ∧ lss f l (2 * place + 1) (2 * place + 1 + 1) = false then 2 * place + 1 + 1 else 2 * place + 1

theorem child_lo (f : α → Int) (l : List α) (p : Nat) : 2 * p + 1 ≤ child f l p := by
  unfold child
  split <;> omega
theorem child_hi (f : α → Int) (l : List α) (p : Nat) : child f l p ≤ 2 * p + 2 := by
  unfold child
  split <;> omega
theorem child_lt (f : α → Int) (l : List α) (p : Nat) (h : 2 * p + 1 < l.length) : child f l p < l.length := by
  unfold child
  split <;> omega

def down (f : α → Int) (l : List α) (place : Nat) : List α × Nat :=
  if h : 2 * place + 1 < l.length then down f (swp l place (child f l place)) (child f l place) else (l, place)
termination_by l.length - place
decreasing_by
  rw [swp_len]
  have := child_lo f l place
  have := child_lt f l place h
  omega

def sink (f : α → Int) (l : List α) (top : Nat) : List α := rise f (down f l top).1 top (down f l top).2
def push (f : α → Int) (l : List α) (x : α) : List α := rise f (l ++ [x]) 0 l.length
/-- what is left behind the first one is taken out -/
def popL (f : α → Int) (l : List α) : List α := match l.getLast? with
  | none => []
  | some z => if l.dropLast.isEmpty then [] else sink f (l.dropLast.set 0 z) 0
def heapTo (f : α → Int) : Nat → List α → List α
  | 0, l => l
  | k + 1, l => heapTo f k (sink f l k)
def heapify (f : α → Int) (l : List α) : List α := heapTo f (l.length / 2) l

/-! ### all that was there is there -/
theorem rise_perm (f : α → Int) (l : List α) (top place : Nat) : List.Perm (rise f l top place) l := by
  induction place using Nat.strongRecOn generalizing l with
  | _ place ih =>
    unfold rise
    split
    · split
      · exact (ih _ (by omega) _).trans (swp_perm _ _ _)
      · exact List.Perm.refl _
    · exact List.Perm.refl _
theorem rise_len (f : α → Int) (l : List α) (top place : Nat) : (rise f l top place).length = l.length := (rise_perm f l top place).length_eq
theorem down_perm (f : α → Int) (n : Nat) : ∀ (l : List α) (place : Nat), l.length - place = n → List.Perm (down f l place).1 l := by
  induction n using Nat.strongRecOn with
  | _ n ih =>
    intro l place e
    unfold down
    split
    · rename_i h
      have h1 := child_lo f l place
      have h2 := child_lt f l place h
      refine (ih _ ?_ _ _ rfl).trans (swp_perm _ _ _)
      rw [swp_len]
      omega
    · exact List.Perm.refl _
theorem down_len (f : α → Int) (l : List α) (place : Nat) : (down f l place).1.length = l.length := (down_perm f _ l place rfl).length_eq
theorem sink_perm (f : α → Int) (l : List α) (top : Nat) : List.Perm (sink f l top) l := (rise_perm f _ _ _).trans (down_perm f _ l top rfl)
theorem sink_len (f : α → Int) (l : List α) (top : Nat) : (sink f l top).length = l.length := (sink_perm f l top).length_eq
theorem push_perm (f : α → Int) (l : List α) (x : α) : List.Perm (push f l x) (x :: l) := (rise_perm f _ _ _).trans List.perm_append_comm
theorem push_len (f : α → Int) (l : List α) (x : α) : (push f l x).length = l.length + 1 := by
  unfold push
  rw [rise_len, List.length_append]
  rfl
theorem heapTo_perm (f : α → Int) : ∀ (k : Nat) (l : List α), List.Perm (heapTo f k l) l
  | 0, l => List.Perm.refl _
  | k + 1, l => (heapTo_perm f k _).trans (sink_perm f l k)
theorem heapify_perm (f : α → Int) (l : List α) : List.Perm (heapify f l) l := heapTo_perm f _ l

theorem last_perm {l : List α} {z x : α} (hz : l.getLast? = some z) (hx : l.dropLast[0]? = some x) : List.Perm (x :: l.dropLast.set 0 z) l := by
  have e : l = l.dropLast ++ [z] := by
    have hne : l ≠ [] := by
      intro h
      subst h
      simp at hz
    have := List.dropLast_concat_getLast hne
    rw [List.getLast?_eq_some_getLast hne] at hz
    rw [Option.some.inj hz] at this
    exact this.symm
  have h1 := set_perm (l := l.dropLast) (i := 0) z hx
  refine h1.trans ?_
  conv => rhs; rw [e]
  exact (List.perm_append_comm (l₁ := l.dropLast) (l₂ := [z])).symm
theorem pop_perm (f : α → Int) {l : List α} {x : α} (h : l[0]? = some x) : List.Perm (x :: popL f l) l := by
  have hne : l ≠ [] := by
    intro z
    subst z
    simp at h
  have hz : l.getLast? = some (l.getLast hne) := List.getLast?_eq_some_getLast hne
  unfold popL
  rw [hz]
  show List.Perm (x :: if l.dropLast.isEmpty then [] else sink f (l.dropLast.set 0 (l.getLast hne)) 0) l
  by_cases e : l.dropLast.isEmpty = true
  · rw [if_pos e]
    cases l with
    | nil => exact absurd rfl hne
    | cons y r =>
      have ey : y = x := Option.some.inj h
      subst ey
      cases r with
      | nil => exact List.Perm.refl _
      | cons z s => simp at e
  · rw [if_neg e]
    have hx : l.dropLast[0]? = some x := by
      cases l with
      | nil => exact absurd rfl hne
      | cons y r =>
        cases r with
        | nil => exact absurd rfl e
        | cons z s => exact h
    exact ((List.Perm.cons x (sink_perm f _ 0))).trans (last_perm hz hx)

/-! ### heaps -/
def ky (f : α → Int) (l : List α) (i : Nat) : Int := match l[i]? with
  | some a => f a
  | none => 0
theorem ky_of {f : α → Int} {l : List α} {i : Nat} {a : α} (h : l[i]? = some a) : ky f l i = f a := by
  unfold ky
  rw [h]
theorem ky_swp {f : α → Int} {l : List α} {i j : Nat} (hi : i < l.length) (hj : j < l.length) (k : Nat) :
    ky f (swp l i j) k = if k = j then ky f l i else if k = i then ky f l j else ky f l k := by
  unfold ky
  rw [swp_get hi hj k]
  by_cases h1 : k = j
  · rw [if_pos h1, if_pos h1]
  · rw [if_neg h1, if_neg h1]
    by_cases h2 : k = i
    · rw [if_pos h2, if_pos h2]
    · rw [if_neg h2, if_neg h2]
theorem lss_ky {f : α → Int} {l : List α} {i j : Nat} (hi : i < l.length) (hj : j < l.length) : lss f l i j = decide (ky f l i < ky f l j) := by
  have ei : l[i]? = some l[i] := List.getElem?_eq_getElem hi
  have ej : l[j]? = some l[j] := List.getElem?_eq_getElem hj
  unfold lss ky
  rw [ei, ej]

/-- no item from the children of top on is less than the one above it -/
def HeapFrom (f : α → Int) (l : List α) (top : Nat) : Prop := ∀ k, 1 ≤ k → k < l.length → top ≤ (k - 1) / 2 → ky f l ((k - 1) / 2) ≤ ky f l k
abbrev IsHeap (f : α → Int) (l : List α) : Prop := HeapFrom f l 0

inductive Desc (top : Nat) : Nat → Prop
  | refl : Desc top top
  | left {p : Nat} : Desc top p → Desc top (2 * p + 1)
  | right {p : Nat} : Desc top p → Desc top (2 * p + 2)
theorem Desc.le {top p : Nat} (h : Desc top p) : top ≤ p := by
  induction h with
  | refl => exact Nat.le_refl _
  | left _ ih => omega
  | right _ ih => omega
theorem Desc.up {top p : Nat} (h : Desc top p) (hp : top < p) : Desc top ((p - 1) / 2) := by
  cases h with
  | refl => omega
  | @left q h => rw [show (2 * q + 1 - 1) / 2 = q by omega]; exact h
  | @right q h => rw [show (2 * q + 2 - 1) / 2 = q by omega]; exact h
theorem Desc.zero : ∀ p : Nat, Desc 0 p := fun p => by
  induction p using Nat.strongRecOn with
  | _ p ih =>
    by_cases h : p = 0
    · subst h
      exact .refl
    · have i := ih ((p - 1) / 2) (by omega)
      by_cases e : p = 2 * ((p - 1) / 2) + 1
      · rw [e]
        exact .left i
      · rw [show p = 2 * ((p - 1) / 2) + 2 by omega]
        exact .right i
theorem Desc.child {f : α → Int} {l : List α} {top p : Nat} (h : Desc top p) : Desc top (child f l p) := by
  unfold Hm.child
  split
  · exact .right h
  · exact .left h

/-- the rows but for the way up from a place -/
structure Rising (f : α → Int) (l : List α) (top p : Nat) : Prop where
  ok : ∀ k, 1 ≤ k → k < l.length → top ≤ (k - 1) / 2 → k ≠ p → ky f l ((k - 1) / 2) ≤ ky f l k
  up : top < p → ∀ c, 1 ≤ c → c < l.length → (c - 1) / 2 = p → ky f l ((p - 1) / 2) ≤ ky f l c

theorem rise_heap (f : α → Int) (top : Nat) : ∀ (p : Nat) (l : List α), p < l.length → Desc top p → Rising f l top p → HeapFrom f (rise f l top p) top := by
  intro p
  induction p using Nat.strongRecOn with
  | _ p ih =>
    intro l hp hd R
    unfold rise
    by_cases h : top < p
    · rw [dif_pos h]
      have du := hd.up h
      have hq : (p - 1) / 2 < p := by omega
      have hql : (p - 1) / 2 < l.length := by omega
      have tq := du.le
      by_cases c : lss f l p ((p - 1) / 2) = true
      · rw [if_pos c]
        rw [lss_ky hp hql] at c
        have c' := of_decide_eq_true c
        refine ih _ hq _ (by rw [swp_len]; exact hql) du ⟨?_, ?_⟩
        · intro k k1 k2 k3 k4
          rw [swp_len] at k2
          rw [ky_swp hp hql, ky_swp hp hql]
          by_cases e1 : k = p
          · subst e1
            rw [if_pos rfl, if_neg (show k ≠ (k - 1) / 2 by omega), if_pos rfl]
            omega
          · rw [if_neg k4, if_neg e1]
            have o := R.ok k k1 k2 k3 e1
            by_cases e2 : (k - 1) / 2 = (p - 1) / 2
            · rw [if_pos e2]
              rw [e2] at o
              omega
            · rw [if_neg e2]
              by_cases e3 : (k - 1) / 2 = p
              · rw [if_pos e3]
                exact R.up h k k1 k2 e3
              · rw [if_neg e3]
                exact o
        · intro ht c1 h1 h2 h3
          rw [swp_len] at h2
          have tqq := (du.up ht).le
          have o := R.ok ((p - 1) / 2) (by omega) hql tqq (by omega)
          rw [ky_swp hp hql, ky_swp hp hql]
          rw [if_neg (show ((p - 1) / 2 - 1) / 2 ≠ (p - 1) / 2 by omega), if_neg (show ((p - 1) / 2 - 1) / 2 ≠ p by omega)]
          rw [if_neg (show c1 ≠ (p - 1) / 2 by omega)]
          by_cases e1 : c1 = p
          · rw [if_pos e1]
            exact o
          · rw [if_neg e1]
            have o2 := R.ok c1 h1 h2 (by omega) e1
            rw [h3] at o2
            omega
      · rw [if_neg c]
        rw [lss_ky hp hql] at c
        have c' : ¬ (ky f l p < ky f l ((p - 1) / 2)) := fun z => c (decide_eq_true z)
        intro k k1 k2 k3
        by_cases e : k = p
        · subst e
          omega
        · exact R.ok k k1 k2 k3 e
    · rw [dif_neg h]
      have e : p = top := by
        have := hd.le
        omega
      intro k k1 k2 k3
      exact R.ok k k1 k2 k3 (by omega)

/-- the rows but for the ways up from a place and down from it -/
structure Falling (f : α → Int) (l : List α) (top p : Nat) : Prop where
  ok : ∀ k, 1 ≤ k → k < l.length → top ≤ (k - 1) / 2 → k ≠ p → (k - 1) / 2 ≠ p → ky f l ((k - 1) / 2) ≤ ky f l k
  up : top < p → ∀ c, 1 ≤ c → c < l.length → (c - 1) / 2 = p → ky f l ((p - 1) / 2) ≤ ky f l c

theorem child_is (f : α → Int) (l : List α) (p : Nat) : child f l p = 2 * p + 1 ∨ child f l p = 2 * p + 2 := by
  unfold child
  split
  · exact .inr rfl
  · exact .inl rfl
theorem child_le {f : α → Int} {l : List α} {p : Nat} (h : 2 * p + 1 < l.length) : ∀ c, 1 ≤ c → c < l.length → (c - 1) / 2 = p → ky f l (child f l p) ≤ ky f l c := by
  intro c h1 h2 h3
  have hc : c = 2 * p + 1 ∨ c = 2 * p + 2 := by omega
  unfold child
  by_cases e : 2 * p + 1 + 1 < l.length
  · rw [lss_ky h e]
    by_cases d : ky f l (2 * p + 1) < ky f l (2 * p + 1 + 1)
    · rw [if_neg (fun z => by rw [decide_eq_true d] at z; exact Bool.noConfusion z.2)]
      rcases hc with rfl | rfl
      · exact Int.le_refl _
      · exact Int.le_of_lt d
    · rw [if_pos ⟨e, decide_eq_false d⟩]
      rcases hc with rfl | rfl
      · omega
      · exact Int.le_refl _
  · rw [if_neg (fun z => e z.1)]
    rcases hc with rfl | rfl
    · exact Int.le_refl _
    · omega

theorem down_rising (f : α → Int) (top : Nat) : ∀ (n : Nat) (l : List α) (p : Nat), l.length - p = n → p < l.length → Desc top p → Falling f l top p →
    (down f l p).2 < l.length ∧ Desc top (down f l p).2 ∧ Rising f (down f l p).1 top (down f l p).2 := by
  intro n
  induction n using Nat.strongRecOn with
  | _ n ih =>
    intro l p e hp hd F
    unfold down
    by_cases h : 2 * p + 1 < l.length
    · rw [dif_pos h]
      have c1 := child_lo f l p
      have c2 := child_lt f l p h
      have c3 := child_is f l p
      have cpar : (child f l p - 1) / 2 = p := by omega
      have r := ih (l.length - child f l p) (by omega) (swp l p (child f l p)) (child f l p) (by rw [swp_len]) (by rw [swp_len]; exact c2) hd.child ⟨?_, ?_⟩
      · rw [swp_len] at r
        exact r
      · intro k k1 k2 k3 k4 k5
        rw [swp_len] at k2
        rw [ky_swp hp c2, ky_swp hp c2]
        rw [if_neg k4, if_neg k5]
        by_cases e1 : (k - 1) / 2 = p
        · rw [if_pos e1, if_neg (show k ≠ p by omega)]
          exact child_le h k k1 k2 e1
        · rw [if_neg e1]
          by_cases e2 : k = p
          · rw [if_pos e2]
            subst e2
            have ht : top < k := by omega
            exact F.up ht (child f l k) (by omega) c2 cpar
          · rw [if_neg e2]
            exact F.ok k k1 k2 k3 e2 e1
      · intro ht c h1 h2 h3
        rw [swp_len] at h2
        rw [ky_swp hp c2, ky_swp hp c2]
        rw [cpar, if_neg (show p ≠ child f l p by omega), if_pos rfl, if_neg (show c ≠ child f l p by omega), if_neg (show c ≠ p by omega)]
        have := F.ok c h1 h2 (by have := hd.le; omega) (by omega) (by omega)
        rw [h3] at this
        exact this
    · rw [dif_neg h]
      refine ⟨hp, hd, ⟨fun k k1 k2 k3 k4 => ?_, fun ht c h1 h2 h3 => ?_⟩⟩
      · have k2' : k < l.length := k2
        exact F.ok k k1 k2 k3 k4 (by omega)
      · have h2' : c < l.length := h2
        omega

theorem sink_heap {f : α → Int} {l : List α} {top : Nat} (ht : top < l.length) (h : HeapFrom f l (top + 1)) : HeapFrom f (sink f l top) top := by
  obtain ⟨a, b, c⟩ := down_rising f top _ l top rfl ht .refl ⟨fun k k1 k2 k3 k4 k5 => h k k1 k2 (by omega), fun z => absurd z (Nat.lt_irrefl _)⟩
  exact rise_heap f top _ _ (by rw [down_len]; exact a) b c

theorem push_heap {f : α → Int} {l : List α} {x : α} (h : IsHeap f l) : IsHeap f (push f l x) := by
  have e : (l ++ [x]).length = l.length + 1 := by
    rw [List.length_append]
    rfl
  have kp : ∀ i, i < l.length → ky f (l ++ [x]) i = ky f l i := fun i hi => by
    unfold ky
    rw [List.getElem?_append_left hi]
  refine rise_heap f 0 _ _ (by omega) (Desc.zero _) ⟨fun k k1 k2 _ k4 => ?_, fun _ c h1 h2 h3 => ?_⟩
  · rw [kp k (by omega), kp _ (by omega)]
    exact h k k1 (by omega) (Nat.zero_le _)
  · omega

theorem heapTo_heap (f : α → Int) : ∀ (k : Nat) (l : List α), k ≤ l.length → HeapFrom f l k → IsHeap f (heapTo f k l)
  | 0, _, _, h => h
  | k + 1, l, hk, h => heapTo_heap f k _ (by rw [sink_len]; omega) (sink_heap (by omega) h)
theorem heapify_heap (f : α → Int) (l : List α) : IsHeap f (heapify f l) := by
  refine heapTo_heap f _ l (by omega) fun k k1 k2 k3 => ?_
  omega

theorem pop_heap {f : α → Int} {l : List α} (h : IsHeap f l) : IsHeap f (popL f l) := by
  unfold popL
  split
  · intro k _ k2
    simp at k2
  · rename_i z hz
    split
    · intro k _ k2
      simp at k2
    · rename_i ne
      have hl : 0 < l.dropLast.length := by
        cases e : l.dropLast with
        | nil => rw [e] at ne; exact absurd rfl ne
        | cons a b => simp
      refine sink_heap (by rw [List.length_set]; exact hl) fun k k1 k2 k3 => ?_
      rw [List.length_set] at k2
      have kp : ∀ i, 1 ≤ i → i < l.dropLast.length → ky f (l.dropLast.set 0 z) i = ky f l i := fun i h1 hi => by
        unfold ky
        rw [List.getElem?_set_ne (by omega), List.getElem?_dropLast, if_pos (by rw [List.length_dropLast] at hi; exact hi)]
      rw [kp k k1 k2, kp _ (by omega) (by omega)]
      rw [List.length_dropLast] at k2
      exact h k k1 (by omega) (Nat.zero_le _)

theorem heap_min {f : α → Int} {l : List α} (h : IsHeap f l) : ∀ k, k < l.length → ky f l 0 ≤ ky f l k := by
  intro k
  induction k using Nat.strongRecOn with
  | _ k ih =>
    intro hk
    by_cases e : k = 0
    · subst e
      exact Int.le_refl _
    · exact Int.le_trans (ih ((k - 1) / 2) (by omega) (by omega)) (h k (by omega) hk (Nat.zero_le _))
theorem heap_min_mem {f : α → Int} {l : List α} {x : α} (h : IsHeap f l) (hx : l[0]? = some x) : ∀ y ∈ l, f x ≤ f y := by
  intro y hy
  obtain ⟨i, hi, e⟩ := List.getElem_of_mem hy
  have := heap_min h i hi
  rw [ky_of hx, ky_of (List.getElem?_eq_getElem hi), e] at this
  exact this

/-! ### moves of rows whose keys go the same way -/
section
variable {β : Type} {f : α → Int} {h : β → Int} {g : α → β}
/-- two keys that are alike in their order -/
abbrev Alike (f : α → Int) (h : β → Int) (g : α → β) : Prop := ∀ a b, f a < f b ↔ h (g a) < h (g b)
theorem lss_map (m : Alike f h g) (l : List α) (i j : Nat) : lss h (l.map g) i j = lss f l i j := by
  unfold lss
  rw [List.getElem?_map, List.getElem?_map]
  cases l[i]? with
  | none => rfl
  | some a =>
    cases l[j]? with
    | none => rfl
    | some b =>
      show decide (h (g a) < h (g b)) = decide (f a < f b)
      by_cases e : f a < f b
      · rw [decide_eq_true e, decide_eq_true ((m a b).mp e)]
      · rw [decide_eq_false e, decide_eq_false (fun z => e ((m a b).mpr z))]
theorem rise_map (m : Alike f h g) (top : Nat) : ∀ (p : Nat) (l : List α), rise h (l.map g) top p = (rise f l top p).map g := by
  intro p
  induction p using Nat.strongRecOn with
  | _ p ih =>
    intro l
    unfold rise
    rw [lss_map m]
    split
    · split
      · rw [swp_map]
        exact ih _ (by omega) _
      · rfl
    · rfl
theorem child_map (m : Alike f h g) (l : List α) (p : Nat) : child h (l.map g) p = child f l p := by
  unfold child
  rw [lss_map m, List.length_map]
theorem down_map (m : Alike f h g) : ∀ (n : Nat) (l : List α) (p : Nat), l.length - p = n → down h (l.map g) p = ((down f l p).1.map g, (down f l p).2) := by
  intro n
  induction n using Nat.strongRecOn with
  | _ n ih =>
    intro l p e
    have e1 := down.eq_1 h (l.map g) p
    have e2 := down.eq_1 f l p
    by_cases c : 2 * p + 1 < l.length
    · rw [dif_pos (show 2 * p + 1 < (l.map g).length by rw [List.length_map]; exact c), child_map m, swp_map] at e1
      rw [dif_pos c] at e2
      rw [e1, e2]
      have h1 := child_lo f l p
      have h2 := child_lt f l p c
      exact ih (l.length - child f l p) (by omega) _ _ (by rw [swp_len])
    · rw [dif_neg (show ¬ 2 * p + 1 < (l.map g).length by rw [List.length_map]; exact c)] at e1
      rw [dif_neg c] at e2
      rw [e1, e2]
theorem sink_map (m : Alike f h g) (l : List α) (top : Nat) : sink h (l.map g) top = (sink f l top).map g := by
  unfold sink
  rw [down_map m _ l top rfl]
  exact rise_map m _ _ _
theorem push_map (m : Alike f h g) (l : List α) (x : α) : push h (l.map g) (g x) = (push f l x).map g := by
  unfold push
  rw [List.length_map, ← rise_map m, List.map_append]
  rfl
theorem pop_map (m : Alike f h g) (l : List α) : popL h (l.map g) = (popL f l).map g := by
  unfold popL
  rw [List.getLast?_map]
  cases l.getLast? with
  | none => rfl
  | some z =>
    show (if (l.map g).dropLast.isEmpty = true then [] else sink h ((l.map g).dropLast.set 0 (g z)) 0) = List.map g (if l.dropLast.isEmpty = true then [] else sink f (l.dropLast.set 0 z) 0)
    rw [← List.map_dropLast, List.isEmpty_map, ← List.map_set, sink_map m]
    split
    · rfl
    · rfl
theorem heapTo_map (m : Alike f h g) : ∀ (k : Nat) (l : List α), heapTo h k (l.map g) = (heapTo f k l).map g
  | 0, l => rfl
  | k + 1, l => by
    show heapTo h k (sink h (l.map g) k) = (heapTo f k (sink f l k)).map g
    rw [sink_map m, heapTo_map m k]
theorem heapify_map (m : Alike f h g) (l : List α) : heapify h (l.map g) = (heapify f l).map g := by
  unfold heapify
  rw [List.length_map, heapTo_map m]
end

/-! ### rows drained -/
theorem pop_len (f : α → Int) {l : List α} (h : l ≠ []) : (popL f l).length + 1 = l.length := by
  cases l with
  | nil => exact absurd rfl h
  | cons x r => exact (pop_perm f (l := x :: r) (x := x) rfl).length_eq
/-- the items as they come out, n of them at most -/
def outs (f : α → Int) : Nat → List α → List α
  | 0, _ => []
  | n + 1, l => match l[0]? with
    | none => []
    | some x => x :: outs f n (popL f l)
theorem outs_perm (f : α → Int) : ∀ (n : Nat) (l : List α), l.length = n → List.Perm (outs f n l) l
  | 0, l, h => by
    rw [List.length_eq_zero_iff.mp h]
    exact List.Perm.refl _
  | n + 1, l, h => by
    unfold outs
    cases l with
    | nil => simp at h
    | cons x r =>
      show List.Perm (x :: outs f n (popL f (x :: r))) (x :: r)
      have hl := pop_len f (l := x :: r) (List.cons_ne_nil _ _)
      exact (List.Perm.cons x (outs_perm f n _ (by omega))).trans (pop_perm f rfl)
/-- times never fall -/
def Rises (f : α → Int) (l : List α) : Prop := List.Pairwise (fun a b => f a ≤ f b) l
theorem outs_rises {f : α → Int} : ∀ (n : Nat) (l : List α), l.length = n → IsHeap f l → Rises f (outs f n l)
  | 0, l, _, _ => List.Pairwise.nil
  | n + 1, l, h, hh => by
    unfold outs
    cases l with
    | nil => simp at h
    | cons x r =>
      show List.Pairwise _ (x :: outs f n (popL f (x :: r)))
      have hl := pop_len f (l := x :: r) (List.cons_ne_nil _ _)
      refine List.Pairwise.cons ?_ (outs_rises n _ (by omega) (pop_heap hh))
      intro y hy
      have m1 := (outs_perm f n _ (by omega)).mem_iff.mp hy
      have m2 : y ∈ x :: popL f (x :: r) := List.mem_cons_of_mem _ m1
      exact heap_min_mem hh rfl y ((pop_perm f (l := x :: r) rfl).mem_iff.mp m2)
theorem outs_map {β : Type} {f : α → Int} {h : β → Int} {g : α → β} (m : Alike f h g) : ∀ (n : Nat) (l : List α), outs h n (l.map g) = (outs f n l).map g
  | 0, l => rfl
  | n + 1, l => by
    unfold outs
    rw [List.getElem?_map]
    cases l[0]? with
    | none => rfl
    | some x =>
      show g x :: outs h n (popL h (l.map g)) = (x :: outs f n (popL f l)).map g
      rw [pop_map m, outs_map m n]
      rfl

/-! ### what is due -/
def ripe (f : α → Int) (now : Int) : Nat → List α → List α × List α
  | 0, l => ([], l)
  | n + 1, l => match l[0]? with
    | none => ([], l)
    | some x => if f x ≤ now then (x :: (ripe f now n (popL f l)).1, (ripe f now n (popL f l)).2) else ([], l)
theorem ripe_perm (f : α → Int) (now : Int) : ∀ (n : Nat) (l : List α), List.Perm ((ripe f now n l).1 ++ (ripe f now n l).2) l
  | 0, l => List.Perm.refl _
  | n + 1, l => by
    unfold ripe
    cases l with
    | nil => exact List.Perm.refl _
    | cons x r =>
      show List.Perm ((if f x ≤ now then (x :: (ripe f now n (popL f (x :: r))).1, (ripe f now n (popL f (x :: r))).2) else ([], x :: r)).1 ++ (if f x ≤ now then (x :: (ripe f now n (popL f (x :: r))).1, (ripe f now n (popL f (x :: r))).2) else ([], x :: r)).2) (x :: r)
      by_cases e : f x ≤ now
      · rw [if_pos e]
        exact (List.Perm.cons x (ripe_perm f now n _)).trans (pop_perm f rfl)
      · rw [if_neg e]
        exact List.Perm.refl _
theorem ripe_heap {f : α → Int} {now : Int} : ∀ (n : Nat) (l : List α), IsHeap f l → IsHeap f (ripe f now n l).2
  | 0, l, h => h
  | n + 1, l, h => by
    unfold ripe
    cases l with
    | nil => exact h
    | cons x r =>
      show IsHeap f (if f x ≤ now then (x :: (ripe f now n (popL f (x :: r))).1, (ripe f now n (popL f (x :: r))).2) else ([], x :: r)).2
      by_cases e : f x ≤ now
      · rw [if_pos e]
        exact ripe_heap n _ (pop_heap h)
      · rw [if_neg e]
        exact h
theorem ripe_le {f : α → Int} {now : Int} : ∀ (n : Nat) (l : List α), ∀ y ∈ (ripe f now n l).1, f y ≤ now
  | 0, l => fun y hy => by cases hy
  | n + 1, l => by
    unfold ripe
    cases l with
    | nil => intro y hy; cases hy
    | cons x r =>
      show ∀ y ∈ (if f x ≤ now then (x :: (ripe f now n (popL f (x :: r))).1, (ripe f now n (popL f (x :: r))).2) else ([], x :: r)).1, f y ≤ now
      by_cases e : f x ≤ now
      · rw [if_pos e]
        intro y hy
        rcases List.mem_cons.mp hy with rfl | hy
        · exact e
        · exact ripe_le n _ y hy
      · rw [if_neg e]
        intro y hy
        cases hy
theorem ripe_gt {f : α → Int} {now : Int} : ∀ (n : Nat) (l : List α), l.length = n → IsHeap f l → ∀ y ∈ (ripe f now n l).2, now < f y
  | 0, l, h, _ => fun y hy => by
    have e : l = [] := List.length_eq_zero_iff.mp h
    subst e
    cases hy
  | n + 1, l, h, hh => by
    unfold ripe
    cases l with
    | nil => simp at h
    | cons x r =>
      show ∀ y ∈ (if f x ≤ now then (x :: (ripe f now n (popL f (x :: r))).1, (ripe f now n (popL f (x :: r))).2) else ([], x :: r)).2, now < f y
      by_cases e : f x ≤ now
      · rw [if_pos e]
        have hl := pop_len f (l := x :: r) (List.cons_ne_nil _ _)
        exact ripe_gt n _ (by omega) (pop_heap hh)
      · rw [if_neg e]
        intro y hy
        have := heap_min_mem hh rfl y hy
        omega
theorem ripe_rises {f : α → Int} {now : Int} : ∀ (n : Nat) (l : List α), IsHeap f l → Rises f (ripe f now n l).1
  | 0, l, _ => List.Pairwise.nil
  | n + 1, l, hh => by
    unfold ripe
    cases l with
    | nil => exact List.Pairwise.nil
    | cons x r =>
      show Rises f (if f x ≤ now then (x :: (ripe f now n (popL f (x :: r))).1, (ripe f now n (popL f (x :: r))).2) else ([], x :: r)).1
      by_cases e : f x ≤ now
      · rw [if_pos e]
        refine List.Pairwise.cons ?_ (ripe_rises n _ (pop_heap hh))
        intro y hy
        have m1 : y ∈ popL f (x :: r) := (ripe_perm f now n _).mem_iff.mp (List.mem_append_left _ hy)
        exact heap_min_mem hh rfl y ((pop_perm f (l := x :: r) rfl).mem_iff.mp (List.mem_cons_of_mem _ m1))
      · rw [if_neg e]
        exact List.Pairwise.nil

/-! ### whether rows are a heap -/
def isHeapB (f : α → Int) (l : List α) : Bool := !((List.range (l.length - 1)).map fun i => lss f l (i + 1) (i / 2)).any id
theorem isHeapB_iff {f : α → Int} {l : List α} : isHeapB f l = true ↔ IsHeap f l := by
  unfold isHeapB
  rw [Bool.not_eq_true', List.any_eq_false]
  constructor
  · intro h k k1 k2 _
    have hm : lss f l k ((k - 1) / 2) ∈ (List.range (l.length - 1)).map fun i => lss f l (i + 1) (i / 2) := by
      refine List.mem_map.mpr ⟨k - 1, List.mem_range.mpr (by omega), ?_⟩
      show lss f l (k - 1 + 1) ((k - 1) / 2) = _
      rw [show k - 1 + 1 = k by omega]
    have := h _ hm
    rw [lss_ky k2 (by omega)] at this
    have h3 : ¬ (ky f l k < ky f l ((k - 1) / 2)) := fun z => this (decide_eq_true z)
    omega
  · intro h b hb
    obtain ⟨i, hi, rfl⟩ := List.mem_map.mp hb
    have hi' := List.mem_range.mp hi
    rw [lss_ky (by omega) (by omega)]
    have := h (i + 1) (by omega) (by omega) (Nat.zero_le _)
    rw [show i + 1 - 1 = i by omega] at this
    intro z
    have := of_decide_eq_true z
    omega
theorem ripe_nil (f : α → Int) (now : Int) (n : Nat) : ripe f now n ([] : List α) = ([], []) := by
  cases n <;> rfl
theorem ripe_yes {f : α → Int} {now : Int} {x : α} {r : List α} (h : f x ≤ now) : ripe f now (x :: r).length (x :: r) = (x :: (ripe f now (popL f (x :: r)).length (popL f (x :: r))).1, (ripe f now (popL f (x :: r)).length (popL f (x :: r))).2) := by
  have e : (popL f (x :: r)).length = r.length := by
    have := pop_len f (l := x :: r) (List.cons_ne_nil _ _)
    rw [List.length_cons] at this
    omega
  rw [e]
  show (if f x ≤ now then (x :: (ripe f now r.length (popL f (x :: r))).1, (ripe f now r.length (popL f (x :: r))).2) else ([], x :: r)) = _
  rw [if_pos h]
theorem ripe_no {f : α → Int} {now : Int} {x : α} {r : List α} (h : ¬ f x ≤ now) : ripe f now (x :: r).length (x :: r) = ([], x :: r) := by
  show (if f x ≤ now then (x :: (ripe f now r.length (popL f (x :: r))).1, (ripe f now r.length (popL f (x :: r))).2) else ([], x :: r)) = _
  rw [if_neg h]

/-! ### rows in order -/
theorem uniq_of {le : α → α → Prop} (anti : ∀ a b, le a b → le b a → a = b) : ∀ {l m : List α}, List.Pairwise le l → List.Pairwise le m → List.Perm l m → l = m
  | [], m, _, _, p => (List.Perm.nil_eq p)
  | x :: r, [], _, _, p => absurd p.symm.nil_eq (by intro h; cases h)
  | x :: r, y :: q, hl, hm, p => by
    have hl' := List.pairwise_cons.mp hl
    have hm' := List.pairwise_cons.mp hm
    have e : x = y := by
      have h1 : x ∈ y :: q := p.mem_iff.mp List.mem_cons_self
      have h2 : y ∈ x :: r := p.mem_iff.mpr List.mem_cons_self
      rcases List.mem_cons.mp h1 with h1 | h1
      · exact h1
      · rcases List.mem_cons.mp h2 with h2 | h2
        · exact h2.symm
        · exact anti _ _ (hl'.1 y h2) (hm'.1 x h1)
    subst e
    rw [uniq_of anti hl'.2 hm'.2 p.cons_inv]
def lexle (p q : Int × Int) : Prop := p.1 < q.1 ∨ (p.1 = q.1 ∧ p.2 ≤ q.2)
abbrev SortP (l : List (Int × Int)) : Prop := List.Pairwise lexle l
theorem sortP_uniq {l m : List (Int × Int)} (hl : SortP l) (hm : SortP m) (p : List.Perm l m) : l = m := by
  refine uniq_of (fun a b h1 h2 => ?_) hl hm p
  unfold lexle at h1 h2
  refine Prod.ext ?_ ?_ <;> omega
theorem sortI_uniq {l m : List Int} (hl : List.Pairwise (· ≤ ·) l) (hm : List.Pairwise (· ≤ ·) m) (p : List.Perm l m) : l = m := uniq_of (fun a b h1 h2 => Int.le_antisymm h1 h2) hl hm p
theorem perm_map_inv {β : Type} {f : α → β} {ys xs : List β} (p : List.Perm ys xs) : ∀ es : List α, xs = es.map f → ∃ es', ys = es'.map f ∧ List.Perm es' es := by
  induction p with
  | nil =>
    intro es h
    refine ⟨[], rfl, ?_⟩
    rw [List.map_eq_nil_iff.mp h.symm]
  | @cons x l1 l2 _ ih =>
    intro es h
    cases es with
    | nil => cases h
    | cons e r =>
      obtain ⟨es', h1, h2⟩ := ih r (List.cons.inj h).2
      exact ⟨e :: es', by rw [h1, List.map_cons, (List.cons.inj h).1], List.Perm.cons e h2⟩
  | swap x y l =>
    intro es h
    cases es with
    | nil => cases h
    | cons e r =>
      cases r with
      | nil => exact absurd (List.cons.inj h).2 (by intro z; cases z)
      | cons e2 r =>
        have a := (List.cons.inj h).1
        have b := (List.cons.inj (List.cons.inj h).2).1
        have c := (List.cons.inj (List.cons.inj h).2).2
        exact ⟨e2 :: e :: r, by rw [List.map_cons, List.map_cons, ← a, ← b, ← c], List.Perm.swap _ _ _⟩
  | trans _ _ ih1 ih2 =>
    intro es h
    obtain ⟨es2, h1, h2⟩ := ih2 es h
    obtain ⟨es1, h3, h4⟩ := ih1 es2 h1
    exact ⟨es1, h3, h4.trans h2⟩
theorem nodup_filter_perm [DecidableEq α] {l : List α} {x : α} (hn : l.Nodup) (hx : x ∈ l) : List.Perm (x :: l.filter (fun y => decide (y ≠ x))) l := by
  induction l with
  | nil => cases hx
  | cons a r ih =>
    have hn' := List.nodup_cons.mp hn
    by_cases e : a = x
    · subst e
      have h1 : r.filter (fun y => decide (y ≠ a)) = r := by
        refine List.filter_eq_self.mpr fun y hy => decide_eq_true fun z => ?_
        subst z
        exact hn'.1 hy
      rw [List.filter_cons_of_neg (by simp), h1]
    · rw [List.filter_cons_of_pos (p := fun y => decide (y ≠ x)) (decide_eq_true e)]
      have hx' : x ∈ r := by
        rcases List.mem_cons.mp hx with h | h
        · exact absurd h.symm e
        · exact h
      exact (List.Perm.swap a x _).trans (List.Perm.cons a (ih hn'.2 hx'))
end Hm

set_option Elab.async false
set_option linter.all false
namespace Hm
variable {α : Type}
/-- the first ones are popped as long as g tells so; a count goes down by each -/
def sweep (f : α → Int) (g : α → Bool) : Nat → List α → Int → List α × Int
  | 0, l, c => (l, c)
  | n + 1, l, c => match l[0]? with
    | none => (l, c)
    | some x => if g x = true then sweep f g n (popL f l) (c - 1) else (l, c)
theorem sweep_nil {f : α → Int} {g : α → Bool} {n : Nat} {c : Int} : sweep f g n [] c = ([], c) := by
  cases n <;> rfl
theorem sweep_yes {f : α → Int} {g : α → Bool} {x : α} {r : List α} {c : Int} (h : g x = true) : sweep f g (x :: r).length (x :: r) c = sweep f g (popL f (x :: r)).length (popL f (x :: r)) (c - 1) := by
  have e := pop_len f (l := x :: r) (List.cons_ne_nil _ _)
  have e2 : (popL f (x :: r)).length = r.length := by
    have : (x :: r).length = r.length + 1 := rfl
    omega
  rw [e2]
  show (if g x = true then sweep f g r.length (popL f (x :: r)) (c - 1) else (x :: r, c)) = _
  rw [if_pos h]
theorem sweep_no {f : α → Int} {g : α → Bool} {x : α} {r : List α} {c : Int} (h : ¬ g x = true) : sweep f g (x :: r).length (x :: r) c = (x :: r, c) := by
  show (if g x = true then sweep f g r.length (popL f (x :: r)) (c - 1) else (x :: r, c)) = _
  rw [if_neg h]
theorem pop_mem {f : α → Int} {l : List α} {y : α} (h : y ∈ popL f l) : y ∈ l := by
  cases l with
  | nil =>
    have e : popL f ([] : List α) = [] := by
      have := h
      rfl
    rw [e] at h
    cases h
  | cons x r => exact (pop_perm f (l := x :: r) (x := x) rfl).mem_iff.mp (List.mem_cons_of_mem _ h)
theorem sweep_mem {f : α → Int} {g : α → Bool} : ∀ (n : Nat) (l : List α) (c : Int), ∀ y ∈ (sweep f g n l c).1, y ∈ l
  | 0, _, _, y, h => h
  | n + 1, [], c, y, h => h
  | n + 1, x :: r, c, y, h => by
    have e : sweep f g (n + 1) (x :: r) c = if g x = true then sweep f g n (popL f (x :: r)) (c - 1) else (x :: r, c) := rfl
    rw [e] at h
    split at h
    · exact pop_mem (sweep_mem n _ _ y h)
    · exact h
/-- what swept tells -/
def swept (f : α → Int) (g : α → Bool) (l : List α) (c : Int) : List α × Int := if 100 < l.length ∧ (l.length : Int) < 2 * c then (heapify f (l.filter fun x => !g x), 0) else sweep f g l.length l c
theorem swept_mem {f : α → Int} {g : α → Bool} {l : List α} {c : Int} : ∀ y ∈ (swept f g l c).1, y ∈ l := fun y h => by
  unfold swept at h
  split at h
  · have h2 : y ∈ l.filter fun x => !g x := (heapify_perm f _).mem_iff.mp h
    exact (List.mem_filter.mp h2).1
  · exact sweep_mem _ _ _ y h
theorem ripe_mem1 {f : α → Int} {now : Int} {n : Nat} {l : List α} : ∀ y ∈ (ripe f now n l).1, y ∈ l := fun y h => (ripe_perm f now n l).mem_iff.mp (List.mem_append_left _ h)
theorem ripe_mem2 {f : α → Int} {now : Int} {n : Nat} {l : List α} : ∀ y ∈ (ripe f now n l).2, y ∈ l := fun y h => (ripe_perm f now n l).mem_iff.mp (List.mem_append_right _ h)
end Hm

set_option maxRecDepth 100000
set_option maxHeartbeats 4000000
namespace SupI
open PySem PySem.Spec PyProof.Rows L2 NdefX
/-- the written part tells all that super().__init__(..) asks for, in a def at f of the class at D -/
structure SupTxt (P : Program) (K : PySem.W.Frag) (f c cc D : Addr) : Prop where
  fn : ∃ (oc : Value) (od : Option Addr) (fd : FuncData) (sl : Array (Option Value)) (ar : Arg), K.lookup f = some ⟨oc, od, .func fd, sl⟩ ∧ (fd.params.posonlyargs ++ fd.params.args).head? = some ar ∧ ar.arg = ("self" : Str)
  code : ∃ (ccl : Value) (cdd : Option Addr) (vs : Array Value) (ccs : Array (Option Value)) (file : Str) (tf : Tok), K.lookup c = some ⟨ccl, cdd, .fields vs, ccs⟩ ∧ vs[2]? = some (.str file tf) ∧ ((P.main.file : Str) == file) = true
  cell : ∃ (cl : Value) (cld : Option Addr) (csl : Array (Option Value)), K.lookup cc = some ⟨cl, cld, .cell (some (.ref D)), csl⟩
  cls : ∃ cd : ClassData, PySem.W.clsIn K D = some cd
  top : (P.main.scope.names.lookup ("super" : Str)).isSome = false
  any : PySem.W.nsIn K cStatics "thirdparty.any" = some none
/-- .. and of the class at C of the object -/
structure SubTxt (K : PySem.W.Frag) (C D : Addr) : Prop where
  oex : OexC K C
  mro : PySem.W.mroIn K C (.ref D) = some true
  ini : PySem.W.ks_superIn K C D "__init__" = some (some (.builtin "ValueError.__init__"))
  ve : PySem.W.subIn K (.ref C) (.type "ValueError") = some true
theorem sup_init {pl : Sem Bool} {X : Cx} {pins : List (Addr × Obj)} {σ : L2.St} {H : Hp} {s : Shared} {f c cc D C a : Addr} {i j : Nat} {y : V} {body : List Stmt} {w : Str} {p0 p1 ap pos pw : Pos} {Q : Value → Shared → Prop} {E : Value → Shared → Prop}
    (I : Inv X pins σ H s) (T : SupTxt X.prog X.K f c cc D) (S : SubTxt X.K C D) (hfu : X.env.func = some f) (hco : X.env.code = .ref c) (hcl : X.env.cells.lookup ("__class__" : Str) = some cc)
    (hks : X.env.scope.names.lookup ("super" : Str) = some .globalImplicit) (hkc : X.env.scope.names.lookup ("__class__" : Str) = some .free) (hka : X.env.scope.names.lookup ("self" : Str) = some .local) (hkw : X.env.scope.names.lookup w = some .local)
    (hms : X.mg "super" = none) (hN : X.N[i]? = some ("self" : Str)) (hσ : σ[i]? = some (some (.ref a))) (hNw : X.N[j]? = some w) (hσw : σ[j]? = some (some y)) (he : H a = some (exo a C none)) (hdw : (w == ("__debug__" : Str)) = false)
    (h : ∀ s', Inv X pins σ H s' → Q .none s')
    (hev : eval (.Call (.Attribute (.Call (.Name "super" p0) [] [] p1) "__init__" ap) [.Name w pw] [] pos) X.env = (do
      let ov ← attributeBase (.Call (.Name "super" p0) [] [] p1) "__init__" X.env (eval (.Call (.Name "super" p0) [] [] p1) X.env)
      standAt ap.atName
      let (f, first) ← holding [ov] (getMethod ov "__init__" pl)
      callWith pos f first (backTo pos (starEach [.Name w pw] X.env)) []) := by rfl)
    (hst : starEach [.Name w pw] X.env = (false, eval (.Name w pw) X.env) :: starEach [] X.env := by rfl) (hpl : (backTo pos (starEach [] X.env)).any (·.1) = false := by rfl) :
    _root_.PySem.wpAt (model X.prog X.w) X.A (.func body X.env) (eval (.Call (.Attribute (.Call (.Name "super" p0) [] [] p1) "__init__" ap) [.Name w pw] [] pos) X.env) Q E s := by
  obtain ⟨oc, od, fd, sl, ar, hf, hp, har⟩ := T.fn
  obtain ⟨ccl, cdd, vs, ccs, file, tf, hcode, hvs, hfile⟩ := T.code
  obtain ⟨clv, cld, csl, hcell⟩ := T.cell
  obtain ⟨cdD, hD⟩ := T.cls
  have KX := I.kIn
  obtain ⟨t1, hx⟩ := exo_at I.hok he
  obtain ⟨m, hns, hlook⟩ := I.loc
  obtain ⟨us, rs, ls⟩ := hlook i _ _ hN hσ (.inl hka)
  obtain ⟨uw, rw', lw⟩ := hlook j _ _ hNw hσw (.inl hkw)
  have es : us = .ref a := rs
  subst es
  have ms : m "self" = some (.ref a) := by
    rcases ls with ⟨_, z⟩ | ⟨z, _⟩
    · exact z
    · have z' : X.env.scope.names.lookup ("self" : Str) = some .cell ∨ X.env.scope.names.lookup ("self" : Str) = some .free := z
      rw [hka] at z'
      rcases z' with z' | z' <;> cases z'
  have mw : m w = some uw := by
    rcases lw with ⟨_, z⟩ | ⟨z, _⟩
    · exact z
    · have z' : X.env.scope.names.lookup w = some .cell ∨ X.env.scope.names.lookup w = some .free := z
      rw [hkw] at z'
      rcases z' with z' | z' <;> cases z'
  obtain ⟨oD, hD1, hD2⟩ : ∃ oD, s.heap.get? D = some oD ∧ oD.data = .cls cdD := by
    unfold PySem.W.clsIn at hD
    split at hD
    · rename_i ho
      cases hD
      exact ⟨_, KX _ _ ho, rfl⟩
    · cases hD
  obtain ⟨mb, b1, b2⟩ := I.mod.blt
  refine ks_wpAt_MethodCall (pl := pl) ?_ hev
  refine ks_wpAt_super_base (env := X.env) hks hkc (by decide) hfu (KX _ _ hf) rfl hp hco (KX _ _ hcode) rfl hvs hfile T.top ?_
  have hcs : s.heap.IsCell cc (some (.ref D)) := ⟨_, KX _ _ hcell, rfl⟩
  refine PySem.W.ks_loadName_global I.ok.kind hks (Calls.loadGlobal_builtin (env := X.env) (by rw [I.ok.glob]; exact I.mod.glob.keeps I.bk) hms (by rw [I.ok.blt]; exact b1.keeps I.bk) ((b2 _ (by decide)).trans (by decide +kernel)) ⟨rfl, ?_⟩)
  refine wpAny_loadName_free I.ok.kind hkc hcl hcs ?_
  rw [har]
  refine wpAny_loadName_local I.ok.kind hka hns ms ?_
  refine ks_wpAny_isType_cls hD1 hD2 ⟨rfl, ?_⟩
  obtain ⟨hh, g, d, t, os⟩ := s
  refine ks_wpAny_call_super hD1 hD2 hx rfl (fun c e => by cases e) (PySem.W.looks_mroIn KX S.mro) (fun h1 so1 k1 => ?_)
  have I1 : Inv X pins σ H ⟨h1, g, d, t, os⟩ := I.kept (t' := t) k1
  have hx1 := k1 _ _ hx
  have Ix : PySem.W.InstAt h1 a ({ cls := .ref C, dict := none, data := .fields #[.ref t1, .none, .none, .none, .bool false, .none] } : Obj) C none := ⟨hx1, rfl, rfl, trivial⟩
  have KX1 := I1.kIn
  have hI : PySem.W.Looks (model X.prog X.w) h1 (isInstance (.ref a) (.type "ValueError")) true := Ix.type.andThen (PySem.W.looks_subIn KX1 S.ve)
  have hm := S.ini
  cases hc : PySem.W.clsIn X.K C with
  | none =>
    unfold PySem.W.ks_superIn at hm
    rw [hc] at hm
    cases hm
  | some cd =>
    unfold PySem.W.ks_superIn at hm
    rw [hc] at hm
    refine PySem.W.kxs_getMethod PySem.W.kxs_ValueError so1 (PySem.W.looks_opaque KX1 T.any) (l₀ := cd.mro) (fun A Q E s k q => wpAny_bind ((PySem.W.looks_clsIn KX1 hc) A _ E s k (wpAny_pure q))) rfl KX1 hm hI (PySem.W.ks_ne KX1 Ix hc) (by decide) ?_
    have k2 : ∀ b o, h1.get? b = some o → (h1.push (PySem.W.kxs_mw "ValueError.__init__" a)).get? b = some o := fun b o e => Heap.get?_push_of_some _ e
    have I2 : Inv X pins σ H ⟨h1.push (PySem.W.kxs_mw "ValueError.__init__" a), g, d, t + 1, os⟩ := I1.kept (t' := t + 1) k2
    have hu2 : (h1.push (PySem.W.kxs_mw "ValueError.__init__" a)).get? h1.objs.size = some (PySem.W.kxs_mw "ValueError.__init__" a) := Heap.get?_push_at rfl rfl
    obtain ⟨m2, hns2, hlook2⟩ := I2.loc
    obtain ⟨u2, r2, l2⟩ := hlook2 j _ _ hNw hσw (.inl hkw)
    have mw2 : m2 w = some u2 := by
      rcases l2 with ⟨_, z⟩ | ⟨z, _⟩
      · exact z
      · have z' : X.env.scope.names.lookup w = some .cell ∨ X.env.scope.names.lookup w = some .free := z
        rw [hkw] at z'
        rcases z' with z' | z' <;> cases z'
    dsimp only
    rw [hst]
    refine PySem.W.kxs_callWith (i := "ValueError.__init__") (x := a) (by show (false || (backTo pos (starEach [] X.env)).any (·.1)) = false; rw [hpl]; rfl) (Calls.evalArgs_plain ?_)
    show wpAny _ _ (spliced ((false, eval (.Name w pw) X.env) :: backTo pos (starEach [] X.env))) _ _ _
    refine Calls.spliced_cons (wpAny_Name (wpAny_loadName_local I.ok.kind hkw hns2 mw2 ?_) hdw)
    refine Calls.spliced_nil ⟨hu2, ?_⟩
    -- the wrapper is called
    obtain ⟨nm, qn, N, bs, bm, sn, sub, ab, col, dd, k0, k1', k2', k3', k5, hC, hbm⟩ := S.oex.cls
    have hx2 := k2 _ _ hx1
    refine wpAny_call (codeAny_of_tree ?_)
    show wpAny _ X.A.in1 (callAny (.ref h1.objs.size) ⟨[u2], []⟩) _ _ _
    simp only [callAny]
    refine wpAny_bind (wpAny_load hu2 ?_)
    simp only [PySem.W.kxs_mw, show (Value.type "method-wrapper" == Value.type "method" || Value.type "method-wrapper" == Value.type "builtin_function_or_method" || Value.type "method-wrapper" == Value.type "method-wrapper") = true by decide, if_true]
    refine PySem.W.KFB.if_so (by decide) ?_
    refine wpAny_bind (PySem.W.check_bound_init F.excBase_ValueError.toExcCallFacts (I2.kIn _ _ hC) hx2 rfl ?_)
    refine wpAny_bind (wpAny_pure (wpAny_pure ?_))
    refine ⟨plainId_quiet F.excBase_ValueError.init.plain _, codeAny_builtin F.excBase_ValueError.initEntry ?_⟩
    refine PySem.W.exc_init_tree (cls := .ref C) (t0 := t1) (dv := none) (c2 := .none) (c3 := .none) (b4 := .bool false) hx2 (show 1 ≤ sizeLine by decide) fun h3 k3 hx3 _ => ?_
    have J := I2.write (t' := t + 1) (x := a) (e := a) (o := exo a C none) (by rw [he]; exact True.intro) (.inl rfl) k3 ⟨_, hx3⟩ (exo_ok hx3)
    have eu : upd H a (exo a C none) = H := by
      funext b
      by_cases hb : b = a
      · rw [hb, upd_same, he]
      · rw [upd_ne hb]
    rw [eu] at J
    exact h _ J

/-! ### def __init__(self, w): super().__init__(w); self.w = w -/
/-- what it keeps: the object gets its dict with the one field -/
def spInit (K : PySem.W.Frag) (D : Addr) (w : Str) : Sp := fun vs H Q _ => ∃ (a C : Addr) (y : V), vs = [.ref a, y] ∧ SubTxt K C D ∧ PySem.W.findIn K (.ref C) w = some none ∧ H a = some (exo a C none) ∧
  ∀ dx, H dx = none → dx ≠ a → Q .non (upd (upd H dx (exd dx [(w, y)])) a (exo a C (some dx)))
theorem ok_init {P : Program} {W : World} {K : PySem.W.Frag} {mg : Str → Option Value} {base : Heap} {k : Nat} {f c cc D : Addr} {w qual : Str} {params : Arguments} {body : List Stmt} {scope : Scope} {dV kV doc pm ct oc : Value} {an od : Option Addr} {osl : Array (Option Value)} {p0 p1 ap pos pw p2 p3 p4 p5 p6 : Pos} {pl : Sem Bool}
    (lk : K.lookup f = some ⟨oc, od, .func (PySem.W.fnX "__init__" qual params body scope [("__class__", cc)] dV kV doc pm an (.ref c) ct), osl⟩) (hcd : PySem.W.codeIn K (.ref c) qual = true)
    (T : SupTxt P K f c cc D) (hms : mg "super" = none) (S : NScope ["self", w, "__class__"] ["self", w] ["__class__"] scope)
    (hks : scope.names.lookup ("super" : Str) = some .globalImplicit) (hdw : (w == ("__debug__" : Str)) = false) (hcw : (w == ("__classdict__" : Str)) = false)
    (hb : body = [.Expr (.Call (.Attribute (.Call (.Name "super" p0) [] [] p1) "__init__" ap) [.Name w pw] [] pos) p2, .Assign [.Attribute (.Name "self" p3) w p4] (.Name w p5) p6])
    (hev : ∀ L : Addr, eval (.Call (.Attribute (.Call (.Name "super" p0) [] [] p1) "__init__" ap) [.Name w pw] [] pos) (PySem.W.envX qual scope L f (.ref c) [("__class__", cc)]) = (do
      let ov ← attributeBase (.Call (.Name "super" p0) [] [] p1) "__init__" (PySem.W.envX qual scope L f (.ref c) [("__class__", cc)]) (eval (.Call (.Name "super" p0) [] [] p1) (PySem.W.envX qual scope L f (.ref c) [("__class__", cc)]))
      standAt ap.atName
      let (f', first) ← holding [ov] (getMethod ov "__init__" pl)
      callWith pos f' first (backTo pos (starEach [.Name w pw] (PySem.W.envX qual scope L f (.ref c) [("__class__", cc)]))) []))
    (hsw : ∀ {L : Addr}, swapsWith (.Name w p5) (some (.Attribute (.Name "self" p3) w p4)) p6.line (PySem.W.envX qual scope L f (.ref c) [("__class__", cc)]) = pure false) :
    FnOk P W K mg base CX0 (k + 1) f (PySem.W.fnX "__init__" qual params body scope [("__class__", cc)] dV kV doc pm an (.ref c) ct) ["self", w] (spInit K D w) := by
  refine ⟨fun vs H Q E h => ?_, fun A outer s H args us vs Q E hr e0 hbi r hsp => ?_⟩
  · obtain ⟨a, C, y, rfl, _⟩ := h
    rfl
  obtain ⟨a, C, y, rfl, ST, hfd, hea, q⟩ := hsp
  have KX : K.In s.heap := e0.mod.kin.keeps fun b o e => (e0.bs b o e).1
  have lim : s.heap.NoLimit := e0.mod.nolimit.keeps fun b o e => (e0.bs b o e).1
  obtain ⟨clv, cld, csl, hcell⟩ := T.cell
  have hcH : H cc = none := (e0.bs _ _ (e0.mod.kin _ _ hcell)).2
  have hC : CellsAt [(("__class__" : Str), cc)] ["__class__"] [some (.ref D)] s.heap H := by
    have lk1 : ∀ y c', ([(("__class__" : Str), cc)] : List (Str × Addr)).lookup y = some c' → y = "__class__" ∧ c' = cc := fun y c' e => by
      rw [List.lookup_cons] at e
      by_cases z : y == ("__class__" : Str)
      · rw [z] at e
        exact ⟨eq_of_beq z, (Option.some.inj e).symm⟩
      · rw [show (y == ("__class__" : Str)) = false from by simpa using z] at e
        cases e
    refine ⟨rfl, fun y c' e => ?_, fun x y c' e1 e2 => (lk1 x c' e1).1.trans (lk1 y c' e2).1.symm, fun i y e => ?_⟩
    · obtain ⟨_, rfl⟩ := lk1 y c' e
      exact ⟨hcH, _, _, KX _ _ hcell, rfl⟩
    · match i, e with
      | 0, e =>
        have ey : y = "__class__" := (Option.some.inj e).symm
        subst ey
        refine ⟨cc, rfl, fun v hv => ?_⟩
        have ev : v = .ref D := (Option.some.inj (Option.some.inj hv)).symm
        subst ev
        exact ⟨.ref D, rfl, _, KX _ _ hcell, rfl⟩
      | i + 1, e => exact absurd e (by simp)
  have hlu : us.length = 2 := r.length.symm
  refine ks_codeAny_call_defAt hr.depth (KX _ _ lk) rfl lim (PySem.W.codeRec_of KX hcd) rfl hbi S.nocell (fun ⟨n, _⟩ hy => S.par n (List.of_mem_zip hy).1) (fun h₀ hns kp => ?_) S.co S.gen S.kind
  let F : NF := ⟨"__init__", qual, params, body, scope, [("__class__", cc)], c⟩
  have I : L2.Inv (ncx CX0 P W K mg base ["self", w, "__class__"] F f A outer s H E) [] (startF (["self", w, "__class__"] : List Str) [.ref a, y] [some (.ref D)]) H { s with heap := h₀, toks := s.toks + ((["self", w] : List Str).zip us).length } := inv_startN (F := F) S hr.hd e0 rfl r hC hns kp
  have hkw : scope.names.lookup w = some .local := S.par w (by simp)
  have hka : scope.names.lookup ("self" : Str) = some .local := S.par _ (by simp)
  have hkc : scope.names.lookup ("__class__" : Str) = some .free := S.frk _ (by simp)
  generalize hX : ncx CX0 P W K mg base ["self", w, "__class__"] F f A outer s H E = X at I
  generalize ({ s with heap := h₀, toks := s.toks + ((["self", w] : List Str).zip us).length } : Shared) = s1 at I ⊢
  subst hb
  show _root_.PySem.wpAt (model P W) (A.deeper (envF F f s.heap.objs.size)) (.func _ (envF F f s.heap.objs.size)) (execs _ (envF F f s.heap.objs.size)) _ _ _
  refine ks_wpAt_execs_cons (ks_wpAt_Expr_any ?_ ?_)
  · subst hX
    refine sup_init (pl := pl) (i := 0) (j := 1) (y := y) (a := a) (C := C) I T ST rfl rfl rfl hks hkc hka hkw hms rfl rfl rfl rfl hea hdw (fun s2 I2 => ?_) (hev _)
    show _root_.PySem.wpAt _ _ _ (execs [_] _) _ _ _
    have ps : PSs (ncx CX0 P W K mg base ["self", w, "__class__"] F f A outer s H E) [.Assign [.Attribute (.Name "self" p3) w p4] (.Name w p5) p6] _ := pss_one (ps_ost (pe_var (i := 0) rfl (.inl hka) (by decide) (by decide)) (pe_var (i := 1) rfl (.inl hkw) hdw hcw) hsw)
    refine wpAt_of_wpAny (wpAny_mono (ps.run [] s2 (startF (["self", w, "__class__"] : List Str) [.ref a, y] [some (.ref D)]) H { nx := fun _ H' => Q .non H', rt := Q } I2 ⟨_, rfl, _, rfl, a, C, rfl, ST.oex, hfd, .inl ⟨hea, fun dx n1 n2 => q dx n1 n2⟩⟩) (fun fl s3 hs => ?_) fun e s3 hs => hs)
    cases fl with
    | ret u =>
      obtain ⟨v, σ', H', J, rv, q'⟩ := hs
      exact ⟨v, H', J.os, J.bare, J.base, J.hok, rv, q'⟩
    | next =>
      obtain ⟨σ', H', J, q'⟩ := hs
      exact ⟨.non, H', J.os, J.bare, J.base, J.hok, rfl, q'⟩
    | brk =>
      obtain ⟨_, _, _, q'⟩ := hs
      exact False.elim q'
    | cont =>
      obtain ⟨_, _, _, q'⟩ := hs
      exact False.elim q'
  · show interactive (envF F f s.heap.objs.size) = false
    simp [interactive, S.kind, F]
end SupI

/-! set(e), e a list or a tuple of ints; k in s, k not in s -/
namespace L2
open PySem PySem.Spec PyProof.Rows
theorem range_getD (ns : List Int) : (List.range ns.length).map (fun i => ns.getD i 0) = ns := by
  refine List.ext_getElem (by simp) fun i h1 h2 => ?_
  rw [List.getElem_map, List.getElem_range, List.getD_eq_getElem?_getD, List.getElem?_eq_getElem h2]
  rfl
section
variable {X : Cx}
def rSetI (K : PySem.W.Frag) : List V → Hp → VK → Prop := fun xs H Q => ∃ (l : Addr) (ns : List Int), xs = [V.ref l] ∧ (SqL K H l (ns.map V.int) ∨ SqT K H l (ns.map V.int)) ∧ ns.length ≤ 1000 ∧ ∀ p n, H p = none → Q (.ref p) (upd H p (.set (fun k => decide (k ∈ ns)) n))
theorem cr_setI (hc : X.calm = true) : CallR X (.type "set") (rSetI X.K) := by
  intro pins s σ H xs us Q I r h
  obtain ⟨l, ns, rfl, hq, hn, q⟩ := h
  cases r with
  | cons r1 r2 =>
    cases r2
    cases r1
    rcases hq with hq | hq
    · obtain ⟨its, rv, pl, hz⟩ := I.list hq
      have hl : its.toArray.size = ns.length := by rw [List.size_toArray, ← rv.length, List.length_map]
      refine call_set_list (I.ok.hd hc) pl.isList (ns := ns) (by simpa using rv.ints) (by unfold scanBound; omega) fun h' tk hS hk => ?_
      have eS : (fun k' => (firstMet (fun i => ns.getD i 0) its.toArray.size).any (· == k')) = fun k => decide (k ∈ ns) := by
        funext k
        rw [firstMet_any, hl, range_getD]
        rw [Bool.eq_iff_iff, List.any_eq_true, decide_eq_true_iff]
        constructor
        · rintro ⟨x, hx, e⟩
          rw [← beq_iff_eq.mp e]
          exact hx
        · intro hk
          exact ⟨k, hk, beq_self_eq_true k⟩
      rw [eS] at hS
      exact ⟨.ref _, upd H s.heap.objs.size (.set (fun k => decide (k ∈ ns)) _), I.laid (t' := tk) (fun b u e => hk b u (Heap.lt_size e) e) (Nat.le_refl _) hS, rfl, q _ _ (I.hok.fresh (Nat.le_refl _))⟩
    · obtain ⟨its, rv, pt, hz⟩ := I.tuple hq
      refine call_set_tupI ns (I.ok.hd hc) (show s.heap.IsTuple l its.toArray from pt) (by simpa using rv.ints) (by unfold scanBound; omega) fun h' tk c R1 hcn k => ?_
      exact ⟨.ref _, upd H s.heap.objs.size (.set (fun k => decide (k ∈ ns)) c), I.laid (t' := tk) k (Nat.le_refl _) R1.setOf, rfl, q _ _ (I.hok.fresh (Nat.le_refl _))⟩
def rInSet : R2 := fun x y H Q => ∃ k a S n, x = V.int k ∧ y = V.ref a ∧ H a = some (.set S n) ∧ Q (.bl (S k)) H
def rNotInSet : R2 := fun x y H Q => ∃ k a S n, x = V.int k ∧ y = V.ref a ∧ H a = some (.set S n) ∧ Q (.bl (!S k)) H
theorem op_inSet : OpR X (compareOp .In) rInSet := by
  intro pins s σ H x y v u Q I rx ry h
  obtain ⟨k, a, S, n, rfl, rfl, ha, q⟩ := h
  obtain ⟨tk, rfl⟩ := rx
  cases ry
  exact wpAny_inSet_of (intKind_is _ _ _ _) rfl (show s.heap.SetOf (intKind X.prog X.w) a S n from I.hok a _ ha) ⟨.bl (S k), H, I.tok _, rfl, q⟩
theorem op_notInSet : OpR X (compareOp .NotIn) rNotInSet := by
  intro pins s σ H x y v u Q I rx ry h
  obtain ⟨k, a, S, n, rfl, rfl, ha, q⟩ := h
  obtain ⟨tk, rfl⟩ := rx
  cases ry
  exact wpAny_notInSet_of (intKind_is _ _ _ _) rfl (show s.heap.SetOf (intKind X.prog X.w) a S n from I.hok a _ ha) ⟨.bl (!S k), H, I.tok _, rfl, q⟩
/-- for x in e, e a list or a tuple -/
def iSeq (K : PySem.W.Frag) (tl : TE) : TI := fun σ H R => tl σ H fun x H1 => ∃ a, x = .ref a ∧ (((∃ xs, SqL K H1 a xs) ∧ R (Itl K a) H1) ∨ ((∃ xs, SqT K H1 a xs) ∧ R (Itt K a) H1))
theorem pi_seq {e tg : Expr} {tl : TE} (he : PE X e tl) : PI X tg e (iSeq X.K tl) := by
  refine ⟨fun pins s σ H R I h => thn (he.run pins s σ H _ I h) fun v sB ⟨x, HB, IB, rB, a, ex, qB⟩ => ?_⟩
  subst ex
  cases rB
  have own : ∀ b ∈ [sB.heap.objs.size], FpOk X pins HB b := fun b hb => by
    rw [List.mem_singleton.mp hb]
    exact IB.fpOk (Nat.le_refl _) (IB.hok.fresh (Nat.le_refl _))
  have kept : ∀ o : Obj, Inv X pins σ HB { sB with heap := sB.heap.push o } := fun o => IB.kept (t' := sB.toks) fun b u e => Heap.get?_push_of_some _ e
  rcases qB with ⟨⟨xs, hq⟩, q⟩ | ⟨⟨xs, hq⟩, q⟩
  · obtain ⟨its, _, pl, _⟩ := IB.list hq
    exact wpAny_pyIter_list pl.isList ⟨_, _, _, _, HB, rfl, kept _, turn_list a _, ⟨_, Heap.get?_push_size _ rfl, rfl, rfl⟩, own, q⟩
  · obtain ⟨its, _, pt, _⟩ := IB.tuple hq
    exact wpAny_pyIter_tuple (show sB.heap.IsTuple a its.toArray from pt) ⟨_, _, _, _, HB, rfl, kept _, turn_tuple a _, ⟨_, Heap.get?_push_size _ rfl, rfl, rfl⟩, own, q⟩
end
end L2

/-! lambdas without parameters that are kept (in a list) and called later, by another def -/
namespace LamT
open PySem PySem.Spec PyProof.Rows L2 LamX NdefX
structure LF where
  qual : Str
  params : Arguments
  body : Expr
  scope : Scope
  cl : List (Str × Addr)
  c : Addr
/-- as a nested def without a body, for its context -/
abbrev LF.nf (F : LF) : NF := ⟨"<lambda>", F.qual, F.params, [], F.scope, F.cl, F.c⟩
def LamO (f : Addr) (F : LF) : HO := .ext fun h => ∃ pm ctv : Value, h.get? f = some (PySem.W.kla_obj "<lambda>" F.qual F.params F.body F.scope F.cl pm F.c ctv)
theorem lamO_ne {f : Addr} {F : LF} (tb : Array Value) : LamO f F ≠ .tbl tb := fun z => by
  unfold LamO at z
  cases z
theorem lamO_at {P : Program} {w : World} {H : Hp} {h : Heap} {f : Addr} {F : LF} (ok : HOk P w H h) (e : H f = some (LamO f F)) : ∃ pm ctv : Value, h.get? f = some (PySem.W.kla_obj "<lambda>" F.qual F.params F.body F.scope F.cl pm F.c ctv) := (ok f _ e).1
section
variable {X : Cx} {pins : List (Addr × Obj)} {σ : L2.St} {H : Hp} {s : Shared}
theorem inv_lam {F : LF} {u : Obj} {n : Nat} {pm ctv : Value} (J : Inv X pins σ H s) (eu : u = PySem.W.kla_obj "<lambda>" F.qual F.params F.body F.scope F.cl pm F.c ctv) :
    Inv X pins σ (upd H s.heap.objs.size (LamO s.heap.objs.size F)) { s with heap := s.heap.push u, toks := n } := by
  have hit : (s.heap.push u).get? s.heap.objs.size = some u := Heap.get?_push_size _ (by rw [eu] <;> rfl)
  refine J.laid (a := s.heap.objs.size) (fun b v q => Heap.get?_push_of_some _ q) (Nat.le_refl _) ?_
  exact ⟨⟨pm, ctv, by rw [hit, eu]⟩, ⟨u, hit⟩, fun g1 g2 ⟨p, t, z⟩ st => ⟨p, t, st _ z⟩⟩
/-- a lambda is made, and is known from now on -/
theorem make_kept {T : List (Addr × Str)} {c B : Addr} {params : Arguments} {body : Expr} {sc : Scope} {at_ : Pos} {E Q : Value → Shared → Prop} (J : Inv X pins σ H s) (tb : TabB X.base X.mg c B) (hcode : X.env.code = .ref c)
    (mem : (B, X.env.qual ++ "<lambda>") ∈ T) (one : ∀ p ∈ T, p.1 = B → p.2 = X.env.qual ++ "<lambda>") (hT : Tabs T H) (nodef : defaultsOf params X.env = ([], [])) (cap : ∀ y ∈ sc.names, y.2 = .free → ∃ a, X.env.cells.lookup y.1 = some a)
    (go : ∀ (f d : Addr) (H1 : Hp) (s1 : Shared), Inv X pins σ H1 s1 → ExtN H H1 → Tabs T H1 → H f = none → H1 f = some (LamO f ⟨X.env.qual ++ "<lambda>", params, body, sc, cloFrom X.env.cells sc.names [], d⟩) → H1 d = some (CodeO d (X.env.qual ++ "<lambda>")) → Q (.ref f) s1) :
    wpAny (model X.prog X.w) X.A (eval (.Lambda params body sc at_) X.env) Q E s := by
  obtain ⟨ps, hB, tri, known⟩ := hT _ mem
  refine PySem.W.kla_eval nodef ?_
  have built : s.heap.BuiltinsAt X.mg B := tb.bm.keeps J.bk
  have gB : s.heap.get? B = some { cls := .none, data := .fields ps } := J.hok B _ hB
  rcases e : codeAmong at_ ps.toList with _ | cv
  · refine PySem.W.kla_makeFunction (mg := X.mg) (c := c) (P := B) (ps := ps) (closure_ok cap) J.ok.glob (J.mod.glob.keeps J.bk) hcode (tb.code.keeps J.bk) gB tri e tb.gP built fun d ctv g tk ext ge lt hrec htab => ?_
    obtain ⟨d2, od, vs, t, e2, god, dat, nam⟩ := hrec
    cases e2
    have nd : H d = none := J.hok.fresh ge
    generalize hq : X.env.qual ++ "<lambda>" = q at *
    have J1 := inv_table (q := q) (t' := tk) (more := #[rawInt at_.line, rawInt at_.col, .ref d]) (h' := g) J hB (fun b o n z => ext b o n z) htab ge ⟨od, vs, t, god, dat, nam⟩
    have far : ExtN H (upd (upd H B (.tbl (ps ++ #[rawInt at_.line, rawInt at_.col, .ref d]))) d (CodeO d q)) := fun b o z n => by
      have bd : b ≠ d := ne_of_none z nd
      have bB : b ≠ B := fun y => n ps (Option.some.inj (z.symm.trans (by rw [y]; exact hB)))
      rw [upd_ne bd, upd_ne bB, z]
    have lst : (ps ++ #[rawInt at_.line, rawInt at_.col, .ref d]).toList = ps.toList ++ [rawInt at_.line, rawInt at_.col, .ref d] := by simp
    have T1 : Tabs T (upd (upd H B (.tbl (ps ++ #[rawInt at_.line, rawInt at_.col, .ref d]))) d (CodeO d q)) := fun p hp => by
      by_cases hb : p.1 = B
      · rw [one p hp hb, hb]
        refine ⟨_, by rw [upd_ne (ne_of_none hB nd), upd_same], by rw [lst]; exact PySem.TriplesOk_snoc _ _ _ _ tri, fun p' cv hcv => ?_⟩
        rw [lst] at hcv
        rcases among_app _ tri hcv with z | z
        · obtain ⟨d0, e1, e2⟩ := known p' cv z
          exact ⟨d0, e1, far _ _ e2 codeO_ne⟩
        · exact ⟨d, z, upd_same⟩
      · obtain ⟨qs, a1, a2, a3⟩ := hT p hp
        refine ⟨qs, ?_, a2, fun p' cv hcv => ?_⟩
        · rw [upd_ne (ne_of_none a1 nd), upd_ne hb]
          exact a1
        · obtain ⟨d0, e1, e2⟩ := a3 p' cv hcv
          exact ⟨d0, e1, far _ _ e2 codeO_ne⟩
    have nF := J1.hok.fresh (Nat.le_refl _)
    have J2 := inv_lam (F := ⟨q, params, body, sc, cloFrom X.env.cells sc.names [], d⟩) (n := tk) (pm := (X.mg "__name__").getD .none) (ctv := ctv) J1 rfl
    refine go g.objs.size d _ _ J2 (fun b o z n => ?_) (T1.ext fun b o z => ?_) (J.hok.fresh (Nat.le_trans ge (Nat.le_of_lt lt))) upd_same ?_
    · have z1 := far b o z n
      exact (upd_ne (ne_of_none z1 nF)).trans z1
    · exact (upd_ne (ne_of_none z nF)).trans z
    · exact (upd_ne (Nat.ne_of_lt lt)).trans upd_same
  · obtain ⟨d, e1, known1⟩ := known at_ cv e
    subst e1
    refine PySem.W.kla_makeFunctionHit (mg := X.mg) (c := c) (P := B) (ps := ps) (closure_ok cap) J.ok.glob (J.mod.glob.keeps J.bk) hcode (tb.code.keeps J.bk) gB tri e built fun ctv g tk ext le => ?_
    have J1 : Inv X pins σ H { s with heap := g, toks := tk } := J.kept ext
    have nF : H g.objs.size = none := J1.hok.fresh (Nat.le_refl _)
    have J2 := inv_lam (F := ⟨X.env.qual ++ "<lambda>", params, body, sc, cloFrom X.env.cells sc.names [], d⟩) (n := tk) (pm := (X.mg "__name__").getD .none) (ctv := ctv) J1 rfl
    refine go g.objs.size d _ _ J2 (fun b o z n => ?_) (hT.ext fun b o z => ?_) nF upd_same ?_
    · exact (upd_ne (ne_of_none z nF)).trans z
    · exact (upd_ne (ne_of_none z nF)).trans z
    · exact (upd_ne (ne_of_none known1 nF)).trans known1
/-- lambda: body -/
def tLam (T : List (Addr × Str)) (mk : Addr → LF) : TE := fun _ H Q => Tabs T H ∧ ∀ (f d : Addr) (H1 : Hp), ExtN H H1 → Tabs T H1 → H f = none → H1 f = some (LamO f (mk d)) → H1 d = some (CodeO d (mk d).qual) → Q (.ref f) H1
theorem pe_lam {T : List (Addr × Str)} {c B : Addr} {params : Arguments} {body : Expr} {sc : Scope} {at_ : Pos} (tb : TabB X.base X.mg c B) (hcode : X.env.code = .ref c)
    (mem : (B, X.env.qual ++ "<lambda>") ∈ T) (one : ∀ p ∈ T, p.1 = B → p.2 = X.env.qual ++ "<lambda>") (nodef : defaultsOf params X.env = ([], [])) (L : LamS X.env.scope sc) :
    PE X (.Lambda params body sc at_) (tLam T fun d => ⟨X.env.qual ++ "<lambda>", params, body, sc, cloFrom X.env.cells sc.names [], d⟩) :=
  ⟨fun pins s σ H Q J h => make_kept J tb hcode mem one h.1 nodef (L.has J.ok) fun f d H1 s1 J1 a1 a2 a3 a4 a5 => ⟨.ref f, H1, J1, rfl, h.2 f d H1 a1 a2 a3 a4 a5⟩⟩
end
/-! ### what it promises -/
structure LOk (P : Program) (w : World) (K : PySem.W.Frag) (mg : Str → Option Value) (base : Heap) (CX : CXT) (k : Nat) (f : Addr) (F : LF) (fr : List Str) (sp : List (Option V) → Hp → VK → XK → Prop) : Prop where
  run : ∀ (A : Around) (outer : List Env) (s : Shared) (H : Hp) (ws : List (Option V)) (Q : VK) (E : XK), Room k A → Env0 P w K mg base A outer s H → H f = some (LamO f F) → H F.c = some (CodeO F.c F.qual) →
    CellsAt F.cl fr ws s.heap H → sp ws H Q E → codeAny (model P w) A (.call (.ref f) ⟨[], []⟩) (CR CX outer P w H s Q E) s
section
variable {CX : CXT} {P : Program} {w : World} {K : PySem.W.Frag} {mg : Str → Option Value} {base : Heap} {N fr : List Str} {F : LF} {f : Addr} {k j : Nat} {sp : List (Option V) → Hp → VK → XK → Prop}
theorem LOk.mono (o : LOk P w K mg base CX j f F fr sp) (h : j ≤ k) : LOk P w K mg base CX k f F fr sp := ⟨fun A outer s H ws Q E r => o.run A outer s H ws Q E (r.mono h)⟩
/-- by its body -/
theorem lok_of (S : NScope N [] fr F.scope) (hb : ∀ pm ctv : Value, bindArgs (PySem.W.kla_fn "<lambda>" F.qual F.params F.body F.scope F.cl pm (.ref F.c) ctv) ⟨[], []⟩ = pure [])
    (hbody : ∀ (A : Around) (outer : List Env) (s : Shared) (H : Hp) (ws : List (Option V)) (Q : VK) (E : XK), Room k (A.deeper (envF F.nf f s.heap.objs.size)) → ws.length = fr.length → sp ws H Q E →
      ∃ t, PE (ncx CX P w K mg base N F.nf f A outer s H E) F.body t ∧ t (startF N [] ws) H Q) : LOk P w K mg base CX (k + 1) f F fr sp := by
  refine ⟨fun A outer s H ws Q E room e0 hf hc C q => ?_⟩
  obtain ⟨pm, ctv, ho⟩ := lamO_at e0.hok hf
  have lim : s.heap.NoLimit := e0.mod.nolimit.keeps fun b o z => (e0.bs b o z).1
  refine PySem.W.kla_callFunE room.depth ho rfl S.co S.gen rfl (codeO_at e0.hok hc) ?_
  rw [hb]
  refine wpAny_pure (wpAny_newFunctionEnv S.nocell (fun y hy => absurd hy (by simp)) (fun g hns hsb => ⟨lim.fresh _ hsb, ?_⟩) S.kind)
  show codeAny _ _ (.expr F.body (envF F.nf f s.heap.objs.size)) _ _
  have stay : ∀ b o, s.heap.get? b = some o → g.get? b = some o := fun b o z => hsb.extBut b o (Nat.ne_of_lt (Heap.lt_size z)) (Heap.get?_push_of_some _ z)
  obtain ⟨t, ht, hq⟩ := hbody A outer s H ws Q E (room.deeper _) C.len q
  have J : Inv (ncx CX P w K mg base N F.nf f A outer s H E) [] (startF N [] ws) H { s with heap := g, toks := s.toks + (([] : List Str).zip ([] : List Value)).length } := inv_startN (F := F.nf) (us := []) S room.hd e0 rfl .nil C hns stay
  refine PySem.W.kla_codeExpr (wpAny_mono (ht.run [] _ _ H Q J hq) (fun v s1 hv => ?_) fun e s1 he => he)
  obtain ⟨x, H1, J1, rx, qx⟩ := hv
  exact ⟨x, H1, J1.os, J1.bare, J1.base, J1.hok, rx, qx⟩
end
/-! ### cells that are kept -/
theorem cells_kept {cl : List (Str × Addr)} {fr : List Str} {ws : List (Option V)} {fs ex : List Addr} {H0 H : Hp} {g h : Heap} (C : CellsAt cl fr ws g H0) (hx : ∀ y c, cl.lookup y = some c → c ∉ ex) (u : Un fs ex H0 H g h) : CellsAt cl fr ws h H := by
  have kc : ∀ y c, cl.lookup y = some c → ∀ v, g.IsCell c v → h.IsCell c v := fun y c e v ⟨o, ho, hd⟩ => by
    obtain ⟨sl, z⟩ := u.any ho (C.all y c e).1 (hx y c e)
    exact ⟨_, z, hd⟩
  refine ⟨C.len, fun y c e => ?_, C.inj, fun i y e => ?_⟩
  · obtain ⟨n, v, z⟩ := C.all y c e
    refine ⟨?_, v, kc y c e v z⟩
    obtain ⟨o, ho, _⟩ := z
    exact u.free c o ho n (hx y c e)
  · obtain ⟨c, hc, hv⟩ := C.has i y e
    refine ⟨c, hc, fun v ev => ?_⟩
    obtain ⟨x, r, z⟩ := hv v ev
    exact ⟨x, r, kc y c hc _ z⟩
theorem takes_len {Z : Cx} {W : WX} (tk : L2.Takes Z W) : L2.Takes Z (fun cls d σ H => σ.length = Z.N.length → W cls d σ H) := fun u s1 x => by
  obtain ⟨a, B, sI, q, σ, H, cls, d, e, J, nb, up, sky, na, os, ag, wsh⟩ := x
  exact tk u s1 ⟨a, B, sI, q, σ, H, cls, d, e, J, nb, up, sky, na, os, ag, wsh J.len⟩
/-- x(), x a name of the running def that holds the lambda -/
theorem pe_ask {Z : Cx} {f : Addr} {F : LF} {fr : List Str} {ws : List (Option V)} {sp : List (Option V) → Hp → VK → XK → Prop} {k j i : Nat} {x : Str} {W : WX} {p1 p2 : Pos} (lo : LOk Z.prog Z.w Z.K Z.mg Z.base (L2.CX Z.prog Z.w) k f F fr sp) (C : CellsAt F.cl fr ws Z.s_0.heap Z.H_0) (hx : Z.ex = []) {m : Nat} (hm : Z.N.length = m)
    (room : Room j Z.A) (hk : k ≤ j) (tk : L2.Takes Z W) (hN : Z.N[i]? = some x) (hv : Vis Z.env.scope x) (hd : (x == ("__debug__" : Str)) = false := by decide) (hcd : (x == ("__classdict__" : Str)) = false := by decide) :
    PE Z (.Call (.Name x p1) [] [] p2) (fun σ H Q => ∃ E : XK, (∀ cls d σ' H', E cls d H' → σ'.length = m → W cls d σ' H') ∧ σ[i]? = some (some (.ref f)) ∧ H f = some (LamO f F) ∧ H F.c = some (CodeO F.c F.qual) ∧ sp ws H Q E) := by
  refine ⟨fun pins s σ H Q J h => ?_⟩
  subst hm
  obtain ⟨E, hW, hs, hf, hc, q⟩ := h
  refine wpAny_Call_Name_kw (thn ((pe_var (pos := p1) (i := i) hN hv hd hcd).run pins s σ H (fun v H1 => v = .ref f ∧ H1 = H) J ⟨.ref f, hs, rfl, rfl⟩) fun u s1 ⟨v, H1, J1, r1, q1⟩ => ?_)
  obtain ⟨ev, eH⟩ := q1
  subst ev
  rw [eH] at J1
  obtain rfl : u = Value.ref f := r1
  obtain ⟨pm, ctv, hob⟩ := lamO_at J1.hok hf
  refine PySem.W.callWith_F0 ⟨_, _, _, _, hob⟩ ?_
  have C1 := cells_kept C (fun y c _ => by rw [hx]; simp) J1.base
  refine wpAny_call (codeAny_mono (lo.run Z.A Z.stack s1 H ws Q E (room.mono hk) J1.env0 hf hc C1 q) fun r s2 hq => ?_)
  rcases r with e | fl
  · exact L2.passes_call (takes_len tk) hW pins σ H s1 e s2 J1 hq
  · cases fl
    all_goals first | exact J1.after hq | exact False.elim hq
end LamT

/-! a list comprehension without tests whose element is told of the state in which the block began -/
namespace LamT
open PySem PySem.Spec PyProof.Rows L2 LamX NdefX
section
variable {X : Cx}
theorem pe_lcS {elt tg iter : Expr} {scope : Scope} {own : List (Str × Nat)} {pos : Pos} {wi : TI} {g : TG} {te : L2.St → TE} (calm : X.calm = true) (nd : X.N.Nodup) (hi : PI X tg iter wi) (ok : BlkOk X.N X.env.scope scope own)
    (hg : ∀ (s : Shared) (H : Hp) (C : Addr) (cl : List (Str × Addr)) (fp : List Addr), PG (X.blk s H scope (compEnvC scope cl C X.env) fp) tg g)
    (he : ∀ (pins : List (Addr × Obj)) (σ : L2.St) (s : Shared) (H : Hp) (C : Addr) (cl : List (Str × Addr)) (fp : List Addr), Inv X pins σ H s → (∀ b ∈ fp, FpOk X pins H b) → PE (X.blk s H scope (compEnvC scope cl C X.env) fp) elt (te σ))
    (hs : ∀ x, foldedSetIterable iter X.env x = pure x := by intro _; rfl) :
    PE X (.ListComp elt [⟨tg, iter, [], 0⟩] scope pos) (fun σ H Q => tLc wi g tYes (te σ) (own.map (·.2)) σ H Q) := by
  refine ⟨fun pins sA σ H Q IA h => ?_⟩
  rw [eval_ListComp]
  have cap : ∀ y ∈ scope.names, y.2 = .free → ∃ c, X.env.cells.lookup y.1 = some c := fun y hy e => (ok.free y hy e).elim (fun k => IA.ok.has _ (.inl k)) fun k => IA.ok.has _ (.inr k)
  refine wpAny_comprehension_free (use := none) rfl hs (closure_ok cap) ok.kind (fun y hy e => (ok.uniq y hy).trans (by rw [e])) (thn (hi.run pins sA σ H _ IA h) fun xv sB hB => thn hB fun iv sC hC => ?_)
  obtain ⟨it, fp, tn, Jt, HC, e, IC, T, stC, fC, q⟩ := hC
  subst e
  refine wpAny_newObj_type (newEnv_comp ?_) (by show 0 ≤ sizeLine; decide)
  obtain ⟨D, hD⟩ : ∃ D, sC.heap.objs.size = D := ⟨_, rfl⟩
  rw [hD]
  have nD : HC D = none := IC.hok.fresh (Nat.le_of_eq hD)
  obtain ⟨W, ⟨m0, w0⟩, turn⟩ := q D nD
  obtain ⟨sD, eD⟩ : ∃ sD : Shared, ({ sC with heap := sC.heap.push { cls := .type "list", data := .seq ([] : List Value).toArray } } : Shared) = sD := ⟨_, rfl⟩
  rw [eD]
  have hpD : sD.heap = sC.heap.push { cls := .type "list", data := .seq ([] : List Value).toArray } := by rw [← eD]
  have ID : Inv X pins σ (upd HC D (.lst [])) sD := by
    rw [← eD]
    refine IC.laid (t' := sC.toks) (fun b o z => Heap.get?_push_of_some _ z) (Nat.le_of_eq hD) ⟨Nat.zero_le _, [], 0, .nil, ?_⟩
    have z : (sC.heap.push { cls := .type "list", data := .seq ([] : List Value).toArray }).get? sC.heap.objs.size = some { cls := .type "list", data := .seq ([] : List Value).toArray } := Heap.get?_push_size _ rfl
    rw [hD] at z
    exact z
  have below : ∀ b ∈ fp, b < sC.heap.objs.size := fun b hb => by
    obtain ⟨o, z, _⟩ := T.obj _ _ stC b hb
    exact Heap.lt_size z
  have fD : ∀ b ∈ fp, FpOk X pins (upd HC D (.lst [])) b ∧ b < sD.heap.objs.size := fun b hb => by
    have lt := below b hb
    have bD : b ≠ D := fun z => Nat.lt_irrefl D (by rw [z, hD] at lt; exact lt)
    refine ⟨⟨?_, (fC b hb).2⟩, ?_⟩
    · rw [upd_ne bD]
      exact (fC b hb).1
    · rw [hpD, Heap.size_push]
      exact Nat.lt_succ_of_lt lt
  have stD : tn 0 sD.heap := T.keep _ _ _ stC fun b _ o z => by
    rw [hpD]
    exact Heap.get?_push_of_some _ z
  have IE := block_start ID ok nd fD
  have pg := hg sD (upd HC D (.lst [])) sD.heap.objs.size (cellsFrom (sD.heap.objs.size + 1) scope.names (cloFrom X.env.cells scope.names [])) fp
  have pe := he pins σ sD (upd HC D (.lst [])) sD.heap.objs.size (cellsFrom (sD.heap.objs.size + 1) scope.names (cloFrom X.env.cells scope.names [])) fp ID fun b hb => (fD b hb).1
  have freeP : ∀ b ∈ fp, (upd HC D (.lst [])) b = none := fun b hb => (fD b hb).1.1
  have last : ∀ s' m H', Inv X pins σ H' s' → Q (.ref D) H' → s'.heap.Ns sD.heap.objs.size m → FpOk X pins H' sD.heap.objs.size → compPost (model X.prog X.w) X.A X.xe none (EP X pins σ Q) (.ref D) sD.heap.objs.size (.ok .next) s' := fun s' m H' I' q' hn ⟨f0, f1, _, f3, f4, f5⟩ =>
    ⟨m, hn, fun g1 sb => ⟨.ref D, H', I'.turned (t' := s'.toks) (fun b o hb z => (sb.2 b hb).trans z) f0 f1 f3 f4 f5, rfl, q'⟩⟩
  show codeAny _ _ (.compStart (.ListComp elt [⟨tg, iter, [], 0⟩] scope pos) 0 (.ref it) (.ref D) (compEnvC scope (cellsFrom (sD.heap.objs.size + 1) scope.names (cloFrom X.env.cells scope.names [])) sD.heap.objs.size X.env)) (compPost (model X.prog X.w) X.A X.xe none (EP X pins σ Q) (.ref D) sD.heap.objs.size) { sD with heap := pushCells (sD.heap.push { cls := .type "dict", data := .dict #[] }) scope.names }
  generalize hce : compEnvC scope (cellsFrom (sD.heap.objs.size + 1) scope.names (cloFrom X.env.cells scope.names [])) sD.heap.objs.size X.env = ce at IE pg pe ⊢
  have cL : ce.locals = sD.heap.objs.size := by
    subst hce
    rfl
  generalize hHD : upd HC D (.lst []) = HD at ID IE pg pe w0 freeP fD
  generalize hsE : ({ sD with heap := pushCells (sD.heap.push { cls := .type "dict", data := .dict #[] }) scope.names } : Shared) = sE at IE ⊢
  have stE : tn 0 sE.heap := T.keep _ _ _ stD fun b _ o z => by
    rw [← hsE]
    exact pushCells_keeps _ _ _ _ (Heap.get?_push_of_some _ z)
  have apart : ∀ {σ' : L2.St} {H' : Hp} {s' : Shared}, Inv (X.blk sD HD scope ce fp) [] σ' H' s' → (∀ b ∈ fp, H' b = none) → ∀ b ∈ fp, FpOk (X.blk sD HD scope ce fp) [] H' b := fun {σ' H' s'} I' hn b hb =>
    ⟨hn b hb, (I'.ok.exf b hb).1, I'.ok.exfs b hb, .inl hb, fun x c z => (I'.ok.exf b hb).2 x c z, fun p hp => nomatch (show p ∈ ([] : List (Addr × Obj)) from hp)⟩
  have loop : codeAny (model X.prog X.w) X.A (.compLoop (.ListComp elt [⟨tg, iter, [], 0⟩] scope pos) 0 (.ref it) (.ref D) ce) (compPost (model X.prog X.w) X.A X.xe none (EP X pins σ Q) (.ref D) sD.heap.objs.size) sE := by
    refine compLoop_any (fun n s' => ∃ i H', Inv (X.blk sD HD scope ce fp) [] (wipe σ (own.map (·.2))) H' s' ∧ tn i s'.heap ∧ (∀ b ∈ fp, H' b = none) ∧ W i n H') ?_ m0 ⟨0, HD, IE, stE, freeP, w0⟩
    rintro n s5 ⟨i, H5, I5, st5, n5, w5⟩
    rcases turn i n H5 w5 with ⟨stop, fine⟩ | ⟨go, Nx, hNx, step⟩
    · refine thnF (T.done (X.blk sD HD scope ce fp) rfl rfl rfl calm i [] s5 _ H5 (fun _ _ => False) I5 (apart I5 n5) st5 stop) fun r s6 ⟨hr, I6⟩ => ?_
      subst hr
      have I7 : Inv X pins σ H5 s6 := ID.call' (ch := fp) I6.os I6.base I6.hok I6.bare fun b hb => by
        obtain ⟨_, a1, _, a3, a4, a5⟩ := (fD b hb).1
        exact ⟨a3, a1, a4, a5⟩
      have nC : H5 sD.heap.objs.size = none := by
        rw [← cL]
        exact I6.free
      obtain ⟨m, hn, _⟩ := I6.loc
      have hn : s6.heap.Ns sD.heap.objs.size m := by
        rw [← cL]
        exact hn
      exact last s6 m H5 I7 fine hn (ID.fpOk (Nat.le_refl _) nC)
    · refine thnF (T.item (X.blk sD HD scope ce fp) rfl rfl rfl calm i [] s5 _ H5 (fun _ _ => False) I5 (apart I5 n5) st5 go) fun r s6 ⟨u, hr, h6⟩ => ?_
      subst hr
      refine thnF h6 fun _ s7 ⟨x, H7, I7, r7, y7, st7, n7⟩ => ?_
      refine thnF (pg.run _ s7 _ H7 x u _ (I7.pinned (apart I7 n7) (T.obj _ _ st7)) r7 (step x H7 y7)) fun _ s8 ⟨σ8, H8, I8, hw8, q8⟩ => ?_
      refine thnF ((pts_nil (X := X.blk sD HD scope ce fp)).run _ s8 σ8 H8 _ I8 q8) fun b s9 ⟨H9, I9, q9⟩ => ?_
      have fin : ∀ {s' : Shared} {H' : Hp}, Inv (X.blk sD HD scope ce fp) ([] ++ pinsAt fp s7.heap) σ8 H' s' → Nx H' → ∃ m, m < n ∧ ∃ i H', Inv (X.blk sD HD scope ce fp) [] (wipe σ (own.map (·.2))) H' s' ∧ tn i s'.heap ∧ (∀ b ∈ fp, H' b = none) ∧ W i m H' := fun {s' H'} I' nx => by
        obtain ⟨m', hm, w'⟩ := hNx H' nx
        have held : ∀ b ∈ fp, ∀ o, s7.heap.get? b = some o → s'.heap.get? b = some o ∧ H' b = none := fun b hb o z => by
          obtain ⟨z1, z2, _⟩ := I'.pin (b, o) (List.mem_append_right _ (List.mem_append_right _ (mem_pinsAt hb z)))
          exact ⟨z1, z2⟩
        refine ⟨m', hm, i + 1, H', (I'.unpinned (pins := [])).weak (by rw [← hw8, wipe_length]) (fun j v z => ?_), T.keep _ _ _ st7 fun b hb o z => (held b hb o z).1, fun b hb => ?_, w'⟩
        · rw [← hw8] at z
          exact (wipe_some z).1
        · obtain ⟨o, z, _⟩ := T.obj _ _ st7 b hb
          exact (held b hb o z).2
      cases b
      · simp only [Bool.false_eq_true, if_false] at q9 ⊢
        exact fin I9 q9
      · simp only [if_true] at q9 ⊢
        refine thnF (pe.run _ s9 σ8 H9 _ I9 q9) fun z s10 ⟨yv, H10, I10, r10, acc, hD10, hz10, nx⟩ => ?_
        exact app_ok (X := X.blk sD HD scope ce fp) I10 hD10 hz10 r10 fun s11 I11 => fin I11 nx
  exact codeAny_compStart_list loop (T.self X.A 0 _ _ _ stE loop)
end
end LamT

namespace LamT
open PySem PySem.Spec PyProof.Rows L2 LamX NdefX
/-! ### except x as n, where further clauses follow: only exceptions that the first clause takes -/
def wAsM (K : PySem.W.Frag) (c : Value) (i : Nat) (ts : Addr → Value → Option Addr → TS) (D : Ends) : WX := fun cls d σ H => PySem.W.exmOne K cls c = some true ∧
  ∀ a, H a = none → ts a cls d ⟨fun σ' H' => D.nx (σ'.set i none) H', D.rt, fun σ' H' => D.bk (σ'.set i none) H', fun σ' H' => D.ct (σ'.set i none) H'⟩ (σ.set i (some (.ref a))) H
section
variable {X : Cx} {x n : Str} {c : Value} {i : Nat} {body suite : List Stmt} {b₀ : Stmt} {hds : List ExceptHandler} {np pos pos' : Pos} {tb : WX → TS} {ts : Addr → Value → Option Addr → TS}
theorem ps_try_asM (est : X.stack = X.env :: X.outer) (efr : X.env.frame = some X.env.locals) (nd : X.N.Nodup) (hi : X.N[i]? = some n) (loc : X.env.kindOf n = some .local) (nam : Names X x c)
    (hb : ∀ (W : WX) (pn : List (Addr × Obj)) (xe : Value → Shared → Prop), L2.Takes (X.tr pn xe) W → PassesOwn (model X.prog X.w) X.A X.env xe → PSs (X.tr pn xe) body (tb W))
    (hsu : ∀ (a : Addr) (oe : Obj) (cls : Value) (d : Option Addr) (pn : List (Addr × Obj)), Zc cls d oe → (∃ vs, oe.data = .fields vs) → PSs (X.suite a ((a, oe) :: pn)) (b₀ :: suite) (ts a cls d)) :
    PS X (.Try body (.ExceptHandler (some (.Name x np)) (some n) (b₀ :: suite) pos' :: hds) [] [] pos) (fun D σ H => tb (wAsM X.K c i ts D) D σ H) := by
  refine ⟨fun pins s σ H D I h => ?_⟩
  have ok := I.ok
  have fr0 : X.A.frames = some (X.env :: X.outer) := ok.frames.trans (by rw [est])
  refine wpAny_Try_except ?_
  refine wpAny_mono ((hb (wAsM X.K c i ts D) (X.pn ++ pins) (fun e s1 => wpAny (model X.prog X.w) X.A (noteFrame e X.env) (fun _ s2 => wpAny (model X.prog X.w) X.A (setFlight e none) (fun _ s3 => wpAny (model X.prog X.w) X.A (handleBy e X.env (.ExceptHandler (some (.Name x np)) (some n) (b₀ :: suite) pos' :: hds)) (SP X pins D) X.xe s3) X.xe s2) X.xe s1)
    (fun u s1 xx => ?_) PassesOwn.looking).run [] s σ H D (I.toTry _) h) (fun f s1 sp => ?_) (fun e s1 z => z)
  · obtain ⟨a, B, sI, pins1, σ1, H1, cls, d, rfl, J1, nb, up, sky, na, os, ag, yes, read⟩ := xx
    have J : Inv X pins σ1 H1 sI := J1.ofTry ok
    have sky1 : Sky B (X.env :: X.outer) a (Zc cls d) X.env.locals s1.heap := est ▸ sky
    show wpAny (model X.prog X.w) X.A (noteFrame (.ref a) X.env) _ _ _
    refine Sky.land Zc.steady fr0 efr sky1 fun g3 fl3 up3 => ?_
    have J3 : Inv X pins σ1 H1 { s1 with heap := g3 } := J.landed nb fl3.1 (up.trans up3) os ag
    obtain ⟨o3, v3, got3, z3, dat3⟩ := fl3.there
    have off : a ∉ frs (X.env :: X.outer) := fun hm => by
      obtain ⟨_, o', e', hnf⟩ := fl3.2.2.1.mem hm
      rw [got3] at e'
      cases e'
      exact hnf _ dat3
    have nL : a ≠ X.env.locals := fun z => off (List.mem_filterMap.mpr ⟨X.env, List.mem_cons_self, efr.trans (by rw [z])⟩)
    have nF : a ∉ X.fs := fun hm => by
      obtain ⟨e, he, q⟩ := List.mem_filterMap.mp hm
      exact off (List.mem_filterMap.mpr ⟨e, List.mem_cons_of_mem _ he, q⟩)
    have S3 := J3.suite got3 dat3 na nL nF
    refine wpAny_handleBy_cons (codeAny_handlers_test ?_) (by intro q; cases q)
    have look : PySem.W.Looks (model X.prog X.w) g3 (typeOf (.ref a)) cls := fun A Q E s k q => wpAny_typeOf_ref (k _ _ got3) (by rw [z3.1]; exact q)
    have match_ := PySem.W.exm_one (M := model X.prog X.w) (J3.kIn) look yes
    have name_ : ∀ {Q E : Value → Shared → Prop}, Q c { s1 with heap := g3 } → wpAny (model X.prog X.w) (X.A.mark (some (.ref a))) (eval (.Name x np) X.env) Q E { s1 with heap := g3 } := fun {Q E} q => by
      obtain ⟨hg, hdbg, hm | ⟨hm, hv, hnn⟩⟩ := nam
      · exact ld_glob (X := X.suite a ((a, o3) :: (X.pn ++ pins))) S3 hg hm q hdbg
      · exact ld_blt (X := X.suite a ((a, o3) :: (X.pn ++ pins))) S3 hg hm hv q hnn hdbg
    refine name_ (match_.here (codeAny_handlers_suite_as (HandSPX.lands_againZ fl3 fun g4 fl4 up4 => ?_)))
    have J4 : Inv X pins σ1 H1 { s1 with heap := g4 } := J.landed nb fl4.1 ((up.trans up3).trans up4) os ag
    obtain ⟨o4, v4, got4, z4, dat4⟩ := fl4.there
    refine store_ok (X := X.suite a ((a, o4) :: (X.pn ++ pins))) (v := .ref a) (J4.suite got4 dat4 na nL nF) nd hi (.inl loc) rfl (fun s5 S5 => ?_) (.inr loc)
    refine wpAny_mono ((hsu a o4 cls d (X.pn ++ pins) z4 ⟨_, dat4⟩).run [] s5 _ H1 _ S5 (read a na)) (fun f s6 sp => ?_) (fun _ _ z => z.elim)
    have gone : ∀ {σ6 : L2.St} {H6 : Hp} {Q : Shared → Prop}, Inv (X.suite a ((a, o4) :: (X.pn ++ pins))) [] σ6 H6 s6 → (∀ s7, Inv X pins (σ6.set i none) H6 s7 → Q s7) → wpAny (model X.prog X.w) X.A (do bindName X.env n .none; unbindBehindTheSuite X.env n pos') (fun _ s7 => Q s7) X.xe s6 :=
      fun {σ6 H6 Q} S6 hq => gone_ok (S6.unsuite ok) nd hi loc hq
    cases f
    case ret u =>
      obtain ⟨v6, σ6, H6, S6, r6, q6⟩ := sp
      exact gone S6 fun s7 J7 => ⟨_, _, _, J7, r6, q6⟩
    all_goals
      obtain ⟨σ6, H6, S6, q6⟩ := sp
      exact gone S6 fun s7 J7 => ⟨_, _, J7, q6⟩
  · cases f
    case ret u =>
      obtain ⟨v, σ1, H1, J1, r, q⟩ := sp
      exact ⟨v, σ1, H1, J1.ofTry ok, r, q⟩
    case next =>
      obtain ⟨σ1, H1, J1, q⟩ := sp
      exact wpAny_execs_nil ⟨σ1, H1, J1.ofTry ok, q⟩
    all_goals
      obtain ⟨σ1, H1, J1, q⟩ := sp
      exact ⟨σ1, H1, J1.ofTry ok, q⟩
end
/-! ### isinstance(e, (C1, C2, ..)), e the exception that the suite holds, with a dict of its own -/
def rIsET (K : PySem.W.Frag) (D a : Addr) (cls : Value) (d : Option Addr) : List V → Hp → VK → Prop := fun xs H Q => ∃ (dx tp : Addr) (cs : List V) (us : List Value) (b : Bool) (fs : List (Str × V)), cls = .ref D ∧ d = some dx ∧ xs = [.ref a, .ref tp] ∧ H tp = some (.tup cs) ∧ Paired ClsV cs us ∧ H dx = some (.xd fs) ∧ PySem.W.kitAny K (.ref D) us = some b ∧ Q (.bl b) H
theorem call_isET {X : Cx} {a D : Addr} {cls : Value} {d : Option Addr} {oe : Obj} {pn : List (Addr × Obj)} (C : ExcC X.K D) (hz : Zc cls d oe) (hf : ∃ vs, oe.data = .fields vs) : CallR (X.suite a ((a, oe) :: pn)) (.builtin "isinstance") (rIsET X.K D a cls d) := by
  intro pins s σ H xs us Q I r h
  obtain ⟨dx, tp, cs, ws, b, fs, rfl, rfl, rfl, hT, k, hdx, e, q⟩ := h
  obtain ⟨u1, u2, rfl, r1, r2⟩ := vals2 r
  cases (show u1 = Value.ref a from r1)
  cases (show u2 = Value.ref tp from r2)
  obtain ⟨got, _⟩ := I.pin (a, oe) (List.mem_append.mpr (.inl List.mem_cons_self))
  obtain ⟨vs, hv⟩ := hf
  obtain ⟨mA, ns, _⟩ := I.hok dx _ hdx
  obtain ⟨od, hod⟩ : ∃ od, s.heap.get? dx = some od := by
    obtain ⟨ob, _, _, there, _⟩ := ns
    exact ⟨ob, there⟩
  have J : PySem.W.InstAt s.heap a oe D (some od) := by
    obtain ⟨oc, odc, oda, osl⟩ := oe
    obtain ⟨h1, h2⟩ := hz
    dsimp only at h1 h2 hv
    subst h1 h2 hv
    exact ⟨got, rfl, rfl, hod⟩
  obtain ⟨_, its, rv, o, h1, h2, n, h3⟩ := (show ObjOk X.prog X.w H s.heap tp (.tup cs) from I.hok tp _ hT)
  have e3 := ClsV.all k rv
  subst e3
  obtain ⟨oc, ocd, dt, sl⟩ := o
  simp only at h2 h3
  subst h2 h3
  have cls : (PySem.W.clsIn X.K D).isSome = true := by
    obtain ⟨cd, hc, _⟩ := PySem.W.any_some C.hd
    rw [hc] <;> rfl
  exact PySem.W.kia_tup (PySem.W.kitx_exc (ox := oe) (od := some od) cls C.hg C.hk C.hs C.ha C.hn C.ht C.hm) I.kIn J h1 e (fun z => nomatch z) fun tk => ⟨.bl b, H, I.tok tk, rfl, q⟩
end LamT

namespace LamT
open PySem PySem.Spec PyProof.Rows L2 LamX NdefX
/-! ### a def of one parameter that calls what it got, at once -/
/-- R: what it makes of the lambda's reading in the heap in which it is called -/
structure GOk (P : Program) (w : World) (K : PySem.W.Frag) (mg : Str → Option Value) (base : Heap) (k j : Nat) (g : Addr) (fd : FuncData) (a : Str) (R : (VK → XK → Prop) → Hp → VK → Prop) : Prop where
  run : ∀ (A : Around) (outer : List Env) (s : Shared) (H : Hp) (args : Args) (f : Addr) (F : LF) (fr : List Str) (ws : List (Option V)) (sp : List (Option V) → Hp → VK → XK → Prop) (Q : VK), Room k A → Env0 P w K mg base A outer s H → BindsTo s fd args [(a, .ref f)] →
    LOk P w K mg base (L2.CX P w) j f F fr sp → H f = some (LamO f F) → H F.c = some (CodeO F.c F.qual) → CellsAt F.cl fr ws s.heap H → R (fun Q' E => sp ws H Q' E) H Q → codeAny (model P w) A (.call (.ref g) args) (CR _root_.L2.CX0 outer P w H s Q _root_.L2.E0) s
section
variable {P : Program} {w : World} {K : PySem.W.Frag} {mg : Str → Option Value} {base : Heap} {k j : Nat} {g : Addr} {fd : FuncData} {a : Str} {R : (VK → XK → Prop) → Hp → VK → Prop}
theorem g_of {x qual : Str} {st : Stmt} {N : List Str} (F : L2.Fun K x qual st g fd) (S : FnScope N [a] (defScope st))
    (hbody : ∀ (cdv : Value) (A : Around) (outer : List Env) (s : Shared) (H : Hp) (f : Addr) (F : LF) (fr : List Str) (ws : List (Option V)) (sp : List (Option V) → Hp → VK → XK → Prop) (Q : VK), Room k (A.deeper (envOfC qual (defScope st) s.heap.objs.size g cdv)) →
      LOk P w K mg base (L2.CX P w) j f F fr sp → H f = some (LamO f F) → H F.c = some (CodeO F.c F.qual) → CellsAt F.cl fr ws s.heap H → R (fun Q' E => sp ws H Q' E) H Q →
      ∃ t, PSs (cxOf L2.CX0 P w K mg base N qual (defScope st) g cdv A outer s H L2.E0).nox (defBody st) t ∧ t { nx := fun _ H' => Q .non H', rt := Q } (L2.start N [.ref f]) H) :
    GOk P w K mg base (k + 1) j g fd a R := by
  obtain ⟨oc, od, kV, doc, pm, an, cdv, ct, osl, rfl, lk, hcd⟩ := F.ex
  refine ⟨fun A outer s H args f F fr ws sp Q room e0 hb lo hf hc C q => ?_⟩
  refine run_ofS (CX := L2.CX0) (E := L2.E0) (ps := [a]) (us := [.ref f]) (vs := [.ref f]) lk hcd S room e0 hb (.cons rfl .nil) rfl fun r1 => ?_
  obtain ⟨t, h1, h2⟩ := hbody cdv A outer s H f F fr ws sp Q r1 lo hf hc C q
  exact ⟨t, h1.nox, h2⟩
end
/-- what is asked of the lambda -/
def tGive (X : Cx) (j : Nat) (te : TE) (R : (VK → XK → Prop) → Hp → VK → Prop) (old : L2.St → L2.St) : TE := fun σ H Q => tCons te tNil σ H fun vs H1 => ∃ (f : Addr) (F : LF) (fr : List Str) (js : List Nat) (sp : List (Option V) → Hp → VK → XK → Prop), vs = [.ref f] ∧ H1 f = some (LamO f F) ∧ H1 F.c = some (CodeO F.c F.qual) ∧
      (X.Ok → Caps X F.cl fr js) ∧ LOk X.prog X.w X.K X.mg X.base (L2.CX X.prog X.w) j f F fr sp ∧ R (fun Q' E => sp (js.map (slotAt (old σ))) H1 Q' E) H1 Q
/-- x(e), e a kept lambda of the frame X; Y: where the call stands (X itself, or a block in it) -/
theorem pe_give {X Y : Cx} {k j : Nat} {g : Addr} {fd : FuncData} {x a : Str} {R : (VK → XK → Prop) → Hp → VK → Prop} {e : Expr} {te : TE} {p pos : Pos} {old : L2.St → L2.St} (G : GOk Y.prog Y.w Y.K Y.mg Y.base k j g fd a R) (hg : Gl Y x) (hm : Y.mg x = some (.ref g)) (hkp : PySem.W.keepIn Y.K (.ref g) = true) (hb : Binds Y.K fd [a] []) (room : Room k Y.A)
    (eP : X.prog = Y.prog ∧ X.w = Y.w ∧ X.K = Y.K ∧ X.mg = Y.mg ∧ X.base = Y.base)
    (hC : ∀ (pins : List (Addr × Obj)) (σ : L2.St) (H : Hp) (s : Shared), Inv Y pins σ H s → ∀ (cl : List (Str × Addr)) (fr : List Str) (js : List Nat), (X.Ok → Caps X cl fr js) → CellsAt cl fr (js.map (slotAt (old σ))) s.heap H)
    (he : PE Y e te) (hdb : (x == ("__debug__" : Str)) = false := by decide) (hst : starEach [e] Y.env = (false, eval e Y.env) :: starEach [] Y.env := by rfl) (hpl : (backTo pos (starEach [] Y.env)).any (·.1) = false := by rfl) :
    PE Y (.Call (.Name x p) [e] [] pos) (tGive X j te R old) := by
  refine ⟨fun pins s σ H Q I h => ?_⟩
  refine wpAny_Call_Name_kw (ld_glob I hg hm ?_ hdb)
  refine PySem.W.callWith_K (h₀ := Y.base) I.ok.mod.kin hkp (thn ((pa_cons he pa_nil hst).run pos pins s σ H _ I h) fun us s1 ⟨vs, H1, I1, r, q⟩ => ⟨I1.kIn, ?_⟩) hst hpl
  obtain ⟨f, F, fr, js, sp, rfl, hf, hc, cp, lo, q⟩ := q
  obtain ⟨a1, a2, a3, a4, a5⟩ := eP
  rw [a1, a2, a3, a4, a5] at lo
  cases r with
  | cons r1 r2 =>
    cases r2
    cases (show _ = Value.ref f from r1)
    refine wpAny_call (codeAny_mono (G.run Y.A Y.stack s1 H1 _ f F fr _ sp Q room I1.env0 (hb s1 [.ref f] I1.kIn rfl) lo hf hc (hC pins σ H1 s1 I1 F.cl fr js cp) q) fun r s2 hq => ?_)
    rcases r with e | fl
    · exact False.elim hq
    · cases fl
      all_goals first | exact I1.after hq | exact False.elim hq
/-- the call stands in the frame itself -/
theorem cells_here {X : Cx} {pins : List (Addr × Obj)} {σ : L2.St} {H : Hp} {s : Shared} (I : Inv X pins σ H s) (cl : List (Str × Addr)) (fr : List Str) (js : List Nat) (c : X.Ok → Caps X cl fr js) : CellsAt cl fr (js.map (slotAt σ)) s.heap H := cells_of I (c I.ok)
/-- .. in a block that began at s0 -/
theorem cells_blk {X : Cx} {pins pins' : List (Addr × Obj)} {σ0 σ : L2.St} {H0 H : Hp} {s0 s : Shared} {scope : Scope} {ce : Env} {fp : List Addr} (I0 : Inv X pins σ0 H0 s0) (hfp : ∀ b ∈ fp, FpOk X pins H0 b) (I : Inv (X.blk s0 H0 scope ce fp) pins' σ H s)
    (cl : List (Str × Addr)) (fr : List Str) (js : List Nat) (c : X.Ok → Caps X cl fr js) : CellsAt cl fr (js.map (slotAt σ0)) s.heap H := by
  have cc := c I0.ok
  refine cells_kept (cells_of I0 cc) (fun y b e hb => ?_) I.base
  exact (hfp b hb).2.2.2.2.1 y b (cc.sub y b e) rfl
end LamT

namespace LamT
open PySem PySem.Spec PyProof.Rows L2 LamX NdefX
section
variable {P : Program} {w : World} {K : PySem.W.Frag} {mg : Str → Option Value} {base : Heap}
/-- a def by its body, where its code object is known -/
theorem okC {x qual : Str} {st : Stmt} {f c : Addr} {fd : FuncData} {N ps : List Str} {k : Nat} {sp : Sp} (F : L2.Fun K x qual st f fd) (hc : fd.code = .ref c) (S : FnScope N ps (defScope st)) (len : ∀ vs H Q E, sp vs H Q E → vs.length = ps.length)
    (hbody : ∀ (A : Around) (outer : List Env) (s : Shared) (H : Hp) (vs : List V) (Q : VK) (E : XK), Room k (A.deeper (envOfC qual (defScope st) s.heap.objs.size f (.ref c))) → sp vs H Q E →
      ∃ t, PSs (cxOf L2.CX0 P w K mg base N qual (defScope st) f (.ref c) A outer s H E).nox (defBody st) t ∧ t { nx := fun _ H' => Q .non H', rt := Q } (L2.start N vs) H) : FnOk P w K mg base L2.CX0 (k + 1) f fd ps sp := by
  obtain ⟨oc, od, kV, doc, pm, an, cdv, ct, osl, rfl, lk, hcd⟩ := F.ex
  have e : cdv = .ref c := hc
  subst e
  refine fn_of lk hcd S len fun A outer s H vs Q E room q => ?_
  obtain ⟨t, h1, h2⟩ := hbody A outer s H vs Q E room q
  exact ⟨t, h1.nox, h2⟩
/-- lambda: x(y), x a def that may raise, y captured -/
theorem lok1 {F : LF} {f g : Addr} {fd : FuncData} {x y a : Str} {sp : Sp} {k : Nat} {p1 p2 p3 : Pos} (G : FnOk P w K mg base (L2.CX P w) k g fd [a] sp) (hm : mg x = some (.ref g)) (kp : PySem.W.keepIn K (.ref g) = true) (B : Binds K fd [a] [])
    (hb : F.body = .Call (.Name x p1) [.Name y p2] [] p3) {sc : Scope} (hs : F.scope = sc) (S : NScope [y] [] [y] sc) (hx : sc.names.lookup x = some .globalImplicit) (hbind : ∀ pm ctv : Value, bindArgs (PySem.W.kla_fn "<lambda>" F.qual F.params F.body F.scope F.cl pm (.ref F.c) ctv) ⟨[], []⟩ = pure [])
    (dx : (x == ("__debug__" : Str)) = false) (dy : (y == ("__debug__" : Str)) = false) (cy : (y == ("__classdict__" : Str)) = false) :
    LOk P w K mg base (L2.CX P w) (k + 1) f F [y] (fun ws H Q E => ∃ v, ws = [some v] ∧ sp [v] H Q E) := by
  subst hs
  refine lok_of S hbind fun A outer s H ws Q E room len q => ?_
  obtain ⟨v, rfl, q⟩ := q
  rw [hb]
  refine ⟨_, pe_call (CX := L2.CX P w) (E := E) G room hx hm kp B .nil (passes_call (takes_of rfl rfl rfl rfl) (fun _ _ _ _ h => h)) (pa_cons (pe_var (i := 0) rfl (.inr (.inr (S.frk y List.mem_cons_self))) dy cy) pa_nil) dx, ?_⟩
  exact ⟨v, rfl, q⟩
/-- lambda: x(y, z) -/
theorem lok2 {F : LF} {f g : Addr} {fd : FuncData} {x y z a b : Str} {sp : Sp} {k : Nat} {p1 p2 p3 p4 : Pos} (G : FnOk P w K mg base (L2.CX P w) k g fd [a, b] sp) (hm : mg x = some (.ref g)) (kp : PySem.W.keepIn K (.ref g) = true) (B : Binds K fd [a, b] [])
    (hb : F.body = .Call (.Name x p1) [.Name y p2, .Name z p4] [] p3) {sc : Scope} (hs : F.scope = sc) (S : NScope [y, z] [] [y, z] sc) (hx : sc.names.lookup x = some .globalImplicit) (hbind : ∀ pm ctv : Value, bindArgs (PySem.W.kla_fn "<lambda>" F.qual F.params F.body F.scope F.cl pm (.ref F.c) ctv) ⟨[], []⟩ = pure [])
    (dx : (x == ("__debug__" : Str)) = false) (dy : (y == ("__debug__" : Str)) = false) (cy : (y == ("__classdict__" : Str)) = false) (dz : (z == ("__debug__" : Str)) = false) (cz : (z == ("__classdict__" : Str)) = false) :
    LOk P w K mg base (L2.CX P w) (k + 1) f F [y, z] (fun ws H Q E => ∃ v u, ws = [some v, some u] ∧ sp [v, u] H Q E) := by
  subst hs
  refine lok_of S hbind fun A outer s H ws Q E room len q => ?_
  obtain ⟨v, u, rfl, q⟩ := q
  rw [hb]
  refine ⟨_, pe_call (CX := L2.CX P w) (E := E) G room hx hm kp B .nil (passes_call (takes_of rfl rfl rfl rfl) (fun _ _ _ _ h => h))
    (pa_cons (pe_var (i := 0) rfl (.inr (.inr (S.frk y List.mem_cons_self))) dy cy) (pa_cons (pe_var (i := 1) rfl (.inr (.inr (S.frk z (List.mem_cons_of_mem _ List.mem_cons_self)))) dz cz) pa_nil)) dx, ?_⟩
  exact ⟨v, rfl, u, rfl, q⟩
end
section
variable {X : Cx} {CX : CXT} {k : Nat} {f : Addr} {fd : FuncData} {ps ks : List Str} {sp : Sp} {E : XK} {x : Str} {p pos : Pos} {kws : List Keyword} {t : TA} {g : List Value → List Value → List Value} {gV : List V → List V → List V}
/-- x(k = v, ..) without positional arguments -/
theorem pe_callKw (G : FnOk X.prog X.w X.K X.mg X.base CX k f fd ps sp) (room : Room k X.A) (hg : Gl X x) (hm : X.mg x = some (.ref f)) (kp : PySem.W.keepIn X.K (.ref f) = true) (hb : KBinds X.K fd ps ks g gV) (hx : Passes CX X E) (hkw : PK X kws t)
    (hall : (backToKw pos (keywordEach kws X.env)).all (·.1.isSome) = true := by rfl) (hks : (backToKw pos (keywordEach kws X.env)).filterMap (·.1) = ks := by rfl) (hdb : (x == ("__debug__" : Str)) = false := by decide)
    (hpl : ((backTo pos (starEach [] X.env)).any (·.1) || (backToKw pos (keywordEach kws X.env)).any (·.1.isNone)) = false := by rfl) :
    PE X (.Call (.Name x p) [] kws pos) (fun σ H Q => t σ H fun zs H2 => sp (gV [] zs) H2 Q E) := by
  refine ⟨fun pins s σ H Q I h => wpAny_Call_Name_kw (ld_glob I hg hm ?_ hdb)⟩
  refine PySem.W.callWith_KW0 (h₀ := X.base) I.ok.mod.kin kp hall (thn (hkw.run pos pins s σ H _ I h) fun ws s2 ⟨zs, H2, I2, rz, q⟩ => ⟨I2.kIn, ?_⟩) hpl
  rw [hks]
  exact run_fnk (us := []) G room hb hx I2 .nil rz q
end
def kw1 {α : Type} : List α → List α → List α
  | [], [a] => [a]
  | _, _ => []
/-- two keyword arguments in the other order -/
def kw2 {α : Type} : List α → List α → List α
  | [], [a, b] => [b, a]
  | _, _ => []
theorem kb1 {K : PySem.W.Frag} {fd : FuncData} {a : Str} (h : ∀ w : Value, bindArgs fd ⟨[], [(a, w)]⟩ = pure [(a, w)]) : KBinds K fd [a] [a] kw1 kw1 where
  to := fun s us ws _ hl => by
    match us, ws, hl with
    | [], [w], _ => exact .of_eq (h w)
    | [], [], hl => cases hl
    | [], _ :: _ :: _, hl => cases hl
    | _ :: _, _, hl => cases hl
  rel := fun r rz => by
    cases r with
    | cons _ _ => exact .nil
    | nil =>
      cases rz with
      | nil => exact .nil
      | cons r1 r2 =>
        cases r2 with
        | nil => exact .cons r1 .nil
        | cons _ _ => exact .nil
theorem kb2 {K : PySem.W.Frag} {fd : FuncData} {a b : Str} (h : ∀ u w : Value, bindArgs fd ⟨[], [(b, u), (a, w)]⟩ = pure [(a, w), (b, u)]) : KBinds K fd [a, b] [b, a] kw2 kw2 where
  to := fun s us ws _ hl => by
    match us, ws, hl with
    | [], [u, w], _ => exact .of_eq (h u w)
    | [], [], hl => cases hl
    | [], [_], hl => cases hl
    | [], _ :: _ :: _ :: _, hl => cases hl
    | _ :: _, _, hl => cases hl
  rel := fun r rz => by
    cases r with
    | cons _ _ => exact .nil
    | nil =>
      cases rz with
      | nil => exact .nil
      | cons r1 r2 =>
        cases r2 with
        | nil => exact .nil
        | cons r3 r4 =>
          cases r4 with
          | nil => exact .cons r3 (.cons r1 .nil)
          | cons _ _ => exact .nil
/-- the call in a block of the maker's -/
theorem pe_giveB {X : Cx} {pins : List (Addr × Obj)} {σ0 : L2.St} {H0 : Hp} {s0 : Shared} {scope : Scope} {ce : Env} {fp : List Addr} {k j : Nat} {g : Addr} {fd : FuncData} {x a : Str} {R : (VK → XK → Prop) → Hp → VK → Prop} {e : Expr} {te : TE} {p pos : Pos} (I : Inv X pins σ0 H0 s0) (hfp : ∀ b ∈ fp, FpOk X pins H0 b)
    (G : GOk X.prog X.w X.K X.mg X.base k j g fd a R) (hg : Gl (X.blk s0 H0 scope ce fp) x) (hm : X.mg x = some (.ref g)) (hkp : PySem.W.keepIn X.K (.ref g) = true) (hb : Binds X.K fd [a] []) (room : Room k X.A) (he : PE (X.blk s0 H0 scope ce fp) e te)
    (hdb : (x == ("__debug__" : Str)) = false := by decide) (hst : starEach [e] ce = (false, eval e ce) :: starEach [] ce := by rfl) (hpl : (backTo pos (starEach [] ce)).any (·.1) = false := by rfl) :
    PE (X.blk s0 H0 scope ce fp) (.Call (.Name x p) [e] [] pos) (tGive X j te R fun _ => σ0) :=
  pe_give (X := X) (Y := X.blk s0 H0 scope ce fp) (old := fun _ => σ0) G hg hm hkp hb room ⟨rfl, rfl, rfl, rfl, rfl⟩ (fun _ _ _ _ I1 => cells_blk I hfp I1) he hdb hst hpl
/-- how the maker's frame lies to its lambda's cells -/
theorem caps_of {X : Cx} {sc sc0 : Scope} {fr : List Str} {js : List Nat} (e : X.env.scope = sc0) (h : ndefB sc0 sc fr = true) (hj : js.map (fun j => X.N[j]?) = fr.map some) : X.Ok → Caps X (cloFrom X.env.cells sc.names []) fr js := fun ok => by
  subst e
  exact Caps.made ok (ndef_free h) (ndef_fr h) hj
/-! ### the end: tables of several defs -/
theorem walk_ofTabs {l : PySem.W.OpenLaw} {n k : Nat} {q : Program} {loose : List Str} {XP : (Str → Option Value) → Heap → Prop} {YP : World → Heap → Prop} {d : DefRec} {K : Params → PySem.W.Frag} {CX : World → CXT} {x : Str} {names : List Str}
    (most : l.most = some n) (size : n ≤ sizeLine) (nodef : d.params.defaults = []) (room : Room k callerA) (recs : ∀ y ∈ names, ((recsOf q).any fun e => e.name == y) = true) (hY : ∀ (w : World) (h : Heap), YP w h → (K w.params).In h)
    (F : ∀ (w : World) (mg : Str → Option Value) (fa : Addr) (h : Heap), YP w h → (K w.params).In h → h.Ns mainGlobals mg → mg d.name = some (.ref fa) → (∀ y ∈ names, ∀ f, mg y = some (.ref f) → OwnTab (K w.params) f h) → LawAtS l w (K w.params) (CX w) k n x mg fa h)
    (hCX : ∀ (w : World) (H : Hp) (s : Shared) (e : Value) (s' : Shared), CX w [] H s (fun _ _ _ => False) e s' → False) :
    PySem.W.WalkO q loose XP YP l.row.toRowW d [] (fun f vs => PySem.call f vs) := by
  refine Att.attach_callB most nodef fun w s₀ s₁ mg mb fa o pm cd doc a vs ns G Y ho hd hcd hmg hobj hints hlen hbits hg => ?_
  have KX := hY w _ Y
  have own : ∀ y ∈ names, ∀ f, mg y = some (.ref f) → OwnTab (K w.params) f s₁.heap := fun y hy f hf c B o1 fd1 e dd vs1 sl k1 k2 k3 k4 k5 => by
    obtain ⟨r, hm, e1⟩ := List.any_eq_true.mp (recs y hy)
    obtain ⟨f', o', fd', c', B', t1, t2, t3, t4, t5, t6⟩ := G.T.tab r hm
    rw [beq_iff_eq.mp e1, hf] at t1
    cases t1
    rw [KX _ _ k1] at t2
    cases t2
    rw [k2] at t3
    cases t3
    rw [k3] at t4
    cases t4
    obtain ⟨⟨oc, vc, z1, _, z3, z4⟩, hB⟩ := t6
    rw [KX _ _ k4] at z1
    cases z1
    cases z3
    rw [k5] at z4
    cases z4
    exact hB
  obtain ⟨fd, cs, sp, hT, nT, C, hb, hsp, hF⟩ := F w mg fa _ Y KX G.T.g hmg own
  exact law_callTs KX G.T.g G.T.b G.T.builtins G.T.nolimit hg hT nT C G.T.bmain hobj hints (Nat.le_trans hlen size) room hF hb (fun H hH hS => hsp H a ns hlen hbits hH hS) fun H e s' => hCX w H s₁ e s'
end LamT

namespace K15
open PySem PySem.Spec PyProof.Rows L2
def topS (i : Nat) : Stmt := PySem.Challenge.pw_loopyard_k15_heaps_swept.main.body.getD i (.Pass ⟨0, 0, 0, 0⟩)
abbrev sRise : Stmt := topS 4
theorem scRise : FnScope ["heap", "top", "place", "less", "above"] ["heap", "top", "place", "less"] (defScope sRise) := ⟨rfl, rfl, rfl, by decide +kernel, rfl, by decide +kernel, by decide +kernel⟩
abbrev sSink : Stmt := topS 5
theorem scSink : FnScope ["heap", "top", "less", "place", "below"] ["heap", "top", "less"] (defScope sSink) := ⟨rfl, rfl, rfl, by decide +kernel, rfl, by decide +kernel, by decide +kernel⟩
abbrev sPopBy : Stmt := topS 6
theorem scPopBy : FnScope ["heap", "less", "last", "first"] ["heap", "less"] (defScope sPopBy) := ⟨rfl, rfl, rfl, by decide +kernel, rfl, by decide +kernel, by decide +kernel⟩
abbrev sHeapifyBy : Stmt := topS 7
theorem scHeapifyBy : FnScope ["heap", "less", "place"] ["heap", "less"] (defScope sHeapifyBy) := ⟨rfl, rfl, rfl, by decide +kernel, rfl, by decide +kernel, by decide +kernel⟩
abbrev sIsWhole : Stmt := topS 11
theorem scIsWhole : FnScope ["thing"] ["thing"] (defScope sIsWhole) := ⟨rfl, rfl, rfl, by decide +kernel, rfl, by decide +kernel, by decide +kernel⟩
abbrev sIsEntry : Stmt := topS 12
theorem scIsEntry : FnScope ["thing"] ["thing"] (defScope sIsEntry) := ⟨rfl, rfl, rfl, by decide +kernel, rfl, by decide +kernel, by decide +kernel⟩
abbrev sCheckRows : Stmt := topS 13
theorem scCheckRows : FnScope ["rows", "one"] ["rows"] (defScope sCheckRows) := ⟨rfl, rfl, rfl, by decide +kernel, rfl, by decide +kernel, by decide +kernel⟩
abbrev sIsSooner : Stmt := topS 14
theorem scIsSooner : FnScope ["one", "other"] ["one", "other"] (defScope sIsSooner) := ⟨rfl, rfl, rfl, by decide +kernel, rfl, by decide +kernel, by decide +kernel⟩
abbrev sRipe : Stmt := topS 15
theorem scRipe : FnScope ["rows", "now", "out", "left"] ["rows", "now"] (defScope sRipe) := ⟨rfl, rfl, rfl, by decide +kernel, rfl, by decide +kernel, by decide +kernel⟩
abbrev sSwept : Stmt := topS 16
theorem scSwept : FnScope ["rows", "gone", "count", "left", "lost", "entry", "number"] ["rows", "gone", "count"] (defScope sSwept) := ⟨rfl, rfl, rfl, by decide +kernel, rfl, by decide +kernel, by decide +kernel⟩
abbrev sLwWell : Stmt := topS 18
theorem scLwWell : FnScope ["_law_cell"] ["_law_cell"] (defScope sLwWell) := ⟨rfl, rfl, rfl, by decide +kernel, rfl, by decide +kernel, by decide +kernel⟩
abbrev sLwDraw : Stmt := topS 19
theorem scLwDraw : FnScope ["_law_well_here", "_law_many", "_law_found", "_law_salt", "_law_mixed"] ["_law_well_here", "_law_many"] (defScope sLwDraw) := ⟨rfl, rfl, rfl, by decide +kernel, rfl, by decide +kernel, by decide +kernel⟩
abbrev sLwPick : Stmt := topS 20
theorem scLwPick : FnScope ["_law_well_here", "_law_some"] ["_law_well_here", "_law_some"] (defScope sLwPick) := ⟨rfl, rfl, rfl, by decide +kernel, rfl, by decide +kernel, by decide +kernel⟩
abbrev sLwUp : Stmt := topS 21
theorem scLwUp : FnScope ["_law_lot", "_law_top", "_law_place", "_law_found", "_law_turn", "_law_above"] ["_law_lot", "_law_top", "_law_place"] (defScope sLwUp) := ⟨rfl, rfl, rfl, by decide +kernel, rfl, by decide +kernel, by decide +kernel⟩
abbrev sLwDown : Stmt := topS 22
theorem scLwDown : FnScope ["_law_lot", "_law_top", "_law_found", "_law_place", "_law_turn", "_law_left", "_law_lesser"] ["_law_lot", "_law_top"] (defScope sLwDown) := ⟨rfl, rfl, rfl, by decide +kernel, rfl, by decide +kernel, by decide +kernel⟩
abbrev sLwPush : Stmt := topS 23
theorem scLwPush : FnScope ["_law_lot", "_law_pair"] ["_law_lot", "_law_pair"] (defScope sLwPush) := ⟨rfl, rfl, rfl, by decide +kernel, rfl, by decide +kernel, by decide +kernel⟩
abbrev sLwPop : Stmt := topS 24
theorem scLwPop : FnScope ["_law_lot"] ["_law_lot"] (defScope sLwPop) := ⟨rfl, rfl, rfl, by decide +kernel, rfl, by decide +kernel, by decide +kernel⟩
abbrev sLwMade : Stmt := topS 25
theorem scLwMade : FnScope ["_law_lot", "_law_found", "_law_place"] ["_law_lot"] (defScope sLwMade) := ⟨rfl, rfl, rfl, by decide +kernel, rfl, by decide +kernel, by decide +kernel⟩
abbrev sLwScene : Stmt := topS 26
theorem scLwScene : FnScope ["_law_well_here", "_law_many", "_law_top", "_law_lot", "_law_k", "_law_part", "_law_lost", "_law_about", "_law_tally", "_law_row"] ["_law_well_here"] (defScope sLwScene) := ⟨rfl, rfl, rfl, by decide +kernel, rfl, by decide +kernel, by decide +kernel⟩
abbrev sLwSwept : Stmt := topS 27
theorem scLwSwept : FnScope ["_law_lot", "_law_lost", "_law_tally", "_law_turn", "_law_row"] ["_law_lot", "_law_lost", "_law_tally"] (defScope sLwSwept) := ⟨rfl, rfl, rfl, by decide +kernel, rfl, by decide +kernel, by decide +kernel⟩
abbrev sLwDue : Stmt := topS 28
theorem scLwDue : FnScope ["_law_lot", "_law_moment", "_law_out", "_law_turn", "_law_first"] ["_law_lot", "_law_moment"] (defScope sLwDue) := ⟨rfl, rfl, rfl, by decide +kernel, rfl, by decide +kernel, by decide +kernel⟩
abbrev sLwIsRefused : Stmt := topS 29
theorem scLwIsRefused : FnScope ["_law_ask"] ["_law_ask"] (defScope sLwIsRefused) := ⟨rfl, rfl, rfl, by decide +kernel, rfl, by decide +kernel, by decide +kernel⟩
abbrev sLaw : Stmt := topS 30
theorem scLaw : FnScope ["_law_script", "_law_cell", "_law_well_here", "_law_kept", "_law_found", "_law_asks", "_law_bad", "_law_lost", "_law_lot", "_law_moment", "_law_none", "_law_odd", "_law_tally", "_law_row", "_law_ask"] ["_law_script"] (defScope sLaw) := ⟨rfl, rfl, rfl, by decide +kernel, rfl, by decide +kernel, by decide +kernel⟩
structure Txt (K : PySem.W.Frag) (mg : Str → Option Value) where
  aRise : Addr
  dRise : FuncData
  fRise : Fun K "rise" "rise" sRise aRise dRise
  gRise : mg "rise" = some (.ref aRise)
  bRise : Binds K dRise ["heap", "top", "place", "less"] []
  aSink : Addr
  dSink : FuncData
  fSink : Fun K "sink" "sink" sSink aSink dSink
  gSink : mg "sink" = some (.ref aSink)
  bSink : Binds K dSink ["heap", "top", "less"] []
  aPopBy : Addr
  dPopBy : FuncData
  fPopBy : Fun K "pop_by" "pop_by" sPopBy aPopBy dPopBy
  gPopBy : mg "pop_by" = some (.ref aPopBy)
  bPopBy : Binds K dPopBy ["heap", "less"] []
  aHeapifyBy : Addr
  dHeapifyBy : FuncData
  fHeapifyBy : Fun K "heapify_by" "heapify_by" sHeapifyBy aHeapifyBy dHeapifyBy
  gHeapifyBy : mg "heapify_by" = some (.ref aHeapifyBy)
  bHeapifyBy : Binds K dHeapifyBy ["heap", "less"] []
  aIsWhole : Addr
  dIsWhole : FuncData
  fIsWhole : Fun K "is_whole" "is_whole" sIsWhole aIsWhole dIsWhole
  gIsWhole : mg "is_whole" = some (.ref aIsWhole)
  bIsWhole : Binds K dIsWhole ["thing"] []
  aIsEntry : Addr
  dIsEntry : FuncData
  fIsEntry : Fun K "is_entry" "is_entry" sIsEntry aIsEntry dIsEntry
  gIsEntry : mg "is_entry" = some (.ref aIsEntry)
  bIsEntry : Binds K dIsEntry ["thing"] []
  aCheckRows : Addr
  dCheckRows : FuncData
  fCheckRows : Fun K "check_rows" "check_rows" sCheckRows aCheckRows dCheckRows
  gCheckRows : mg "check_rows" = some (.ref aCheckRows)
  bCheckRows : Binds K dCheckRows ["rows"] []
  aIsSooner : Addr
  dIsSooner : FuncData
  fIsSooner : Fun K "is_sooner" "is_sooner" sIsSooner aIsSooner dIsSooner
  gIsSooner : mg "is_sooner" = some (.ref aIsSooner)
  bIsSooner : Binds K dIsSooner ["one", "other"] []
  aRipe : Addr
  dRipe : FuncData
  fRipe : Fun K "ripe" "ripe" sRipe aRipe dRipe
  gRipe : mg "ripe" = some (.ref aRipe)
  bRipe : Binds K dRipe ["rows", "now"] []
  aSwept : Addr
  dSwept : FuncData
  fSwept : Fun K "swept" "swept" sSwept aSwept dSwept
  gSwept : mg "swept" = some (.ref aSwept)
  bSwept : Binds K dSwept ["rows", "gone", "count"] []
  aLwWell : Addr
  dLwWell : FuncData
  fLwWell : Fun K "_law_well" "_law_well" sLwWell aLwWell dLwWell
  gLwWell : mg "_law_well" = some (.ref aLwWell)
  bLwWell : Binds K dLwWell ["_law_cell"] []
  aLwDraw : Addr
  dLwDraw : FuncData
  fLwDraw : Fun K "_law_draw" "_law_draw" sLwDraw aLwDraw dLwDraw
  gLwDraw : mg "_law_draw" = some (.ref aLwDraw)
  bLwDraw : Binds K dLwDraw ["_law_well_here", "_law_many"] []
  aLwPick : Addr
  dLwPick : FuncData
  fLwPick : Fun K "_law_pick" "_law_pick" sLwPick aLwPick dLwPick
  gLwPick : mg "_law_pick" = some (.ref aLwPick)
  bLwPick : Binds K dLwPick ["_law_well_here", "_law_some"] []
  aLwUp : Addr
  dLwUp : FuncData
  fLwUp : Fun K "_law_up" "_law_up" sLwUp aLwUp dLwUp
  gLwUp : mg "_law_up" = some (.ref aLwUp)
  bLwUp : Binds K dLwUp ["_law_lot", "_law_top", "_law_place"] []
  aLwDown : Addr
  dLwDown : FuncData
  fLwDown : Fun K "_law_down" "_law_down" sLwDown aLwDown dLwDown
  gLwDown : mg "_law_down" = some (.ref aLwDown)
  bLwDown : Binds K dLwDown ["_law_lot", "_law_top"] []
  aLwPush : Addr
  dLwPush : FuncData
  fLwPush : Fun K "_law_push" "_law_push" sLwPush aLwPush dLwPush
  gLwPush : mg "_law_push" = some (.ref aLwPush)
  bLwPush : Binds K dLwPush ["_law_lot", "_law_pair"] []
  aLwPop : Addr
  dLwPop : FuncData
  fLwPop : Fun K "_law_pop" "_law_pop" sLwPop aLwPop dLwPop
  gLwPop : mg "_law_pop" = some (.ref aLwPop)
  bLwPop : Binds K dLwPop ["_law_lot"] []
  aLwMade : Addr
  dLwMade : FuncData
  fLwMade : Fun K "_law_made" "_law_made" sLwMade aLwMade dLwMade
  gLwMade : mg "_law_made" = some (.ref aLwMade)
  bLwMade : Binds K dLwMade ["_law_lot"] []
  aLwScene : Addr
  dLwScene : FuncData
  fLwScene : Fun K "_law_scene" "_law_scene" sLwScene aLwScene dLwScene
  gLwScene : mg "_law_scene" = some (.ref aLwScene)
  bLwScene : Binds K dLwScene ["_law_well_here"] []
  aLwSwept : Addr
  dLwSwept : FuncData
  fLwSwept : Fun K "_law_swept" "_law_swept" sLwSwept aLwSwept dLwSwept
  gLwSwept : mg "_law_swept" = some (.ref aLwSwept)
  bLwSwept : Binds K dLwSwept ["_law_lot", "_law_lost", "_law_tally"] []
  aLwDue : Addr
  dLwDue : FuncData
  fLwDue : Fun K "_law_due" "_law_due" sLwDue aLwDue dLwDue
  gLwDue : mg "_law_due" = some (.ref aLwDue)
  bLwDue : Binds K dLwDue ["_law_lot", "_law_moment"] []
  aLwIsRefused : Addr
  dLwIsRefused : FuncData
  fLwIsRefused : Fun K "_law_is_refused" "_law_is_refused" sLwIsRefused aLwIsRefused dLwIsRefused
  gLwIsRefused : mg "_law_is_refused" = some (.ref aLwIsRefused)
  bLwIsRefused : Binds K dLwIsRefused ["_law_ask"] []
  aLaw : Addr
  dLaw : FuncData
  fLaw : Fun K "law" "law" sLaw aLaw dLaw
  gLaw : mg "law" = some (.ref aLaw)
  bLaw : Binds K dLaw ["_law_script"] []
  n_len : mg "len" = none
  n_range : mg "range" = none
  n_isinstance : mg "isinstance" = none
  n_int : mg "int" = none
  n_bool : mg "bool" = none
  n_tuple : mg "tuple" = none
  n_list : mg "list" = none
  n_all : mg "all" = none
  n_any : mg "any" = none
  n_set : mg "set" = none
  n_max : mg "max" = none
  gMOST : ∃ t, mg "MOST" = some (.int 5000 t)
  gTIM : ∃ t, mg "MOST_TIMERS" = some (.int 100 t)
end K15

namespace K15
open PySem PySem.Spec PyProof.Rows L2
/-! ### entries -/
/-- an entry: where its tuple stands, its time and its number -/
structure Ent where
  a : Addr
  t : Int
  k : Int
abbrev Ent.v (e : Ent) : V := .ref e.a
abbrev vsOf (es : List Ent) : List V := es.map Ent.v
def EntAt (H : Hp) (e : Ent) : Prop := H e.a = some (.tup [.int e.t, .int e.k])
def Ents (H : Hp) (es : List Ent) : Prop := ∀ e ∈ es, EntAt H e
/-- all that was tracked is as it was, but for what stands at some places -/
def Kp (ps : List Addr) (H H' : Hp) : Prop := ∀ b o, b ∉ ps → H b = some o → H' b = some o
theorem Kp.refl (ps : List Addr) (H : Hp) : Kp ps H H := fun _ _ _ h => h
theorem Kp.trans {ps : List Addr} {H H1 H2 : Hp} (a : Kp ps H H1) (b : Kp ps H1 H2) : Kp ps H H2 := fun x o n h => b x o n (a x o n h)
theorem Kp.new {ps : List Addr} {H H1 : Hp} {p : Addr} {o : HO} (a : Kp ps H H1) (n : H1 p = none) : Kp ps H (upd H1 p o) := fun x u nx h => by
  have h1 := a x u nx h
  rw [upd_ne (ne_of_none h1 n)]
  exact h1
theorem Kp.wr {ps : List Addr} {H H1 : Hp} {p : Addr} {o : HO} (a : Kp ps H H1) (n : p ∈ ps) : Kp ps H (upd H1 p o) := fun x u nx h => by
  have e0 : x ≠ p := fun e => nx (by rw [e]; exact n)
  rw [upd_ne e0]
  exact a x u nx h
theorem Kp.mono {ps qs : List Addr} {H H1 : Hp} (a : Kp ps H H1) (h : ∀ x ∈ ps, x ∈ qs) : Kp qs H H1 := fun x o n e => a x o (fun m => n (h x m)) e
theorem Kp.same {H H1 : Hp} (a : Kp [] H H1) : Same H H1 := fun x o e => a x o (List.not_mem_nil) e
theorem Ents.kp {H H' : Hp} {es : List Ent} {p : Addr} {xs : List V} (h : Ents H es) (k : Kp [p] H H') (hp : H p = some (.lst xs)) : Ents H' es := fun e he => k _ _ (fun m => by
  have := List.mem_singleton.mp m
  have z := h e he
  unfold EntAt at z
  rw [this, hp] at z
  cases z) (h e he)
theorem Ents.perm {H : Hp} {es es' : List Ent} (h : Ents H es) (p : List.Perm es' es) : Ents H es' := fun e he => h e (p.mem_iff.mp he)
theorem vs_at {es : List Ent} {i : Nat} {e : Ent} (h : es[i]? = some e) : (vsOf es)[i]? = some e.v := by
  rw [List.getElem?_map, h]
  rfl
theorem ixN_nat {n j : Nat} (hj : j < n) : ixN n (j : Int) = some j := by
  unfold ixN
  rw [if_pos (Int.natCast_nonneg j), if_pos (by omega)]
  rfl
section
variable {P : Program} {w : World} {K : PySem.W.Frag} {mg : Str → Option Value} {base : Heap}
/-! ### is_sooner -/
def spSooner : Sp := fun vs H Q _ => ∃ a b : Ent, vs = [a.v, b.v] ∧ EntAt H a ∧ EntAt H b ∧ Q (.bl (decide (a.t < b.t))) H
theorem ok_sooner (T : Txt K mg) : FnOk P w K mg base CX0 1 T.aIsSooner T.dIsSooner ["one", "other"] spSooner := by
  refine T.fIsSooner.ok scIsSooner (fun vs H Q E h => ?_) (fun cdv A outer s H vs Q E hr h => ?_)
  · obtain ⟨a, b, rfl, _⟩ := h
    rfl
  · obtain ⟨a, b, rfl, ha, hb, q⟩ := h
    refine ⟨_, (pss_one (ps_ret (pe_cmpR op_lt (pe_ix (r := rIxT K) ix_tup (pv 0) pe_int (fun _ _ => rfl)) (pe_ix (r := rIxT K) ix_tup (pv 1) pe_int (fun _ _ => rfl)) (nomark _)))), ?_⟩
    exact ⟨_, rfl, _, _, 0, .int a.t, rfl, rfl, SqT.of ha, atI_nat (j := 0) rfl, _, rfl, _, _, 0, .int b.t, rfl, rfl, SqT.of hb, atI_nat (j := 0) rfl, _, _, rfl, rfl, q⟩
/-! ### rise -/
def spRise (fS : Addr) : Sp := fun vs H Q _ => ∃ (p : Addr) (es : List Ent) (top place : Nat), vs = [.ref p, .int top, .int place, .ref fS] ∧ H p = some (.lst (vsOf es)) ∧ Ents H es ∧ place < es.length ∧
  ∀ H', Kp [p] H H' → H' p = some (.lst (vsOf (Hm.rise Ent.t es top place))) → Q .non H'
theorem ok_rise (T : Txt K mg) : FnOk P w K mg base CX0 2 T.aRise T.dRise ["heap", "top", "place", "less"] (spRise T.aIsSooner) := by
  have GIsSooner : FnOk P w K mg base CX0 1 T.aIsSooner T.dIsSooner ["one", "other"] spSooner := ok_sooner T
  refine T.fRise.ok scRise (fun vs H Q E h => ?_) (fun cdv A outer s H vs Q E hr h => ?_)
  · obtain ⟨p, es, top, place, rfl, _⟩ := h
    rfl
  · obtain ⟨p, es, top, place, rfl, hp, he, hl, q⟩ := h
    refine ⟨_, (pss_one (ps_while PassesOwn.never (pt_cmpR op_gt (pv 2) (pv 1) (nomark _))
      (pss_cons (ps_set (i := 4) scRise.nd rfl (.inl rfl) (pe_op op_fdiv (pe_op op_sub (pv 2) pe_int) pe_int))
        (pss_cons (ps_if (pt_not (pt_val (pe_callL (i := 3) GIsSooner (hr.mono (by decide)) rfl (.inl rfl) T.fIsSooner.kp T.bIsSooner .nil pass0 (pa_cons (pe_ix (r := rIxL K) ix_list (pv 0) (pv 2) (fun _ _ => rfl)) (pa_cons (pe_ix (r := rIxL K) ix_list (pv 0) (pv 4) (fun _ _ => rfl)) pa_nil)))))
        (pss_one ps_retN)
        pss_nil)
        (pss_cons (ps_asg (pe_tup (pa_cons (pe_ix (r := rIxL K) ix_list (pv 0) (pv 4) (fun _ _ => rfl)) (pa_cons (pe_ix (r := rIxL K) ix_list (pv 0) (pv 2) (fun _ _ => rfl)) pa_nil))) (pg_tup rfl (pgs_cons (pg_sub (pv 0) (pv 2) set_list) (pgs_cons (pg_sub (pv 0) (pv 4) set_list) pgs_nil))))
        (pss_one (ps_set (i := 2) scRise.nd rfl (.inl rfl) (pv 4)))))))), ?_⟩
    refine ⟨fun m σ H3 => ∃ (es3 : List Ent) (pl : Nat) (y4 : Option V), σ = [some (.ref p), some (.int top), some (.int pl), some (.ref T.aIsSooner), y4] ∧ m = pl ∧ Kp [p] H H3 ∧ H3 p = some (.lst (vsOf es3)) ∧ Ents H3 es3 ∧ pl < es3.length ∧ Hm.rise Ent.t es3 top pl = Hm.rise Ent.t es top place,
      ⟨place, es, place, none, rfl, rfl, Kp.refl _ _, hp, he, hl, rfl⟩, fun m σ H3 hW => ?_⟩
    obtain ⟨es3, pl, y4, rfl, rfl, k3, hp3, he3, hl3, hr3⟩ := hW
    refine ⟨_, rfl, _, rfl, _, _, rfl, rfl, _, rfl, ite2 (fun c => ?_) (fun c => ?_)⟩
    · have c' : top < m := by
        have := of_decide_eq_true c
        omega
      have hab : (m - 1) / 2 < es3.length := by omega
      obtain ⟨x, hx⟩ : ∃ x, es3[m]? = some x := ⟨_, List.getElem?_eq_getElem hl3⟩
      obtain ⟨y, hy⟩ : ∃ y, es3[(m - 1) / 2]? = some y := ⟨_, List.getElem?_eq_getElem hab⟩
      have eab : ((m : Int) - 1) / 2 = (((m - 1) / 2 : Nat) : Int) := by omega
      have ex := he3 x (List.mem_of_getElem? hx)
      have ey := he3 y (List.mem_of_getElem? hy)
      refine ⟨fun σ' H' => ∃ (es3 : List Ent) (pl : Nat) (y4 : Option V), pl < m ∧ σ' = [some (.ref p), some (.int top), some (.int pl), some (.ref T.aIsSooner), y4] ∧ Kp [p] H H' ∧ H' p = some (.lst (vsOf es3)) ∧ Ents H' es3 ∧ pl < es3.length ∧ Hm.rise Ent.t es3 top pl = Hm.rise Ent.t es top place,
        fun σ' H' hN => ?_, ?_⟩
      · obtain ⟨es4, pl, y, l4, e4, r4⟩ := hN
        exact ⟨pl, l4, es4, pl, y, e4, rfl, r4⟩
      -- above = (place - 1) // 2
      refine ⟨_, rfl, _, _, rfl, rfl, _, _, rfl, rfl, ⟨by decide, by decide⟩, ?_⟩
      dsimp only
      rw [eab]
      -- less(heap[place], heap[above])
      refine ⟨rfl, _, rfl, _, rfl, p, _, _, x.v, rfl, rfl, SqL.of hp3, atI_nat (vs_at hx), _, rfl, _, rfl, p, _, _, y.v, rfl, rfl, SqL.of hp3, atI_nat (vs_at hy), x, y, rfl, ex, ey, _, rfl, ?_⟩
      have eL : Hm.lss Ent.t es3 m ((m - 1) / 2) = decide (x.t < y.t) := by
        unfold Hm.lss
        rw [hx, hy]
      have eR := Hm.rise.eq_1 Ent.t es3 top m
      rw [dif_pos c', eL] at eR
      by_cases d : x.t < y.t
      · rw [decide_eq_true d]
        rw [decide_eq_true d, if_pos rfl] at eR
        refine iteF ?_
        -- the swap
        refine ⟨_, rfl, _, rfl, p, _, _, y.v, rfl, rfl, SqL.of hp3, atI_nat (vs_at hy), _, rfl, _, rfl, p, _, _, x.v, rfl, rfl, SqL.of hp3, atI_nat (vs_at hx), (by show 2 ≤ sizeLine; decide), fun U nU => ?_⟩
        have npU : p ≠ U := ne_of_none hp3 nU
        refine ⟨U, [y.v, x.v], rfl, SqT.of upd_same, rfl, _, _, rfl, ?_⟩
        have h1 : (upd H3 U (.tup [y.v, x.v])) p = some (.lst (vsOf es3)) := by
          rw [upd_ne npU]
          exact hp3
        refine ⟨_, rfl, _, rfl, p, _, _, m, rfl, rfl, h1, ixN_nat (by rw [List.length_map]; exact hl3), _, _, rfl, ?_⟩
        refine ⟨_, rfl, _, rfl, p, _, _, (m - 1) / 2, rfl, rfl, upd_same, ixN_nat (by rw [List.length_set, List.length_map]; exact hab), rfl, ?_⟩
        rw [upd_upd]
        refine ⟨_, rfl, ?_⟩
        have es4 : ((vsOf es3).set m y.v).set ((m - 1) / 2) x.v = vsOf (Hm.swp es3 m ((m - 1) / 2)) := by
          rw [Hm.swp_eq hx hy]
          show _ = List.map Ent.v _
          rw [List.map_set, List.map_set]
        have kU : Kp [p] H3 (upd (upd H3 U (.tup [y.v, x.v])) p (.lst (((vsOf es3).set m y.v).set ((m - 1) / 2) x.v))) := ((Kp.refl _ _).new nU).wr (List.mem_singleton.mpr rfl)
        refine ⟨Hm.swp es3 m ((m - 1) / 2), (m - 1) / 2, _, by omega, rfl, k3.trans kU, ?_, ?_, ?_, ?_⟩
        · rw [upd_same, es4]
        · exact (he3.kp kU hp3).perm (Hm.swp_perm _ _ _)
        · rw [Hm.swp_len]
          exact hab
        · rw [← eR]
          exact hr3
      · rw [decide_eq_false d]
        rw [decide_eq_false d, if_neg Bool.false_ne_true] at eR
        refine iteT ?_
        refine q H3 k3 ?_
        rw [← hr3, eR]
        exact hp3
    · have c' : ¬ top < m := fun z => c (decide_eq_true (by omega))
      refine q H3 k3 ?_
      have eR := Hm.rise.eq_1 Ent.t es3 top m
      rw [dif_neg c'] at eR
      rw [← hr3, eR]
      exact hp3
end
end K15

namespace K15
open PySem PySem.Spec PyProof.Rows L2
theorem vs_set {es : List Ent} {i : Nat} {e : Ent} : (vsOf es).set i e.v = vsOf (es.set i e) := by
  show _ = List.map Ent.v _
  rw [List.map_set]
theorem vs_len {es : List Ent} : (vsOf es).length = es.length := List.length_map _
section
variable {P : Program} {w : World} {K : PySem.W.Frag} {mg : Str → Option Value} {base : Heap}
def spSink (fS : Addr) : Sp := fun vs H Q _ => ∃ (p : Addr) (es : List Ent) (top : Nat), vs = [.ref p, .int top, .ref fS] ∧ H p = some (.lst (vsOf es)) ∧ Ents H es ∧ top < es.length ∧
  ∀ H', Kp [p] H H' → H' p = some (.lst (vsOf (Hm.sink Ent.t es top))) → Q .non H'
theorem ok_sink (T : Txt K mg) : FnOk P w K mg base CX0 3 T.aSink T.dSink ["heap", "top", "less"] (spSink T.aIsSooner) := by
  have GIsSooner : FnOk P w K mg base CX0 1 T.aIsSooner T.dIsSooner ["one", "other"] spSooner := ok_sooner T
  have GRise : FnOk P w K mg base CX0 2 T.aRise T.dRise ["heap", "top", "place", "less"] (spRise T.aIsSooner) := ok_rise T
  refine T.fSink.ok scSink (fun vs H Q E h => ?_) (fun cdv A outer s H vs Q E hr h => ?_)
  · obtain ⟨p, es, top, rfl, _⟩ := h
    rfl
  · obtain ⟨p, es, top, rfl, hp, he, hl, q⟩ := h
    refine ⟨_, (pss_cons (ps_set (i := 3) scSink.nd rfl (.inl rfl) (pv 1))
      (pss_cons (ps_while PassesOwn.never (pt_cmpR op_lt (pe_op op_add (pe_op op_mul pe_int (pv 3)) pe_int) (pe_callB call_len_seq (by rfl) T.n_len PySem.boot_len (pa_cons (pv 0) pa_nil)) (nomark _))
      (pss_cons (ps_set (i := 4) scSink.nd rfl (.inl rfl) (pe_op op_add (pe_op op_mul pe_int (pv 3)) pe_int))
        (Evl.pss_cut (ps_if (PW.pt (pw_and (pt_cmpR op_lt (pe_op op_add (pv 4) pe_int) (pe_callB call_len_seq (by rfl) T.n_len PySem.boot_len (pa_cons (pv 0) pa_nil)) (nomark _)) (pw_and1 (pt_not (pt_val (pe_callL (i := 2) GIsSooner (hr.mono (by decide)) rfl (.inl rfl) T.fIsSooner.kp T.bIsSooner .nil pass0 (pa_cons (pe_ix (r := rIxL K) ix_list (pv 0) (pv 4) (fun _ _ => rfl)) (pa_cons (pe_ix (r := rIxL K) ix_list (pv 0) (pe_op op_add (pv 4) pe_int) (fun _ _ => rfl)) pa_nil))))))))
        (pss_one (ps_aug (i := 4) scSink.nd rfl (.inl rfl) pe_int ip_add))
        pss_nil)
        (pss_cons (ps_asg (pe_tup (pa_cons (pe_ix (r := rIxL K) ix_list (pv 0) (pv 4) (fun _ _ => rfl)) (pa_cons (pe_ix (r := rIxL K) ix_list (pv 0) (pv 3) (fun _ _ => rfl)) pa_nil))) (pg_tup rfl (pgs_cons (pg_sub (pv 0) (pv 3) set_list) (pgs_cons (pg_sub (pv 0) (pv 4) set_list) pgs_nil))))
        (pss_one (ps_set (i := 3) scSink.nd rfl (.inl rfl) (pv 4)))))))
      (pss_one (ps_expr (pe_call GRise (hr.mono (by decide)) (by rfl) T.gRise T.fRise.kp T.bRise .nil pass0 (pa_cons (pv 0) (pa_cons (pv 1) (pa_cons (pv 3) (pa_cons (pv 2) pa_nil))))))))), ?_⟩
    refine ⟨_, rfl, ?_⟩
    refine ⟨fun m σ H3 => ∃ (es3 : List Ent) (pl : Nat) (y4 : Option V), σ = [some (.ref p), some (.int top), some (.ref T.aIsSooner), some (.int pl), y4] ∧ m = es3.length - pl ∧ Kp [p] H H3 ∧ H3 p = some (.lst (vsOf es3)) ∧ Ents H3 es3 ∧ pl < es3.length ∧ Hm.down Ent.t es3 pl = Hm.down Ent.t es top,
      ⟨_, es, top, none, rfl, rfl, Kp.refl _ _, hp, he, hl, rfl⟩, fun m σ H3 hW => ?_⟩
    obtain ⟨es3, pl, y4, rfl, rfl, k3, hp3, he3, hl3, hr3⟩ := hW
    refine ⟨_, rfl, _, _, rfl, rfl, .inl ⟨by decide, by decide⟩, _, _, rfl, rfl, _, rfl, p, _, rfl, .inl (SqL.of hp3), _, _, rfl, rfl, _, rfl, ite2 (fun c => ?_) (fun c => ?_)⟩
    · have c' : 2 * pl + 1 < es3.length := by
        have := of_decide_eq_true c
        rw [vs_len] at this
        omega
      have eD := Hm.down.eq_1 Ent.t es3 pl
      rw [dif_pos c'] at eD
      refine ⟨fun σ' H' => ∃ (es4 : List Ent) (pl' : Nat) (y4 : Option V), es4.length - pl' < es3.length - pl ∧ σ' = [some (.ref p), some (.int top), some (.ref T.aIsSooner), some (.int pl'), y4] ∧ Kp [p] H H' ∧ H' p = some (.lst (vsOf es4)) ∧ Ents H' es4 ∧ pl' < es4.length ∧ Hm.down Ent.t es4 pl' = Hm.down Ent.t es top,
        fun σ' H' hN => ?_, ?_⟩
      · obtain ⟨es4, pl', y, l4, e4, r4⟩ := hN
        exact ⟨_, l4, es4, pl', y, e4, rfl, r4⟩
      -- below = 2 * place + 1
      have e1 : 2 * (pl : Int) + 1 = ((2 * pl + 1 : Nat) : Int) := by omega
      have e2 : ((2 * pl + 1 : Nat) : Int) + 1 = ((2 * pl + 1 + 1 : Nat) : Int) := by omega
      refine ⟨_, rfl, _, _, rfl, rfl, .inl ⟨by decide, by decide⟩, _, _, rfl, rfl, ?_⟩
      dsimp only
      rw [e1]
      obtain ⟨x, hx⟩ : ∃ x, es3[2 * pl + 1]? = some x := ⟨_, List.getElem?_eq_getElem c'⟩
      have ex := he3 x (List.mem_of_getElem? hx)
      -- if below + 1 < len(heap) and not less(..)
      refine ⟨fun σ' H' => ∃ (c : Nat), c = Hm.child Ent.t es3 pl ∧ σ' = [some (.ref p), some (.int top), some (.ref T.aIsSooner), some (.int pl), some (.int c)] ∧ H' = H3, ?_, ?_⟩
      · refine ⟨_, rfl, _, _, rfl, rfl, _, rfl, p, _, rfl, .inl (SqL.of hp3), _, _, rfl, rfl, _, rfl, ite2 (fun d => ?_) (fun d => ?_)⟩
        · have d' : 2 * pl + 1 + 1 < es3.length := by
            have := of_decide_eq_true d
            rw [vs_len] at this
            omega
          obtain ⟨y, hy⟩ : ∃ y, es3[2 * pl + 1 + 1]? = some y := ⟨_, List.getElem?_eq_getElem d'⟩
          have ey := he3 y (List.mem_of_getElem? hy)
          refine ⟨rfl, _, rfl, _, rfl, p, _, _, x.v, rfl, rfl, SqL.of hp3, atI_nat (vs_at hx), _, rfl, _, rfl, _, _, rfl, rfl, p, _, _, y.v, rfl, rfl, SqL.of hp3, ?_, x, y, rfl, ex, ey, _, rfl, ?_⟩
          · show atI (vsOf es3) (((2 * pl + 1 : Nat) : Int) + 1) = _
            rw [e2]
            exact atI_nat (vs_at hy)
          have eL : Hm.lss Ent.t es3 (2 * pl + 1) (2 * pl + 1 + 1) = decide (x.t < y.t) := by
            unfold Hm.lss
            rw [hx, hy]
          by_cases z : x.t < y.t
          · rw [decide_eq_true z]
            refine iteF ?_
            refine ⟨2 * pl + 1, ?_, rfl, rfl⟩
            unfold Hm.child
            rw [if_neg (fun w => by rw [eL, decide_eq_true z] at w; exact Bool.noConfusion w.2)]
          · rw [decide_eq_false z]
            refine iteT ?_
            refine ⟨_, rfl, _, _, rfl, rfl, 2 * pl + 1 + 1, ?_, ?_, rfl⟩
            · unfold Hm.child
              rw [if_pos ⟨d', by rw [eL, decide_eq_false z]⟩]
            · dsimp only
              rw [e2]
              rfl
        · have d' : ¬ 2 * pl + 1 + 1 < es3.length := fun z => d (decide_eq_true (by rw [vs_len]; omega))
          refine iteF ?_
          refine ⟨2 * pl + 1, ?_, rfl, rfl⟩
          unfold Hm.child
          rw [if_neg (fun w => d' w.1)]
      · rintro σ' H' ⟨cc, ec, rfl, rfl⟩
        have hc1 := Hm.child_lt Ent.t es3 pl c'
        have hc2 := Hm.child_lo Ent.t es3 pl
        rw [← ec] at hc1 hc2 eD
        obtain ⟨y, hy⟩ : ∃ y, es3[cc]? = some y := ⟨_, List.getElem?_eq_getElem hc1⟩
        obtain ⟨z, hz⟩ : ∃ z, es3[pl]? = some z := ⟨_, List.getElem?_eq_getElem hl3⟩
        refine ⟨_, rfl, _, rfl, p, _, _, y.v, rfl, rfl, SqL.of hp3, atI_nat (vs_at hy), _, rfl, _, rfl, p, _, _, z.v, rfl, rfl, SqL.of hp3, atI_nat (vs_at hz), (by show 2 ≤ sizeLine; decide), fun U nU => ?_⟩
        have npU : p ≠ U := ne_of_none hp3 nU
        refine ⟨U, [y.v, z.v], rfl, SqT.of upd_same, rfl, _, _, rfl, ?_⟩
        have h1 : (upd H' U (.tup [y.v, z.v])) p = some (.lst (vsOf es3)) := by
          rw [upd_ne npU]
          exact hp3
        refine ⟨_, rfl, _, rfl, p, _, _, pl, rfl, rfl, h1, ixN_nat (by rw [vs_len]; exact hl3), _, _, rfl, ?_⟩
        refine ⟨_, rfl, _, rfl, p, _, _, cc, rfl, rfl, upd_same, ixN_nat (by rw [List.length_set, vs_len]; exact hc1), rfl, ?_⟩
        rw [upd_upd]
        refine ⟨_, rfl, ?_⟩
        have es4 : ((vsOf es3).set pl y.v).set cc z.v = vsOf (Hm.swp es3 pl cc) := by
          rw [Hm.swp_eq hz hy, vs_set, vs_set]
        have kU : Kp [p] H' (upd (upd H' U (.tup [y.v, z.v])) p (.lst (((vsOf es3).set pl y.v).set cc z.v))) := ((Kp.refl _ _).new nU).wr (List.mem_singleton.mpr rfl)
        refine ⟨Hm.swp es3 pl cc, cc, _, ?_, rfl, k3.trans kU, ?_, ?_, ?_, ?_⟩
        · rw [Hm.swp_len]
          omega
        · rw [upd_same, es4]
        · exact (he3.kp kU hp3).perm (Hm.swp_perm _ _ _)
        · rw [Hm.swp_len]
          exact hc1
        · rw [← eD]
          exact hr3
    · have c' : ¬ 2 * pl + 1 < es3.length := fun z => c (decide_eq_true (by rw [vs_len]; omega))
      have eD := Hm.down.eq_1 Ent.t es3 pl
      rw [dif_neg c'] at eD
      rw [eD] at hr3
      refine ⟨_, rfl, _, rfl, _, rfl, _, rfl, p, es3, top, pl, rfl, hp3, he3, hl3, fun H' k' h' => ?_⟩
      refine q H' (k3.trans k') ?_
      rw [h']
      unfold Hm.sink
      rw [← hr3]
end
end K15

namespace K15
open PySem PySem.Spec PyProof.Rows L2
/-! ### entries as data -/
abbrev Ent.d (e : Ent) : PyData := .tuple [.int e.t, .int e.k]
abbrev Ent.pr (e : Ent) : Int × Int := (e.t, e.k)
abbrev rowsD (es : List Ent) : PyData := .list (es.map Ent.d)
section
variable {K : PySem.W.Frag}
theorem dp_ent {H : Hp} {e : Ent} (h : EntAt H e) : Dp K H e.v e.d := .tup (SqT.of h) (.cons (.int _) (.cons (.int _) .nil))
theorem dp_all {H : Hp} : ∀ {es : List Ent}, Ents H es → DpAll K H (vsOf es) (es.map Ent.d)
  | [], _ => .nil
  | e :: r, h => .cons (dp_ent (h e List.mem_cons_self)) (dp_all fun x hx => h x (List.mem_cons_of_mem _ hx))
theorem dp_rows {H : Hp} {p : Addr} {es : List Ent} (hp : SqL K H p (vsOf es)) (h : Ents H es) : Dp K H (.ref p) (rowsD es) := .lst hp (dp_all h)
theorem dp_emp {H : Hp} {p : Addr} (hp : SqL K H p []) : Dp K H (.ref p) (.list []) := .lst hp .nil
end
theorem lay_rows : ∀ es : List Ent, PyData.canLayAll0 (es.map Ent.d) = true
  | [] => rfl
  | e :: r => by
    show (PyData.canLay0 e.d && PyData.canLayAll0 (r.map Ent.d)) = true
    rw [lay_rows r]
    rfl
theorem depth_rows : ∀ es : List Ent, PyData.depthAll (es.map Ent.d) ≤ 1
  | [] => Nat.zero_le _
  | e :: r => by
    show max (PyData.depth e.d) (PyData.depthAll (r.map Ent.d)) ≤ 1
    exact Nat.max_le.mpr ⟨Nat.le_refl 1, depth_rows r⟩
theorem shaped_rows (es : List Ent) : SeqAt.shaped (rowsD es) = true := by
  unfold SeqAt.shaped
  refine Bool.and_eq_true_iff.mpr ⟨lay_rows es, decide_eq_true ?_⟩
  show PyData.depthAll (es.map Ent.d) + 1 ≤ 64
  have := depth_rows es
  omega
theorem shaped_ent (e : Ent) : SeqAt.shaped e.d = true := rfl
theorem eqv_ent (a b : Ent) : PyData.eqv a.d b.d = decide (a.pr = b.pr) := by
  show (a.t == b.t && (a.k == b.k && true)) = _
  rw [Bool.and_true, Bool.eq_iff_iff, Bool.and_eq_true_iff, beq_iff_eq, beq_iff_eq, decide_eq_true_iff]
  exact ⟨fun ⟨x, y⟩ => by rw [Ent.pr, x, y], fun h => ⟨(Prod.mk.inj h).1, (Prod.mk.inj h).2⟩⟩
theorem eqv_all : ∀ es fs : List Ent, PyData.eqvAll (es.map Ent.d) (fs.map Ent.d) = decide (es.map Ent.pr = fs.map Ent.pr)
  | [], [] => rfl
  | [], f :: r => rfl
  | e :: r, [] => rfl
  | e :: r, f :: q => by
    show (PyData.eqv e.d f.d && PyData.eqvAll (r.map Ent.d) (q.map Ent.d)) = _
    rw [eqv_ent, eqv_all r q, Bool.eq_iff_iff, Bool.and_eq_true_iff, decide_eq_true_iff, decide_eq_true_iff, decide_eq_true_iff]
    show _ ↔ e.pr :: r.map Ent.pr = f.pr :: q.map Ent.pr
    exact ⟨fun ⟨x, y⟩ => by rw [x, y], fun h => ⟨(List.cons.inj h).1, (List.cons.inj h).2⟩⟩
theorem eqv_rows (es fs : List Ent) : PyData.eqv (rowsD es) (rowsD fs) = decide (es.map Ent.pr = fs.map Ent.pr) := eqv_all es fs
theorem eqv_rows0 (es : List Ent) : PyData.eqv (rowsD es) (.list []) = es.isEmpty := by
  cases es with
  | nil => rfl
  | cons e r => rfl
theorem Ents.sub {H : Hp} {es fs : List Ent} (h : Ents H es) (s : ∀ x ∈ fs, x ∈ es) : Ents H fs := fun e he => h e (s e he)
theorem Ents.same {H H' : Hp} {es : List Ent} (h : Ents H es) (s : Same H H') : Ents H' es := fun e he => s _ _ (h e he)
theorem same_new {H : Hp} {p : Addr} {o : HO} (h : H p = none) : Same H (upd H p o) := fun b x e => by
  rw [upd_ne (ne_of_none e h)]
  exact e
theorem Same.kp {H H' : Hp} (h : Same H H') (ps : List Addr) : Kp ps H H' := fun b o _ e => h b o e
/-- what changed was new -/
theorem kp_same {H H1 H2 : Hp} {p : Addr} (s : Same H H1) (n : H p = none) (k : Kp [p] H1 H2) : Same H H2 := fun b o e => k b o (fun m => by
  rw [List.mem_singleton.mp m, n] at e
  cases e) (s b o e)
section
variable {P : Program} {w : World} {K : PySem.W.Frag} {mg : Str → Option Value} {base : Heap}
/-! ### pop_by -/
def spPopBy (fS : Addr) : Sp := fun vs H Q _ => ∃ (p : Addr) (es : List Ent) (x : Ent), vs = [.ref p, .ref fS] ∧ H p = some (.lst (vsOf es)) ∧ Ents H es ∧ es[0]? = some x ∧
  ∀ H', Kp [p] H H' → H' p = some (.lst (vsOf (Hm.popL Ent.t es))) → Q x.v H'
theorem ok_popBy (T : Txt K mg) : FnOk P w K mg base CX0 4 T.aPopBy T.dPopBy ["heap", "less"] (spPopBy T.aIsSooner) := by
  have GSink : FnOk P w K mg base CX0 3 T.aSink T.dSink ["heap", "top", "less"] (spSink T.aIsSooner) := ok_sink T
  refine T.fPopBy.ok scPopBy (fun vs H Q E h => ?_) (fun cdv A outer s H vs Q E hr h => ?_)
  · obtain ⟨p, es, x, rfl, _⟩ := h
    rfl
  · obtain ⟨p, es, x, rfl, hp, he, hx, q⟩ := h
    refine ⟨_, (pss_cons (ps_set (i := 2) scPopBy.nd rfl (.inl rfl) (pe_bm0 PySem.F.plainAttrs_list PySem.F.slot_list_pop PySem.F.type_list_pop mt_pop (pv 0)))
      (pss_cons (ps_if (pt_cmpR (r := rEqD K) (op_eqD hr.units) (pv 0) (pe_lst pa_nil) (nomark _))
      (pss_one (ps_ret (pv 2)))
      pss_nil)
      (pss_cons (ps_set (i := 3) scPopBy.nd rfl (.inl rfl) (pe_ix (r := rIxL K) ix_list (pv 0) pe_int (fun _ _ => rfl)))
      (pss_cons (ps_asg (pv 2) (pg_sub (pv 0) pe_int set_list))
      (pss_cons (ps_expr (pe_call GSink (hr.mono (by decide)) (by rfl) T.gSink T.fSink.kp T.bSink .nil pass0 (pa_cons (pv 0) (pa_cons pe_int (pa_cons (pv 1) pa_nil)))))
      (pss_one (ps_ret (pv 3)))))))), ?_⟩
    have hne : es ≠ [] := fun z => by
      rw [z] at hx
      simp at hx
    have hz : es.getLast? = some (es.getLast hne) := List.getLast?_eq_some_getLast hne
    have hlast : (vsOf es)[(vsOf es).length - 1]? = some (es.getLast hne).v := by
      rw [vs_len]
      refine vs_at ?_
      rw [← List.getLast?_eq_getElem?]
      exact hz
    have ed : (vsOf es).dropLast = vsOf es.dropLast := by
      show _ = List.map Ent.v _
      rw [List.map_dropLast]
    have k1 : Kp [p] H (upd H p (.lst (vsOf es).dropLast)) := (Kp.refl _ _).wr (List.mem_singleton.mpr rfl)
    have h1 : Ents (upd H p (.lst (vsOf es).dropLast)) es := he.kp k1 hp
    refine ⟨_, rfl, .inl ⟨rfl, _, SqL.of hp⟩, p, _, _, rfl, rfl, hp, hlast, ?_⟩
    rw [ed] at k1 h1 ⊢
    have h1d : Ents (upd H p (.lst (vsOf es.dropLast))) es.dropLast := h1.sub fun y hy => (List.dropLast_sublist es).subset hy
    -- if heap == []
    refine ⟨_, rfl, Nat.zero_le _, fun U nU => ?_⟩
    have s2 := same_new (o := .lst []) nU
    have hp2 : (upd (upd H p (.lst (vsOf es.dropLast))) U (.lst [])) p = some (.lst (vsOf es.dropLast)) := s2 _ _ upd_same
    refine ⟨rowsD es.dropLast, .list [], dp_rows (SqL.of hp2) (h1d.same s2), dp_emp (SqL.of upd_same), shaped_rows _, rfl, _, rfl, ?_⟩
    rw [eqv_rows0]
    have ep : Hm.popL Ent.t es = if es.dropLast.isEmpty then [] else Hm.sink Ent.t (es.dropLast.set 0 (es.getLast hne)) 0 := by
      unfold Hm.popL
      rw [hz]
    refine ite2 (fun c => ?_) (fun c => ?_)
    · rw [if_pos c] at ep
      refine ⟨_, rfl, ?_⟩
      have e1 : es.getLast hne = x := by
        cases es with
        | nil => exact absurd rfl hne
        | cons a r =>
          cases r with
          | nil => exact Option.some.inj hx
          | cons b r => simp at c
      rw [e1]
      refine q _ (k1.trans (Same.kp s2 _)) ?_
      rw [hp2, ep]
      have : es.dropLast = [] := List.isEmpty_iff.mp c
      rw [this]
    · rw [if_neg c] at ep
      have hx2 : es.dropLast[0]? = some x := by
        cases es with
        | nil => exact absurd rfl hne
        | cons a r =>
          cases r with
          | nil => exact absurd rfl c
          | cons b r => exact hx
      have hpos : 0 < es.dropLast.length := (List.getElem?_eq_some_iff.mp hx2).1
      -- first = heap[0]; heap[0] = last
      refine ⟨_, rfl, p, _, 0, x.v, rfl, rfl, SqL.of hp2, atI_nat (j := 0) (vs_at hx2), ?_⟩
      refine ⟨_, rfl, _, rfl, p, _, 0, 0, rfl, rfl, hp2, ixN_nat (j := 0) (by rw [vs_len]; exact hpos), ?_⟩
      rw [vs_set]
      have k3 : Kp [p] H (upd (upd (upd H p (.lst (vsOf es.dropLast))) U (.lst [])) p (.lst (vsOf (es.dropLast.set 0 (es.getLast hne))))) := (k1.trans (Same.kp s2 _)).wr (List.mem_singleton.mpr rfl)
      have h3 : Ents (upd (upd (upd H p (.lst (vsOf es.dropLast))) U (.lst [])) p (.lst (vsOf (es.dropLast.set 0 (es.getLast hne))))) (es.dropLast.set 0 (es.getLast hne)) := by
        refine (he.kp k3 hp).sub fun y hy => ?_
        rcases List.mem_or_eq_of_mem_set hy with hy | hy
        · exact (List.dropLast_sublist es).subset hy
        · rw [hy]
          exact List.getLast_mem hne
      refine ⟨_, rfl, _, rfl, p, _, 0, rfl, upd_same, h3, by rw [List.length_set]; exact hpos, fun H' k' h' => ?_⟩
      refine ⟨_, rfl, ?_⟩
      refine q H' (k3.trans k') ?_
      rw [ep]
      exact h'
/-! ### heapify_by -/
def spHeapifyBy (fS : Addr) : Sp := fun vs H Q _ => ∃ (p : Addr) (es : List Ent), vs = [.ref p, .ref fS] ∧ H p = some (.lst (vsOf es)) ∧ Ents H es ∧ es.length ≤ 100000 ∧
  ∀ H', Kp [p] H H' → H' p = some (.lst (vsOf (Hm.heapify Ent.t es))) → Q .non H'
theorem ok_heapifyBy (T : Txt K mg) : FnOk P w K mg base CX0 4 T.aHeapifyBy T.dHeapifyBy ["heap", "less"] (spHeapifyBy T.aIsSooner) := by
  have GSink : FnOk P w K mg base CX0 3 T.aSink T.dSink ["heap", "top", "less"] (spSink T.aIsSooner) := ok_sink T
  refine T.fHeapifyBy.ok scHeapifyBy (fun vs H Q E h => ?_) (fun cdv A outer s H vs Q E hr h => ?_)
  · obtain ⟨p, es, rfl, _⟩ := h
    rfl
  · obtain ⟨p, es, rfl, hp, he, hl, q⟩ := h
    refine ⟨_, (pss_one (ps_for PassesOwn.never rfl (pi_range3 (by rfl) T.n_range (pa_cons (pe_op op_sub (pe_op op_fdiv (pe_callB call_len_seq (by rfl) T.n_len PySem.boot_len (pa_cons (pv 0) pa_nil)) pe_int) pe_int) (pa_cons (pe_un un_neg pe_int) (pa_cons (pe_un un_neg pe_int) pa_nil)))) (pg_name (i := 2) scHeapifyBy.nd rfl (.inl rfl))
      (pss_one (ps_expr (pe_call GSink (hr.mono (by decide)) (by rfl) T.gSink T.fSink.kp T.bSink .nil pass0 (pa_cons (pv 0) (pa_cons (pv 2) (pa_cons (pv 1) pa_nil)))))))), ?_⟩
    have e1 : ((vsOf es).length : Int) / 2 - 1 = ((es.length / 2 : Nat) : Int) - 1 := by
      rw [vs_len]
      omega
    refine ⟨_, rfl, p, _, rfl, .inl (SqL.of hp), _, _, rfl, rfl, ⟨by decide, by decide⟩, _, _, rfl, rfl, _, rfl, _, rfl, _, _, _, es.length / 2, rfl, ?_, ?_⟩
    · have : (((es.length / 2 : Nat) : Int) - 1 - (-1)).toNat = es.length / 2 := by omega
      rw [e1]
      rw [← this]
      have r := RgC.neg (i := ((es.length / 2 : Nat) : Int) - 1) (j := -1) (by omega) (by omega) (by omega) (by omega)
      rw [this] at r ⊢
      exact r
    refine for_rangeC (fun i σ H3 => ∃ (es3 : List Ent) (y2 : Option V), σ = [some (.ref p), some (.ref T.aIsSooner), y2] ∧ es3.length = es.length ∧ Kp [p] H H3 ∧ H3 p = some (.lst (vsOf es3)) ∧ Ents H3 es3 ∧ Hm.heapTo Ent.t (es.length / 2 - i) es3 = Hm.heapify Ent.t es)
      ⟨es, none, rfl, rfl, Kp.refl _ _, hp, he, rfl⟩ (fun i σ H3 hi hW => ?_) (fun σ H3 hW => ?_)
    · obtain ⟨es3, y2, rfl, l3, k3, hp3, he3, r3⟩ := hW
      have e2 : ((vsOf es).length : Int) / 2 - 1 + (i : Int) * (-1) = ((es.length / 2 - i - 1 : Nat) : Int) := by
        rw [e1]
        omega
      dsimp only [gName]
      rw [e2]
      refine ⟨_, rfl, _, rfl, _, rfl, p, es3, es.length / 2 - i - 1, rfl, hp3, he3, by omega, fun H' k' h' => ?_⟩
      refine ⟨Hm.sink Ent.t es3 (es.length / 2 - i - 1), _, rfl, by rw [Hm.sink_len]; exact l3, k3.trans k', h', (he3.kp k' hp3).perm (Hm.sink_perm _ _ _), ?_⟩
      rw [← r3, show es.length / 2 - i = (es.length / 2 - i - 1) + 1 by omega]
      rfl
    · obtain ⟨es3, y2, rfl, l3, k3, hp3, he3, r3⟩ := hW
      refine q H3 k3 ?_
      rw [← r3, Nat.sub_self]
      exact hp3
end
end K15

namespace K15
open PySem PySem.Spec PyProof.Rows L2
/-! ### comprehensions: what is gathered so far, and the heap -/
theorem lcL {K : PySem.W.Frag} {a : Addr} {xs : List V} {j : Nat} {tt : TT} {te : TE} {vs : List Nat} {σ : L2.St} {H1 : Hp} {D : Addr} {Qd : Hp → Prop} (R : Nat → List V → Hp → Prop) (hn : xs.length ≤ 100000)
    (hw : ∀ x, wipe ((wipe σ vs).set j (some x)) vs = wipe σ vs)
    (hx : ∀ i acc H, R i acc H → SqL K H a xs) (h0 : R 0 [] (upd H1 D (.lst [])))
    (hs : ∀ i x acc H (Y : V → Hp → Prop) (Z : Hp → Prop), xs[i]? = some x → R i acc H → H D = some (.lst acc) → (∀ y H4, H4 D = some (.lst acc) → R (i + 1) (acc ++ [y]) (upd H4 D (.lst (acc ++ [y]))) → Y y H4) → (∀ H3, H3 D = some (.lst acc) → R (i + 1) acc H3 → Z H3) →
      tt ((wipe σ vs).set j (some x)) H fun b H3 => if b = true then te ((wipe σ vs).set j (some x)) H3 Y else Z H3)
    (hd : ∀ acc H, R xs.length acc H → H D = some (.lst acc) → Qd H) :
    ∃ W : Nat → Nat → Hp → Prop, (∃ m, W 0 m (upd H1 D (.lst []))) ∧ ∀ i m H, W i m H →
      ((Itl K a).stop i H ∧ Qd H) ∨ ((Itl K a).go i H ∧ ∃ Nx : Hp → Prop, (∀ H', Nx H' → ∃ m', m' < m ∧ W (i + 1) m' H') ∧ ∀ x H', (Itl K a).yld i H x H' → gName j x (wipe σ vs) H' fun σ2 H2 => wipe σ2 vs = wipe σ vs ∧ tt σ2 H2 fun b H3 =>
        if b = true then te σ2 H3 fun y H4 => ∃ acc, H4 D = some (.lst acc) ∧ acc.length < sizeLine ∧ Nx (upd H4 D (.lst (acc ++ [y]))) else Nx H3) := by
  refine lc_list (xs := xs) (fun i H => ∃ acc, acc.length ≤ i ∧ H D = some (.lst acc) ∧ R i acc H) ⟨[], Nat.le_refl _, upd_same, h0⟩ (fun i H _ ⟨acc, _, _, r⟩ => hx i acc H r) (fun i x H hi ⟨acc, ha, hD, r⟩ => ⟨hw x, ?_⟩) (fun H ⟨acc, _, hD, r⟩ => hd acc H r hD)
  have hi' : i < xs.length := (List.getElem?_eq_some_iff.mp hi).1
  exact hs i x acc H _ _ hi r hD (fun y H4 h4 r4 => ⟨acc, h4, Nat.lt_of_le_of_lt (show acc.length ≤ 100000 by omega) (by decide), acc ++ [y], by rw [List.length_append]; exact Nat.succ_le_succ ha, upd_same, r4⟩) (fun H3 h3 r3 => ⟨acc, Nat.le_succ_of_le ha, h3, r3⟩)
theorem lcR {lo : Int} {n : Nat} {j : Nat} {tt : TT} {te : TE} {vs : List Nat} {σ : L2.St} {H1 : Hp} {D : Addr} {Qd : Hp → Prop} (R : Nat → List V → Hp → Prop) (hn : n ≤ 100000)
    (hw : ∀ x, wipe ((wipe σ vs).set j (some x)) vs = wipe σ vs) (h0 : R 0 [] (upd H1 D (.lst [])))
    (hs : ∀ i acc H (Y : V → Hp → Prop) (Z : Hp → Prop), i < n → R i acc H → H D = some (.lst acc) → (∀ y H4, H4 D = some (.lst acc) → R (i + 1) (acc ++ [y]) (upd H4 D (.lst (acc ++ [y]))) → Y y H4) → (∀ H3, H3 D = some (.lst acc) → R (i + 1) acc H3 → Z H3) →
      tt ((wipe σ vs).set j (some (.int (lo + i)))) H fun b H3 => if b = true then te ((wipe σ vs).set j (some (.int (lo + i)))) H3 Y else Z H3)
    (hd : ∀ acc H, R n acc H → H D = some (.lst acc) → Qd H) :
    ∃ W : Nat → Nat → Hp → Prop, (∃ m, W 0 m (upd H1 D (.lst []))) ∧ ∀ i m H, W i m H →
      ((Itr lo n).stop i H ∧ Qd H) ∨ ((Itr lo n).go i H ∧ ∃ Nx : Hp → Prop, (∀ H', Nx H' → ∃ m', m' < m ∧ W (i + 1) m' H') ∧ ∀ x H', (Itr lo n).yld i H x H' → gName j x (wipe σ vs) H' fun σ2 H2 => wipe σ2 vs = wipe σ vs ∧ tt σ2 H2 fun b H3 =>
        if b = true then te σ2 H3 fun y H4 => ∃ acc, H4 D = some (.lst acc) ∧ acc.length < sizeLine ∧ Nx (upd H4 D (.lst (acc ++ [y]))) else Nx H3) := by
  refine lc_range (fun i H => ∃ acc, acc.length ≤ i ∧ H D = some (.lst acc) ∧ R i acc H) ⟨[], Nat.le_refl _, upd_same, h0⟩ (fun i H hi ⟨acc, ha, hD, r⟩ => ⟨hw _, ?_⟩) (fun H ⟨acc, _, hD, r⟩ => hd acc H r hD)
  exact hs i acc H _ _ hi r hD (fun y H4 h4 r4 => ⟨acc, h4, Nat.lt_of_le_of_lt (show acc.length ≤ 100000 by omega) (by decide), acc ++ [y], by rw [List.length_append]; exact Nat.succ_le_succ ha, upd_same, r4⟩) (fun H3 h3 r3 => ⟨acc, Nat.le_succ_of_le ha, h3, r3⟩)
/-- the same without a test -/
theorem lcLY {K : PySem.W.Frag} {a : Addr} {xs : List V} {j : Nat} {te : TE} {vs : List Nat} {σ : L2.St} {H1 : Hp} {D : Addr} {Qd : Hp → Prop} (R : Nat → List V → Hp → Prop) (hn : xs.length ≤ 100000)
    (hw : ∀ x, wipe ((wipe σ vs).set j (some x)) vs = wipe σ vs)
    (hx : ∀ i acc H, R i acc H → SqL K H a xs) (h0 : R 0 [] (upd H1 D (.lst [])))
    (hs : ∀ i x acc H (Y : V → Hp → Prop), xs[i]? = some x → R i acc H → H D = some (.lst acc) → (∀ y H4, H4 D = some (.lst acc) → R (i + 1) (acc ++ [y]) (upd H4 D (.lst (acc ++ [y]))) → Y y H4) → te ((wipe σ vs).set j (some x)) H Y)
    (hd : ∀ acc H, R xs.length acc H → H D = some (.lst acc) → Qd H) :
    ∃ W : Nat → Nat → Hp → Prop, (∃ m, W 0 m (upd H1 D (.lst []))) ∧ ∀ i m H, W i m H →
      ((Itl K a).stop i H ∧ Qd H) ∨ ((Itl K a).go i H ∧ ∃ Nx : Hp → Prop, (∀ H', Nx H' → ∃ m', m' < m ∧ W (i + 1) m' H') ∧ ∀ x H', (Itl K a).yld i H x H' → gName j x (wipe σ vs) H' fun σ2 H2 => wipe σ2 vs = wipe σ vs ∧ tYes σ2 H2 fun b H3 =>
        if b = true then te σ2 H3 fun y H4 => ∃ acc, H4 D = some (.lst acc) ∧ acc.length < sizeLine ∧ Nx (upd H4 D (.lst (acc ++ [y]))) else Nx H3) := by
  refine lcL (tt := tYes) R hn hw hx h0 (fun i x acc H Y Z a b c d e => ?_) hd
  show (if true = true then te ((wipe σ vs).set j (some x)) H Y else Z H)
  rw [if_pos rfl]
  exact hs i x acc H Y a b c d
theorem lcRY {lo : Int} {n : Nat} {j : Nat} {te : TE} {vs : List Nat} {σ : L2.St} {H1 : Hp} {D : Addr} {Qd : Hp → Prop} (R : Nat → List V → Hp → Prop) (hn : n ≤ 100000)
    (hw : ∀ x, wipe ((wipe σ vs).set j (some x)) vs = wipe σ vs) (h0 : R 0 [] (upd H1 D (.lst [])))
    (hs : ∀ i acc H (Y : V → Hp → Prop), i < n → R i acc H → H D = some (.lst acc) → (∀ y H4, H4 D = some (.lst acc) → R (i + 1) (acc ++ [y]) (upd H4 D (.lst (acc ++ [y]))) → Y y H4) → te ((wipe σ vs).set j (some (.int (lo + i)))) H Y)
    (hd : ∀ acc H, R n acc H → H D = some (.lst acc) → Qd H) :
    ∃ W : Nat → Nat → Hp → Prop, (∃ m, W 0 m (upd H1 D (.lst []))) ∧ ∀ i m H, W i m H →
      ((Itr lo n).stop i H ∧ Qd H) ∨ ((Itr lo n).go i H ∧ ∃ Nx : Hp → Prop, (∀ H', Nx H' → ∃ m', m' < m ∧ W (i + 1) m' H') ∧ ∀ x H', (Itr lo n).yld i H x H' → gName j x (wipe σ vs) H' fun σ2 H2 => wipe σ2 vs = wipe σ vs ∧ tYes σ2 H2 fun b H3 =>
        if b = true then te σ2 H3 fun y H4 => ∃ acc, H4 D = some (.lst acc) ∧ acc.length < sizeLine ∧ Nx (upd H4 D (.lst (acc ++ [y]))) else Nx H3) := by
  refine lcR (tt := tYes) R hn hw h0 (fun i acc H Y Z a b c d e => ?_) hd
  show (if true = true then te ((wipe σ vs).set j (some (.int (lo + i)))) H Y else Z H)
  rw [if_pos rfl]
  exact hs i acc H Y a b c d
/-! ### the errors -/
/-- what is known of BadValue, a class below LoopError, whose __init__ is LoopError's -/
structure ETxt (P : Program) (K : PySem.W.Frag) (mg : Str → Option Value) where
  CB : Addr
  CL : Addr
  fI : Addr
  fdI : FuncData
  gCB : mg "BadValue" = some (.ref CB)
  gCL : mg "LoopError" = some (.ref CL)
  sub : SupI.SubTxt K CB CL
  why : PySem.W.findIn K (.ref CB) "why" = some none
  iC : PySem.W.findIn K (.ref CB) "__init__" = some (some (.ref fI))
  tI : PySem.W.typeIn K (.ref fI) = some (.type "function")
  ini : ∀ (w : World) (base : Heap), FnOk P w K mg base CX0 1 fI fdI ["self", "why"] (SupI.spInit K CL "why")
  bI : Binds K fdI ["self", "why"] []
theorem raise_rd {K : PySem.W.Frag} {H : Hp} {CB CL : Addr} {y : V} {Q : XK} (S : SupI.SubTxt K CB CL) (hw : PySem.W.findIn K (.ref CB) "why" = some none) (h : ∀ d, H d = none → Q (.ref CB) (some d) (upd H d (.xd [("why", y)]))) :
    ∀ a, H a = none → SupI.spInit K CL "why" (.ref a :: ([y] ++ [])) (upd H a (exo a CB none)) (fun v H2 => v = .non ∧ ∃ (d : Addr) (fs : List (Str × V)), H2 a = some (exo a CB (some d)) ∧ H2 d = some (exd d fs) ∧ H d = none ∧ Q (.ref CB) (some d) (upd (del H2 a) d (.xd fs))) (fun _ _ _ => False) := by
  intro a na
  refine ⟨a, CB, y, rfl, S, hw, upd_same, fun dx ndx nda => ?_⟩
  have hd : H dx = none := by
    rw [upd_ne nda] at ndx
    exact ndx
  refine ⟨rfl, dx, [("why", y)], upd_same, by rw [upd_ne nda, upd_same], hd, ?_⟩
  have e : upd (del (upd (upd (upd H a (exo a CB none)) dx (exd dx [("why", y)])) a (exo a CB (some dx))) a) dx (.xd [("why", y)]) = upd H dx (.xd [("why", y)]) := by
    funext b
    by_cases h1 : b = dx
    · rw [h1, upd_same, upd_same]
    · rw [upd_ne h1, upd_ne h1]
      by_cases h2 : b = a
      · rw [h2, del_same, na]
      · rw [del_ne h2, upd_ne h2, upd_ne h1, upd_ne h2]
  rw [e]
  exact h dx hd
/-! ### what is an entry, of any things -/
def wholeB : V → Bool
  | .int _ => true
  | _ => false
def Scal : V → Prop
  | .int _ | .bl _ | .non | .str _ => True
  | _ => False
theorem Scal.ty {K : PySem.W.Frag} {H : Hp} : ∀ {v : V}, Scal v → (∃ i, v = .int i) ∨ (∃ b, v = .bl b) ∨ v = .non ∨ ∃ x, v = .str x
  | .int i, _ => .inl ⟨i, rfl⟩
  | .bl b, _ => .inr (.inl ⟨b, rfl⟩)
  | .non, _ => .inr (.inr (.inl rfl))
  | .str x, _ => .inr (.inr (.inr ⟨x, rfl⟩))
/-- whether the items of a tuple are those of an entry -/
def entB (xs : List V) : Bool := match xs with
  | [a, b] => wholeB a && wholeB b
  | _ => false
/-- a thing of which it is known whether it is an entry -/
inductive ItB (H : Hp) : V → Bool → Prop
  | scal {v : V} : Scal v → ItB H v false
  | lst {a : Addr} {xs : List V} : H a = some (.lst xs) → ItB H (.ref a) false
  | tup {a : Addr} {xs : List V} : H a = some (.tup xs) → (∀ x ∈ xs, Scal x) → ItB H (.ref a) (entB xs)
theorem ItB.same {H H' : Hp} {v : V} {b : Bool} (s : Same H H') (h : ItB H v b) : ItB H' v b := by
  cases h with
  | scal h => exact .scal h
  | lst h => exact .lst (s _ _ h)
  | tup h h2 => exact .tup (s _ _ h) h2
theorem ItB.ent {H : Hp} {e : Ent} (h : EntAt H e) : ItB H e.v true := ItB.tup (xs := [.int e.t, .int e.k]) h (fun x hx => by
  simp only [List.mem_cons, List.not_mem_nil, or_false] at hx
  rcases hx with rfl | rfl <;> trivial)
section
variable {P : Program} {w : World} {K : PySem.W.Frag} {mg : Str → Option Value} {base : Heap}
def spIsWhole : Sp := fun vs H Q _ => ∃ v : V, vs = [v] ∧ Scal v ∧ Q (.bl (wholeB v)) H
theorem ok_isWhole (T : Txt K mg) : FnOk P w K mg base CX0 1 T.aIsWhole T.dIsWhole ["thing"] spIsWhole := by
  refine T.fIsWhole.ok scIsWhole (fun vs H Q E h => ?_) (fun cdv A outer s H vs Q E hr h => ?_)
  · obtain ⟨i, rfl, _⟩ := h
    rfl
  · obtain ⟨v, rfl, hv, q⟩ := h
    refine ⟨_, (pss_one (ps_ret (pe_and (pe_callB call_isi (by rfl) T.n_isinstance (by decide +kernel) (pa_cons (pv 0) (pa_cons (pe_bltn (v := .ty "int") (by rfl) T.n_int (by decide +kernel) rfl) pa_nil))) (pe_one (pe_not (pe_callB call_isi (by rfl) T.n_isinstance (by decide +kernel) (pa_cons (pv 0) (pa_cons (pe_bltn (v := .ty "bool") (by rfl) T.n_bool (by decide +kernel) rfl) pa_nil)))))))), ?_⟩
    rcases Scal.ty (K := K) (H := H) hv with ⟨i, rfl⟩ | ⟨b, rfl⟩ | rfl | ⟨x, rfl⟩
    · refine ⟨_, rfl, _, _, _, _, true, rfl, ClsV.ty _, TyX.base (.int i), kit_ty (by decide +kernel), true, rfl, iteT ?_⟩
      exact ⟨_, rfl, _, _, _, _, false, rfl, ClsV.ty _, TyX.base (.int i), kit_ty (by decide +kernel), false, rfl, q⟩
    · refine ⟨_, rfl, _, _, _, _, true, rfl, ClsV.ty _, TyX.base (.bl b), kit_ty (by decide +kernel), true, rfl, iteT ?_⟩
      exact ⟨_, rfl, _, _, _, _, true, rfl, ClsV.ty _, TyX.base (.bl b), kit_ty (by decide +kernel), true, rfl, q⟩
    · exact ⟨_, rfl, _, _, _, _, false, rfl, ClsV.ty _, TyX.base .non, kit_ty (by decide +kernel), false, rfl, iteF q⟩
    · exact ⟨_, rfl, _, _, _, _, false, rfl, ClsV.ty _, TyX.base (.str x), kit_ty (by decide +kernel), false, rfl, iteF q⟩
def spIsEntry : Sp := fun vs H Q _ => ∃ (v : V) (b : Bool), vs = [v] ∧ ItB H v b ∧ Q (.bl b) H
theorem ok_isEntry (T : Txt K mg) : FnOk P w K mg base CX0 2 T.aIsEntry T.dIsEntry ["thing"] spIsEntry := by
  have GIsWhole : FnOk P w K mg base CX0 1 T.aIsWhole T.dIsWhole ["thing"] spIsWhole := ok_isWhole T
  refine T.fIsEntry.ok scIsEntry (fun vs H Q E h => ?_) (fun cdv A outer s H vs Q E hr h => ?_)
  · obtain ⟨i, b, rfl, _⟩ := h
    rfl
  · obtain ⟨v, b, rfl, hv, q⟩ := h
    refine ⟨_, (pss_one (ps_ret (pe_and (pe_callB call_isi (by rfl) T.n_isinstance (by decide +kernel) (pa_cons (pv 0) (pa_cons (pe_bltn (v := .ty "tuple") (by rfl) T.n_tuple (by decide +kernel) rfl) pa_nil))) (pe_and (pe_cmpR op_eq (pe_callB call_len_seq (by rfl) T.n_len PySem.boot_len (pa_cons (pv 0) pa_nil)) pe_int (nomark _)) (pe_and (pe_call GIsWhole (hr.mono (by decide)) (by rfl) T.gIsWhole T.fIsWhole.kp T.bIsWhole .nil pass0 (pa_cons (pe_ix (r := rIxT K) ix_tup (pv 0) pe_int (fun _ _ => rfl)) pa_nil)) (pe_one (pe_call GIsWhole (hr.mono (by decide)) (by rfl) T.gIsWhole T.fIsWhole.kp T.bIsWhole .nil pass0 (pa_cons (pe_ix (r := rIxT K) ix_tup (pv 0) pe_int (fun _ _ => rfl)) pa_nil)))))))), ?_⟩
    cases hv with
    | scal h =>
      rcases Scal.ty (K := K) (H := H) h with ⟨i, rfl⟩ | ⟨b, rfl⟩ | rfl | ⟨x, rfl⟩
      · exact ⟨_, rfl, _, _, _, _, false, rfl, ClsV.ty _, TyX.base (.int i), kit_ty (by decide +kernel), false, rfl, iteF q⟩
      · exact ⟨_, rfl, _, _, _, _, false, rfl, ClsV.ty _, TyX.base (.bl b), kit_ty (by decide +kernel), false, rfl, iteF q⟩
      · exact ⟨_, rfl, _, _, _, _, false, rfl, ClsV.ty _, TyX.base .non, kit_ty (by decide +kernel), false, rfl, iteF q⟩
      · exact ⟨_, rfl, _, _, _, _, false, rfl, ClsV.ty _, TyX.base (.str x), kit_ty (by decide +kernel), false, rfl, iteF q⟩
    | lst h => exact ⟨_, rfl, _, _, _, _, false, rfl, ClsV.ty _, TyX.base (.lst h), kit_ty (by decide +kernel), false, rfl, iteF q⟩
    | @tup a xs h hs =>
      refine ⟨_, rfl, _, _, _, _, true, rfl, ClsV.ty _, TyX.base (.tup h), kit_ty (by decide +kernel), true, rfl, iteT ?_⟩
      refine ⟨_, rfl, _, _, rfl, .inr (SqT.of h), rfl, _, rfl, ite2 (fun c => ?_) (fun c => ?_)⟩
      · have c' : (xs.length : Int) = 2 := V.int.inj (of_decide_eq_true c)
        match xs, c', h, hs, q with
        | [x, y], _, h, hs, q =>
          refine ⟨_, rfl, _, _, 0, x, rfl, rfl, SqT.of h, atI_nat (j := 0) rfl, x, rfl, hs x (by simp), _, rfl, ite2 (fun d => ?_) (fun d => ?_)⟩
          · refine ⟨_, rfl, _, _, 1, y, rfl, rfl, SqT.of h, atI_nat (j := 1) rfl, y, rfl, hs y (by simp), ?_⟩
            have : entB [x, y] = wholeB y := by
              show (wholeB x && wholeB y) = _
              rw [d, Bool.true_and]
            rw [← this]
            exact q
          · have : entB [x, y] = false := by
              show (wholeB x && wholeB y) = _
              rw [show wholeB x = false by simpa using d, Bool.false_and]
            rw [← this]
            exact q
      · have : entB xs = false := by
          unfold entB
          split
          · exact absurd (decide_eq_true (by rfl)) c
          · rfl
        rw [← this]
        exact q
end
end K15

namespace K15
open PySem PySem.Spec PyProof.Rows L2
/-- what are no rows -/
inductive BadRows (H : Hp) : V → Prop
  | scal {v : V} : Scal v → BadRows H v
  | tup {a : Addr} {xs : List V} : H a = some (.tup xs) → BadRows H (.ref a)
  | dct {a : Addr} {kvs : List (Key × V)} : H a = some (.dK kvs) → BadRows H (.ref a)
  | long {a : Addr} {xs : List V} : H a = some (.lst xs) → 5000 < xs.length → BadRows H (.ref a)
  | item {a : Addr} {xs : List V} {f : V → Bool} : H a = some (.lst xs) → xs.length ≤ 5000 → (∀ x ∈ xs, ItB H x (f x)) → (∃ x ∈ xs, f x = false) → BadRows H (.ref a)
theorem BadRows.same {H H' : Hp} {v : V} (s : Same H H') (h : BadRows H v) : BadRows H' v := by
  cases h with
  | scal h => exact .scal h
  | tup h => exact .tup (s _ _ h)
  | dct h => exact .dct (s _ _ h)
  | long h h2 => exact .long (s _ _ h) h2
  | item h h2 h3 h4 => exact .item (s _ _ h) h2 (fun x hx => (h3 x hx).same s) h4
section
variable {P : Program} {w : World} {K : PySem.W.Frag} {mg : Str → Option Value} {base : Heap}
def spCheckRows (CB : Addr) : Sp := fun vs H Q E => ∃ v : V, vs = [v] ∧ ((∃ (p : Addr) (es : List Ent), v = .ref p ∧ H p = some (.lst (vsOf es)) ∧ Ents H es ∧ es.length ≤ 5000 ∧ ∀ H', Same H H' → Q .non H') ∨ (BadRows H v ∧ ∀ d H', Same H H' → (∃ fs, H' d = some (.xd fs)) → E (.ref CB) (some d) H'))
theorem ok_checkRows (T : Txt K mg) (Y : ETxt P K mg) : FnOk P w K mg base (L2.CX P w) 3 T.aCheckRows T.dCheckRows ["rows"] (spCheckRows Y.CB) := by
  obtain ⟨tM, gM⟩ := T.gMOST
  have GIsEntry : FnOk P w K mg base CX0 2 T.aIsEntry T.dIsEntry ["thing"] spIsEntry := ok_isEntry T
  refine T.fCheckRows.okX scCheckRows (fun vs H Q E h => ?_) (fun cdv A outer s H vs Q E hr h => ?_)
  · obtain ⟨v, rfl, _⟩ := h
    rfl
  · obtain ⟨v, rfl, h⟩ := h
    refine ⟨_, (pss_one (ps_if (PW.pt (pw_or (pt_not (pt_val (pe_callB call_isi (by rfl) T.n_isinstance (by decide +kernel) (pa_cons (pv 0) (pa_cons (pe_bltn (v := .ty "list") (by rfl) T.n_list (by decide +kernel) rfl) pa_nil))))) (pw_or (pt_cmpR op_gt (pe_callB call_len_seq (by rfl) T.n_len PySem.boot_len (pa_cons (pv 0) pa_nil)) (pe_glob (v := .int 5000) (by rfl) gM ⟨_, rfl⟩) (nomark _)) (pw_or1 (pt_not (pt_val (pe_callB (cr_all rfl) (by rfl) T.n_all (by decide +kernel) (pa_cons (pe_lc (own := [("one", 1)]) (g := gName 1) rfl scCheckRows.nd (pi_list (pv 0)) (blkOk_by (own := [("one", 1)]) (N := ["rows", "one"]) (sc := defScope sCheckRows) (by decide +kernel)) (fun _ _ _ _ _ => (pg_name (i := 1) scCheckRows.nd rfl (.inl rfl))) (fun _ _ _ _ _ => pts_nil) (fun _ _ _ _ _ => (pe_call GIsEntry (hr.mono (by decide)) (by rfl) T.gIsEntry T.fIsEntry.kp T.bIsEntry .nil pass0 (pa_cons (pv 1) pa_nil)))) pa_nil))))))))
      (pss_one (ps_raise rfl (takes_of rfl rfl rfl rfl) (pmk_oex Y.sub.oex Y.iC Y.tI (Y.ini _ _) (hr.mono (by decide)) Y.bI .nil pass0 (by rfl) Y.gCB (pa_cons pe_str pa_nil))))
      pss_nil)), ?_⟩
    have bad : ∀ H1, Same H H1 → (∀ d H', Same H H' → (∃ fs, H' d = some (.xd fs)) → E (.ref Y.CB) (some d) H') → (1 ≤ 1000 ∧ ∀ a, H1 a = none → SupI.spInit K Y.CL "why" (.ref a :: ([.str "rows"] ++ [])) (upd H1 a (exo a Y.CB none)) (fun v H2 => v = .non ∧ ∃ (d : Addr) (fs : List (Str × V)), H2 a = some (exo a Y.CB (some d)) ∧ H2 d = some (exd d fs) ∧ H1 d = none ∧ E (.ref Y.CB) (some d) (upd (del H2 a) d (.xd fs))) (fun _ _ _ => False)) :=
      fun H1 s1 e => ⟨by decide, raise_rd Y.sub Y.why fun d nd => e d _ (s1.trans (same_new nd)) ⟨_, upd_same⟩⟩
    rcases h with ⟨p, es, rfl, hp, he, hl, q⟩ | ⟨hb, e⟩
    · refine ⟨_, rfl, _, _, _, _, true, rfl, ClsV.ty _, TyX.base (.lst hp), kit_ty (by decide +kernel), true, rfl, iteF ?_⟩
      refine ⟨_, rfl, p, _, rfl, .inl (SqL.of hp), _, _, rfl, rfl, _, rfl, ?_⟩
      rw [show decide ((5000 : Int) < ((vsOf es).length : Int)) = false from decide_eq_false (by rw [vs_len]; omega)]
      refine iteF ?_
      refine ⟨_, rfl, p, rfl, ⟨_, SqL.of hp⟩, fun D nD => ?_⟩
      refine lcLY (xs := vsOf es) (fun i acc H3 => Same H H3 ∧ acc = List.replicate i (V.bl true)) (by rw [vs_len]; omega) (fun x => rfl) (fun i acc H3 r => SqL.of (r.1 _ _ hp)) ⟨same_new nD, rfl⟩ ?_ ?_
      · intro i x acc H3 Z hx ⟨s3, e3⟩ hD hZ
        rw [List.getElem?_map] at hx
        obtain ⟨e, he1, rfl⟩ := Option.map_eq_some_iff.mp hx
        refine ⟨_, rfl, e.v, true, rfl, ItB.ent (s3 _ _ (he e (List.mem_of_getElem? he1))), hZ _ _ hD ⟨?_, ?_⟩⟩
        · exact kp_same s3 nD ((Kp.refl _ _).wr (List.mem_singleton.mpr rfl))
        · rw [e3, List.replicate_succ']
      · intro acc H3 ⟨s3, e3⟩ hD
        refine ⟨D, List.replicate es.length true, rfl, SqL.of ?_, true, ?_, iteF (q H3 s3)⟩
        · rw [hD, e3, vs_len, List.map_replicate]
        · have : (List.replicate es.length true).all id = true := by
            rw [List.all_eq_true]
            intro b hb
            rw [List.eq_of_mem_replicate hb]
            rfl
          rw [this]
    · cases hb with
      | scal h =>
        rcases Scal.ty (K := K) (H := H) h with ⟨i, rfl⟩ | ⟨b, rfl⟩ | rfl | ⟨x, rfl⟩
        · exact ⟨_, rfl, _, _, _, _, false, rfl, ClsV.ty _, TyX.base (.int i), kit_ty (by decide +kernel), false, rfl, iteT (iteT (bad H (Same.refl _) e))⟩
        · exact ⟨_, rfl, _, _, _, _, false, rfl, ClsV.ty _, TyX.base (.bl b), kit_ty (by decide +kernel), false, rfl, iteT (iteT (bad H (Same.refl _) e))⟩
        · exact ⟨_, rfl, _, _, _, _, false, rfl, ClsV.ty _, TyX.base .non, kit_ty (by decide +kernel), false, rfl, iteT (iteT (bad H (Same.refl _) e))⟩
        · exact ⟨_, rfl, _, _, _, _, false, rfl, ClsV.ty _, TyX.base (.str x), kit_ty (by decide +kernel), false, rfl, iteT (iteT (bad H (Same.refl _) e))⟩
      | tup h => exact ⟨_, rfl, _, _, _, _, false, rfl, ClsV.ty _, TyX.base (.tup h), kit_ty (by decide +kernel), false, rfl, iteT (iteT (bad H (Same.refl _) e))⟩
      | dct h => exact ⟨_, rfl, _, _, _, _, false, rfl, ClsV.ty _, TyX.base (.dK h), kit_ty (by decide +kernel), false, rfl, iteT (iteT (bad H (Same.refl _) e))⟩
      | @long a xs h hl =>
        refine ⟨_, rfl, _, _, _, _, true, rfl, ClsV.ty _, TyX.base (.lst h), kit_ty (by decide +kernel), true, rfl, iteF ?_⟩
        refine ⟨_, rfl, a, _, rfl, .inl (SqL.of h), _, _, rfl, rfl, _, rfl, ?_⟩
        rw [show decide ((5000 : Int) < (xs.length : Int)) = true from decide_eq_true (by omega)]
        exact iteT (iteT (bad H (Same.refl _) e))
      | @item a xs f h hl hf hx =>
        refine ⟨_, rfl, _, _, _, _, true, rfl, ClsV.ty _, TyX.base (.lst h), kit_ty (by decide +kernel), true, rfl, iteF ?_⟩
        refine ⟨_, rfl, a, _, rfl, .inl (SqL.of h), _, _, rfl, rfl, _, rfl, ?_⟩
        rw [show decide ((5000 : Int) < (xs.length : Int)) = false from decide_eq_false (by omega)]
        refine iteF ?_
        refine ⟨_, rfl, a, rfl, ⟨_, SqL.of h⟩, fun D nD => ?_⟩
        refine lcLY (xs := xs) (fun i acc H3 => Same H H3 ∧ acc = ((xs.take i).map f).map V.bl) (by omega) (fun x => rfl) (fun i acc H3 r => SqL.of (r.1 _ _ h)) ⟨same_new nD, rfl⟩ ?_ ?_
        · intro i x acc H3 Z hx ⟨s3, e3⟩ hD hZ
          refine ⟨_, rfl, x, f x, rfl, (hf x (List.mem_of_getElem? hx)).same s3, hZ _ _ hD ⟨?_, ?_⟩⟩
          · exact kp_same s3 nD ((Kp.refl _ _).wr (List.mem_singleton.mpr rfl))
          · rw [e3, List.take_add_one, hx, List.map_append, List.map_append]
            rfl
        · intro acc H3 ⟨s3, e3⟩ hD
          rw [List.take_length] at e3
          rw [e3] at hD
          refine ⟨D, _, rfl, SqL.of hD, _, rfl, ?_⟩
          have : (xs.map f).all id = false := by
            obtain ⟨x, hx, hfx⟩ := hx
            rw [List.all_eq_false]
            exact ⟨f x, List.mem_map.mpr ⟨x, hx, rfl⟩, by rw [hfx]; exact Bool.false_ne_true⟩
          rw [this]
          exact iteT (bad H3 s3 e)
end
end K15

namespace K15
open PySem PySem.Spec PyProof.Rows L2
/-- rows as the functions take them -/
structure Rows (H : Hp) (v : V) (p : Addr) (es : List Ent) : Prop where
  ev : v = .ref p
  hp : H p = some (.lst (vsOf es))
  he : Ents H es
  hl : es.length ≤ 5000
theorem Rows.same {H H' : Hp} {v : V} {p : Addr} {es : List Ent} (h : Rows H v p es) (s : Same H H') : Rows H' v p es := ⟨h.ev, s _ _ h.hp, h.he.same s, h.hl⟩
/-- a thing of which it is known whether it is a whole number -/
inductive WhB (H : Hp) : V → Bool → Prop
  | scal {v : V} : Scal v → WhB H v (wholeB v)
  | lst {a : Addr} {xs : List V} : H a = some (.lst xs) → WhB H (.ref a) false
  | tup {a : Addr} {xs : List V} : H a = some (.tup xs) → WhB H (.ref a) false
theorem WhB.same {H H' : Hp} {v : V} {b : Bool} (s : Same H H') (h : WhB H v b) : WhB H' v b := by
  cases h with
  | scal h => exact .scal h
  | lst h => exact .lst (s _ _ h)
  | tup h => exact .tup (s _ _ h)
theorem WhB.int {H : Hp} {i : Int} : WhB H (.int i) true := .scal (v := .int i) True.intro
theorem WhB.yes {H : Hp} {v : V} (h : WhB H v true) : ∃ i, v = .int i := by
  generalize hb : true = b at h
  cases h with
  | @scal v h =>
    cases v with
    | int i => exact ⟨i, rfl⟩
    | _ => cases hb
  | lst h => cases hb
  | tup h => cases hb
/-- a row of numbers, in a list or a tuple -/
def InRow (H : Hp) (a : Addr) (xs : List V) : Prop := H a = some (.lst xs) ∨ H a = some (.tup xs)
theorem InRow.same {H H' : Hp} {a : Addr} {xs : List V} (s : Same H H') (h : InRow H a xs) : InRow H' a xs := h.imp (s _ _) (s _ _)
inductive BadGone (H : Hp) : V → Prop
  | scal {v : V} : Scal v → BadGone H v
  | dct {a : Addr} {kvs : List (Key × V)} : H a = some (.dK kvs) → BadGone H (.ref a)
  | item {a : Addr} {xs : List V} {f : V → Bool} : InRow H a xs → xs.length ≤ 1000 → (∀ x ∈ xs, WhB H x (f x)) → (∃ x ∈ xs, f x = false) → BadGone H (.ref a)
inductive BadCount (H : Hp) : V → Prop
  | kind {v : V} : WhB H v false → BadCount H v
  | neg {i : Int} : i < 0 → BadCount H (.int i)
theorem lcTY {K : PySem.W.Frag} {a : Addr} {xs : List V} {j : Nat} {te : TE} {vs : List Nat} {σ : L2.St} {H1 : Hp} {D : Addr} {Qd : Hp → Prop} (R : Nat → List V → Hp → Prop) (hn : xs.length ≤ 100000)
    (hw : ∀ x, wipe ((wipe σ vs).set j (some x)) vs = wipe σ vs)
    (hx : ∀ i acc H, R i acc H → SqT K H a xs) (h0 : R 0 [] (upd H1 D (.lst [])))
    (hs : ∀ i x acc H (Y : V → Hp → Prop), xs[i]? = some x → R i acc H → H D = some (.lst acc) → (∀ y H4, H4 D = some (.lst acc) → R (i + 1) (acc ++ [y]) (upd H4 D (.lst (acc ++ [y]))) → Y y H4) → te ((wipe σ vs).set j (some x)) H Y)
    (hd : ∀ acc H, R xs.length acc H → H D = some (.lst acc) → Qd H) :
    ∃ W : Nat → Nat → Hp → Prop, (∃ m, W 0 m (upd H1 D (.lst []))) ∧ ∀ i m H, W i m H →
      ((Itt K a).stop i H ∧ Qd H) ∨ ((Itt K a).go i H ∧ ∃ Nx : Hp → Prop, (∀ H', Nx H' → ∃ m', m' < m ∧ W (i + 1) m' H') ∧ ∀ x H', (Itt K a).yld i H x H' → gName j x (wipe σ vs) H' fun σ2 H2 => wipe σ2 vs = wipe σ vs ∧ tYes σ2 H2 fun b H3 =>
        if b = true then te σ2 H3 fun y H4 => ∃ acc, H4 D = some (.lst acc) ∧ acc.length < sizeLine ∧ Nx (upd H4 D (.lst (acc ++ [y]))) else Nx H3) := by
  refine lc_tup (xs := xs) (fun i H => ∃ acc, acc.length ≤ i ∧ H D = some (.lst acc) ∧ R i acc H) ⟨[], Nat.le_refl _, upd_same, h0⟩ (fun i H _ ⟨acc, _, _, r⟩ => hx i acc H r) (fun i x H hi ⟨acc, ha, hD, r⟩ => ⟨hw x, ?_⟩) (fun H ⟨acc, _, hD, r⟩ => hd acc H r hD)
  have hi' : i < xs.length := (List.getElem?_eq_some_iff.mp hi).1
  unfold tYes
  dsimp only
  rw [if_pos rfl]
  exact hs i x acc H _ hi r hD (fun y H4 h4 r4 => ⟨acc, h4, Nat.lt_of_le_of_lt (show acc.length ≤ 100000 by omega) (by decide), acc ++ [y], by rw [List.length_append]; exact Nat.succ_le_succ ha, upd_same, r4⟩)
theorem vs_app1b {es : List Ent} {e : Ent} : vsOf es ++ [e.v] = vsOf (es ++ [e]) := by
  show _ = List.map Ent.v _
  rw [List.map_append]
  rfl
theorem lcFil {K : PySem.W.Frag} {a : Addr} {es : List Ent} {j : Nat} {tt : TT} {te : TE} {vs : List Nat} {σ : L2.St} {H1 : Hp} {D : Addr} {Qd : Hp → Prop} (f : Ent → Bool) (hn : es.length ≤ 5000)
    (hw : ∀ x, wipe ((wipe σ vs).set j (some x)) vs = wipe σ vs) (hp : H1 a = some (.lst (vsOf es))) (nD : H1 D = none) (he : Ents H1 es)
    (ht : ∀ e H (Z : Bool → Hp → Prop), e ∈ es → EntAt H e → Same H1 H → Z (f e) H → tt ((wipe σ vs).set j (some e.v)) H Z)
    (hs : ∀ (e : Ent) H (Y : V → Hp → Prop), Y e.v H → te ((wipe σ vs).set j (some e.v)) H Y)
    (hd : ∀ H, Same H1 H → H D = some (.lst (vsOf (es.filter f))) → Qd H) :
    ∃ W : Nat → Nat → Hp → Prop, (∃ m, W 0 m (upd H1 D (.lst []))) ∧ ∀ i m H, W i m H →
      ((Itl K a).stop i H ∧ Qd H) ∨ ((Itl K a).go i H ∧ ∃ Nx : Hp → Prop, (∀ H', Nx H' → ∃ m', m' < m ∧ W (i + 1) m' H') ∧ ∀ x H', (Itl K a).yld i H x H' → gName j x (wipe σ vs) H' fun σ2 H2 => wipe σ2 vs = wipe σ vs ∧ tt σ2 H2 fun b H3 =>
        if b = true then te σ2 H3 fun y H4 => ∃ acc, H4 D = some (.lst acc) ∧ acc.length < sizeLine ∧ Nx (upd H4 D (.lst (acc ++ [y]))) else Nx H3) := by
  refine lcL (xs := vsOf es) (fun i acc H3 => Same H1 H3 ∧ acc = vsOf ((es.take i).filter f)) (by rw [vs_len]; omega) hw (fun i acc H3 r => SqL.of (r.1 _ _ hp)) ⟨same_new nD, rfl⟩ ?_ ?_
  · intro i x acc H3 Y Z hx ⟨s3, e3⟩ hD hY hZ
    rw [List.getElem?_map] at hx
    obtain ⟨e, he1, rfl⟩ := Option.map_eq_some_iff.mp hx
    have hm := List.mem_of_getElem? he1
    refine ht e H3 _ hm (s3 _ _ (he e hm)) s3 ?_
    by_cases c : f e = true
    · rw [c]
      refine iteT (hs e H3 Y (hY _ _ hD ⟨kp_same s3 nD ((Kp.refl _ _).wr (List.mem_singleton.mpr rfl)), ?_⟩))
      rw [e3, List.take_add_one, he1, List.filter_append, vs_app1b]
      show _ = vsOf (_ ++ List.filter f [e])
      rw [List.filter_cons_of_pos c, List.filter_nil]
    · have c' : f e = false := by
        cases z : f e with
        | true => exact absurd z c
        | false => rfl
      rw [c']
      refine iteF (hZ _ hD ⟨s3, ?_⟩)
      rw [e3, List.take_add_one, he1, List.filter_append]
      show _ = vsOf (_ ++ List.filter f [e])
      rw [List.filter_cons_of_neg c]
      show _ = vsOf (_ ++ [])
      rw [List.append_nil]
  · intro acc H3 ⟨s3, e3⟩ hD
    rw [vs_len, List.take_length] at e3
    rw [e3] at hD
    exact hd H3 s3 hD
theorem kit2 {K : PySem.W.Frag} {t : Value} {c d : Value} {a b : Bool} (h1 : PySem.W.kitOne K t c = some a) (h2 : PySem.W.kitOne K t d = some b) : PySem.W.kitAny K t [c, d] = some (a || b) :=
  kitAny_cons h1 (fun ea => kitAny_cons h2 (fun eb => by rw [ea, eb] <;> rfl) (fun eb => by rw [ea, eb] <;> rfl)) (fun ea => by rw [ea] <;> rfl)
section
variable {P : Program} {w : World} {K : PySem.W.Frag} {mg : Str → Option Value} {base : Heap}
/-! ### is_whole, of more things -/
def spWhole2 : Sp := fun vs H Q _ => ∃ (v : V) (b : Bool), vs = [v] ∧ WhB H v b ∧ Q (.bl b) H
theorem ok_whole2 (T : Txt K mg) : FnOk P w K mg base CX0 1 T.aIsWhole T.dIsWhole ["thing"] spWhole2 := by
  refine T.fIsWhole.ok scIsWhole (fun vs H Q E h => ?_) (fun cdv A outer s H vs Q E hr h => ?_)
  · obtain ⟨i, b, rfl, _⟩ := h
    rfl
  · obtain ⟨v, b, rfl, hv, q⟩ := h
    refine ⟨_, (pss_one (ps_ret (pe_and (pe_callB call_isi (by rfl) T.n_isinstance (by decide +kernel) (pa_cons (pv 0) (pa_cons (pe_bltn (v := .ty "int") (by rfl) T.n_int (by decide +kernel) rfl) pa_nil))) (pe_one (pe_not (pe_callB call_isi (by rfl) T.n_isinstance (by decide +kernel) (pa_cons (pv 0) (pa_cons (pe_bltn (v := .ty "bool") (by rfl) T.n_bool (by decide +kernel) rfl) pa_nil)))))))), ?_⟩
    cases hv with
    | scal hv =>
      rcases Scal.ty (K := K) (H := H) hv with ⟨i, rfl⟩ | ⟨b, rfl⟩ | rfl | ⟨x, rfl⟩
      · refine ⟨_, rfl, _, _, _, _, true, rfl, ClsV.ty _, TyX.base (.int i), kit_ty (by decide +kernel), true, rfl, iteT ?_⟩
        exact ⟨_, rfl, _, _, _, _, false, rfl, ClsV.ty _, TyX.base (.int i), kit_ty (by decide +kernel), false, rfl, q⟩
      · refine ⟨_, rfl, _, _, _, _, true, rfl, ClsV.ty _, TyX.base (.bl b), kit_ty (by decide +kernel), true, rfl, iteT ?_⟩
        exact ⟨_, rfl, _, _, _, _, true, rfl, ClsV.ty _, TyX.base (.bl b), kit_ty (by decide +kernel), true, rfl, q⟩
      · exact ⟨_, rfl, _, _, _, _, false, rfl, ClsV.ty _, TyX.base .non, kit_ty (by decide +kernel), false, rfl, iteF q⟩
      · exact ⟨_, rfl, _, _, _, _, false, rfl, ClsV.ty _, TyX.base (.str x), kit_ty (by decide +kernel), false, rfl, iteF q⟩
    | lst h => exact ⟨_, rfl, _, _, _, _, false, rfl, ClsV.ty _, TyX.base (.lst h), kit_ty (by decide +kernel), false, rfl, iteF q⟩
    | tup h => exact ⟨_, rfl, _, _, _, _, false, rfl, ClsV.ty _, TyX.base (.tup h), kit_ty (by decide +kernel), false, rfl, iteF q⟩
/-! ### ripe -/
def Bad (CB : Addr) (H : Hp) (E : XK) : Prop := ∀ d H', Same H H' → (∃ fs, H' d = some (.xd fs)) → E (.ref CB) (some d) H'
def spRipe (CB : Addr) : Sp := fun vs H Q E => ∃ v u : V, vs = [v, u] ∧
  ((∃ (p : Addr) (es : List Ent) (now : Int), Rows H v p es ∧ u = .int now ∧ ∀ H' u o l, Same H H' → H o = none → H l = none → H u = none → H' u = some (.tup [.ref o, .ref l]) → H' o = some (.lst (vsOf (Hm.ripe Ent.t now es.length es).1)) → H' l = some (.lst (vsOf (Hm.ripe Ent.t now es.length es).2)) → Q (.ref u) H') ∨
   (BadRows H v ∧ Bad CB H E) ∨ (∃ (p : Addr) (es : List Ent), Rows H v p es ∧ WhB H u false ∧ Bad CB H E))
theorem ok_ripe (T : Txt K mg) (Y : ETxt P K mg) : FnOk P w K mg base (L2.CX P w) 5 T.aRipe T.dRipe ["rows", "now"] (spRipe Y.CB) := by
  have GCheckRows : FnOk P w K mg base (L2.CX P w) 3 T.aCheckRows T.dCheckRows ["rows"] (spCheckRows Y.CB) := ok_checkRows T Y
  have GIsWhole : FnOk P w K mg base CX0 1 T.aIsWhole T.dIsWhole ["thing"] spWhole2 := ok_whole2 T
  have GPopBy : FnOk P w K mg base CX0 4 T.aPopBy T.dPopBy ["heap", "less"] (spPopBy T.aIsSooner) := ok_popBy T
  refine T.fRipe.okX scRipe (fun vs H Q E h => ?_) (fun cdv A outer s H vs Q E hr h => ?_)
  · obtain ⟨v, u, rfl, _⟩ := h
    rfl
  · obtain ⟨v, u, rfl, h⟩ := h
    refine ⟨_, (pss_cons (ps_expr (pe_call GCheckRows (hr.mono (by decide)) (by rfl) T.gCheckRows T.fCheckRows.kp T.bCheckRows .nil (passes_call (takes_of rfl rfl rfl rfl) (fun _ _ _ _ h => h)) (pa_cons (pv 0) pa_nil)))
      (pss_cons (ps_if (pt_not (pt_val (pe_call GIsWhole (hr.mono (by decide)) (by rfl) T.gIsWhole T.fIsWhole.kp T.bIsWhole .nil pass0 (pa_cons (pv 1) pa_nil))))
      (pss_one (ps_raise rfl (takes_of rfl rfl rfl rfl) (pmk_oex Y.sub.oex Y.iC Y.tI (Y.ini _ _) (hr.mono (by decide)) Y.bI .nil pass0 (by rfl) Y.gCB (pa_cons pe_str pa_nil))))
      pss_nil)
      (pss_cons (ps_par (by rfl) scRipe.nd (i := 2) (j := 3) rfl rfl (by decide) rfl rfl (pa_cons (pe_lst pa_nil) (pa_cons (pe_callTy call_list_of (by rfl) T.n_list (by decide +kernel) (pa_cons (pv 0) pa_nil)) pa_nil)) (by rfl))
      (pss_cons (ps_while (passes_of rfl) (PW.pt (pw_and (pt_cmpR (r := rNeD K) (op_neD hr.units) (pv 3) (pe_lst pa_nil) (nomark _)) (pw_and1 (pt_cmpR op_le (pe_ix (r := rIxT K) ix_tup (pe_ix (r := rIxL K) ix_list (pv 3) pe_int (fun _ _ => rfl)) pe_int (fun _ _ => rfl)) (pv 1) (nomark _)))))
      (pss_one (ps_expr (pe_bm PySem.F.plainAttrs_list PySem.F.slot_list_append PySem.F.type_list_append mt_append (pv 2) (pa_cons (pe_call GPopBy (hr.mono (by decide)) (by rfl) T.gPopBy T.fPopBy.kp T.bPopBy .nil pass0 (pa_cons (pv 3) (pa_cons (pe_glob (v := .ref T.aIsSooner) (by rfl) T.gIsSooner rfl) pa_nil))) pa_nil)))))
      (pss_one (ps_ret (pe_tup (pa_cons (pv 2) (pa_cons (pv 3) pa_nil))))))))), ?_⟩
    rcases h with ⟨p, es, now, ⟨rfl, hp, he, hl⟩, rfl, q⟩ | ⟨hb, e⟩ | ⟨p, es, ⟨rfl, hp, he, hl⟩, hu, e⟩
    rotate_left
    · exact ⟨_, rfl, v, rfl, .inr ⟨hb, e⟩⟩
    · refine ⟨_, rfl, _, rfl, .inl ⟨p, es, rfl, hp, he, hl, fun H1 s1 => ?_⟩⟩
      refine ⟨_, rfl, u, false, rfl, hu.same s1, false, rfl, iteT ?_⟩
      exact ⟨by decide, raise_rd Y.sub Y.why fun d nd => e d _ (s1.trans (same_new nd)) ⟨_, upd_same⟩⟩
    refine ⟨_, rfl, _, rfl, .inl ⟨p, es, rfl, hp, he, hl, fun H1 s1 => ?_⟩⟩
    have hp1 := s1 _ _ hp
    have he1 := he.same s1
    refine ⟨_, rfl, .int now, true, rfl, .int, true, rfl, iteF ?_⟩
    -- out, left = ([], list(rows))
    refine ⟨Nat.zero_le _, fun o no => ?_⟩
    have s2 := same_new (o := .lst []) no
    refine ⟨_, rfl, p, _, rfl, .inl (SqL.of (s2 _ _ hp1)), fun l nl => ?_⟩
    have s3 := same_new (o := .lst (vsOf es)) nl
    have s123 := s1.trans (s2.trans s3)
    have nol : o ≠ l := ne_of_none (H := upd H1 o (.lst [])) upd_same nl
    have no0 : H o = none := s1.free no
    have nl0 : H l = none := (s1.trans s2).free nl
    refine ⟨_, _, rfl, ?_⟩
    refine ⟨fun m σ H3 => ∃ (os ls : List Ent), σ = [some (.ref p), some (.int now), some (.ref o), some (.ref l)] ∧ m = ls.length ∧ os.length + ls.length = es.length ∧ Same H H3 ∧ H3 o = some (.lst (vsOf os)) ∧ H3 l = some (.lst (vsOf ls)) ∧ Ents H3 os ∧ Ents H3 ls ∧
        os ++ (Hm.ripe Ent.t now ls.length ls).1 = (Hm.ripe Ent.t now es.length es).1 ∧ (Hm.ripe Ent.t now ls.length ls).2 = (Hm.ripe Ent.t now es.length es).2,
      ⟨_, [], es, rfl, rfl, Nat.zero_add _, s123, s3 _ _ upd_same, upd_same, (fun e z => nomatch z), (he1.same s2).same s3, rfl, rfl⟩, fun m σ H3 hW => ?_⟩
    obtain ⟨os, ls, rfl, rfl, hol, sm, ho3, hl3, heo, hel, r1, r2⟩ := hW
    -- left != []
    refine ⟨_, rfl, Nat.zero_le _, fun U nU => ?_⟩
    have s4 := same_new (o := .lst []) nU
    have ho4 := s4 _ _ ho3
    have hl4 := s4 _ _ hl3
    have heo4 := heo.same s4
    have hel4 := hel.same s4
    refine ⟨rowsD ls, .list [], dp_rows (SqL.of hl4) hel4, dp_emp (SqL.of upd_same), shaped_rows _, rfl, _, rfl, ?_⟩
    rw [eqv_rows0]
    have done : ∀ H5, Same H H5 → H5 o = some (.lst (vsOf (Hm.ripe Ent.t now es.length es).1)) → H5 l = some (.lst (vsOf (Hm.ripe Ent.t now es.length es).2)) →
        ∃ v : V, [some (V.ref p), some (V.int now), some (V.ref o), some (V.ref l)][2]? = some (some v) ∧ ∃ v' : V, [some (V.ref p), some (V.int now), some (V.ref o), some (V.ref l)][3]? = some (some v') ∧ [v, v'].length ≤ sizeLine ∧ ∀ u, H5 u = none → Q (.ref u) (upd H5 u (.tup [v, v'])) := by
      intro H5 s5 a5 b5
      refine ⟨_, rfl, _, rfl, (by show 2 ≤ sizeLine; decide), fun u nu => ?_⟩
      have s6 := same_new (o := .tup [.ref o, .ref l]) nu
      exact q _ u o l (s5.trans s6) no0 nl0 (s5.free nu) upd_same (s6 _ _ a5) (s6 _ _ b5)
    cases ls with
    | nil =>
      refine iteF ?_
      rw [Hm.ripe_nil] at r1 r2
      refine done _ (sm.trans s4) ?_ ?_
      · rw [← r1, List.append_nil]
        exact ho4
      · rw [← r2]
        exact hl4
    | cons x r =>
      refine iteT ?_
      have hx := hel4 x List.mem_cons_self
      refine ⟨_, rfl, l, _, 0, x.v, rfl, rfl, SqL.of hl4, atI_nat (j := 0) rfl, _, _, 0, .int x.t, rfl, rfl, SqT.of hx, atI_nat (j := 0) rfl, _, rfl, _, _, rfl, rfl, _, rfl, ite2 (fun c => ?_) (fun c => ?_)⟩
      · have c' : x.t ≤ now := of_decide_eq_true c
        rw [Hm.ripe_yes c'] at r1 r2
        refine ⟨fun σ' H' => ∃ (os ls : List Ent), σ' = [some (.ref p), some (.int now), some (.ref o), some (.ref l)] ∧ ls.length < (x :: r).length ∧ os.length + ls.length = es.length ∧ Same H H' ∧ H' o = some (.lst (vsOf os)) ∧ H' l = some (.lst (vsOf ls)) ∧ Ents H' os ∧ Ents H' ls ∧
          os ++ (Hm.ripe Ent.t now ls.length ls).1 = (Hm.ripe Ent.t now es.length es).1 ∧ (Hm.ripe Ent.t now ls.length ls).2 = (Hm.ripe Ent.t now es.length es).2, fun σ' H' hN => ?_, ?_⟩
        · obtain ⟨os', ls', e1, l1, rest⟩ := hN
          exact ⟨ls'.length, l1, os', ls', e1, rfl, rest⟩
        · refine ⟨_, rfl, .inl ⟨rfl, _, SqL.of ho4⟩, _, rfl, l, x :: r, x, rfl, hl4, hel4, rfl, fun H5 k5 h5 => ?_⟩
          have ho5 : H5 o = some (.lst (vsOf os)) := k5 _ _ (fun z => nol (List.mem_singleton.mp z)) ho4
          have lp := Hm.pop_len Ent.t (l := x :: r) (List.cons_ne_nil _ _)
          refine ⟨o, _, _, rfl, rfl, ho5, ?_, ?_⟩
          · rw [vs_len]
            exact Nat.lt_of_le_of_lt (show os.length ≤ 5000 by omega) (by decide)
          have ev : vsOf os ++ [x.v] = vsOf (os ++ [x]) := by
            show _ = List.map Ent.v _
            rw [List.map_append]
            rfl
          have s5 : Same H H5 := kp_same (sm.trans s4) nl0 k5
          have k6 : Kp [o] H5 (upd H5 o (.lst (vsOf os ++ [x.v]))) := (Kp.refl _ _).wr (List.mem_singleton.mpr rfl)
          have hel5 : Ents H5 (x :: r) := hel4.kp k5 hl4
          have heo5 : Ents H5 os := heo4.kp k5 hl4
          refine ⟨os ++ [x], Hm.popL Ent.t (x :: r), rfl, by omega, by rw [List.length_append]; show os.length + 1 + _ = _; rw [← hol, ← lp]; omega, kp_same s5 no0 k6, by rw [upd_same, ev], ?_, ?_, ?_, ?_, r2⟩
          · rw [upd_ne (Ne.symm nol)]
            exact h5
          · refine Ents.kp (H := H5) (fun y hy => ?_) k6 ho5
            rcases List.mem_append.mp hy with hy | hy
            · exact heo5 y hy
            · rw [List.mem_singleton.mp hy]
              exact hel5 x List.mem_cons_self
          · refine Ents.kp (H := H5) (fun y hy => ?_) k6 ho5
            exact hel5 y ((Hm.pop_perm Ent.t (l := x :: r) rfl).mem_iff.mp (List.mem_cons_of_mem _ hy))
          · rw [← r1, List.append_assoc]
            rfl
      · have c' : ¬ x.t ≤ now := fun z => c (decide_eq_true z)
        rw [Hm.ripe_no c'] at r1 r2
        refine done _ (sm.trans s4) ?_ ?_
        · rw [← r1, List.append_nil]
          exact ho4
        · rw [← r2]
          exact hl4
/-! ### swept -/
def spSwept (CB : Addr) : Sp := fun vs H Q E => ∃ v g c : V, vs = [v, g, c] ∧
  ((BadRows H v ∧ Bad CB H E) ∨ ∃ (p : Addr) (es : List Ent), Rows H v p es ∧
    ((BadGone H g ∧ Bad CB H E) ∨ ∃ (lg : Addr) (ns : List Int), g = .ref lg ∧ InRow H lg (ns.map V.int) ∧ ns.length ≤ 1000 ∧
      ((BadCount H c ∧ Bad CB H E) ∨ ∃ k : Int, c = .int k ∧ 0 ≤ k ∧ ∀ H' u l, Same H H' → H l = none → H u = none → H' u = some (.tup [.ref l, .int (Hm.swept Ent.t (fun x => decide (x.k ∈ ns)) es k).2]) →
        H' l = some (.lst (vsOf (Hm.swept Ent.t (fun x => decide (x.k ∈ ns)) es k).1)) → Q (.ref u) H')))
theorem ok_swept (T : Txt K mg) (Y : ETxt P K mg) : FnOk P w K mg base (L2.CX P w) 5 T.aSwept T.dSwept ["rows", "gone", "count"] (spSwept Y.CB) := by
  obtain ⟨tT, gT⟩ := T.gTIM
  have GCheckRows : FnOk P w K mg base (L2.CX P w) 3 T.aCheckRows T.dCheckRows ["rows"] (spCheckRows Y.CB) := ok_checkRows T Y
  have GIsWhole : FnOk P w K mg base CX0 1 T.aIsWhole T.dIsWhole ["thing"] spWhole2 := ok_whole2 T
  have GPopBy : FnOk P w K mg base CX0 4 T.aPopBy T.dPopBy ["heap", "less"] (spPopBy T.aIsSooner) := ok_popBy T
  have GHeapifyBy : FnOk P w K mg base CX0 4 T.aHeapifyBy T.dHeapifyBy ["heap", "less"] (spHeapifyBy T.aIsSooner) := ok_heapifyBy T
  refine T.fSwept.okX scSwept (fun vs H Q E h => ?_) (fun cdv A outer s H vs Q E hr h => ?_)
  · obtain ⟨v, g, c, rfl, _⟩ := h
    rfl
  · obtain ⟨v, g, c, rfl, h⟩ := h
    refine ⟨_, (pss_cons (ps_expr (pe_call GCheckRows (hr.mono (by decide)) (by rfl) T.gCheckRows T.fCheckRows.kp T.bCheckRows .nil (passes_call (takes_of rfl rfl rfl rfl) (fun _ _ _ _ h => h)) (pa_cons (pv 0) pa_nil)))
      (Evl.pss_cut (ps_if (PW.pt (pw_or (pt_not (pt_val (pe_callB call_isiT (by rfl) T.n_isinstance (by decide +kernel) (pa_cons (pv 1) (pa_cons (pe_tup (pa_cons (pe_bltn (v := .ty "tuple") (by rfl) T.n_tuple (by decide +kernel) rfl) (pa_cons (pe_bltn (v := .ty "list") (by rfl) T.n_list (by decide +kernel) rfl) pa_nil))) pa_nil))))) (pw_or1 (pt_not (pt_val (pe_callB (cr_all rfl) (by rfl) T.n_all (by decide +kernel) (pa_cons (pe_lc (own := [("number", 6)]) (g := gName 6) rfl scSwept.nd (pi_seq (pv 1)) (blkOk_by (own := [("number", 6)]) (N := ["rows", "gone", "count", "left", "lost", "entry", "number"]) (sc := defScope sSwept) (by decide +kernel)) (fun _ _ _ _ _ => (pg_name (i := 6) scSwept.nd rfl (.inl rfl))) (fun _ _ _ _ _ => pts_nil) (fun _ _ _ _ _ => (pe_call GIsWhole (hr.mono (by decide)) (by rfl) T.gIsWhole T.fIsWhole.kp T.bIsWhole .nil pass0 (pa_cons (pv 6) pa_nil)))) pa_nil)))))))
      (pss_one (ps_raise rfl (takes_of rfl rfl rfl rfl) (pmk_oex Y.sub.oex Y.iC Y.tI (Y.ini _ _) (hr.mono (by decide)) Y.bI .nil pass0 (by rfl) Y.gCB (pa_cons pe_str pa_nil))))
      pss_nil)
      (Evl.pss_cut (ps_if (PW.pt (pw_or (pt_not (pt_val (pe_call GIsWhole (hr.mono (by decide)) (by rfl) T.gIsWhole T.fIsWhole.kp T.bIsWhole .nil pass0 (pa_cons (pv 2) pa_nil)))) (pw_or1 (pt_cmpR op_lt (pv 2) pe_int (nomark _)))))
      (pss_one (ps_raise rfl (takes_of rfl rfl rfl rfl) (pmk_oex Y.sub.oex Y.iC Y.tI (Y.ini _ _) (hr.mono (by decide)) Y.bI .nil pass0 (by rfl) Y.gCB (pa_cons pe_str pa_nil))))
      pss_nil)
      (pss_cons (ps_set (i := 3) scSwept.nd rfl (.inl rfl) (pe_callTy call_list_of (by rfl) T.n_list (by decide +kernel) (pa_cons (pv 0) pa_nil)))
      (pss_cons (ps_set (i := 4) scSwept.nd rfl (.inr rfl) (pe_callTy (cr_setI rfl) (by rfl) T.n_set (by decide +kernel) (pa_cons (pv 1) pa_nil)))
      (Evl.pss_cut (ps_if (PW.pt (pw_and (pt_cmpR op_gt (pe_callB call_len_seq (by rfl) T.n_len PySem.boot_len (pa_cons (pv 3) pa_nil)) (pe_glob (v := .int 100) (by rfl) gT ⟨_, rfl⟩) (nomark _)) (pw_and1 (pt_cmpR op_gt (pe_op op_mul pe_int (pv 2)) (pe_callB call_len_seq (by rfl) T.n_len PySem.boot_len (pa_cons (pv 3) pa_nil)) (nomark _)))))
      (pss_cons (ps_setLc (i := 3) (own := [("entry", 5)]) (g := gName 5) rfl scSwept.nd rfl rfl (sw_true rfl rfl rfl (by decide +kernel)) (pi_list (pv 3)) (blkOk_by (own := [("entry", 5)]) (N := ["rows", "gone", "count", "left", "lost", "entry", "number"]) (sc := defScope sSwept) (by decide +kernel)) (fun _ _ _ _ _ => (pg_name (i := 5) scSwept.nd rfl (.inl rfl))) (fun _ _ _ _ _ => (pts_one (pt_cmpR op_notInSet (pe_ix (r := rIxT K) ix_tup (pv 5) pe_int (fun _ _ => rfl)) (pv 4) (by rfl)))) (fun _ _ _ _ _ => (pv 5)))
        (pss_cons (ps_expr (pe_call GHeapifyBy (hr.mono (by decide)) (by rfl) T.gHeapifyBy T.fHeapifyBy.kp T.bHeapifyBy .nil pass0 (pa_cons (pv 3) (pa_cons (pe_glob (v := .ref T.aIsSooner) (by rfl) T.gIsSooner rfl) pa_nil))))
        (pss_one (ps_ret (pe_tup (pa_cons (pv 3) (pa_cons pe_int pa_nil)))))))
      pss_nil)
      (pss_cons (ps_while (passes_of rfl) (PW.pt (pw_and (pt_cmpR (r := rNeD K) (op_neD hr.units) (pv 3) (pe_lst pa_nil) (nomark _)) (pw_and1 (pt_cmpR op_inSet (pe_ix (r := rIxT K) ix_tup (pe_ix (r := rIxL K) ix_list (pv 3) pe_int (fun _ _ => rfl)) pe_int (fun _ _ => rfl)) (pv 4) (by rfl)))))
      (pss_cons (ps_expr (pe_call GPopBy (hr.mono (by decide)) (by rfl) T.gPopBy T.fPopBy.kp T.bPopBy .nil pass0 (pa_cons (pv 3) (pa_cons (pe_glob (v := .ref T.aIsSooner) (by rfl) T.gIsSooner rfl) pa_nil))))
        (pss_one (ps_aug (i := 2) scSwept.nd rfl (.inl rfl) pe_int ip_sub))))
      (pss_one (ps_ret (pe_tup (pa_cons (pv 3) (pa_cons (pv 2) pa_nil)))))))))))), ?_⟩
    rcases h with ⟨hb, e⟩ | ⟨p, es, ⟨rfl, hp, he, hl⟩, h⟩
    · exact ⟨_, rfl, v, rfl, .inr ⟨hb, e⟩⟩
    refine ⟨_, rfl, _, rfl, .inl ⟨p, es, rfl, hp, he, hl, fun H1 s1 => ?_⟩⟩
    have he1 := he.same s1
    rcases h with ⟨hg, e⟩ | ⟨lg, ns, rfl, hrow, hn, h⟩
    · refine ⟨fun _ _ => False, ?_, fun _ _ z => z.elim⟩
      cases hg with
      | scal hg =>
        rcases Scal.ty (K := K) (H := H) hg with ⟨i, rfl⟩ | ⟨b, rfl⟩ | rfl | ⟨x, rfl⟩
        · refine ⟨_, rfl, (by show 2 ≤ sizeLine; decide), fun tp ntp => ?_⟩
          have s2 := same_new (o := .tup [V.ty "tuple", V.ty "list"]) ntp
          have s12 := s1.trans s2
          exact ⟨_, tp, _, _, [.type "tuple", .type "list"], false, rfl, upd_same, .cons (ClsV.ty _) (.cons (ClsV.ty _) .nil), TyX.base (.int i), kit2 (a := false) (b := false) (kit_ty (by decide +kernel)) (kit_ty (by decide +kernel)), false, rfl, iteT (iteT ⟨by decide, raise_rd Y.sub Y.why fun d nd => e d _ (s12.trans (same_new nd)) ⟨_, upd_same⟩⟩)⟩
        · refine ⟨_, rfl, (by show 2 ≤ sizeLine; decide), fun tp ntp => ?_⟩
          have s2 := same_new (o := .tup [V.ty "tuple", V.ty "list"]) ntp
          have s12 := s1.trans s2
          exact ⟨_, tp, _, _, [.type "tuple", .type "list"], false, rfl, upd_same, .cons (ClsV.ty _) (.cons (ClsV.ty _) .nil), TyX.base (.bl b), kit2 (a := false) (b := false) (kit_ty (by decide +kernel)) (kit_ty (by decide +kernel)), false, rfl, iteT (iteT ⟨by decide, raise_rd Y.sub Y.why fun d nd => e d _ (s12.trans (same_new nd)) ⟨_, upd_same⟩⟩)⟩
        · refine ⟨_, rfl, (by show 2 ≤ sizeLine; decide), fun tp ntp => ?_⟩
          have s2 := same_new (o := .tup [V.ty "tuple", V.ty "list"]) ntp
          have s12 := s1.trans s2
          exact ⟨_, tp, _, _, [.type "tuple", .type "list"], false, rfl, upd_same, .cons (ClsV.ty _) (.cons (ClsV.ty _) .nil), TyX.base .non, kit2 (a := false) (b := false) (kit_ty (by decide +kernel)) (kit_ty (by decide +kernel)), false, rfl, iteT (iteT ⟨by decide, raise_rd Y.sub Y.why fun d nd => e d _ (s12.trans (same_new nd)) ⟨_, upd_same⟩⟩)⟩
        · refine ⟨_, rfl, (by show 2 ≤ sizeLine; decide), fun tp ntp => ?_⟩
          have s2 := same_new (o := .tup [V.ty "tuple", V.ty "list"]) ntp
          have s12 := s1.trans s2
          exact ⟨_, tp, _, _, [.type "tuple", .type "list"], false, rfl, upd_same, .cons (ClsV.ty _) (.cons (ClsV.ty _) .nil), TyX.base (.str x), kit2 (a := false) (b := false) (kit_ty (by decide +kernel)) (kit_ty (by decide +kernel)), false, rfl, iteT (iteT ⟨by decide, raise_rd Y.sub Y.why fun d nd => e d _ (s12.trans (same_new nd)) ⟨_, upd_same⟩⟩)⟩
      | dct h =>
        refine ⟨_, rfl, (by show 2 ≤ sizeLine; decide), fun tp ntp => ?_⟩
        have s2 := same_new (o := .tup [V.ty "tuple", V.ty "list"]) ntp
        have s12 := s1.trans s2
        exact ⟨_, tp, _, _, [.type "tuple", .type "list"], false, rfl, upd_same, .cons (ClsV.ty _) (.cons (ClsV.ty _) .nil), TyX.base (.dK (s12 _ _ h)), kit2 (a := false) (b := false) (kit_ty (by decide +kernel)) (kit_ty (by decide +kernel)), false, rfl, iteT (iteT ⟨by decide, raise_rd Y.sub Y.why fun d nd => e d _ (s12.trans (same_new nd)) ⟨_, upd_same⟩⟩)⟩
      | @item a xs f hr0 hl1 hf hx =>
        rcases hr0 with h | h
        · refine ⟨_, rfl, (by show 2 ≤ sizeLine; decide), fun tp ntp => ?_⟩
          have s2 := same_new (o := .tup [V.ty "tuple", V.ty "list"]) ntp
          have s12 := s1.trans s2
          refine ⟨_, tp, _, _, [.type "tuple", .type "list"], true, rfl, upd_same, .cons (ClsV.ty _) (.cons (ClsV.ty _) .nil), TyX.base (.lst (s12 _ _ h)), kit2 (a := false) (b := true) (kit_ty (by decide +kernel)) (kit_ty (by decide +kernel)), true, rfl, iteF ?_⟩
          refine ⟨_, rfl, a, rfl, .inl ⟨⟨_, SqL.of (s12 _ _ h)⟩, fun D nD => ?_⟩⟩
          refine lcLY (xs := xs) (fun i acc H3 => Same H H3 ∧ acc = ((xs.take i).map f).map V.bl) (by omega) (fun x => rfl) (fun i acc H3 r => SqL.of (r.1 _ _ h)) ⟨s12.trans (same_new nD), rfl⟩ ?_ ?_
          · intro i x acc H3 Z hx ⟨s3, e3⟩ hD hZ
            refine ⟨_, rfl, x, f x, rfl, (hf x (List.mem_of_getElem? hx)).same s3, hZ _ _ hD ⟨?_, ?_⟩⟩
            · exact kp_same s3 (s12.free nD) ((Kp.refl _ _).wr (List.mem_singleton.mpr rfl))
            · rw [e3, List.take_add_one, hx, List.map_append, List.map_append]
              rfl
          · intro acc H3 ⟨s3, e3⟩ hD
            rw [List.take_length] at e3
            rw [e3] at hD
            refine ⟨D, _, rfl, SqL.of hD, _, rfl, ?_⟩
            have : (xs.map f).all id = false := by
              obtain ⟨x, hx, hfx⟩ := hx
              rw [List.all_eq_false]
              exact ⟨f x, List.mem_map.mpr ⟨x, hx, rfl⟩, by rw [hfx]; exact Bool.false_ne_true⟩
            rw [this]
            exact iteT ⟨by decide, raise_rd Y.sub Y.why fun d nd => e d _ (s3.trans (same_new nd)) ⟨_, upd_same⟩⟩
        · refine ⟨_, rfl, (by show 2 ≤ sizeLine; decide), fun tp ntp => ?_⟩
          have s2 := same_new (o := .tup [V.ty "tuple", V.ty "list"]) ntp
          have s12 := s1.trans s2
          refine ⟨_, tp, _, _, [.type "tuple", .type "list"], true, rfl, upd_same, .cons (ClsV.ty _) (.cons (ClsV.ty _) .nil), TyX.base (.tup (s12 _ _ h)), kit2 (a := true) (b := false) (kit_ty (by decide +kernel)) (kit_ty (by decide +kernel)), true, rfl, iteF ?_⟩
          refine ⟨_, rfl, a, rfl, .inr ⟨⟨_, SqT.of (s12 _ _ h)⟩, fun D nD => ?_⟩⟩
          refine lcTY (xs := xs) (fun i acc H3 => Same H H3 ∧ acc = ((xs.take i).map f).map V.bl) (by omega) (fun x => rfl) (fun i acc H3 r => SqT.of (r.1 _ _ h)) ⟨s12.trans (same_new nD), rfl⟩ ?_ ?_
          · intro i x acc H3 Z hx ⟨s3, e3⟩ hD hZ
            refine ⟨_, rfl, x, f x, rfl, (hf x (List.mem_of_getElem? hx)).same s3, hZ _ _ hD ⟨?_, ?_⟩⟩
            · exact kp_same s3 (s12.free nD) ((Kp.refl _ _).wr (List.mem_singleton.mpr rfl))
            · rw [e3, List.take_add_one, hx, List.map_append, List.map_append]
              rfl
          · intro acc H3 ⟨s3, e3⟩ hD
            rw [List.take_length] at e3
            rw [e3] at hD
            refine ⟨D, _, rfl, SqL.of hD, _, rfl, ?_⟩
            have : (xs.map f).all id = false := by
              obtain ⟨x, hx, hfx⟩ := hx
              rw [List.all_eq_false]
              exact ⟨f x, List.mem_map.mpr ⟨x, hx, rfl⟩, by rw [hfx]; exact Bool.false_ne_true⟩
            rw [this]
            exact iteT ⟨by decide, raise_rd Y.sub Y.why fun d nd => e d _ (s3.trans (same_new nd)) ⟨_, upd_same⟩⟩
    refine ⟨fun σ H' => σ = [some (V.ref p), some (V.ref lg), some c, none, none, none, none] ∧ Same H H', ?_, ?_⟩
    · have hf : ∀ x ∈ ns.map V.int, WhB H x ((fun _ => true) x) := fun x hx => by
        obtain ⟨n, _, rfl⟩ := List.mem_map.mp hx
        exact .int
      have hall : ((ns.map V.int).map fun _ => true).all id = true := by
        rw [List.all_eq_true]
        intro b hb
        obtain ⟨_, _, rfl⟩ := List.mem_map.mp hb
        rfl
      have hl1 : (ns.map V.int).length ≤ 1000 := by
        rw [List.length_map]
        exact hn
      generalize ns.map V.int = xs at hrow hf hall hl1
      generalize hff : (fun _ : V => true) = f at hf hall
      generalize lg = a at hrow ⊢
      rcases hrow with h | h
      · refine ⟨_, rfl, (by show 2 ≤ sizeLine; decide), fun tp ntp => ?_⟩
        have s2 := same_new (o := .tup [V.ty "tuple", V.ty "list"]) ntp
        have s12 := s1.trans s2
        refine ⟨_, tp, _, _, [.type "tuple", .type "list"], true, rfl, upd_same, .cons (ClsV.ty _) (.cons (ClsV.ty _) .nil), TyX.base (.lst (s12 _ _ h)), kit2 (a := false) (b := true) (kit_ty (by decide +kernel)) (kit_ty (by decide +kernel)), true, rfl, iteF ?_⟩
        refine ⟨_, rfl, a, rfl, .inl ⟨⟨_, SqL.of (s12 _ _ h)⟩, fun D nD => ?_⟩⟩
        refine lcLY (xs := xs) (fun i acc H3 => Same H H3 ∧ acc = ((xs.take i).map f).map V.bl) (by omega) (fun x => rfl) (fun i acc H3 r => SqL.of (r.1 _ _ h)) ⟨s12.trans (same_new nD), rfl⟩ ?_ ?_
        · intro i x acc H3 Z hx ⟨s3, e3⟩ hD hZ
          refine ⟨_, rfl, x, f x, rfl, (hf x (List.mem_of_getElem? hx)).same s3, hZ _ _ hD ⟨?_, ?_⟩⟩
          · exact kp_same s3 (s12.free nD) ((Kp.refl _ _).wr (List.mem_singleton.mpr rfl))
          · rw [e3, List.take_add_one, hx, List.map_append, List.map_append]
            rfl
        · intro acc H3 ⟨s3, e3⟩ hD
          rw [List.take_length] at e3
          rw [e3] at hD
          refine ⟨D, _, rfl, SqL.of hD, _, rfl, ?_⟩
          rw [hall]
          exact iteF ⟨rfl, s3⟩
      · refine ⟨_, rfl, (by show 2 ≤ sizeLine; decide), fun tp ntp => ?_⟩
        have s2 := same_new (o := .tup [V.ty "tuple", V.ty "list"]) ntp
        have s12 := s1.trans s2
        refine ⟨_, tp, _, _, [.type "tuple", .type "list"], true, rfl, upd_same, .cons (ClsV.ty _) (.cons (ClsV.ty _) .nil), TyX.base (.tup (s12 _ _ h)), kit2 (a := true) (b := false) (kit_ty (by decide +kernel)) (kit_ty (by decide +kernel)), true, rfl, iteF ?_⟩
        refine ⟨_, rfl, a, rfl, .inr ⟨⟨_, SqT.of (s12 _ _ h)⟩, fun D nD => ?_⟩⟩
        refine lcTY (xs := xs) (fun i acc H3 => Same H H3 ∧ acc = ((xs.take i).map f).map V.bl) (by omega) (fun x => rfl) (fun i acc H3 r => SqT.of (r.1 _ _ h)) ⟨s12.trans (same_new nD), rfl⟩ ?_ ?_
        · intro i x acc H3 Z hx ⟨s3, e3⟩ hD hZ
          refine ⟨_, rfl, x, f x, rfl, (hf x (List.mem_of_getElem? hx)).same s3, hZ _ _ hD ⟨?_, ?_⟩⟩
          · exact kp_same s3 (s12.free nD) ((Kp.refl _ _).wr (List.mem_singleton.mpr rfl))
          · rw [e3, List.take_add_one, hx, List.map_append, List.map_append]
            rfl
        · intro acc H3 ⟨s3, e3⟩ hD
          rw [List.take_length] at e3
          rw [e3] at hD
          refine ⟨D, _, rfl, SqL.of hD, _, rfl, ?_⟩
          rw [hall]
          exact iteF ⟨rfl, s3⟩
    rintro σ H1 ⟨rfl, s1⟩
    clear he1
    rcases h with ⟨hc, e⟩ | ⟨k, rfl, hk, q⟩
    · refine ⟨fun _ _ => False, ?_, fun _ _ z => z.elim⟩
      cases hc with
      | kind hc => exact ⟨_, rfl, c, false, rfl, hc.same s1, false, rfl, iteT (iteT ⟨by decide, raise_rd Y.sub Y.why fun d nd => e d _ (s1.trans (same_new nd)) ⟨_, upd_same⟩⟩)⟩
      | @neg i hi =>
        refine ⟨_, rfl, .int i, true, rfl, .int, true, rfl, iteF ⟨_, rfl, _, _, rfl, rfl, _, rfl, ?_⟩⟩
        rw [decide_eq_true hi]
        exact iteT ⟨by decide, raise_rd Y.sub Y.why fun d nd => e d _ (s1.trans (same_new nd)) ⟨_, upd_same⟩⟩
    refine ⟨fun σ H' => σ = [some (V.ref p), some (V.ref lg), some (.int k), none, none, none, none] ∧ Same H H', ?_, ?_⟩
    · refine ⟨_, rfl, .int k, true, rfl, .int, true, rfl, iteF ⟨_, rfl, _, _, rfl, rfl, _, rfl, ?_⟩⟩
      rw [decide_eq_false (show ¬ k < 0 by omega)]
      exact iteF ⟨rfl, s1⟩
    rintro σ H1 ⟨rfl, s1⟩
    have hp1 := s1 _ _ hp
    have he1 := he.same s1
    refine ⟨_, rfl, p, _, rfl, .inl (SqL.of hp1), fun l nl => ?_⟩
    have s2 := same_new (o := .lst (vsOf es)) nl
    refine ⟨_, rfl, lg, ns, rfl, ((hrow.same s1).same s2).imp SqL.of SqT.of, hn, fun ls n nls => ?_⟩
    have s3 := same_new (o := .set (fun k => decide (k ∈ ns)) n) nls
    have s123 := s1.trans (s2.trans s3)
    have hl3 := s3 _ _ (upd_same (H := H1) (a := l) (o := .lst (vsOf es)))
    have hs3 : (upd (upd H1 l (.lst (vsOf es))) ls (.set (fun k => decide (k ∈ ns)) n)) ls = some (.set (fun k => decide (k ∈ ns)) n) := upd_same
    have nl0 : H l = none := s1.free nl
    have nls0 : H ls = none := (s1.trans s2).free nls
    have he3 := (he1.same s2).same s3
    generalize upd (upd H1 l (.lst (vsOf es))) ls (.set (fun k => decide (k ∈ ns)) n) = H3 at s123 hl3 hs3 he3 ⊢
    refine ⟨fun σ H' => σ = [some (V.ref p), some (V.ref lg), some (.int k), some (.ref l), some (.ref ls), none, none] ∧ Same H H' ∧ H' l = some (.lst (vsOf es)) ∧ H' ls = some (.set (fun k => decide (k ∈ ns)) n) ∧ Ents H' es ∧ ¬ (100 < es.length ∧ (es.length : Int) < 2 * k), ?_, ?_⟩
    · refine ⟨_, rfl, l, _, rfl, .inl (SqL.of hl3), _, _, rfl, rfl, _, rfl, ite2 (fun c1 => ?_) (fun c1 => ?_)⟩
      rotate_left
      · refine iteF ⟨rfl, s123, hl3, hs3, he3, fun z => c1 ?_⟩
        rw [vs_len]
        exact decide_eq_true (by omega)
      have c1' : 100 < es.length := by
        have := of_decide_eq_true c1
        rw [vs_len] at this
        omega
      refine ⟨_, rfl, _, _, rfl, rfl, .inl ⟨by decide, by decide⟩, _, rfl, l, _, rfl, .inl (SqL.of hl3), _, _, rfl, rfl, _, rfl, ite2 (fun c2 => ?_) (fun c2 => ?_)⟩
      rotate_left
      · refine ⟨rfl, s123, hl3, hs3, he3, fun z => c2 ?_⟩
        rw [vs_len]
        exact decide_eq_true z.2
      have c2' : (es.length : Int) < 2 * k := by
        have := of_decide_eq_true c2
        rw [vs_len] at this
        exact this
      refine ⟨_, rfl, l, rfl, ⟨_, SqL.of hl3⟩, fun D nD => ?_⟩
      refine lcFil (es := es) (fun x => !decide (x.k ∈ ns)) hl ?hw hl3 nD he3 (fun e H4 Zq hm hE s4 hz => ?_) (fun e H4 Yq hy => ⟨_, rfl, hy⟩) (fun H4 s4 hD => ?_)
      case hw => exact fun x => rfl
      · exact ⟨_, rfl, _, _, 1, .int e.k, rfl, rfl, SqT.of hE, atI_nat (j := 1) rfl, _, rfl, e.k, ls, _, n, rfl, rfl, s4 _ _ hs3, _, rfl, hz⟩
      · have hd4 : Ents H4 (es.filter fun x => !decide (x.k ∈ ns)) := fun y hy => s4 _ _ (he3 y (List.mem_filter.mp hy).1)
        refine ⟨_, rfl, D, _, rfl, hD, hd4, Nat.le_trans (List.length_filter_le _ _) (by omega), fun H5 k5 h5 => ?_⟩
        have nD0 : H D = none := s123.free nD
        have s5 : Same H H5 := kp_same (s123.trans s4) nD0 k5
        refine ⟨_, rfl, (by show 2 ≤ sizeLine; decide), fun u nu => ?_⟩
        have s6 := same_new (o := .tup [.ref D, .int 0]) nu
        have ev : Hm.swept Ent.t (fun x => decide (x.k ∈ ns)) es k = (Hm.heapify Ent.t (es.filter fun x => !decide (x.k ∈ ns)), 0) := if_pos ⟨c1', c2'⟩
        refine q _ u D (s5.trans s6) nD0 (s5.free nu) ?_ ?_
        · rw [ev]
          exact upd_same
        · rw [ev]
          exact s6 _ _ h5
    rintro σ H4 ⟨rfl, s4, hl4, hs4, he4, hno⟩
    have ev : Hm.swept Ent.t (fun x => decide (x.k ∈ ns)) es k = Hm.sweep Ent.t (fun x => decide (x.k ∈ ns)) es.length es k := if_neg hno
    rw [ev] at q
    clear s123 hl3 hs3 he3 s2 s3 hp1 he1 s1 ev
    have nsl : ls ≠ l := fun z => by
      rw [z, hl4] at hs4
      cases hs4
    refine ⟨fun m σ H5 => ∃ (xs : List Ent) (c : Int), σ = [some (V.ref p), some (V.ref lg), some (.int c), some (.ref l), some (.ref ls), none, none] ∧ m = xs.length ∧ Same H H5 ∧ H5 l = some (.lst (vsOf xs)) ∧ H5 ls = some (.set (fun k => decide (k ∈ ns)) n) ∧ Ents H5 xs ∧
        Hm.sweep Ent.t (fun x => decide (x.k ∈ ns)) xs.length xs c = Hm.sweep Ent.t (fun x => decide (x.k ∈ ns)) es.length es k,
      ⟨_, es, k, rfl, rfl, s4, hl4, hs4, he4, rfl⟩, fun m σ H5 hW => ?_⟩
    obtain ⟨xs, c, rfl, rfl, s5, hl5, hs5, he5, r5⟩ := hW
    refine ⟨_, rfl, Nat.zero_le _, fun U nU => ?_⟩
    have s6 := same_new (o := .lst []) nU
    have hl6 := s6 _ _ hl5
    have hs6 := s6 _ _ hs5
    have he6 := he5.same s6
    refine ⟨rowsD xs, .list [], dp_rows (SqL.of hl6) he6, dp_emp (SqL.of upd_same), shaped_rows _, rfl, _, rfl, ?_⟩
    rw [eqv_rows0]
    have done : ∀ H7 (cc : Int), Same H H7 → cc = (Hm.sweep Ent.t (fun x => decide (x.k ∈ ns)) es.length es k).2 → H7 l = some (.lst (vsOf (Hm.sweep Ent.t (fun x => decide (x.k ∈ ns)) es.length es k).1)) → ∀ u, H7 u = none → Q (.ref u) (upd H7 u (.tup [.ref l, .int cc])) := fun H7 cc s7 ec h7 u nu => by
      have s8 := same_new (o := .tup [.ref l, .int cc]) nu
      refine q _ u l (s7.trans s8) nl0 (s7.free nu) ?_ (s8 _ _ h7)
      rw [ec]
      exact upd_same
    cases xs with
    | nil =>
      rw [Hm.sweep_nil] at r5
      refine iteF ⟨_, rfl, _, rfl, (by show 2 ≤ sizeLine; decide), done _ c (s5.trans s6) (by rw [← r5]) (by rw [← r5]; exact hl6)⟩
    | cons x r =>
      have hx := he6 x List.mem_cons_self
      refine iteT ⟨_, rfl, l, _, 0, x.v, rfl, rfl, SqL.of hl6, atI_nat (j := 0) rfl, _, _, 1, .int x.k, rfl, rfl, SqT.of hx, atI_nat (j := 1) rfl, _, rfl, x.k, ls, _, n, rfl, rfl, hs6, _, rfl, ite2 (fun d => ?_) (fun d => ?_)⟩
      · rw [Hm.sweep_yes (g := fun x : Ent => decide (x.k ∈ ns)) (x := x) d] at r5
        refine ⟨fun σ' H' => ∃ (xs : List Ent) (c : Int), σ' = [some (V.ref p), some (V.ref lg), some (.int c), some (.ref l), some (.ref ls), none, none] ∧ xs.length < (x :: r).length ∧ Same H H' ∧ H' l = some (.lst (vsOf xs)) ∧ H' ls = some (.set (fun k => decide (k ∈ ns)) n) ∧ Ents H' xs ∧
          Hm.sweep Ent.t (fun x => decide (x.k ∈ ns)) xs.length xs c = Hm.sweep Ent.t (fun x => decide (x.k ∈ ns)) es.length es k, fun σ' H' hN => ?_, ?_⟩
        · obtain ⟨xs', c', e1, l1, rr⟩ := hN
          exact ⟨xs'.length, l1, xs', c', e1, rfl, rr⟩
        · refine ⟨_, rfl, l, x :: r, x, rfl, hl6, he6, rfl, fun H7 k7 h7 => ?_⟩
          have lp := Hm.pop_len Ent.t (l := x :: r) (List.cons_ne_nil _ _)
          refine ⟨_, rfl, _, _, rfl, rfl, Hm.popL Ent.t (x :: r), c - 1, rfl, by omega, kp_same (s5.trans s6) nl0 k7, h7, k7 _ _ (fun z => nsl (List.mem_singleton.mp z)) hs6, fun y hy => (he6.kp k7 hl6) y (Hm.pop_mem hy), r5⟩
      · rw [Hm.sweep_no (g := fun x : Ent => decide (x.k ∈ ns)) (x := x) d] at r5
        refine ⟨_, rfl, _, rfl, (by show 2 ≤ sizeLine; decide), done _ c (s5.trans s6) (by rw [← r5]) (by rw [← r5]; exact hl6)⟩
end
end K15

namespace K15
open PySem PySem.Spec PyProof.Rows L2
/-! ### wells -/
def Well (H : Hp) (p : Addr) (n : Int) : Prop := ∃ w0 w1 w2 : Int, H p = some (.lst [.int w0, .int w1, .int w2]) ∧ 0 ≤ w2 ∧ w2 ≤ n
theorem Well.mono {H : Hp} {p : Addr} {n m : Int} (h : Well H p n) (l : n ≤ m) : Well H p m := by
  obtain ⟨a, b, c, e, h0, h1⟩ := h
  exact ⟨a, b, c, e, h0, Int.le_trans h1 l⟩
theorem Well.same {H H' : Hp} {p : Addr} {n : Int} (h : Well H p n) (s : Same H H') : Well H' p n := by
  obtain ⟨a, b, c, e, h0, h1⟩ := h
  exact ⟨a, b, c, s _ _ e, h0, h1⟩
/-- what is drawn is less than what it is drawn from -/
structure Rem (r many : Int) : Prop where
  lo : 0 ≤ r
  hi : r < many
theorem rem_of (x : Int) {many : Int} (h : 0 < many) : Rem (x % many) many := ⟨Int.emod_nonneg _ (by omega), Int.emod_lt_of_pos _ h⟩
section
variable {P : Program} {w : World} {K : PySem.W.Frag} {mg : Str → Option Value} {base : Heap}
def spLwWell : Sp := fun vs H Q _ => ∃ c : Int, vs = [.int c] ∧ ∀ l H', H l = none → Same H H' → Well H' l 0 → Q (.ref l) H'
theorem ok_well (T : Txt K mg) : FnOk P w K mg base CX0 1 T.aLwWell T.dLwWell ["_law_cell"] spLwWell := by
  refine T.fLwWell.ok scLwWell (fun vs H Q E h => ?_) (fun cdv A outer s H vs Q E hr h => ?_)
  · obtain ⟨c, rfl, _⟩ := h
    rfl
  · obtain ⟨c, rfl, q⟩ := h
    refine ⟨_, (pss_one (ps_ret (pe_lst (pa_cons (pe_op op_mul (pv 0) (pe_callTy call_int1 (by rfl) T.n_int (by decide +kernel) (pa_cons (pe_cmpR op_ge (pv 0) (pe_op op_pow pe_int pe_int) (nomark _)) pa_nil))) (pa_cons (pv 0) (pa_cons pe_int pa_nil)))))), ?_⟩
    refine ⟨_, rfl, _, rfl, _, _, rfl, rfl, ⟨by decide, by decide, by decide⟩, _, _, rfl, rfl, .inr ⟨_, rfl, _, _, rfl, rfl, .inr ?_, _, rfl, (by show 3 ≤ sizeLine; decide), fun l nl => ?_⟩⟩
    · split <;> exact ⟨by decide, by decide⟩
    · exact q l _ nl (same_new nl) ⟨_, _, _, upd_same, Int.le_refl _, Int.le_refl _⟩
def spLwDraw : Sp := fun vs H Q _ => ∃ (p : Addr) (many n : Int), vs = [.ref p, .int many] ∧ Well H p n ∧ n ≤ 1000000000000 ∧ 0 < many ∧ many < 2 ^ 200 ∧
  ∀ r H', Rem r many → Kp [p] H H' → Well H' p (n + 1) → Q (.int r) H'
theorem ok_draw (T : Txt K mg) : FnOk P w K mg base CX0 1 T.aLwDraw T.dLwDraw ["_law_well_here", "_law_many"] spLwDraw := by
  refine T.fLwDraw.ok scLwDraw (fun vs H Q E h => ?_) (fun cdv A outer s H vs Q E hr h => ?_)
  · obtain ⟨p, many, n, rfl, _⟩ := h
    rfl
  · obtain ⟨p, many, n, rfl, ⟨w0, w1, w2, hp, h0, h1⟩, hn, hm, hm2, q⟩ := h
    refine ⟨_, (pss_cons (ps_if (pt_cmpR op_gt (pe_ix (r := rIxL K) ix_list (pv 0) pe_int (fun _ _ => rfl)) pe_int (nomark _))
      (pss_cons (ps_set (i := 2) scLwDraw.nd rfl (.inl rfl) (pe_op op_mod (pe_callTy call_int1 (by rfl) T.n_int (by decide +kernel) (pa_cons (pe_ix (r := rIxL K) ix_list (pv 0) pe_int (fun _ _ => rfl)) pa_nil)) (pv 1)))
        (pss_cons (ps_asg (pe_op op_fdivW (pe_ix (r := rIxL K) ix_list (pv 0) pe_int (fun _ _ => rfl)) (pv 1)) (pg_sub (pv 0) pe_int set_list))
        (pss_one (ps_ret (pv 2)))))
      pss_nil)
      (pss_cons (ps_asg (pe_op op_add (pe_ix (r := rIxL K) ix_list (pv 0) pe_int (fun _ _ => rfl)) pe_int) (pg_sub (pv 0) pe_int set_list))
      (pss_cons (ps_set (i := 3) scLwDraw.nd rfl (.inl rfl) (pe_op op_add (pe_op op_mod (pe_callTy call_int1 (by rfl) T.n_int (by decide +kernel) (pa_cons (pe_ix (r := rIxL K) ix_list (pv 0) pe_int (fun _ _ => rfl)) pa_nil)) pe_int) (pe_op op_mul (pe_op op_mod (pe_callTy call_int1 (by rfl) T.n_int (by decide +kernel) (pa_cons (pe_op op_fdivW (pe_ix (r := rIxL K) ix_list (pv 0) pe_int (fun _ _ => rfl)) pe_int) pa_nil)) pe_int) pe_int)))
      (pss_cons (ps_set (i := 4) scLwDraw.nd rfl (.inl rfl) (pe_op op_mod (pe_callTy call_int1 (by rfl) T.n_int (by decide +kernel) (pa_cons (pe_op op_pow (pe_op op_add (pe_op op_add (pv 3) (pe_op op_mul pe_int (pe_ix (r := rIxL K) ix_list (pv 0) pe_int (fun _ _ => rfl)))) pe_int) pe_int) pa_nil)) pe_int))
      (pss_cons (ps_set (i := 4) scLwDraw.nd rfl (.inl rfl) (pe_op op_mod (pe_callTy call_int1 (by rfl) T.n_int (by decide +kernel) (pa_cons (pe_op op_mul (pv 4) (pe_op op_add (pe_op op_add (pe_op op_fdiv (pv 4) pe_int) pe_int) (pe_ix (r := rIxL K) ix_list (pv 0) pe_int (fun _ _ => rfl)))) pa_nil)) pe_int))
      (pss_one (ps_ret (pe_op op_mod (pe_callTy call_int1 (by rfl) T.n_int (by decide +kernel) (pa_cons (pe_op op_mod (pe_callTy call_int1 (by rfl) T.n_int (by decide +kernel) (pa_cons (pe_op op_mul (pv 4) (pe_op op_add (pe_op op_fdiv (pv 4) pe_int) pe_int)) pa_nil)) pe_int) pa_nil)) (pv 1))))))))), ?_⟩
    refine ⟨_, rfl, p, _, 0, .int w0, rfl, rfl, SqL.of hp, atI_nat (j := 0) rfl, _, _, rfl, rfl, _, rfl, ite2 (fun c => ?_) (fun c => ?_)⟩
    · refine ⟨_, rfl, p, _, 0, .int w0, rfl, rfl, SqL.of hp, atI_nat (j := 0) rfl, .inl ⟨_, rfl, _, rfl, _, _, rfl, rfl, hm, ?_⟩⟩
      refine ⟨_, rfl, p, _, 0, .int w0, rfl, rfl, SqL.of hp, atI_nat (j := 0) rfl, _, rfl, _, _, rfl, rfl, wide_div (b := 200) hm ?_ (by decide) (by decide), _, rfl, p, _, _, 0, rfl, rfl, hp, ixN_nat (j := 0) (show 0 < 3 by decide), ?_⟩
      · have : (many.natAbs : Int) = many := Int.natAbs_of_nonneg (by omega)
        have h3 : ((2 ^ 200 : Nat) : Int) = (2 : Int) ^ 200 := by
          rw [Int.natCast_pow]
          rfl
        have : (many.natAbs : Int) < ((2 ^ 200 : Nat) : Int) := by
          rw [this, h3]
          exact hm2
        exact Int.ofNat_lt.mp this
      refine ⟨_, rfl, q _ _ (rem_of w0 hm) ((Kp.refl _ _).wr (List.mem_singleton.mpr rfl)) ⟨_, _, _, upd_same, h0, by omega⟩⟩
    · -- _law_well_here[2] = _law_well_here[2] + 1
      refine ⟨_, rfl, p, _, 2, .int w2, rfl, rfl, SqL.of hp, atI_nat (j := 2) rfl, _, _, rfl, rfl, _, rfl, p, _, _, 2, rfl, rfl, hp, ixN_nat (j := 2) (show 2 < 3 by decide), ?_⟩
      have hp2 : (upd H p (.lst [.int w0, .int w1, .int (w2 + 1)])) p = some (.lst [.int w0, .int w1, .int (w2 + 1)]) := upd_same
      -- _law_salt
      refine ⟨_, rfl, p, _, 1, .int w1, rfl, rfl, SqL.of hp2, atI_nat (j := 1) rfl, .inl ⟨_, rfl, _, _, rfl, rfl, (show (0 : Int) < _ by decide), ?_⟩⟩
      refine ⟨_, rfl, p, _, 1, .int w1, rfl, rfl, SqL.of hp2, atI_nat (j := 1) rfl, _, _, rfl, rfl, wide_div (b := 40) (by decide) (by decide) (by decide) (by decide), .inl ⟨_, rfl, _, _, rfl, rfl, (show (0 : Int) < _ by decide), _, _, rfl, rfl, .inr ⟨by decide, by decide⟩, _, _, rfl, rfl, ?_⟩⟩
      have s1 := rem_of w1 (many := 2147483587) (by decide)
      have s2 := rem_of (w1 / 2147483587) (many := 65003) (by decide)
      -- _law_mixed
      refine ⟨_, rfl, _, rfl, p, _, 2, .int (w2 + 1), rfl, rfl, SqL.of hp2, atI_nat (j := 2) rfl, _, _, rfl, rfl, .inl ⟨by decide, by decide⟩, _, _, rfl, rfl, _, _, rfl, rfl, _, _, rfl, rfl, ⟨by decide, by decide, ?_⟩, .inl ⟨_, rfl, _, _, rfl, rfl, (show (0 : Int) < _ by decide), ?_⟩⟩
      · have a1 := s1.lo
        have a2 := s1.hi
        have a3 := s2.lo
        have a4 := s2.hi
        show (w1 % 2147483587 + w1 / 2147483587 % 65003 * 41 + 7027 * (w2 + 1) + 29).natAbs < 2 ^ 64
        omega
      generalize ((w1 % 2147483587 + w1 / 2147483587 % 65003 * 41 + 7027 * (w2 + 1) + 29) ^ (5 : Int).toNat) = z1
      have t1 := rem_of z1 (many := 2147483647) (by decide)
      have b1 := t1.lo
      have b2 := t1.hi
      refine ⟨_, rfl, _, rfl, _, _, rfl, rfl, ⟨by decide, by decide⟩, _, _, rfl, rfl, _, rfl, p, _, 2, .int (w2 + 1), rfl, rfl, SqL.of hp2, atI_nat (j := 2) rfl, _, _, rfl, rfl, _, _, rfl, rfl, .inl ⟨?_, ?_⟩, .inl ⟨_, rfl, _, _, rfl, rfl, (show (0 : Int) < _ by decide), ?_⟩⟩
      · show -(2 ^ 64) < z1 % 2147483647
        omega
      · show z1 % 2147483647 < 2 ^ 64
        omega
      dsimp only
      generalize (z1 % 2147483647 * (z1 % 2147483647 / 983 + 50021 + (w2 + 1))) = z2
      have t2 := rem_of z2 (many := 2147483629) (by decide)
      have d1 := t2.lo
      have d2 := t2.hi
      refine ⟨_, rfl, _, rfl, _, _, rfl, rfl, ⟨by decide, by decide⟩, _, _, rfl, rfl, _, _, rfl, rfl, .inl ⟨?_, ?_⟩, .inl ⟨_, rfl, _, _, rfl, rfl, (show (0 : Int) < _ by decide), .inl ⟨_, rfl, _, rfl, _, _, rfl, rfl, hm, ?_⟩⟩⟩
      · show -(2 ^ 64) < z2 % 2147483629
        omega
      · show z2 % 2147483629 < 2 ^ 64
        omega
      exact q _ _ (rem_of _ hm) ((Kp.refl _ _).wr (List.mem_singleton.mpr rfl)) ⟨_, _, _, upd_same, by omega, by omega⟩
/-- one of some whole numbers -/
def spLwPick : Sp := fun vs H Q _ => ∃ (p l : Addr) (xs : List V) (n : Int), vs = [.ref p, .ref l] ∧ Well H p n ∧ n ≤ 1000000000000 ∧ H l = some (.lst xs) ∧ l ≠ p ∧ 0 < xs.length ∧ xs.length ≤ 100000 ∧
  ∀ v H', v ∈ xs → Kp [p] H H' → Well H' p (n + 1) → Q v H'
theorem ok_pick (T : Txt K mg) : FnOk P w K mg base CX0 2 T.aLwPick T.dLwPick ["_law_well_here", "_law_some"] spLwPick := by
  have GLwDraw : FnOk P w K mg base CX0 1 T.aLwDraw T.dLwDraw ["_law_well_here", "_law_many"] spLwDraw := ok_draw T
  refine T.fLwPick.ok scLwPick (fun vs H Q E h => ?_) (fun cdv A outer s H vs Q E hr h => ?_)
  · obtain ⟨p, l, xs, n, rfl, _⟩ := h
    rfl
  · obtain ⟨p, l, xs, n, rfl, hw, hn, hl, nlp, h0, h1, q⟩ := h
    refine ⟨_, (pss_one (ps_ret (pe_ix (r := rIxL K) ix_list (pv 1) (pe_call GLwDraw (hr.mono (by decide)) (by rfl) T.gLwDraw T.fLwDraw.kp T.bLwDraw .nil pass0 (pa_cons (pv 0) (pa_cons (pe_callB call_len_seq (by rfl) T.n_len PySem.boot_len (pa_cons (pv 1) pa_nil)) pa_nil))) (fun _ _ => rfl)))), ?_⟩
    refine ⟨_, rfl, _, rfl, _, rfl, l, _, rfl, .inl (SqL.of hl), p, _, n, rfl, hw, hn, by omega, ?_, fun r H' hr' k' w' => ?_⟩
    · exact Int.lt_of_le_of_lt (show (xs.length : Int) ≤ 100000 by omega) (by decide)
    · have hl' : H' l = some (.lst xs) := k' _ _ (fun z => nlp (List.mem_singleton.mp z)) hl
      have lo := hr'.lo
      have hi := hr'.hi
      obtain ⟨k, rfl⟩ : ∃ k : Nat, r = (k : Int) := ⟨r.toNat, by omega⟩
      have hk : k < xs.length := by omega
      refine ⟨l, xs, _, xs[k], rfl, rfl, SqL.of hl', atI_nat (List.getElem?_eq_getElem hk), q _ _ (List.getElem_mem hk) k' w'⟩
end
end K15

namespace K15
open PySem PySem.Spec PyProof.Rows L2
theorem rise_zero (es : List Ent) (top : Nat) : Hm.rise Ent.t es top 0 = es := by
  rw [Hm.rise.eq_1, dif_neg (by omega)]
section
variable {P : Program} {w : World} {K : PySem.W.Frag} {mg : Str → Option Value} {base : Heap}
/-! ### _law_up -/
def spLwUp : Sp := fun vs H Q _ => ∃ (p : Addr) (es : List Ent) (top place : Nat), vs = [.ref p, .int top, .int place] ∧ H p = some (.lst (vsOf es)) ∧ Ents H es ∧ place < es.length ∧ es.length ≤ 6000 ∧
  ∀ H' l, Same H H' → H l = none → H' l = some (.lst (vsOf (Hm.rise Ent.t es top place))) → Q (.ref l) H'
theorem ok_up (T : Txt K mg) : FnOk P w K mg base CX0 1 T.aLwUp T.dLwUp ["_law_lot", "_law_top", "_law_place"] spLwUp := by
  refine T.fLwUp.ok scLwUp (fun vs H Q E h => ?_) (fun cdv A outer s H vs Q E hr h => ?_)
  · obtain ⟨p, es, top, place, rfl, _⟩ := h
    rfl
  · obtain ⟨p, es, top, place, rfl, hp, he, hpl, hl, q⟩ := h
    refine ⟨_, (pss_cons (ps_set (i := 3) scLwUp.nd rfl (.inl rfl) (pe_callTy call_list_of (by rfl) T.n_list (by decide +kernel) (pa_cons (pv 0) pa_nil)))
      (pss_cons (ps_for PassesOwn.never rfl (pi_range1 (by rfl) T.n_range (pa_cons pe_int pa_nil)) (pg_name (i := 4) scLwUp.nd rfl (.inl rfl))
      (pss_cons (ps_set (i := 5) scLwUp.nd rfl (.inl rfl) (pe_op op_fdiv (pe_op op_sub (pv 2) pe_int) pe_int))
        (pss_cons (ps_if (PW.pt (pw_or (pt_cmpR op_le (pv 2) (pv 1) (nomark _)) (pw_or1 (pt_cmpR op_ge (pe_ix (r := rIxT K) ix_tup (pe_ix (r := rIxL K) ix_list (pv 3) (pv 2) (fun _ _ => rfl)) pe_int (fun _ _ => rfl)) (pe_ix (r := rIxT K) ix_tup (pe_ix (r := rIxL K) ix_list (pv 3) (pv 5) (fun _ _ => rfl)) pe_int (fun _ _ => rfl)) (nomark _)))))
        (pss_one (ps_ret (pv 3)))
        pss_nil)
        (pss_cons (ps_asg (pe_tup (pa_cons (pe_ix (r := rIxL K) ix_list (pv 3) (pv 5) (fun _ _ => rfl)) (pa_cons (pe_ix (r := rIxL K) ix_list (pv 3) (pv 2) (fun _ _ => rfl)) pa_nil))) (pg_tup rfl (pgs_cons (pg_sub (pv 3) (pv 2) set_list) (pgs_cons (pg_sub (pv 3) (pv 5) set_list) pgs_nil))))
        (pss_one (ps_set (i := 2) scLwUp.nd rfl (.inl rfl) (pv 5)))))))
      (pss_one (ps_ret (pv 3))))), ?_⟩
    refine ⟨_, rfl, p, _, rfl, .inl (SqL.of hp), fun l nl => ?_⟩
    have s1 := same_new (o := .lst (vsOf es)) nl
    refine ⟨64, rfl, by decide, by decide, ?_⟩
    refine for_range (n := 64) (fun i σ H3 => ∃ (es3 : List Ent) (pl : Nat) (y4 y5 : Option V), σ = [some (.ref p), some (.int top), some (.int pl), some (.ref l), y4, y5] ∧ Same H H3 ∧ H3 l = some (.lst (vsOf es3)) ∧ Ents H3 es3 ∧ pl < es3.length ∧ es3.length = es.length ∧ pl < 2 ^ (64 - i) ∧ Hm.rise Ent.t es3 top pl = Hm.rise Ent.t es top place)
      ⟨es, place, none, none, rfl, s1, upd_same, he.same s1, hpl, rfl, Nat.lt_of_lt_of_le (show place < 6000 by omega) (by decide), rfl⟩ (fun i σ H3 hi hW => ?_) (fun σ H3 hW => ?_)
    · obtain ⟨es3, pl, y4, y5, rfl, s3, h3, he3, hp3, hl3, hpw, hr3⟩ := hW
      -- above
      refine ⟨_, rfl, _, _, rfl, rfl, _, _, rfl, rfl, ⟨by decide, by decide⟩, ?_⟩
      dsimp only
      refine ⟨_, rfl, _, rfl, _, _, rfl, rfl, _, rfl, ite2 (fun c => ?_) (fun c => ?_)⟩
      · have c' : ¬ top < pl := by
          have := of_decide_eq_true c
          omega
        refine iteT ⟨_, rfl, q H3 l s3 nl ?_⟩
        rw [← hr3, Hm.rise.eq_1, dif_neg c']
        exact h3
      · have c' : top < pl := by
          have : ¬ ((pl : Int) ≤ (top : Int)) := fun z => c (decide_eq_true z)
          omega
        have eab : ((pl : Int) - 1) / 2 = (((pl - 1) / 2 : Nat) : Int) := by omega
        rw [eab]
        have hab : (pl - 1) / 2 < es3.length := by omega
        obtain ⟨x, hx⟩ : ∃ x, es3[pl]? = some x := ⟨_, List.getElem?_eq_getElem hp3⟩
        obtain ⟨y, hy⟩ : ∃ y, es3[(pl - 1) / 2]? = some y := ⟨_, List.getElem?_eq_getElem hab⟩
        have ex := he3 x (List.mem_of_getElem? hx)
        have ey := he3 y (List.mem_of_getElem? hy)
        refine ⟨_, rfl, _, rfl, l, _, _, x.v, rfl, rfl, SqL.of h3, atI_nat (vs_at hx), _, _, 0, _, rfl, rfl, SqT.of ex, atI_nat (j := 0) rfl, _, rfl, _, rfl, l, _, _, y.v, rfl, rfl, SqL.of h3, atI_nat (vs_at hy), _, _, 0, _, rfl, rfl, SqT.of ey, atI_nat (j := 0) rfl, _, _, rfl, rfl, _, rfl, ?_⟩
        have eL : Hm.lss Ent.t es3 pl ((pl - 1) / 2) = decide (x.t < y.t) := by
          unfold Hm.lss
          rw [hx, hy]
        have eR := Hm.rise.eq_1 Ent.t es3 top pl
        rw [dif_pos c', eL] at eR
        by_cases d : x.t < y.t
        · rw [show decide (y.t ≤ x.t) = false from decide_eq_false (by omega)]
          rw [decide_eq_true d, if_pos rfl] at eR
          refine iteF ?_
          refine ⟨_, rfl, _, rfl, l, _, _, y.v, rfl, rfl, SqL.of h3, atI_nat (vs_at hy), _, rfl, _, rfl, l, _, _, x.v, rfl, rfl, SqL.of h3, atI_nat (vs_at hx), (by show 2 ≤ sizeLine; decide), fun U nU => ?_⟩
          have npU : l ≠ U := ne_of_none h3 nU
          refine ⟨U, [y.v, x.v], rfl, SqT.of upd_same, rfl, _, _, rfl, ?_⟩
          have h1 : (upd H3 U (.tup [y.v, x.v])) l = some (.lst (vsOf es3)) := by
            rw [upd_ne npU]
            exact h3
          refine ⟨_, rfl, _, rfl, l, _, _, pl, rfl, rfl, h1, ixN_nat (by rw [vs_len]; exact hp3), _, _, rfl, ?_⟩
          refine ⟨_, rfl, _, rfl, l, _, _, (pl - 1) / 2, rfl, rfl, upd_same, ixN_nat (by rw [List.length_set, vs_len]; exact hab), rfl, ?_⟩
          rw [upd_upd]
          refine ⟨_, rfl, ?_⟩
          have es4 : ((vsOf es3).set pl y.v).set ((pl - 1) / 2) x.v = vsOf (Hm.swp es3 pl ((pl - 1) / 2)) := by
            rw [Hm.swp_eq hx hy, vs_set, vs_set]
          have kU : Kp [l] H3 (upd (upd H3 U (.tup [y.v, x.v])) l (.lst (((vsOf es3).set pl y.v).set ((pl - 1) / 2) x.v))) := ((Kp.refl _ _).new nU).wr (List.mem_singleton.mpr rfl)
          refine ⟨Hm.swp es3 pl ((pl - 1) / 2), (pl - 1) / 2, _, _, rfl, kp_same s3 nl kU, ?_, ?_, ?_, ?_, ?_, ?_⟩
          · rw [upd_same, es4]
          · exact (he3.kp kU h3).perm (Hm.swp_perm _ _ _)
          · rw [Hm.swp_len]
            exact hab
          · rw [Hm.swp_len]
            exact hl3
          · have e2 : 2 ^ (64 - i) = 2 * 2 ^ (64 - (i + 1)) := by
              rw [show 64 - i = (64 - (i + 1)) + 1 by omega, Nat.pow_succ, Nat.mul_comm]
            rw [e2] at hpw
            omega
          · rw [← eR]
            exact hr3
        · rw [show decide (y.t ≤ x.t) = true from decide_eq_true (by omega)]
          rw [decide_eq_false d, if_neg Bool.false_ne_true] at eR
          refine iteT ⟨_, rfl, q H3 l s3 nl ?_⟩
          rw [← hr3, eR]
          exact h3
    · obtain ⟨es3, pl, y4, y5, rfl, s3, h3, he3, hp3, hl3, hpw, hr3⟩ := hW
      have e0 : pl = 0 := by
        have : pl < 1 := hpw
        omega
      subst e0
      rw [rise_zero] at hr3
      refine ⟨_, rfl, q H3 l s3 nl ?_⟩
      rw [← hr3]
      exact h3
end
end K15

namespace K15
open PySem PySem.Spec PyProof.Rows L2
section
variable {P : Program} {w : World} {K : PySem.W.Frag} {mg : Str → Option Value} {base : Heap}
/-! ### _law_down -/
def spLwDown : Sp := fun vs H Q _ => ∃ (p : Addr) (es : List Ent) (top : Nat), vs = [.ref p, .int top] ∧ H p = some (.lst (vsOf es)) ∧ Ents H es ∧ top < es.length ∧ es.length ≤ 6000 ∧
  ∀ H' l, Same H H' → H l = none → H' l = some (.lst (vsOf (Hm.sink Ent.t es top))) → Q (.ref l) H'
theorem ok_down (T : Txt K mg) : FnOk P w K mg base CX0 2 T.aLwDown T.dLwDown ["_law_lot", "_law_top"] spLwDown := by
  have GLwUp : FnOk P w K mg base CX0 1 T.aLwUp T.dLwUp ["_law_lot", "_law_top", "_law_place"] spLwUp := ok_up T
  refine T.fLwDown.ok scLwDown (fun vs H Q E h => ?_) (fun cdv A outer s H vs Q E hr h => ?_)
  · obtain ⟨p, es, top, rfl, _⟩ := h
    rfl
  · obtain ⟨p, es, top, rfl, hp, he, hpl, hl, q⟩ := h
    refine ⟨_, (pss_cons (ps_set (i := 2) scLwDown.nd rfl (.inl rfl) (pe_callTy call_list_of (by rfl) T.n_list (by decide +kernel) (pa_cons (pv 0) pa_nil)))
      (pss_cons (ps_set (i := 3) scLwDown.nd rfl (.inl rfl) (pv 1))
      (pss_cons (ps_for PassesOwn.never rfl (pi_range1 (by rfl) T.n_range (pa_cons pe_int pa_nil)) (pg_name (i := 4) scLwDown.nd rfl (.inl rfl))
      (pss_cons (ps_set (i := 5) scLwDown.nd rfl (.inl rfl) (pe_op op_add (pe_op op_mul pe_int (pv 3)) pe_int))
        (pss_cons (ps_if (pt_cmpR op_ge (pv 5) (pe_callB call_len_seq (by rfl) T.n_len PySem.boot_len (pa_cons (pv 2) pa_nil)) (nomark _))
        (pss_one (ps_ret (pe_call GLwUp (hr.mono (by decide)) (by rfl) T.gLwUp T.fLwUp.kp T.bLwUp .nil pass0 (pa_cons (pv 2) (pa_cons (pv 1) (pa_cons (pv 3) pa_nil))))))
        pss_nil)
        (pss_cons (ps_set (i := 6) scLwDown.nd rfl (.inl rfl) (pv 5))
        (Evl.pss_cut (ps_if (PW.pt (pw_and (pt_cmpR op_lt (pe_op op_add (pv 5) pe_int) (pe_callB call_len_seq (by rfl) T.n_len PySem.boot_len (pa_cons (pv 2) pa_nil)) (nomark _)) (pw_and1 (pt_cmpR op_ge (pe_ix (r := rIxT K) ix_tup (pe_ix (r := rIxL K) ix_list (pv 2) (pv 5) (fun _ _ => rfl)) pe_int (fun _ _ => rfl)) (pe_ix (r := rIxT K) ix_tup (pe_ix (r := rIxL K) ix_list (pv 2) (pe_op op_add (pv 5) pe_int) (fun _ _ => rfl)) pe_int (fun _ _ => rfl)) (nomark _)))))
        (pss_one (ps_set (i := 6) scLwDown.nd rfl (.inl rfl) (pe_op op_add (pv 5) pe_int)))
        pss_nil)
        (pss_cons (ps_asg (pe_tup (pa_cons (pe_ix (r := rIxL K) ix_list (pv 2) (pv 6) (fun _ _ => rfl)) (pa_cons (pe_ix (r := rIxL K) ix_list (pv 2) (pv 3) (fun _ _ => rfl)) pa_nil))) (pg_tup rfl (pgs_cons (pg_sub (pv 2) (pv 3) set_list) (pgs_cons (pg_sub (pv 2) (pv 6) set_list) pgs_nil))))
        (pss_one (ps_set (i := 3) scLwDown.nd rfl (.inl rfl) (pv 6)))))))))
      (pss_one (ps_ret (pv 2)))))), ?_⟩
    refine ⟨_, rfl, p, _, rfl, .inl (SqL.of hp), fun l nl => ?_⟩
    have s1 := same_new (o := .lst (vsOf es)) nl
    refine ⟨_, rfl, ?_⟩
    refine ⟨64, rfl, by decide, by decide, ?_⟩
    refine for_range (n := 64) (fun i σ H3 => ∃ (es3 : List Ent) (pl : Nat) (y4 y5 y6 : Option V), σ = [some (.ref p), some (.int top), some (.ref l), some (.int pl), y4, y5, y6] ∧ Same H H3 ∧ H3 l = some (.lst (vsOf es3)) ∧ Ents H3 es3 ∧ pl < es3.length ∧ es3.length = es.length ∧ 2 ^ i ≤ pl + 1 ∧ Hm.down Ent.t es3 pl = Hm.down Ent.t es top)
      ⟨es, top, none, none, none, rfl, s1, upd_same, he.same s1, hpl, rfl, (by show 1 ≤ top + 1; omega), rfl⟩ (fun i σ H3 hi hW => ?_) (fun σ H3 hW => ?_)
    · obtain ⟨es3, pl, y4, y5, y6, rfl, s3, h3, he3, hp3, hl3, hpw, hr3⟩ := hW
      have e1 : 2 * (pl : Int) + 1 = ((2 * pl + 1 : Nat) : Int) := by omega
      have e2 : ((2 * pl + 1 : Nat) : Int) + 1 = ((2 * pl + 1 + 1 : Nat) : Int) := by omega
      refine ⟨_, rfl, _, _, rfl, rfl, .inl ⟨by decide, by decide⟩, _, _, rfl, rfl, ?_⟩
      dsimp only
      rw [e1]
      refine ⟨_, rfl, _, rfl, l, _, rfl, .inl (SqL.of h3), _, _, rfl, rfl, _, rfl, ite2 (fun c => ?_) (fun c => ?_)⟩
      · have c' : ¬ 2 * pl + 1 < es3.length := by
          have := of_decide_eq_true c
          rw [vs_len] at this
          omega
        have eD := Hm.down.eq_1 Ent.t es3 pl
        rw [dif_neg c'] at eD
        rw [eD] at hr3
        refine ⟨_, rfl, _, rfl, _, rfl, l, es3, top, pl, rfl, h3, he3, hp3, by omega, fun H' l' s' nl' h' => ?_⟩
        refine q H' l' (s3.trans s') (s3.free nl') ?_
        rw [h']
        unfold Hm.sink
        rw [← hr3]
      · have c' : 2 * pl + 1 < es3.length := by
          have : ¬ (((vsOf es3).length : Int) ≤ ((2 * pl + 1 : Nat) : Int)) := fun z => c (decide_eq_true z)
          rw [vs_len] at this
          omega
        have eD := Hm.down.eq_1 Ent.t es3 pl
        rw [dif_pos c'] at eD
        obtain ⟨x, hx⟩ : ∃ x, es3[2 * pl + 1]? = some x := ⟨_, List.getElem?_eq_getElem c'⟩
        have ex := he3 x (List.mem_of_getElem? hx)
        refine ⟨_, rfl, ?_⟩
        refine ⟨fun σ' H' => ∃ (cc : Nat), cc = Hm.child Ent.t es3 pl ∧ (∃ y4 y5, σ' = [some (.ref p), some (.int top), some (.ref l), some (.int pl), y4, y5, some (.int cc)]) ∧ H' = H3, ?_, ?_⟩
        · refine ⟨_, rfl, _, _, rfl, rfl, _, rfl, l, _, rfl, .inl (SqL.of h3), _, _, rfl, rfl, _, rfl, ite2 (fun d => ?_) (fun d => ?_)⟩
          · have d' : 2 * pl + 1 + 1 < es3.length := by
              have := of_decide_eq_true d
              rw [vs_len] at this
              omega
            obtain ⟨y, hy⟩ : ∃ y, es3[2 * pl + 1 + 1]? = some y := ⟨_, List.getElem?_eq_getElem d'⟩
            have ey := he3 y (List.mem_of_getElem? hy)
            refine ⟨_, rfl, _, rfl, l, _, _, x.v, rfl, rfl, SqL.of h3, atI_nat (vs_at hx), _, _, 0, _, rfl, rfl, SqT.of ex, atI_nat (j := 0) rfl, _, rfl, _, rfl, _, _, rfl, rfl, l, _, _, y.v, rfl, rfl, SqL.of h3, ?_, _, _, 0, _, rfl, rfl, SqT.of ey, atI_nat (j := 0) rfl, _, _, rfl, rfl, _, rfl, ?_⟩
            · show atI (vsOf es3) (((2 * pl + 1 : Nat) : Int) + 1) = _
              rw [e2]
              exact atI_nat (vs_at hy)
            have eL : Hm.lss Ent.t es3 (2 * pl + 1) (2 * pl + 1 + 1) = decide (x.t < y.t) := by
              unfold Hm.lss
              rw [hx, hy]
            by_cases z : x.t < y.t
            · rw [show decide (y.t ≤ x.t) = false from decide_eq_false (by omega)]
              refine iteF ⟨2 * pl + 1, ?_, ⟨_, _, rfl⟩, rfl⟩
              unfold Hm.child
              rw [if_neg (fun w => by rw [eL, decide_eq_true z] at w; exact Bool.noConfusion w.2)]
            · rw [show decide (y.t ≤ x.t) = true from decide_eq_true (by omega)]
              refine iteT ⟨_, rfl, _, _, rfl, rfl, 2 * pl + 1 + 1, ?_, ⟨some (.int (0 + (i : Int))), some (.int ((2 * pl + 1 : Nat) : Int)), ?_⟩, rfl⟩
              · unfold Hm.child
                rw [if_pos ⟨d', by rw [eL, decide_eq_false z]⟩]
              · dsimp only
                rw [e2]
                rfl
          · have d' : ¬ 2 * pl + 1 + 1 < es3.length := fun z => d (decide_eq_true (by rw [vs_len]; omega))
            refine iteF ⟨2 * pl + 1, ?_, ⟨_, _, rfl⟩, rfl⟩
            unfold Hm.child
            rw [if_neg (fun w => d' w.1)]
        · rintro σ' H' ⟨cc, ec, ⟨z4, z5, rfl⟩, rfl⟩
          have hc1 := Hm.child_lt Ent.t es3 pl c'
          have hc2 := Hm.child_lo Ent.t es3 pl
          rw [← ec] at hc1 hc2 eD
          obtain ⟨y, hy⟩ : ∃ y, es3[cc]? = some y := ⟨_, List.getElem?_eq_getElem hc1⟩
          obtain ⟨z, hz⟩ : ∃ z, es3[pl]? = some z := ⟨_, List.getElem?_eq_getElem hp3⟩
          refine ⟨_, rfl, _, rfl, l, _, _, y.v, rfl, rfl, SqL.of h3, atI_nat (vs_at hy), _, rfl, _, rfl, l, _, _, z.v, rfl, rfl, SqL.of h3, atI_nat (vs_at hz), (by show 2 ≤ sizeLine; decide), fun U nU => ?_⟩
          have npU : l ≠ U := ne_of_none h3 nU
          refine ⟨U, [y.v, z.v], rfl, SqT.of upd_same, rfl, _, _, rfl, ?_⟩
          have h1 : (upd H' U (.tup [y.v, z.v])) l = some (.lst (vsOf es3)) := by
            rw [upd_ne npU]
            exact h3
          refine ⟨_, rfl, _, rfl, l, _, _, pl, rfl, rfl, h1, ixN_nat (by rw [vs_len]; exact hp3), _, _, rfl, ?_⟩
          refine ⟨_, rfl, _, rfl, l, _, _, cc, rfl, rfl, upd_same, ixN_nat (by rw [List.length_set, vs_len]; exact hc1), rfl, ?_⟩
          rw [upd_upd]
          refine ⟨_, rfl, ?_⟩
          have es4 : ((vsOf es3).set pl y.v).set cc z.v = vsOf (Hm.swp es3 pl cc) := by
            rw [Hm.swp_eq hz hy, vs_set, vs_set]
          have kU : Kp [l] H' (upd (upd H' U (.tup [y.v, z.v])) l (.lst (((vsOf es3).set pl y.v).set cc z.v))) := ((Kp.refl _ _).new nU).wr (List.mem_singleton.mpr rfl)
          refine ⟨Hm.swp es3 pl cc, cc, _, _, _, rfl, kp_same s3 nl kU, ?_, ?_, ?_, ?_, ?_, ?_⟩
          · rw [upd_same, es4]
          · exact (he3.kp kU h3).perm (Hm.swp_perm _ _ _)
          · rw [Hm.swp_len]
            exact hc1
          · rw [Hm.swp_len]
            exact hl3
          · rw [Nat.pow_succ]
            omega
          · rw [← eD]
            exact hr3
    · obtain ⟨es3, pl, y4, y5, y6, rfl, s3, h3, he3, hp3, hl3, hpw, hr3⟩ := hW
      have : (2 : Nat) ^ 64 ≤ 6001 := by omega
      exact absurd this (by decide)
/-! ### _law_push -/
def spLwPush : Sp := fun vs H Q _ => ∃ (p : Addr) (es : List Ent) (e : Ent), vs = [.ref p, e.v] ∧ H p = some (.lst (vsOf es)) ∧ Ents H es ∧ EntAt H e ∧ es.length ≤ 5000 ∧
  ∀ H' l, Same H H' → H l = none → H' l = some (.lst (vsOf (Hm.push Ent.t es e))) → Q (.ref l) H'
theorem vs_app1 {es : List Ent} {e : Ent} : vsOf es ++ [e.v] = vsOf (es ++ [e]) := by
  show _ = List.map Ent.v _
  rw [List.map_append]
  rfl
theorem ents_app1 {H : Hp} {es : List Ent} {e : Ent} (h : Ents H es) (he : EntAt H e) : Ents H (es ++ [e]) := fun x hx => by
  rcases List.mem_append.mp hx with hx | hx
  · exact h x hx
  · rw [List.mem_singleton.mp hx]
    exact he
theorem ok_lwPush (T : Txt K mg) : FnOk P w K mg base CX0 2 T.aLwPush T.dLwPush ["_law_lot", "_law_pair"] spLwPush := by
  have GLwUp : FnOk P w K mg base CX0 1 T.aLwUp T.dLwUp ["_law_lot", "_law_top", "_law_place"] spLwUp := ok_up T
  refine T.fLwPush.ok scLwPush (fun vs H Q E h => ?_) (fun cdv A outer s H vs Q E hr h => ?_)
  · obtain ⟨p, es, e, rfl, _⟩ := h
    rfl
  · obtain ⟨p, es, e, rfl, hp, he, hE, hl, q⟩ := h
    refine ⟨_, (pss_one (ps_ret (pe_call GLwUp (hr.mono (by decide)) (by rfl) T.gLwUp T.fLwUp.kp T.bLwUp .nil pass0 (pa_cons (pe_op op_cat (pv 0) (pe_lst (pa_cons (pv 1) pa_nil))) (pa_cons pe_int (pa_cons (pe_callB call_len_seq (by rfl) T.n_len PySem.boot_len (pa_cons (pv 0) pa_nil)) pa_nil)))))), ?_⟩
    refine ⟨_, rfl, _, rfl, (by show 1 ≤ sizeLine; decide), fun U nU => ?_⟩
    have s1 := same_new (o := .lst [e.v]) nU
    refine ⟨p, U, _, _, rfl, rfl, s1 _ _ hp, upd_same, ?_, fun C nC => ?_⟩
    · rw [vs_len]
      exact Nat.le_trans (show es.length + 1 ≤ 100000 by omega) (by decide)
    rw [vs_app1]
    have s2 := same_new (o := .lst (vsOf (es ++ [e]))) nC
    have s12 := s1.trans s2
    refine ⟨_, rfl, p, _, rfl, .inl (SqL.of (s12 _ _ hp)), C, es ++ [e], 0, es.length, ?_, upd_same, ents_app1 (he.same s12) (s12 _ _ hE), ?_, ?_, fun H' l s' nl h' => ?_⟩
    · rw [vs_len]
      rfl
    · rw [List.length_append]
      show es.length < es.length + 1
      omega
    · rw [List.length_append]
      show es.length + 1 ≤ 6000
      omega
    · exact q H' l (s12.trans s') (s12.free nl) h'
end
end K15

namespace K15
open PySem PySem.Spec PyProof.Rows L2
theorem cut_mid {xs : List V} (h : 2 ≤ xs.length) : cutV xs (some 1) (some (-1)) = (xs.drop 1).dropLast := by
  unfold cutV
  have e1 : HT.sIx xs.length 0 (some 1) = 1 := by
    show (if (1 : Int) < 0 then ((1 : Int) + (xs.length : Int)).toNat else min (1 : Int).toNat xs.length) = 1
    rw [if_neg (by decide)]
    show min 1 xs.length = 1
    omega
  have e2 : HT.sIx xs.length xs.length (some (-1)) = xs.length - 1 := by
    show (if (-1 : Int) < 0 then ((-1 : Int) + (xs.length : Int)).toNat else min (-1 : Int).toNat xs.length) = _
    rw [if_pos (by decide)]
    omega
  rw [e1, e2, List.dropLast_eq_take, List.length_drop]
theorem pop_two {es : List Ent} {x y : Ent} {r : List Ent} (h : es = x :: y :: r) : Hm.popL Ent.t es = Hm.sink Ent.t ((es.getLast (by rw [h]; exact List.cons_ne_nil _ _)) :: (es.drop 1).dropLast) 0 := by
  subst h
  unfold Hm.popL
  rw [List.getLast?_eq_some_getLast (List.cons_ne_nil _ _)]
  show (if (x :: (y :: r).dropLast).isEmpty = true then [] else Hm.sink Ent.t ((x :: (y :: r).dropLast).set 0 _) 0) = _
  rfl
theorem same_wr1 {H H1 : Hp} {p : Addr} {o : HO} (s : Same H H1) (n : H p = none) : Same H (upd H1 p o) := kp_same s n ((Kp.refl _ _).wr (List.mem_singleton.mpr rfl))
section
variable {P : Program} {w : World} {K : PySem.W.Frag} {mg : Str → Option Value} {base : Heap}
def spLwPop : Sp := fun vs H Q _ => ∃ (p : Addr) (es : List Ent) (x : Ent), vs = [.ref p] ∧ H p = some (.lst (vsOf es)) ∧ Ents H es ∧ es[0]? = some x ∧ es.length ≤ 5000 ∧
  ∀ H' u l, Same H H' → H l = none → H u = none → H' u = some (.tup [x.v, .ref l]) → H' l = some (.lst (vsOf (Hm.popL Ent.t es))) → Q (.ref u) H'
theorem ok_lwPop (T : Txt K mg) : FnOk P w K mg base CX0 3 T.aLwPop T.dLwPop ["_law_lot"] spLwPop := by
  have GLwDown : FnOk P w K mg base CX0 2 T.aLwDown T.dLwDown ["_law_lot", "_law_top"] spLwDown := ok_down T
  refine T.fLwPop.ok scLwPop (fun vs H Q E h => ?_) (fun cdv A outer s H vs Q E hr h => ?_)
  · obtain ⟨p, es, x, rfl, _⟩ := h
    rfl
  · obtain ⟨p, es, x, rfl, hp, he, hx, hl, q⟩ := h
    refine ⟨_, (pss_cons (ps_if (pt_cmpR op_eq (pe_callB call_len_seq (by rfl) T.n_len PySem.boot_len (pa_cons (pv 0) pa_nil)) pe_int (nomark _))
      (pss_one (ps_ret (pe_tup (pa_cons (pe_ix (r := rIxL K) ix_list (pv 0) pe_int (fun _ _ => rfl)) (pa_cons (pe_lst pa_nil) pa_nil)))))
      pss_nil)
      (pss_one (ps_ret (pe_tup (pa_cons (pe_ix (r := rIxL K) ix_list (pv 0) pe_int (fun _ _ => rfl)) (pa_cons (pe_call GLwDown (hr.mono (by decide)) (by rfl) T.gLwDown T.fLwDown.kp T.bLwDown .nil pass0 (pa_cons (pe_op op_cat (pe_lst (pa_cons (pe_ix (r := rIxL K) ix_list (pv 0) (pe_un un_neg pe_int) (fun _ _ => rfl)) pa_nil)) (pe_slice sl_list (pv 0) (po_some pe_int) (po_some (pe_un un_neg pe_int)))) (pa_cons pe_int pa_nil))) pa_nil)))))), ?_⟩
    obtain ⟨r, rfl⟩ : ∃ r, es = x :: r := by
      cases es with
      | nil => simp at hx
      | cons a r => exact ⟨r, by rw [Option.some.inj hx]⟩
    refine ⟨_, rfl, p, _, rfl, .inl (SqL.of hp), rfl, _, rfl, ite2 (fun c => ?_) (fun c => ?_)⟩
    · have c' : ((vsOf (x :: r)).length : Int) = 1 := V.int.inj (of_decide_eq_true c)
      have r0 : r = [] := by
        rw [vs_len, List.length_cons] at c'
        exact List.length_eq_zero_iff.mp (by omega)
      subst r0
      refine ⟨_, rfl, p, _, 0, x.v, rfl, rfl, SqL.of hp, atI_nat (j := 0) rfl, Nat.zero_le _, fun l nl => ⟨(by show 2 ≤ sizeLine; decide), fun u nu => ?_⟩⟩
      have s1 := same_new (o := .lst []) nl
      have s2 := same_new (o := .tup [x.v, .ref l]) nu
      exact q _ u l (s1.trans s2) nl (s1.free nu) upd_same (s2 _ _ upd_same)
    · obtain ⟨y, t, rfl⟩ : ∃ y t, r = y :: t := by
        cases r with
        | nil => exact absurd (decide_eq_true rfl) c
        | cons y t => exact ⟨y, t, rfl⟩
      have hz : vsOf (x :: y :: t) = vsOf (x :: y :: t).dropLast ++ [((x :: y :: t).getLast (List.cons_ne_nil _ _)).v] := by
        rw [vs_app1, List.dropLast_concat_getLast]
      have gl : atI (vsOf (x :: y :: t)) (-1) = some ((x :: y :: t).getLast (List.cons_ne_nil _ _)).v := by
        rw [hz]
        exact atI_last _ _
      refine ⟨_, rfl, p, _, 0, x.v, rfl, rfl, SqL.of hp, atI_nat (j := 0) rfl, _, rfl, 1, rfl, p, _, -1, _, rfl, rfl, SqL.of hp, gl, (by show 1 ≤ sizeLine; decide), fun U nU => ?_⟩
      have s1 := same_new (o := .lst [((x :: y :: t).getLast (List.cons_ne_nil _ _)).v]) nU
      refine ⟨_, rfl, 1, rfl, 1, rfl, -1, rfl, p, _, rfl, SqL.of (s1 _ _ hp), fun C nC => ?_⟩
      have em : cutV (vsOf (x :: y :: t)) (some 1) (some (-1)) = vsOf ((x :: y :: t).drop 1).dropLast := by
        rw [cut_mid (by rw [vs_len]; exact Nat.le_add_left 2 t.length)]
        show ((List.map Ent.v (x :: y :: t)).drop 1).dropLast = List.map Ent.v _
        rw [List.map_dropLast, List.map_drop]
      refine ⟨U, C, _, _, rfl, rfl, same_new nC _ _ upd_same, upd_same, ?_, fun D nD => ?_⟩
      · rw [em, vs_len, List.length_dropLast, List.length_drop]
        exact Nat.le_trans (show 1 + ((x :: y :: t).length - 1 - 1) ≤ 6000 by omega) (by decide)
      rw [em] at nD ⊢
      have s2 := same_new (o := .lst (vsOf ((x :: y :: t).drop 1).dropLast)) nC
      have ev : [((x :: y :: t).getLast (List.cons_ne_nil _ _)).v] ++ vsOf ((x :: y :: t).drop 1).dropLast = vsOf (((x :: y :: t).getLast (List.cons_ne_nil _ _)) :: ((x :: y :: t).drop 1).dropLast) := rfl
      rw [ev]
      have s3 := same_new (o := .lst (vsOf (((x :: y :: t).getLast (List.cons_ne_nil _ _)) :: ((x :: y :: t).drop 1).dropLast))) nD
      have s13 := s1.trans (s2.trans s3)
      have hsub : Ents H (((x :: y :: t).getLast (List.cons_ne_nil _ _)) :: ((x :: y :: t).drop 1).dropLast) := he.sub fun z hz => by
        rcases List.mem_cons.mp hz with rfl | hz
        · exact List.getLast_mem _
        · exact List.mem_of_mem_drop ((List.dropLast_sublist _).subset hz)
      refine ⟨D, _, 0, rfl, upd_same, hsub.same s13, by show 0 < _ + 1; omega, ?_, fun H' l s' nl h' => ?_⟩
      · rw [List.length_cons, List.length_dropLast, List.length_drop]
        omega
      refine ⟨(by show 2 ≤ sizeLine; decide), fun u nu => ?_⟩
      have s4 := same_new (o := .tup [x.v, .ref l]) nu
      have sx := s13.trans s'
      refine q _ u l (sx.trans s4) (s13.free nl) (sx.free nu) upd_same (s4 _ _ ?_)
      rw [pop_two rfl]
      exact h'
/-! ### _law_made -/
def spLwMade : Sp := fun vs H Q _ => ∃ (p : Addr) (es : List Ent), vs = [.ref p] ∧ H p = some (.lst (vsOf es)) ∧ Ents H es ∧ es.length ≤ 5000 ∧
  ∀ H' l, Same H H' → H l = none → H' l = some (.lst (vsOf (Hm.heapify Ent.t es))) → Q (.ref l) H'
theorem ok_made (T : Txt K mg) : FnOk P w K mg base CX0 3 T.aLwMade T.dLwMade ["_law_lot"] spLwMade := by
  have GLwDown : FnOk P w K mg base CX0 2 T.aLwDown T.dLwDown ["_law_lot", "_law_top"] spLwDown := ok_down T
  refine T.fLwMade.ok scLwMade (fun vs H Q E h => ?_) (fun cdv A outer s H vs Q E hr h => ?_)
  · obtain ⟨p, es, rfl, _⟩ := h
    rfl
  · obtain ⟨p, es, rfl, hp, he, hl, q⟩ := h
    refine ⟨_, (pss_cons (ps_set (i := 1) scLwMade.nd rfl (.inl rfl) (pe_callTy call_list_of (by rfl) T.n_list (by decide +kernel) (pa_cons (pv 0) pa_nil)))
      (pss_cons (ps_for PassesOwn.never rfl (pi_range3 (by rfl) T.n_range (pa_cons (pe_op op_sub (pe_op op_fdiv (pe_callB call_len_seq (by rfl) T.n_len PySem.boot_len (pa_cons (pv 0) pa_nil)) pe_int) pe_int) (pa_cons (pe_un un_neg pe_int) (pa_cons (pe_un un_neg pe_int) pa_nil)))) (pg_name (i := 2) scLwMade.nd rfl (.inl rfl))
      (pss_one (ps_set (i := 1) scLwMade.nd rfl (.inl rfl) (pe_call GLwDown (hr.mono (by decide)) (by rfl) T.gLwDown T.fLwDown.kp T.bLwDown .nil pass0 (pa_cons (pv 1) (pa_cons (pv 2) pa_nil))))))
      (pss_one (ps_ret (pv 1))))), ?_⟩
    refine ⟨_, rfl, p, _, rfl, .inl (SqL.of hp), fun l nl => ?_⟩
    have s1 := same_new (o := .lst (vsOf es)) nl
    have e1 : ((vsOf es).length : Int) / 2 - 1 = ((es.length / 2 : Nat) : Int) - 1 := by
      rw [vs_len]
      omega
    refine ⟨_, rfl, p, _, rfl, .inl (SqL.of (s1 _ _ hp)), _, _, rfl, rfl, ⟨by decide, by decide⟩, _, _, rfl, rfl, _, rfl, _, rfl, _, _, _, es.length / 2, rfl, ?_, ?_⟩
    · have : (((es.length / 2 : Nat) : Int) - 1 - (-1)).toNat = es.length / 2 := by omega
      rw [e1]
      rw [← this]
      have r := RgC.neg (i := ((es.length / 2 : Nat) : Int) - 1) (j := -1) (by omega) (by omega) (by omega) (by omega)
      rw [this] at r ⊢
      exact r
    refine for_rangeC (fun i σ H3 => ∃ (es3 : List Ent) (f3 : Addr) (y2 : Option V), σ = [some (.ref p), some (.ref f3), y2] ∧ es3.length = es.length ∧ Same H H3 ∧ H f3 = none ∧ H3 f3 = some (.lst (vsOf es3)) ∧ Ents H3 es3 ∧ Hm.heapTo Ent.t (es.length / 2 - i) es3 = Hm.heapify Ent.t es)
      ⟨es, l, none, rfl, rfl, s1, nl, upd_same, he.same s1, rfl⟩ (fun i σ H3 hi hW => ?_) (fun σ H3 hW => ?_)
    · obtain ⟨es3, f3, y2, rfl, l3, s3, n3, hp3, he3, r3⟩ := hW
      have e2 : ((vsOf es).length : Int) / 2 - 1 + (i : Int) * (-1) = ((es.length / 2 - i - 1 : Nat) : Int) := by
        rw [e1]
        omega
      dsimp only [gName]
      rw [e2]
      refine ⟨_, rfl, _, rfl, f3, es3, es.length / 2 - i - 1, rfl, hp3, he3, by omega, by omega, fun H' l' s' nl' h' => ?_⟩
      refine ⟨Hm.sink Ent.t es3 (es.length / 2 - i - 1), l', _, rfl, by rw [Hm.sink_len]; exact l3, s3.trans s', s3.free nl', h', (he3.same s').perm (Hm.sink_perm _ _ _), ?_⟩
      rw [← r3, show es.length / 2 - i = (es.length / 2 - i - 1) + 1 by omega]
      rfl
    · obtain ⟨es3, f3, y2, rfl, l3, s3, n3, hp3, he3, r3⟩ := hW
      refine ⟨_, rfl, q H3 f3 s3 n3 ?_⟩
      rw [← r3, Nat.sub_self]
      exact hp3
/-! ### _law_is_heap -/
theorem dp_ints1 {K : PySem.W.Frag} {H : Hp} : ∀ ns : List Int, DpAll K H (ns.map V.int) (ns.map PyData.int)
  | [] => .nil
  | n :: r => .cons (.int n) (dp_ints1 r)
theorem lay_ints1 : ∀ ns : List Int, PyData.canLayAll0 (ns.map PyData.int) = true
  | [] => rfl
  | n :: r => by
    show (PyData.canLay0 (.int n) && PyData.canLayAll0 (r.map PyData.int)) = true
    rw [lay_ints1 r]
    rfl
theorem depth_ints1 : ∀ ns : List Int, PyData.depthAll (ns.map PyData.int) ≤ 0
  | [] => Nat.zero_le _
  | n :: r => by
    show max (PyData.depth (.int n)) (PyData.depthAll (r.map PyData.int)) ≤ 0
    exact Nat.max_le.mpr ⟨Nat.le_refl 0, depth_ints1 r⟩
theorem shaped_ints1 (ns : List Int) : SeqAt.shaped (.list (ns.map PyData.int)) = true := by
  unfold SeqAt.shaped
  refine Bool.and_eq_true_iff.mpr ⟨lay_ints1 ns, decide_eq_true ?_⟩
  show PyData.depthAll (ns.map PyData.int) + 1 ≤ 64
  have := depth_ints1 ns
  omega
end
end K15

namespace K15
open PySem PySem.Spec PyProof.Rows L2
theorem inV_ints (k : Int) (ns : List Int) : inV (.int k) (ns.map V.int) = decide (k ∈ ns) := by
  unfold inV
  rw [Bool.eq_iff_iff, List.any_eq_true, decide_eq_true_iff]
  constructor
  · rintro ⟨x, hx, e⟩
    obtain ⟨n, hn, rfl⟩ := List.mem_map.mp hx
    have e' : (n == k) = true := e
    rw [← beq_iff_eq.mp e']
    exact hn
  · intro h
    exact ⟨.int k, List.mem_map.mpr ⟨k, h, rfl⟩, (beq_self_eq_true k : (k == k) = true)⟩
theorem flat_ints (ns : List Int) : (ns.map V.int).all flatV = true := by
  rw [List.all_eq_true]
  intro x hx
  obtain ⟨n, _, rfl⟩ := List.mem_map.mp hx
  rfl
section
variable {P : Program} {w : World} {K : PySem.W.Frag} {mg : Str → Option Value} {base : Heap}
/-! ### _law_swept -/
def spLwSwept : Sp := fun vs H Q _ => ∃ (p lg : Addr) (es : List Ent) (ns : List Int) (k : Int), vs = [.ref p, .ref lg, .int k] ∧ H p = some (.lst (vsOf es)) ∧ Ents H es ∧ es.length ≤ 5000 ∧ H lg = some (.lst (ns.map V.int)) ∧
  ∀ H' u l, Same H H' → H' u = some (.tup [.ref l, .int (Hm.swept Ent.t (fun x => decide (x.k ∈ ns)) es k).2]) → H' l = some (.lst (vsOf (Hm.swept Ent.t (fun x => decide (x.k ∈ ns)) es k).1)) → Q (.ref u) H'
theorem ok_lwSwept (T : Txt K mg) : FnOk P w K mg base CX0 4 T.aLwSwept T.dLwSwept ["_law_lot", "_law_lost", "_law_tally"] spLwSwept := by
  have GLwMade : FnOk P w K mg base CX0 3 T.aLwMade T.dLwMade ["_law_lot"] spLwMade := ok_made T
  have GLwPop : FnOk P w K mg base CX0 3 T.aLwPop T.dLwPop ["_law_lot"] spLwPop := ok_lwPop T
  refine T.fLwSwept.ok scLwSwept (fun vs H Q E h => ?_) (fun cdv A outer s H vs Q E hr h => ?_)
  · obtain ⟨p, lg, es, ns, k, rfl, _⟩ := h
    rfl
  · obtain ⟨p, lg, es, ns, k, rfl, hp, he, hl, hg, q⟩ := h
    refine ⟨_, (Evl.pss_cut (ps_if (PW.pt (pw_and (pt_cmpR op_gt (pe_callB call_len_seq (by rfl) T.n_len PySem.boot_len (pa_cons (pv 0) pa_nil)) pe_int (nomark _)) (pw_and1 (pt_cmpR op_gt (pe_op op_mul pe_int (pv 2)) (pe_callB call_len_seq (by rfl) T.n_len PySem.boot_len (pa_cons (pv 0) pa_nil)) (nomark _)))))
      (pss_one (ps_ret (pe_tup (pa_cons (pe_call GLwMade (hr.mono (by decide)) (by rfl) T.gLwMade T.fLwMade.kp T.bLwMade .nil pass0 (pa_cons (pe_lc (own := [("_law_row", 4)]) (g := gName 4) rfl scLwSwept.nd (pi_list (pv 0)) (blkOk_by (own := [("_law_row", 4)]) (N := ["_law_lot", "_law_lost", "_law_tally", "_law_turn", "_law_row"]) (sc := defScope sLwSwept) (by decide +kernel)) (fun _ _ _ _ _ => (pg_name (i := 4) scLwSwept.nd rfl (.inl rfl))) (fun _ _ _ _ _ => (pts_one (pt_cmpR (r := rIn K true) op_notIn_seq (pe_ix (r := rIxT K) ix_tup (pv 4) pe_int (fun _ _ => rfl)) (pv 1) (by rfl)))) (fun _ _ _ _ _ => (pv 4))) pa_nil)) (pa_cons pe_int pa_nil)))))
      pss_nil)
      (pss_cons (ps_for PassesOwn.never rfl (pi_range1 (by rfl) T.n_range (pa_cons (pe_callB call_len_seq (by rfl) T.n_len PySem.boot_len (pa_cons (pv 0) pa_nil)) pa_nil)) (pg_name (i := 3) scLwSwept.nd rfl (.inl rfl))
      (pss_cons (ps_if (pt_cmpR (r := rIn K true) op_notIn_seq (pe_ix (r := rIxT K) ix_tup (pe_ix (r := rIxL K) ix_list (pv 0) pe_int (fun _ _ => rfl)) pe_int (fun _ _ => rfl)) (pv 1) (by rfl))
        (pss_one (ps_ret (pe_tup (pa_cons (pv 0) (pa_cons (pv 2) pa_nil)))))
        pss_nil)
        (pss_cons (ps_set (i := 0) scLwSwept.nd rfl (.inl rfl) (pe_ix (r := rIxT K) ix_tup (pe_call GLwPop (hr.mono (by decide)) (by rfl) T.gLwPop T.fLwPop.kp T.bLwPop .nil pass0 (pa_cons (pv 0) pa_nil)) pe_int (fun _ _ => rfl)))
        (pss_one (ps_set (i := 2) scLwSwept.nd rfl (.inl rfl) (pe_op op_sub (pv 2) pe_int))))))
      (pss_one (ps_ret (pe_tup (pa_cons (pv 0) (pa_cons (pv 2) pa_nil))))))), ?_⟩
    refine ⟨fun σ H' => σ = [some (V.ref p), some (V.ref lg), some (.int k), none, none] ∧ Same H H' ∧ ¬ (100 < es.length ∧ (es.length : Int) < 2 * k), ?_, ?_⟩
    · refine ⟨_, rfl, p, _, rfl, .inl (SqL.of hp), _, _, rfl, rfl, _, rfl, ite2 (fun c1 => ?_) (fun c1 => ?_)⟩
      rotate_left
      · refine iteF ⟨rfl, Same.refl _, fun z => c1 ?_⟩
        rw [vs_len]
        exact decide_eq_true (by omega)
      have c1' : 100 < es.length := by
        have := of_decide_eq_true c1
        rw [vs_len] at this
        omega
      refine ⟨_, rfl, _, _, rfl, rfl, .inl ⟨by decide, by decide⟩, _, rfl, p, _, rfl, .inl (SqL.of hp), _, _, rfl, rfl, _, rfl, ite2 (fun c2 => ?_) (fun c2 => ?_)⟩
      rotate_left
      · refine ⟨rfl, Same.refl _, fun z => c2 ?_⟩
        rw [vs_len]
        exact decide_eq_true z.2
      have c2' : (es.length : Int) < 2 * k := by
        have := of_decide_eq_true c2
        rw [vs_len] at this
        exact this
      refine ⟨_, rfl, p, rfl, ⟨_, SqL.of hp⟩, fun D nD => ?_⟩
      refine lcFil (es := es) (fun x => !decide (x.k ∈ ns)) hl ?hw hp nD he (fun e H4 Zq hm hE s4 hz => ?_) (fun e H4 Yq hy => ⟨_, rfl, hy⟩) (fun H4 s4 hD => ?_)
      case hw => exact fun x => rfl
      · refine ⟨_, rfl, _, _, 1, .int e.k, rfl, rfl, SqT.of hE, atI_nat (j := 1) rfl, _, rfl, lg, _, rfl, .inl (SqL.of (s4 _ _ hg)), rfl, flat_ints ns, _, rfl, ?_⟩
        rw [if_pos rfl, inV_ints]
        exact hz
      · have hd4 : Ents H4 (es.filter fun x => !decide (x.k ∈ ns)) := fun y hy => s4 _ _ (he y (List.mem_filter.mp hy).1)
        refine ⟨D, _, rfl, hD, hd4, Nat.le_trans (List.length_filter_le _ _) hl, fun H5 l5 s5 n5 h5 => ?_⟩
        refine ⟨(by show 2 ≤ sizeLine; decide), fun u nu => ?_⟩
        have s6 := same_new (o := .tup [.ref l5, .int 0]) nu
        have ev : Hm.swept Ent.t (fun x => decide (x.k ∈ ns)) es k = (Hm.heapify Ent.t (es.filter fun x => !decide (x.k ∈ ns)), 0) := if_pos ⟨c1', c2'⟩
        refine q _ u l5 (s4.trans (s5.trans s6)) ?_ ?_
        · rw [ev]
          exact upd_same
        · rw [ev]
          exact s6 _ _ h5
    rintro σ H4 ⟨rfl, s4, hno⟩
    have ev : Hm.swept Ent.t (fun x => decide (x.k ∈ ns)) es k = Hm.sweep Ent.t (fun x => decide (x.k ∈ ns)) es.length es k := if_neg hno
    rw [ev] at q
    have hp4 := s4 _ _ hp
    refine ⟨_, rfl, p, _, rfl, .inl (SqL.of hp4), _, rfl, by omega, by rw [vs_len]; omega, ?_⟩
    rw [show (((vsOf es).length : Nat) : Int).toNat = es.length by rw [vs_len]; omega]
    have done : ∀ H7 (l : Addr) (cc : Int), Same H H7 → cc = (Hm.sweep Ent.t (fun x => decide (x.k ∈ ns)) es.length es k).2 → H7 l = some (.lst (vsOf (Hm.sweep Ent.t (fun x => decide (x.k ∈ ns)) es.length es k).1)) → ∀ u, H7 u = none → Q (.ref u) (upd H7 u (.tup [.ref l, .int cc])) := fun H7 l cc s7 ec h7 u nu => by
      have s8 := same_new (o := .tup [.ref l, .int cc]) nu
      refine q _ u l (s7.trans s8) ?_ (s8 _ _ h7)
      rw [ec]
      exact upd_same
    refine for_range (n := es.length) (fun i σ H5 => ∃ (l : Addr) (xs : List Ent) (c : Int) (y : Option V), σ = [some (V.ref l), some (V.ref lg), some (.int c), y, none] ∧ Same H H5 ∧ H5 l = some (.lst (vsOf xs)) ∧ Ents H5 xs ∧ xs.length + i = es.length ∧
        Hm.sweep Ent.t (fun x => decide (x.k ∈ ns)) xs.length xs c = Hm.sweep Ent.t (fun x => decide (x.k ∈ ns)) es.length es k)
      ⟨p, es, k, _, rfl, s4, hp4, he.same s4, rfl, rfl⟩ (fun i σ H5 hi hW => ?_) (fun σ H5 hW => ?_)
    · obtain ⟨l, xs, c, y, rfl, s5, hl5, he5, hlen, r5⟩ := hW
      cases xs with
      | nil =>
        exact absurd hlen (by show ¬ (0 + i = es.length); omega)
      | cons x r =>
        have hx := he5 x List.mem_cons_self
        refine ⟨_, rfl, l, _, 0, x.v, rfl, rfl, SqL.of hl5, atI_nat (j := 0) rfl, _, _, 1, .int x.k, rfl, rfl, SqT.of hx, atI_nat (j := 1) rfl, _, rfl, lg, _, rfl, .inl (SqL.of (s5 _ _ hg)), rfl, flat_ints ns, _, rfl, ?_⟩
        rw [if_pos rfl, inV_ints]
        by_cases d : decide (x.k ∈ ns) = true
        · rw [Hm.sweep_yes (g := fun x : Ent => decide (x.k ∈ ns)) (x := x) d] at r5
          rw [d]
          have ll : (x :: r).length = r.length + 1 := rfl
          have lp := Hm.pop_len Ent.t (l := x :: r) (List.cons_ne_nil _ _)
          refine iteF ⟨_, rfl, l, x :: r, x, rfl, hl5, he5, rfl, by omega, fun H6 u6 l6 s6 nl6 nu6 hu6 hl6 => ?_⟩
          refine ⟨u6, _, 1, _, rfl, rfl, SqT.of hu6, atI_nat (j := 1) rfl, _, rfl, _, _, rfl, rfl, l6, Hm.popL Ent.t (x :: r), c - 1, _, rfl, s5.trans s6, hl6, fun y hy => s6 _ _ (he5 y (Hm.pop_mem hy)), by omega, r5⟩
        · rw [Hm.sweep_no (g := fun x : Ent => decide (x.k ∈ ns)) (x := x) d] at r5
          rw [show decide (x.k ∈ ns) = false by simpa using d]
          refine iteT ⟨_, rfl, _, rfl, (by show 2 ≤ sizeLine; decide), done _ l c s5 (by rw [← r5]) (by rw [← r5]; exact hl5)⟩
    · obtain ⟨l, xs, c, y, rfl, s5, hl5, he5, hlen, r5⟩ := hW
      have : xs = [] := List.eq_nil_of_length_eq_zero (by omega)
      subst this
      rw [Hm.sweep_nil] at r5
      exact ⟨_, rfl, _, rfl, (by show 2 ≤ sizeLine; decide), done _ l c s5 (by rw [← r5]) (by rw [← r5]; exact hl5)⟩
/-! ### _law_due -/
def spLwDue : Sp := fun vs H Q _ => ∃ (p : Addr) (es : List Ent) (now : Int), vs = [.ref p, .int now] ∧ H p = some (.lst (vsOf es)) ∧ Ents H es ∧ es.length ≤ 5000 ∧
  ∀ H' u o l, Same H H' → H' u = some (.tup [.ref o, .ref l]) → H' o = some (.lst (vsOf (Hm.ripe Ent.t now es.length es).1)) → H' l = some (.lst (vsOf (Hm.ripe Ent.t now es.length es).2)) → Q (.ref u) H'
theorem ok_due (T : Txt K mg) : FnOk P w K mg base CX0 4 T.aLwDue T.dLwDue ["_law_lot", "_law_moment"] spLwDue := by
  have GLwPop : FnOk P w K mg base CX0 3 T.aLwPop T.dLwPop ["_law_lot"] spLwPop := ok_lwPop T
  refine T.fLwDue.ok scLwDue (fun vs H Q E h => ?_) (fun cdv A outer s H vs Q E hr h => ?_)
  · obtain ⟨p, es, now, rfl, _⟩ := h
    rfl
  · obtain ⟨p, es, now, rfl, hp, he, hl, q⟩ := h
    refine ⟨_, (pss_cons (ps_set (i := 2) scLwDue.nd rfl (.inl rfl) (pe_lst pa_nil))
      (pss_cons (ps_for PassesOwn.never rfl (pi_range1 (by rfl) T.n_range (pa_cons (pe_callB call_len_seq (by rfl) T.n_len PySem.boot_len (pa_cons (pv 0) pa_nil)) pa_nil)) (pg_name (i := 3) scLwDue.nd rfl (.inl rfl))
      (pss_cons (ps_if (pt_cmpR op_gt (pe_ix (r := rIxT K) ix_tup (pe_ix (r := rIxL K) ix_list (pv 0) pe_int (fun _ _ => rfl)) pe_int (fun _ _ => rfl)) (pv 1) (nomark _))
        (pss_one (ps_ret (pe_tup (pa_cons (pv 2) (pa_cons (pv 0) pa_nil)))))
        pss_nil)
        (pss_cons (ps_asg (pe_call GLwPop (hr.mono (by decide)) (by rfl) T.gLwPop T.fLwPop.kp T.bLwPop .nil pass0 (pa_cons (pv 0) pa_nil)) (pg_tup rfl (pgs_cons (pg_name (i := 4) scLwDue.nd rfl (.inl rfl)) (pgs_cons (pg_name (i := 0) scLwDue.nd rfl (.inl rfl)) pgs_nil))))
        (pss_one (ps_expr (pe_bm PySem.F.plainAttrs_list PySem.F.slot_list_append PySem.F.type_list_append mt_append (pv 2) (pa_cons (pv 4) pa_nil)))))))
      (pss_one (ps_ret (pe_tup (pa_cons (pv 2) (pa_cons (pv 0) pa_nil))))))), ?_⟩
    refine ⟨Nat.zero_le _, fun o no => ?_⟩
    have s1 := same_new (o := .lst []) no
    refine ⟨_, rfl, p, _, rfl, .inl (SqL.of (s1 _ _ hp)), _, rfl, by omega, by rw [vs_len]; omega, ?_⟩
    rw [show (((vsOf es).length : Nat) : Int).toNat = es.length by rw [vs_len]; omega]
    have done : ∀ H7 (l : Addr), Same H H7 → H7 o = some (.lst (vsOf (Hm.ripe Ent.t now es.length es).1)) → H7 l = some (.lst (vsOf (Hm.ripe Ent.t now es.length es).2)) → ∀ u, H7 u = none → Q (.ref u) (upd H7 u (.tup [.ref o, .ref l])) := fun H7 l s7 h6 h7 u nu => by
      have s8 := same_new (o := .tup [.ref o, .ref l]) nu
      exact q _ u o l (s7.trans s8) upd_same (s8 _ _ h6) (s8 _ _ h7)
    refine for_range (n := es.length) (fun i σ H5 => ∃ (l : Addr) (os xs : List Ent) (y z : Option V), σ = [some (V.ref l), some (.int now), some (.ref o), y, z] ∧ Same H H5 ∧ H5 o = some (.lst (vsOf os)) ∧ H5 l = some (.lst (vsOf xs)) ∧ Ents H5 os ∧ Ents H5 xs ∧ l ≠ o ∧ os.length = i ∧ xs.length + i = es.length ∧
        os ++ (Hm.ripe Ent.t now xs.length xs).1 = (Hm.ripe Ent.t now es.length es).1 ∧ (Hm.ripe Ent.t now xs.length xs).2 = (Hm.ripe Ent.t now es.length es).2)
      ⟨p, [], es, _, _, rfl, s1, upd_same, s1 _ _ hp, (fun e z => nomatch z), he.same s1, ne_of_none hp no, rfl, rfl, rfl, rfl⟩ (fun i σ H5 hi hW => ?_) (fun σ H5 hW => ?_)
    · obtain ⟨l, os, xs, y, z, rfl, s5, ho5, hl5, heo, he5, nlo, hol, hlen, r1, r2⟩ := hW
      cases xs with
      | nil => exact absurd hlen (by show ¬ (0 + i = es.length); omega)
      | cons x r =>
        have hx := he5 x List.mem_cons_self
        refine ⟨_, rfl, l, _, 0, x.v, rfl, rfl, SqL.of hl5, atI_nat (j := 0) rfl, _, _, 0, .int x.t, rfl, rfl, SqT.of hx, atI_nat (j := 0) rfl, _, rfl, _, _, rfl, rfl, _, rfl, ite2 (fun c => ?_) (fun c => ?_)⟩
        · have c' : ¬ x.t ≤ now := by
            have := of_decide_eq_true c
            omega
          rw [Hm.ripe_no c'] at r1 r2
          rw [List.append_nil] at r1
          refine ⟨_, rfl, _, rfl, (by show 2 ≤ sizeLine; decide), done _ l s5 (by rw [← r1]; exact ho5) (by rw [← r2]; exact hl5)⟩
        · have c' : x.t ≤ now := Int.not_lt.mp fun z => c (decide_eq_true z)
          rw [Hm.ripe_yes c'] at r1 r2
          have ll : (x :: r).length = r.length + 1 := rfl
          have lp := Hm.pop_len Ent.t (l := x :: r) (List.cons_ne_nil _ _)
          refine ⟨_, rfl, l, x :: r, x, rfl, hl5, he5, rfl, by omega, fun H6 u6 l6 s6 nl6 nu6 hu6 hl6 => ?_⟩
          have ho6 := s6 _ _ ho5
          have nl6o : l6 ≠ o := fun z => by
            rw [z, ho5] at nl6
            cases nl6
          refine ⟨u6, _, rfl, SqT.of hu6, rfl, _, _, rfl, _, _, rfl, rfl, ?_⟩
          refine ⟨_, rfl, .inl ⟨rfl, _, SqL.of ho6⟩, _, rfl, o, _, _, rfl, rfl, ho6, ?_, ?_⟩
          · rw [vs_len]
            exact Nat.lt_of_le_of_lt (show os.length ≤ 5000 by omega) (by decide)
          have k6 : Kp [o] H6 (upd H6 o (.lst (vsOf os ++ [x.v]))) := (Kp.refl _ _).wr (List.mem_singleton.mpr rfl)
          refine ⟨l6, os ++ [x], Hm.popL Ent.t (x :: r), _, _, rfl, kp_same (s5.trans s6) no k6, by rw [upd_same, vs_app1], ?_, ?_, ?_, nl6o, by rw [List.length_append, hol]; rfl, by omega, ?_, r2⟩
          · rw [upd_ne nl6o]
            exact hl6
          · exact Ents.kp (H := H6) (ents_app1 (heo.same s6) (s6 _ _ hx)) k6 ho6
          · exact Ents.kp (H := H6) (fun y hy => s6 _ _ (he5 y (Hm.pop_mem hy))) k6 ho6
          · rw [← r1, List.append_assoc]
            rfl
    · obtain ⟨l, os, xs, y, z, rfl, s5, ho5, hl5, heo, he5, nlo, hol, hlen, r1, r2⟩ := hW
      have : xs = [] := List.eq_nil_of_length_eq_zero (by omega)
      subst this
      rw [Hm.ripe_nil] at r1 r2
      rw [List.append_nil] at r1
      exact ⟨_, rfl, _, rfl, (by show 2 ≤ sizeLine; decide), done _ l s5 (by rw [← r1]; exact ho5) (by rw [← r2]; exact hl5)⟩
end
end K15

namespace K15
open PySem PySem.Spec PyProof.Rows L2
theorem well_ne {H : Hp} {pw p : Addr} {n : Int} {es : List Ent} (h : Well H pw n) (hp : H p = some (.lst (vsOf es))) : p ≠ pw := fun z => by
  obtain ⟨a, b, c, e, _⟩ := h
  rw [z, e] at hp
  have := HO.lst.inj (Option.some.inj hp)
  cases es with
  | nil => cases this
  | cons x r => cases this
theorem well_ent {H : Hp} {pw : Addr} {n : Int} {e : Ent} (h : Well H pw n) (he : EntAt H e) : e.a ≠ pw := fun z => by
  obtain ⟨a, b, c, e1, _⟩ := h
  unfold EntAt at he
  rw [z, e1] at he
  cases he
theorem Ents.well {H H' : Hp} {pw : Addr} {n : Int} {es : List Ent} (h : Ents H es) (w : Well H pw n) (k : Kp [pw] H H') : Ents H' es := fun e he => k _ _ (fun z => well_ent w (h e he) (List.mem_singleton.mp z)) (h e he)
theorem free_kp {H H' : Hp} {pw l : Addr} {n : Int} (k : Kp [pw] H H') (w : Well H' pw n) (h : H' l = none) : H l = none := by
  have e : l ≠ pw := fun z => by
    obtain ⟨a, b, c, e, _⟩ := w
    rw [z, e] at h
    cases h
  cases z : H l with
  | none => rfl
  | some o =>
    rw [k l o (fun m => e (List.mem_singleton.mp m)) z] at h
    cases h
theorem well_new {H : Hp} {pw l : Addr} {n : Int} (w : Well H pw n) (h : H l = none) : l ≠ pw := fun z => by
  obtain ⟨a, b, c, e, _⟩ := w
  rw [z, e] at h
  cases h
theorem cut_mem {xs : List V} {lo hi : Option Int} {v : V} (h : v ∈ cutV xs lo hi) : v ∈ xs := by
  unfold cutV at h
  exact List.mem_of_mem_drop (List.mem_of_mem_take h)
section
variable {P : Program} {w : World} {K : PySem.W.Frag} {mg : Str → Option Value} {base : Heap}
def spLwScene : Sp := fun vs H Q _ => ∃ (pw : Addr) (n : Int), vs = [.ref pw] ∧ Well H pw n ∧ n ≤ 1000000000 ∧ ∀ H' (u l lg : Addr) (es : List Ent) (ns : List Int) (tally : Int), Kp [pw] H H' → Well H' pw (n + 1000) → H' u = some (.tup [.ref l, .ref lg, .int tally]) → H' l = some (.lst (vsOf es)) → Ents H' es → es.length ≤ 160 → H' lg = some (.lst (ns.map V.int)) → lg ≠ pw → ns.length ≤ 1000 → 0 ≤ tally → Q (.ref u) H'
theorem ok_scene (T : Txt K mg) : FnOk P w K mg base CX0 3 T.aLwScene T.dLwScene ["_law_well_here"] spLwScene := by
  have GLwDraw : FnOk P w K mg base CX0 1 T.aLwDraw T.dLwDraw ["_law_well_here", "_law_many"] spLwDraw := ok_draw T
  have GLwPick : FnOk P w K mg base CX0 2 T.aLwPick T.dLwPick ["_law_well_here", "_law_some"] spLwPick := ok_pick T
  have GLwPush : FnOk P w K mg base CX0 2 T.aLwPush T.dLwPush ["_law_lot", "_law_pair"] spLwPush := ok_lwPush T
  refine T.fLwScene.ok scLwScene (fun vs H Q E h => ?_) (fun cdv A outer s H vs Q E hr h => ?_)
  · obtain ⟨pw, n, rfl, _⟩ := h
    rfl
  · obtain ⟨pw, n, rfl, hw, hn, q⟩ := h
    refine ⟨_, (pss_cons (ps_set (i := 1) scLwScene.nd rfl (.inl rfl) (pe_call GLwPick (hr.mono (by decide)) (by rfl) T.gLwPick T.fLwPick.kp T.bLwPick .nil pass0 (pa_cons (pv 0) (pa_cons (pe_lst (pa_cons (pe_call GLwDraw (hr.mono (by decide)) (by rfl) T.gLwDraw T.fLwDraw.kp T.bLwDraw .nil pass0 (pa_cons (pv 0) (pa_cons pe_int pa_nil))) (pa_cons pe_int (pa_cons pe_int (pa_cons pe_int (pa_cons pe_int (pa_cons (pe_call GLwDraw (hr.mono (by decide)) (by rfl) T.gLwDraw T.fLwDraw.kp T.bLwDraw .nil pass0 (pa_cons (pv 0) (pa_cons pe_int pa_nil))) pa_nil))))))) pa_nil))))
      (pss_cons (ps_set (i := 2) scLwScene.nd rfl (.inl rfl) (pe_call GLwPick (hr.mono (by decide)) (by rfl) T.gLwPick T.fLwPick.kp T.bLwPick .nil pass0 (pa_cons (pv 0) (pa_cons (pe_lst (pa_cons pe_int (pa_cons pe_int (pa_cons (pe_op op_pow pe_int pe_int) pa_nil)))) pa_nil))))
      (pss_cons (ps_set (i := 3) scLwScene.nd rfl (.inl rfl) (pe_lst pa_nil))
      (pss_cons (ps_for PassesOwn.never rfl (pi_range1 (by rfl) T.n_range (pa_cons (pv 1) pa_nil)) (pg_name (i := 4) scLwScene.nd rfl (.inl rfl))
      (pss_one (ps_set (i := 3) scLwScene.nd rfl (.inl rfl) (pe_call GLwPush (hr.mono (by decide)) (by rfl) T.gLwPush T.fLwPush.kp T.bLwPush .nil pass0 (pa_cons (pv 3) (pa_cons (pe_tup (pa_cons (pe_call GLwDraw (hr.mono (by decide)) (by rfl) T.gLwDraw T.fLwDraw.kp T.bLwDraw .nil pass0 (pa_cons (pv 0) (pa_cons (pv 2) pa_nil))) (pa_cons (pv 4) pa_nil))) pa_nil))))))
      (pss_cons (ps_set (i := 5) scLwScene.nd rfl (.inr rfl) (pe_call GLwPick (hr.mono (by decide)) (by rfl) T.gLwPick T.fLwPick.kp T.bLwPick .nil pass0 (pa_cons (pv 0) (pa_cons (pe_lst (pa_cons pe_int (pa_cons pe_int (pa_cons pe_int pa_nil)))) pa_nil))))
      (pss_cons (ps_setLc (i := 6) (own := [("_law_row", 9)]) (g := gName 9) rfl scLwScene.nd rfl rfl (sw_true rfl rfl rfl (by decide +kernel)) (pi_list (pe_slice sl_list (pv 3) po_none (po_some (pe_call GLwDraw (hr.mono (by decide)) (by rfl) T.gLwDraw T.fLwDraw.kp T.bLwDraw .nil pass0 (pa_cons (pv 0) (pa_cons pe_int pa_nil)))))) (blkOk_by (own := [("_law_row", 9)]) (N := ["_law_well_here", "_law_many", "_law_top", "_law_lot", "_law_k", "_law_part", "_law_lost", "_law_about", "_law_tally", "_law_row"]) (sc := defScope sLwScene) (by decide +kernel)) (fun _ _ _ _ _ => (pg_name (i := 9) scLwScene.nd rfl (.inl rfl))) (fun _ _ _ _ _ => pts_nil) (fun _ _ _ _ _ => (pe_ix (r := rIxT K) ix_tup (pv 9) pe_int (fun _ _ => rfl))))
      (pss_cons (ps_set (i := 6) scLwScene.nd rfl (.inl rfl) (pe_op op_cat (pe_op op_cat (pv 6) (pe_lc (own := [("_law_k", 4)]) (g := gName 4) rfl scLwScene.nd (pi_range1 (by rfl) T.n_range (pa_cons (pv 1) pa_nil)) (blkOk_by (own := [("_law_k", 4)]) (N := ["_law_well_here", "_law_many", "_law_top", "_law_lot", "_law_k", "_law_part", "_law_lost", "_law_about", "_law_tally", "_law_row"]) (sc := defScope sLwScene) (by decide +kernel)) (fun _ _ _ _ _ => (pg_name (i := 4) scLwScene.nd rfl (.inl rfl))) (fun _ _ _ _ _ => (pts_one (pt_cmpR op_eq (pe_call GLwDraw (hr.mono (by decide)) (by rfl) T.gLwDraw T.fLwDraw.kp T.bLwDraw .nil pass0 (pa_cons (pv 0) (pa_cons (pv 5) pa_nil))) pe_int (nomark _)))) (fun _ _ _ _ _ => (pv 4)))) (pe_op op_rep (pe_lst (pa_cons (pe_op op_add (pv 1) pe_int) pa_nil)) (pe_call GLwDraw (hr.mono (by decide)) (by rfl) T.gLwDraw T.fLwDraw.kp T.bLwDraw .nil pass0 (pa_cons (pv 0) (pa_cons pe_int pa_nil))))))
      (pss_cons (ps_set (i := 7) scLwScene.nd rfl (.inl rfl) (pe_op op_sub (pe_op op_add (pe_op op_fdiv (pv 1) pe_int) (pe_call GLwDraw (hr.mono (by decide)) (by rfl) T.gLwDraw T.fLwDraw.kp T.bLwDraw .nil pass0 (pa_cons (pv 0) (pa_cons pe_int pa_nil)))) pe_int))
      (pss_cons (ps_set (i := 8) scLwScene.nd rfl (.inl rfl) (pe_call GLwPick (hr.mono (by decide)) (by rfl) T.gLwPick T.fLwPick.kp T.bLwPick .nil pass0 (pa_cons (pv 0) (pa_cons (pe_lst (pa_cons (pe_callB (call_max2 rfl) (by rfl) T.n_max (by decide +kernel) (pa_cons pe_int (pa_cons (pv 7) pa_nil))) (pa_cons (pe_call GLwDraw (hr.mono (by decide)) (by rfl) T.gLwDraw T.fLwDraw.kp T.bLwDraw .nil pass0 (pa_cons (pv 0) (pa_cons (pe_op op_add (pv 1) pe_int) pa_nil))) (pa_cons (pe_callB call_len_seq (by rfl) T.n_len PySem.boot_len (pa_cons (pv 6) pa_nil)) pa_nil)))) pa_nil))))
      (pss_one (ps_ret (pe_tup (pa_cons (pv 3) (pa_cons (pv 6) (pa_cons (pv 8) pa_nil))))))))))))))), ?_⟩
    refine ⟨_, rfl, _, rfl, pw, 12, n, rfl, hw, by omega, by decide, by decide, fun r1 H1 rr1 k1 w1 => ?_⟩
    refine ⟨_, rfl, pw, 161, _, rfl, w1, by omega, by decide, by decide, fun r2 H2 rr2 k2 w2 => ?_⟩
    refine ⟨(by show 6 ≤ sizeLine; decide), fun u3 n3 => ?_⟩
    have s3 := same_new (o := .lst [V.int r1, V.int 99, V.int 100, V.int 101, V.int 102, V.int r2]) n3
    have h3 : (upd H2 u3 (.lst [V.int r1, V.int 99, V.int 100, V.int 101, V.int 102, V.int r2])) u3 = some (.lst [V.int r1, V.int 99, V.int 100, V.int 101, V.int 102, V.int r2]) := upd_same
    have w3 := w2.same s3
    have d3 := well_new w2 n3
    generalize upd H2 u3 (.lst [V.int r1, V.int 99, V.int 100, V.int 101, V.int 102, V.int r2]) = H3 at s3 h3 w3 ⊢
    refine ⟨pw, u3, _, _, rfl, w3, by omega, h3, d3, Nat.succ_pos _, (by show 6 ≤ 100000; decide), fun v H4 hv k4 w4 => ?_⟩
    obtain ⟨m, rfl, hm⟩ : ∃ m : Nat, v = .int (m : Int) ∧ m ≤ 160 := by
      have a1 := rr1.lo
      have b1 := rr1.hi
      have a2 := rr2.lo
      have b2 := rr2.hi
      simp only [List.mem_cons, List.not_mem_nil, or_false] at hv
      rcases hv with rfl | rfl | rfl | rfl | rfl | rfl
      · exact ⟨r1.toNat, by rw [Int.toNat_of_nonneg a1], by omega⟩
      · exact ⟨99, rfl, by decide⟩
      · exact ⟨100, rfl, by decide⟩
      · exact ⟨101, rfl, by decide⟩
      · exact ⟨102, rfl, by decide⟩
      · exact ⟨r2.toNat, by rw [Int.toNat_of_nonneg a2], by omega⟩
    have k04 : Kp [pw] H H4 := k1.trans (k2.trans ((Same.kp s3 _).trans k4))
    refine ⟨_, rfl, _, _, rfl, rfl, ⟨by decide, by decide, by decide⟩, (by show 3 ≤ sizeLine; decide), fun u5 n5 => ?_⟩
    have s5 := same_new (o := .lst [V.int 2, V.int 6, V.int (10 ^ (25 : Int).toNat)]) n5
    have h5 : (upd H4 u5 (.lst [V.int 2, V.int 6, V.int (10 ^ (25 : Int).toNat)])) u5 = some (.lst [V.int 2, V.int 6, V.int (10 ^ (25 : Int).toNat)]) := upd_same
    have w5 := w4.same s5
    have d5 := well_new w4 n5
    generalize upd H4 u5 (.lst [V.int 2, V.int 6, V.int (10 ^ (25 : Int).toNat)]) = H5 at s5 h5 w5 ⊢
    refine ⟨pw, u5, _, _, rfl, w5, by omega, h5, d5, Nat.succ_pos _, (by show 3 ≤ 100000; decide), fun v H6 hv6 k6 w6 => ?_⟩
    obtain ⟨top, rfl, ht0, ht1⟩ : ∃ top : Int, v = .int top ∧ 0 < top ∧ top < 2 ^ 200 := by
      simp only [List.mem_cons, List.not_mem_nil, or_false] at hv6
      rcases hv6 with rfl | rfl | rfl
      · exact ⟨_, rfl, by decide, by decide⟩
      · exact ⟨_, rfl, by decide, by decide⟩
      · exact ⟨_, rfl, by decide, by decide⟩
    have k06 : Kp [pw] H H6 := k04.trans ((Same.kp s5 _).trans k6)
    clear hv hv6 h3 h5
    refine ⟨Nat.zero_le _, fun u7 n7 => ?_⟩
    have s7 := same_new (o := .lst []) n7
    have h7 : (upd H6 u7 (.lst [])) u7 = some (.lst []) := upd_same
    have w7 := w6.same s7
    have d7 := well_new w6 n7
    generalize upd H6 u7 (.lst []) = H7 at s7 h7 w7 ⊢
    have k07 : Kp [pw] H H7 := k06.trans (Same.kp s7 _)
    refine ⟨_, rfl, _, rfl, by omega, by omega, ?_⟩
    rw [show ((m : Nat) : Int).toNat = m by omega]
    refine for_range (n := m) (fun i σ H8 => ∃ (l : Addr) (es : List Ent) (y : Option V), σ = [some (V.ref pw), some (.int m), some (.int top), some (.ref l), y, none, none, none, none, none] ∧ Kp [pw] H H8 ∧ Well H8 pw (n + 1 + 1 + 1 + 1 + i) ∧ H8 l = some (.lst (vsOf es)) ∧ Ents H8 es ∧ es.length = i)
      ⟨u7, [], _, rfl, k07, w7.mono (by omega), h7, (fun e z => nomatch z), rfl⟩ (fun i σ H8 hi hW => ?_) (fun σ H8 hW => ?_)
    · obtain ⟨l, es, y, rfl, k8, w8, hl8, he8, len⟩ := hW
      have nl := well_ne w8 hl8
      refine ⟨_, rfl, _, rfl, _, rfl, pw, top, _, rfl, w8, by omega, ht0, ht1, fun t H9 rr9 k9 w9 => ?_⟩
      refine ⟨_, rfl, (by show 2 ≤ sizeLine; decide), fun u nu => ?_⟩
      have s10 := same_new (o := .tup [.int t, .int (0 + (i : Int))]) nu
      have hl10 := s10 _ _ (k9 _ _ (fun z => nl (List.mem_singleton.mp z)) hl8)
      have he10 := (he8.well w8 k9).same s10
      have hu : EntAt (upd H9 u (.tup [.int t, .int (0 + (i : Int))])) ⟨u, t, 0 + (i : Int)⟩ := by
        unfold EntAt
        exact upd_same
      have w10 := w9.same s10
      generalize upd H9 u (.tup [.int t, .int (0 + (i : Int))]) = H10 at s10 hl10 he10 hu w10 ⊢
      refine ⟨l, es, ⟨u, t, 0 + (i : Int)⟩, rfl, hl10, he10, hu, by omega, fun H11 l11 s11 n11 h11 => ?_⟩
      refine ⟨l11, _, _, rfl, k8.trans (k9.trans ((Same.kp s10 _).trans (Same.kp s11 _))), (w10.same s11).mono (by omega), h11, fun x hx => ?_, ?_⟩
      · rcases List.mem_cons.mp ((Hm.push_perm Ent.t es _).mem_iff.mp hx) with z | z
        · rw [z]
          exact s11 _ _ hu
        · exact s11 _ _ (he10 x z)
      · rw [(Hm.push_perm Ent.t es _).length_eq]
        show es.length + 1 = i + 1
        omega
    obtain ⟨l, es, y, rfl, k8, w8, hl8, he8, len⟩ := hW
    have nl := well_ne w8 hl8
    refine ⟨_, rfl, (by show 3 ≤ sizeLine; decide), fun u9 n9 => ?_⟩
    have s9 := same_new (o := .lst [V.int 2, V.int 3, V.int 9]) n9
    have h9 : (upd H8 u9 (.lst [V.int 2, V.int 3, V.int 9])) u9 = some (.lst [V.int 2, V.int 3, V.int 9]) := upd_same
    have w9 := w8.same s9
    have d9 := well_new w8 n9
    generalize upd H8 u9 (.lst [V.int 2, V.int 3, V.int 9]) = H9 at s9 h9 w9 ⊢
    refine ⟨pw, u9, _, _, rfl, w9, by omega, h9, d9, Nat.succ_pos _, (by show 3 ≤ 100000; decide), fun v H10 hv k10 w10 => ?_⟩
    obtain ⟨part, rfl, hp0, hp1⟩ : ∃ part : Int, v = .int part ∧ 0 < part ∧ part < 2 ^ 200 := by
      simp only [List.mem_cons, List.not_mem_nil, or_false] at hv
      rcases hv with rfl | rfl | rfl
      · exact ⟨_, rfl, by decide, by decide⟩
      · exact ⟨_, rfl, by decide, by decide⟩
      · exact ⟨_, rfl, by decide, by decide⟩
    have hl10 := k10 _ _ (fun z => nl (List.mem_singleton.mp z)) (s9 _ _ hl8)
    have he10 := (he8.same s9).well w9 k10
    have k010 : Kp [pw] H H10 := k8.trans ((Same.kp s9 _).trans k10)
    clear hv h9
    refine ⟨_, rfl, _, rfl, pw, 6, _, rfl, w10, by omega, by decide, by decide, fun r H11 rr11 k11 w11 => ?_⟩
    have hl11 := k11 _ _ (fun z => nl (List.mem_singleton.mp z)) hl10
    have he11 := he10.well w10 k11
    refine ⟨_, rfl, l, _, rfl, SqL.of hl11, fun u12 n12 => ?_⟩
    have s12 := same_new (o := .lst (cutV (vsOf es) none (some r))) n12
    have h12 : (upd H11 u12 (.lst (cutV (vsOf es) none (some r)))) u12 = some (.lst (cutV (vsOf es) none (some r))) := upd_same
    have w12 := w11.same s12
    have d12 := well_new w11 n12
    generalize upd H11 u12 (.lst (cutV (vsOf es) none (some r))) = H12 at s12 h12 w12 ⊢
    have hl12 := s12 _ _ hl11
    have he12 := he11.same s12
    have k012 : Kp [pw] H H12 := k010.trans (k11.trans (Same.kp s12 _))
    have c1 := cutV_length (vsOf es) none (some r)
    rw [vs_len] at c1
    refine ⟨u12, rfl, ⟨_, SqL.of h12⟩, fun D nD => ?_⟩
    have nDp := well_new w12 nD
    refine lcLY (xs := cutV (vsOf es) none (some r)) (fun i acc H' => Same H12 H' ∧ ∃ ms : List Int, acc = ms.map V.int ∧ ms.length = i) (by omega) ?hw (fun i acc H' r => SqL.of (r.1 _ _ h12)) ⟨same_new nD, [], rfl, rfl⟩ (fun i x acc H' Yq hx r hD hy => ?_) (fun acc H13 r hD => ?_)
    case hw => exact fun x => rfl
    · obtain ⟨s', ms, rfl, lm⟩ := r
      obtain ⟨e, hm', rfl⟩ := List.mem_map.mp (cut_mem (List.mem_of_getElem? hx))
      have hE := s' _ _ (he12 e hm')
      refine ⟨_, rfl, _, _, 1, .int e.k, rfl, rfl, SqT.of hE, atI_nat (j := 1) rfl, hy _ _ hD ⟨same_wr1 s' nD, ms ++ [e.k], by rw [List.map_append] <;> rfl, by rw [List.length_append, lm] <;> rfl⟩⟩
    obtain ⟨s13, ms, rfl, lm⟩ := r
    have w13 := w12.same s13
    have hl13 := s13 _ _ hl12
    have he13 := he12.same s13
    have k013 : Kp [pw] H H13 := k012.trans (Same.kp s13 _)
    -- lost + [..] + [..] * ..
    refine ⟨_, rfl, _, rfl, _, rfl, by omega, by omega, fun D2 nD2 => ?_⟩
    have nD2p := well_new w13 nD2
    rw [show ((m : Nat) : Int).toNat = m by omega]
    refine lcR (n := m) (fun i acc H' => Kp [pw] H13 H' ∧ Well H' pw (n + 1 + 1 + 1 + 1 + m + 1 + 1 + i) ∧ ∃ ks : List Int, acc = ks.map V.int ∧ ks.length ≤ i) (by omega) ?hw ⟨(Kp.refl _ _).new nD2, (w13.same (same_new nD2)).mono (by omega), [], rfl, Nat.le_refl _⟩ (fun i acc H' Yq Zq hi r hD hy hz => ?_) (fun acc H14 r hD2 => ?_)
    case hw => exact fun x => rfl
    · obtain ⟨kk, ww, ks, rfl, lk⟩ := r
      refine ⟨_, rfl, _, rfl, pw, part, _, rfl, ww, by omega, hp0, hp1, fun t H15 rr15 k15 w15 => ?_⟩
      have hD15 := k15 _ _ (fun z => nD2p (List.mem_singleton.mp z)) hD
      refine ⟨rfl, _, rfl, ite2 (fun c => ?_) (fun c => ?_)⟩
      · refine ⟨_, rfl, hy _ _ hD15 ⟨fun b o hb e => ?_, ?_, ks ++ [0 + (i : Int)], by rw [List.map_append] <;> rfl, by rw [List.length_append]; show ks.length + 1 ≤ i + 1; omega⟩⟩
        · rw [upd_ne (ne_of_none e nD2)]
          exact k15 b o hb (kk b o hb e)
        · obtain ⟨x0, x1, x2, x3, x4, x5⟩ := w15
          exact ⟨x0, x1, x2, by rw [upd_ne (Ne.symm nD2p)]; exact x3, x4, by omega⟩
      · exact hz _ hD15 ⟨kk.trans k15, w15.mono (by omega), ks, rfl, by omega⟩
    obtain ⟨k14, w14, ks, rfl, lk⟩ := r
    have hD14 := k14 _ _ (fun z => nDp (List.mem_singleton.mp z)) hD
    have hl14 := k14 _ _ (fun z => nl (List.mem_singleton.mp z)) hl13
    have he14 := he13.well w13 k14
    refine ⟨D, D2, _, _, rfl, rfl, hD14, hD2, ?_, fun u15 n15 => ?_⟩
    · rw [List.length_map, List.length_map]
      exact Nat.le_trans (show ms.length + ks.length ≤ 1000 by omega) (by decide)
    have s15 := same_new (o := .lst (ms.map V.int ++ ks.map V.int)) n15
    have h15 : (upd H14 u15 (.lst (ms.map V.int ++ ks.map V.int))) u15 = some (.lst (ms.map V.int ++ ks.map V.int)) := upd_same
    have w15 := w14.same s15
    have d15 := well_new w14 n15
    generalize upd H14 u15 (.lst (ms.map V.int ++ ks.map V.int)) = H15 at s15 h15 w15 ⊢
    refine ⟨_, rfl, _, _, rfl, rfl, (by show 1 ≤ sizeLine; decide), fun u16 n16 => ?_⟩
    have s16 := same_new (o := .lst [V.int ((m : Int) + 7)]) n16
    have h16 : (upd H15 u16 (.lst [V.int ((m : Int) + 7)])) u16 = some (.lst [V.int ((m : Int) + 7)]) := upd_same
    have w16 := w15.same s16
    have d16 := well_new w15 n16
    generalize upd H15 u16 (.lst [V.int ((m : Int) + 7)]) = H16 at s16 h16 w16 ⊢
    refine ⟨_, rfl, pw, 2, _, rfl, w16, by omega, by decide, by decide, fun r17 H17 rr17 k17 w17 => ?_⟩
    have a17 := rr17.lo
    have b17 := rr17.hi
    have h16' := k17 _ _ (fun z => d16 (List.mem_singleton.mp z)) h16
    have h15' := k17 _ _ (fun z => d15 (List.mem_singleton.mp z)) (s16 _ _ h15)
    refine ⟨u16, _, _, rfl, rfl, h16', by omega, by omega, ?_, fun u18 n18 => ?_⟩
    · exact Nat.le_trans (show 1 * r17.toNat ≤ 1000 by omega) (by decide)
    obtain ⟨zs, hz, lz⟩ : ∃ zs : List Int, (List.replicate r17.toNat [V.int ((m : Int) + 7)]).flatten = zs.map V.int ∧ zs.length ≤ 1 := by
      have : r17.toNat = 0 ∨ r17.toNat = 1 := by omega
      rcases this with e | e
      · rw [e]
        exact ⟨[], rfl, by decide⟩
      · rw [e]
        exact ⟨[(m : Int) + 7], rfl, Nat.le_refl 1⟩
    rw [hz]
    have s18 := same_new (o := .lst (zs.map V.int)) n18
    have h18 : (upd H17 u18 (.lst (zs.map V.int))) u18 = some (.lst (zs.map V.int)) := upd_same
    have w18 := w17.same s18
    have d18 := well_new w17 n18
    generalize upd H17 u18 (.lst (zs.map V.int)) = H18 at s18 h18 w18 ⊢
    refine ⟨u15, u18, _, _, rfl, rfl, s18 _ _ h15', h18, ?_, fun u19 n19 => ?_⟩
    · rw [List.length_append, List.length_map, List.length_map, List.length_map]
      exact Nat.le_trans (show ms.length + ks.length + zs.length ≤ 1000 by omega) (by decide)
    rw [show ms.map V.int ++ ks.map V.int ++ zs.map V.int = (ms ++ ks ++ zs).map V.int by rw [List.map_append, List.map_append]]
    have lns : (ms ++ ks ++ zs).length ≤ 1000 := by
      rw [List.length_append, List.length_append]
      omega
    generalize hns : ms ++ ks ++ zs = ns at lns ⊢
    have s19 := same_new (o := .lst (ns.map V.int)) n19
    have h19 : (upd H18 u19 (.lst (ns.map V.int))) u19 = some (.lst (ns.map V.int)) := upd_same
    have w19 := w18.same s19
    have d19 := well_new w18 n19
    generalize upd H18 u19 (.lst (ns.map V.int)) = H19 at s19 h19 w19 ⊢
    have k1419 : Kp [pw] H14 H19 := (Same.kp s15 _).trans ((Same.kp s16 _).trans (k17.trans ((Same.kp s18 _).trans (Same.kp s19 _))))
    have hl19 := k1419 _ _ (fun z => nl (List.mem_singleton.mp z)) hl14
    have he19 := he14.well w14 k1419
    have k019 : Kp [pw] H H19 := k013.trans (k14.trans k1419)
    clear h15 h16 h18 h15' h16' hD14 hD2 hD hl14 he14 hl13 he13 hl12 he12 hl11 he11 hl10 he10 h12
    refine ⟨_, rfl, _, _, rfl, rfl, ⟨by decide, by decide⟩, _, rfl, pw, 5, _, rfl, w19, by omega, by decide, by decide, fun r20 H20 rr20 k20 w20 => ?_⟩
    refine ⟨_, _, rfl, rfl, _, _, rfl, rfl, ?_⟩
    have h20 := k20 _ _ (fun z => d19 (List.mem_singleton.mp z)) h19
    have hl20 := k20 _ _ (fun z => nl (List.mem_singleton.mp z)) hl19
    have he20 := he19.well w19 k20
    refine ⟨_, rfl, _, rfl, _, _, rfl, _, rfl, _, rfl, _, _, rfl, rfl, pw, (m : Int) + 20, _, rfl, w20, by omega, by omega, ?_, fun r21 H21 rr21 k21 w21 => ?_⟩
    · exact Int.lt_of_le_of_lt (show (m : Int) + 20 ≤ 180 by omega) (by decide)
    have h21 := k21 _ _ (fun z => d19 (List.mem_singleton.mp z)) h20
    have hl21 := k21 _ _ (fun z => nl (List.mem_singleton.mp z)) hl20
    have he21 := he20.well w20 k21
    refine ⟨_, rfl, u19, _, rfl, .inl (SqL.of h21), (by show 3 ≤ sizeLine; decide), fun u22 n22 => ?_⟩
    have s22 := same_new (o := .lst [V.int (if (m : Int) / 2 + r20 - 2 > 0 then (m : Int) / 2 + r20 - 2 else 0), V.int r21, V.int (((ns.map V.int).length : Nat) : Int)]) n22
    have h22 : (upd H21 u22 (.lst [V.int (if (m : Int) / 2 + r20 - 2 > 0 then (m : Int) / 2 + r20 - 2 else 0), V.int r21, V.int (((ns.map V.int).length : Nat) : Int)])) u22 = some (.lst [V.int (if (m : Int) / 2 + r20 - 2 > 0 then (m : Int) / 2 + r20 - 2 else 0), V.int r21, V.int (((ns.map V.int).length : Nat) : Int)]) := upd_same
    have w22 := w21.same s22
    have d22 := well_new w21 n22
    generalize upd H21 u22 (.lst [V.int (if (m : Int) / 2 + r20 - 2 > 0 then (m : Int) / 2 + r20 - 2 else 0), V.int r21, V.int (((ns.map V.int).length : Nat) : Int)]) = H22 at s22 h22 w22 ⊢
    refine ⟨pw, u22, _, _, rfl, w22, by omega, h22, d22, Nat.succ_pos _, (by show 3 ≤ 100000; decide), fun v H23 hv k23 w23 => ?_⟩
    obtain ⟨tally, rfl, ht⟩ : ∃ tally : Int, v = .int tally ∧ 0 ≤ tally := by
      have a21 := rr21.lo
      simp only [List.mem_cons, List.not_mem_nil, or_false] at hv
      rcases hv with rfl | rfl | rfl
      · refine ⟨_, rfl, ?_⟩
        split <;> omega
      · exact ⟨_, rfl, a21⟩
      · exact ⟨_, rfl, by omega⟩
    have h23 := k23 _ _ (fun z => d19 (List.mem_singleton.mp z)) (s22 _ _ h21)
    have hl23 := k23 _ _ (fun z => nl (List.mem_singleton.mp z)) (s22 _ _ hl21)
    have he23 := (he21.same s22).well w22 k23
    refine ⟨_, rfl, _, rfl, _, rfl, (by show 3 ≤ sizeLine; decide), fun u24 n24 => ?_⟩
    have s24 := same_new (o := .tup [.ref l, .ref u19, .int tally]) n24
    refine q _ u24 l u19 es ns tally (k019.trans (k20.trans (k21.trans ((Same.kp s22 _).trans (k23.trans (Same.kp s24 _)))))) ((w23.same s24).mono (by omega)) upd_same (s24 _ _ hl23) (he23.same s24) (by omega) (s24 _ _ h23) d19 lns ht
end
end K15

namespace LamT
open PySem PySem.Spec PyProof.Rows L2 LamX NdefX
section
variable {P : Program} {w : World} {K : PySem.W.Frag} {mg : Str → Option Value} {base : Heap}
/-- lambda: x(y, z, t) -/
theorem lok3 {F : LF} {f g : Addr} {fd : FuncData} {x y z t a b d : Str} {sp : Sp} {k : Nat} {p1 p2 p3 p4 p5 : Pos} (G : FnOk P w K mg base (L2.CX P w) k g fd [a, b, d] sp) (hm : mg x = some (.ref g)) (kp : PySem.W.keepIn K (.ref g) = true) (B : Binds K fd [a, b, d] [])
    (hb : F.body = .Call (.Name x p1) [.Name y p2, .Name z p4, .Name t p5] [] p3) {sc : Scope} (hs : F.scope = sc) (S : NScope [y, z, t] [] [y, z, t] sc) (hx : sc.names.lookup x = some .globalImplicit) (hbind : ∀ pm ctv : Value, bindArgs (PySem.W.kla_fn "<lambda>" F.qual F.params F.body F.scope F.cl pm (.ref F.c) ctv) ⟨[], []⟩ = pure [])
    (dx : (x == ("__debug__" : Str)) = false) (dy : (y == ("__debug__" : Str)) = false) (cy : (y == ("__classdict__" : Str)) = false) (dz : (z == ("__debug__" : Str)) = false) (cz : (z == ("__classdict__" : Str)) = false) (dt : (t == ("__debug__" : Str)) = false) (ct : (t == ("__classdict__" : Str)) = false) :
    LOk P w K mg base (L2.CX P w) (k + 1) f F [y, z, t] (fun ws H Q E => ∃ v u o, ws = [some v, some u, some o] ∧ sp [v, u, o] H Q E) := by
  subst hs
  refine lok_of S hbind fun A outer s H ws Q E room len q => ?_
  obtain ⟨v, u, o, rfl, q⟩ := q
  rw [hb]
  refine ⟨_, pe_call (CX := L2.CX P w) (E := E) G room hx hm kp B .nil (passes_call (takes_of rfl rfl rfl rfl) (fun _ _ _ _ h => h))
    (pa_cons (pe_var (i := 0) rfl (.inr (.inr (S.frk y (by simp)))) dy cy) (pa_cons (pe_var (i := 1) rfl (.inr (.inr (S.frk z (by simp)))) dz cz) (pa_cons (pe_var (i := 2) rfl (.inr (.inr (S.frk t (by simp)))) dt ct) pa_nil))) dx, ?_⟩
  exact ⟨v, rfl, u, rfl, o, rfl, q⟩
/-- lambda: x(y, z, -n) -/
theorem lok2n {F : LF} {f g : Addr} {fd : FuncData} {x y z a b d : Str} {n : Int} {cj : Nat} {sp : Sp} {k : Nat} {p1 p2 p3 p4 p5 p6 : Pos} (G : FnOk P w K mg base (L2.CX P w) k g fd [a, b, d] sp) (hm : mg x = some (.ref g)) (kp : PySem.W.keepIn K (.ref g) = true) (B : Binds K fd [a, b, d] [])
    (hb : F.body = .Call (.Name x p1) [.Name y p2, .Name z p4, .UnaryOp .USub (.Constant (.int n) cj p5) p6] [] p3) {sc : Scope} (hs : F.scope = sc) (S : NScope [y, z] [] [y, z] sc) (hx : sc.names.lookup x = some .globalImplicit) (hbind : ∀ pm ctv : Value, bindArgs (PySem.W.kla_fn "<lambda>" F.qual F.params F.body F.scope F.cl pm (.ref F.c) ctv) ⟨[], []⟩ = pure [])
    (dx : (x == ("__debug__" : Str)) = false) (dy : (y == ("__debug__" : Str)) = false) (cy : (y == ("__classdict__" : Str)) = false) (dz : (z == ("__debug__" : Str)) = false) (cz : (z == ("__classdict__" : Str)) = false) :
    LOk P w K mg base (L2.CX P w) (k + 1) f F [y, z] (fun ws H Q E => ∃ v u, ws = [some v, some u] ∧ sp [v, u, .int (-n)] H Q E) := by
  subst hs
  refine lok_of S hbind fun A outer s H ws Q E room len q => ?_
  obtain ⟨v, u, rfl, q⟩ := q
  rw [hb]
  refine ⟨_, pe_call (CX := L2.CX P w) (E := E) G room hx hm kp B .nil (passes_call (takes_of rfl rfl rfl rfl) (fun _ _ _ _ h => h))
    (pa_cons (pe_var (i := 0) rfl (.inr (.inr (S.frk y (by simp)))) dy cy) (pa_cons (pe_var (i := 1) rfl (.inr (.inr (S.frk z (by simp)))) dz cz) (pa_cons (pe_un un_neg pe_int) pa_nil))) dx, ?_⟩
  exact ⟨v, rfl, u, rfl, n, rfl, q⟩
end
/-- three keyword arguments, backwards -/
def kw3 {α : Type} : List α → List α → List α
  | [], [a, b, c] => [c, b, a]
  | _, _ => []
theorem kb3 {K : PySem.W.Frag} {fd : FuncData} {a b c : Str} (h : ∀ u v w : Value, bindArgs fd ⟨[], [(c, u), (b, v), (a, w)]⟩ = pure [(a, w), (b, v), (c, u)]) : KBinds K fd [a, b, c] [c, b, a] kw3 kw3 where
  to := fun s us ws _ hl => by
    match us, ws, hl with
    | [], [u, v, w], _ => exact .of_eq (h u v w)
    | [], [], hl => cases hl
    | [], [_], hl => cases hl
    | [], [_, _], hl => cases hl
    | [], _ :: _ :: _ :: _ :: _, hl => cases hl
    | _ :: _, _, hl => cases hl
  rel := fun r rz => by
    cases r with
    | cons _ _ => exact .nil
    | nil =>
      cases rz with
      | nil => exact .nil
      | cons r1 r2 =>
        cases r2 with
        | nil => exact .nil
        | cons r3 r4 =>
          cases r4 with
          | nil => exact .nil
          | cons r5 r6 =>
            cases r6 with
            | nil => exact .cons r5 (.cons r3 (.cons r1 .nil))
            | cons _ _ => exact .nil
end LamT
namespace K15
open PySem PySem.Spec PyProof.Rows L2 LamT
structure LTxt (K : PySem.W.Frag) (mg : Str → Option Value) (base : Heap) (T : Txt K mg) where
  c : Addr
  B : Addr
  hc : T.dLaw.code = .ref c
  tb : LamX.TabB base mg c B
section
variable {P : Program} {w : World} {K : PySem.W.Frag} {mg : Str → Option Value} {base : Heap} {T : Txt K mg}
def tabs (Z : LTxt K mg base T) : List (Addr × Str) := [(Z.B, "law.<locals>." ++ "<lambda>")]
theorem oneL (Z : LTxt K mg base T) : ∀ p ∈ tabs Z, p.1 = Z.B → p.2 = ("law.<locals>." : Str) ++ "<lambda>" := fun p hp e => by
  rw [List.mem_singleton.mp hp]
theorem kbRipe (T : Txt K mg) : KBinds K T.dRipe ["rows", "now"] ["now", "rows"] kw2 kw2 := by
  obtain ⟨oc, od, kV, doc, pm, an, cdv, ct, osl, e, _, _⟩ := T.fRipe.ex
  rw [e]
  exact kb2 fun u w => rfl
theorem kbSwept (T : Txt K mg) : KBinds K T.dSwept ["rows", "gone", "count"] ["count", "gone", "rows"] kw3 kw3 := by
  obtain ⟨oc, od, kV, doc, pm, an, cdv, ct, osl, e, _, _⟩ := T.fSwept.ex
  rw [e]
  exact kb3 fun u v w => rfl
/-! ### _law_is_refused -/
def RRef (CB : Addr) : (VK → XK → Prop) → Hp → VK → Prop := fun tl _ Q => ∀ (Q' : VK) (E' : XK), (∀ v H', Q (.bl false) H' → Q' v H') → (∀ dx H', Q (.bl true) H' → E' (.ref CB) (some dx) H') → tl Q' E'
theorem ok_refused {j : Nat} (T : Txt K mg) (Y : ETxt P K mg) (exm : PySem.W.exmOne K (.ref Y.CB) (.ref Y.CB) = some true) : GOk P w K mg base (j + 1) j T.aLwIsRefused T.dLwIsRefused "_law_ask" (RRef Y.CB) := by
  refine g_of T.fLwIsRefused scLwIsRefused (fun cdv A outer s H f F fr ws sp Q hr lo hf hc C q => ?_)
  refine ⟨_, pss_cons (ps_try_only (x := "BadValue") (c := .ref Y.CB) rfl rfl ⟨by rfl, rfl, .inl Y.gCB⟩ LamX.takes0
      (fun W pn xe tk _ => pss_one (ps_expr (pe_ask (i := 0) (m := 1) lo C rfl rfl hr (Nat.le_refl _) tk rfl (.inl rfl))))
      (fun a oe cls d pn hz hfl => pss_one (ps_ret pe_bl)))
    (pss_one (ps_ret pe_bl)), ?_⟩
  refine ⟨fun cls d H' => ∀ σ' : L2.St, σ'.length = 1 → wOnly K (.ref Y.CB) _ _ _ cls d σ' H', fun cls d σ' H' h hl => h σ' hl, rfl, hf, hc, q _ _ (fun v H' hq => hq) (fun dx H' hq => ?_)⟩
  exact fun σ' hl => ⟨true, exm, fun _ a na => hq, fun z => nomatch z⟩
/-- the well and the tables stay known -/
theorem tabs_kp {Ts : List (Addr × Str)} {H H' : Hp} {pw : Addr} {n : Int} (h : LamX.Tabs Ts H) (wl : Well H pw n) (k : Kp [pw] H H') : LamX.Tabs Ts H' := fun p hp => by
  obtain ⟨ps, h1, h2, h3⟩ := h p hp
  obtain ⟨a, b, c, e, _⟩ := wl
  have np : ∀ {x : Addr} {o : HO}, H x = some o → o ≠ .lst [.int a, .int b, .int c] → x ∉ [pw] := fun {x o} hx ho z => by
    rw [List.mem_singleton.mp z, e] at hx
    exact ho (Option.some.inj hx).symm
  refine ⟨ps, k _ _ (np h1 (fun z => by cases z)) h1, h2, fun pos cv hc => ?_⟩
  obtain ⟨c', e1, e2⟩ := h3 pos cv hc
  exact ⟨c', e1, k _ _ (np e2 (fun z => by unfold LamX.CodeO at z; cases z)) e2⟩
theorem tabs_wr {Ts : List (Addr × Str)} {H : Hp} {a : Addr} {xs ys : List V} (t : LamX.Tabs Ts H) (h : H a = some (.lst xs)) : LamX.Tabs Ts (upd H a (.lst ys)) := fun p hp => by
  obtain ⟨ps, h1, h2, h3⟩ := t p hp
  refine ⟨ps, ?_, h2, fun pos cv hc => ?_⟩
  · rw [upd_ne (ne_of h1 h (fun z => by cases z))]
    exact h1
  · obtain ⟨c, e1, e2⟩ := h3 pos cv hc
    refine ⟨c, e1, ?_⟩
    rw [upd_ne (ne_of e2 h (fun z => by unfold LamX.CodeO at z; cases z))]
    exact e2
/-- what stays known in a turn of the law -/
structure Sc (Ts : List (Addr × Str)) (pw : Addr) (m : Int) (l kp lg : Addr) (es : List Ent) (ns : List Int) (H : Hp) : Prop where
  w : Well H pw m
  hl : H l = some (.lst (vsOf es))
  hk : H kp = some (.lst (vsOf es))
  hg : H lg = some (.lst (ns.map V.int))
  gp : lg ≠ pw
  he : Ents H es
  ht : LamX.Tabs Ts H
section
variable {Ts : List (Addr × Str)} {pw l kp lg : Addr} {m m' : Int} {es : List Ent} {ns : List Int} {H H' : Hp}
theorem Sc.ext (c : Sc Ts pw m l kp lg es ns H) (x : LamX.ExtN H H') (t : LamX.Tabs Ts H') : Sc Ts pw m l kp lg es ns H' := by
  obtain ⟨a, b, d, hw, r⟩ := c.w
  exact ⟨⟨a, b, d, x _ _ hw (fun _ z => by cases z), r⟩, x _ _ c.hl (fun _ z => by cases z), x _ _ c.hk (fun _ z => by cases z), x _ _ c.hg (fun _ z => by cases z), c.gp, fun y hy => x _ _ (c.he y hy) (fun _ z => by cases z), t⟩
theorem Sc.same (c : Sc Ts pw m l kp lg es ns H) (s : Same H H') : Sc Ts pw m l kp lg es ns H' := c.ext (fun b o h _ => s b o h) (c.ht.ext s)
theorem Sc.wel (c : Sc Ts pw m l kp lg es ns H) (k : Kp [pw] H H') (w : Well H' pw m') : Sc Ts pw m' l kp lg es ns H' := by
  have kk : ∀ {b : Addr} {o : HO}, b ≠ pw → H b = some o → H' b = some o := fun {b o} hb h => k b o (fun z => hb (List.mem_singleton.mp z)) h
  exact ⟨w, kk (well_ne c.w c.hl) c.hl, kk (well_ne c.w c.hk) c.hk, kk c.gp c.hg, c.gp, fun y hy => kk (well_ent c.w (c.he y hy)) (c.he y hy), tabs_kp c.ht c.w k⟩
theorem Sc.wr (c : Sc Ts pw m l kp lg es ns H) {a : Addr} {xs ys : List V} (h : H a = some (.lst xs)) (n0 : a ≠ pw) (n1 : a ≠ l) (n2 : a ≠ kp) (n3 : a ≠ lg) : Sc Ts pw m l kp lg es ns (upd H a (.lst ys)) := by
  obtain ⟨x, y, z, hw, r⟩ := c.w
  refine ⟨⟨x, y, z, by rw [upd_ne (Ne.symm n0)]; exact hw, r⟩, by rw [upd_ne (Ne.symm n1)]; exact c.hl, by rw [upd_ne (Ne.symm n2)]; exact c.hk, by rw [upd_ne (Ne.symm n3)]; exact c.hg, c.gp, fun e he => ?_, tabs_wr c.ht h⟩
  have := c.he e he
  unfold EntAt at this ⊢
  rw [upd_ne (ne_of this h (fun z => by cases z))]
  exact this
theorem Sc.rows (c : Sc Ts pw m l kp lg es ns H) (n : es.length ≤ 5000) : Rows H (.ref l) l es := ⟨rfl, c.hl, c.he, n⟩
end
theorem eqv_self (es : List Ent) : (!PyData.eqv (rowsD es) (rowsD es)) = false := by
  rw [eqv_rows, decide_eq_true rfl]
  rfl
theorem shaped_sw (es : List Ent) (k : Int) : SeqAt.shaped (.tuple [rowsD es, .int k]) = true := by
  unfold SeqAt.shaped
  refine Bool.and_eq_true_iff.mpr ⟨?_, decide_eq_true ?_⟩
  · show (PyData.canLayAll0 (es.map Ent.d) && (PyData.canLay0 (.int k) && true)) = true
    rw [lay_rows es]
    rfl
  · show max (PyData.depthAll (es.map Ent.d) + 1) (max (PyData.depth (.int k)) 0) + 1 ≤ 64
    have h1 := depth_rows es
    have h2 : PyData.depth (.int k) ≤ 0 := Nat.le_refl 0
    omega
theorem eqv_sw (es : List Ent) (k : Int) : (!PyData.eqv (.tuple [rowsD es, .int k]) (.tuple [rowsD es, .int k])) = false := by
  show (!(PyData.eqv (rowsD es) (rowsD es) && (PyData.eqv (.int k) (.int k) && true))) = false
  have h2 : PyData.eqv (.int k) (.int k) = true := (beq_self_eq_true k : (k == k) = true)
  rw [eqv_rows, decide_eq_true rfl, h2]
  rfl
theorem shaped_ri (a b : List Ent) : SeqAt.shaped (.tuple [rowsD a, rowsD b]) = true := by
  unfold SeqAt.shaped
  refine Bool.and_eq_true_iff.mpr ⟨?_, decide_eq_true ?_⟩
  · show (PyData.canLayAll0 (a.map Ent.d) && (PyData.canLayAll0 (b.map Ent.d) && true)) = true
    rw [lay_rows a, lay_rows b]
    rfl
  · show max (PyData.depthAll (a.map Ent.d) + 1) (max (PyData.depthAll (b.map Ent.d) + 1) 0) + 1 ≤ 64
    have h1 := depth_rows a
    have h2 := depth_rows b
    omega
theorem eqv_ri (a b : List Ent) : (!PyData.eqv (.tuple [rowsD a, rowsD b]) (.tuple [rowsD a, rowsD b])) = false := by
  show (!(PyData.eqv (rowsD a) (rowsD a) && (PyData.eqv (rowsD b) (rowsD b) && true))) = false
  rw [eqv_rows, eqv_rows, decide_eq_true rfl, decide_eq_true rfl]
  rfl
theorem dp_sw {K : PySem.W.Frag} {H : Hp} {u l : Addr} {es : List Ent} {k : Int} (hu : H u = some (.tup [.ref l, .int k])) (hl : H l = some (.lst (vsOf es))) (he : Ents H es) : Dp K H (.ref u) (.tuple [rowsD es, .int k]) := .tup (SqT.of hu) (.cons (dp_rows (SqL.of hl) he) (.cons (.int _) .nil))
theorem dp_ri {K : PySem.W.Frag} {H : Hp} {u o l : Addr} {a b : List Ent} (hu : H u = some (.tup [.ref o, .ref l])) (ho : H o = some (.lst (vsOf a))) (hl : H l = some (.lst (vsOf b))) (ha : Ents H a) (hb : Ents H b) : Dp K H (.ref u) (.tuple [rowsD a, rowsD b]) :=
  .tup (SqT.of hu) (.cons (dp_rows (SqL.of ho) ha) (.cons (dp_rows (SqL.of hl) hb) .nil))
/-- a lambda that is known in H -/
structure Kept (f : Addr) (F : LF) (H : Hp) : Prop where
  hf : H f = some (LamO f F)
  hc : H F.c = some (LamX.CodeO F.c F.qual)
theorem Kept.ext {f : Addr} {F : LF} {H H' : Hp} (k : Kept f F H) (x : LamX.ExtN H H') : Kept f F H' := ⟨x _ _ k.hf lamO_ne, x _ _ k.hc LamX.codeO_ne⟩
theorem Kept.same {f : Addr} {F : LF} {H H' : Hp} (k : Kept f F H) (x : Same H H') : Kept f F H' := ⟨x _ _ k.hf, x _ _ k.hc⟩
theorem Kept.wr {f a : Addr} {F : LF} {H : Hp} {xs ys : List V} (k : Kept f F H) (h : H a = some (.lst xs)) : Kept f F (upd H a (.lst ys)) := by
  refine ⟨?_, ?_⟩
  · rw [upd_ne (ne_of k.hf h (fun z => by unfold LamO at z; cases z))]
    exact k.hf
  · rw [upd_ne (ne_of k.hc h (fun z => by unfold LamX.CodeO at z; cases z))]
    exact k.hc
theorem Kept.wel {f pw : Addr} {F : LF} {H H' : Hp} {n : Int} (k : Kept f F H) (w : Well H pw n) (kp : Kp [pw] H H') : Kept f F H' := by
  obtain ⟨a, b, c, e, _⟩ := w
  refine ⟨kp _ _ (fun z => ?_) k.hf, kp _ _ (fun z => ?_) k.hc⟩
  · have := k.hf
    rw [List.mem_singleton.mp z, e] at this
    unfold LamO at this
    cases this
  · have := k.hc
    rw [List.mem_singleton.mp z, e] at this
    unfold LamX.CodeO at this
    cases this
/-- all is kept, but what stands at ex, and the tables -/
def Far (ex : List Addr) (H H' : Hp) : Prop := ∀ b o, b ∉ ex → H b = some o → (∀ ps, o ≠ .tbl ps) → H' b = some o
section
variable {ex : List Addr} {H H1 H' : Hp} {v : V} {pw ua u : Addr}
theorem Far.refl (ex : List Addr) (H : Hp) : Far ex H H := fun _ _ _ h _ => h
theorem Far.trans (a : Far ex H H1) (b : Far ex H1 H') : Far ex H H' := fun c o n h t => b c o n (a c o n h t) t
theorem Far.kp (k : Kp [pw] H H') (m : pw ∈ ex) : Far ex H H' := fun b o n h _ => k b o (fun z => n (by rw [List.mem_singleton.mp z]; exact m)) h
theorem Far.same (k : Same H H') : Far ex H H' := fun b o _ h _ => k b o h
theorem Far.ext (k : LamX.ExtN H H') : Far ex H H' := fun b o _ h t => k b o h t
theorem Far.wr {o : HO} (m : ua ∈ ex) : Far ex H (upd H ua o) := fun b x n h _ => by
  rw [upd_ne (fun z => n (by rw [z]; exact m))]
  exact h
theorem Far.add (F : Far ex H H1) (n : H1 ua = none) (G : Far (ua :: ex) H1 H') : Far ex H H' := fun b o hb h t => by
  have h1 := F b o hb h t
  refine G b o (fun z => ?_) h1 t
  rcases List.mem_cons.mp z with z | z
  · rw [z, n] at h1
    cases h1
  · exact hb z
def SWh (ex : List Addr) (H : Hp) (v : V) : Prop := ∀ H', Far ex H H' → WhB H' v false
def SGone (ex : List Addr) (H : Hp) (v : V) : Prop := ∀ H', Far ex H H' → BadGone H' v
def SIt (ex : List Addr) (H : Hp) (v : V) (b : Bool) : Prop := ∀ H', Far ex H H' → ItB H' v b
def SBad (ex : List Addr) (H : Hp) (v : V) : Prop := ∀ H', Far ex H H' → BadRows H' v
theorem SWh.far (h : SWh ex H v) (f : Far ex H H1) : SWh ex H1 v := fun H' g => h H' (f.trans g)
theorem SGone.far (h : SGone ex H v) (f : Far ex H H1) : SGone ex H1 v := fun H' g => h H' (f.trans g)
theorem SBad.far (h : SBad ex H v) (f : Far ex H H1) : SBad ex H1 v := fun H' g => h H' (f.trans g)
theorem SWh.add (h : SWh ex H v) (F : Far ex H H1) (n : H1 ua = none) : SWh (ua :: ex) H1 v := fun H' G => h H' (F.add n G)
theorem swh_scal (h : Scal v) (e : wholeB v = false) : SWh ex H v := fun H' _ => by
  have := WhB.scal (H := H') h
  rw [e] at this
  exact this
theorem swh_tup {xs : List V} (n : u ∉ ex) (h : H u = some (.tup xs)) : SWh ex H (.ref u) := fun _ f => .tup (f u _ n h (fun _ z => by cases z))
theorem swh_lst {xs : List V} (n : u ∉ ex) (h : H u = some (.lst xs)) : SWh ex H (.ref u) := fun _ f => .lst (f u _ n h (fun _ z => by cases z))
theorem sgone_scal (h : Scal v) : SGone ex H v := fun _ _ => .scal h
theorem sgone_dct {kvs : List (Key × V)} (n : u ∉ ex) (h : H u = some (.dK kvs)) : SGone ex H (.ref u) := fun _ f => .dct (f u _ n h (fun _ z => by cases z))
theorem sgone_row {xs : List V} {bad : V} (n : u ∉ ex) (h : InRow H u xs) (hl : xs.length ≤ 1000) (hb : SWh ex H bad) (hm : bad ∈ xs) (ha : ∀ x ∈ xs, x = bad ∨ ∃ i, x = .int i) : SGone ex H (.ref u) := fun H' f => by
  classical
  refine BadGone.item (f := fun x => if x = bad then false else true) (h.imp (fun z => f u _ n z (fun _ z => by cases z)) (fun z => f u _ n z (fun _ z => by cases z))) hl (fun x hx => ?_) ⟨bad, hm, if_pos rfl⟩
  by_cases e : x = bad
  · rw [if_pos e, e]
    exact hb H' f
  · rw [if_neg e]
    rcases ha x hx with z | ⟨i, rfl⟩
    · exact absurd z e
    · exact .int
theorem sit_tup {xs : List V} (n : u ∉ ex) (h : H u = some (.tup xs)) (hs : ∀ x ∈ xs, Scal x) : SIt ex H (.ref u) (entB xs) := fun _ f => .tup (f u _ n h (fun _ z => by cases z)) hs
theorem sit_lst {xs : List V} (n : u ∉ ex) (h : H u = some (.lst xs)) : SIt ex H (.ref u) false := fun _ f => .lst (f u _ n h (fun _ z => by cases z))
theorem sit_ent {e : Ent} (n : e.a ∉ ex) (h : EntAt H e) : SIt ex H e.v true := fun _ f => ItB.ent (f _ _ n h (fun _ z => by cases z))
theorem sbad_scal (h : Scal v) : SBad ex H v := fun _ _ => .scal h
theorem sbad_tup {xs : List V} (n : u ∉ ex) (h : H u = some (.tup xs)) : SBad ex H (.ref u) := fun _ f => .tup (f u _ n h (fun _ z => by cases z))
theorem sbad_item {xs : List V} {bad : V} (n : u ∉ ex) (h : H u = some (.lst xs)) (hl : xs.length ≤ 5000) (hb : SIt ex H bad false) (hm : bad ∈ xs) (ha : ∀ x ∈ xs, x = bad ∨ SIt ex H x true) : SBad ex H (.ref u) := fun H' f => by
  classical
  refine BadRows.item (f := fun x => if x = bad then false else true) (f u _ n h (fun _ z => by cases z)) hl (fun x hx => ?_) ⟨bad, hm, if_pos rfl⟩
  by_cases e : x = bad
  · rw [if_pos e, e]
    exact hb H' f
  · rw [if_neg e]
    exact (ha x hx).elim (fun z => absurd z e) fun z => z H' f
theorem nm1 (a : u ≠ pw) : u ∉ [pw] := fun z => a (List.mem_singleton.mp z)
theorem nm2 (b : u ≠ ua) (a : u ≠ pw) : u ∉ [ua, pw] := fun z => (List.mem_cons.mp z).elim b fun z => a (List.mem_singleton.mp z)
end
/-- a lambda of the frame X that raises BadValue in all that comes behind Hz -/
def Ask (X : Cx) (σ : L2.St) (CB : Addr) (Hz : Hp) (x : V) : Prop := ∃ (f : Addr) (F : LF) (fr : List Str) (js : List Nat) (sp : List (Option V) → Hp → VK → XK → Prop), x = .ref f ∧ Kept f F Hz ∧ (X.Ok → NdefX.Caps X F.cl fr js) ∧ LOk X.prog X.w X.K X.mg X.base (L2.CX X.prog X.w) 10 f F fr sp ∧
  ∀ H', Same Hz H' → ∀ (Q' : VK) (E' : XK), (∀ dd fs H2, Same H' H2 → H2 dd = some (.xd fs) → E' (.ref CB) (some dd) H2) → sp (js.map (NdefX.slotAt σ)) H' Q' E'
/-- the frame of law -/
abbrev XL (T : Txt K mg) (Z : LTxt K mg base T) (A : Around) (outer : List Env) (s : Shared) (H : Hp) (E : XK) : Cx := (cxOf L2.CX0 P w K mg base ["_law_script", "_law_cell", "_law_well_here", "_law_kept", "_law_found", "_law_asks", "_law_bad", "_law_lost", "_law_lot", "_law_moment", "_law_none", "_law_odd", "_law_tally", "_law_row", "_law_ask"] "law" (defScope sLaw) T.aLaw (.ref Z.c) A outer s H E).nox
def sA1 : Scope := { kind := .function, names := [("_law_lot", .free), ("_law_odd", .free), ("ripe", .globalImplicit)], isGenerator := false, isCoroutine := false }
def sA2 : Scope := { kind := .function, names := [("_law_lost", .free), ("_law_lot", .free), ("_law_odd", .free), ("swept", .globalImplicit)], isGenerator := false, isCoroutine := false }
def sA3 : Scope := { kind := .function, names := [("_law_bad", .free), ("_law_lot", .free), ("_law_tally", .free), ("swept", .globalImplicit)], isGenerator := false, isCoroutine := false }
def sA4 : Scope := { kind := .function, names := [("_law_moment", .free), ("_law_none", .free), ("ripe", .globalImplicit)], isGenerator := false, isCoroutine := false }
def sA5 : Scope := { kind := .function, names := [("_law_lost", .free), ("_law_none", .free), ("_law_tally", .free), ("swept", .globalImplicit)], isGenerator := false, isCoroutine := false }
def sA6 : Scope := { kind := .function, names := [("_law_lost", .free), ("_law_lot", .free), ("swept", .globalImplicit)], isGenerator := false, isCoroutine := false }
def spLaw (Ts : List (Addr × Str)) (K : PySem.W.Frag) : Sp := fun vs H Q _ => ∃ (a : Addr) (ns : List Int), vs = [.ref a] ∧ SqL K H a (ns.map V.int) ∧ ns.length ≤ 63 ∧ LamX.Tabs Ts H ∧ ∀ H', Q (.bl true) H'
theorem ok_law (T : Txt K mg) (Y : ETxt P K mg) (exm : PySem.W.exmOne K (.ref Y.CB) (.ref Y.CB) = some true) (Z : LTxt K mg base T) : FnOk P w K mg base CX0 12 T.aLaw T.dLaw ["_law_script"] (spLaw (tabs Z) K) := by
  have GLwWell : FnOk P w K mg base CX0 1 T.aLwWell T.dLwWell ["_law_cell"] spLwWell := ok_well T
  have GLwDraw : FnOk P w K mg base CX0 1 T.aLwDraw T.dLwDraw ["_law_well_here", "_law_many"] spLwDraw := ok_draw T
  have GLwPick : FnOk P w K mg base CX0 2 T.aLwPick T.dLwPick ["_law_well_here", "_law_some"] spLwPick := ok_pick T
  have GLwScene : FnOk P w K mg base CX0 3 T.aLwScene T.dLwScene ["_law_well_here"] spLwScene := ok_scene T
  have GLwSwept : FnOk P w K mg base CX0 4 T.aLwSwept T.dLwSwept ["_law_lot", "_law_lost", "_law_tally"] spLwSwept := ok_lwSwept T
  have GLwDue : FnOk P w K mg base CX0 4 T.aLwDue T.dLwDue ["_law_lot", "_law_moment"] spLwDue := ok_due T
  have GRipe : FnOk P w K mg base (L2.CX P w) 5 T.aRipe T.dRipe ["rows", "now"] (spRipe Y.CB) := ok_ripe T Y
  have GSwept : FnOk P w K mg base (L2.CX P w) 5 T.aSwept T.dSwept ["rows", "gone", "count"] (spSwept Y.CB) := ok_swept T Y
  have GLwIsRefused : GOk P w K mg base 11 10 T.aLwIsRefused T.dLwIsRefused "_law_ask" (RRef Y.CB) := ok_refused T Y exm
  refine okC T.fLaw Z.hc scLaw (fun vs H Q E h => ?_) (fun A outer s H vs Q E hr h => ?_)
  · obtain ⟨a, ns, rfl, _⟩ := h
    rfl
  · obtain ⟨a, is, rfl, hS, hlen, ht, q⟩ := h
    refine ⟨_, (pss_cons (ps_for PassesOwn.never rfl (pi_list (pe_op op_cat (pe_slice sl_list (pv 0) po_none (po_some pe_int)) (pe_lst (pa_cons pe_int pa_nil)))) (pg_name (i := 1) scLaw.nd rfl (.inl rfl))
      (pss_cons (ps_set (i := 2) scLaw.nd rfl (.inl rfl) (pe_call GLwWell (hr.mono (by decide)) (by rfl) T.gLwWell T.fLwWell.kp T.bLwWell .nil pass0 (pa_cons (pv 1) pa_nil)))
        (pss_cons (ps_asg (pe_call GLwScene (hr.mono (by decide)) (by rfl) T.gLwScene T.fLwScene.kp T.bLwScene .nil pass0 (pa_cons (pv 2) pa_nil)) (pg_tup rfl (pgs_cons (pg_name (i := 8) scLaw.nd rfl (.inr rfl)) (pgs_cons (pg_name (i := 7) scLaw.nd rfl (.inr rfl)) (pgs_cons (pg_name (i := 12) scLaw.nd rfl (.inr rfl)) pgs_nil)))))
        (pss_cons (ps_set (i := 3) scLaw.nd rfl (.inl rfl) (pe_callTy call_list_of (by rfl) T.n_list (by decide +kernel) (pa_cons (pv 8) pa_nil)))
        (pss_cons (ps_if (PW.pt (pw_or (pt_cmpR (r := rNeD K) (op_neD hr.units) (pe_call GSwept (hr.mono (by decide)) (by rfl) T.gSwept T.fSwept.kp T.bSwept .nil (passes_call (E := E0) LamX.takes0 (fun _ _ _ _ h => h)) (pa_cons (pv 8) (pa_cons (pv 7) (pa_cons (pv 12) pa_nil)))) (pe_call GLwSwept (hr.mono (by decide)) (by rfl) T.gLwSwept T.fLwSwept.kp T.bLwSwept .nil pass0 (pa_cons (pv 8) (pa_cons (pv 7) (pa_cons (pv 12) pa_nil)))) (nomark _)) (pw_or1 (pt_cmpR (r := rNeD K) (op_neD hr.units) (pv 8) (pv 3) (nomark _)))))
        (pss_one (ps_ret pe_bl))
        pss_nil)
        (pss_cons (ps_if (pt_cmpR (r := rNeD K) (op_neD hr.units) (pe_callKw GSwept (hr.mono (by decide)) (by rfl) T.gSwept T.fSwept.kp (kbSwept T) (passes_call (E := E0) LamX.takes0 (fun _ _ _ _ h => h)) (pk_cons (pv 12) (pk_cons (pe_callTy call_tuple_of (by rfl) T.n_tuple (by decide +kernel) (pa_cons (pv 7) pa_nil)) (pk_cons (pv 8) pk_nil)))) (pe_call GLwSwept (hr.mono (by decide)) (by rfl) T.gLwSwept T.fLwSwept.kp T.bLwSwept .nil pass0 (pa_cons (pv 8) (pa_cons (pv 7) (pa_cons (pv 12) pa_nil)))) (nomark _))
        (pss_one (ps_ret pe_bl))
        pss_nil)
        (pss_cons (ps_set (i := 9) scLaw.nd rfl (.inr rfl) (pe_call GLwPick (hr.mono (by decide)) (by rfl) T.gLwPick T.fLwPick.kp T.bLwPick .nil pass0 (pa_cons (pv 2) (pa_cons (pe_op op_cat (pe_lc (own := [("_law_row", 13)]) (g := gName 13) rfl scLaw.nd (pi_list (pv 8)) (blkOk_by (own := [("_law_row", 13)]) (N := ["_law_script", "_law_cell", "_law_well_here", "_law_kept", "_law_found", "_law_asks", "_law_bad", "_law_lost", "_law_lot", "_law_moment", "_law_none", "_law_odd", "_law_tally", "_law_row", "_law_ask"]) (sc := defScope sLaw) (by decide +kernel)) (fun _ _ _ _ _ => (pg_name (i := 13) scLaw.nd rfl (.inl rfl))) (fun _ _ _ _ _ => pts_nil) (fun _ _ _ _ _ => (pe_ix (r := rIxT K) ix_tup (pv 13) pe_int (fun _ _ => rfl)))) (pe_lst (pa_cons pe_int (pa_cons pe_int pa_nil)))) pa_nil))))
        (pss_cons (ps_set (i := 9) scLaw.nd rfl (.inr rfl) (pe_op op_sub (pv 9) (pe_call GLwDraw (hr.mono (by decide)) (by rfl) T.gLwDraw T.fLwDraw.kp T.bLwDraw .nil pass0 (pa_cons (pv 2) (pa_cons pe_int pa_nil)))))
        (pss_cons (ps_set (i := 4) scLaw.nd rfl (.inl rfl) (pe_call GRipe (hr.mono (by decide)) (by rfl) T.gRipe T.fRipe.kp T.bRipe .nil (passes_call (E := E0) LamX.takes0 (fun _ _ _ _ h => h)) (pa_cons (pv 8) (pa_cons (pv 9) pa_nil))))
        (pss_cons (ps_if (PW.pt (pw_or (pt_cmpR (r := rNeD K) (op_neD hr.units) (pv 4) (pe_call GLwDue (hr.mono (by decide)) (by rfl) T.gLwDue T.fLwDue.kp T.bLwDue .nil pass0 (pa_cons (pv 8) (pa_cons (pv 9) pa_nil))) (nomark _)) (pw_or (pt_cmpR (r := rNeD K) (op_neD hr.units) (pe_callKw GRipe (hr.mono (by decide)) (by rfl) T.gRipe T.fRipe.kp (kbRipe T) (passes_call (E := E0) LamX.takes0 (fun _ _ _ _ h => h)) (pk_cons (pv 9) (pk_cons (pv 8) pk_nil))) (pe_call GLwDue (hr.mono (by decide)) (by rfl) T.gLwDue T.fLwDue.kp T.bLwDue .nil pass0 (pa_cons (pv 8) (pa_cons (pv 9) pa_nil))) (nomark _)) (pw_or1 (pt_cmpR (r := rNeD K) (op_neD hr.units) (pv 8) (pv 3) (nomark _))))))
        (pss_one (ps_ret pe_bl))
        pss_nil)
        (pss_cons (ps_set (i := 11) scLaw.nd rfl (.inr rfl) (pe_call GLwPick (hr.mono (by decide)) (by rfl) T.gLwPick T.fLwPick.kp T.bLwPick .nil pass0 (pa_cons (pv 2) (pa_cons (pe_lst (pa_cons pe_non (pa_cons pe_bl (pa_cons pe_str (pa_cons (pe_tup (pa_cons pe_int pa_nil)) (pa_cons (pe_lst (pa_cons pe_int pa_nil)) pa_nil)))))) pa_nil))))
        (pss_cons (ps_set (i := 5) scLaw.nd rfl (.inl rfl) (pe_lst (pa_cons (pe_lam (T := tabs Z) Z.tb rfl (by exact List.mem_cons_self) (oneL Z) rfl (LamX.lamS_by (sc := defScope sLaw) (by decide +kernel))) pa_nil)))
        (pss_cons (ps_expr (pe_bm PySem.F.plainAttrs_list PySem.F.slot_list_append PySem.F.type_list_append mt_append (pv 5) (pa_cons (pe_lam (T := tabs Z) Z.tb rfl (by exact List.mem_cons_self) (oneL Z) rfl (LamX.lamS_by (sc := defScope sLaw) (by decide +kernel))) pa_nil)))
        (pss_cons (ps_set (i := 6) scLaw.nd rfl (.inr rfl) (pe_call GLwPick (hr.mono (by decide)) (by rfl) T.gLwPick T.fLwPick.kp T.bLwPick .nil pass0 (pa_cons (pv 2) (pa_cons (pe_lst (pa_cons pe_non (pa_cons pe_int (pa_cons pe_str (pa_cons (pe_lst (pa_cons pe_bl pa_nil)) (pa_cons (pe_tup (pa_cons pe_int (pa_cons pe_non pa_nil))) (pa_cons pe_dnewK (pa_cons (pe_lst (pa_cons pe_str pa_nil)) (pa_cons (pe_tup (pa_cons (pe_tup (pa_cons pe_int pa_nil)) pa_nil)) pa_nil))))))))) pa_nil))))
        (pss_cons (ps_expr (pe_bm PySem.F.plainAttrs_list PySem.F.slot_list_append PySem.F.type_list_append mt_append (pv 5) (pa_cons (pe_lam (T := tabs Z) Z.tb rfl (by exact List.mem_cons_self) (oneL Z) rfl (LamX.lamS_by (sc := defScope sLaw) (by decide +kernel))) pa_nil)))
        (pss_cons (ps_set (i := 10) scLaw.nd rfl (.inr rfl) (pe_call GLwPick (hr.mono (by decide)) (by rfl) T.gLwPick T.fLwPick.kp T.bLwPick .nil pass0 (pa_cons (pv 2) (pa_cons (pe_lst (pa_cons (pe_op op_cat (pv 8) (pe_lst (pa_cons (pe_tup (pa_cons pe_int pa_nil)) pa_nil))) (pa_cons (pe_lst (pa_cons (pe_lst (pa_cons pe_int (pa_cons pe_int pa_nil))) pa_nil)) (pa_cons (pe_op op_cat (pe_lst (pa_cons (pe_tup (pa_cons pe_bl (pa_cons pe_int pa_nil))) pa_nil)) (pv 8)) (pa_cons (pe_lst (pa_cons (pe_tup (pa_cons pe_int (pa_cons pe_non pa_nil))) pa_nil)) (pa_cons pe_non (pa_cons pe_str (pa_cons (pe_callTy call_tuple_of (by rfl) T.n_tuple (by decide +kernel) (pa_cons (pv 8) pa_nil)) (pa_cons pe_int pa_nil))))))))) pa_nil))))
        (pss_cons (ps_expr (pe_bm PySem.F.plainAttrs_list PySem.F.slot_list_append PySem.F.type_list_append mt_append (pv 5) (pa_cons (pe_lam (T := tabs Z) Z.tb rfl (by exact List.mem_cons_self) (oneL Z) rfl (LamX.lamS_by (sc := defScope sLaw) (by decide +kernel))) pa_nil)))
        (pss_cons (ps_expr (pe_bm PySem.F.plainAttrs_list PySem.F.slot_list_append PySem.F.type_list_append mt_append (pv 5) (pa_cons (pe_lam (T := tabs Z) Z.tb rfl (by exact List.mem_cons_self) (oneL Z) rfl (LamX.lamS_by (sc := defScope sLaw) (by decide +kernel))) pa_nil)))
        (pss_cons (ps_expr (pe_bm PySem.F.plainAttrs_list PySem.F.slot_list_append PySem.F.type_list_append mt_append (pv 5) (pa_cons (pe_lam (T := tabs Z) Z.tb rfl (by exact List.mem_cons_self) (oneL Z) rfl (LamX.lamS_by (sc := defScope sLaw) (by decide +kernel))) pa_nil)))
        (pss_one (ps_if (pt_not (pt_val (pe_callB (cr_all rfl) (by rfl) T.n_all (by decide +kernel) (pa_cons (pe_lcS (own := [("_law_ask", 14)]) (g := gName 14) rfl scLaw.nd (pi_list (pv 5)) (blkOk_by (own := [("_law_ask", 14)]) (N := ["_law_script", "_law_cell", "_law_well_here", "_law_kept", "_law_found", "_law_asks", "_law_bad", "_law_lost", "_law_lot", "_law_moment", "_law_none", "_law_odd", "_law_tally", "_law_row", "_law_ask"]) (sc := defScope sLaw) (by decide +kernel)) (fun _ _ _ _ _ => (pg_name (i := 14) scLaw.nd rfl (.inl rfl))) (fun _ σ _ _ _ _ _ I hfp => pe_giveB I hfp GLwIsRefused (by rfl) T.gLwIsRefused T.fLwIsRefused.kp T.bLwIsRefused (hr.mono (by decide)) (pv 14))) pa_nil))))
        (pss_one (ps_ret pe_bl))
        pss_nil)))))))))))))))))))))
      (pss_one (ps_ret pe_bl))), ?_⟩
    refine ⟨_, rfl, 5, rfl, a, _, rfl, hS, fun c nc => ?_⟩
    have sc := same_new (o := .lst (cutV (is.map V.int) none (some 5))) nc
    refine ⟨(by show 1 ≤ sizeLine; decide), fun z nz => ?_⟩
    have sz := same_new (o := .lst [V.int 0]) nz
    refine ⟨c, z, _, _, rfl, rfl, sz _ _ upd_same, upd_same, ?_, fun la nla => ?_⟩
    · have := cutV_length (is.map V.int) none (some 5)
      rw [List.length_map] at this
      exact Nat.le_trans (show _ ≤ 1000 by show (cutV (is.map V.int) none (some 5)).length + 1 ≤ 1000; omega) (by decide)
    have sl := same_new (o := .lst (cutV (is.map V.int) none (some 5) ++ [V.int 0])) nla
    have s0 := sc.trans (sz.trans sl)
    refine ⟨la, rfl, ⟨_, SqL.of upd_same⟩, ?_⟩
    refine for_list (xs := cutV (is.map V.int) none (some 5) ++ [V.int 0]) (fun i σ H3 => ∃ y1 y2 y3 y4 y5 y6 y7 y8 y9 y10 y11 y12, σ = [some (.ref a), y1, y2, y3, y4, y5, y6, y7, y8, y9, y10, y11, y12, none, none] ∧ H3 la = some (.lst (cutV (is.map V.int) none (some 5) ++ [V.int 0])) ∧ LamX.Tabs (tabs Z) H3)
      ⟨_, _, _, _, _, _, _, _, _, _, _, _, rfl, upd_same, ht.ext s0⟩ (fun i σ H3 _ ⟨_, _, _, _, _, _, _, _, _, _, _, _, _, h, _⟩ => SqL.of h) (fun i x σ HA hx hW => ?_) (fun σ H3 hW => q H3)
    obtain ⟨y1, y2, y3, y4, y5, y6, y7, y8, y9, y10, y11, y12, rfl, hla, htA⟩ := hW
    obtain ⟨cell, rfl⟩ : ∃ n : Int, x = .int n := by
      rcases List.mem_append.mp (List.mem_of_getElem? hx) with h | h
      · obtain ⟨n, _, e⟩ := List.mem_map.mp (cut_mem h)
        exact ⟨n, e.symm⟩
      · exact ⟨0, List.mem_singleton.mp h⟩
    refine ⟨_, rfl, cell, rfl, fun pw H1 npw s1 w1 => ?_⟩
    refine ⟨_, rfl, pw, 0, rfl, w1, by decide, fun H2 u2 l lg es ns tally k2 w2 hu2 hl2 he2 len hg2 ngp lns ht0 => ?_⟩
    refine ⟨u2, _, rfl, SqT.of hu2, rfl, _, _, rfl, _, _, rfl, _, _, rfl, rfl, ?_⟩
    refine ⟨_, rfl, l, _, rfl, .inl (SqL.of hl2), fun u3 n3 => ?_⟩
    have s3 := same_new (o := .lst (vsOf es)) n3
    have h3 : (upd H2 u3 (.lst (vsOf es))) u3 = some (.lst (vsOf es)) := upd_same
    have c3 : Sc (tabs Z) pw 1000 l u3 lg es ns (upd H2 u3 (.lst (vsOf es))) := ⟨(w2.mono (by decide)).same s3, s3 _ _ hl2, h3, s3 _ _ hg2, ngp, he2.same s3, (tabs_kp (htA.ext s1) w1 k2).ext s3⟩
    have f3 : Far [pw] HA (upd H2 u3 (.lst (vsOf es))) := (Far.same s1).trans ((Far.kp k2 (by simp)).trans (Far.same s3))
    generalize upd H2 u3 (.lst (vsOf es)) = H3 at s3 h3 c3 f3 ⊢
    have hl5 : es.length ≤ 5000 := by omega
    generalize hsw : Hm.swept Ent.t (fun x => decide (x.k ∈ ns)) es tally = sw
    have swm : ∀ y ∈ sw.1, y ∈ es := fun y hy => Hm.swept_mem (f := Ent.t) (g := fun x => decide (x.k ∈ ns)) (c := tally) y (by rw [hsw]; exact hy)
    refine ⟨_, rfl, _, rfl, _, rfl, .ref l, .ref lg, .int tally, rfl, .inr ⟨l, es, c3.rows hl5, .inr ⟨lg, ns, rfl, .inl c3.hg, lns, .inr ⟨tally, rfl, ht0, fun H4 u4 l4 s4 nl4 nu4 hu4 hl4 => ?_⟩⟩⟩⟩
    rw [hsw] at hu4 hl4
    have c4 := c3.same s4
    refine ⟨_, rfl, _, rfl, _, rfl, l, lg, es, ns, tally, rfl, c4.hl, c4.he, hl5, c4.hg, fun H5 u5 l5 s5 hu5 hl5' => ?_⟩
    rw [hsw] at hu5 hl5'
    have c5 := c4.same s5
    have es5 : Ents H5 sw.1 := fun y hy => c5.he y (swm y hy)
    refine ⟨.tuple [rowsD sw.1, .int sw.2], .tuple [rowsD sw.1, .int sw.2], dp_sw (s5 _ _ hu4) (s5 _ _ hl4) es5, dp_sw hu5 hl5' es5, shaped_sw _ _, shaped_sw _ _, _, rfl, ?_⟩
    rw [eqv_sw]
    refine iteF ⟨_, rfl, _, rfl, rowsD es, rowsD es, dp_rows (SqL.of c5.hl) c5.he, dp_rows (SqL.of c5.hk) c5.he, shaped_rows _, shaped_rows _, _, rfl, ?_⟩
    rw [eqv_self]
    refine iteF ?_
    -- by names
    refine ⟨_, rfl, _, rfl, lg, _, rfl, .inl ⟨SqL.of c5.hg, fun u6 n6 => ?_⟩⟩
    have s6 := same_new (o := .tup (ns.map V.int)) n6
    have h6 : (upd H5 u6 (.tup (ns.map V.int))) u6 = some (.tup (ns.map V.int)) := upd_same
    have c6 := c5.same s6
    have f6 := f3.trans (Far.same (s4.trans (s5.trans s6)))
    generalize upd H5 u6 (.tup (ns.map V.int)) = H6 at s6 h6 c6 f6 ⊢
    refine ⟨_, rfl, .ref l, .ref u6, .int tally, rfl, .inr ⟨l, es, c6.rows hl5, .inr ⟨u6, ns, rfl, .inr h6, lns, .inr ⟨tally, rfl, ht0, fun H7 u7 l7 s7 nl7 nu7 hu7 hl7 => ?_⟩⟩⟩⟩
    rw [hsw] at hu7 hl7
    have c7 := c6.same s7
    refine ⟨_, rfl, _, rfl, _, rfl, l, lg, es, ns, tally, rfl, c7.hl, c7.he, hl5, c7.hg, fun H8 u8 l8 s8 hu8 hl8 => ?_⟩
    rw [hsw] at hu8 hl8
    have c8 := c7.same s8
    have es8 : Ents H8 sw.1 := fun y hy => c8.he y (swm y hy)
    have f8 := f6.trans (Far.same (s7.trans s8))
    refine ⟨.tuple [rowsD sw.1, .int sw.2], .tuple [rowsD sw.1, .int sw.2], dp_sw (s8 _ _ hu7) (s8 _ _ hl7) es8, dp_sw hu8 hl8 es8, shaped_sw _ _, shaped_sw _ _, _, rfl, ?_⟩
    rw [eqv_sw]
    refine iteF ?_
    clear c3 c4 c5 c6 c7 es5 es8 f3 f6 h3 h6 hu4 hl4 hu5 hl5' hu7 hl7 hu8 hl8 hu2 hl2 he2 hg2
    -- the moment
    refine ⟨_, rfl, _, rfl, l, rfl, ⟨_, SqL.of c8.hl⟩, fun D nD => ?_⟩
    refine lcLY (xs := vsOf es) (fun i acc H' => Same H8 H' ∧ ∃ ms : List Int, acc = ms.map V.int ∧ ms.length = i) (by rw [vs_len]; omega) ?hw (fun i acc H' r => SqL.of (r.1 _ _ c8.hl)) ⟨same_new nD, [], rfl, rfl⟩ (fun i x acc H' Yq hx r hD hy => ?_) (fun acc H9 r hD => ?_)
    case hw => exact fun x => rfl
    · obtain ⟨s', ms, rfl, lm⟩ := r
      obtain ⟨e, hm', rfl⟩ := List.mem_map.mp (List.mem_of_getElem? hx)
      have hE := s' _ _ (c8.he e hm')
      exact ⟨_, rfl, _, _, 0, .int e.t, rfl, rfl, SqT.of hE, atI_nat (j := 0) rfl, hy _ _ hD ⟨same_wr1 s' nD, ms ++ [e.t], by rw [List.map_append] <;> rfl, by rw [List.length_append, lm] <;> rfl⟩⟩
    obtain ⟨s9, ms, rfl, lm⟩ := r
    rw [vs_len] at lm
    have c9 := c8.same s9
    have f9 := f8.trans (Far.same s9)
    refine ⟨(by show 2 ≤ sizeLine; decide), fun u10 n10 => ?_⟩
    have s10 := same_new (o := .lst [V.int 0, V.int 3]) n10
    have h10 : (upd H9 u10 (.lst [V.int 0, V.int 3])) u10 = some (.lst [V.int 0, V.int 3]) := upd_same
    have c10 := c9.same s10
    have f10 := f9.trans (Far.same s10)
    have d10 := well_new c9.w n10
    generalize upd H9 u10 (.lst [V.int 0, V.int 3]) = H10 at s10 h10 c10 f10  ⊢
    refine ⟨D, u10, _, _, rfl, rfl, s10 _ _ hD, h10, ?_, fun u11 n11 => ?_⟩
    · rw [List.length_map]
      exact Nat.le_trans (show ms.length + 2 ≤ 1000 by omega) (by decide)
    have s11 := same_new (o := .lst (ms.map V.int ++ [V.int 0, V.int 3])) n11
    have h11 : (upd H10 u11 (.lst (ms.map V.int ++ [V.int 0, V.int 3]))) u11 = some (.lst (ms.map V.int ++ [V.int 0, V.int 3])) := upd_same
    have c11 := c10.same s11
    have f11 := f10.trans (Far.same s11)
    have d11 := well_new c10.w n11
    generalize upd H10 u11 (.lst (ms.map V.int ++ [V.int 0, V.int 3])) = H11 at s11 h11 c11 f11  ⊢
    refine ⟨pw, u11, _, _, rfl, c11.w, by decide, h11, d11, by rw [List.length_append]; exact Nat.succ_pos _, by rw [List.length_append, List.length_map]; show ms.length + 2 ≤ 100000; omega, fun v H12 hv k_12 w12 => ?_⟩
    obtain ⟨m0, rfl⟩ : ∃ m0 : Int, v = .int m0 := by
      rcases List.mem_append.mp hv with z | z
      · obtain ⟨n, _, e⟩ := List.mem_map.mp z
        exact ⟨n, e.symm⟩
      · simp only [List.mem_cons, List.not_mem_nil, or_false] at z
        rcases z with rfl | rfl
        · exact ⟨_, rfl⟩
        · exact ⟨_, rfl⟩
    have c12 := c11.wel k_12 w12
    have f12 := f11.trans (Far.kp k_12 (by simp))
    refine ⟨_, rfl, _, rfl, pw, 2, _, rfl, w12, by decide, by decide, by decide, fun r13 H13 rr13 k13 w13 => ?_⟩
    refine ⟨_, _, rfl, rfl, ?_⟩
    have c13 := c12.wel k13 w13
    have f13 := f12.trans (Far.kp k13 (by simp))
    clear h10 h11 hv hD
    generalize hri : Hm.ripe Ent.t (m0 - r13) es.length es = ri
    have rm1 : ∀ y ∈ ri.1, y ∈ es := fun y hy => Hm.ripe_mem1 (f := Ent.t) (now := (m0 - r13)) (n := es.length) y (by rw [hri]; exact hy)
    have rm2 : ∀ y ∈ ri.2, y ∈ es := fun y hy => Hm.ripe_mem2 (f := Ent.t) (now := (m0 - r13)) (n := es.length) y (by rw [hri]; exact hy)
    refine ⟨_, rfl, _, rfl, .ref l, .int (m0 - r13), rfl, .inl ⟨l, es, (m0 - r13), c13.rows hl5, rfl, fun H14 u14 o14 l14 s14 no14 nl14 nu14 hu14 ho14 hl14 => ?_⟩⟩
    rw [hri] at ho14 hl14
    have c14 := c13.same s14
    refine ⟨_, rfl, _, rfl, _, rfl, l, es, (m0 - r13), rfl, c14.hl, c14.he, hl5, fun H15 u15 o15 l15 s15 hu15 ho15 hl15 => ?_⟩
    rw [hri] at ho15 hl15
    have c15 := c14.same s15
    have e1 : Ents H15 ri.1 := fun y hy => c15.he y (rm1 y hy)
    have e2 : Ents H15 ri.2 := fun y hy => c15.he y (rm2 y hy)
    refine ⟨.tuple [rowsD ri.1, rowsD ri.2], .tuple [rowsD ri.1, rowsD ri.2], dp_ri (s15 _ _ hu14) (s15 _ _ ho14) (s15 _ _ hl14) e1 e2, dp_ri hu15 ho15 hl15 e1 e2, shaped_ri _ _, shaped_ri _ _, _, rfl, ?_⟩
    rw [eqv_ri]
    refine iteF ⟨_, rfl, _, rfl, .ref l, .int (m0 - r13), rfl, .inl ⟨l, es, (m0 - r13), c15.rows hl5, rfl, fun H16 u16 o16 l16 s16 no16 nl16 nu16 hu16 ho16 hl16 => ?_⟩⟩
    rw [hri] at ho16 hl16
    have c16 := c15.same s16
    refine ⟨_, rfl, _, rfl, l, es, (m0 - r13), rfl, c16.hl, c16.he, hl5, fun H17 u17 o17 l17 s17 hu17 ho17 hl17 => ?_⟩
    rw [hri] at ho17 hl17
    have c17 := c16.same s17
    have e1 : Ents H17 ri.1 := fun y hy => c17.he y (rm1 y hy)
    have e2 : Ents H17 ri.2 := fun y hy => c17.he y (rm2 y hy)
    refine ⟨.tuple [rowsD ri.1, rowsD ri.2], .tuple [rowsD ri.1, rowsD ri.2], dp_ri (s17 _ _ hu16) (s17 _ _ ho16) (s17 _ _ hl16) e1 e2, dp_ri hu17 ho17 hl17 e1 e2, shaped_ri _ _, shaped_ri _ _, _, rfl, ?_⟩
    rw [eqv_ri]
    refine iteF ⟨_, rfl, _, rfl, rowsD es, rowsD es, dp_rows (SqL.of c17.hl) c17.he, dp_rows (SqL.of c17.hk) c17.he, shaped_rows _, shaped_rows _, _, rfl, ?_⟩
    rw [eqv_self]
    refine iteF ?_
    have f17 := f13.trans (Far.same (s14.trans (s15.trans (s16.trans s17))))
    clear e1 e2 c8 c9 c10 c11 c12 c13 c14 c15 c16 f8 f9 f10 f11 f12 f13 hu14 ho14 hl14 hu15 ho15 hl15 hu16 ho16 hl16 hu17 ho17 hl17
    -- what is no number
    refine ⟨_, rfl, (by show 1 ≤ sizeLine; decide), fun u18 n18 => ?_⟩
    have s18 := same_new (o := .tup [V.int 1]) n18
    have h18 : (upd H17 u18 (.tup [V.int 1])) u18 = some (.tup [V.int 1]) := upd_same
    have c18 := c17.same s18
    have f18 := f17.trans (Far.same s18)
    have d18 := well_new c17.w n18
    generalize upd H17 u18 (.tup [V.int 1]) = H18 at s18 h18 c18 f18  ⊢
    refine ⟨(by show 1 ≤ sizeLine; decide), fun u19 n19 => ?_⟩
    have s19 := same_new (o := .lst [V.int 1]) n19
    have h19 : (upd H18 u19 (.lst [V.int 1])) u19 = some (.lst [V.int 1]) := upd_same
    have c19 := c18.same s19
    have f19 := f18.trans (Far.same s19)
    have d19 := well_new c18.w n19
    generalize upd H18 u19 (.lst [V.int 1]) = H19 at s19 h19 c19 f19  ⊢
    refine ⟨(by show 5 ≤ sizeLine; decide), fun u20 n20 => ?_⟩
    have s20 := same_new (o := .lst [V.non, V.bl true, V.str "1", V.ref u18, V.ref u19]) n20
    have h20 : (upd H19 u20 (.lst [V.non, V.bl true, V.str "1", V.ref u18, V.ref u19])) u20 = some (.lst [V.non, V.bl true, V.str "1", V.ref u18, V.ref u19]) := upd_same
    have c20 := c19.same s20
    have f20 := f19.trans (Far.same s20)
    have d20 := well_new c19.w n20
    generalize upd H19 u20 (.lst [V.non, V.bl true, V.str "1", V.ref u18, V.ref u19]) = H20 at s20 h20 c20 f20  ⊢
    refine ⟨pw, u20, _, _, rfl, c20.w, by decide, h20, d20, Nat.succ_pos _, (by show 5 ≤ 100000; decide), fun vo H21 hv k_21 w21 => ?_⟩
    have so : SWh [pw] H21 vo := by
      refine SWh.far (H := H20) ?_ (Far.kp k_21 (by simp))
      simp only [List.mem_cons, List.not_mem_nil, or_false] at hv
      rcases hv with rfl | rfl | rfl | rfl | rfl
      · exact swh_scal trivial rfl
      · exact swh_scal trivial rfl
      · exact swh_scal trivial rfl
      · exact swh_tup (nm1 d18) (s20 _ _ (s19 _ _ h18))
      · exact swh_lst (nm1 d19) (s20 _ _ h19)
    have c21 := c20.wel k_21 w21
    have f21 := f20.trans (Far.kp k_21 (by simp))
    clear hv h18 h19 h20
    refine ⟨c21.ht, fun g1 e1 H22 x22 t22 nf hf hd => ?_⟩
    have k1 : Kept g1 _ H22 := ⟨hf, hd⟩
    have c22 := c21.ext x22 t22
    have f22 := f21.trans (Far.ext x22)
    clear hf hd nf
    refine ⟨(by show 1 ≤ sizeLine; decide), fun ua na => ?_⟩
    have s23 := same_new (o := .lst [V.ref g1]) na
    have hua : (upd H22 ua (.lst [V.ref g1])) ua = some (.lst [V.ref g1]) := upd_same
    have c23 := c22.same s23
    have f23 := f22.trans (Far.same s23)
    have nup := well_new c22.w na
    have nul : ua ≠ l := Ne.symm (ne_of_none c22.hl na)
    have nuk : ua ≠ u3 := Ne.symm (ne_of_none c22.hk na)
    have nug : ua ≠ lg := Ne.symm (ne_of_none c22.hg na)
    have k1 := k1.same s23
    have so : SWh [ua, pw] (upd H22 ua (.lst [V.ref g1])) vo := (so.add (Far.ext x22) na).far (Far.same s23)
    have fz : ∀ {Hx : Hp} {xs : List V}, Far [pw] HA Hx → Far [pw] HA (upd Hx ua (.lst xs)) := fun {Hx xs} f b o hb h t => by
      have h22 := f22 b o hb h t
      rw [upd_ne (ne_of_none h22 na)]
      exact f b o hb h t
    generalize upd H22 ua (.lst [V.ref g1]) = H23 at s23 hua c23 f23 k1 so ⊢
    refine ⟨_, rfl, .inl ⟨rfl, _, SqL.of hua⟩, c23.ht, fun g2 e2 H24 x24 t24 nf hf hd => ?_⟩
    have k1 := k1.ext x24
    have so := so.far (Far.ext x24)
    have k2 : Kept g2 _ H24 := ⟨hf, hd⟩
    have c24 := c23.ext x24 t24
    have f24 := f23.trans (Far.ext x24)
    clear hf hd nf
    have hua := x24 _ _ hua (fun _ z => by cases z)
    refine ⟨ua, _, _, rfl, rfl, hua, (by show 1 < sizeLine; decide), ?_⟩
    rw [show [V.ref g1] ++ [V.ref g2] = [V.ref g1, V.ref g2] from rfl]
    have c25 := c24.wr (ys := [V.ref g1, V.ref g2]) hua nup nul nuk nug
    have f25 := fz (xs := [V.ref g1, V.ref g2]) f24
    have k1 := k1.wr (ys := [V.ref g1, V.ref g2]) hua
    have k2 := k2.wr (ys := [V.ref g1, V.ref g2]) hua
    have so := so.far (Far.wr (o := .lst [V.ref g1, V.ref g2]) List.mem_cons_self)
    replace hua : (upd H24 ua (.lst [V.ref g1, V.ref g2])) ua = some (.lst [V.ref g1, V.ref g2]) := upd_same
    generalize upd H24 ua (.lst [V.ref g1, V.ref g2]) = H25 at c25 f25 k1 k2 so hua ⊢
    refine ⟨_, rfl, (by show 1 ≤ sizeLine; decide), fun u26 n26 => ?_⟩
    have s26 := same_new (o := .lst [V.bl true]) n26
    have h26 : (upd H25 u26 (.lst [V.bl true])) u26 = some (.lst [V.bl true]) := upd_same
    have c26 := c25.same s26
    have f26 := f25.trans (Far.same s26)
    have d26 := well_new c25.w n26
    have v26 : u26 ≠ ua := Ne.symm (ne_of_none hua n26)
    have k1 := k1.same s26
    have k2 := k2.same s26
    have so := so.far (Far.same s26)
    have hua := s26 _ _ hua
    generalize upd H25 u26 (.lst [V.bl true]) = H26 at s26 h26 c26 f26 k1 k2 so hua ⊢
    refine ⟨(by show 2 ≤ sizeLine; decide), fun u27 n27 => ?_⟩
    have s27 := same_new (o := .tup [V.int 1, V.non]) n27
    have h27 : (upd H26 u27 (.tup [V.int 1, V.non])) u27 = some (.tup [V.int 1, V.non]) := upd_same
    have c27 := c26.same s27
    have f27 := f26.trans (Far.same s27)
    have d27 := well_new c26.w n27
    have v27 : u27 ≠ ua := Ne.symm (ne_of_none hua n27)
    have k1 := k1.same s27
    have k2 := k2.same s27
    have so := so.far (Far.same s27)
    have hua := s27 _ _ hua
    generalize upd H26 u27 (.tup [V.int 1, V.non]) = H27 at s27 h27 c27 f27 k1 k2 so hua ⊢
    refine fun u28 n28 => ?_
    have s28 := same_new (o := .dK []) n28
    have h28 : (upd H27 u28 (.dK [])) u28 = some (.dK []) := upd_same
    have c28 := c27.same s28
    have f28 := f27.trans (Far.same s28)
    have d28 := well_new c27.w n28
    have v28 : u28 ≠ ua := Ne.symm (ne_of_none hua n28)
    have k1 := k1.same s28
    have k2 := k2.same s28
    have so := so.far (Far.same s28)
    have hua := s28 _ _ hua
    generalize upd H27 u28 (.dK []) = H28 at s28 h28 c28 f28 k1 k2 so hua ⊢
    refine ⟨(by show 1 ≤ sizeLine; decide), fun u29 n29 => ?_⟩
    have s29 := same_new (o := .lst [V.str "1"]) n29
    have h29 : (upd H28 u29 (.lst [V.str "1"])) u29 = some (.lst [V.str "1"]) := upd_same
    have c29 := c28.same s29
    have f29 := f28.trans (Far.same s29)
    have d29 := well_new c28.w n29
    have v29 : u29 ≠ ua := Ne.symm (ne_of_none hua n29)
    have k1 := k1.same s29
    have k2 := k2.same s29
    have so := so.far (Far.same s29)
    have hua := s29 _ _ hua
    generalize upd H28 u29 (.lst [V.str "1"]) = H29 at s29 h29 c29 f29 k1 k2 so hua ⊢
    refine ⟨(by show 1 ≤ sizeLine; decide), fun u30 n30 => ?_⟩
    have s30 := same_new (o := .tup [V.int 1]) n30
    have h30 : (upd H29 u30 (.tup [V.int 1])) u30 = some (.tup [V.int 1]) := upd_same
    have c30 := c29.same s30
    have f30 := f29.trans (Far.same s30)
    have d30 := well_new c29.w n30
    have v30 : u30 ≠ ua := Ne.symm (ne_of_none hua n30)
    have k1 := k1.same s30
    have k2 := k2.same s30
    have so := so.far (Far.same s30)
    have hua := s30 _ _ hua
    generalize upd H29 u30 (.tup [V.int 1]) = H30 at s30 h30 c30 f30 k1 k2 so hua ⊢
    refine ⟨(by show 1 ≤ sizeLine; decide), fun u31 n31 => ?_⟩
    have s31 := same_new (o := .tup [V.ref u30]) n31
    have h31 : (upd H30 u31 (.tup [V.ref u30])) u31 = some (.tup [V.ref u30]) := upd_same
    have c31 := c30.same s31
    have f31 := f30.trans (Far.same s31)
    have d31 := well_new c30.w n31
    have v31 : u31 ≠ ua := Ne.symm (ne_of_none hua n31)
    have k1 := k1.same s31
    have k2 := k2.same s31
    have so := so.far (Far.same s31)
    have hua := s31 _ _ hua
    generalize upd H30 u31 (.tup [V.ref u30]) = H31 at s31 h31 c31 f31 k1 k2 so hua ⊢
    refine ⟨(by show 8 ≤ sizeLine; decide), fun u32 n32 => ?_⟩
    have s32 := same_new (o := .lst [V.non, V.int 5, V.str "12", V.ref u26, V.ref u27, V.ref u28, V.ref u29, V.ref u31]) n32
    have h32 : (upd H31 u32 (.lst [V.non, V.int 5, V.str "12", V.ref u26, V.ref u27, V.ref u28, V.ref u29, V.ref u31])) u32 = some (.lst [V.non, V.int 5, V.str "12", V.ref u26, V.ref u27, V.ref u28, V.ref u29, V.ref u31]) := upd_same
    have c32 := c31.same s32
    have f32 := f31.trans (Far.same s32)
    have d32 := well_new c31.w n32
    have v32 : u32 ≠ ua := Ne.symm (ne_of_none hua n32)
    have k1 := k1.same s32
    have k2 := k2.same s32
    have so := so.far (Far.same s32)
    have hua := s32 _ _ hua
    generalize upd H31 u32 (.lst [V.non, V.int 5, V.str "12", V.ref u26, V.ref u27, V.ref u28, V.ref u29, V.ref u31]) = H32 at s32 h32 c32 f32 k1 k2 so hua ⊢
    refine ⟨pw, u32, _, _, rfl, c32.w, by decide, h32, d32, Nat.succ_pos _, (by show 8 ≤ 100000; decide), fun vb H33 hv k_33 w33 => ?_⟩
    have sg : SGone [ua, pw] H33 vb := by
      refine SGone.far (H := H32) ?_ (Far.kp k_33 (by simp))
      have h26 := s32 _ _ (s31 _ _ (s30 _ _ (s29 _ _ (s28 _ _ (s27 _ _ h26)))))
      have h27 := s32 _ _ (s31 _ _ (s30 _ _ (s29 _ _ (s28 _ _ h27))))
      have h28 := s32 _ _ (s31 _ _ (s30 _ _ (s29 _ _ h28)))
      have h29 := s32 _ _ (s31 _ _ (s30 _ _ h29))
      have h30 := s32 _ _ (s31 _ _ h30)
      have h31 := s32 _ _ h31
      simp only [List.mem_cons, List.not_mem_nil, or_false] at hv
      rcases hv with rfl | rfl | rfl | rfl | rfl | rfl | rfl | rfl
      · exact sgone_scal trivial
      · exact sgone_scal trivial
      · exact sgone_scal trivial
      · exact sgone_row (bad := .bl true) (nm2 v26 d26) (.inl h26) (by show 1 ≤ 1000; decide) (swh_scal trivial rfl) List.mem_cons_self (fun x hx => .inl (List.mem_singleton.mp hx))
      · refine sgone_row (bad := .non) (nm2 v27 d27) (.inr h27) (by show 2 ≤ 1000; decide) (swh_scal trivial rfl) (by simp) (fun x hx => ?_)
        simp only [List.mem_cons, List.not_mem_nil, or_false] at hx
        rcases hx with rfl | rfl
        · exact .inr ⟨1, rfl⟩
        · exact .inl rfl
      · exact sgone_dct (nm2 v28 d28) h28
      · exact sgone_row (bad := .str "1") (nm2 v29 d29) (.inl h29) (by show 1 ≤ 1000; decide) (swh_scal trivial rfl) List.mem_cons_self (fun x hx => .inl (List.mem_singleton.mp hx))
      · exact sgone_row (bad := .ref u30) (nm2 v31 d31) (.inr h31) (by show 1 ≤ 1000; decide) (swh_tup (nm2 v30 d30) h30) List.mem_cons_self (fun x hx => .inl (List.mem_singleton.mp hx))
    have k1 := k1.wel c32.w k_33
    have k2 := k2.wel c32.w k_33
    have so := so.far (Far.kp k_33 (by simp))
    have hua := k_33 _ _ (fun z => nup (List.mem_singleton.mp z)) hua
    have c33 := c32.wel k_33 w33
    have f33 := f32.trans (Far.kp k_33 (by simp))
    clear hv h26 h27 h28 h29 h30 h31 h32
    refine ⟨_, rfl, .inl ⟨rfl, _, SqL.of hua⟩, c33.ht, fun g3 e3 H34 x34 t34 nf hf hd => ?_⟩
    have k1 := k1.ext x34
    have k2 := k2.ext x34
    have so := so.far (Far.ext x34)
    have sg := sg.far (Far.ext x34)
    have k3 : Kept g3 _ H34 := ⟨hf, hd⟩
    have c34 := c33.ext x34 t34
    have f34 := f33.trans (Far.ext x34)
    clear hf hd nf
    have hua := x34 _ _ hua (fun _ z => by cases z)
    refine ⟨ua, _, _, rfl, rfl, hua, (by show 2 < sizeLine; decide), ?_⟩
    rw [show [V.ref g1, V.ref g2] ++ [V.ref g3] = [V.ref g1, V.ref g2, V.ref g3] from rfl]
    have c35 := c34.wr (ys := [V.ref g1, V.ref g2, V.ref g3]) hua nup nul nuk nug
    have f35 := fz (xs := [V.ref g1, V.ref g2, V.ref g3]) f34
    have k1 := k1.wr (ys := [V.ref g1, V.ref g2, V.ref g3]) hua
    have k2 := k2.wr (ys := [V.ref g1, V.ref g2, V.ref g3]) hua
    have k3 := k3.wr (ys := [V.ref g1, V.ref g2, V.ref g3]) hua
    have so := so.far (Far.wr (o := .lst [V.ref g1, V.ref g2, V.ref g3]) List.mem_cons_self)
    have sg := sg.far (Far.wr (o := .lst [V.ref g1, V.ref g2, V.ref g3]) List.mem_cons_self)
    replace hua : (upd H34 ua (.lst [V.ref g1, V.ref g2, V.ref g3])) ua = some (.lst [V.ref g1, V.ref g2, V.ref g3]) := upd_same
    generalize upd H34 ua (.lst [V.ref g1, V.ref g2, V.ref g3]) = H35 at c35 f35 k1 k2 k3 so sg hua ⊢
    refine ⟨_, rfl, _, rfl, (by show 1 ≤ sizeLine; decide), fun u36 n36 => ?_⟩
    have s36 := same_new (o := .tup [V.int 1]) n36
    have h36 : (upd H35 u36 (.tup [V.int 1])) u36 = some (.tup [V.int 1]) := upd_same
    have c36 := c35.same s36
    have f36 := f35.trans (Far.same s36)
    have d36 := well_new c35.w n36
    have v36 : u36 ≠ ua := Ne.symm (ne_of_none hua n36)
    have k1 := k1.same s36
    have k2 := k2.same s36
    have k3 := k3.same s36
    have so := so.far (Far.same s36)
    have sg := sg.far (Far.same s36)
    have hua := s36 _ _ hua
    generalize upd H35 u36 (.tup [V.int 1]) = H36 at s36 h36 c36 f36 k1 k2 k3 so sg hua ⊢
    refine ⟨(by show 1 ≤ sizeLine; decide), fun u37 n37 => ?_⟩
    have s37 := same_new (o := .lst [V.ref u36]) n37
    have h37 : (upd H36 u37 (.lst [V.ref u36])) u37 = some (.lst [V.ref u36]) := upd_same
    have c37 := c36.same s37
    have f37 := f36.trans (Far.same s37)
    have d37 := well_new c36.w n37
    have v37 : u37 ≠ ua := Ne.symm (ne_of_none hua n37)
    have k1 := k1.same s37
    have k2 := k2.same s37
    have k3 := k3.same s37
    have so := so.far (Far.same s37)
    have sg := sg.far (Far.same s37)
    have hua := s37 _ _ hua
    generalize upd H36 u37 (.lst [V.ref u36]) = H37 at s37 h37 c37 f37 k1 k2 k3 so sg hua ⊢
    refine ⟨l, u37, _, _, rfl, rfl, c37.hl, h37, Nat.le_trans (show _ ≤ 5001 by rw [vs_len]; show es.length + 1 ≤ 5001; omega) (by decide), fun u38 n38 => ?_⟩
    have s38 := same_new (o := .lst (vsOf es ++ [V.ref u36])) n38
    have h38 : (upd H37 u38 (.lst (vsOf es ++ [V.ref u36]))) u38 = some (.lst (vsOf es ++ [V.ref u36])) := upd_same
    have c38 := c37.same s38
    have f38 := f37.trans (Far.same s38)
    have d38 := well_new c37.w n38
    have v38 : u38 ≠ ua := Ne.symm (ne_of_none hua n38)
    have k1 := k1.same s38
    have k2 := k2.same s38
    have k3 := k3.same s38
    have so := so.far (Far.same s38)
    have sg := sg.far (Far.same s38)
    have hua := s38 _ _ hua
    generalize upd H37 u38 (.lst (vsOf es ++ [V.ref u36])) = H38 at s38 h38 c38 f38 k1 k2 k3 so sg hua ⊢
    refine ⟨(by show 2 ≤ sizeLine; decide), fun u39 n39 => ?_⟩
    have s39 := same_new (o := .lst [V.int 1, V.int 2]) n39
    have h39 : (upd H38 u39 (.lst [V.int 1, V.int 2])) u39 = some (.lst [V.int 1, V.int 2]) := upd_same
    have c39 := c38.same s39
    have f39 := f38.trans (Far.same s39)
    have d39 := well_new c38.w n39
    have v39 : u39 ≠ ua := Ne.symm (ne_of_none hua n39)
    have k1 := k1.same s39
    have k2 := k2.same s39
    have k3 := k3.same s39
    have so := so.far (Far.same s39)
    have sg := sg.far (Far.same s39)
    have hua := s39 _ _ hua
    generalize upd H38 u39 (.lst [V.int 1, V.int 2]) = H39 at s39 h39 c39 f39 k1 k2 k3 so sg hua ⊢
    refine ⟨(by show 1 ≤ sizeLine; decide), fun u40 n40 => ?_⟩
    have s40 := same_new (o := .lst [V.ref u39]) n40
    have h40 : (upd H39 u40 (.lst [V.ref u39])) u40 = some (.lst [V.ref u39]) := upd_same
    have c40 := c39.same s40
    have f40 := f39.trans (Far.same s40)
    have d40 := well_new c39.w n40
    have v40 : u40 ≠ ua := Ne.symm (ne_of_none hua n40)
    have k1 := k1.same s40
    have k2 := k2.same s40
    have k3 := k3.same s40
    have so := so.far (Far.same s40)
    have sg := sg.far (Far.same s40)
    have hua := s40 _ _ hua
    generalize upd H39 u40 (.lst [V.ref u39]) = H40 at s40 h40 c40 f40 k1 k2 k3 so sg hua ⊢
    refine ⟨(by show 2 ≤ sizeLine; decide), fun u41 n41 => ?_⟩
    have s41 := same_new (o := .tup [V.bl true, V.int 1]) n41
    have h41 : (upd H40 u41 (.tup [V.bl true, V.int 1])) u41 = some (.tup [V.bl true, V.int 1]) := upd_same
    have c41 := c40.same s41
    have f41 := f40.trans (Far.same s41)
    have d41 := well_new c40.w n41
    have v41 : u41 ≠ ua := Ne.symm (ne_of_none hua n41)
    have k1 := k1.same s41
    have k2 := k2.same s41
    have k3 := k3.same s41
    have so := so.far (Far.same s41)
    have sg := sg.far (Far.same s41)
    have hua := s41 _ _ hua
    generalize upd H40 u41 (.tup [V.bl true, V.int 1]) = H41 at s41 h41 c41 f41 k1 k2 k3 so sg hua ⊢
    refine ⟨(by show 1 ≤ sizeLine; decide), fun u42 n42 => ?_⟩
    have s42 := same_new (o := .lst [V.ref u41]) n42
    have h42 : (upd H41 u42 (.lst [V.ref u41])) u42 = some (.lst [V.ref u41]) := upd_same
    have c42 := c41.same s42
    have f42 := f41.trans (Far.same s42)
    have d42 := well_new c41.w n42
    have v42 : u42 ≠ ua := Ne.symm (ne_of_none hua n42)
    have k1 := k1.same s42
    have k2 := k2.same s42
    have k3 := k3.same s42
    have so := so.far (Far.same s42)
    have sg := sg.far (Far.same s42)
    have hua := s42 _ _ hua
    generalize upd H41 u42 (.lst [V.ref u41]) = H42 at s42 h42 c42 f42 k1 k2 k3 so sg hua ⊢
    refine ⟨_, rfl, u42, l, _, _, rfl, rfl, h42, c42.hl, Nat.le_trans (show _ ≤ 5001 by rw [vs_len]; show 1 + es.length ≤ 5001; omega) (by decide), fun u43 n43 => ?_⟩
    have s43 := same_new (o := .lst ([V.ref u41] ++ vsOf es)) n43
    have h43 : (upd H42 u43 (.lst ([V.ref u41] ++ vsOf es))) u43 = some (.lst ([V.ref u41] ++ vsOf es)) := upd_same
    have c43 := c42.same s43
    have f43 := f42.trans (Far.same s43)
    have d43 := well_new c42.w n43
    have v43 : u43 ≠ ua := Ne.symm (ne_of_none hua n43)
    have k1 := k1.same s43
    have k2 := k2.same s43
    have k3 := k3.same s43
    have so := so.far (Far.same s43)
    have sg := sg.far (Far.same s43)
    have hua := s43 _ _ hua
    generalize upd H42 u43 (.lst ([V.ref u41] ++ vsOf es)) = H43 at s43 h43 c43 f43 k1 k2 k3 so sg hua ⊢
    refine ⟨(by show 2 ≤ sizeLine; decide), fun u44 n44 => ?_⟩
    have s44 := same_new (o := .tup [V.int 1, V.non]) n44
    have h44 : (upd H43 u44 (.tup [V.int 1, V.non])) u44 = some (.tup [V.int 1, V.non]) := upd_same
    have c44 := c43.same s44
    have f44 := f43.trans (Far.same s44)
    have d44 := well_new c43.w n44
    have v44 : u44 ≠ ua := Ne.symm (ne_of_none hua n44)
    have k1 := k1.same s44
    have k2 := k2.same s44
    have k3 := k3.same s44
    have so := so.far (Far.same s44)
    have sg := sg.far (Far.same s44)
    have hua := s44 _ _ hua
    generalize upd H43 u44 (.tup [V.int 1, V.non]) = H44 at s44 h44 c44 f44 k1 k2 k3 so sg hua ⊢
    refine ⟨(by show 1 ≤ sizeLine; decide), fun u45 n45 => ?_⟩
    have s45 := same_new (o := .lst [V.ref u44]) n45
    have h45 : (upd H44 u45 (.lst [V.ref u44])) u45 = some (.lst [V.ref u44]) := upd_same
    have c45 := c44.same s45
    have f45 := f44.trans (Far.same s45)
    have d45 := well_new c44.w n45
    have v45 : u45 ≠ ua := Ne.symm (ne_of_none hua n45)
    have k1 := k1.same s45
    have k2 := k2.same s45
    have k3 := k3.same s45
    have so := so.far (Far.same s45)
    have sg := sg.far (Far.same s45)
    have hua := s45 _ _ hua
    generalize upd H44 u45 (.lst [V.ref u44]) = H45 at s45 h45 c45 f45 k1 k2 k3 so sg hua ⊢
    refine ⟨_, rfl, l, _, rfl, .inl ⟨SqL.of c45.hl, fun u46 n46 => ?_⟩⟩
    have s46 := same_new (o := .tup (vsOf es)) n46
    have h46 : (upd H45 u46 (.tup (vsOf es))) u46 = some (.tup (vsOf es)) := upd_same
    have c46 := c45.same s46
    have f46 := f45.trans (Far.same s46)
    have d46 := well_new c45.w n46
    have v46 : u46 ≠ ua := Ne.symm (ne_of_none hua n46)
    have k1 := k1.same s46
    have k2 := k2.same s46
    have k3 := k3.same s46
    have so := so.far (Far.same s46)
    have sg := sg.far (Far.same s46)
    have hua := s46 _ _ hua
    generalize upd H45 u46 (.tup (vsOf es)) = H46 at s46 h46 c46 f46 k1 k2 k3 so sg hua ⊢
    refine ⟨(by show 8 ≤ sizeLine; decide), fun u47 n47 => ?_⟩
    have s47 := same_new (o := .lst [V.ref u38, V.ref u40, V.ref u43, V.ref u45, V.non, V.str "rows", V.ref u46, V.int 5]) n47
    have h47 : (upd H46 u47 (.lst [V.ref u38, V.ref u40, V.ref u43, V.ref u45, V.non, V.str "rows", V.ref u46, V.int 5])) u47 = some (.lst [V.ref u38, V.ref u40, V.ref u43, V.ref u45, V.non, V.str "rows", V.ref u46, V.int 5]) := upd_same
    have c47 := c46.same s47
    have f47 := f46.trans (Far.same s47)
    have d47 := well_new c46.w n47
    have v47 : u47 ≠ ua := Ne.symm (ne_of_none hua n47)
    have k1 := k1.same s47
    have k2 := k2.same s47
    have k3 := k3.same s47
    have so := so.far (Far.same s47)
    have sg := sg.far (Far.same s47)
    have hua := s47 _ _ hua
    generalize upd H46 u47 (.lst [V.ref u38, V.ref u40, V.ref u43, V.ref u45, V.non, V.str "rows", V.ref u46, V.int 5]) = H47 at s47 h47 c47 f47 k1 k2 k3 so sg hua ⊢
    refine ⟨pw, u47, _, _, rfl, c47.w, by decide, h47, d47, Nat.succ_pos _, (by show 8 ≤ 100000; decide), fun vn H48 hv k_48 w48 => ?_⟩
    have sn : SBad [ua, pw] H48 vn := by
      refine SBad.far (H := H47) ?_ (Far.kp k_48 (by simp))
      have h36 := (s47 _ _ (s46 _ _ (s45 _ _ (s44 _ _ (s43 _ _ (s42 _ _ (s41 _ _ (s40 _ _ (s39 _ _ (s38 _ _ (s37 _ _ h36)))))))))))
      have h38 := (s47 _ _ (s46 _ _ (s45 _ _ (s44 _ _ (s43 _ _ (s42 _ _ (s41 _ _ (s40 _ _ (s39 _ _ h38)))))))))
      have h39 := (s47 _ _ (s46 _ _ (s45 _ _ (s44 _ _ (s43 _ _ (s42 _ _ (s41 _ _ (s40 _ _ h39))))))))
      have h40 := (s47 _ _ (s46 _ _ (s45 _ _ (s44 _ _ (s43 _ _ (s42 _ _ (s41 _ _ h40)))))))
      have h41 := (s47 _ _ (s46 _ _ (s45 _ _ (s44 _ _ (s43 _ _ (s42 _ _ h41))))))
      have h43 := (s47 _ _ (s46 _ _ (s45 _ _ (s44 _ _ h43))))
      have h44 := (s47 _ _ (s46 _ _ (s45 _ _ h44)))
      have h45 := (s47 _ _ (s46 _ _ h45))
      have h46 := (s47 _ _ h46)
      have ent : ∀ x ∈ vsOf es, SIt [ua, pw] H47 x true := fun x hx => by
        obtain ⟨e, hm, rfl⟩ := List.mem_map.mp hx
        have he := c47.he e hm
        refine sit_ent (nm2 (fun z => ?_) (well_ent c47.w he)) he
        unfold EntAt at he
        rw [z, hua] at he
        cases he
      simp only [List.mem_cons, List.not_mem_nil, or_false] at hv
      rcases hv with rfl | rfl | rfl | rfl | rfl | rfl | rfl | rfl
      · refine sbad_item (bad := .ref u36) (nm2 v38 d38) h38 (by rw [List.length_append, vs_len]; show es.length + 1 ≤ 5000; omega) (sit_tup (nm2 v36 d36) h36 (by simp [Scal])) (by simp) (fun x hx => ?_)
        rcases List.mem_append.mp hx with z | z
        · exact .inr (ent x z)
        · exact .inl (List.mem_singleton.mp z)
      · exact sbad_item (bad := .ref u39) (nm2 v40 d40) h40 (by show 1 ≤ 5000; decide) (sit_lst (nm2 v39 d39) h39) List.mem_cons_self (fun x hx => .inl (List.mem_singleton.mp hx))
      · refine sbad_item (bad := .ref u41) (nm2 v43 d43) h43 (by rw [List.length_append, vs_len]; show 1 + es.length ≤ 5000; omega) (sit_tup (nm2 v41 d41) h41 (by simp [Scal])) (by simp) (fun x hx => ?_)
        rcases List.mem_append.mp hx with z | z
        · exact .inl (List.mem_singleton.mp z)
        · exact .inr (ent x z)
      · exact sbad_item (bad := .ref u44) (nm2 v45 d45) h45 (by show 1 ≤ 5000; decide) (sit_tup (nm2 v44 d44) h44 (by simp [Scal])) List.mem_cons_self (fun x hx => .inl (List.mem_singleton.mp hx))
      · exact sbad_scal trivial
      · exact sbad_scal trivial
      · exact sbad_tup (nm2 v46 d46) h46
      · exact sbad_scal trivial
    have k1 := k1.wel c47.w k_48
    have k2 := k2.wel c47.w k_48
    have k3 := k3.wel c47.w k_48
    have so := so.far (Far.kp k_48 (by simp))
    have sg := sg.far (Far.kp k_48 (by simp))
    have hua := k_48 _ _ (fun z => nup (List.mem_singleton.mp z)) hua
    have c48 := c47.wel k_48 w48
    have f48 := f47.trans (Far.kp k_48 (by simp))
    clear hv h36 h37 h38 h39 h40 h41 h42 h43 h44 h45 h46 h47
    refine ⟨_, rfl, .inl ⟨rfl, _, SqL.of hua⟩, c48.ht, fun g4 e4 H49 x49 t49 nf hf hd => ?_⟩
    have k1 := k1.ext x49
    have k2 := k2.ext x49
    have k3 := k3.ext x49
    have so := so.far (Far.ext x49)
    have sg := sg.far (Far.ext x49)
    have sn := sn.far (Far.ext x49)
    have k4 : Kept g4 _ H49 := ⟨hf, hd⟩
    have c49 := c48.ext x49 t49
    have f49 := f48.trans (Far.ext x49)
    clear hf hd nf
    have hua := x49 _ _ hua (fun _ z => by cases z)
    refine ⟨ua, _, _, rfl, rfl, hua, (by show 3 < sizeLine; decide), ?_⟩
    rw [show [V.ref g1, V.ref g2, V.ref g3] ++ [V.ref g4] = [V.ref g1, V.ref g2, V.ref g3, V.ref g4] from rfl]
    have c50 := c49.wr (ys := [V.ref g1, V.ref g2, V.ref g3, V.ref g4]) hua nup nul nuk nug
    have f50 := fz (xs := [V.ref g1, V.ref g2, V.ref g3, V.ref g4]) f49
    have k1 := k1.wr (ys := [V.ref g1, V.ref g2, V.ref g3, V.ref g4]) hua
    have k2 := k2.wr (ys := [V.ref g1, V.ref g2, V.ref g3, V.ref g4]) hua
    have k3 := k3.wr (ys := [V.ref g1, V.ref g2, V.ref g3, V.ref g4]) hua
    have k4 := k4.wr (ys := [V.ref g1, V.ref g2, V.ref g3, V.ref g4]) hua
    have so := so.far (Far.wr (o := .lst [V.ref g1, V.ref g2, V.ref g3, V.ref g4]) List.mem_cons_self)
    have sg := sg.far (Far.wr (o := .lst [V.ref g1, V.ref g2, V.ref g3, V.ref g4]) List.mem_cons_self)
    have sn := sn.far (Far.wr (o := .lst [V.ref g1, V.ref g2, V.ref g3, V.ref g4]) List.mem_cons_self)
    replace hua : (upd H49 ua (.lst [V.ref g1, V.ref g2, V.ref g3, V.ref g4])) ua = some (.lst [V.ref g1, V.ref g2, V.ref g3, V.ref g4]) := upd_same
    generalize upd H49 ua (.lst [V.ref g1, V.ref g2, V.ref g3, V.ref g4]) = H50 at c50 f50 k1 k2 k3 k4 so sg sn hua ⊢
    refine ⟨_, rfl, .inl ⟨rfl, _, SqL.of hua⟩, c50.ht, fun g5 e5 H51 x51 t51 nf hf hd => ?_⟩
    have k1 := k1.ext x51
    have k2 := k2.ext x51
    have k3 := k3.ext x51
    have k4 := k4.ext x51
    have so := so.far (Far.ext x51)
    have sg := sg.far (Far.ext x51)
    have sn := sn.far (Far.ext x51)
    have k5 : Kept g5 _ H51 := ⟨hf, hd⟩
    have c51 := c50.ext x51 t51
    have f51 := f50.trans (Far.ext x51)
    clear hf hd nf
    have hua := x51 _ _ hua (fun _ z => by cases z)
    refine ⟨ua, _, _, rfl, rfl, hua, (by show 4 < sizeLine; decide), ?_⟩
    rw [show [V.ref g1, V.ref g2, V.ref g3, V.ref g4] ++ [V.ref g5] = [V.ref g1, V.ref g2, V.ref g3, V.ref g4, V.ref g5] from rfl]
    have c52 := c51.wr (ys := [V.ref g1, V.ref g2, V.ref g3, V.ref g4, V.ref g5]) hua nup nul nuk nug
    have f52 := fz (xs := [V.ref g1, V.ref g2, V.ref g3, V.ref g4, V.ref g5]) f51
    have k1 := k1.wr (ys := [V.ref g1, V.ref g2, V.ref g3, V.ref g4, V.ref g5]) hua
    have k2 := k2.wr (ys := [V.ref g1, V.ref g2, V.ref g3, V.ref g4, V.ref g5]) hua
    have k3 := k3.wr (ys := [V.ref g1, V.ref g2, V.ref g3, V.ref g4, V.ref g5]) hua
    have k4 := k4.wr (ys := [V.ref g1, V.ref g2, V.ref g3, V.ref g4, V.ref g5]) hua
    have k5 := k5.wr (ys := [V.ref g1, V.ref g2, V.ref g3, V.ref g4, V.ref g5]) hua
    have so := so.far (Far.wr (o := .lst [V.ref g1, V.ref g2, V.ref g3, V.ref g4, V.ref g5]) List.mem_cons_self)
    have sg := sg.far (Far.wr (o := .lst [V.ref g1, V.ref g2, V.ref g3, V.ref g4, V.ref g5]) List.mem_cons_self)
    have sn := sn.far (Far.wr (o := .lst [V.ref g1, V.ref g2, V.ref g3, V.ref g4, V.ref g5]) List.mem_cons_self)
    replace hua : (upd H51 ua (.lst [V.ref g1, V.ref g2, V.ref g3, V.ref g4, V.ref g5])) ua = some (.lst [V.ref g1, V.ref g2, V.ref g3, V.ref g4, V.ref g5]) := upd_same
    generalize upd H51 ua (.lst [V.ref g1, V.ref g2, V.ref g3, V.ref g4, V.ref g5]) = H52 at c52 f52 k1 k2 k3 k4 k5 so sg sn hua ⊢
    refine ⟨_, rfl, .inl ⟨rfl, _, SqL.of hua⟩, c52.ht, fun g6 e6 H53 x53 t53 nf hf hd => ?_⟩
    have k1 := k1.ext x53
    have k2 := k2.ext x53
    have k3 := k3.ext x53
    have k4 := k4.ext x53
    have k5 := k5.ext x53
    have so := so.far (Far.ext x53)
    have sg := sg.far (Far.ext x53)
    have sn := sn.far (Far.ext x53)
    have k6 : Kept g6 _ H53 := ⟨hf, hd⟩
    have c53 := c52.ext x53 t53
    have f53 := f52.trans (Far.ext x53)
    clear hf hd nf
    have hua := x53 _ _ hua (fun _ z => by cases z)
    refine ⟨ua, _, _, rfl, rfl, hua, (by show 5 < sizeLine; decide), ?_⟩
    rw [show [V.ref g1, V.ref g2, V.ref g3, V.ref g4, V.ref g5] ++ [V.ref g6] = [V.ref g1, V.ref g2, V.ref g3, V.ref g4, V.ref g5, V.ref g6] from rfl]
    have c54 := c53.wr (ys := [V.ref g1, V.ref g2, V.ref g3, V.ref g4, V.ref g5, V.ref g6]) hua nup nul nuk nug
    have f54 := fz (xs := [V.ref g1, V.ref g2, V.ref g3, V.ref g4, V.ref g5, V.ref g6]) f53
    have k1 := k1.wr (ys := [V.ref g1, V.ref g2, V.ref g3, V.ref g4, V.ref g5, V.ref g6]) hua
    have k2 := k2.wr (ys := [V.ref g1, V.ref g2, V.ref g3, V.ref g4, V.ref g5, V.ref g6]) hua
    have k3 := k3.wr (ys := [V.ref g1, V.ref g2, V.ref g3, V.ref g4, V.ref g5, V.ref g6]) hua
    have k4 := k4.wr (ys := [V.ref g1, V.ref g2, V.ref g3, V.ref g4, V.ref g5, V.ref g6]) hua
    have k5 := k5.wr (ys := [V.ref g1, V.ref g2, V.ref g3, V.ref g4, V.ref g5, V.ref g6]) hua
    have k6 := k6.wr (ys := [V.ref g1, V.ref g2, V.ref g3, V.ref g4, V.ref g5, V.ref g6]) hua
    have so := so.far (Far.wr (o := .lst [V.ref g1, V.ref g2, V.ref g3, V.ref g4, V.ref g5, V.ref g6]) List.mem_cons_self)
    have sg := sg.far (Far.wr (o := .lst [V.ref g1, V.ref g2, V.ref g3, V.ref g4, V.ref g5, V.ref g6]) List.mem_cons_self)
    have sn := sn.far (Far.wr (o := .lst [V.ref g1, V.ref g2, V.ref g3, V.ref g4, V.ref g5, V.ref g6]) List.mem_cons_self)
    replace hua : (upd H53 ua (.lst [V.ref g1, V.ref g2, V.ref g3, V.ref g4, V.ref g5, V.ref g6])) ua = some (.lst [V.ref g1, V.ref g2, V.ref g3, V.ref g4, V.ref g5, V.ref g6]) := upd_same
    generalize upd H53 ua (.lst [V.ref g1, V.ref g2, V.ref g3, V.ref g4, V.ref g5, V.ref g6]) = H54 at c54 f54 k1 k2 k3 k4 k5 k6 so sg sn hua ⊢
    have a1 : Ask (XL (P := P) (w := w) T Z A outer s H E) [some (.ref a), some (.int cell), some (.ref pw), some (.ref u3), some (.ref u14), some (.ref ua), some vb, some (.ref lg), some (.ref l), some (.int (m0 - r13)), some vn, some vo, some (.int tally), none, none] Y.CB H54 (.ref g1) := ⟨g1, _, ["_law_lot", "_law_odd"], [8, 11], _, rfl, k1, caps_of (sc0 := defScope sLaw) rfl (by decide +kernel) rfl,
      (lok2 (sc := sA1) (x := "ripe") (y := "_law_lot") (z := "_law_odd") (a := "rows") (b := "now") GRipe T.gRipe T.fRipe.kp T.bRipe rfl rfl (NdefX.nscope_by (by decide +kernel)) rfl (fun _ _ => rfl) rfl rfl rfl rfl rfl).mono (by decide), fun H' s' Q' E' hE => ⟨.ref l, vo, rfl, .ref l, vo, rfl, .inr (.inr ⟨l, es, ⟨rfl, s' _ _ c54.hl, c54.he.same s', hl5⟩, so H' (Far.same s'), fun dd H2 s2 ⟨fs, hx⟩ => hE dd fs H2 s2 hx⟩)⟩⟩
    have a2 : Ask (XL (P := P) (w := w) T Z A outer s H E) [some (.ref a), some (.int cell), some (.ref pw), some (.ref u3), some (.ref u14), some (.ref ua), some vb, some (.ref lg), some (.ref l), some (.int (m0 - r13)), some vn, some vo, some (.int tally), none, none] Y.CB H54 (.ref g2) := ⟨g2, _, ["_law_lot", "_law_lost", "_law_odd"], [8, 7, 11], _, rfl, k2, caps_of (sc0 := defScope sLaw) rfl (by decide +kernel) rfl,
      (lok3 (sc := sA2) (x := "swept") (y := "_law_lot") (z := "_law_lost") (t := "_law_odd") (a := "rows") (b := "gone") (d := "count") GSwept T.gSwept T.fSwept.kp T.bSwept rfl rfl (NdefX.nscope_by (by decide +kernel)) rfl (fun _ _ => rfl) rfl rfl rfl rfl rfl rfl rfl).mono (by decide), fun H' s' Q' E' hE => ⟨.ref l, .ref lg, vo, rfl, .ref l, .ref lg, vo, rfl, .inr ⟨l, es, ⟨rfl, s' _ _ c54.hl, c54.he.same s', hl5⟩, .inr ⟨lg, ns, rfl, .inl (s' _ _ c54.hg), lns, .inl ⟨.kind (so H' (Far.same s')), fun dd H2 s2 ⟨fs, hx⟩ => hE dd fs H2 s2 hx⟩⟩⟩⟩⟩
    have a3 : Ask (XL (P := P) (w := w) T Z A outer s H E) [some (.ref a), some (.int cell), some (.ref pw), some (.ref u3), some (.ref u14), some (.ref ua), some vb, some (.ref lg), some (.ref l), some (.int (m0 - r13)), some vn, some vo, some (.int tally), none, none] Y.CB H54 (.ref g3) := ⟨g3, _, ["_law_lot", "_law_bad", "_law_tally"], [8, 6, 12], _, rfl, k3, caps_of (sc0 := defScope sLaw) rfl (by decide +kernel) rfl,
      (lok3 (sc := sA3) (x := "swept") (y := "_law_lot") (z := "_law_bad") (t := "_law_tally") (a := "rows") (b := "gone") (d := "count") GSwept T.gSwept T.fSwept.kp T.bSwept rfl rfl (NdefX.nscope_by (by decide +kernel)) rfl (fun _ _ => rfl) rfl rfl rfl rfl rfl rfl rfl).mono (by decide), fun H' s' Q' E' hE => ⟨.ref l, vb, .int tally, rfl, .ref l, vb, .int tally, rfl, .inr ⟨l, es, ⟨rfl, s' _ _ c54.hl, c54.he.same s', hl5⟩, .inl ⟨sg H' (Far.same s'), fun dd H2 s2 ⟨fs, hx⟩ => hE dd fs H2 s2 hx⟩⟩⟩⟩
    have a4 : Ask (XL (P := P) (w := w) T Z A outer s H E) [some (.ref a), some (.int cell), some (.ref pw), some (.ref u3), some (.ref u14), some (.ref ua), some vb, some (.ref lg), some (.ref l), some (.int (m0 - r13)), some vn, some vo, some (.int tally), none, none] Y.CB H54 (.ref g4) := ⟨g4, _, ["_law_none", "_law_moment"], [10, 9], _, rfl, k4, caps_of (sc0 := defScope sLaw) rfl (by decide +kernel) rfl,
      (lok2 (sc := sA4) (x := "ripe") (y := "_law_none") (z := "_law_moment") (a := "rows") (b := "now") GRipe T.gRipe T.fRipe.kp T.bRipe rfl rfl (NdefX.nscope_by (by decide +kernel)) rfl (fun _ _ => rfl) rfl rfl rfl rfl rfl).mono (by decide), fun H' s' Q' E' hE => ⟨vn, .int (m0 - r13), rfl, vn, .int (m0 - r13), rfl, .inr (.inl ⟨sn H' (Far.same s'), fun dd H2 s2 ⟨fs, hx⟩ => hE dd fs H2 s2 hx⟩)⟩⟩
    have a5 : Ask (XL (P := P) (w := w) T Z A outer s H E) [some (.ref a), some (.int cell), some (.ref pw), some (.ref u3), some (.ref u14), some (.ref ua), some vb, some (.ref lg), some (.ref l), some (.int (m0 - r13)), some vn, some vo, some (.int tally), none, none] Y.CB H54 (.ref g5) := ⟨g5, _, ["_law_none", "_law_lost", "_law_tally"], [10, 7, 12], _, rfl, k5, caps_of (sc0 := defScope sLaw) rfl (by decide +kernel) rfl,
      (lok3 (sc := sA5) (x := "swept") (y := "_law_none") (z := "_law_lost") (t := "_law_tally") (a := "rows") (b := "gone") (d := "count") GSwept T.gSwept T.fSwept.kp T.bSwept rfl rfl (NdefX.nscope_by (by decide +kernel)) rfl (fun _ _ => rfl) rfl rfl rfl rfl rfl rfl rfl).mono (by decide), fun H' s' Q' E' hE => ⟨vn, .ref lg, .int tally, rfl, vn, .ref lg, .int tally, rfl, .inl ⟨sn H' (Far.same s'), fun dd H2 s2 ⟨fs, hx⟩ => hE dd fs H2 s2 hx⟩⟩⟩
    have a6 : Ask (XL (P := P) (w := w) T Z A outer s H E) [some (.ref a), some (.int cell), some (.ref pw), some (.ref u3), some (.ref u14), some (.ref ua), some vb, some (.ref lg), some (.ref l), some (.int (m0 - r13)), some vn, some vo, some (.int tally), none, none] Y.CB H54 (.ref g6) := ⟨g6, _, ["_law_lot", "_law_lost"], [8, 7], _, rfl, k6, caps_of (sc0 := defScope sLaw) rfl (by decide +kernel) rfl,
      (lok2n (sc := sA6) (x := "swept") (y := "_law_lot") (z := "_law_lost") (a := "rows") (b := "gone") (d := "count") GSwept T.gSwept T.fSwept.kp T.bSwept rfl rfl (NdefX.nscope_by (by decide +kernel)) rfl (fun _ _ => rfl) rfl rfl rfl rfl rfl).mono (by decide), fun H' s' Q' E' hE => ⟨.ref l, .ref lg, rfl, .ref l, .ref lg, .int (-1), rfl, .inr ⟨l, es, ⟨rfl, s' _ _ c54.hl, c54.he.same s', hl5⟩, .inr ⟨lg, ns, rfl, .inl (s' _ _ c54.hg), lns, .inl ⟨.neg (by decide), fun dd H2 s2 ⟨fs, hx⟩ => hE dd fs H2 s2 hx⟩⟩⟩⟩⟩
    have al : ∀ x ∈ [V.ref g1, V.ref g2, V.ref g3, V.ref g4, V.ref g5, V.ref g6], Ask (XL (P := P) (w := w) T Z A outer s H E) [some (.ref a), some (.int cell), some (.ref pw), some (.ref u3), some (.ref u14), some (.ref ua), some vb, some (.ref lg), some (.ref l), some (.int (m0 - r13)), some vn, some vo, some (.int tally), none, none] Y.CB H54 x := fun x hx => by
      simp only [List.mem_cons, List.not_mem_nil, or_false] at hx
      rcases hx with rfl | rfl | rfl | rfl | rfl | rfl
      · exact a1
      · exact a2
      · exact a3
      · exact a4
      · exact a5
      · exact a6
    clear a1 a2 a3 a4 a5 a6 k1 k2 k3 k4 k5 k6
    refine ⟨_, rfl, ua, rfl, ⟨_, SqL.of hua⟩, fun D2 nD2 => ?_⟩
    refine lcLY (xs := [V.ref g1, V.ref g2, V.ref g3, V.ref g4, V.ref g5, V.ref g6]) (fun i acc H' => acc = List.replicate i (V.bl true) ∧ Same H54 H') (by show 6 ≤ 100000; decide) ?hw (fun i acc H' r => SqL.of (r.2 _ _ hua)) ⟨rfl, same_new nD2⟩ (fun i x acc H' Yq hx r hD hy => ?_) (fun acc H' r hD => ?_)
    case hw => exact fun x => rfl
    · obtain ⟨e1, sU⟩ := r
      obtain ⟨f, F, fr, js, sp, rfl, kt, cp, lo, pr⟩ := al x (List.mem_of_getElem? hx)
      have kt' := kt.same sU
      refine ⟨_, rfl, f, F, fr, js, sp, rfl, kt'.hf, kt'.hc, cp, lo, fun Q' E' hQ hE => ?_⟩
      refine pr H' sU Q' E' fun dd fs H2 s2 hx2 => hE dd H2 ?_
      exact hy _ _ (s2 _ _ hD) ⟨by rw [e1, List.replicate_succ'], same_wr1 (sU.trans s2) nD2⟩
    · obtain ⟨rfl, sU⟩ := r
      refine ⟨D2, List.replicate 6 true, rfl, SqL.of hD, true, rfl, iteF ⟨_, _, _, _, _, _, _, _, _, _, _, _, rfl, ?_, c54.ht.ext sU⟩⟩
      exact sU _ _ (f54 la _ (fun z => ne_of_none hla npw (List.mem_singleton.mp z)) hla (fun _ z => by cases z))
end
end K15

namespace K15
open PySem PySem.Spec PyProof.Rows L2 LamT
def clsBody (s : Stmt) : List Stmt := match s with
  | .ClassDef _ _ _ b _ _ _ _ _ _ _ => b
  | _ => []
abbrev sInit : Stmt := (clsBody (topS 1)).getD 0 (.Pass ⟨0, 0, 0, 0⟩)
theorem init_ok {P : Program} {W : World} {K : PySem.W.Frag} {mg : Str → Option Value} {base : Heap} {f c cc D : Addr} {oc dV kV doc pm ct : Value} {an od : Option Addr} {osl : Array (Option Value)}
    (lk : K.lookup f = some ⟨oc, od, .func (PySem.W.fnX "__init__" "LoopError.__init__" (defArgs sInit) (defBody sInit) (defScope sInit) [("__class__", cc)] dV kV doc pm an (.ref c) ct), osl⟩) (hcd : PySem.W.codeIn K (.ref c) "LoopError.__init__" = true)
    (T : SupI.SupTxt P K f c cc D) (hms : mg "super" = none) : FnOk P W K mg base CX0 1 f (PySem.W.fnX "__init__" "LoopError.__init__" (defArgs sInit) (defBody sInit) (defScope sInit) [("__class__", cc)] dV kV doc pm an (.ref c) ct) ["self", "why"] (SupI.spInit K D "why") :=
  SupI.ok_init (k := 0) lk hcd T hms (NdefX.nscope_by (by decide +kernel)) rfl rfl rfl rfl (fun L => rfl) rfl
theorem init_binds {K : PySem.W.Frag} {cc c TI : Addr} {kV doc pm ct ocT : Value} {an odT : Option Addr} {slT : Array (Option Value)} {tk : Tok} {n : Nat} (lT : K.lookup TI = some ⟨ocT, odT, .seq #[.str "" tk] n, slT⟩) :
    Binds K (PySem.W.fnX "__init__" "LoopError.__init__" (defArgs sInit) (defBody sInit) (defScope sInit) [("__class__", cc)] (.ref TI) kV doc pm an (.ref c) ct) ["self", "why"] [] := fun s us X hl => match us, hl with
  | [_, _], _ => PySem.W.binds_K X rfl lT rfl rfl rfl
theorem tabs0 {H : Hp} {B1 : Addr} {q1 : Str} (h1 : H B1 = some (.tbl #[])) : LamX.Tabs [(B1, q1)] H := fun p hp => by
  rw [List.mem_singleton.mp hp]
  exact ⟨#[], h1, True.intro, fun pos cv z => by cases z⟩
theorem all_mk {l : PySem.W.OpenLaw} {w : World} {K : PySem.W.Frag} {h : Heap} {mg : Str → Option Value} {fa f1 f2 f3 f4 f5 f6 f7 f8 f9 f10 f11 f12 f13 f14 f15 f16 f17 f18 f19 f20 f21 f22 f23 : Addr} (X : K.In h) (G : h.Ns mainGlobals mg) (hfa : mg "law" = some (.ref fa)) (own : ∀ y ∈ (["law"] : List Str), ∀ f, mg y = some (.ref f) → LamX.OwnTab K f h)
    {od1 an1 od2 an2 od3 an3 od4 an4 od5 an5 od6 an6 od7 an7 od8 an8 od9 an9 od10 an10 od11 an11 od12 an12 od13 an13 od14 an14 od15 an15 od16 an16 od17 an17 od18 an18 od19 an19 od20 an20 od21 an21 od22 an22 od23 an23 : Option Addr} {sl1 sl2 sl3 sl4 sl5 sl6 sl7 sl8 sl9 sl10 sl11 sl12 sl13 sl14 sl15 sl16 sl17 sl18 sl19 sl20 sl21 sl22 sl23 : Array (Option Value)} {oc1 kV1 dc1 pm1 ct1 oc2 kV2 dc2 pm2 ct2 oc3 kV3 dc3 pm3 ct3 oc4 kV4 dc4 pm4 ct4 oc5 kV5 dc5 pm5 ct5 oc6 kV6 dc6 pm6 ct6 oc7 kV7 dc7 pm7 ct7 oc8 kV8 dc8 pm8 ct8 oc9 kV9 dc9 pm9 ct9 oc10 kV10 dc10 pm10 ct10 oc11 kV11 dc11 pm11 ct11 oc12 kV12 dc12 pm12 ct12 oc13 kV13 dc13 pm13 ct13 oc14 kV14 dc14 pm14 ct14 oc15 kV15 dc15 pm15 ct15 oc16 kV16 dc16 pm16 ct16 oc17 kV17 dc17 pm17 ct17 oc18 kV18 dc18 pm18 ct18 oc19 kV19 dc19 pm19 ct19 oc20 kV20 dc20 pm20 ct20 oc21 kV21 dc21 pm21 ct21 oc22 kV22 dc22 pm22 ct22 oc23 kV23 dc23 pm23 ct23 cd1 cd2 cd3 cd4 cd5 cd6 cd7 cd8 cd9 cd10 cd11 cd12 cd13 cd14 cd15 cd16 cd17 cd18 cd19 cd20 cd21 cd22 : Value} {tkMOST tkTIM : Tok}
    {CB CL fI cI ccI cR BR : Addr} {nm q : Str} {N : Addr} {bs bm : List Value} {sn : List Str} {sub : List Value} {ab : Bool} {col : Option Bool} {dd : Option Addr} {m0 m1 m2 m3 m5 : Option Value}
    {TI : Addr} {tkT : Tok} {nT : Nat} {ocT : Value} {odT : Option Addr} {slT : Array (Option Value)} {ocI kVI dcI pmI ctI clI cclI : Value} {odI anI cldI cddI : Option Addr} {slI cslI ccsI : Array (Option Value)} {vsI : Array Value} {fileI : Str} {tfI : Tok} {cdL : ClassData} {ddR : Option Addr} {vsR : Array Value} {slR : Array (Option Value)}
    (a1 : PySem.W.nsIn K mainGlobals "rise" = some (some (.ref f1)))
    (l1 : K.lookup f1 = some ⟨oc1, od1, .func (PySem.W.fnOf "rise" "rise" (defArgs sRise) (defBody sRise) (defScope sRise) .none kV1 dc1 pm1 an1 cd1 ct1), sl1⟩)
    (c1 : PySem.W.codeIn K cd1 "rise" = true)
    (k1 : PySem.W.keepIn K (.ref f1) = true)
    (a2 : PySem.W.nsIn K mainGlobals "sink" = some (some (.ref f2)))
    (l2 : K.lookup f2 = some ⟨oc2, od2, .func (PySem.W.fnOf "sink" "sink" (defArgs sSink) (defBody sSink) (defScope sSink) .none kV2 dc2 pm2 an2 cd2 ct2), sl2⟩)
    (c2 : PySem.W.codeIn K cd2 "sink" = true)
    (k2 : PySem.W.keepIn K (.ref f2) = true)
    (a3 : PySem.W.nsIn K mainGlobals "pop_by" = some (some (.ref f3)))
    (l3 : K.lookup f3 = some ⟨oc3, od3, .func (PySem.W.fnOf "pop_by" "pop_by" (defArgs sPopBy) (defBody sPopBy) (defScope sPopBy) .none kV3 dc3 pm3 an3 cd3 ct3), sl3⟩)
    (c3 : PySem.W.codeIn K cd3 "pop_by" = true)
    (k3 : PySem.W.keepIn K (.ref f3) = true)
    (a4 : PySem.W.nsIn K mainGlobals "heapify_by" = some (some (.ref f4)))
    (l4 : K.lookup f4 = some ⟨oc4, od4, .func (PySem.W.fnOf "heapify_by" "heapify_by" (defArgs sHeapifyBy) (defBody sHeapifyBy) (defScope sHeapifyBy) .none kV4 dc4 pm4 an4 cd4 ct4), sl4⟩)
    (c4 : PySem.W.codeIn K cd4 "heapify_by" = true)
    (k4 : PySem.W.keepIn K (.ref f4) = true)
    (a5 : PySem.W.nsIn K mainGlobals "is_whole" = some (some (.ref f5)))
    (l5 : K.lookup f5 = some ⟨oc5, od5, .func (PySem.W.fnOf "is_whole" "is_whole" (defArgs sIsWhole) (defBody sIsWhole) (defScope sIsWhole) .none kV5 dc5 pm5 an5 cd5 ct5), sl5⟩)
    (c5 : PySem.W.codeIn K cd5 "is_whole" = true)
    (k5 : PySem.W.keepIn K (.ref f5) = true)
    (a6 : PySem.W.nsIn K mainGlobals "is_entry" = some (some (.ref f6)))
    (l6 : K.lookup f6 = some ⟨oc6, od6, .func (PySem.W.fnOf "is_entry" "is_entry" (defArgs sIsEntry) (defBody sIsEntry) (defScope sIsEntry) .none kV6 dc6 pm6 an6 cd6 ct6), sl6⟩)
    (c6 : PySem.W.codeIn K cd6 "is_entry" = true)
    (k6 : PySem.W.keepIn K (.ref f6) = true)
    (a7 : PySem.W.nsIn K mainGlobals "check_rows" = some (some (.ref f7)))
    (l7 : K.lookup f7 = some ⟨oc7, od7, .func (PySem.W.fnOf "check_rows" "check_rows" (defArgs sCheckRows) (defBody sCheckRows) (defScope sCheckRows) .none kV7 dc7 pm7 an7 cd7 ct7), sl7⟩)
    (c7 : PySem.W.codeIn K cd7 "check_rows" = true)
    (k7 : PySem.W.keepIn K (.ref f7) = true)
    (a8 : PySem.W.nsIn K mainGlobals "is_sooner" = some (some (.ref f8)))
    (l8 : K.lookup f8 = some ⟨oc8, od8, .func (PySem.W.fnOf "is_sooner" "is_sooner" (defArgs sIsSooner) (defBody sIsSooner) (defScope sIsSooner) .none kV8 dc8 pm8 an8 cd8 ct8), sl8⟩)
    (c8 : PySem.W.codeIn K cd8 "is_sooner" = true)
    (k8 : PySem.W.keepIn K (.ref f8) = true)
    (a9 : PySem.W.nsIn K mainGlobals "ripe" = some (some (.ref f9)))
    (l9 : K.lookup f9 = some ⟨oc9, od9, .func (PySem.W.fnOf "ripe" "ripe" (defArgs sRipe) (defBody sRipe) (defScope sRipe) .none kV9 dc9 pm9 an9 cd9 ct9), sl9⟩)
    (c9 : PySem.W.codeIn K cd9 "ripe" = true)
    (k9 : PySem.W.keepIn K (.ref f9) = true)
    (a10 : PySem.W.nsIn K mainGlobals "swept" = some (some (.ref f10)))
    (l10 : K.lookup f10 = some ⟨oc10, od10, .func (PySem.W.fnOf "swept" "swept" (defArgs sSwept) (defBody sSwept) (defScope sSwept) .none kV10 dc10 pm10 an10 cd10 ct10), sl10⟩)
    (c10 : PySem.W.codeIn K cd10 "swept" = true)
    (k10 : PySem.W.keepIn K (.ref f10) = true)
    (a11 : PySem.W.nsIn K mainGlobals "_law_well" = some (some (.ref f11)))
    (l11 : K.lookup f11 = some ⟨oc11, od11, .func (PySem.W.fnOf "_law_well" "_law_well" (defArgs sLwWell) (defBody sLwWell) (defScope sLwWell) .none kV11 dc11 pm11 an11 cd11 ct11), sl11⟩)
    (c11 : PySem.W.codeIn K cd11 "_law_well" = true)
    (k11 : PySem.W.keepIn K (.ref f11) = true)
    (a12 : PySem.W.nsIn K mainGlobals "_law_draw" = some (some (.ref f12)))
    (l12 : K.lookup f12 = some ⟨oc12, od12, .func (PySem.W.fnOf "_law_draw" "_law_draw" (defArgs sLwDraw) (defBody sLwDraw) (defScope sLwDraw) .none kV12 dc12 pm12 an12 cd12 ct12), sl12⟩)
    (c12 : PySem.W.codeIn K cd12 "_law_draw" = true)
    (k12 : PySem.W.keepIn K (.ref f12) = true)
    (a13 : PySem.W.nsIn K mainGlobals "_law_pick" = some (some (.ref f13)))
    (l13 : K.lookup f13 = some ⟨oc13, od13, .func (PySem.W.fnOf "_law_pick" "_law_pick" (defArgs sLwPick) (defBody sLwPick) (defScope sLwPick) .none kV13 dc13 pm13 an13 cd13 ct13), sl13⟩)
    (c13 : PySem.W.codeIn K cd13 "_law_pick" = true)
    (k13 : PySem.W.keepIn K (.ref f13) = true)
    (a14 : PySem.W.nsIn K mainGlobals "_law_up" = some (some (.ref f14)))
    (l14 : K.lookup f14 = some ⟨oc14, od14, .func (PySem.W.fnOf "_law_up" "_law_up" (defArgs sLwUp) (defBody sLwUp) (defScope sLwUp) .none kV14 dc14 pm14 an14 cd14 ct14), sl14⟩)
    (c14 : PySem.W.codeIn K cd14 "_law_up" = true)
    (k14 : PySem.W.keepIn K (.ref f14) = true)
    (a15 : PySem.W.nsIn K mainGlobals "_law_down" = some (some (.ref f15)))
    (l15 : K.lookup f15 = some ⟨oc15, od15, .func (PySem.W.fnOf "_law_down" "_law_down" (defArgs sLwDown) (defBody sLwDown) (defScope sLwDown) .none kV15 dc15 pm15 an15 cd15 ct15), sl15⟩)
    (c15 : PySem.W.codeIn K cd15 "_law_down" = true)
    (k15 : PySem.W.keepIn K (.ref f15) = true)
    (a16 : PySem.W.nsIn K mainGlobals "_law_push" = some (some (.ref f16)))
    (l16 : K.lookup f16 = some ⟨oc16, od16, .func (PySem.W.fnOf "_law_push" "_law_push" (defArgs sLwPush) (defBody sLwPush) (defScope sLwPush) .none kV16 dc16 pm16 an16 cd16 ct16), sl16⟩)
    (c16 : PySem.W.codeIn K cd16 "_law_push" = true)
    (k16 : PySem.W.keepIn K (.ref f16) = true)
    (a17 : PySem.W.nsIn K mainGlobals "_law_pop" = some (some (.ref f17)))
    (l17 : K.lookup f17 = some ⟨oc17, od17, .func (PySem.W.fnOf "_law_pop" "_law_pop" (defArgs sLwPop) (defBody sLwPop) (defScope sLwPop) .none kV17 dc17 pm17 an17 cd17 ct17), sl17⟩)
    (c17 : PySem.W.codeIn K cd17 "_law_pop" = true)
    (k17 : PySem.W.keepIn K (.ref f17) = true)
    (a18 : PySem.W.nsIn K mainGlobals "_law_made" = some (some (.ref f18)))
    (l18 : K.lookup f18 = some ⟨oc18, od18, .func (PySem.W.fnOf "_law_made" "_law_made" (defArgs sLwMade) (defBody sLwMade) (defScope sLwMade) .none kV18 dc18 pm18 an18 cd18 ct18), sl18⟩)
    (c18 : PySem.W.codeIn K cd18 "_law_made" = true)
    (k18 : PySem.W.keepIn K (.ref f18) = true)
    (a19 : PySem.W.nsIn K mainGlobals "_law_scene" = some (some (.ref f19)))
    (l19 : K.lookup f19 = some ⟨oc19, od19, .func (PySem.W.fnOf "_law_scene" "_law_scene" (defArgs sLwScene) (defBody sLwScene) (defScope sLwScene) .none kV19 dc19 pm19 an19 cd19 ct19), sl19⟩)
    (c19 : PySem.W.codeIn K cd19 "_law_scene" = true)
    (k19 : PySem.W.keepIn K (.ref f19) = true)
    (a20 : PySem.W.nsIn K mainGlobals "_law_swept" = some (some (.ref f20)))
    (l20 : K.lookup f20 = some ⟨oc20, od20, .func (PySem.W.fnOf "_law_swept" "_law_swept" (defArgs sLwSwept) (defBody sLwSwept) (defScope sLwSwept) .none kV20 dc20 pm20 an20 cd20 ct20), sl20⟩)
    (c20 : PySem.W.codeIn K cd20 "_law_swept" = true)
    (k20 : PySem.W.keepIn K (.ref f20) = true)
    (a21 : PySem.W.nsIn K mainGlobals "_law_due" = some (some (.ref f21)))
    (l21 : K.lookup f21 = some ⟨oc21, od21, .func (PySem.W.fnOf "_law_due" "_law_due" (defArgs sLwDue) (defBody sLwDue) (defScope sLwDue) .none kV21 dc21 pm21 an21 cd21 ct21), sl21⟩)
    (c21 : PySem.W.codeIn K cd21 "_law_due" = true)
    (k21 : PySem.W.keepIn K (.ref f21) = true)
    (a22 : PySem.W.nsIn K mainGlobals "_law_is_refused" = some (some (.ref f22)))
    (l22 : K.lookup f22 = some ⟨oc22, od22, .func (PySem.W.fnOf "_law_is_refused" "_law_is_refused" (defArgs sLwIsRefused) (defBody sLwIsRefused) (defScope sLwIsRefused) .none kV22 dc22 pm22 an22 cd22 ct22), sl22⟩)
    (c22 : PySem.W.codeIn K cd22 "_law_is_refused" = true)
    (k22 : PySem.W.keepIn K (.ref f22) = true)
    (a23 : PySem.W.nsIn K mainGlobals "law" = some (some (.ref f23)))
    (l23 : K.lookup f23 = some ⟨oc23, od23, .func (PySem.W.fnOf "law" "law" (defArgs sLaw) (defBody sLaw) (defScope sLaw) .none kV23 dc23 pm23 an23 (.ref cR) ct23), sl23⟩)
    (c23 : PySem.W.codeIn K (.ref cR) "law" = true)
    (k23 : PySem.W.keepIn K (.ref f23) = true)
    (mMOST : PySem.W.nsIn K mainGlobals "MOST" = some (some (.int 5000 tkMOST)))
    (mTIM : PySem.W.nsIn K mainGlobals "MOST_TIMERS" = some (some (.int 100 tkTIM)))
    (z_len : PySem.W.nsIn K mainGlobals "len" = some none)
    (z_range : PySem.W.nsIn K mainGlobals "range" = some none)
    (z_isinstance : PySem.W.nsIn K mainGlobals "isinstance" = some none)
    (z_int : PySem.W.nsIn K mainGlobals "int" = some none)
    (z_bool : PySem.W.nsIn K mainGlobals "bool" = some none)
    (z_tuple : PySem.W.nsIn K mainGlobals "tuple" = some none)
    (z_list : PySem.W.nsIn K mainGlobals "list" = some none)
    (z_all : PySem.W.nsIn K mainGlobals "all" = some none)
    (z_any : PySem.W.nsIn K mainGlobals "any" = some none)
    (z_set : PySem.W.nsIn K mainGlobals "set" = some none)
    (z_max : PySem.W.nsIn K mainGlobals "max" = some none)
    (z_super : PySem.W.nsIn K mainGlobals "super" = some none)
    (xCB : PySem.W.nsIn K mainGlobals "BadValue" = some (some (.ref CB)))
    (xCL : PySem.W.nsIn K mainGlobals "LoopError" = some (some (.ref CL)))
    (lCB : K.lookup CB = some (excClassObj nm q CB N bs bm true sn sub ab col dd m0 m1 m2 m3 m5 "ValueError.__new__"))
    (rCB : PySem.HandSPX.refsVE bm = true)
    (e1 : PySem.W.findIn K (.ref CB) "__setattr__" = some (some (.builtin "object.__setattr__")))
    (e2 : PySem.W.subIn K (.ref CB) (.type "BaseException") = some true)
    (e3 : PySem.W.typeIn K (.ref CB) = some (.type "type"))
    (e4 : PySem.W.keepIn K (.ref CB) = true)
    (e5 : PySem.W.mroIn K CB (.ref CL) = some true)
    (e7 : PySem.W.subIn K (.ref CB) (.type "ValueError") = some true)
    (e6 : PySem.W.ks_superIn K CB CL "__init__" = some (some (.builtin "ValueError.__init__")))
    (e8 : PySem.W.findIn K (.ref CB) "why" = some none)
    (e9 : PySem.W.findIn K (.ref CB) "__init__" = some (some (.ref fI)))
    (e10 : PySem.W.typeIn K (.ref fI) = some (.type "function"))
    (lI : K.lookup fI = some ⟨ocI, odI, .func (PySem.W.fnX "__init__" "LoopError.__init__" (defArgs sInit) (defBody sInit) (defScope sInit) [("__class__", ccI)] (.ref TI) kVI dcI pmI anI (.ref cI) ctI), slI⟩)
    (lT : K.lookup TI = some ⟨ocT, odT, .seq #[.str "" tkT] nT, slT⟩)
    (cIn : PySem.W.codeIn K (.ref cI) "LoopError.__init__" = true)
    (lcI : K.lookup cI = some ⟨cclI, cddI, .fields vsI, ccsI⟩)
    (v2I : vsI[2]? = some (.str fileI tfI))
    (flI : ((l.prog.main.file : Str) == fileI) = true)
    (lccI : K.lookup ccI = some ⟨clI, cldI, .cell (some (.ref CL)), cslI⟩)
    (clL : PySem.W.clsIn K CL = some cdL)
    (topS_ : (l.prog.main.scope.names.lookup ("super" : Str)).isSome = false)
    (any_ : PySem.W.nsIn K cStatics "thirdparty.any" = some none)
    (exm : PySem.W.exmOne K (.ref CB) (.ref CB) = some true)
    (lcR : K.lookup cR = some ⟨.type "code", ddR, .fields vsR, slR⟩)
    (hdR : ∃ file tf flags tg inF text tt, vsR[11]? = some (.ref BR) ∧ vsR.getD 11 .none = .ref BR ∧ vsR.getD 18 .none = .str file tf ∧ vsR.getD 7 .none = .int flags tg ∧ vsR.getD 9 .none = .bool inF ∧ vsR.getD 10 .none = .int text tt ∧ cR ≠ BR)
    (nR : K.lookup BR = none) :
    LamX.LawAtS l w K CX0 12 63 "_law_script" mg fa h := by
  have e := hfa.symm.trans (PySem.W.mg_of X G a23)
  cases e
  have F1 := fun_mk (st := sRise) l1 c1 k1
  have F2 := fun_mk (st := sSink) l2 c2 k2
  have F3 := fun_mk (st := sPopBy) l3 c3 k3
  have F4 := fun_mk (st := sHeapifyBy) l4 c4 k4
  have F5 := fun_mk (st := sIsWhole) l5 c5 k5
  have F6 := fun_mk (st := sIsEntry) l6 c6 k6
  have F7 := fun_mk (st := sCheckRows) l7 c7 k7
  have F8 := fun_mk (st := sIsSooner) l8 c8 k8
  have F9 := fun_mk (st := sRipe) l9 c9 k9
  have F10 := fun_mk (st := sSwept) l10 c10 k10
  have F11 := fun_mk (st := sLwWell) l11 c11 k11
  have F12 := fun_mk (st := sLwDraw) l12 c12 k12
  have F13 := fun_mk (st := sLwPick) l13 c13 k13
  have F14 := fun_mk (st := sLwUp) l14 c14 k14
  have F15 := fun_mk (st := sLwDown) l15 c15 k15
  have F16 := fun_mk (st := sLwPush) l16 c16 k16
  have F17 := fun_mk (st := sLwPop) l17 c17 k17
  have F18 := fun_mk (st := sLwMade) l18 c18 k18
  have F19 := fun_mk (st := sLwScene) l19 c19 k19
  have F20 := fun_mk (st := sLwSwept) l20 c20 k20
  have F21 := fun_mk (st := sLwDue) l21 c21 k21
  have F22 := fun_mk (st := sLwIsRefused) l22 c22 k22
  have F23 := fun_mk (st := sLaw) l23 c23 k23
  have B1 := F1.binds (ps := ["heap", "top", "place", "less"]) fun _ _ _ _ _ _ us hl => match us, hl with | [_, _, _, _], _ => rfl
  have B2 := F2.binds (ps := ["heap", "top", "less"]) fun _ _ _ _ _ _ us hl => match us, hl with | [_, _, _], _ => rfl
  have B3 := F3.binds (ps := ["heap", "less"]) fun _ _ _ _ _ _ us hl => match us, hl with | [_, _], _ => rfl
  have B4 := F4.binds (ps := ["heap", "less"]) fun _ _ _ _ _ _ us hl => match us, hl with | [_, _], _ => rfl
  have B5 := F5.binds (ps := ["thing"]) fun _ _ _ _ _ _ us hl => match us, hl with | [_], _ => rfl
  have B6 := F6.binds (ps := ["thing"]) fun _ _ _ _ _ _ us hl => match us, hl with | [_], _ => rfl
  have B7 := F7.binds (ps := ["rows"]) fun _ _ _ _ _ _ us hl => match us, hl with | [_], _ => rfl
  have B8 := F8.binds (ps := ["one", "other"]) fun _ _ _ _ _ _ us hl => match us, hl with | [_, _], _ => rfl
  have B9 := F9.binds (ps := ["rows", "now"]) fun _ _ _ _ _ _ us hl => match us, hl with | [_, _], _ => rfl
  have B10 := F10.binds (ps := ["rows", "gone", "count"]) fun _ _ _ _ _ _ us hl => match us, hl with | [_, _, _], _ => rfl
  have B11 := F11.binds (ps := ["_law_cell"]) fun _ _ _ _ _ _ us hl => match us, hl with | [_], _ => rfl
  have B12 := F12.binds (ps := ["_law_well_here", "_law_many"]) fun _ _ _ _ _ _ us hl => match us, hl with | [_, _], _ => rfl
  have B13 := F13.binds (ps := ["_law_well_here", "_law_some"]) fun _ _ _ _ _ _ us hl => match us, hl with | [_, _], _ => rfl
  have B14 := F14.binds (ps := ["_law_lot", "_law_top", "_law_place"]) fun _ _ _ _ _ _ us hl => match us, hl with | [_, _, _], _ => rfl
  have B15 := F15.binds (ps := ["_law_lot", "_law_top"]) fun _ _ _ _ _ _ us hl => match us, hl with | [_, _], _ => rfl
  have B16 := F16.binds (ps := ["_law_lot", "_law_pair"]) fun _ _ _ _ _ _ us hl => match us, hl with | [_, _], _ => rfl
  have B17 := F17.binds (ps := ["_law_lot"]) fun _ _ _ _ _ _ us hl => match us, hl with | [_], _ => rfl
  have B18 := F18.binds (ps := ["_law_lot"]) fun _ _ _ _ _ _ us hl => match us, hl with | [_], _ => rfl
  have B19 := F19.binds (ps := ["_law_well_here"]) fun _ _ _ _ _ _ us hl => match us, hl with | [_], _ => rfl
  have B20 := F20.binds (ps := ["_law_lot", "_law_lost", "_law_tally"]) fun _ _ _ _ _ _ us hl => match us, hl with | [_, _, _], _ => rfl
  have B21 := F21.binds (ps := ["_law_lot", "_law_moment"]) fun _ _ _ _ _ _ us hl => match us, hl with | [_, _], _ => rfl
  have B22 := F22.binds (ps := ["_law_ask"]) fun _ _ _ _ _ _ us hl => match us, hl with | [_], _ => rfl
  have B23 := F23.binds (ps := ["_law_script"]) fun _ _ _ _ _ _ us hl => match us, hl with | [_], _ => rfl
  let T : Txt K mg := { aRise := f1, dRise := _, fRise := F1, gRise := PySem.W.mg_of X G a1, bRise := B1, aSink := f2, dSink := _, fSink := F2, gSink := PySem.W.mg_of X G a2, bSink := B2, aPopBy := f3, dPopBy := _, fPopBy := F3, gPopBy := PySem.W.mg_of X G a3, bPopBy := B3, aHeapifyBy := f4, dHeapifyBy := _, fHeapifyBy := F4, gHeapifyBy := PySem.W.mg_of X G a4, bHeapifyBy := B4, aIsWhole := f5, dIsWhole := _, fIsWhole := F5, gIsWhole := PySem.W.mg_of X G a5, bIsWhole := B5, aIsEntry := f6, dIsEntry := _, fIsEntry := F6, gIsEntry := PySem.W.mg_of X G a6, bIsEntry := B6, aCheckRows := f7, dCheckRows := _, fCheckRows := F7, gCheckRows := PySem.W.mg_of X G a7, bCheckRows := B7, aIsSooner := f8, dIsSooner := _, fIsSooner := F8, gIsSooner := PySem.W.mg_of X G a8, bIsSooner := B8, aRipe := f9, dRipe := _, fRipe := F9, gRipe := PySem.W.mg_of X G a9, bRipe := B9, aSwept := f10, dSwept := _, fSwept := F10, gSwept := PySem.W.mg_of X G a10, bSwept := B10, aLwWell := f11, dLwWell := _, fLwWell := F11, gLwWell := PySem.W.mg_of X G a11, bLwWell := B11, aLwDraw := f12, dLwDraw := _, fLwDraw := F12, gLwDraw := PySem.W.mg_of X G a12, bLwDraw := B12, aLwPick := f13, dLwPick := _, fLwPick := F13, gLwPick := PySem.W.mg_of X G a13, bLwPick := B13, aLwUp := f14, dLwUp := _, fLwUp := F14, gLwUp := PySem.W.mg_of X G a14, bLwUp := B14, aLwDown := f15, dLwDown := _, fLwDown := F15, gLwDown := PySem.W.mg_of X G a15, bLwDown := B15, aLwPush := f16, dLwPush := _, fLwPush := F16, gLwPush := PySem.W.mg_of X G a16, bLwPush := B16, aLwPop := f17, dLwPop := _, fLwPop := F17, gLwPop := PySem.W.mg_of X G a17, bLwPop := B17, aLwMade := f18, dLwMade := _, fLwMade := F18, gLwMade := PySem.W.mg_of X G a18, bLwMade := B18, aLwScene := f19, dLwScene := _, fLwScene := F19, gLwScene := PySem.W.mg_of X G a19, bLwScene := B19, aLwSwept := f20, dLwSwept := _, fLwSwept := F20, gLwSwept := PySem.W.mg_of X G a20, bLwSwept := B20, aLwDue := f21, dLwDue := _, fLwDue := F21, gLwDue := PySem.W.mg_of X G a21, bLwDue := B21, aLwIsRefused := f22, dLwIsRefused := _, fLwIsRefused := F22, gLwIsRefused := PySem.W.mg_of X G a22, bLwIsRefused := B22, aLaw := fa, dLaw := _, fLaw := F23, gLaw := PySem.W.mg_of X G a23, bLaw := B23, n_len := PySem.W.mg_none_of X G z_len, n_range := PySem.W.mg_none_of X G z_range, n_isinstance := PySem.W.mg_none_of X G z_isinstance, n_int := PySem.W.mg_none_of X G z_int, n_bool := PySem.W.mg_none_of X G z_bool, n_tuple := PySem.W.mg_none_of X G z_tuple, n_list := PySem.W.mg_none_of X G z_list, n_all := PySem.W.mg_none_of X G z_all, n_any := PySem.W.mg_none_of X G z_any, n_set := PySem.W.mg_none_of X G z_set, n_max := PySem.W.mg_none_of X G z_max, gMOST := ⟨_, PySem.W.mg_of X G mMOST⟩, gTIM := ⟨_, PySem.W.mg_of X G mTIM⟩ }
  have oex : OexC K CB := ⟨⟨_, _, _, _, _, _, _, _, _, _, _, _, _, _, _, lCB, rCB⟩, e1, e2, e3, e4⟩
  have sup : SupI.SupTxt l.prog K fI cI ccI CL := ⟨⟨_, _, _, _, _, lI, rfl, rfl⟩, ⟨_, _, _, _, _, _, lcI, v2I, flI⟩, ⟨_, _, _, lccI⟩, ⟨_, clL⟩, topS_, any_⟩
  let Y : ETxt l.prog K mg := { CB := CB, CL := CL, fI := fI, fdI := _, gCB := PySem.W.mg_of X G xCB, gCL := PySem.W.mg_of X G xCL, sub := ⟨oex, e5, e6, e7⟩, why := e8, iC := e9, tI := e10, ini := fun w base => init_ok lI cIn sup (PySem.W.mg_none_of X G z_super), bI := init_binds lT }
  obtain ⟨file1, tf1, flags1, tg1, inF1, text1, tt1, r1, r2, r3, r4, r5, r6, r7⟩ := hdR
  have tabR : h.get? BR = some { cls := .none, data := .fields #[] } := own "law" List.mem_cons_self _ (PySem.W.mg_of X G a23) cR BR _ _ _ _ _ _ l23 rfl rfl lcR r1
  have one : ∀ {Pp : Addr × Addr → Prop}, Pp (cR, BR) → ∀ p ∈ [(cR, BR)], Pp p := fun {Pp} x p hp => by
    rw [List.mem_singleton.mp hp]
    exact x
  refine ⟨T.dLaw, [(cR, BR)], spLaw [(BR, "law.<locals>." ++ "<lambda>")] K, one tabR, one nR,
    one ⟨_, vsR, file1, tf1, flags1, tg1, inF1, text1, tt1, X _ _ lcR, rfl, rfl, r1, r2, r3, r4, r5, r6, r7⟩,
    fun s v => .of_eq rfl, fun H a ns hl _ hH hS => ⟨a, ns, rfl, hS, hl, tabs0 (hH (cR, BR) List.mem_cons_self), fun _ => rfl⟩, fun base _ _ hTab => ?_⟩
  let Z : LTxt K mg base T := { c := cR, B := BR, hc := rfl, tb := hTab (cR, BR) List.mem_cons_self }
  exact ok_law T Y exm Z
end K15
open PySem PySem.W PyProof.Rows
set_option maxHeartbeats 0 in
theorem PySem.Challenge.cw_loopyard_k15_heaps_swept_holds : PySem.Challenge.rw_loopyard_k15_heaps_swept.Holds := by
  w_on; o_law; k_head; (case hw => w_witness2)
  k_fill
  refine LamT.walk_ofTabs (l := PySem.Challenge.rw_loopyard_k15_heaps_swept) (n := 63) (k := 12) (x := "_law_script") (CX := fun _ => L2.CX0) (names := ["law"]) rfl (by decide) rfl ⟨rfl, by decide, by decide⟩ (by decide +kernel) (fun w h Y => PySem.W.km_in_of Y) ?F (fun _ _ _ _ _ h => h)
  case F =>
    intro w mg fa h _ KX G hmg own
    refine' K15.all_mk KX G hmg own ?a1 ?l1 ?c1 ?k1 ?a2 ?l2 ?c2 ?k2 ?a3 ?l3 ?c3 ?k3 ?a4 ?l4 ?c4 ?k4 ?a5 ?l5 ?c5 ?k5 ?a6 ?l6 ?c6 ?k6 ?a7 ?l7 ?c7 ?k7 ?a8 ?l8 ?c8 ?k8 ?a9 ?l9 ?c9 ?k9 ?a10 ?l10 ?c10 ?k10 ?a11 ?l11 ?c11 ?k11 ?a12 ?l12 ?c12 ?k12 ?a13 ?l13 ?c13 ?k13 ?a14 ?l14 ?c14 ?k14 ?a15 ?l15 ?c15 ?k15 ?a16 ?l16 ?c16 ?k16 ?a17 ?l17 ?c17 ?k17 ?a18 ?l18 ?c18 ?k18 ?a19 ?l19 ?c19 ?k19 ?a20 ?l20 ?c20 ?k20 ?a21 ?l21 ?c21 ?k21 ?a22 ?l22 ?c22 ?k22 ?a23 ?l23 ?c23 ?k23 ?mMOST ?mTIM ?z_len ?z_range ?z_isinstance ?z_int ?z_bool ?z_tuple ?z_list ?z_all ?z_any ?z_set ?z_max ?z_super ?xCB ?xCL ?lCB ?rCB ?e1 ?e2 ?e3 ?e4 ?e5 ?e7 ?e6 ?e8 ?e9 ?e10 ?lI ?lT ?cIn ?lcI ?v2I ?flI ?lccI ?clL ?topS_ ?any_ ?exm ?lcR ?hdR ?nR
    (case a1 => k_is)
    (case l1 => k_is)
    (case c1 => k_is)
    (case k1 => k_is)
    (case a2 => k_is)
    (case l2 => k_is)
    (case c2 => k_is)
    (case k2 => k_is)
    (case a3 => k_is)
    (case l3 => k_is)
    (case c3 => k_is)
    (case k3 => k_is)
    (case a4 => k_is)
    (case l4 => k_is)
    (case c4 => k_is)
    (case k4 => k_is)
    (case a5 => k_is)
    (case l5 => k_is)
    (case c5 => k_is)
    (case k5 => k_is)
    (case a6 => k_is)
    (case l6 => k_is)
    (case c6 => k_is)
    (case k6 => k_is)
    (case a7 => k_is)
    (case l7 => k_is)
    (case c7 => k_is)
    (case k7 => k_is)
    (case a8 => k_is)
    (case l8 => k_is)
    (case c8 => k_is)
    (case k8 => k_is)
    (case a9 => k_is)
    (case l9 => k_is)
    (case c9 => k_is)
    (case k9 => k_is)
    (case a10 => k_is)
    (case l10 => k_is)
    (case c10 => k_is)
    (case k10 => k_is)
    (case a11 => k_is)
    (case l11 => k_is)
    (case c11 => k_is)
    (case k11 => k_is)
    (case a12 => k_is)
    (case l12 => k_is)
    (case c12 => k_is)
    (case k12 => k_is)
    (case a13 => k_is)
    (case l13 => k_is)
    (case c13 => k_is)
    (case k13 => k_is)
    (case a14 => k_is)
    (case l14 => k_is)
    (case c14 => k_is)
    (case k14 => k_is)
    (case a15 => k_is)
    (case l15 => k_is)
    (case c15 => k_is)
    (case k15 => k_is)
    (case a16 => k_is)
    (case l16 => k_is)
    (case c16 => k_is)
    (case k16 => k_is)
    (case a17 => k_is)
    (case l17 => k_is)
    (case c17 => k_is)
    (case k17 => k_is)
    (case a18 => k_is)
    (case l18 => k_is)
    (case c18 => k_is)
    (case k18 => k_is)
    (case a19 => k_is)
    (case l19 => k_is)
    (case c19 => k_is)
    (case k19 => k_is)
    (case a20 => k_is)
    (case l20 => k_is)
    (case c20 => k_is)
    (case k20 => k_is)
    (case a21 => k_is)
    (case l21 => k_is)
    (case c21 => k_is)
    (case k21 => k_is)
    (case a22 => k_is)
    (case l22 => k_is)
    (case c22 => k_is)
    (case k22 => k_is)
    (case a23 => k_is)
    (case l23 => k_is)
    (case c23 => k_is)
    (case k23 => k_is)
    (case mMOST => k_is)
    (case mTIM => k_is)
    (case z_len => k_is)
    (case z_range => k_is)
    (case z_isinstance => k_is)
    (case z_int => k_is)
    (case z_bool => k_is)
    (case z_tuple => k_is)
    (case z_list => k_is)
    (case z_all => k_is)
    (case z_any => k_is)
    (case z_set => k_is)
    (case z_max => k_is)
    (case z_super => k_is)
    (case xCB => k_is)
    (case xCL => k_is)
    (case lCB => k_is)
    (case rCB => decide +kernel)
    (case e1 => k_is)
    (case e2 => k_is)
    (case e3 => k_is)
    (case e4 => k_is)
    (case e5 => k_is)
    (case e7 => k_is)
    (case e6 => kernel_rfl)
    (case e8 => k_is)
    (case e9 => k_is)
    (case e10 => k_is)
    (case lI => k_is)
    (case lT => k_is)
    (case cIn => k_is)
    (case lcI => k_is)
    (case v2I => exact rfl)
    (case flI => decide +kernel)
    (case lccI => k_is)
    (case clL => k_is)
    (case topS_ => decide +kernel)
    (case any_ => k_is)
    (case exm => kernel_rfl)
    (case lcR => k_is)
    (case hdR => exact ⟨_, _, _, _, _, _, _, rfl, rfl, rfl, rfl, rfl, rfl, by decide⟩)
    (case nR => kernel_rfl)
