import PyProof.Rows.All
import Wide.All
import OpenK.AllK
import Wide.FinOn
import KE.KExcSuper
import HandS.ForMost
import HandS.ForExc
import HandS.Nested
import HandS.ExcInit
import KE.KLam
import KE.KExcIs
import HandS.Lambda
import HandS.TryMany
import HandS.IsInst
import HandS.Words
import HandS.WordsExc
import HandS.ExcIs
import HandS.EndTab
import HandS.EndOwn
import HandS.NestedK
import HandS.Ends
import PyProof.Rows.SeqMore
import PySem.Challenge.RW_loopyard_k13_heaps_of_timers
import HandS.CallLocal
import HandS.Wide
import HandS.SortRule
import HandS.SortInts
import HandS.Deep
import HandS.Evl
import HandS.Style
import HandS.Dict
import HandS.TupLe
namespace Hm
variable {α : Type}

/-! ### places changed -/
def swp (l : List α) (i j : Nat) : List α := match l[i]?, l[j]? with
  | some a, some b => (l.set i b).set j a
  | _, _ => l

theorem swp_len (l : List α) (i j : Nat) : (swp l i j).length = l.length := by
  unfold swp
  split
  · rw [List.length_set, List.length_set]
  · rfl

theorem swp_eq {l : List α} {i j : Nat} {a b : α} (hi : l[i]? = some a) (hj : l[j]? = some b) : swp l i j = (l.set i b).set j a := by
  unfold swp
  rw [hi, hj]

theorem swp_get {l : List α} {i j : Nat} (hi : i < l.length) (hj : j < l.length) (k : Nat) :
    (swp l i j)[k]? = if k = j then l[i]? else if k = i then l[j]? else l[k]? := by
  have ei : l[i]? = some l[i] := List.getElem?_eq_getElem hi
  have ej : l[j]? = some l[j] := List.getElem?_eq_getElem hj
  rw [swp_eq ei ej]
  by_cases h1 : k = j
  · subst h1
    rw [if_pos rfl, List.getElem?_set_self (by rw [List.length_set]; exact hj), ei]
  · rw [if_neg h1, List.getElem?_set_ne (fun h => h1 h.symm)]
    by_cases h2 : k = i
    · subst h2
      rw [if_pos rfl, List.getElem?_set_self hi, ej]
    · rw [if_neg h2, List.getElem?_set_ne (fun h => h2 h.symm)]

theorem set_perm : ∀ {l : List α} {i : Nat} {a : α} (b : α), l[i]? = some a → List.Perm (a :: l.set i b) (b :: l)
  | [], i, a, b, h => by simp at h
  | x :: r, 0, a, b, h => by
    have e : x = a := Option.some.inj h
    subst e
    exact List.Perm.swap _ _ _
  | x :: r, i + 1, a, b, h => by
    have ih := set_perm (l := r) (i := i) b h
    show List.Perm (a :: x :: r.set i b) (b :: x :: r)
    exact (List.Perm.swap x a _).trans ((List.Perm.cons x ih).trans (List.Perm.swap b x _))

theorem swp_perm (l : List α) (i j : Nat) : List.Perm (swp l i j) l := by
  unfold swp
  split
  · rename_i a b hi hj
    by_cases e : i = j
    · subst e
      have e2 : a = b := Option.some.inj (hi.symm.trans hj)
      subst e2
      have l1 : i < l.length := (List.getElem?_eq_some_iff.mp hi).1
      have : (l.set i a).set i a = l := by
        rw [List.set_set]
        apply List.ext_getElem?
        intro k
        by_cases h : k = i
        · subst h
          rw [List.getElem?_set_self l1, hi]
        · rw [List.getElem?_set_ne (fun z => h z.symm)]
      rw [this]
    · have h1 := set_perm (l := l) (i := i) b hi
      have hj2 : (l.set i b)[j]? = some b := by
        rw [List.getElem?_set_ne e]
        exact hj
      have h2 := set_perm (l := l.set i b) (i := j) a hj2
      exact (h2.trans h1).cons_inv
  · exact List.Perm.refl _

theorem swp_map {β : Type} (g : α → β) (l : List α) (i j : Nat) : swp (l.map g) i j = (swp l i j).map g := by
  unfold swp
  rw [List.getElem?_map, List.getElem?_map]
  cases hi : l[i]? with
  | none => rfl
  | some a =>
    cases hj : l[j]? with
    | none => rfl
    | some b =>
      show ((l.map g).set i (g b)).set j (g a) = ((l.set i b).set j a).map g
      rw [List.map_set, List.map_set]

/-! ### the moves -/
/-- whether the item at i has a lesser key than the one at j -/
def lss (f : α → Int) (l : List α) (i j : Nat) : Bool := match l[i]?, l[j]? with
  | some a, some b => decide (f a < f b)
  | _, _ => false

def rise (f : α → Int) (l : List α) (top place : Nat) : List α :=
  if h : top < place then
    if lss f l place ((place - 1) / 2) then rise f (swp l place ((place - 1) / 2)) top ((place - 1) / 2) else l
  else l
termination_by place
decreasing_by omega

/-- the lesser child of a place that has one -/
def child (f : α → Int) (l : List α) (place : Nat) : Nat :=
  if 2 * place + 1 + 1 < l.length ∧ lss f l (2 * place + 1) (2 * place + 1 + 1) = false then 2 * place + 1 + 1 else 2 * place + 1

theorem child_lo (f : α → Int) (l : List α) (p : Nat) : 2 * p + 1 ≤ child f l p := by
  unfold child
  split <;> omega
theorem child_hi (f : α → Int) (l : List α) (p : Nat) : child f l p ≤ 2 * p + 2 := by
  unfold child
  split <;> omega
theorem child_lt (f : α → Int) (l : List α) (p : Nat) (h : 2 * p + 1 < l.length) : child f l p < l.length := by
  unfold child
  split <;> omega

def down (f : α → Int) (l : List α) (place : Nat) : List α × Nat :=
  if h : 2 * place + 1 < l.length then down f (swp l place (child f l place)) (child f l place) else (l, place)
termination_by l.length - place
decreasing_by
  rw [swp_len]
  have := child_lo f l place
  have := child_lt f l place h
  omega

def sink (f : α → Int) (l : List α) (top : Nat) : List α := rise f (down f l top).1 top (down f l top).2
def push (f : α → Int) (l : List α) (x : α) : List α := rise f (l ++ [x]) 0 l.length
/-- what is left behind the first one is taken out -/
def popL (f : α → Int) (l : List α) : List α := match l.getLast? with
  | none => []
  | some z => if l.dropLast.isEmpty then [] else sink f (l.dropLast.set 0 z) 0
def heapTo (f : α → Int) : Nat → List α → List α
  | 0, l => l
  | k + 1, l => heapTo f k (sink f l k)
def heapify (f : α → Int) (l : List α) : List α := heapTo f (l.length / 2) l

/-! ### all that was there is there -/
theorem rise_perm (f : α → Int) (l : List α) (top place : Nat) : List.Perm (rise f l top place) l := by
  induction place using Nat.strongRecOn generalizing l with
  | _ place ih =>
    unfold rise
    split
    · split
      · exact (ih _ (by omega) _).trans (swp_perm _ _ _)
      · exact List.Perm.refl _
    · exact List.Perm.refl _
theorem rise_len (f : α → Int) (l : List α) (top place : Nat) : (rise f l top place).length = l.length := (rise_perm f l top place).length_eq
theorem down_perm (f : α → Int) (n : Nat) : ∀ (l : List α) (place : Nat), l.length - place = n → List.Perm (down f l place).1 l := by
  induction n using Nat.strongRecOn with
  | _ n ih =>
    intro l place e
    unfold down
    split
    · rename_i h
      have h1 := child_lo f l place
      have h2 := child_lt f l place h
      refine (ih _ ?_ _ _ rfl).trans (swp_perm _ _ _)
      rw [swp_len]
      omega
    · exact List.Perm.refl _
theorem down_len (f : α → Int) (l : List α) (place : Nat) : (down f l place).1.length = l.length := (down_perm f _ l place rfl).length_eq
theorem sink_perm (f : α → Int) (l : List α) (top : Nat) : List.Perm (sink f l top) l := (rise_perm f _ _ _).trans (down_perm f _ l top rfl)
theorem sink_len (f : α → Int) (l : List α) (top : Nat) : (sink f l top).length = l.length := (sink_perm f l top).length_eq
theorem push_perm (f : α → Int) (l : List α) (x : α) : List.Perm (push f l x) (x :: l) := (rise_perm f _ _ _).trans List.perm_append_comm
theorem push_len (f : α → Int) (l : List α) (x : α) : (push f l x).length = l.length + 1 := by
  unfold push
  rw [rise_len, List.length_append]
  rfl
theorem heapTo_perm (f : α → Int) : ∀ (k : Nat) (l : List α), List.Perm (heapTo f k l) l
  | 0, l => List.Perm.refl _
  | k + 1, l => (heapTo_perm f k _).trans (sink_perm f l k)
theorem heapify_perm (f : α → Int) (l : List α) : List.Perm (heapify f l) l := heapTo_perm f _ l

theorem last_perm {l : List α} {z x : α} (hz : l.getLast? = some z) (hx : l.dropLast[0]? = some x) : List.Perm (x :: l.dropLast.set 0 z) l := by
  have e : l = l.dropLast ++ [z] := by
    have hne : l ≠ [] := by
      intro h
      subst h
      simp at hz
    have := List.dropLast_concat_getLast hne
    rw [List.getLast?_eq_some_getLast hne] at hz
    rw [Option.some.inj hz] at this
    exact this.symm
  have h1 := set_perm (l := l.dropLast) (i := 0) z hx
  refine h1.trans ?_
  conv => rhs; rw [e]
  exact (List.perm_append_comm (l₁ := l.dropLast) (l₂ := [z])).symm
theorem pop_perm (f : α → Int) {l : List α} {x : α} (h : l[0]? = some x) : List.Perm (x :: popL f l) l := by
  have hne : l ≠ [] := by
    intro z
    subst z
    simp at h
  have hz : l.getLast? = some (l.getLast hne) := List.getLast?_eq_some_getLast hne
  unfold popL
  rw [hz]
  show List.Perm (x :: if l.dropLast.isEmpty then [] else sink f (l.dropLast.set 0 (l.getLast hne)) 0) l
  by_cases e : l.dropLast.isEmpty = true
  · rw [if_pos e]
    cases l with
    | nil => exact absurd rfl hne
    | cons y r =>
      have ey : y = x := Option.some.inj h
      subst ey
      cases r with
      | nil => exact List.Perm.refl _
      | cons z s => simp at e
  · rw [if_neg e]
    have hx : l.dropLast[0]? = some x := by
      cases l with
      | nil => exact absurd rfl hne
      | cons y r =>
        cases r with
        | nil => exact absurd rfl e
        | cons z s => exact h
    exact ((List.Perm.cons x (sink_perm f _ 0))).trans (last_perm hz hx)

/-! ### heaps -/
def ky (f : α → Int) (l : List α) (i : Nat) : Int := match l[i]? with
  | some a => f a
  | none => 0
theorem ky_of {f : α → Int} {l : List α} {i : Nat} {a : α} (h : l[i]? = some a) : ky f l i = f a := by
  unfold ky
  rw [h]
theorem ky_swp {f : α → Int} {l : List α} {i j : Nat} (hi : i < l.length) (hj : j < l.length) (k : Nat) :
    ky f (swp l i j) k = if k = j then ky f l i else if k = i then ky f l j else ky f l k := by
  unfold ky
  rw [swp_get hi hj k]
  by_cases h1 : k = j
  · rw [if_pos h1, if_pos h1]
  · rw [if_neg h1, if_neg h1]
    by_cases h2 : k = i
    · rw [if_pos h2, if_pos h2]
    · rw [if_neg h2, if_neg h2]
theorem lss_ky {f : α → Int} {l : List α} {i j : Nat} (hi : i < l.length) (hj : j < l.length) : lss f l i j = decide (ky f l i < ky f l j) := by
  have ei : l[i]? = some l[i] := List.getElem?_eq_getElem hi
  have ej : l[j]? = some l[j] := List.getElem?_eq_getElem hj
  unfold lss ky
  rw [ei, ej]

/-- no item from the children of top on is less than the one above it -/
def HeapFrom (f : α → Int) (l : List α) (top : Nat) : Prop := ∀ k, 1 ≤ k → k < l.length → top ≤ (k - 1) / 2 → ky f l ((k - 1) / 2) ≤ ky f l k
abbrev IsHeap (f : α → Int) (l : List α) : Prop := HeapFrom f l 0

inductive Desc (top : Nat) : Nat → Prop
  | refl : Desc top top
  | left {p : Nat} : Desc top p → Desc top (2 * p + 1)
  | right {p : Nat} : Desc top p → Desc top (2 * p + 2)
theorem Desc.le {top p : Nat} (h : Desc top p) : top ≤ p := by
  induction h with
  | refl => exact Nat.le_refl _
  | left _ ih => omega
  | right _ ih => omega
theorem Desc.up {top p : Nat} (h : Desc top p) (hp : top < p) : Desc top ((p - 1) / 2) := by
  cases h with
  | refl => omega
  | @left q h => rw [show (2 * q + 1 - 1) / 2 = q by omega]; exact h
  | @right q h => rw [show (2 * q + 2 - 1) / 2 = q by omega]; exact h
theorem Desc.zero : ∀ p : Nat, Desc 0 p := fun p => by
  induction p using Nat.strongRecOn with
  | _ p ih =>
    by_cases h : p = 0
    · subst h
      exact .refl
    · have i := ih ((p - 1) / 2) (by omega)
      by_cases e : p = 2 * ((p - 1) / 2) + 1
      · rw [e]
        exact .left i
      · rw [show p = 2 * ((p - 1) / 2) + 2 by omega]
        exact .right i
theorem Desc.child {f : α → Int} {l : List α} {top p : Nat} (h : Desc top p) : Desc top (child f l p) := by
  unfold Hm.child
  split
  · exact .right h
  · exact .left h

/-- the rows but for the way up from a place -/
structure Rising (f : α → Int) (l : List α) (top p : Nat) : Prop where
  ok : ∀ k, 1 ≤ k → k < l.length → top ≤ (k - 1) / 2 → k ≠ p → ky f l ((k - 1) / 2) ≤ ky f l k
  up : top < p → ∀ c, 1 ≤ c → c < l.length → (c - 1) / 2 = p → ky f l ((p - 1) / 2) ≤ ky f l c

theorem rise_heap (f : α → Int) (top : Nat) : ∀ (p : Nat) (l : List α), p < l.length → Desc top p → Rising f l top p → HeapFrom f (rise f l top p) top := by
  intro p
  induction p using Nat.strongRecOn with
  | _ p ih =>
    intro l hp hd R
    unfold rise
    by_cases h : top < p
    · rw [dif_pos h]
      have du := hd.up h
      have hq : (p - 1) / 2 < p := by omega
      have hql : (p - 1) / 2 < l.length := by omega
      have tq := du.le
      by_cases c : lss f l p ((p - 1) / 2) = true
      · rw [if_pos c]
        rw [lss_ky hp hql] at c
        have c' := of_decide_eq_true c
        refine ih _ hq _ (by rw [swp_len]; exact hql) du ⟨?_, ?_⟩
        · intro k k1 k2 k3 k4
          rw [swp_len] at k2
          rw [ky_swp hp hql, ky_swp hp hql]
          by_cases e1 : k = p
          · subst e1
            rw [if_pos rfl, if_neg (show k ≠ (k - 1) / 2 by omega), if_pos rfl]
            omega
          · rw [if_neg k4, if_neg e1]
            have o := R.ok k k1 k2 k3 e1
            by_cases e2 : (k - 1) / 2 = (p - 1) / 2
            · rw [if_pos e2]
              rw [e2] at o
              omega
            · rw [if_neg e2]
              by_cases e3 : (k - 1) / 2 = p
              · rw [if_pos e3]
                exact R.up h k k1 k2 e3
              · rw [if_neg e3]
                exact o
        · intro ht c1 h1 h2 h3
          rw [swp_len] at h2
          have tqq := (du.up ht).le
          have o := R.ok ((p - 1) / 2) (by omega) hql tqq (by omega)
          rw [ky_swp hp hql, ky_swp hp hql]
          rw [if_neg (show ((p - 1) / 2 - 1) / 2 ≠ (p - 1) / 2 by omega), if_neg (show ((p - 1) / 2 - 1) / 2 ≠ p by omega)]
          rw [if_neg (show c1 ≠ (p - 1) / 2 by omega)]
          by_cases e1 : c1 = p
          · rw [if_pos e1]
            exact o
          · rw [if_neg e1]
            have o2 := R.ok c1 h1 h2 (by omega) e1
            rw [h3] at o2
            omega
      · rw [if_neg c]
        rw [lss_ky hp hql] at c
        have c' : ¬ (ky f l p < ky f l ((p - 1) / 2)) := fun z => c (decide_eq_true z)
        intro k k1 k2 k3
        by_cases e : k = p
        · subst e
          omega
        · exact R.ok k k1 k2 k3 e
    · rw [dif_neg h]
      have e : p = top := by
        have := hd.le
        omega
      intro k k1 k2 k3
      exact R.ok k k1 k2 k3 (by omega)

/-- the rows but for the ways up from a place and down from it -/
structure Falling (f : α → Int) (l : List α) (top p : Nat) : Prop where
  ok : ∀ k, 1 ≤ k → k < l.length → top ≤ (k - 1) / 2 → k ≠ p → (k - 1) / 2 ≠ p → ky f l ((k - 1) / 2) ≤ ky f l k
  up : top < p → ∀ c, 1 ≤ c → c < l.length → (c - 1) / 2 = p → ky f l ((p - 1) / 2) ≤ ky f l c

theorem child_is (f : α → Int) (l : List α) (p : Nat) : child f l p = 2 * p + 1 ∨ child f l p = 2 * p + 2 := by
  unfold child
  split
  · exact .inr rfl
  · exact .inl rfl
theorem child_le {f : α → Int} {l : List α} {p : Nat} (h : 2 * p + 1 < l.length) : ∀ c, 1 ≤ c → c < l.length → (c - 1) / 2 = p → ky f l (child f l p) ≤ ky f l c := by
  intro c h1 h2 h3
  have hc : c = 2 * p + 1 ∨ c = 2 * p + 2 := by omega
  unfold child
  by_cases e : 2 * p + 1 + 1 < l.length
  · rw [lss_ky h e]
    by_cases d : ky f l (2 * p + 1) < ky f l (2 * p + 1 + 1)
    · rw [if_neg (fun z => by rw [decide_eq_true d] at z; exact Bool.noConfusion z.2)]
      rcases hc with rfl | rfl
      · exact Int.le_refl _
      · exact Int.le_of_lt d
    · rw [if_pos ⟨e, decide_eq_false d⟩]
      rcases hc with rfl | rfl
      · omega
      · exact Int.le_refl _
  · rw [if_neg (fun z => e z.1)]
    rcases hc with rfl | rfl
    · exact Int.le_refl _
    · omega

theorem down_rising (f : α → Int) (top : Nat) : ∀ (n : Nat) (l : List α) (p : Nat), l.length - p = n → p < l.length → Desc top p → Falling f l top p →
    (down f l p).2 < l.length ∧ Desc top (down f l p).2 ∧ Rising f (down f l p).1 top (down f l p).2 := by
  intro n
  induction n using Nat.strongRecOn with
  | _ n ih =>
    intro l p e hp hd F
    unfold down
    by_cases h : 2 * p + 1 < l.length
    · rw [dif_pos h]
      have c1 := child_lo f l p
      have c2 := child_lt f l p h
      have c3 := child_is f l p
      have cpar : (child f l p - 1) / 2 = p := by omega
      have r := ih (l.length - child f l p) (by omega) (swp l p (child f l p)) (child f l p) (by rw [swp_len]) (by rw [swp_len]; exact c2) hd.child ⟨?_, ?_⟩
      · rw [swp_len] at r
        exact r
      · intro k k1 k2 k3 k4 k5
        rw [swp_len] at k2
        rw [ky_swp hp c2, ky_swp hp c2]
        rw [if_neg k4, if_neg k5]
        by_cases e1 : (k - 1) / 2 = p
        · rw [if_pos e1, if_neg (show k ≠ p by omega)]
          exact child_le h k k1 k2 e1
        · rw [if_neg e1]
          by_cases e2 : k = p
          · rw [if_pos e2]
            subst e2
            have ht : top < k := by omega
            exact F.up ht (child f l k) (by omega) c2 cpar
          · rw [if_neg e2]
            exact F.ok k k1 k2 k3 e2 e1
      · intro ht c h1 h2 h3
        rw [swp_len] at h2
        rw [ky_swp hp c2, ky_swp hp c2]
        rw [cpar, if_neg (show p ≠ child f l p by omega), if_pos rfl, if_neg (show c ≠ child f l p by omega), if_neg (show c ≠ p by omega)]
        have := F.ok c h1 h2 (by have := hd.le; omega) (by omega) (by omega)
        rw [h3] at this
        exact this
    · rw [dif_neg h]
      refine ⟨hp, hd, ⟨fun k k1 k2 k3 k4 => ?_, fun ht c h1 h2 h3 => ?_⟩⟩
      · have k2' : k < l.length := k2
        exact F.ok k k1 k2 k3 k4 (by omega)
      · have h2' : c < l.length := h2
        omega

theorem sink_heap {f : α → Int} {l : List α} {top : Nat} (ht : top < l.length) (h : HeapFrom f l (top + 1)) : HeapFrom f (sink f l top) top := by
  obtain ⟨a, b, c⟩ := down_rising f top _ l top rfl ht .refl ⟨fun k k1 k2 k3 k4 k5 => h k k1 k2 (by omega), fun z => absurd z (Nat.lt_irrefl _)⟩
  exact rise_heap f top _ _ (by rw [down_len]; exact a) b c

theorem push_heap {f : α → Int} {l : List α} {x : α} (h : IsHeap f l) : IsHeap f (push f l x) := by
  have e : (l ++ [x]).length = l.length + 1 := by
    rw [List.length_append]
    rfl
  have kp : ∀ i, i < l.length → ky f (l ++ [x]) i = ky f l i := fun i hi => by
    unfold ky
    rw [List.getElem?_append_left hi]
  refine rise_heap f 0 _ _ (by omega) (Desc.zero _) ⟨fun k k1 k2 _ k4 => ?_, fun _ c h1 h2 h3 => ?_⟩
  · rw [kp k (by omega), kp _ (by omega)]
    exact h k k1 (by omega) (Nat.zero_le _)
  · omega

theorem heapTo_heap (f : α → Int) : ∀ (k : Nat) (l : List α), k ≤ l.length → HeapFrom f l k → IsHeap f (heapTo f k l)
  | 0, _, _, h => h
  | k + 1, l, hk, h => heapTo_heap f k _ (by rw [sink_len]; omega) (sink_heap (by omega) h)
theorem heapify_heap (f : α → Int) (l : List α) : IsHeap f (heapify f l) := by
  refine heapTo_heap f _ l (by omega) fun k k1 k2 k3 => ?_
  omega

theorem pop_heap {f : α → Int} {l : List α} (h : IsHeap f l) : IsHeap f (popL f l) := by
  unfold popL
  split
  · intro k _ k2
    simp at k2
  · rename_i z hz
    split
    · intro k _ k2
      simp at k2
    · rename_i ne
      have hl : 0 < l.dropLast.length := by
        cases e : l.dropLast with
        | nil => rw [e] at ne; exact absurd rfl ne
        | cons a b => simp
      refine sink_heap (by rw [List.length_set]; exact hl) fun k k1 k2 k3 => ?_
      rw [List.length_set] at k2
      have kp : ∀ i, 1 ≤ i → i < l.dropLast.length → ky f (l.dropLast.set 0 z) i = ky f l i := fun i h1 hi => by
        unfold ky
        rw [List.getElem?_set_ne (by omega), List.getElem?_dropLast, if_pos (by rw [List.length_dropLast] at hi; exact hi)]
      rw [kp k k1 k2, kp _ (by omega) (by omega)]
      rw [List.length_dropLast] at k2
      exact h k k1 (by omega) (Nat.zero_le _)

theorem heap_min {f : α → Int} {l : List α} (h : IsHeap f l) : ∀ k, k < l.length → ky f l 0 ≤ ky f l k := by
  intro k
  induction k using Nat.strongRecOn with
  | _ k ih =>
    intro hk
    by_cases e : k = 0
    · subst e
      exact Int.le_refl _
    · exact Int.le_trans (ih ((k - 1) / 2) (by omega) (by omega)) (h k (by omega) hk (Nat.zero_le _))
theorem heap_min_mem {f : α → Int} {l : List α} {x : α} (h : IsHeap f l) (hx : l[0]? = some x) : ∀ y ∈ l, f x ≤ f y := by
  intro y hy
  obtain ⟨i, hi, e⟩ := List.getElem_of_mem hy
  have := heap_min h i hi
  rw [ky_of hx, ky_of (List.getElem?_eq_getElem hi), e] at this
  exact this

/-! ### moves of rows whose keys go the same way -/
section
variable {β : Type} {f : α → Int} {h : β → Int} {g : α → β}
/-- two keys that are alike in their order -/
abbrev Alike (f : α → Int) (h : β → Int) (g : α → β) : Prop := ∀ a b, f a < f b ↔ h (g a) < h (g b)
theorem lss_map (m : Alike f h g) (l : List α) (i j : Nat) : lss h (l.map g) i j = lss f l i j := by
  unfold lss
  rw [List.getElem?_map, List.getElem?_map]
  cases l[i]? with
  | none => rfl
  | some a =>
    cases l[j]? with
    | none => rfl
    | some b =>
      show decide (h (g a) < h (g b)) = decide (f a < f b)
      by_cases e : f a < f b
      · rw [decide_eq_true e, decide_eq_true ((m a b).mp e)]
      · rw [decide_eq_false e, decide_eq_false (fun z => e ((m a b).mpr z))]
theorem rise_map (m : Alike f h g) (top : Nat) : ∀ (p : Nat) (l : List α), rise h (l.map g) top p = (rise f l top p).map g := by
  intro p
  induction p using Nat.strongRecOn with
  | _ p ih =>
    intro l
    unfold rise
    rw [lss_map m]
    split
    · split
      · rw [swp_map]
        exact ih _ (by omega) _
      · rfl
    · rfl
theorem child_map (m : Alike f h g) (l : List α) (p : Nat) : child h (l.map g) p = child f l p := by
  unfold child
  rw [lss_map m, List.length_map]
theorem down_map (m : Alike f h g) : ∀ (n : Nat) (l : List α) (p : Nat), l.length - p = n → down h (l.map g) p = ((down f l p).1.map g, (down f l p).2) := by
  intro n
  induction n using Nat.strongRecOn with
  | _ n ih =>
    intro l p e
    have e1 := down.eq_1 h (l.map g) p
    have e2 := down.eq_1 f l p
    by_cases c : 2 * p + 1 < l.length
    · rw [dif_pos (show 2 * p + 1 < (l.map g).length by rw [List.length_map]; exact c), child_map m, swp_map] at e1
      rw [dif_pos c] at e2
      rw [e1, e2]
      have h1 := child_lo f l p
      have h2 := child_lt f l p c
      exact ih (l.length - child f l p) (by omega) _ _ (by rw [swp_len])
    · rw [dif_neg (show ¬ 2 * p + 1 < (l.map g).length by rw [List.length_map]; exact c)] at e1
      rw [dif_neg c] at e2
      rw [e1, e2]
theorem sink_map (m : Alike f h g) (l : List α) (top : Nat) : sink h (l.map g) top = (sink f l top).map g := by
  unfold sink
  rw [down_map m _ l top rfl]
  exact rise_map m _ _ _
theorem push_map (m : Alike f h g) (l : List α) (x : α) : push h (l.map g) (g x) = (push f l x).map g := by
  unfold push
  rw [List.length_map, ← rise_map m, List.map_append]
  rfl
theorem pop_map (m : Alike f h g) (l : List α) : popL h (l.map g) = (popL f l).map g := by
  unfold popL
  rw [List.getLast?_map]
  cases l.getLast? with
  | none => rfl
  | some z =>
    show (if (l.map g).dropLast.isEmpty = true then [] else sink h ((l.map g).dropLast.set 0 (g z)) 0) = List.map g (if l.dropLast.isEmpty = true then [] else sink f (l.dropLast.set 0 z) 0)
    rw [← List.map_dropLast, List.isEmpty_map, ← List.map_set, sink_map m]
    split
    · rfl
    · rfl
theorem heapTo_map (m : Alike f h g) : ∀ (k : Nat) (l : List α), heapTo h k (l.map g) = (heapTo f k l).map g
  | 0, l => rfl
  | k + 1, l => by
    show heapTo h k (sink h (l.map g) k) = (heapTo f k (sink f l k)).map g
    rw [sink_map m, heapTo_map m k]
theorem heapify_map (m : Alike f h g) (l : List α) : heapify h (l.map g) = (heapify f l).map g := by
  unfold heapify
  rw [List.length_map, heapTo_map m]
end

/-! ### rows drained -/
theorem pop_len (f : α → Int) {l : List α} (h : l ≠ []) : (popL f l).length + 1 = l.length := by
  cases l with
  | nil => exact absurd rfl h
  | cons x r => exact (pop_perm f (l := x :: r) (x := x) rfl).length_eq
/-- the items as they come out, n of them at most -/
def outs (f : α → Int) : Nat → List α → List α
  | 0, _ => []
  | n + 1, l => match l[0]? with
    | none => []
    | some x => x :: outs f n (popL f l)
theorem outs_perm (f : α → Int) : ∀ (n : Nat) (l : List α), l.length = n → List.Perm (outs f n l) l
  | 0, l, h => by
    rw [List.length_eq_zero_iff.mp h]
    exact List.Perm.refl _
  | n + 1, l, h => by
    unfold outs
    cases l with
    | nil => simp at h
    | cons x r =>
      show List.Perm (x :: outs f n (popL f (x :: r))) (x :: r)
      have hl := pop_len f (l := x :: r) (List.cons_ne_nil _ _)
      exact (List.Perm.cons x (outs_perm f n _ (by omega))).trans (pop_perm f rfl)
/-- times never fall -/
def Rises (f : α → Int) (l : List α) : Prop := List.Pairwise (fun a b => f a ≤ f b) l
theorem outs_rises {f : α → Int} : ∀ (n : Nat) (l : List α), l.length = n → IsHeap f l → Rises f (outs f n l)
  | 0, l, _, _ => List.Pairwise.nil
  | n + 1, l, h, hh => by
    unfold outs
    cases l with
    | nil => simp at h
    | cons x r =>
      show List.Pairwise _ (x :: outs f n (popL f (x :: r)))
      have hl := pop_len f (l := x :: r) (List.cons_ne_nil _ _)
      refine List.Pairwise.cons ?_ (outs_rises n _ (by omega) (pop_heap hh))
      intro y hy
      have m1 := (outs_perm f n _ (by omega)).mem_iff.mp hy
      have m2 : y ∈ x :: popL f (x :: r) := List.mem_cons_of_mem _ m1
      exact heap_min_mem hh rfl y ((pop_perm f (l := x :: r) rfl).mem_iff.mp m2)
theorem outs_map {β : Type} {f : α → Int} {h : β → Int} {g : α → β} (m : Alike f h g) : ∀ (n : Nat) (l : List α), outs h n (l.map g) = (outs f n l).map g
  | 0, l => rfl
  | n + 1, l => by
    unfold outs
    rw [List.getElem?_map]
    cases l[0]? with
    | none => rfl
    | some x =>
      show g x :: outs h n (popL h (l.map g)) = (x :: outs f n (popL f l)).map g
      rw [pop_map m, outs_map m n]
      rfl

/-! ### what is due -/
def ripe (f : α → Int) (now : Int) : Nat → List α → List α × List α
  | 0, l => ([], l)
  | n + 1, l => match l[0]? with
    | none => ([], l)
    | some x => if f x ≤ now then (x :: (ripe f now n (popL f l)).1, (ripe f now n (popL f l)).2) else ([], l)
theorem ripe_perm (f : α → Int) (now : Int) : ∀ (n : Nat) (l : List α), List.Perm ((ripe f now n l).1 ++ (ripe f now n l).2) l
  | 0, l => List.Perm.refl _
  | n + 1, l => by
    unfold ripe
    cases l with
    | nil => exact List.Perm.refl _
    | cons x r =>
      show List.Perm ((if f x ≤ now then (x :: (ripe f now n (popL f (x :: r))).1, (ripe f now n (popL f (x :: r))).2) else ([], x :: r)).1 ++ (if f x ≤ now then (x :: (ripe f now n (popL f (x :: r))).1, (ripe f now n (popL f (x :: r))).2) else ([], x :: r)).2) (x :: r)
      by_cases e : f x ≤ now
      · rw [if_pos e]
        exact (List.Perm.cons x (ripe_perm f now n _)).trans (pop_perm f rfl)
      · rw [if_neg e]
        exact List.Perm.refl _
theorem ripe_heap {f : α → Int} {now : Int} : ∀ (n : Nat) (l : List α), IsHeap f l → IsHeap f (ripe f now n l).2
  | 0, l, h => h
  | n + 1, l, h => by
    unfold ripe
    cases l with
    | nil => exact h
    | cons x r =>
      show IsHeap f (if f x ≤ now then (x :: (ripe f now n (popL f (x :: r))).1, (ripe f now n (popL f (x :: r))).2) else ([], x :: r)).2
      by_cases e : f x ≤ now
      · rw [if_pos e]
        exact ripe_heap n _ (pop_heap h)
      · rw [if_neg e]
        exact h
theorem ripe_le {f : α → Int} {now : Int} : ∀ (n : Nat) (l : List α), ∀ y ∈ (ripe f now n l).1, f y ≤ now
  | 0, l => fun y hy => by cases hy
  | n + 1, l => by
    unfold ripe
    cases l with
    | nil => intro y hy; cases hy
    | cons x r =>
      show ∀ y ∈ (if f x ≤ now then (x :: (ripe f now n (popL f (x :: r))).1, (ripe f now n (popL f (x :: r))).2) else ([], x :: r)).1, f y ≤ now
      by_cases e : f x ≤ now
      · rw [if_pos e]
        intro y hy
        rcases List.mem_cons.mp hy with rfl | hy
        · exact e
        · exact ripe_le n _ y hy
      · rw [if_neg e]
        intro y hy
        cases hy
theorem ripe_gt {f : α → Int} {now : Int} : ∀ (n : Nat) (l : List α), l.length = n → IsHeap f l → ∀ y ∈ (ripe f now n l).2, now < f y
  | 0, l, h, _ => fun y hy => by
    have e : l = [] := List.length_eq_zero_iff.mp h
    subst e
    cases hy
  | n + 1, l, h, hh => by
    unfold ripe
    cases l with
    | nil => simp at h
    | cons x r =>
      show ∀ y ∈ (if f x ≤ now then (x :: (ripe f now n (popL f (x :: r))).1, (ripe f now n (popL f (x :: r))).2) else ([], x :: r)).2, now < f y
      by_cases e : f x ≤ now
      · rw [if_pos e]
        have hl := pop_len f (l := x :: r) (List.cons_ne_nil _ _)
        exact ripe_gt n _ (by omega) (pop_heap hh)
      · rw [if_neg e]
        intro y hy
        have := heap_min_mem hh rfl y hy
        omega
theorem ripe_rises {f : α → Int} {now : Int} : ∀ (n : Nat) (l : List α), IsHeap f l → Rises f (ripe f now n l).1
  | 0, l, _ => List.Pairwise.nil
  | n + 1, l, hh => by
    unfold ripe
    cases l with
    | nil => exact List.Pairwise.nil
    | cons x r =>
      show Rises f (if f x ≤ now then (x :: (ripe f now n (popL f (x :: r))).1, (ripe f now n (popL f (x :: r))).2) else ([], x :: r)).1
      by_cases e : f x ≤ now
      · rw [if_pos e]
        refine List.Pairwise.cons ?_ (ripe_rises n _ (pop_heap hh))
        intro y hy
        have m1 : y ∈ popL f (x :: r) := (ripe_perm f now n _).mem_iff.mp (List.mem_append_left _ hy)
        exact heap_min_mem hh rfl y ((pop_perm f (l := x :: r) rfl).mem_iff.mp (List.mem_cons_of_mem _ m1))
      · rw [if_neg e]
        exact List.Pairwise.nil

/-! ### whether rows are a heap -/
def isHeapB (f : α → Int) (l : List α) : Bool := !((List.range (l.length - 1)).map fun i => lss f l (i + 1) (i / 2)).any id
theorem isHeapB_iff {f : α → Int} {l : List α} : isHeapB f l = true ↔ IsHeap f l := by
  unfold isHeapB
  rw [Bool.not_eq_true', List.any_eq_false]
  constructor
  · intro h k k1 k2 _
    have hm : lss f l k ((k - 1) / 2) ∈ (List.range (l.length - 1)).map fun i => lss f l (i + 1) (i / 2) := by
      refine List.mem_map.mpr ⟨k - 1, List.mem_range.mpr (by omega), ?_⟩
      show lss f l (k - 1 + 1) ((k - 1) / 2) = _
      rw [show k - 1 + 1 = k by omega]
    have := h _ hm
    rw [lss_ky k2 (by omega)] at this
    have h3 : ¬ (ky f l k < ky f l ((k - 1) / 2)) := fun z => this (decide_eq_true z)
    omega
  · intro h b hb
    obtain ⟨i, hi, rfl⟩ := List.mem_map.mp hb
    have hi' := List.mem_range.mp hi
    rw [lss_ky (by omega) (by omega)]
    have := h (i + 1) (by omega) (by omega) (Nat.zero_le _)
    rw [show i + 1 - 1 = i by omega] at this
    intro z
    have := of_decide_eq_true z
    omega
theorem ripe_nil (f : α → Int) (now : Int) (n : Nat) : ripe f now n ([] : List α) = ([], []) := by
  cases n <;> rfl
theorem ripe_yes {f : α → Int} {now : Int} {x : α} {r : List α} (h : f x ≤ now) : ripe f now (x :: r).length (x :: r) = (x :: (ripe f now (popL f (x :: r)).length (popL f (x :: r))).1, (ripe f now (popL f (x :: r)).length (popL f (x :: r))).2) := by
  have e : (popL f (x :: r)).length = r.length := by
    have := pop_len f (l := x :: r) (List.cons_ne_nil _ _)
    rw [List.length_cons] at this
    omega
  rw [e]
  show (if f x ≤ now then (x :: (ripe f now r.length (popL f (x :: r))).1, (ripe f now r.length (popL f (x :: r))).2) else ([], x :: r)) = _
  rw [if_pos h]
theorem ripe_no {f : α → Int} {now : Int} {x : α} {r : List α} (h : ¬ f x ≤ now) : ripe f now (x :: r).length (x :: r) = ([], x :: r) := by
  show (if f x ≤ now then (x :: (ripe f now r.length (popL f (x :: r))).1, (ripe f now r.length (popL f (x :: r))).2) else ([], x :: r)) = _
  rw [if_neg h]

/-! ### rows in order -/
theorem uniq_of {le : α → α → Prop} (anti : ∀ a b, le a b → le b a → a = b) : ∀ {l m : List α}, List.Pairwise le l → List.Pairwise le m → List.Perm l m → l = m
  | [], m, _, _, p => (List.Perm.nil_eq p)
  | x :: r, [], _, _, p => absurd p.symm.nil_eq (by intro h; cases h)
  | x :: r, y :: q, hl, hm, p => by
    have hl' := List.pairwise_cons.mp hl
    have hm' := List.pairwise_cons.mp hm
    have e : x = y := by
      have h1 : x ∈ y :: q := p.mem_iff.mp List.mem_cons_self
      have h2 : y ∈ x :: r := p.mem_iff.mpr List.mem_cons_self
      rcases List.mem_cons.mp h1 with h1 | h1
      · exact h1
      · rcases List.mem_cons.mp h2 with h2 | h2
        · exact h2.symm
        · exact anti _ _ (hl'.1 y h2) (hm'.1 x h1)
    subst e
    rw [uniq_of anti hl'.2 hm'.2 p.cons_inv]
def lexle (p q : Int × Int) : Prop := p.1 < q.1 ∨ (p.1 = q.1 ∧ p.2 ≤ q.2)
abbrev SortP (l : List (Int × Int)) : Prop := List.Pairwise lexle l
theorem sortP_uniq {l m : List (Int × Int)} (hl : SortP l) (hm : SortP m) (p : List.Perm l m) : l = m := by
  refine uniq_of (fun a b h1 h2 => ?_) hl hm p
  unfold lexle at h1 h2
  refine Prod.ext ?_ ?_ <;> omega
theorem sortI_uniq {l m : List Int} (hl : List.Pairwise (· ≤ ·) l) (hm : List.Pairwise (· ≤ ·) m) (p : List.Perm l m) : l = m := uniq_of (fun a b h1 h2 => Int.le_antisymm h1 h2) hl hm p
theorem perm_map_inv {β : Type} {f : α → β} {ys xs : List β} (p : List.Perm ys xs) : ∀ es : List α, xs = es.map f → ∃ es', ys = es'.map f ∧ List.Perm es' es := by
  induction p with
  | nil =>
    intro es h
    refine ⟨[], rfl, ?_⟩
    rw [List.map_eq_nil_iff.mp h.symm]
  | @cons x l1 l2 _ ih =>
    intro es h
    cases es with
    | nil => cases h
    | cons e r =>
      obtain ⟨es', h1, h2⟩ := ih r (List.cons.inj h).2
      exact ⟨e :: es', by rw [h1, List.map_cons, (List.cons.inj h).1], List.Perm.cons e h2⟩
  | swap x y l =>
    intro es h
    cases es with
    | nil => cases h
    | cons e r =>
      cases r with
      | nil => exact absurd (List.cons.inj h).2 (by intro z; cases z)
      | cons e2 r =>
        have a := (List.cons.inj h).1
        have b := (List.cons.inj (List.cons.inj h).2).1
        have c := (List.cons.inj (List.cons.inj h).2).2
        exact ⟨e2 :: e :: r, by rw [List.map_cons, List.map_cons, ← a, ← b, ← c], List.Perm.swap _ _ _⟩
  | trans _ _ ih1 ih2 =>
    intro es h
    obtain ⟨es2, h1, h2⟩ := ih2 es h
    obtain ⟨es1, h3, h4⟩ := ih1 es2 h1
    exact ⟨es1, h3, h4.trans h2⟩
theorem nodup_filter_perm [DecidableEq α] {l : List α} {x : α} (hn : l.Nodup) (hx : x ∈ l) : List.Perm (x :: l.filter (fun y => decide (y ≠ x))) l := by
  induction l with
  | nil => cases hx
  | cons a r ih =>
    have hn' := List.nodup_cons.mp hn
    by_cases e : a = x
    · subst e
      have h1 : r.filter (fun y => decide (y ≠ a)) = r := by
        refine List.filter_eq_self.mpr fun y hy => decide_eq_true fun z => ?_
        subst z
        exact hn'.1 hy
      rw [List.filter_cons_of_neg (by simp), h1]
    · rw [List.filter_cons_of_pos (p := fun y => decide (y ≠ x)) (decide_eq_true e)]
      have hx' : x ∈ r := by
        rcases List.mem_cons.mp hx with h | h
        · exact absurd h.symm e
        · exact h
      exact (List.Perm.swap a x _).trans (List.Perm.cons a (ih hn'.2 hx'))
end Hm

set_option Elab.async false
set_option linter.all false
set_option maxRecDepth 100000
set_option maxHeartbeats 4000000
namespace SupI
open PySem PySem.Spec PyProof.Rows L2 NdefX
/-- the written part tells all that super().__init__(..) asks for, in a def at f of the class at D -/
structure SupTxt (P : Program) (K : PySem.W.Frag) (f c cc D : Addr) : Prop where
  fn : ∃ (oc : Value) (od : Option Addr) (fd : FuncData) (sl : Array (Option Value)) (ar : Arg), K.lookup f = some ⟨oc, od, .func fd, sl⟩ ∧ (fd.params.posonlyargs ++ fd.params.args).head? = some ar ∧ ar.arg = ("self" : Str)
  code : ∃ (ccl : Value) (cdd : Option Addr) (vs : Array Value) (ccs : Array (Option Value)) (file : Str) (tf : Tok), K.lookup c = some ⟨ccl, cdd, .fields vs, ccs⟩ ∧ vs[2]? = some (.str file tf) ∧ ((P.main.file : Str) == file) = true
  cell : ∃ (cl : Value) (cld : Option Addr) (csl : Array (Option Value)), K.lookup cc = some ⟨cl, cld, .cell (some (.ref D)), csl⟩
  cls : ∃ cd : ClassData, PySem.W.clsIn K D = some cd
  top : (P.main.scope.names.lookup ("super" : Str)).isSome = false
  any : PySem.W.nsIn K cStatics "thirdparty.any" = some none
/-- .. and of the class at C of the object -/
structure SubTxt (K : PySem.W.Frag) (C D : Addr) : Prop where
  oex : OexC K C
  mro : PySem.W.mroIn K C (.ref D) = some true
  ini : PySem.W.ks_superIn K C D "__init__" = some (some (.builtin "ValueError.__init__"))
  ve : PySem.W.subIn K (.ref C) (.type "ValueError") = some true
theorem sup_init {pl : Sem Bool} {X : Cx} {pins : List (Addr × Obj)} {σ : L2.St} {H : Hp} {s : Shared} {f c cc D C a : Addr} {i j : Nat} {y : V} {body : List Stmt} {w : Str} {p0 p1 ap pos pw : Pos} {Q : Value → Shared → Prop} {E : Value → Shared → Prop}
    (I : Inv X pins σ H s) (T : SupTxt X.prog X.K f c cc D) (S : SubTxt X.K C D) (hfu : X.env.func = some f) (hco : X.env.code = .ref c) (hcl : X.env.cells.lookup ("__class__" : Str) = some cc)
    (hks : X.env.scope.names.lookup ("super" : Str) = some .globalImplicit) (hkc : X.env.scope.names.lookup ("__class__" : Str) = some .free) (hka : X.env.scope.names.lookup ("self" : Str) = some .local) (hkw : X.env.scope.names.lookup w = some .local)
    (hms : X.mg "super" = none) (hN : X.N[i]? = some ("self" : Str)) (hσ : σ[i]? = some (some (.ref a))) (hNw : X.N[j]? = some w) (hσw : σ[j]? = some (some y)) (he : H a = some (exo a C none)) (hdw : (w == ("__debug__" : Str)) = false)
    (h : ∀ s', Inv X pins σ H s' → Q .none s')
    (hev : eval (.Call (.Attribute (.Call (.Name "super" p0) [] [] p1) "__init__" ap) [.Name w pw] [] pos) X.env = (do
      let ov ← attributeBase (.Call (.Name "super" p0) [] [] p1) "__init__" X.env (eval (.Call (.Name "super" p0) [] [] p1) X.env)
      standAt ap.atName
      let (f, first) ← holding [ov] (getMethod ov "__init__" pl)
      callWith pos f first (backTo pos (starEach [.Name w pw] X.env)) []) := by rfl)
    (hst : starEach [.Name w pw] X.env = (false, eval (.Name w pw) X.env) :: starEach [] X.env := by rfl) (hpl : (backTo pos (starEach [] X.env)).any (·.1) = false := by rfl) :
    _root_.PySem.wpAt (model X.prog X.w) X.A (.func body X.env) (eval (.Call (.Attribute (.Call (.Name "super" p0) [] [] p1) "__init__" ap) [.Name w pw] [] pos) X.env) Q E s := by
  obtain ⟨oc, od, fd, sl, ar, hf, hp, har⟩ := T.fn
  obtain ⟨ccl, cdd, vs, ccs, file, tf, hcode, hvs, hfile⟩ := T.code
  obtain ⟨clv, cld, csl, hcell⟩ := T.cell
  obtain ⟨cdD, hD⟩ := T.cls
  have KX := I.kIn
  obtain ⟨t1, hx⟩ := exo_at I.hok he
  obtain ⟨m, hns, hlook⟩ := I.loc
  obtain ⟨us, rs, ls⟩ := hlook i _ _ hN hσ (.inl hka)
  obtain ⟨uw, rw', lw⟩ := hlook j _ _ hNw hσw (.inl hkw)
  have es : us = .ref a := rs
  subst es
  have ms : m "self" = some (.ref a) := by
    rcases ls with ⟨_, z⟩ | ⟨z, _⟩
    · exact z
    · have z' : X.env.scope.names.lookup ("self" : Str) = some .cell ∨ X.env.scope.names.lookup ("self" : Str) = some .free := z
      rw [hka] at z'
      rcases z' with z' | z' <;> cases z'
  have mw : m w = some uw := by
    rcases lw with ⟨_, z⟩ | ⟨z, _⟩
    · exact z
    · have z' : X.env.scope.names.lookup w = some .cell ∨ X.env.scope.names.lookup w = some .free := z
      rw [hkw] at z'
      rcases z' with z' | z' <;> cases z'
  obtain ⟨oD, hD1, hD2⟩ : ∃ oD, s.heap.get? D = some oD ∧ oD.data = .cls cdD := by
    unfold PySem.W.clsIn at hD
    split at hD
    · rename_i ho
      cases hD
      exact ⟨_, KX _ _ ho, rfl⟩
    · cases hD
  obtain ⟨mb, b1, b2⟩ := I.mod.blt
  refine ks_wpAt_MethodCall (pl := pl) ?_ hev
  refine ks_wpAt_super_base (env := X.env) hks hkc (by decide) hfu (KX _ _ hf) rfl hp hco (KX _ _ hcode) rfl hvs hfile T.top ?_
  have hcs : s.heap.IsCell cc (some (.ref D)) := ⟨_, KX _ _ hcell, rfl⟩
  refine PySem.W.ks_loadName_global I.ok.kind hks (Calls.loadGlobal_builtin (env := X.env) (by rw [I.ok.glob]; exact I.mod.glob.keeps I.bk) hms (by rw [I.ok.blt]; exact b1.keeps I.bk) ((b2 _ (by decide)).trans (by decide +kernel)) ⟨rfl, ?_⟩)
  refine wpAny_loadName_free I.ok.kind hkc hcl hcs ?_
  rw [har]
  refine wpAny_loadName_local I.ok.kind hka hns ms ?_
  refine ks_wpAny_isType_cls hD1 hD2 ⟨rfl, ?_⟩
  obtain ⟨hh, g, d, t, os⟩ := s
  refine ks_wpAny_call_super hD1 hD2 hx rfl (fun c e => by cases e) (PySem.W.looks_mroIn KX S.mro) (fun h1 so1 k1 => ?_)
  have I1 : Inv X pins σ H ⟨h1, g, d, t, os⟩ := I.kept (t' := t) k1
  have hx1 := k1 _ _ hx
  have Ix : PySem.W.InstAt h1 a ({ cls := .ref C, dict := none, data := .fields #[.ref t1, .none, .none, .none, .bool false, .none] } : Obj) C none := ⟨hx1, rfl, rfl, trivial⟩
  have KX1 := I1.kIn
  have hI : PySem.W.Looks (model X.prog X.w) h1 (isInstance (.ref a) (.type "ValueError")) true := Ix.type.andThen (PySem.W.looks_subIn KX1 S.ve)
  have hm := S.ini
  cases hc : PySem.W.clsIn X.K C with
  | none =>
    unfold PySem.W.ks_superIn at hm
    rw [hc] at hm
    cases hm
  | some cd =>
    unfold PySem.W.ks_superIn at hm
    rw [hc] at hm
    refine PySem.W.kxs_getMethod PySem.W.kxs_ValueError so1 (PySem.W.looks_opaque KX1 T.any) (l₀ := cd.mro) (fun A Q E s k q => wpAny_bind ((PySem.W.looks_clsIn KX1 hc) A _ E s k (wpAny_pure q))) rfl KX1 hm hI (PySem.W.ks_ne KX1 Ix hc) (by decide) ?_
    have k2 : ∀ b o, h1.get? b = some o → (h1.push (PySem.W.kxs_mw "ValueError.__init__" a)).get? b = some o := fun b o e => Heap.get?_push_of_some _ e
    have I2 : Inv X pins σ H ⟨h1.push (PySem.W.kxs_mw "ValueError.__init__" a), g, d, t + 1, os⟩ := I1.kept (t' := t + 1) k2
    have hu2 : (h1.push (PySem.W.kxs_mw "ValueError.__init__" a)).get? h1.objs.size = some (PySem.W.kxs_mw "ValueError.__init__" a) := Heap.get?_push_at rfl rfl
    obtain ⟨m2, hns2, hlook2⟩ := I2.loc
    obtain ⟨u2, r2, l2⟩ := hlook2 j _ _ hNw hσw (.inl hkw)
    have mw2 : m2 w = some u2 := by
      rcases l2 with ⟨_, z⟩ | ⟨z, _⟩
      · exact z
      · have z' : X.env.scope.names.lookup w = some .cell ∨ X.env.scope.names.lookup w = some .free := z
        rw [hkw] at z'
        rcases z' with z' | z' <;> cases z'
    dsimp only
    rw [hst]
    refine PySem.W.kxs_callWith (i := "ValueError.__init__") (x := a) (by show (false || (backTo pos (starEach [] X.env)).any (·.1)) = false; rw [hpl]; rfl) (Calls.evalArgs_plain ?_)
    show wpAny _ _ (spliced ((false, eval (.Name w pw) X.env) :: backTo pos (starEach [] X.env))) _ _ _
    refine Calls.spliced_cons (wpAny_Name (wpAny_loadName_local I.ok.kind hkw hns2 mw2 ?_) hdw)
    refine Calls.spliced_nil ⟨hu2, ?_⟩
    -- the wrapper is called
    obtain ⟨nm, qn, N, bs, bm, sn, sub, ab, col, dd, k0, k1', k2', k3', k5, hC, hbm⟩ := S.oex.cls
    have hx2 := k2 _ _ hx1
    refine wpAny_call (codeAny_of_tree ?_)
    show wpAny _ X.A.in1 (callAny (.ref h1.objs.size) ⟨[u2], []⟩) _ _ _
    simp only [callAny]
    refine wpAny_bind (wpAny_load hu2 ?_)
    simp only [PySem.W.kxs_mw, show (Value.type "method-wrapper" == Value.type "method" || Value.type "method-wrapper" == Value.type "builtin_function_or_method" || Value.type "method-wrapper" == Value.type "method-wrapper") = true by decide, if_true]
    refine PySem.W.KFB.if_so (by decide) ?_
    refine wpAny_bind (PySem.W.check_bound_init F.excBase_ValueError.toExcCallFacts (I2.kIn _ _ hC) hx2 rfl ?_)
    refine wpAny_bind (wpAny_pure (wpAny_pure ?_))
    refine ⟨plainId_quiet F.excBase_ValueError.init.plain _, codeAny_builtin F.excBase_ValueError.initEntry ?_⟩
    refine PySem.W.exc_init_tree (cls := .ref C) (t0 := t1) (dv := none) (c2 := .none) (c3 := .none) (b4 := .bool false) hx2 (show 1 ≤ sizeLine by decide) fun h3 k3 hx3 _ => ?_
    have J := I2.write (t' := t + 1) (x := a) (e := a) (o := exo a C none) (by rw [he]; exact True.intro) (.inl rfl) k3 ⟨_, hx3⟩ (exo_ok hx3)
    have eu : upd H a (exo a C none) = H := by
      funext b
      by_cases hb : b = a
      · rw [hb, upd_same, he]
      · rw [upd_ne hb]
    rw [eu] at J
    exact h _ J

/-! ### def __init__(self, w): super().__init__(w); self.w = w -/
/-- what it keeps: the object gets its dict with the one field -/
def spInit (K : PySem.W.Frag) (D : Addr) (w : Str) : Sp := fun vs H Q _ => ∃ (a C : Addr) (y : V), vs = [.ref a, y] ∧ SubTxt K C D ∧ PySem.W.findIn K (.ref C) w = some none ∧ H a = some (exo a C none) ∧
  ∀ dx, H dx = none → dx ≠ a → Q .non (upd (upd H dx (exd dx [(w, y)])) a (exo a C (some dx)))
theorem ok_init {P : Program} {W : World} {K : PySem.W.Frag} {mg : Str → Option Value} {base : Heap} {k : Nat} {f c cc D : Addr} {w qual : Str} {params : Arguments} {body : List Stmt} {scope : Scope} {dV kV doc pm ct oc : Value} {an od : Option Addr} {osl : Array (Option Value)} {p0 p1 ap pos pw p2 p3 p4 p5 p6 : Pos} {pl : Sem Bool}
    (lk : K.lookup f = some ⟨oc, od, .func (PySem.W.fnX "__init__" qual params body scope [("__class__", cc)] dV kV doc pm an (.ref c) ct), osl⟩) (hcd : PySem.W.codeIn K (.ref c) qual = true)
    (T : SupTxt P K f c cc D) (hms : mg "super" = none) (S : NScope ["self", w, "__class__"] ["self", w] ["__class__"] scope)
    (hks : scope.names.lookup ("super" : Str) = some .globalImplicit) (hdw : (w == ("__debug__" : Str)) = false) (hcw : (w == ("__classdict__" : Str)) = false)
    (hb : body = [.Expr (.Call (.Attribute (.Call (.Name "super" p0) [] [] p1) "__init__" ap) [.Name w pw] [] pos) p2, .Assign [.Attribute (.Name "self" p3) w p4] (.Name w p5) p6])
    (hev : ∀ L : Addr, eval (.Call (.Attribute (.Call (.Name "super" p0) [] [] p1) "__init__" ap) [.Name w pw] [] pos) (PySem.W.envX qual scope L f (.ref c) [("__class__", cc)]) = (do
      let ov ← attributeBase (.Call (.Name "super" p0) [] [] p1) "__init__" (PySem.W.envX qual scope L f (.ref c) [("__class__", cc)]) (eval (.Call (.Name "super" p0) [] [] p1) (PySem.W.envX qual scope L f (.ref c) [("__class__", cc)]))
      standAt ap.atName
      let (f', first) ← holding [ov] (getMethod ov "__init__" pl)
      callWith pos f' first (backTo pos (starEach [.Name w pw] (PySem.W.envX qual scope L f (.ref c) [("__class__", cc)]))) []))
    (hsw : ∀ {L : Addr}, swapsWith (.Name w p5) (some (.Attribute (.Name "self" p3) w p4)) p6.line (PySem.W.envX qual scope L f (.ref c) [("__class__", cc)]) = pure false) :
    FnOk P W K mg base CX0 (k + 1) f (PySem.W.fnX "__init__" qual params body scope [("__class__", cc)] dV kV doc pm an (.ref c) ct) ["self", w] (spInit K D w) := by
  refine ⟨fun vs H Q E h => ?_, fun A outer s H args us vs Q E hr e0 hbi r hsp => ?_⟩
  · obtain ⟨a, C, y, rfl, _⟩ := h
    rfl
  obtain ⟨a, C, y, rfl, ST, hfd, hea, q⟩ := hsp
  have KX : K.In s.heap := e0.mod.kin.keeps fun b o e => (e0.bs b o e).1
  have lim : s.heap.NoLimit := e0.mod.nolimit.keeps fun b o e => (e0.bs b o e).1
  obtain ⟨clv, cld, csl, hcell⟩ := T.cell
  have hcH : H cc = none := (e0.bs _ _ (e0.mod.kin _ _ hcell)).2
  have hC : CellsAt [(("__class__" : Str), cc)] ["__class__"] [some (.ref D)] s.heap H := by
    have lk1 : ∀ y c', ([(("__class__" : Str), cc)] : List (Str × Addr)).lookup y = some c' → y = "__class__" ∧ c' = cc := fun y c' e => by
      rw [List.lookup_cons] at e
      by_cases z : y == ("__class__" : Str)
      · rw [z] at e
        exact ⟨eq_of_beq z, (Option.some.inj e).symm⟩
      · rw [show (y == ("__class__" : Str)) = false from by simpa using z] at e
        cases e
    refine ⟨rfl, fun y c' e => ?_, fun x y c' e1 e2 => (lk1 x c' e1).1.trans (lk1 y c' e2).1.symm, fun i y e => ?_⟩
    · obtain ⟨_, rfl⟩ := lk1 y c' e
      exact ⟨hcH, _, _, KX _ _ hcell, rfl⟩
    · match i, e with
      | 0, e =>
        have ey : y = "__class__" := (Option.some.inj e).symm
        subst ey
        refine ⟨cc, rfl, fun v hv => ?_⟩
        have ev : v = .ref D := (Option.some.inj (Option.some.inj hv)).symm
        subst ev
        exact ⟨.ref D, rfl, _, KX _ _ hcell, rfl⟩
      | i + 1, e => exact absurd e (by simp)
  have hlu : us.length = 2 := r.length.symm
  refine ks_codeAny_call_defAt hr.depth (KX _ _ lk) rfl lim (PySem.W.codeRec_of KX hcd) rfl hbi S.nocell (fun ⟨n, _⟩ hy => S.par n (List.of_mem_zip hy).1) (fun h₀ hns kp => ?_) S.co S.gen S.kind
  let F : NF := ⟨"__init__", qual, params, body, scope, [("__class__", cc)], c⟩
  have I : L2.Inv (ncx CX0 P W K mg base ["self", w, "__class__"] F f A outer s H E) [] (startF (["self", w, "__class__"] : List Str) [.ref a, y] [some (.ref D)]) H { s with heap := h₀, toks := s.toks + ((["self", w] : List Str).zip us).length } := inv_startN (F := F) S hr.hd e0 rfl r hC hns kp
  have hkw : scope.names.lookup w = some .local := S.par w (by simp)
  have hka : scope.names.lookup ("self" : Str) = some .local := S.par _ (by simp)
  have hkc : scope.names.lookup ("__class__" : Str) = some .free := S.frk _ (by simp)
  generalize hX : ncx CX0 P W K mg base ["self", w, "__class__"] F f A outer s H E = X at I
  generalize ({ s with heap := h₀, toks := s.toks + ((["self", w] : List Str).zip us).length } : Shared) = s1 at I ⊢
  subst hb
  show _root_.PySem.wpAt (model P W) (A.deeper (envF F f s.heap.objs.size)) (.func _ (envF F f s.heap.objs.size)) (execs _ (envF F f s.heap.objs.size)) _ _ _
  refine ks_wpAt_execs_cons (ks_wpAt_Expr_any ?_ ?_)
  · subst hX
    refine sup_init (pl := pl) (i := 0) (j := 1) (y := y) (a := a) (C := C) I T ST rfl rfl rfl hks hkc hka hkw hms rfl rfl rfl rfl hea hdw (fun s2 I2 => ?_) (hev _)
    show _root_.PySem.wpAt _ _ _ (execs [_] _) _ _ _
    have ps : PSs (ncx CX0 P W K mg base ["self", w, "__class__"] F f A outer s H E) [.Assign [.Attribute (.Name "self" p3) w p4] (.Name w p5) p6] _ := pss_one (ps_ost (pe_var (i := 0) rfl (.inl hka) (by decide) (by decide)) (pe_var (i := 1) rfl (.inl hkw) hdw hcw) hsw)
    refine wpAt_of_wpAny (wpAny_mono (ps.run [] s2 (startF (["self", w, "__class__"] : List Str) [.ref a, y] [some (.ref D)]) H { nx := fun _ H' => Q .non H', rt := Q } I2 ⟨_, rfl, _, rfl, a, C, rfl, ST.oex, hfd, .inl ⟨hea, fun dx n1 n2 => q dx n1 n2⟩⟩) (fun fl s3 hs => ?_) fun e s3 hs => hs)
    cases fl with
    | ret u =>
      obtain ⟨v, σ', H', J, rv, q'⟩ := hs
      exact ⟨v, H', J.os, J.bare, J.base, J.hok, rv, q'⟩
    | next =>
      obtain ⟨σ', H', J, q'⟩ := hs
      exact ⟨.non, H', J.os, J.bare, J.base, J.hok, rfl, q'⟩
    | brk =>
      obtain ⟨_, _, _, q'⟩ := hs
      exact False.elim q'
    | cont =>
      obtain ⟨_, _, _, q'⟩ := hs
      exact False.elim q'
  · show interactive (envF F f s.heap.objs.size) = false
    simp [interactive, S.kind, F]
end SupI

/-! lambdas without parameters that are kept (in a list) and called later, by another def -/
namespace LamT
open PySem PySem.Spec PyProof.Rows L2 LamX NdefX
structure LF where
  qual : Str
  params : Arguments
  body : Expr
  scope : Scope
  cl : List (Str × Addr)
  c : Addr
/-- as a nested def without a body, for its context -/
abbrev LF.nf (F : LF) : NF := ⟨"<lambda>", F.qual, F.params, [], F.scope, F.cl, F.c⟩
def LamO (f : Addr) (F : LF) : HO := .ext fun h => ∃ pm ctv : Value, h.get? f = some (PySem.W.kla_obj "<lambda>" F.qual F.params F.body F.scope F.cl pm F.c ctv)
theorem lamO_ne {f : Addr} {F : LF} (tb : Array Value) : LamO f F ≠ .tbl tb := fun z => by
  unfold LamO at z
  cases z
theorem lamO_at {P : Program} {w : World} {H : Hp} {h : Heap} {f : Addr} {F : LF} (ok : HOk P w H h) (e : H f = some (LamO f F)) : ∃ pm ctv : Value, h.get? f = some (PySem.W.kla_obj "<lambda>" F.qual F.params F.body F.scope F.cl pm F.c ctv) := (ok f _ e).1
section
variable {X : Cx} {pins : List (Addr × Obj)} {σ : L2.St} {H : Hp} {s : Shared}
theorem inv_lam {F : LF} {u : Obj} {n : Nat} {pm ctv : Value} (J : Inv X pins σ H s) (eu : u = PySem.W.kla_obj "<lambda>" F.qual F.params F.body F.scope F.cl pm F.c ctv) :
    Inv X pins σ (upd H s.heap.objs.size (LamO s.heap.objs.size F)) { s with heap := s.heap.push u, toks := n } := by
  have hit : (s.heap.push u).get? s.heap.objs.size = some u := Heap.get?_push_size _ (by rw [eu] <;> rfl)
  refine J.laid (a := s.heap.objs.size) (fun b v q => Heap.get?_push_of_some _ q) (Nat.le_refl _) ?_
  exact ⟨⟨pm, ctv, by rw [hit, eu]⟩, ⟨u, hit⟩, fun g1 g2 ⟨p, t, z⟩ st => ⟨p, t, st _ z⟩⟩
/-- a lambda is made, and is known from now on -/
theorem make_kept {T : List (Addr × Str)} {c B : Addr} {params : Arguments} {body : Expr} {sc : Scope} {at_ : Pos} {E Q : Value → Shared → Prop} (J : Inv X pins σ H s) (tb : TabB X.base X.mg c B) (hcode : X.env.code = .ref c)
    (mem : (B, X.env.qual ++ "<lambda>") ∈ T) (one : ∀ p ∈ T, p.1 = B → p.2 = X.env.qual ++ "<lambda>") (hT : Tabs T H) (nodef : defaultsOf params X.env = ([], [])) (cap : ∀ y ∈ sc.names, y.2 = .free → ∃ a, X.env.cells.lookup y.1 = some a)
    (go : ∀ (f d : Addr) (H1 : Hp) (s1 : Shared), Inv X pins σ H1 s1 → ExtN H H1 → Tabs T H1 → H f = none → H1 f = some (LamO f ⟨X.env.qual ++ "<lambda>", params, body, sc, cloFrom X.env.cells sc.names [], d⟩) → H1 d = some (CodeO d (X.env.qual ++ "<lambda>")) → Q (.ref f) s1) :
    wpAny (model X.prog X.w) X.A (eval (.Lambda params body sc at_) X.env) Q E s := by
  obtain ⟨ps, hB, tri, known⟩ := hT _ mem
  refine PySem.W.kla_eval nodef ?_
  have built : s.heap.BuiltinsAt X.mg B := tb.bm.keeps J.bk
  have gB : s.heap.get? B = some { cls := .none, data := .fields ps } := J.hok B _ hB
  rcases e : codeAmong at_ ps.toList with _ | cv
  · refine PySem.W.kla_makeFunction (mg := X.mg) (c := c) (P := B) (ps := ps) (closure_ok cap) J.ok.glob (J.mod.glob.keeps J.bk) hcode (tb.code.keeps J.bk) gB tri e tb.gP built fun d ctv g tk ext ge lt hrec htab => ?_
    obtain ⟨d2, od, vs, t, e2, god, dat, nam⟩ := hrec
    cases e2
    have nd : H d = none := J.hok.fresh ge
    generalize hq : X.env.qual ++ "<lambda>" = q at *
    have J1 := inv_table (q := q) (t' := tk) (more := #[rawInt at_.line, rawInt at_.col, .ref d]) (h' := g) J hB (fun b o n z => ext b o n z) htab ge ⟨od, vs, t, god, dat, nam⟩
    have far : ExtN H (upd (upd H B (.tbl (ps ++ #[rawInt at_.line, rawInt at_.col, .ref d]))) d (CodeO d q)) := fun b o z n => by
      have bd : b ≠ d := ne_of_none z nd
      have bB : b ≠ B := fun y => n ps (Option.some.inj (z.symm.trans (by rw [y]; exact hB)))
      rw [upd_ne bd, upd_ne bB, z]
    have lst : (ps ++ #[rawInt at_.line, rawInt at_.col, .ref d]).toList = ps.toList ++ [rawInt at_.line, rawInt at_.col, .ref d] := by simp
    have T1 : Tabs T (upd (upd H B (.tbl (ps ++ #[rawInt at_.line, rawInt at_.col, .ref d]))) d (CodeO d q)) := fun p hp => by
      by_cases hb : p.1 = B
      · rw [one p hp hb, hb]
        refine ⟨_, by rw [upd_ne (ne_of_none hB nd), upd_same], by rw [lst]; exact PySem.TriplesOk_snoc _ _ _ _ tri, fun p' cv hcv => ?_⟩
        rw [lst] at hcv
        rcases among_app _ tri hcv with z | z
        · obtain ⟨d0, e1, e2⟩ := known p' cv z
          exact ⟨d0, e1, far _ _ e2 codeO_ne⟩
        · exact ⟨d, z, upd_same⟩
      · obtain ⟨qs, a1, a2, a3⟩ := hT p hp
        refine ⟨qs, ?_, a2, fun p' cv hcv => ?_⟩
        · rw [upd_ne (ne_of_none a1 nd), upd_ne hb]
          exact a1
        · obtain ⟨d0, e1, e2⟩ := a3 p' cv hcv
          exact ⟨d0, e1, far _ _ e2 codeO_ne⟩
    have nF := J1.hok.fresh (Nat.le_refl _)
    have J2 := inv_lam (F := ⟨q, params, body, sc, cloFrom X.env.cells sc.names [], d⟩) (n := tk) (pm := (X.mg "__name__").getD .none) (ctv := ctv) J1 rfl
    refine go g.objs.size d _ _ J2 (fun b o z n => ?_) (T1.ext fun b o z => ?_) (J.hok.fresh (Nat.le_trans ge (Nat.le_of_lt lt))) upd_same ?_
    · have z1 := far b o z n
      exact (upd_ne (ne_of_none z1 nF)).trans z1
    · exact (upd_ne (ne_of_none z nF)).trans z
    · exact (upd_ne (Nat.ne_of_lt lt)).trans upd_same
  · obtain ⟨d, e1, known1⟩ := known at_ cv e
    subst e1
    refine PySem.W.kla_makeFunctionHit (mg := X.mg) (c := c) (P := B) (ps := ps) (closure_ok cap) J.ok.glob (J.mod.glob.keeps J.bk) hcode (tb.code.keeps J.bk) gB tri e built fun ctv g tk ext le => ?_
    have J1 : Inv X pins σ H { s with heap := g, toks := tk } := J.kept ext
    have nF : H g.objs.size = none := J1.hok.fresh (Nat.le_refl _)
    have J2 := inv_lam (F := ⟨X.env.qual ++ "<lambda>", params, body, sc, cloFrom X.env.cells sc.names [], d⟩) (n := tk) (pm := (X.mg "__name__").getD .none) (ctv := ctv) J1 rfl
    refine go g.objs.size d _ _ J2 (fun b o z n => ?_) (hT.ext fun b o z => ?_) nF upd_same ?_
    · exact (upd_ne (ne_of_none z nF)).trans z
    · exact (upd_ne (ne_of_none z nF)).trans z
    · exact (upd_ne (ne_of_none known1 nF)).trans known1
/-- lambda: body -/
def tLam (T : List (Addr × Str)) (mk : Addr → LF) : TE := fun _ H Q => Tabs T H ∧ ∀ (f d : Addr) (H1 : Hp), ExtN H H1 → Tabs T H1 → H f = none → H1 f = some (LamO f (mk d)) → H1 d = some (CodeO d (mk d).qual) → Q (.ref f) H1
theorem pe_lam {T : List (Addr × Str)} {c B : Addr} {params : Arguments} {body : Expr} {sc : Scope} {at_ : Pos} (tb : TabB X.base X.mg c B) (hcode : X.env.code = .ref c)
    (mem : (B, X.env.qual ++ "<lambda>") ∈ T) (one : ∀ p ∈ T, p.1 = B → p.2 = X.env.qual ++ "<lambda>") (nodef : defaultsOf params X.env = ([], [])) (L : LamS X.env.scope sc) :
    PE X (.Lambda params body sc at_) (tLam T fun d => ⟨X.env.qual ++ "<lambda>", params, body, sc, cloFrom X.env.cells sc.names [], d⟩) :=
  ⟨fun pins s σ H Q J h => make_kept J tb hcode mem one h.1 nodef (L.has J.ok) fun f d H1 s1 J1 a1 a2 a3 a4 a5 => ⟨.ref f, H1, J1, rfl, h.2 f d H1 a1 a2 a3 a4 a5⟩⟩
end
/-! ### what it promises -/
structure LOk (P : Program) (w : World) (K : PySem.W.Frag) (mg : Str → Option Value) (base : Heap) (CX : CXT) (k : Nat) (f : Addr) (F : LF) (fr : List Str) (sp : List (Option V) → Hp → VK → XK → Prop) : Prop where
  run : ∀ (A : Around) (outer : List Env) (s : Shared) (H : Hp) (ws : List (Option V)) (Q : VK) (E : XK), Room k A → Env0 P w K mg base A outer s H → H f = some (LamO f F) → H F.c = some (CodeO F.c F.qual) →
    CellsAt F.cl fr ws s.heap H → sp ws H Q E → codeAny (model P w) A (.call (.ref f) ⟨[], []⟩) (CR CX outer P w H s Q E) s
section
variable {CX : CXT} {P : Program} {w : World} {K : PySem.W.Frag} {mg : Str → Option Value} {base : Heap} {N fr : List Str} {F : LF} {f : Addr} {k j : Nat} {sp : List (Option V) → Hp → VK → XK → Prop}
theorem LOk.mono (o : LOk P w K mg base CX j f F fr sp) (h : j ≤ k) : LOk P w K mg base CX k f F fr sp := ⟨fun A outer s H ws Q E r => o.run A outer s H ws Q E (r.mono h)⟩
/-- by its body -/
theorem lok_of (S : NScope N [] fr F.scope) (hb : ∀ pm ctv : Value, bindArgs (PySem.W.kla_fn "<lambda>" F.qual F.params F.body F.scope F.cl pm (.ref F.c) ctv) ⟨[], []⟩ = pure [])
    (hbody : ∀ (A : Around) (outer : List Env) (s : Shared) (H : Hp) (ws : List (Option V)) (Q : VK) (E : XK), Room k (A.deeper (envF F.nf f s.heap.objs.size)) → ws.length = fr.length → sp ws H Q E →
      ∃ t, PE (ncx CX P w K mg base N F.nf f A outer s H E) F.body t ∧ t (startF N [] ws) H Q) : LOk P w K mg base CX (k + 1) f F fr sp := by
  refine ⟨fun A outer s H ws Q E room e0 hf hc C q => ?_⟩
  obtain ⟨pm, ctv, ho⟩ := lamO_at e0.hok hf
  have lim : s.heap.NoLimit := e0.mod.nolimit.keeps fun b o z => (e0.bs b o z).1
  refine PySem.W.kla_callFunE room.depth ho rfl S.co S.gen rfl (codeO_at e0.hok hc) ?_
  rw [hb]
  refine wpAny_pure (wpAny_newFunctionEnv S.nocell (fun y hy => absurd hy (by simp)) (fun g hns hsb => ⟨lim.fresh _ hsb, ?_⟩) S.kind)
  show codeAny _ _ (.expr F.body (envF F.nf f s.heap.objs.size)) _ _
  have stay : ∀ b o, s.heap.get? b = some o → g.get? b = some o := fun b o z => hsb.extBut b o (Nat.ne_of_lt (Heap.lt_size z)) (Heap.get?_push_of_some _ z)
  obtain ⟨t, ht, hq⟩ := hbody A outer s H ws Q E (room.deeper _) C.len q
  have J : Inv (ncx CX P w K mg base N F.nf f A outer s H E) [] (startF N [] ws) H { s with heap := g, toks := s.toks + (([] : List Str).zip ([] : List Value)).length } := inv_startN (F := F.nf) (us := []) S room.hd e0 rfl .nil C hns stay
  refine PySem.W.kla_codeExpr (wpAny_mono (ht.run [] _ _ H Q J hq) (fun v s1 hv => ?_) fun e s1 he => he)
  obtain ⟨x, H1, J1, rx, qx⟩ := hv
  exact ⟨x, H1, J1.os, J1.bare, J1.base, J1.hok, rx, qx⟩
end
/-! ### cells that are kept -/
theorem cells_kept {cl : List (Str × Addr)} {fr : List Str} {ws : List (Option V)} {fs ex : List Addr} {H0 H : Hp} {g h : Heap} (C : CellsAt cl fr ws g H0) (hx : ∀ y c, cl.lookup y = some c → c ∉ ex) (u : Un fs ex H0 H g h) : CellsAt cl fr ws h H := by
  have kc : ∀ y c, cl.lookup y = some c → ∀ v, g.IsCell c v → h.IsCell c v := fun y c e v ⟨o, ho, hd⟩ => by
    obtain ⟨sl, z⟩ := u.any ho (C.all y c e).1 (hx y c e)
    exact ⟨_, z, hd⟩
  refine ⟨C.len, fun y c e => ?_, C.inj, fun i y e => ?_⟩
  · obtain ⟨n, v, z⟩ := C.all y c e
    refine ⟨?_, v, kc y c e v z⟩
    obtain ⟨o, ho, _⟩ := z
    exact u.free c o ho n (hx y c e)
  · obtain ⟨c, hc, hv⟩ := C.has i y e
    refine ⟨c, hc, fun v ev => ?_⟩
    obtain ⟨x, r, z⟩ := hv v ev
    exact ⟨x, r, kc y c hc _ z⟩
theorem takes_len {Z : Cx} {W : WX} (tk : L2.Takes Z W) : L2.Takes Z (fun cls d σ H => σ.length = Z.N.length → W cls d σ H) := fun u s1 x => by
  obtain ⟨a, B, sI, q, σ, H, cls, d, e, J, nb, up, sky, na, os, ag, wsh⟩ := x
  exact tk u s1 ⟨a, B, sI, q, σ, H, cls, d, e, J, nb, up, sky, na, os, ag, wsh J.len⟩
/-- x(), x a name of the running def that holds the lambda -/
theorem pe_ask {Z : Cx} {f : Addr} {F : LF} {fr : List Str} {ws : List (Option V)} {sp : List (Option V) → Hp → VK → XK → Prop} {k j i : Nat} {x : Str} {W : WX} {p1 p2 : Pos} (lo : LOk Z.prog Z.w Z.K Z.mg Z.base (L2.CX Z.prog Z.w) k f F fr sp) (C : CellsAt F.cl fr ws Z.s_0.heap Z.H_0) (hx : Z.ex = []) {m : Nat} (hm : Z.N.length = m)
    (room : Room j Z.A) (hk : k ≤ j) (tk : L2.Takes Z W) (hN : Z.N[i]? = some x) (hv : Vis Z.env.scope x) (hd : (x == ("__debug__" : Str)) = false := by decide) (hcd : (x == ("__classdict__" : Str)) = false := by decide) :
    PE Z (.Call (.Name x p1) [] [] p2) (fun σ H Q => ∃ E : XK, (∀ cls d σ' H', E cls d H' → σ'.length = m → W cls d σ' H') ∧ σ[i]? = some (some (.ref f)) ∧ H f = some (LamO f F) ∧ H F.c = some (CodeO F.c F.qual) ∧ sp ws H Q E) := by
  refine ⟨fun pins s σ H Q J h => ?_⟩
  subst hm
  obtain ⟨E, hW, hs, hf, hc, q⟩ := h
  refine wpAny_Call_Name_kw (thn ((pe_var (pos := p1) (i := i) hN hv hd hcd).run pins s σ H (fun v H1 => v = .ref f ∧ H1 = H) J ⟨.ref f, hs, rfl, rfl⟩) fun u s1 ⟨v, H1, J1, r1, q1⟩ => ?_)
  obtain ⟨ev, eH⟩ := q1
  subst ev
  rw [eH] at J1
  obtain rfl : u = Value.ref f := r1
  obtain ⟨pm, ctv, hob⟩ := lamO_at J1.hok hf
  refine PySem.W.callWith_F0 ⟨_, _, _, _, hob⟩ ?_
  have C1 := cells_kept C (fun y c _ => by rw [hx]; simp) J1.base
  refine wpAny_call (codeAny_mono (lo.run Z.A Z.stack s1 H ws Q E (room.mono hk) J1.env0 hf hc C1 q) fun r s2 hq => ?_)
  rcases r with e | fl
  · exact L2.passes_call (takes_len tk) hW pins σ H s1 e s2 J1 hq
  · cases fl
    all_goals first | exact J1.after hq | exact False.elim hq
end LamT

/-! a list comprehension without tests whose element is told of the state in which the block began -/
namespace LamT
open PySem PySem.Spec PyProof.Rows L2 LamX NdefX
section
variable {X : Cx}
theorem pe_lcS {elt tg iter : Expr} {scope : Scope} {own : List (Str × Nat)} {pos : Pos} {wi : TI} {g : TG} {te : L2.St → TE} (calm : X.calm = true) (nd : X.N.Nodup) (hi : PI X tg iter wi) (ok : BlkOk X.N X.env.scope scope own)
    (hg : ∀ (s : Shared) (H : Hp) (C : Addr) (cl : List (Str × Addr)) (fp : List Addr), PG (X.blk s H scope (compEnvC scope cl C X.env) fp) tg g)
    (he : ∀ (pins : List (Addr × Obj)) (σ : L2.St) (s : Shared) (H : Hp) (C : Addr) (cl : List (Str × Addr)) (fp : List Addr), Inv X pins σ H s → (∀ b ∈ fp, FpOk X pins H b) → PE (X.blk s H scope (compEnvC scope cl C X.env) fp) elt (te σ))
    (hs : ∀ x, foldedSetIterable iter X.env x = pure x := by intro _; rfl) :
    PE X (.ListComp elt [⟨tg, iter, [], 0⟩] scope pos) (fun σ H Q => tLc wi g tYes (te σ) (own.map (·.2)) σ H Q) := by
  refine ⟨fun pins sA σ H Q IA h => ?_⟩
  rw [eval_ListComp]
  have cap : ∀ y ∈ scope.names, y.2 = .free → ∃ c, X.env.cells.lookup y.1 = some c := fun y hy e => (ok.free y hy e).elim (fun k => IA.ok.has _ (.inl k)) fun k => IA.ok.has _ (.inr k)
  refine wpAny_comprehension_free (use := none) rfl hs (closure_ok cap) ok.kind (fun y hy e => (ok.uniq y hy).trans (by rw [e])) (thn (hi.run pins sA σ H _ IA h) fun xv sB hB => thn hB fun iv sC hC => ?_)
  obtain ⟨it, fp, tn, Jt, HC, e, IC, T, stC, fC, q⟩ := hC
  subst e
  refine wpAny_newObj_type (newEnv_comp ?_) (by show 0 ≤ sizeLine; decide)
  obtain ⟨D, hD⟩ : ∃ D, sC.heap.objs.size = D := ⟨_, rfl⟩
  rw [hD]
  have nD : HC D = none := IC.hok.fresh (Nat.le_of_eq hD)
  obtain ⟨W, ⟨m0, w0⟩, turn⟩ := q D nD
  obtain ⟨sD, eD⟩ : ∃ sD : Shared, ({ sC with heap := sC.heap.push { cls := .type "list", data := .seq ([] : List Value).toArray } } : Shared) = sD := ⟨_, rfl⟩
  rw [eD]
  have hpD : sD.heap = sC.heap.push { cls := .type "list", data := .seq ([] : List Value).toArray } := by rw [← eD]
  have ID : Inv X pins σ (upd HC D (.lst [])) sD := by
    rw [← eD]
    refine IC.laid (t' := sC.toks) (fun b o z => Heap.get?_push_of_some _ z) (Nat.le_of_eq hD) ⟨Nat.zero_le _, [], 0, .nil, ?_⟩
    have z : (sC.heap.push { cls := .type "list", data := .seq ([] : List Value).toArray }).get? sC.heap.objs.size = some { cls := .type "list", data := .seq ([] : List Value).toArray } := Heap.get?_push_size _ rfl
    rw [hD] at z
    exact z
  have below : ∀ b ∈ fp, b < sC.heap.objs.size := fun b hb => by
    obtain ⟨o, z, _⟩ := T.obj _ _ stC b hb
    exact Heap.lt_size z
  have fD : ∀ b ∈ fp, FpOk X pins (upd HC D (.lst [])) b ∧ b < sD.heap.objs.size := fun b hb => by
    have lt := below b hb
    have bD : b ≠ D := fun z => Nat.lt_irrefl D (by rw [z, hD] at lt; exact lt)
    refine ⟨⟨?_, (fC b hb).2⟩, ?_⟩
    · rw [upd_ne bD]
      exact (fC b hb).1
    · rw [hpD, Heap.size_push]
      exact Nat.lt_succ_of_lt lt
  have stD : tn 0 sD.heap := T.keep _ _ _ stC fun b _ o z => by
    rw [hpD]
    exact Heap.get?_push_of_some _ z
  have IE := block_start ID ok nd fD
  have pg := hg sD (upd HC D (.lst [])) sD.heap.objs.size (cellsFrom (sD.heap.objs.size + 1) scope.names (cloFrom X.env.cells scope.names [])) fp
  have pe := he pins σ sD (upd HC D (.lst [])) sD.heap.objs.size (cellsFrom (sD.heap.objs.size + 1) scope.names (cloFrom X.env.cells scope.names [])) fp ID fun b hb => (fD b hb).1
  have freeP : ∀ b ∈ fp, (upd HC D (.lst [])) b = none := fun b hb => (fD b hb).1.1
  have last : ∀ s' m H', Inv X pins σ H' s' → Q (.ref D) H' → s'.heap.Ns sD.heap.objs.size m → FpOk X pins H' sD.heap.objs.size → compPost (model X.prog X.w) X.A X.xe none (EP X pins σ Q) (.ref D) sD.heap.objs.size (.ok .next) s' := fun s' m H' I' q' hn ⟨f0, f1, _, f3, f4, f5⟩ =>
    ⟨m, hn, fun g1 sb => ⟨.ref D, H', I'.turned (t' := s'.toks) (fun b o hb z => (sb.2 b hb).trans z) f0 f1 f3 f4 f5, rfl, q'⟩⟩
  show codeAny _ _ (.compStart (.ListComp elt [⟨tg, iter, [], 0⟩] scope pos) 0 (.ref it) (.ref D) (compEnvC scope (cellsFrom (sD.heap.objs.size + 1) scope.names (cloFrom X.env.cells scope.names [])) sD.heap.objs.size X.env)) (compPost (model X.prog X.w) X.A X.xe none (EP X pins σ Q) (.ref D) sD.heap.objs.size) { sD with heap := pushCells (sD.heap.push { cls := .type "dict", data := .dict #[] }) scope.names }
  generalize hce : compEnvC scope (cellsFrom (sD.heap.objs.size + 1) scope.names (cloFrom X.env.cells scope.names [])) sD.heap.objs.size X.env = ce at IE pg pe ⊢
  have cL : ce.locals = sD.heap.objs.size := by
    subst hce
    rfl
  generalize hHD : upd HC D (.lst []) = HD at ID IE pg pe w0 freeP fD
  generalize hsE : ({ sD with heap := pushCells (sD.heap.push { cls := .type "dict", data := .dict #[] }) scope.names } : Shared) = sE at IE ⊢
  have stE : tn 0 sE.heap := T.keep _ _ _ stD fun b _ o z => by
    rw [← hsE]
    exact pushCells_keeps _ _ _ _ (Heap.get?_push_of_some _ z)
  have apart : ∀ {σ' : L2.St} {H' : Hp} {s' : Shared}, Inv (X.blk sD HD scope ce fp) [] σ' H' s' → (∀ b ∈ fp, H' b = none) → ∀ b ∈ fp, FpOk (X.blk sD HD scope ce fp) [] H' b := fun {σ' H' s'} I' hn b hb =>
    ⟨hn b hb, (I'.ok.exf b hb).1, I'.ok.exfs b hb, .inl hb, fun x c z => (I'.ok.exf b hb).2 x c z, fun p hp => nomatch (show p ∈ ([] : List (Addr × Obj)) from hp)⟩
  have loop : codeAny (model X.prog X.w) X.A (.compLoop (.ListComp elt [⟨tg, iter, [], 0⟩] scope pos) 0 (.ref it) (.ref D) ce) (compPost (model X.prog X.w) X.A X.xe none (EP X pins σ Q) (.ref D) sD.heap.objs.size) sE := by
    refine compLoop_any (fun n s' => ∃ i H', Inv (X.blk sD HD scope ce fp) [] (wipe σ (own.map (·.2))) H' s' ∧ tn i s'.heap ∧ (∀ b ∈ fp, H' b = none) ∧ W i n H') ?_ m0 ⟨0, HD, IE, stE, freeP, w0⟩
    rintro n s5 ⟨i, H5, I5, st5, n5, w5⟩
    rcases turn i n H5 w5 with ⟨stop, fine⟩ | ⟨go, Nx, hNx, step⟩
    · refine thnF (T.done (X.blk sD HD scope ce fp) rfl rfl rfl calm i [] s5 _ H5 (fun _ _ => False) I5 (apart I5 n5) st5 stop) fun r s6 ⟨hr, I6⟩ => ?_
      subst hr
      have I7 : Inv X pins σ H5 s6 := ID.call' (ch := fp) I6.os I6.base I6.hok I6.bare fun b hb => by
        obtain ⟨_, a1, _, a3, a4, a5⟩ := (fD b hb).1
        exact ⟨a3, a1, a4, a5⟩
      have nC : H5 sD.heap.objs.size = none := by
        rw [← cL]
        exact I6.free
      obtain ⟨m, hn, _⟩ := I6.loc
      have hn : s6.heap.Ns sD.heap.objs.size m := by
        rw [← cL]
        exact hn
      exact last s6 m H5 I7 fine hn (ID.fpOk (Nat.le_refl _) nC)
    · refine thnF (T.item (X.blk sD HD scope ce fp) rfl rfl rfl calm i [] s5 _ H5 (fun _ _ => False) I5 (apart I5 n5) st5 go) fun r s6 ⟨u, hr, h6⟩ => ?_
      subst hr
      refine thnF h6 fun _ s7 ⟨x, H7, I7, r7, y7, st7, n7⟩ => ?_
      refine thnF (pg.run _ s7 _ H7 x u _ (I7.pinned (apart I7 n7) (T.obj _ _ st7)) r7 (step x H7 y7)) fun _ s8 ⟨σ8, H8, I8, hw8, q8⟩ => ?_
      refine thnF ((pts_nil (X := X.blk sD HD scope ce fp)).run _ s8 σ8 H8 _ I8 q8) fun b s9 ⟨H9, I9, q9⟩ => ?_
      have fin : ∀ {s' : Shared} {H' : Hp}, Inv (X.blk sD HD scope ce fp) ([] ++ pinsAt fp s7.heap) σ8 H' s' → Nx H' → ∃ m, m < n ∧ ∃ i H', Inv (X.blk sD HD scope ce fp) [] (wipe σ (own.map (·.2))) H' s' ∧ tn i s'.heap ∧ (∀ b ∈ fp, H' b = none) ∧ W i m H' := fun {s' H'} I' nx => by
        obtain ⟨m', hm, w'⟩ := hNx H' nx
        have held : ∀ b ∈ fp, ∀ o, s7.heap.get? b = some o → s'.heap.get? b = some o ∧ H' b = none := fun b hb o z => by
          obtain ⟨z1, z2, _⟩ := I'.pin (b, o) (List.mem_append_right _ (List.mem_append_right _ (mem_pinsAt hb z)))
          exact ⟨z1, z2⟩
        refine ⟨m', hm, i + 1, H', (I'.unpinned (pins := [])).weak (by rw [← hw8, wipe_length]) (fun j v z => ?_), T.keep _ _ _ st7 fun b hb o z => (held b hb o z).1, fun b hb => ?_, w'⟩
        · rw [← hw8] at z
          exact (wipe_some z).1
        · obtain ⟨o, z, _⟩ := T.obj _ _ st7 b hb
          exact (held b hb o z).2
      cases b
      · simp only [Bool.false_eq_true, if_false] at q9 ⊢
        exact fin I9 q9
      · simp only [if_true] at q9 ⊢
        refine thnF (pe.run _ s9 σ8 H9 _ I9 q9) fun z s10 ⟨yv, H10, I10, r10, acc, hD10, hz10, nx⟩ => ?_
        exact app_ok (X := X.blk sD HD scope ce fp) I10 hD10 hz10 r10 fun s11 I11 => fin I11 nx
  exact codeAny_compStart_list loop (T.self X.A 0 _ _ _ stE loop)
end
end LamT

namespace LamT
open PySem PySem.Spec PyProof.Rows L2 LamX NdefX
/-! ### except x as n, where further clauses follow: only exceptions that the first clause takes -/
def wAsM (K : PySem.W.Frag) (c : Value) (i : Nat) (ts : Addr → Value → Option Addr → TS) (D : Ends) : WX := fun cls d σ H => PySem.W.exmOne K cls c = some true ∧
  ∀ a, H a = none → ts a cls d ⟨fun σ' H' => D.nx (σ'.set i none) H', D.rt, fun σ' H' => D.bk (σ'.set i none) H', fun σ' H' => D.ct (σ'.set i none) H'⟩ (σ.set i (some (.ref a))) H
section
variable {X : Cx} {x n : Str} {c : Value} {i : Nat} {body suite : List Stmt} {b₀ : Stmt} {hds : List ExceptHandler} {np pos pos' : Pos} {tb : WX → TS} {ts : Addr → Value → Option Addr → TS}
theorem ps_try_asM (est : X.stack = X.env :: X.outer) (efr : X.env.frame = some X.env.locals) (nd : X.N.Nodup) (hi : X.N[i]? = some n) (loc : X.env.kindOf n = some .local) (nam : Names X x c)
    (hb : ∀ (W : WX) (pn : List (Addr × Obj)) (xe : Value → Shared → Prop), L2.Takes (X.tr pn xe) W → PassesOwn (model X.prog X.w) X.A X.env xe → PSs (X.tr pn xe) body (tb W))
    (hsu : ∀ (a : Addr) (oe : Obj) (cls : Value) (d : Option Addr) (pn : List (Addr × Obj)), Zc cls d oe → (∃ vs, oe.data = .fields vs) → PSs (X.suite a ((a, oe) :: pn)) (b₀ :: suite) (ts a cls d)) :
    PS X (.Try body (.ExceptHandler (some (.Name x np)) (some n) (b₀ :: suite) pos' :: hds) [] [] pos) (fun D σ H => tb (wAsM X.K c i ts D) D σ H) := by
  refine ⟨fun pins s σ H D I h => ?_⟩
  have ok := I.ok
  have fr0 : X.A.frames = some (X.env :: X.outer) := ok.frames.trans (by rw [est])
  refine wpAny_Try_except ?_
  refine wpAny_mono ((hb (wAsM X.K c i ts D) (X.pn ++ pins) (fun e s1 => wpAny (model X.prog X.w) X.A (noteFrame e X.env) (fun _ s2 => wpAny (model X.prog X.w) X.A (setFlight e none) (fun _ s3 => wpAny (model X.prog X.w) X.A (handleBy e X.env (.ExceptHandler (some (.Name x np)) (some n) (b₀ :: suite) pos' :: hds)) (SP X pins D) X.xe s3) X.xe s2) X.xe s1)
    (fun u s1 xx => ?_) PassesOwn.looking).run [] s σ H D (I.toTry _) h) (fun f s1 sp => ?_) (fun e s1 z => z)
  · obtain ⟨a, B, sI, pins1, σ1, H1, cls, d, rfl, J1, nb, up, sky, na, os, ag, yes, read⟩ := xx
    have J : Inv X pins σ1 H1 sI := J1.ofTry ok
    have sky1 : Sky B (X.env :: X.outer) a (Zc cls d) X.env.locals s1.heap := est ▸ sky
    show wpAny (model X.prog X.w) X.A (noteFrame (.ref a) X.env) _ _ _
    refine Sky.land Zc.steady fr0 efr sky1 fun g3 fl3 up3 => ?_
    have J3 : Inv X pins σ1 H1 { s1 with heap := g3 } := J.landed nb fl3.1 (up.trans up3) os ag
    obtain ⟨o3, v3, got3, z3, dat3⟩ := fl3.there
    have off : a ∉ frs (X.env :: X.outer) := fun hm => by
      obtain ⟨_, o', e', hnf⟩ := fl3.2.2.1.mem hm
      rw [got3] at e'
      cases e'
      exact hnf _ dat3
    have nL : a ≠ X.env.locals := fun z => off (List.mem_filterMap.mpr ⟨X.env, List.mem_cons_self, efr.trans (by rw [z])⟩)
    have nF : a ∉ X.fs := fun hm => by
      obtain ⟨e, he, q⟩ := List.mem_filterMap.mp hm
      exact off (List.mem_filterMap.mpr ⟨e, List.mem_cons_of_mem _ he, q⟩)
    have S3 := J3.suite got3 dat3 na nL nF
    refine wpAny_handleBy_cons (codeAny_handlers_test ?_) (by intro q; cases q)
    have look : PySem.W.Looks (model X.prog X.w) g3 (typeOf (.ref a)) cls := fun A Q E s k q => wpAny_typeOf_ref (k _ _ got3) (by rw [z3.1]; exact q)
    have match_ := PySem.W.exm_one (M := model X.prog X.w) (J3.kIn) look yes
    have name_ : ∀ {Q E : Value → Shared → Prop}, Q c { s1 with heap := g3 } → wpAny (model X.prog X.w) (X.A.mark (some (.ref a))) (eval (.Name x np) X.env) Q E { s1 with heap := g3 } := fun {Q E} q => by
      obtain ⟨hg, hdbg, hm | ⟨hm, hv, hnn⟩⟩ := nam
      · exact ld_glob (X := X.suite a ((a, o3) :: (X.pn ++ pins))) S3 hg hm q hdbg
      · exact ld_blt (X := X.suite a ((a, o3) :: (X.pn ++ pins))) S3 hg hm hv q hnn hdbg
    refine name_ (match_.here (codeAny_handlers_suite_as (HandSPX.lands_againZ fl3 fun g4 fl4 up4 => ?_)))
    have J4 : Inv X pins σ1 H1 { s1 with heap := g4 } := J.landed nb fl4.1 ((up.trans up3).trans up4) os ag
    obtain ⟨o4, v4, got4, z4, dat4⟩ := fl4.there
    refine store_ok (X := X.suite a ((a, o4) :: (X.pn ++ pins))) (v := .ref a) (J4.suite got4 dat4 na nL nF) nd hi (.inl loc) rfl (fun s5 S5 => ?_) (.inr loc)
    refine wpAny_mono ((hsu a o4 cls d (X.pn ++ pins) z4 ⟨_, dat4⟩).run [] s5 _ H1 _ S5 (read a na)) (fun f s6 sp => ?_) (fun _ _ z => z.elim)
    have gone : ∀ {σ6 : L2.St} {H6 : Hp} {Q : Shared → Prop}, Inv (X.suite a ((a, o4) :: (X.pn ++ pins))) [] σ6 H6 s6 → (∀ s7, Inv X pins (σ6.set i none) H6 s7 → Q s7) → wpAny (model X.prog X.w) X.A (do bindName X.env n .none; unbindBehindTheSuite X.env n pos') (fun _ s7 => Q s7) X.xe s6 :=
      fun {σ6 H6 Q} S6 hq => gone_ok (S6.unsuite ok) nd hi loc hq
    cases f
    case ret u =>
      obtain ⟨v6, σ6, H6, S6, r6, q6⟩ := sp
      exact gone S6 fun s7 J7 => ⟨_, _, _, J7, r6, q6⟩
    all_goals
      obtain ⟨σ6, H6, S6, q6⟩ := sp
      exact gone S6 fun s7 J7 => ⟨_, _, J7, q6⟩
  · cases f
    case ret u =>
      obtain ⟨v, σ1, H1, J1, r, q⟩ := sp
      exact ⟨v, σ1, H1, J1.ofTry ok, r, q⟩
    case next =>
      obtain ⟨σ1, H1, J1, q⟩ := sp
      exact wpAny_execs_nil ⟨σ1, H1, J1.ofTry ok, q⟩
    all_goals
      obtain ⟨σ1, H1, J1, q⟩ := sp
      exact ⟨σ1, H1, J1.ofTry ok, q⟩
end
/-! ### isinstance(e, (C1, C2, ..)), e the exception that the suite holds, with a dict of its own -/
def rIsET (K : PySem.W.Frag) (D a : Addr) (cls : Value) (d : Option Addr) : List V → Hp → VK → Prop := fun xs H Q => ∃ (dx tp : Addr) (cs : List V) (us : List Value) (b : Bool) (fs : List (Str × V)), cls = .ref D ∧ d = some dx ∧ xs = [.ref a, .ref tp] ∧ H tp = some (.tup cs) ∧ Paired ClsV cs us ∧ H dx = some (.xd fs) ∧ PySem.W.kitAny K (.ref D) us = some b ∧ Q (.bl b) H
theorem call_isET {X : Cx} {a D : Addr} {cls : Value} {d : Option Addr} {oe : Obj} {pn : List (Addr × Obj)} (C : ExcC X.K D) (hz : Zc cls d oe) (hf : ∃ vs, oe.data = .fields vs) : CallR (X.suite a ((a, oe) :: pn)) (.builtin "isinstance") (rIsET X.K D a cls d) := by
  intro pins s σ H xs us Q I r h
  obtain ⟨dx, tp, cs, ws, b, fs, rfl, rfl, rfl, hT, k, hdx, e, q⟩ := h
  obtain ⟨u1, u2, rfl, r1, r2⟩ := vals2 r
  cases (show u1 = Value.ref a from r1)
  cases (show u2 = Value.ref tp from r2)
  obtain ⟨got, _⟩ := I.pin (a, oe) (List.mem_append.mpr (.inl List.mem_cons_self))
  obtain ⟨vs, hv⟩ := hf
  obtain ⟨mA, ns, _⟩ := I.hok dx _ hdx
  obtain ⟨od, hod⟩ : ∃ od, s.heap.get? dx = some od := by
    obtain ⟨ob, _, _, there, _⟩ := ns
    exact ⟨ob, there⟩
  have J : PySem.W.InstAt s.heap a oe D (some od) := by
    obtain ⟨oc, odc, oda, osl⟩ := oe
    obtain ⟨h1, h2⟩ := hz
    dsimp only at h1 h2 hv
    subst h1 h2 hv
    exact ⟨got, rfl, rfl, hod⟩
  obtain ⟨_, its, rv, o, h1, h2, n, h3⟩ := (show ObjOk X.prog X.w H s.heap tp (.tup cs) from I.hok tp _ hT)
  have e3 := ClsV.all k rv
  subst e3
  obtain ⟨oc, ocd, dt, sl⟩ := o
  simp only at h2 h3
  subst h2 h3
  have cls : (PySem.W.clsIn X.K D).isSome = true := by
    obtain ⟨cd, hc, _⟩ := PySem.W.any_some C.hd
    rw [hc] <;> rfl
  exact PySem.W.kia_tup (PySem.W.kitx_exc (ox := oe) (od := some od) cls C.hg C.hk C.hs C.ha C.hn C.ht C.hm) I.kIn J h1 e (fun z => nomatch z) fun tk => ⟨.bl b, H, I.tok tk, rfl, q⟩
end LamT

namespace LamT
open PySem PySem.Spec PyProof.Rows L2 LamX NdefX
/-! ### a def of one parameter that calls what it got, at once -/
/-- R: what it makes of the lambda's reading in the heap in which it is called -/
structure GOk (P : Program) (w : World) (K : PySem.W.Frag) (mg : Str → Option Value) (base : Heap) (k j : Nat) (g : Addr) (fd : FuncData) (a : Str) (R : (VK → XK → Prop) → Hp → VK → Prop) : Prop where
  run : ∀ (A : Around) (outer : List Env) (s : Shared) (H : Hp) (args : Args) (f : Addr) (F : LF) (fr : List Str) (ws : List (Option V)) (sp : List (Option V) → Hp → VK → XK → Prop) (Q : VK), Room k A → Env0 P w K mg base A outer s H → BindsTo s fd args [(a, .ref f)] →
    LOk P w K mg base (L2.CX P w) j f F fr sp → H f = some (LamO f F) → H F.c = some (CodeO F.c F.qual) → CellsAt F.cl fr ws s.heap H → R (fun Q' E => sp ws H Q' E) H Q → codeAny (model P w) A (.call (.ref g) args) (CR _root_.L2.CX0 outer P w H s Q _root_.L2.E0) s
section
variable {P : Program} {w : World} {K : PySem.W.Frag} {mg : Str → Option Value} {base : Heap} {k j : Nat} {g : Addr} {fd : FuncData} {a : Str} {R : (VK → XK → Prop) → Hp → VK → Prop}
theorem g_of {x qual : Str} {st : Stmt} {N : List Str} (F : L2.Fun K x qual st g fd) (S : FnScope N [a] (defScope st))
    (hbody : ∀ (cdv : Value) (A : Around) (outer : List Env) (s : Shared) (H : Hp) (f : Addr) (F : LF) (fr : List Str) (ws : List (Option V)) (sp : List (Option V) → Hp → VK → XK → Prop) (Q : VK), Room k (A.deeper (envOfC qual (defScope st) s.heap.objs.size g cdv)) →
      LOk P w K mg base (L2.CX P w) j f F fr sp → H f = some (LamO f F) → H F.c = some (CodeO F.c F.qual) → CellsAt F.cl fr ws s.heap H → R (fun Q' E => sp ws H Q' E) H Q →
      ∃ t, PSs (cxOf L2.CX0 P w K mg base N qual (defScope st) g cdv A outer s H L2.E0).nox (defBody st) t ∧ t { nx := fun _ H' => Q .non H', rt := Q } (L2.start N [.ref f]) H) :
    GOk P w K mg base (k + 1) j g fd a R := by
  obtain ⟨oc, od, kV, doc, pm, an, cdv, ct, osl, rfl, lk, hcd⟩ := F.ex
  refine ⟨fun A outer s H args f F fr ws sp Q room e0 hb lo hf hc C q => ?_⟩
  refine run_ofS (CX := L2.CX0) (E := L2.E0) (ps := [a]) (us := [.ref f]) (vs := [.ref f]) lk hcd S room e0 hb (.cons rfl .nil) rfl fun r1 => ?_
  obtain ⟨t, h1, h2⟩ := hbody cdv A outer s H f F fr ws sp Q r1 lo hf hc C q
  exact ⟨t, h1.nox, h2⟩
end
/-- what is asked of the lambda -/
def tGive (X : Cx) (j : Nat) (te : TE) (R : (VK → XK → Prop) → Hp → VK → Prop) (old : L2.St → L2.St) : TE := fun σ H Q => tCons te tNil σ H fun vs H1 => ∃ (f : Addr) (F : LF) (fr : List Str) (js : List Nat) (sp : List (Option V) → Hp → VK → XK → Prop), vs = [.ref f] ∧ H1 f = some (LamO f F) ∧ H1 F.c = some (CodeO F.c F.qual) ∧
      (X.Ok → Caps X F.cl fr js) ∧ LOk X.prog X.w X.K X.mg X.base (L2.CX X.prog X.w) j f F fr sp ∧ R (fun Q' E => sp (js.map (slotAt (old σ))) H1 Q' E) H1 Q
/-- x(e), e a kept lambda of the frame X; Y: where the call stands (X itself, or a block in it) -/
theorem pe_give {X Y : Cx} {k j : Nat} {g : Addr} {fd : FuncData} {x a : Str} {R : (VK → XK → Prop) → Hp → VK → Prop} {e : Expr} {te : TE} {p pos : Pos} {old : L2.St → L2.St} (G : GOk Y.prog Y.w Y.K Y.mg Y.base k j g fd a R) (hg : Gl Y x) (hm : Y.mg x = some (.ref g)) (hkp : PySem.W.keepIn Y.K (.ref g) = true) (hb : Binds Y.K fd [a] []) (room : Room k Y.A)
    (eP : X.prog = Y.prog ∧ X.w = Y.w ∧ X.K = Y.K ∧ X.mg = Y.mg ∧ X.base = Y.base)
    (hC : ∀ (pins : List (Addr × Obj)) (σ : L2.St) (H : Hp) (s : Shared), Inv Y pins σ H s → ∀ (cl : List (Str × Addr)) (fr : List Str) (js : List Nat), (X.Ok → Caps X cl fr js) → CellsAt cl fr (js.map (slotAt (old σ))) s.heap H)
    (he : PE Y e te) (hdb : (x == ("__debug__" : Str)) = false := by decide) (hst : starEach [e] Y.env = (false, eval e Y.env) :: starEach [] Y.env := by rfl) (hpl : (backTo pos (starEach [] Y.env)).any (·.1) = false := by rfl) :
    PE Y (.Call (.Name x p) [e] [] pos) (tGive X j te R old) := by
  refine ⟨fun pins s σ H Q I h => ?_⟩
  refine wpAny_Call_Name_kw (ld_glob I hg hm ?_ hdb)
  refine PySem.W.callWith_K (h₀ := Y.base) I.ok.mod.kin hkp (thn ((pa_cons he pa_nil hst).run pos pins s σ H _ I h) fun us s1 ⟨vs, H1, I1, r, q⟩ => ⟨I1.kIn, ?_⟩) hst hpl
  obtain ⟨f, F, fr, js, sp, rfl, hf, hc, cp, lo, q⟩ := q
  obtain ⟨a1, a2, a3, a4, a5⟩ := eP
  rw [a1, a2, a3, a4, a5] at lo
  cases r with
  | cons r1 r2 =>
    cases r2
    cases (show _ = Value.ref f from r1)
    refine wpAny_call (codeAny_mono (G.run Y.A Y.stack s1 H1 _ f F fr _ sp Q room I1.env0 (hb s1 [.ref f] I1.kIn rfl) lo hf hc (hC pins σ H1 s1 I1 F.cl fr js cp) q) fun r s2 hq => ?_)
    rcases r with e | fl
    · exact False.elim hq
    · cases fl
      all_goals first | exact I1.after hq | exact False.elim hq
/-- the call stands in the frame itself -/
theorem cells_here {X : Cx} {pins : List (Addr × Obj)} {σ : L2.St} {H : Hp} {s : Shared} (I : Inv X pins σ H s) (cl : List (Str × Addr)) (fr : List Str) (js : List Nat) (c : X.Ok → Caps X cl fr js) : CellsAt cl fr (js.map (slotAt σ)) s.heap H := cells_of I (c I.ok)
/-- .. in a block that began at s0 -/
theorem cells_blk {X : Cx} {pins pins' : List (Addr × Obj)} {σ0 σ : L2.St} {H0 H : Hp} {s0 s : Shared} {scope : Scope} {ce : Env} {fp : List Addr} (I0 : Inv X pins σ0 H0 s0) (hfp : ∀ b ∈ fp, FpOk X pins H0 b) (I : Inv (X.blk s0 H0 scope ce fp) pins' σ H s)
    (cl : List (Str × Addr)) (fr : List Str) (js : List Nat) (c : X.Ok → Caps X cl fr js) : CellsAt cl fr (js.map (slotAt σ0)) s.heap H := by
  have cc := c I0.ok
  refine cells_kept (cells_of I0 cc) (fun y b e hb => ?_) I.base
  exact (hfp b hb).2.2.2.2.1 y b (cc.sub y b e) rfl
end LamT

namespace LamT
open PySem PySem.Spec PyProof.Rows L2 LamX NdefX
section
variable {P : Program} {w : World} {K : PySem.W.Frag} {mg : Str → Option Value} {base : Heap}
/-- a def by its body, where its code object is known -/
theorem okC {x qual : Str} {st : Stmt} {f c : Addr} {fd : FuncData} {N ps : List Str} {k : Nat} {sp : Sp} (F : L2.Fun K x qual st f fd) (hc : fd.code = .ref c) (S : FnScope N ps (defScope st)) (len : ∀ vs H Q E, sp vs H Q E → vs.length = ps.length)
    (hbody : ∀ (A : Around) (outer : List Env) (s : Shared) (H : Hp) (vs : List V) (Q : VK) (E : XK), Room k (A.deeper (envOfC qual (defScope st) s.heap.objs.size f (.ref c))) → sp vs H Q E →
      ∃ t, PSs (cxOf L2.CX0 P w K mg base N qual (defScope st) f (.ref c) A outer s H E).nox (defBody st) t ∧ t { nx := fun _ H' => Q .non H', rt := Q } (L2.start N vs) H) : FnOk P w K mg base L2.CX0 (k + 1) f fd ps sp := by
  obtain ⟨oc, od, kV, doc, pm, an, cdv, ct, osl, rfl, lk, hcd⟩ := F.ex
  have e : cdv = .ref c := hc
  subst e
  refine fn_of lk hcd S len fun A outer s H vs Q E room q => ?_
  obtain ⟨t, h1, h2⟩ := hbody A outer s H vs Q E room q
  exact ⟨t, h1.nox, h2⟩
/-- lambda: x(y), x a def that may raise, y captured -/
theorem lok1 {F : LF} {f g : Addr} {fd : FuncData} {x y a : Str} {sp : Sp} {k : Nat} {p1 p2 p3 : Pos} (G : FnOk P w K mg base (L2.CX P w) k g fd [a] sp) (hm : mg x = some (.ref g)) (kp : PySem.W.keepIn K (.ref g) = true) (B : Binds K fd [a] [])
    (hb : F.body = .Call (.Name x p1) [.Name y p2] [] p3) {sc : Scope} (hs : F.scope = sc) (S : NScope [y] [] [y] sc) (hx : sc.names.lookup x = some .globalImplicit) (hbind : ∀ pm ctv : Value, bindArgs (PySem.W.kla_fn "<lambda>" F.qual F.params F.body F.scope F.cl pm (.ref F.c) ctv) ⟨[], []⟩ = pure [])
    (dx : (x == ("__debug__" : Str)) = false) (dy : (y == ("__debug__" : Str)) = false) (cy : (y == ("__classdict__" : Str)) = false) :
    LOk P w K mg base (L2.CX P w) (k + 1) f F [y] (fun ws H Q E => ∃ v, ws = [some v] ∧ sp [v] H Q E) := by
  subst hs
  refine lok_of S hbind fun A outer s H ws Q E room len q => ?_
  obtain ⟨v, rfl, q⟩ := q
  rw [hb]
  refine ⟨_, pe_call (CX := L2.CX P w) (E := E) G room hx hm kp B .nil (passes_call (takes_of rfl rfl rfl rfl) (fun _ _ _ _ h => h)) (pa_cons (pe_var (i := 0) rfl (.inr (.inr (S.frk y List.mem_cons_self))) dy cy) pa_nil) dx, ?_⟩
  exact ⟨v, rfl, q⟩
/-- lambda: x(y, z) -/
theorem lok2 {F : LF} {f g : Addr} {fd : FuncData} {x y z a b : Str} {sp : Sp} {k : Nat} {p1 p2 p3 p4 : Pos} (G : FnOk P w K mg base (L2.CX P w) k g fd [a, b] sp) (hm : mg x = some (.ref g)) (kp : PySem.W.keepIn K (.ref g) = true) (B : Binds K fd [a, b] [])
    (hb : F.body = .Call (.Name x p1) [.Name y p2, .Name z p4] [] p3) {sc : Scope} (hs : F.scope = sc) (S : NScope [y, z] [] [y, z] sc) (hx : sc.names.lookup x = some .globalImplicit) (hbind : ∀ pm ctv : Value, bindArgs (PySem.W.kla_fn "<lambda>" F.qual F.params F.body F.scope F.cl pm (.ref F.c) ctv) ⟨[], []⟩ = pure [])
    (dx : (x == ("__debug__" : Str)) = false) (dy : (y == ("__debug__" : Str)) = false) (cy : (y == ("__classdict__" : Str)) = false) (dz : (z == ("__debug__" : Str)) = false) (cz : (z == ("__classdict__" : Str)) = false) :
    LOk P w K mg base (L2.CX P w) (k + 1) f F [y, z] (fun ws H Q E => ∃ v u, ws = [some v, some u] ∧ sp [v, u] H Q E) := by
  subst hs
  refine lok_of S hbind fun A outer s H ws Q E room len q => ?_
  obtain ⟨v, u, rfl, q⟩ := q
  rw [hb]
  refine ⟨_, pe_call (CX := L2.CX P w) (E := E) G room hx hm kp B .nil (passes_call (takes_of rfl rfl rfl rfl) (fun _ _ _ _ h => h))
    (pa_cons (pe_var (i := 0) rfl (.inr (.inr (S.frk y List.mem_cons_self))) dy cy) (pa_cons (pe_var (i := 1) rfl (.inr (.inr (S.frk z (List.mem_cons_of_mem _ List.mem_cons_self)))) dz cz) pa_nil)) dx, ?_⟩
  exact ⟨v, rfl, u, rfl, q⟩
end
section
variable {X : Cx} {CX : CXT} {k : Nat} {f : Addr} {fd : FuncData} {ps ks : List Str} {sp : Sp} {E : XK} {x : Str} {p pos : Pos} {kws : List Keyword} {t : TA} {g : List Value → List Value → List Value} {gV : List V → List V → List V}
/-- x(k = v, ..) without positional arguments -/
theorem pe_callKw (G : FnOk X.prog X.w X.K X.mg X.base CX k f fd ps sp) (room : Room k X.A) (hg : Gl X x) (hm : X.mg x = some (.ref f)) (kp : PySem.W.keepIn X.K (.ref f) = true) (hb : KBinds X.K fd ps ks g gV) (hx : Passes CX X E) (hkw : PK X kws t)
    (hall : (backToKw pos (keywordEach kws X.env)).all (·.1.isSome) = true := by rfl) (hks : (backToKw pos (keywordEach kws X.env)).filterMap (·.1) = ks := by rfl) (hdb : (x == ("__debug__" : Str)) = false := by decide)
    (hpl : ((backTo pos (starEach [] X.env)).any (·.1) || (backToKw pos (keywordEach kws X.env)).any (·.1.isNone)) = false := by rfl) :
    PE X (.Call (.Name x p) [] kws pos) (fun σ H Q => t σ H fun zs H2 => sp (gV [] zs) H2 Q E) := by
  refine ⟨fun pins s σ H Q I h => wpAny_Call_Name_kw (ld_glob I hg hm ?_ hdb)⟩
  refine PySem.W.callWith_KW0 (h₀ := X.base) I.ok.mod.kin kp hall (thn (hkw.run pos pins s σ H _ I h) fun ws s2 ⟨zs, H2, I2, rz, q⟩ => ⟨I2.kIn, ?_⟩) hpl
  rw [hks]
  exact run_fnk (us := []) G room hb hx I2 .nil rz q
end
def kw1 {α : Type} : List α → List α → List α
  | [], [a] => [a]
  | _, _ => []
/-- two keyword arguments in the other order -/
def kw2 {α : Type} : List α → List α → List α
  | [], [a, b] => [b, a]
  | _, _ => []
theorem kb1 {K : PySem.W.Frag} {fd : FuncData} {a : Str} (h : ∀ w : Value, bindArgs fd ⟨[], [(a, w)]⟩ = pure [(a, w)]) : KBinds K fd [a] [a] kw1 kw1 where
  to := fun s us ws _ hl => by
    match us, ws, hl with
    | [], [w], _ => exact .of_eq (h w)
    | [], [], hl => cases hl
    | [], _ :: _ :: _, hl => cases hl
    | _ :: _, _, hl => cases hl
  rel := fun r rz => by
    cases r with
    | cons _ _ => exact .nil
    | nil =>
      cases rz with
      | nil => exact .nil
      | cons r1 r2 =>
        cases r2 with
        | nil => exact .cons r1 .nil
        | cons _ _ => exact .nil
theorem kb2 {K : PySem.W.Frag} {fd : FuncData} {a b : Str} (h : ∀ u w : Value, bindArgs fd ⟨[], [(b, u), (a, w)]⟩ = pure [(a, w), (b, u)]) : KBinds K fd [a, b] [b, a] kw2 kw2 where
  to := fun s us ws _ hl => by
    match us, ws, hl with
    | [], [u, w], _ => exact .of_eq (h u w)
    | [], [], hl => cases hl
    | [], [_], hl => cases hl
    | [], _ :: _ :: _ :: _, hl => cases hl
    | _ :: _, _, hl => cases hl
  rel := fun r rz => by
    cases r with
    | cons _ _ => exact .nil
    | nil =>
      cases rz with
      | nil => exact .nil
      | cons r1 r2 =>
        cases r2 with
        | nil => exact .nil
        | cons r3 r4 =>
          cases r4 with
          | nil => exact .cons r3 (.cons r1 .nil)
          | cons _ _ => exact .nil
/-- the call in a block of the maker's -/
theorem pe_giveB {X : Cx} {pins : List (Addr × Obj)} {σ0 : L2.St} {H0 : Hp} {s0 : Shared} {scope : Scope} {ce : Env} {fp : List Addr} {k j : Nat} {g : Addr} {fd : FuncData} {x a : Str} {R : (VK → XK → Prop) → Hp → VK → Prop} {e : Expr} {te : TE} {p pos : Pos} (I : Inv X pins σ0 H0 s0) (hfp : ∀ b ∈ fp, FpOk X pins H0 b)
    (G : GOk X.prog X.w X.K X.mg X.base k j g fd a R) (hg : Gl (X.blk s0 H0 scope ce fp) x) (hm : X.mg x = some (.ref g)) (hkp : PySem.W.keepIn X.K (.ref g) = true) (hb : Binds X.K fd [a] []) (room : Room k X.A) (he : PE (X.blk s0 H0 scope ce fp) e te)
    (hdb : (x == ("__debug__" : Str)) = false := by decide) (hst : starEach [e] ce = (false, eval e ce) :: starEach [] ce := by rfl) (hpl : (backTo pos (starEach [] ce)).any (·.1) = false := by rfl) :
    PE (X.blk s0 H0 scope ce fp) (.Call (.Name x p) [e] [] pos) (tGive X j te R fun _ => σ0) :=
  pe_give (X := X) (Y := X.blk s0 H0 scope ce fp) (old := fun _ => σ0) G hg hm hkp hb room ⟨rfl, rfl, rfl, rfl, rfl⟩ (fun _ _ _ _ I1 => cells_blk I hfp I1) he hdb hst hpl
/-- how the maker's frame lies to its lambda's cells -/
theorem caps_of {X : Cx} {sc sc0 : Scope} {fr : List Str} {js : List Nat} (e : X.env.scope = sc0) (h : ndefB sc0 sc fr = true) (hj : js.map (fun j => X.N[j]?) = fr.map some) : X.Ok → Caps X (cloFrom X.env.cells sc.names []) fr js := fun ok => by
  subst e
  exact Caps.made ok (ndef_free h) (ndef_fr h) hj
/-! ### the end: tables of several defs -/
theorem walk_ofTabs {l : PySem.W.OpenLaw} {n k : Nat} {q : Program} {loose : List Str} {XP : (Str → Option Value) → Heap → Prop} {YP : World → Heap → Prop} {d : DefRec} {K : Params → PySem.W.Frag} {CX : World → CXT} {x : Str} {names : List Str}
    (most : l.most = some n) (size : n ≤ sizeLine) (nodef : d.params.defaults = []) (room : Room k callerA) (recs : ∀ y ∈ names, ((recsOf q).any fun e => e.name == y) = true) (hY : ∀ (w : World) (h : Heap), YP w h → (K w.params).In h)
    (F : ∀ (w : World) (mg : Str → Option Value) (fa : Addr) (h : Heap), YP w h → (K w.params).In h → h.Ns mainGlobals mg → mg d.name = some (.ref fa) → (∀ y ∈ names, ∀ f, mg y = some (.ref f) → OwnTab (K w.params) f h) → LawAtS l w (K w.params) (CX w) k n x mg fa h)
    (hCX : ∀ (w : World) (H : Hp) (s : Shared) (e : Value) (s' : Shared), CX w [] H s (fun _ _ _ => False) e s' → False) :
    PySem.W.WalkO q loose XP YP l.row.toRowW d [] (fun f vs => PySem.call f vs) := by
  refine Att.attach_callB most nodef fun w s₀ s₁ mg mb fa o pm cd doc a vs ns G Y ho hd hcd hmg hobj hints hlen hbits hg => ?_
  have KX := hY w _ Y
  have own : ∀ y ∈ names, ∀ f, mg y = some (.ref f) → OwnTab (K w.params) f s₁.heap := fun y hy f hf c B o1 fd1 e dd vs1 sl k1 k2 k3 k4 k5 => by
    obtain ⟨r, hm, e1⟩ := List.any_eq_true.mp (recs y hy)
    obtain ⟨f', o', fd', c', B', t1, t2, t3, t4, t5, t6⟩ := G.T.tab r hm
    rw [beq_iff_eq.mp e1, hf] at t1
    cases t1
    rw [KX _ _ k1] at t2
    cases t2
    rw [k2] at t3
    cases t3
    rw [k3] at t4
    cases t4
    obtain ⟨⟨oc, vc, z1, _, z3, z4⟩, hB⟩ := t6
    rw [KX _ _ k4] at z1
    cases z1
    cases z3
    rw [k5] at z4
    cases z4
    exact hB
  obtain ⟨fd, cs, sp, hT, nT, C, hb, hsp, hF⟩ := F w mg fa _ Y KX G.T.g hmg own
  exact law_callTs KX G.T.g G.T.b G.T.builtins G.T.nolimit hg hT nT C G.T.bmain hobj hints (Nat.le_trans hlen size) room hF hb (fun H hH hS => hsp H a ns hlen hbits hH hS) fun H e s' => hCX w H s₁ e s'
end LamT

/-! a list + a list, either of which may be locked or written -/
namespace L2
open PySem PySem.Spec PyProof.Rows
def rCatS (K : PySem.W.Frag) : R2 := fun x y H Q => ∃ l b xs zs, x = .ref l ∧ y = .ref b ∧ SqL K H l xs ∧ SqL K H b zs ∧ xs.length + zs.length ≤ sizeLine ∧ ∀ p, H p = none → Q (.ref p) (upd H p (.lst (xs ++ zs)))
theorem op_catS {X : Cx} : OpR X (binaryOp .Add) (rCatS X.K) := by
  intro pins s σ H x y v u Q I rx ry h
  obtain ⟨l, b, xs, zs, rfl, rfl, hH, hB, hz, q⟩ := h
  cases rx
  cases ry
  obtain ⟨its, r, ⟨⟨cls, dd, data, sl⟩, n, ho, hc, hd0, hd⟩, z⟩ := I.list hH
  obtain ⟨its2, r2, ⟨⟨cls2, dd2, data2, sl2⟩, n2, ho2, hc2, hd02, hd2⟩, z2⟩ := I.list hB
  simp only at hc hd hc2 hd2
  subst hc hd hc2 hd2
  have l1 := r.length
  have l2 := r2.length
  have ea : its.toArray ++ its2.toArray = (its ++ its2).toArray := by simp
  refine concat_meets ⟨_, ho, rfl⟩ ⟨_, ho2, rfl⟩ noFill_list_add seq_list_add PySem.F.slot_list_add PySem.F.entry_list_add (PySem.F.args_list_add_2 _ _) (list_addW l b its.toArray its2.toArray n n2 dd dd2 sl sl2 (by rw [List.size_toArray, List.size_toArray]; omega)) ⟨ho, ho2, ?_⟩
  rw [ea]
  exact ⟨.ref _, _, I.lnew (t' := s.toks) (r.append r2) (by rw [List.length_append]; omega), rfl, q _ I.fresh⟩
end L2

namespace K13
open PySem PySem.Spec PyProof.Rows L2
def topS (i : Nat) : Stmt := PySem.Challenge.pw_loopyard_k13_heaps_of_timers.main.body.getD i (.Pass ⟨0, 0, 0, 0⟩)
abbrev sRise : Stmt := topS 8
theorem scRise : FnScope ["heap", "top", "place", "less", "above"] ["heap", "top", "place", "less"] (defScope sRise) := ⟨rfl, rfl, rfl, by decide +kernel, rfl, by decide +kernel, by decide +kernel⟩
abbrev sSink : Stmt := topS 9
theorem scSink : FnScope ["heap", "top", "less", "place", "below"] ["heap", "top", "less"] (defScope sSink) := ⟨rfl, rfl, rfl, by decide +kernel, rfl, by decide +kernel, by decide +kernel⟩
abbrev sPushBy : Stmt := topS 10
theorem scPushBy : FnScope ["heap", "item", "less"] ["heap", "item", "less"] (defScope sPushBy) := ⟨rfl, rfl, rfl, by decide +kernel, rfl, by decide +kernel, by decide +kernel⟩
abbrev sPopBy : Stmt := topS 11
theorem scPopBy : FnScope ["heap", "less", "last", "first"] ["heap", "less"] (defScope sPopBy) := ⟨rfl, rfl, rfl, by decide +kernel, rfl, by decide +kernel, by decide +kernel⟩
abbrev sHeapifyBy : Stmt := topS 12
theorem scHeapifyBy : FnScope ["heap", "less", "place"] ["heap", "less"] (defScope sHeapifyBy) := ⟨rfl, rfl, rfl, by decide +kernel, rfl, by decide +kernel, by decide +kernel⟩
abbrev sIsWhole : Stmt := topS 15
theorem scIsWhole : FnScope ["thing"] ["thing"] (defScope sIsWhole) := ⟨rfl, rfl, rfl, by decide +kernel, rfl, by decide +kernel, by decide +kernel⟩
abbrev sIsEntry : Stmt := topS 16
theorem scIsEntry : FnScope ["thing"] ["thing"] (defScope sIsEntry) := ⟨rfl, rfl, rfl, by decide +kernel, rfl, by decide +kernel, by decide +kernel⟩
abbrev sCheckRows : Stmt := topS 17
theorem scCheckRows : FnScope ["rows", "one"] ["rows"] (defScope sCheckRows) := ⟨rfl, rfl, rfl, by decide +kernel, rfl, by decide +kernel, by decide +kernel⟩
abbrev sIsSooner : Stmt := topS 18
theorem scIsSooner : FnScope ["one", "other"] ["one", "other"] (defScope sIsSooner) := ⟨rfl, rfl, rfl, by decide +kernel, rfl, by decide +kernel, by decide +kernel⟩
abbrev sIsHeap : Stmt := topS 19
theorem scIsHeap : FnScope ["rows", "place"] ["rows"] (defScope sIsHeap) := ⟨rfl, rfl, rfl, by decide +kernel, rfl, by decide +kernel, by decide +kernel⟩
abbrev sPushed : Stmt := topS 20
theorem scPushed : FnScope ["rows", "entry", "found"] ["rows", "entry"] (defScope sPushed) := ⟨rfl, rfl, rfl, by decide +kernel, rfl, by decide +kernel, by decide +kernel⟩
abbrev sPopped : Stmt := topS 21
theorem scPopped : FnScope ["rows", "found", "first"] ["rows"] (defScope sPopped) := ⟨rfl, rfl, rfl, by decide +kernel, rfl, by decide +kernel, by decide +kernel⟩
abbrev sHeaped : Stmt := topS 22
theorem scHeaped : FnScope ["rows", "found"] ["rows"] (defScope sHeaped) := ⟨rfl, rfl, rfl, by decide +kernel, rfl, by decide +kernel, by decide +kernel⟩
abbrev sLwWell : Stmt := topS 24
theorem scLwWell : FnScope ["_law_cell"] ["_law_cell"] (defScope sLwWell) := ⟨rfl, rfl, rfl, by decide +kernel, rfl, by decide +kernel, by decide +kernel⟩
abbrev sLwDraw : Stmt := topS 25
theorem scLwDraw : FnScope ["_law_well_here", "_law_many", "_law_found", "_law_salt", "_law_mixed"] ["_law_well_here", "_law_many"] (defScope sLwDraw) := ⟨rfl, rfl, rfl, by decide +kernel, rfl, by decide +kernel, by decide +kernel⟩
abbrev sLwPick : Stmt := topS 26
theorem scLwPick : FnScope ["_law_well_here", "_law_some"] ["_law_well_here", "_law_some"] (defScope sLwPick) := ⟨rfl, rfl, rfl, by decide +kernel, rfl, by decide +kernel, by decide +kernel⟩
abbrev sLwUp : Stmt := topS 27
theorem scLwUp : FnScope ["_law_lot", "_law_top", "_law_place", "_law_found", "_law_turn", "_law_above"] ["_law_lot", "_law_top", "_law_place"] (defScope sLwUp) := ⟨rfl, rfl, rfl, by decide +kernel, rfl, by decide +kernel, by decide +kernel⟩
abbrev sLwDown : Stmt := topS 28
theorem scLwDown : FnScope ["_law_lot", "_law_top", "_law_found", "_law_place", "_law_turn", "_law_left", "_law_lesser"] ["_law_lot", "_law_top"] (defScope sLwDown) := ⟨rfl, rfl, rfl, by decide +kernel, rfl, by decide +kernel, by decide +kernel⟩
abbrev sLwPush : Stmt := topS 29
theorem scLwPush : FnScope ["_law_lot", "_law_pair"] ["_law_lot", "_law_pair"] (defScope sLwPush) := ⟨rfl, rfl, rfl, by decide +kernel, rfl, by decide +kernel, by decide +kernel⟩
abbrev sLwPop : Stmt := topS 30
theorem scLwPop : FnScope ["_law_lot"] ["_law_lot"] (defScope sLwPop) := ⟨rfl, rfl, rfl, by decide +kernel, rfl, by decide +kernel, by decide +kernel⟩
abbrev sLwMade : Stmt := topS 31
theorem scLwMade : FnScope ["_law_lot", "_law_found", "_law_place"] ["_law_lot"] (defScope sLwMade) := ⟨rfl, rfl, rfl, by decide +kernel, rfl, by decide +kernel, by decide +kernel⟩
abbrev sLwTime : Stmt := topS 32
theorem scLwTime : FnScope ["_law_well_here", "_law_way"] ["_law_well_here", "_law_way"] (defScope sLwTime) := ⟨rfl, rfl, rfl, by decide +kernel, rfl, by decide +kernel, by decide +kernel⟩
abbrev sLwRows : Stmt := topS 33
theorem scLwRows : FnScope ["_law_well_here", "_law_most", "_law_way", "_law_many", "_law_lot", "_law_k"] ["_law_well_here", "_law_most"] (defScope sLwRows) := ⟨rfl, rfl, rfl, by decide +kernel, rfl, by decide +kernel, by decide +kernel⟩
abbrev sLwIsHeap : Stmt := topS 34
theorem scLwIsHeap : FnScope ["_law_lot", "_law_k"] ["_law_lot"] (defScope sLwIsHeap) := ⟨rfl, rfl, rfl, by decide +kernel, rfl, by decide +kernel, by decide +kernel⟩
abbrev sLwTold : Stmt := topS 35
theorem scLwTold : FnScope ["_law_ask", "_law_found", "e"] ["_law_ask"] (defScope sLwTold) := ⟨rfl, rfl, rfl, by decide +kernel, rfl, by decide +kernel, by decide +kernel⟩
abbrev sLwOdd : Stmt := topS 36
theorem scLwOdd : FnScope ["_law_well_here", "_law_lot", "_law_bad", "_law_spot"] ["_law_well_here", "_law_lot"] (defScope sLwOdd) := ⟨rfl, rfl, rfl, by decide +kernel, rfl, by decide +kernel, by decide +kernel⟩
abbrev sLwRight : Stmt := topS 37
theorem scLwRight : FnScope ["_law_well_here", "_law_kept", "_law_heard", "_law_asks", "_law_lot", "_law_none", "_law_odd_here", "_law_pair", "_law_ask"] ["_law_well_here"] (defScope sLwRight) := ⟨rfl, rfl, rfl, by decide +kernel, rfl, by decide +kernel, by decide +kernel⟩
abbrev sLwBoundRight : Stmt := topS 38
theorem scLwBoundRight : FnScope ["_law_well_here", "_law_when", "_law_late", "_law_lot", "_law_asks", "_law_more", "_law_pair", "_law_k", "_law_ask"] ["_law_well_here"] (defScope sLwBoundRight) := ⟨rfl, rfl, rfl, by decide +kernel, rfl, by decide +kernel, by decide +kernel⟩
abbrev sLaw : Stmt := topS 39
theorem scLaw : FnScope ["_law_script", "_law_cell"] ["_law_script"] (defScope sLaw) := ⟨rfl, rfl, rfl, by decide +kernel, rfl, by decide +kernel, by decide +kernel⟩
structure Txt (K : PySem.W.Frag) (mg : Str → Option Value) where
  aRise : Addr
  dRise : FuncData
  fRise : Fun K "rise" "rise" sRise aRise dRise
  gRise : mg "rise" = some (.ref aRise)
  bRise : Binds K dRise ["heap", "top", "place", "less"] []
  aSink : Addr
  dSink : FuncData
  fSink : Fun K "sink" "sink" sSink aSink dSink
  gSink : mg "sink" = some (.ref aSink)
  bSink : Binds K dSink ["heap", "top", "less"] []
  aPushBy : Addr
  dPushBy : FuncData
  fPushBy : Fun K "push_by" "push_by" sPushBy aPushBy dPushBy
  gPushBy : mg "push_by" = some (.ref aPushBy)
  bPushBy : Binds K dPushBy ["heap", "item", "less"] []
  aPopBy : Addr
  dPopBy : FuncData
  fPopBy : Fun K "pop_by" "pop_by" sPopBy aPopBy dPopBy
  gPopBy : mg "pop_by" = some (.ref aPopBy)
  bPopBy : Binds K dPopBy ["heap", "less"] []
  aHeapifyBy : Addr
  dHeapifyBy : FuncData
  fHeapifyBy : Fun K "heapify_by" "heapify_by" sHeapifyBy aHeapifyBy dHeapifyBy
  gHeapifyBy : mg "heapify_by" = some (.ref aHeapifyBy)
  bHeapifyBy : Binds K dHeapifyBy ["heap", "less"] []
  aIsWhole : Addr
  dIsWhole : FuncData
  fIsWhole : Fun K "is_whole" "is_whole" sIsWhole aIsWhole dIsWhole
  gIsWhole : mg "is_whole" = some (.ref aIsWhole)
  bIsWhole : Binds K dIsWhole ["thing"] []
  aIsEntry : Addr
  dIsEntry : FuncData
  fIsEntry : Fun K "is_entry" "is_entry" sIsEntry aIsEntry dIsEntry
  gIsEntry : mg "is_entry" = some (.ref aIsEntry)
  bIsEntry : Binds K dIsEntry ["thing"] []
  aCheckRows : Addr
  dCheckRows : FuncData
  fCheckRows : Fun K "check_rows" "check_rows" sCheckRows aCheckRows dCheckRows
  gCheckRows : mg "check_rows" = some (.ref aCheckRows)
  bCheckRows : Binds K dCheckRows ["rows"] []
  aIsSooner : Addr
  dIsSooner : FuncData
  fIsSooner : Fun K "is_sooner" "is_sooner" sIsSooner aIsSooner dIsSooner
  gIsSooner : mg "is_sooner" = some (.ref aIsSooner)
  bIsSooner : Binds K dIsSooner ["one", "other"] []
  aIsHeap : Addr
  dIsHeap : FuncData
  fIsHeap : Fun K "is_heap" "is_heap" sIsHeap aIsHeap dIsHeap
  gIsHeap : mg "is_heap" = some (.ref aIsHeap)
  bIsHeap : Binds K dIsHeap ["rows"] []
  aPushed : Addr
  dPushed : FuncData
  fPushed : Fun K "pushed" "pushed" sPushed aPushed dPushed
  gPushed : mg "pushed" = some (.ref aPushed)
  bPushed : Binds K dPushed ["rows", "entry"] []
  aPopped : Addr
  dPopped : FuncData
  fPopped : Fun K "popped" "popped" sPopped aPopped dPopped
  gPopped : mg "popped" = some (.ref aPopped)
  bPopped : Binds K dPopped ["rows"] []
  aHeaped : Addr
  dHeaped : FuncData
  fHeaped : Fun K "heaped" "heaped" sHeaped aHeaped dHeaped
  gHeaped : mg "heaped" = some (.ref aHeaped)
  bHeaped : Binds K dHeaped ["rows"] []
  aLwWell : Addr
  dLwWell : FuncData
  fLwWell : Fun K "_law_well" "_law_well" sLwWell aLwWell dLwWell
  gLwWell : mg "_law_well" = some (.ref aLwWell)
  bLwWell : Binds K dLwWell ["_law_cell"] []
  aLwDraw : Addr
  dLwDraw : FuncData
  fLwDraw : Fun K "_law_draw" "_law_draw" sLwDraw aLwDraw dLwDraw
  gLwDraw : mg "_law_draw" = some (.ref aLwDraw)
  bLwDraw : Binds K dLwDraw ["_law_well_here", "_law_many"] []
  aLwPick : Addr
  dLwPick : FuncData
  fLwPick : Fun K "_law_pick" "_law_pick" sLwPick aLwPick dLwPick
  gLwPick : mg "_law_pick" = some (.ref aLwPick)
  bLwPick : Binds K dLwPick ["_law_well_here", "_law_some"] []
  aLwUp : Addr
  dLwUp : FuncData
  fLwUp : Fun K "_law_up" "_law_up" sLwUp aLwUp dLwUp
  gLwUp : mg "_law_up" = some (.ref aLwUp)
  bLwUp : Binds K dLwUp ["_law_lot", "_law_top", "_law_place"] []
  aLwDown : Addr
  dLwDown : FuncData
  fLwDown : Fun K "_law_down" "_law_down" sLwDown aLwDown dLwDown
  gLwDown : mg "_law_down" = some (.ref aLwDown)
  bLwDown : Binds K dLwDown ["_law_lot", "_law_top"] []
  aLwPush : Addr
  dLwPush : FuncData
  fLwPush : Fun K "_law_push" "_law_push" sLwPush aLwPush dLwPush
  gLwPush : mg "_law_push" = some (.ref aLwPush)
  bLwPush : Binds K dLwPush ["_law_lot", "_law_pair"] []
  aLwPop : Addr
  dLwPop : FuncData
  fLwPop : Fun K "_law_pop" "_law_pop" sLwPop aLwPop dLwPop
  gLwPop : mg "_law_pop" = some (.ref aLwPop)
  bLwPop : Binds K dLwPop ["_law_lot"] []
  aLwMade : Addr
  dLwMade : FuncData
  fLwMade : Fun K "_law_made" "_law_made" sLwMade aLwMade dLwMade
  gLwMade : mg "_law_made" = some (.ref aLwMade)
  bLwMade : Binds K dLwMade ["_law_lot"] []
  aLwTime : Addr
  dLwTime : FuncData
  fLwTime : Fun K "_law_time" "_law_time" sLwTime aLwTime dLwTime
  gLwTime : mg "_law_time" = some (.ref aLwTime)
  bLwTime : Binds K dLwTime ["_law_well_here", "_law_way"] []
  aLwRows : Addr
  dLwRows : FuncData
  fLwRows : Fun K "_law_rows" "_law_rows" sLwRows aLwRows dLwRows
  gLwRows : mg "_law_rows" = some (.ref aLwRows)
  bLwRows : Binds K dLwRows ["_law_well_here", "_law_most"] []
  aLwIsHeap : Addr
  dLwIsHeap : FuncData
  fLwIsHeap : Fun K "_law_is_heap" "_law_is_heap" sLwIsHeap aLwIsHeap dLwIsHeap
  gLwIsHeap : mg "_law_is_heap" = some (.ref aLwIsHeap)
  bLwIsHeap : Binds K dLwIsHeap ["_law_lot"] []
  aLwTold : Addr
  dLwTold : FuncData
  fLwTold : Fun K "_law_told" "_law_told" sLwTold aLwTold dLwTold
  gLwTold : mg "_law_told" = some (.ref aLwTold)
  bLwTold : Binds K dLwTold ["_law_ask"] []
  aLwOdd : Addr
  dLwOdd : FuncData
  fLwOdd : Fun K "_law_odd" "_law_odd" sLwOdd aLwOdd dLwOdd
  gLwOdd : mg "_law_odd" = some (.ref aLwOdd)
  bLwOdd : Binds K dLwOdd ["_law_well_here", "_law_lot"] []
  aLwRight : Addr
  dLwRight : FuncData
  fLwRight : Fun K "_law_right" "_law_right" sLwRight aLwRight dLwRight
  gLwRight : mg "_law_right" = some (.ref aLwRight)
  bLwRight : Binds K dLwRight ["_law_well_here"] []
  aLwBoundRight : Addr
  dLwBoundRight : FuncData
  fLwBoundRight : Fun K "_law_bound_right" "_law_bound_right" sLwBoundRight aLwBoundRight dLwBoundRight
  gLwBoundRight : mg "_law_bound_right" = some (.ref aLwBoundRight)
  bLwBoundRight : Binds K dLwBoundRight ["_law_well_here"] []
  aLaw : Addr
  dLaw : FuncData
  fLaw : Fun K "law" "law" sLaw aLaw dLaw
  gLaw : mg "law" = some (.ref aLaw)
  bLaw : Binds K dLaw ["_law_script"] []
  n_len : mg "len" = none
  n_range : mg "range" = none
  n_isinstance : mg "isinstance" = none
  n_int : mg "int" = none
  n_bool : mg "bool" = none
  n_tuple : mg "tuple" = none
  n_list : mg "list" = none
  n_all : mg "all" = none
  n_any : mg "any" = none
  gMOST : ∃ t, mg "MOST" = some (.int 5000 t)
end K13

namespace K13
open PySem PySem.Spec PyProof.Rows L2
/-! ### entries -/
/-- an entry: where its tuple stands, its time and its number -/
structure Ent where
  a : Addr
  t : Int
  k : Int
abbrev Ent.v (e : Ent) : V := .ref e.a
abbrev vsOf (es : List Ent) : List V := es.map Ent.v
def EntAt (H : Hp) (e : Ent) : Prop := H e.a = some (.tup [.int e.t, .int e.k])
def Ents (H : Hp) (es : List Ent) : Prop := ∀ e ∈ es, EntAt H e
/-- all that was tracked is as it was, but for what stands at some places -/
def Kp (ps : List Addr) (H H' : Hp) : Prop := ∀ b o, b ∉ ps → H b = some o → H' b = some o
theorem Kp.refl (ps : List Addr) (H : Hp) : Kp ps H H := fun _ _ _ h => h
theorem Kp.trans {ps : List Addr} {H H1 H2 : Hp} (a : Kp ps H H1) (b : Kp ps H1 H2) : Kp ps H H2 := fun x o n h => b x o n (a x o n h)
theorem Kp.new {ps : List Addr} {H H1 : Hp} {p : Addr} {o : HO} (a : Kp ps H H1) (n : H1 p = none) : Kp ps H (upd H1 p o) := fun x u nx h => by
  have h1 := a x u nx h
  rw [upd_ne (ne_of_none h1 n)]
  exact h1
theorem Kp.wr {ps : List Addr} {H H1 : Hp} {p : Addr} {o : HO} (a : Kp ps H H1) (n : p ∈ ps) : Kp ps H (upd H1 p o) := fun x u nx h => by
  have e0 : x ≠ p := fun e => nx (by rw [e]; exact n)
  rw [upd_ne e0]
  exact a x u nx h
theorem Kp.mono {ps qs : List Addr} {H H1 : Hp} (a : Kp ps H H1) (h : ∀ x ∈ ps, x ∈ qs) : Kp qs H H1 := fun x o n e => a x o (fun m => n (h x m)) e
theorem Kp.same {H H1 : Hp} (a : Kp [] H H1) : Same H H1 := fun x o e => a x o (List.not_mem_nil) e
theorem Ents.kp {H H' : Hp} {es : List Ent} {p : Addr} {xs : List V} (h : Ents H es) (k : Kp [p] H H') (hp : H p = some (.lst xs)) : Ents H' es := fun e he => k _ _ (fun m => by
  have := List.mem_singleton.mp m
  have z := h e he
  unfold EntAt at z
  rw [this, hp] at z
  cases z) (h e he)
theorem Ents.perm {H : Hp} {es es' : List Ent} (h : Ents H es) (p : List.Perm es' es) : Ents H es' := fun e he => h e (p.mem_iff.mp he)
theorem vs_at {es : List Ent} {i : Nat} {e : Ent} (h : es[i]? = some e) : (vsOf es)[i]? = some e.v := by
  rw [List.getElem?_map, h]
  rfl
theorem ixN_nat {n j : Nat} (hj : j < n) : ixN n (j : Int) = some j := by
  unfold ixN
  rw [if_pos (Int.natCast_nonneg j), if_pos (by omega)]
  rfl
section
variable {P : Program} {w : World} {K : PySem.W.Frag} {mg : Str → Option Value} {base : Heap}
/-! ### is_sooner -/
def spSooner : Sp := fun vs H Q _ => ∃ a b : Ent, vs = [a.v, b.v] ∧ EntAt H a ∧ EntAt H b ∧ Q (.bl (decide (a.t < b.t))) H
theorem ok_sooner (T : Txt K mg) : FnOk P w K mg base CX0 1 T.aIsSooner T.dIsSooner ["one", "other"] spSooner := by
  refine T.fIsSooner.ok scIsSooner (fun vs H Q E h => ?_) (fun cdv A outer s H vs Q E hr h => ?_)
  · obtain ⟨a, b, rfl, _⟩ := h
    rfl
  · obtain ⟨a, b, rfl, ha, hb, q⟩ := h
    refine ⟨_, (pss_one (ps_ret (pe_cmpR op_lt (pe_ix (r := rIxT K) ix_tup (pv 0) pe_int (fun _ _ => rfl)) (pe_ix (r := rIxT K) ix_tup (pv 1) pe_int (fun _ _ => rfl)) (nomark _)))), ?_⟩
    exact ⟨_, rfl, _, _, 0, .int a.t, rfl, rfl, SqT.of ha, atI_nat (j := 0) rfl, _, rfl, _, _, 0, .int b.t, rfl, rfl, SqT.of hb, atI_nat (j := 0) rfl, _, _, rfl, rfl, q⟩
/-! ### rise -/
def spRise (fS : Addr) : Sp := fun vs H Q _ => ∃ (p : Addr) (es : List Ent) (top place : Nat), vs = [.ref p, .int top, .int place, .ref fS] ∧ H p = some (.lst (vsOf es)) ∧ Ents H es ∧ place < es.length ∧
  ∀ H', Kp [p] H H' → H' p = some (.lst (vsOf (Hm.rise Ent.t es top place))) → Q .non H'
theorem ok_rise (T : Txt K mg) : FnOk P w K mg base CX0 2 T.aRise T.dRise ["heap", "top", "place", "less"] (spRise T.aIsSooner) := by
  have GIsSooner : FnOk P w K mg base CX0 1 T.aIsSooner T.dIsSooner ["one", "other"] spSooner := ok_sooner T
  refine T.fRise.ok scRise (fun vs H Q E h => ?_) (fun cdv A outer s H vs Q E hr h => ?_)
  · obtain ⟨p, es, top, place, rfl, _⟩ := h
    rfl
  · obtain ⟨p, es, top, place, rfl, hp, he, hl, q⟩ := h
    refine ⟨_, (pss_one (ps_while PassesOwn.never (pt_cmpR op_gt (pv 2) (pv 1) (nomark _))
      (pss_cons (ps_set (i := 4) scRise.nd rfl (.inl rfl) (pe_op op_fdiv (pe_op op_sub (pv 2) pe_int) pe_int))
        (pss_cons (ps_if (pt_not (pt_val (pe_callL (i := 3) GIsSooner (hr.mono (by decide)) rfl (.inl rfl) T.fIsSooner.kp T.bIsSooner .nil pass0 (pa_cons (pe_ix (r := rIxL K) ix_list (pv 0) (pv 2) (fun _ _ => rfl)) (pa_cons (pe_ix (r := rIxL K) ix_list (pv 0) (pv 4) (fun _ _ => rfl)) pa_nil)))))
        (pss_one ps_retN)
        pss_nil)
        (pss_cons (ps_asg (pe_tup (pa_cons (pe_ix (r := rIxL K) ix_list (pv 0) (pv 4) (fun _ _ => rfl)) (pa_cons (pe_ix (r := rIxL K) ix_list (pv 0) (pv 2) (fun _ _ => rfl)) pa_nil))) (pg_tup rfl (pgs_cons (pg_sub (pv 0) (pv 2) set_list) (pgs_cons (pg_sub (pv 0) (pv 4) set_list) pgs_nil))))
        (pss_one (ps_set (i := 2) scRise.nd rfl (.inl rfl) (pv 4)))))))), ?_⟩
    refine ⟨fun m σ H3 => ∃ (es3 : List Ent) (pl : Nat) (y4 : Option V), σ = [some (.ref p), some (.int top), some (.int pl), some (.ref T.aIsSooner), y4] ∧ m = pl ∧ Kp [p] H H3 ∧ H3 p = some (.lst (vsOf es3)) ∧ Ents H3 es3 ∧ pl < es3.length ∧ Hm.rise Ent.t es3 top pl = Hm.rise Ent.t es top place,
      ⟨place, es, place, none, rfl, rfl, Kp.refl _ _, hp, he, hl, rfl⟩, fun m σ H3 hW => ?_⟩
    obtain ⟨es3, pl, y4, rfl, rfl, k3, hp3, he3, hl3, hr3⟩ := hW
    refine ⟨_, rfl, _, rfl, _, _, rfl, rfl, _, rfl, ite2 (fun c => ?_) (fun c => ?_)⟩
    · have c' : top < m := by
        have := of_decide_eq_true c
        omega
      have hab : (m - 1) / 2 < es3.length := by omega
      obtain ⟨x, hx⟩ : ∃ x, es3[m]? = some x := ⟨_, List.getElem?_eq_getElem hl3⟩
      obtain ⟨y, hy⟩ : ∃ y, es3[(m - 1) / 2]? = some y := ⟨_, List.getElem?_eq_getElem hab⟩
      have eab : ((m : Int) - 1) / 2 = (((m - 1) / 2 : Nat) : Int) := by omega
      have ex := he3 x (List.mem_of_getElem? hx)
      have ey := he3 y (List.mem_of_getElem? hy)
      refine ⟨fun σ' H' => ∃ (es3 : List Ent) (pl : Nat) (y4 : Option V), pl < m ∧ σ' = [some (.ref p), some (.int top), some (.int pl), some (.ref T.aIsSooner), y4] ∧ Kp [p] H H' ∧ H' p = some (.lst (vsOf es3)) ∧ Ents H' es3 ∧ pl < es3.length ∧ Hm.rise Ent.t es3 top pl = Hm.rise Ent.t es top place,
        fun σ' H' hN => ?_, ?_⟩
      · obtain ⟨es4, pl, y, l4, e4, r4⟩ := hN
        exact ⟨pl, l4, es4, pl, y, e4, rfl, r4⟩
      -- above = (place - 1) // 2
      refine ⟨_, rfl, _, _, rfl, rfl, _, _, rfl, rfl, ⟨by decide, by decide⟩, ?_⟩
      dsimp only
      rw [eab]
      -- less(heap[place], heap[above])
      refine ⟨rfl, _, rfl, _, rfl, p, _, _, x.v, rfl, rfl, SqL.of hp3, atI_nat (vs_at hx), _, rfl, _, rfl, p, _, _, y.v, rfl, rfl, SqL.of hp3, atI_nat (vs_at hy), x, y, rfl, ex, ey, _, rfl, ?_⟩
      have eL : Hm.lss Ent.t es3 m ((m - 1) / 2) = decide (x.t < y.t) := by
        unfold Hm.lss
        rw [hx, hy]
      have eR := Hm.rise.eq_1 Ent.t es3 top m
      rw [dif_pos c', eL] at eR
      by_cases d : x.t < y.t
      · rw [decide_eq_true d]
        rw [decide_eq_true d, if_pos rfl] at eR
        refine iteF ?_
        -- the swap
        refine ⟨_, rfl, _, rfl, p, _, _, y.v, rfl, rfl, SqL.of hp3, atI_nat (vs_at hy), _, rfl, _, rfl, p, _, _, x.v, rfl, rfl, SqL.of hp3, atI_nat (vs_at hx), (by show 2 ≤ sizeLine; decide), fun U nU => ?_⟩
        have npU : p ≠ U := ne_of_none hp3 nU
        refine ⟨U, [y.v, x.v], rfl, SqT.of upd_same, rfl, _, _, rfl, ?_⟩
        have h1 : (upd H3 U (.tup [y.v, x.v])) p = some (.lst (vsOf es3)) := by
          rw [upd_ne npU]
          exact hp3
        refine ⟨_, rfl, _, rfl, p, _, _, m, rfl, rfl, h1, ixN_nat (by rw [List.length_map]; exact hl3), _, _, rfl, ?_⟩
        refine ⟨_, rfl, _, rfl, p, _, _, (m - 1) / 2, rfl, rfl, upd_same, ixN_nat (by rw [List.length_set, List.length_map]; exact hab), rfl, ?_⟩
        rw [upd_upd]
        refine ⟨_, rfl, ?_⟩
        have es4 : ((vsOf es3).set m y.v).set ((m - 1) / 2) x.v = vsOf (Hm.swp es3 m ((m - 1) / 2)) := by
          rw [Hm.swp_eq hx hy]
          show _ = List.map Ent.v _
          rw [List.map_set, List.map_set]
        have kU : Kp [p] H3 (upd (upd H3 U (.tup [y.v, x.v])) p (.lst (((vsOf es3).set m y.v).set ((m - 1) / 2) x.v))) := ((Kp.refl _ _).new nU).wr (List.mem_singleton.mpr rfl)
        refine ⟨Hm.swp es3 m ((m - 1) / 2), (m - 1) / 2, _, by omega, rfl, k3.trans kU, ?_, ?_, ?_, ?_⟩
        · rw [upd_same, es4]
        · exact (he3.kp kU hp3).perm (Hm.swp_perm _ _ _)
        · rw [Hm.swp_len]
          exact hab
        · rw [← eR]
          exact hr3
      · rw [decide_eq_false d]
        rw [decide_eq_false d, if_neg Bool.false_ne_true] at eR
        refine iteT ?_
        refine q H3 k3 ?_
        rw [← hr3, eR]
        exact hp3
    · have c' : ¬ top < m := fun z => c (decide_eq_true (by omega))
      refine q H3 k3 ?_
      have eR := Hm.rise.eq_1 Ent.t es3 top m
      rw [dif_neg c'] at eR
      rw [← hr3, eR]
      exact hp3
end
end K13

namespace K13
open PySem PySem.Spec PyProof.Rows L2
theorem vs_set {es : List Ent} {i : Nat} {e : Ent} : (vsOf es).set i e.v = vsOf (es.set i e) := by
  show _ = List.map Ent.v _
  rw [List.map_set]
theorem vs_len {es : List Ent} : (vsOf es).length = es.length := List.length_map _
section
variable {P : Program} {w : World} {K : PySem.W.Frag} {mg : Str → Option Value} {base : Heap}
def spSink (fS : Addr) : Sp := fun vs H Q _ => ∃ (p : Addr) (es : List Ent) (top : Nat), vs = [.ref p, .int top, .ref fS] ∧ H p = some (.lst (vsOf es)) ∧ Ents H es ∧ top < es.length ∧
  ∀ H', Kp [p] H H' → H' p = some (.lst (vsOf (Hm.sink Ent.t es top))) → Q .non H'
theorem ok_sink (T : Txt K mg) : FnOk P w K mg base CX0 3 T.aSink T.dSink ["heap", "top", "less"] (spSink T.aIsSooner) := by
  have GIsSooner : FnOk P w K mg base CX0 1 T.aIsSooner T.dIsSooner ["one", "other"] spSooner := ok_sooner T
  have GRise : FnOk P w K mg base CX0 2 T.aRise T.dRise ["heap", "top", "place", "less"] (spRise T.aIsSooner) := ok_rise T
  refine T.fSink.ok scSink (fun vs H Q E h => ?_) (fun cdv A outer s H vs Q E hr h => ?_)
  · obtain ⟨p, es, top, rfl, _⟩ := h
    rfl
  · obtain ⟨p, es, top, rfl, hp, he, hl, q⟩ := h
    refine ⟨_, (pss_cons (ps_set (i := 3) scSink.nd rfl (.inl rfl) (pv 1))
      (pss_cons (ps_while PassesOwn.never (pt_cmpR op_lt (pe_op op_add (pe_op op_mul pe_int (pv 3)) pe_int) (pe_callB call_len_seq (by rfl) T.n_len PySem.boot_len (pa_cons (pv 0) pa_nil)) (nomark _))
      (pss_cons (ps_set (i := 4) scSink.nd rfl (.inl rfl) (pe_op op_add (pe_op op_mul pe_int (pv 3)) pe_int))
        (Evl.pss_cut (ps_if (PW.pt (pw_and (pt_cmpR op_lt (pe_op op_add (pv 4) pe_int) (pe_callB call_len_seq (by rfl) T.n_len PySem.boot_len (pa_cons (pv 0) pa_nil)) (nomark _)) (pw_and1 (pt_not (pt_val (pe_callL (i := 2) GIsSooner (hr.mono (by decide)) rfl (.inl rfl) T.fIsSooner.kp T.bIsSooner .nil pass0 (pa_cons (pe_ix (r := rIxL K) ix_list (pv 0) (pv 4) (fun _ _ => rfl)) (pa_cons (pe_ix (r := rIxL K) ix_list (pv 0) (pe_op op_add (pv 4) pe_int) (fun _ _ => rfl)) pa_nil))))))))
        (pss_one (ps_aug (i := 4) scSink.nd rfl (.inl rfl) pe_int ip_add))
        pss_nil)
        (pss_cons (ps_asg (pe_tup (pa_cons (pe_ix (r := rIxL K) ix_list (pv 0) (pv 4) (fun _ _ => rfl)) (pa_cons (pe_ix (r := rIxL K) ix_list (pv 0) (pv 3) (fun _ _ => rfl)) pa_nil))) (pg_tup rfl (pgs_cons (pg_sub (pv 0) (pv 3) set_list) (pgs_cons (pg_sub (pv 0) (pv 4) set_list) pgs_nil))))
        (pss_one (ps_set (i := 3) scSink.nd rfl (.inl rfl) (pv 4)))))))
      (pss_one (ps_expr (pe_call GRise (hr.mono (by decide)) (by rfl) T.gRise T.fRise.kp T.bRise .nil pass0 (pa_cons (pv 0) (pa_cons (pv 1) (pa_cons (pv 3) (pa_cons (pv 2) pa_nil))))))))), ?_⟩
    refine ⟨_, rfl, ?_⟩
    refine ⟨fun m σ H3 => ∃ (es3 : List Ent) (pl : Nat) (y4 : Option V), σ = [some (.ref p), some (.int top), some (.ref T.aIsSooner), some (.int pl), y4] ∧ m = es3.length - pl ∧ Kp [p] H H3 ∧ H3 p = some (.lst (vsOf es3)) ∧ Ents H3 es3 ∧ pl < es3.length ∧ Hm.down Ent.t es3 pl = Hm.down Ent.t es top,
      ⟨_, es, top, none, rfl, rfl, Kp.refl _ _, hp, he, hl, rfl⟩, fun m σ H3 hW => ?_⟩
    obtain ⟨es3, pl, y4, rfl, rfl, k3, hp3, he3, hl3, hr3⟩ := hW
    refine ⟨_, rfl, _, _, rfl, rfl, .inl ⟨by decide, by decide⟩, _, _, rfl, rfl, _, rfl, p, _, rfl, .inl (SqL.of hp3), _, _, rfl, rfl, _, rfl, ite2 (fun c => ?_) (fun c => ?_)⟩
    · have c' : 2 * pl + 1 < es3.length := by
        have := of_decide_eq_true c
        rw [vs_len] at this
        omega
      have eD := Hm.down.eq_1 Ent.t es3 pl
      rw [dif_pos c'] at eD
      refine ⟨fun σ' H' => ∃ (es4 : List Ent) (pl' : Nat) (y4 : Option V), es4.length - pl' < es3.length - pl ∧ σ' = [some (.ref p), some (.int top), some (.ref T.aIsSooner), some (.int pl'), y4] ∧ Kp [p] H H' ∧ H' p = some (.lst (vsOf es4)) ∧ Ents H' es4 ∧ pl' < es4.length ∧ Hm.down Ent.t es4 pl' = Hm.down Ent.t es top,
        fun σ' H' hN => ?_, ?_⟩
      · obtain ⟨es4, pl', y, l4, e4, r4⟩ := hN
        exact ⟨_, l4, es4, pl', y, e4, rfl, r4⟩
      -- below = 2 * place + 1
      have e1 : 2 * (pl : Int) + 1 = ((2 * pl + 1 : Nat) : Int) := by omega
      have e2 : ((2 * pl + 1 : Nat) : Int) + 1 = ((2 * pl + 1 + 1 : Nat) : Int) := by omega
      refine ⟨_, rfl, _, _, rfl, rfl, .inl ⟨by decide, by decide⟩, _, _, rfl, rfl, ?_⟩
      dsimp only
      rw [e1]
      obtain ⟨x, hx⟩ : ∃ x, es3[2 * pl + 1]? = some x := ⟨_, List.getElem?_eq_getElem c'⟩
      have ex := he3 x (List.mem_of_getElem? hx)
      -- if below + 1 < len(heap) and not less(..)
      refine ⟨fun σ' H' => ∃ (c : Nat), c = Hm.child Ent.t es3 pl ∧ σ' = [some (.ref p), some (.int top), some (.ref T.aIsSooner), some (.int pl), some (.int c)] ∧ H' = H3, ?_, ?_⟩
      · refine ⟨_, rfl, _, _, rfl, rfl, _, rfl, p, _, rfl, .inl (SqL.of hp3), _, _, rfl, rfl, _, rfl, ite2 (fun d => ?_) (fun d => ?_)⟩
        · have d' : 2 * pl + 1 + 1 < es3.length := by
            have := of_decide_eq_true d
            rw [vs_len] at this
            omega
          obtain ⟨y, hy⟩ : ∃ y, es3[2 * pl + 1 + 1]? = some y := ⟨_, List.getElem?_eq_getElem d'⟩
          have ey := he3 y (List.mem_of_getElem? hy)
          refine ⟨rfl, _, rfl, _, rfl, p, _, _, x.v, rfl, rfl, SqL.of hp3, atI_nat (vs_at hx), _, rfl, _, rfl, _, _, rfl, rfl, p, _, _, y.v, rfl, rfl, SqL.of hp3, ?_, x, y, rfl, ex, ey, _, rfl, ?_⟩
          · show atI (vsOf es3) (((2 * pl + 1 : Nat) : Int) + 1) = _
            rw [e2]
            exact atI_nat (vs_at hy)
          have eL : Hm.lss Ent.t es3 (2 * pl + 1) (2 * pl + 1 + 1) = decide (x.t < y.t) := by
            unfold Hm.lss
            rw [hx, hy]
          by_cases z : x.t < y.t
          · rw [decide_eq_true z]
            refine iteF ?_
            refine ⟨2 * pl + 1, ?_, rfl, rfl⟩
            unfold Hm.child
            rw [if_neg (fun w => by rw [eL, decide_eq_true z] at w; exact Bool.noConfusion w.2)]
          · rw [decide_eq_false z]
            refine iteT ?_
            refine ⟨_, rfl, _, _, rfl, rfl, 2 * pl + 1 + 1, ?_, ?_, rfl⟩
            · unfold Hm.child
              rw [if_pos ⟨d', by rw [eL, decide_eq_false z]⟩]
            · dsimp only
              rw [e2]
              rfl
        · have d' : ¬ 2 * pl + 1 + 1 < es3.length := fun z => d (decide_eq_true (by rw [vs_len]; omega))
          refine iteF ?_
          refine ⟨2 * pl + 1, ?_, rfl, rfl⟩
          unfold Hm.child
          rw [if_neg (fun w => d' w.1)]
      · rintro σ' H' ⟨cc, ec, rfl, rfl⟩
        have hc1 := Hm.child_lt Ent.t es3 pl c'
        have hc2 := Hm.child_lo Ent.t es3 pl
        rw [← ec] at hc1 hc2 eD
        obtain ⟨y, hy⟩ : ∃ y, es3[cc]? = some y := ⟨_, List.getElem?_eq_getElem hc1⟩
        obtain ⟨z, hz⟩ : ∃ z, es3[pl]? = some z := ⟨_, List.getElem?_eq_getElem hl3⟩
        refine ⟨_, rfl, _, rfl, p, _, _, y.v, rfl, rfl, SqL.of hp3, atI_nat (vs_at hy), _, rfl, _, rfl, p, _, _, z.v, rfl, rfl, SqL.of hp3, atI_nat (vs_at hz), (by show 2 ≤ sizeLine; decide), fun U nU => ?_⟩
        have npU : p ≠ U := ne_of_none hp3 nU
        refine ⟨U, [y.v, z.v], rfl, SqT.of upd_same, rfl, _, _, rfl, ?_⟩
        have h1 : (upd H' U (.tup [y.v, z.v])) p = some (.lst (vsOf es3)) := by
          rw [upd_ne npU]
          exact hp3
        refine ⟨_, rfl, _, rfl, p, _, _, pl, rfl, rfl, h1, ixN_nat (by rw [vs_len]; exact hl3), _, _, rfl, ?_⟩
        refine ⟨_, rfl, _, rfl, p, _, _, cc, rfl, rfl, upd_same, ixN_nat (by rw [List.length_set, vs_len]; exact hc1), rfl, ?_⟩
        rw [upd_upd]
        refine ⟨_, rfl, ?_⟩
        have es4 : ((vsOf es3).set pl y.v).set cc z.v = vsOf (Hm.swp es3 pl cc) := by
          rw [Hm.swp_eq hz hy, vs_set, vs_set]
        have kU : Kp [p] H' (upd (upd H' U (.tup [y.v, z.v])) p (.lst (((vsOf es3).set pl y.v).set cc z.v))) := ((Kp.refl _ _).new nU).wr (List.mem_singleton.mpr rfl)
        refine ⟨Hm.swp es3 pl cc, cc, _, ?_, rfl, k3.trans kU, ?_, ?_, ?_, ?_⟩
        · rw [Hm.swp_len]
          omega
        · rw [upd_same, es4]
        · exact (he3.kp kU hp3).perm (Hm.swp_perm _ _ _)
        · rw [Hm.swp_len]
          exact hc1
        · rw [← eD]
          exact hr3
    · have c' : ¬ 2 * pl + 1 < es3.length := fun z => c (decide_eq_true (by rw [vs_len]; omega))
      have eD := Hm.down.eq_1 Ent.t es3 pl
      rw [dif_neg c'] at eD
      rw [eD] at hr3
      refine ⟨_, rfl, _, rfl, _, rfl, _, rfl, p, es3, top, pl, rfl, hp3, he3, hl3, fun H' k' h' => ?_⟩
      refine q H' (k3.trans k') ?_
      rw [h']
      unfold Hm.sink
      rw [← hr3]
end
end K13

namespace K13
open PySem PySem.Spec PyProof.Rows L2
/-! ### entries as data -/
abbrev Ent.d (e : Ent) : PyData := .tuple [.int e.t, .int e.k]
abbrev Ent.pr (e : Ent) : Int × Int := (e.t, e.k)
abbrev rowsD (es : List Ent) : PyData := .list (es.map Ent.d)
section
variable {K : PySem.W.Frag}
theorem dp_ent {H : Hp} {e : Ent} (h : EntAt H e) : Dp K H e.v e.d := .tup (SqT.of h) (.cons (.int _) (.cons (.int _) .nil))
theorem dp_all {H : Hp} : ∀ {es : List Ent}, Ents H es → DpAll K H (vsOf es) (es.map Ent.d)
  | [], _ => .nil
  | e :: r, h => .cons (dp_ent (h e List.mem_cons_self)) (dp_all fun x hx => h x (List.mem_cons_of_mem _ hx))
theorem dp_rows {H : Hp} {p : Addr} {es : List Ent} (hp : SqL K H p (vsOf es)) (h : Ents H es) : Dp K H (.ref p) (rowsD es) := .lst hp (dp_all h)
theorem dp_emp {H : Hp} {p : Addr} (hp : SqL K H p []) : Dp K H (.ref p) (.list []) := .lst hp .nil
end
theorem lay_rows : ∀ es : List Ent, PyData.canLayAll0 (es.map Ent.d) = true
  | [] => rfl
  | e :: r => by
    show (PyData.canLay0 e.d && PyData.canLayAll0 (r.map Ent.d)) = true
    rw [lay_rows r]
    rfl
theorem depth_rows : ∀ es : List Ent, PyData.depthAll (es.map Ent.d) ≤ 1
  | [] => Nat.zero_le _
  | e :: r => by
    show max (PyData.depth e.d) (PyData.depthAll (r.map Ent.d)) ≤ 1
    exact Nat.max_le.mpr ⟨Nat.le_refl 1, depth_rows r⟩
theorem shaped_rows (es : List Ent) : SeqAt.shaped (rowsD es) = true := by
  unfold SeqAt.shaped
  refine Bool.and_eq_true_iff.mpr ⟨lay_rows es, decide_eq_true ?_⟩
  show PyData.depthAll (es.map Ent.d) + 1 ≤ 64
  have := depth_rows es
  omega
theorem shaped_ent (e : Ent) : SeqAt.shaped e.d = true := rfl
theorem eqv_ent (a b : Ent) : PyData.eqv a.d b.d = decide (a.pr = b.pr) := by
  show (a.t == b.t && (a.k == b.k && true)) = _
  rw [Bool.and_true, Bool.eq_iff_iff, Bool.and_eq_true_iff, beq_iff_eq, beq_iff_eq, decide_eq_true_iff]
  exact ⟨fun ⟨x, y⟩ => by rw [Ent.pr, x, y], fun h => ⟨(Prod.mk.inj h).1, (Prod.mk.inj h).2⟩⟩
theorem eqv_all : ∀ es fs : List Ent, PyData.eqvAll (es.map Ent.d) (fs.map Ent.d) = decide (es.map Ent.pr = fs.map Ent.pr)
  | [], [] => rfl
  | [], f :: r => rfl
  | e :: r, [] => rfl
  | e :: r, f :: q => by
    show (PyData.eqv e.d f.d && PyData.eqvAll (r.map Ent.d) (q.map Ent.d)) = _
    rw [eqv_ent, eqv_all r q, Bool.eq_iff_iff, Bool.and_eq_true_iff, decide_eq_true_iff, decide_eq_true_iff, decide_eq_true_iff]
    show _ ↔ e.pr :: r.map Ent.pr = f.pr :: q.map Ent.pr
    exact ⟨fun ⟨x, y⟩ => by rw [x, y], fun h => ⟨(List.cons.inj h).1, (List.cons.inj h).2⟩⟩
theorem eqv_rows (es fs : List Ent) : PyData.eqv (rowsD es) (rowsD fs) = decide (es.map Ent.pr = fs.map Ent.pr) := eqv_all es fs
theorem eqv_rows0 (es : List Ent) : PyData.eqv (rowsD es) (.list []) = es.isEmpty := by
  cases es with
  | nil => rfl
  | cons e r => rfl
theorem Ents.sub {H : Hp} {es fs : List Ent} (h : Ents H es) (s : ∀ x ∈ fs, x ∈ es) : Ents H fs := fun e he => h e (s e he)
theorem Ents.same {H H' : Hp} {es : List Ent} (h : Ents H es) (s : Same H H') : Ents H' es := fun e he => s _ _ (h e he)
theorem same_new {H : Hp} {p : Addr} {o : HO} (h : H p = none) : Same H (upd H p o) := fun b x e => by
  rw [upd_ne (ne_of_none e h)]
  exact e
theorem Same.kp {H H' : Hp} (h : Same H H') (ps : List Addr) : Kp ps H H' := fun b o _ e => h b o e
/-- what changed was new -/
theorem kp_same {H H1 H2 : Hp} {p : Addr} (s : Same H H1) (n : H p = none) (k : Kp [p] H1 H2) : Same H H2 := fun b o e => k b o (fun m => by
  rw [List.mem_singleton.mp m, n] at e
  cases e) (s b o e)
section
variable {P : Program} {w : World} {K : PySem.W.Frag} {mg : Str → Option Value} {base : Heap}
/-! ### push_by -/
def spPushBy (fS : Addr) : Sp := fun vs H Q _ => ∃ (p : Addr) (es : List Ent) (e : Ent), vs = [.ref p, e.v, .ref fS] ∧ H p = some (.lst (vsOf es)) ∧ Ents H es ∧ EntAt H e ∧ es.length ≤ 100000 ∧
  ∀ H', Kp [p] H H' → H' p = some (.lst (vsOf (Hm.push Ent.t es e))) → Q .non H'
theorem ok_pushBy (T : Txt K mg) : FnOk P w K mg base CX0 3 T.aPushBy T.dPushBy ["heap", "item", "less"] (spPushBy T.aIsSooner) := by
  have GRise : FnOk P w K mg base CX0 2 T.aRise T.dRise ["heap", "top", "place", "less"] (spRise T.aIsSooner) := ok_rise T
  refine T.fPushBy.ok scPushBy (fun vs H Q E h => ?_) (fun cdv A outer s H vs Q E hr h => ?_)
  · obtain ⟨p, es, e, rfl, _⟩ := h
    rfl
  · obtain ⟨p, es, e, rfl, hp, he, hE, hl, q⟩ := h
    refine ⟨_, (pss_cons (ps_expr (pe_bm PySem.F.plainAttrs_list PySem.F.slot_list_append PySem.F.type_list_append mt_append (pv 0) (pa_cons (pv 1) pa_nil)))
      (pss_one (ps_expr (pe_call GRise (hr.mono (by decide)) (by rfl) T.gRise T.fRise.kp T.bRise .nil pass0 (pa_cons (pv 0) (pa_cons pe_int (pa_cons (pe_op op_sub (pe_callB call_len_seq (by rfl) T.n_len PySem.boot_len (pa_cons (pv 0) pa_nil)) pe_int) (pa_cons (pv 2) pa_nil)))))))), ?_⟩
    refine ⟨_, rfl, .inl ⟨rfl, _, SqL.of hp⟩, _, rfl, p, _, _, rfl, rfl, hp, ?_, ?_⟩
    · rw [vs_len]
      exact Nat.lt_of_le_of_lt hl (by decide)
    have ev : vsOf es ++ [e.v] = vsOf (es ++ [e]) := by
      show _ = List.map Ent.v _
      rw [List.map_append]
      rfl
    have k1 : Kp [p] H (upd H p (.lst (vsOf es ++ [e.v]))) := (Kp.refl _ _).wr (List.mem_singleton.mpr rfl)
    have h1 : Ents (upd H p (.lst (vsOf es ++ [e.v]))) (es ++ [e]) := by
      refine Ents.kp (H := H) (xs := vsOf es) (fun x hx => ?_) k1 hp
      rcases List.mem_append.mp hx with hx | hx
      · exact he x hx
      · rw [List.mem_singleton.mp hx]
        exact hE
    refine ⟨_, rfl, _, rfl, p, _, rfl, .inl (SqL.of upd_same), _, _, rfl, rfl, _, rfl, p, es ++ [e], 0, es.length, ?_, ?_, h1, ?_, fun H' k' h' => ?_⟩
    · have : ((vsOf es ++ [e.v]).length : Int) - 1 = (es.length : Int) := by
        rw [List.length_append, vs_len]
        show ((es.length + 1 : Nat) : Int) - 1 = _
        omega
      dsimp only
      rw [this]
      rfl
    · rw [upd_same, ev]
    · rw [List.length_append]
      show es.length < es.length + 1
      omega
    · exact q H' (k1.trans k') h'
/-! ### pop_by -/
def spPopBy (fS : Addr) : Sp := fun vs H Q _ => ∃ (p : Addr) (es : List Ent) (x : Ent), vs = [.ref p, .ref fS] ∧ H p = some (.lst (vsOf es)) ∧ Ents H es ∧ es[0]? = some x ∧
  ∀ H', Kp [p] H H' → H' p = some (.lst (vsOf (Hm.popL Ent.t es))) → Q x.v H'
theorem ok_popBy (T : Txt K mg) : FnOk P w K mg base CX0 4 T.aPopBy T.dPopBy ["heap", "less"] (spPopBy T.aIsSooner) := by
  have GSink : FnOk P w K mg base CX0 3 T.aSink T.dSink ["heap", "top", "less"] (spSink T.aIsSooner) := ok_sink T
  refine T.fPopBy.ok scPopBy (fun vs H Q E h => ?_) (fun cdv A outer s H vs Q E hr h => ?_)
  · obtain ⟨p, es, x, rfl, _⟩ := h
    rfl
  · obtain ⟨p, es, x, rfl, hp, he, hx, q⟩ := h
    refine ⟨_, (pss_cons (ps_set (i := 2) scPopBy.nd rfl (.inl rfl) (pe_bm0 PySem.F.plainAttrs_list PySem.F.slot_list_pop PySem.F.type_list_pop mt_pop (pv 0)))
      (pss_cons (ps_if (pt_cmpR (r := rEqD K) (op_eqD hr.units) (pv 0) (pe_lst pa_nil) (nomark _))
      (pss_one (ps_ret (pv 2)))
      pss_nil)
      (pss_cons (ps_set (i := 3) scPopBy.nd rfl (.inl rfl) (pe_ix (r := rIxL K) ix_list (pv 0) pe_int (fun _ _ => rfl)))
      (pss_cons (ps_asg (pv 2) (pg_sub (pv 0) pe_int set_list))
      (pss_cons (ps_expr (pe_call GSink (hr.mono (by decide)) (by rfl) T.gSink T.fSink.kp T.bSink .nil pass0 (pa_cons (pv 0) (pa_cons pe_int (pa_cons (pv 1) pa_nil)))))
      (pss_one (ps_ret (pv 3)))))))), ?_⟩
    have hne : es ≠ [] := fun z => by
      rw [z] at hx
      simp at hx
    have hz : es.getLast? = some (es.getLast hne) := List.getLast?_eq_some_getLast hne
    have hlast : (vsOf es)[(vsOf es).length - 1]? = some (es.getLast hne).v := by
      rw [vs_len]
      refine vs_at ?_
      rw [← List.getLast?_eq_getElem?]
      exact hz
    have ed : (vsOf es).dropLast = vsOf es.dropLast := by
      show _ = List.map Ent.v _
      rw [List.map_dropLast]
    have k1 : Kp [p] H (upd H p (.lst (vsOf es).dropLast)) := (Kp.refl _ _).wr (List.mem_singleton.mpr rfl)
    have h1 : Ents (upd H p (.lst (vsOf es).dropLast)) es := he.kp k1 hp
    refine ⟨_, rfl, .inl ⟨rfl, _, SqL.of hp⟩, p, _, _, rfl, rfl, hp, hlast, ?_⟩
    rw [ed] at k1 h1 ⊢
    have h1d : Ents (upd H p (.lst (vsOf es.dropLast))) es.dropLast := h1.sub fun y hy => (List.dropLast_sublist es).subset hy
    -- if heap == []
    refine ⟨_, rfl, Nat.zero_le _, fun U nU => ?_⟩
    have s2 := same_new (o := .lst []) nU
    have hp2 : (upd (upd H p (.lst (vsOf es.dropLast))) U (.lst [])) p = some (.lst (vsOf es.dropLast)) := s2 _ _ upd_same
    refine ⟨rowsD es.dropLast, .list [], dp_rows (SqL.of hp2) (h1d.same s2), dp_emp (SqL.of upd_same), shaped_rows _, rfl, _, rfl, ?_⟩
    rw [eqv_rows0]
    have ep : Hm.popL Ent.t es = if es.dropLast.isEmpty then [] else Hm.sink Ent.t (es.dropLast.set 0 (es.getLast hne)) 0 := by
      unfold Hm.popL
      rw [hz]
    refine ite2 (fun c => ?_) (fun c => ?_)
    · rw [if_pos c] at ep
      refine ⟨_, rfl, ?_⟩
      have e1 : es.getLast hne = x := by
        cases es with
        | nil => exact absurd rfl hne
        | cons a r =>
          cases r with
          | nil => exact Option.some.inj hx
          | cons b r => simp at c
      rw [e1]
      refine q _ (k1.trans (Same.kp s2 _)) ?_
      rw [hp2, ep]
      have : es.dropLast = [] := List.isEmpty_iff.mp c
      rw [this]
    · rw [if_neg c] at ep
      have hx2 : es.dropLast[0]? = some x := by
        cases es with
        | nil => exact absurd rfl hne
        | cons a r =>
          cases r with
          | nil => exact absurd rfl c
          | cons b r => exact hx
      have hpos : 0 < es.dropLast.length := (List.getElem?_eq_some_iff.mp hx2).1
      -- first = heap[0]; heap[0] = last
      refine ⟨_, rfl, p, _, 0, x.v, rfl, rfl, SqL.of hp2, atI_nat (j := 0) (vs_at hx2), ?_⟩
      refine ⟨_, rfl, _, rfl, p, _, 0, 0, rfl, rfl, hp2, ixN_nat (j := 0) (by rw [vs_len]; exact hpos), ?_⟩
      rw [vs_set]
      have k3 : Kp [p] H (upd (upd (upd H p (.lst (vsOf es.dropLast))) U (.lst [])) p (.lst (vsOf (es.dropLast.set 0 (es.getLast hne))))) := (k1.trans (Same.kp s2 _)).wr (List.mem_singleton.mpr rfl)
      have h3 : Ents (upd (upd (upd H p (.lst (vsOf es.dropLast))) U (.lst [])) p (.lst (vsOf (es.dropLast.set 0 (es.getLast hne))))) (es.dropLast.set 0 (es.getLast hne)) := by
        refine (he.kp k3 hp).sub fun y hy => ?_
        rcases List.mem_or_eq_of_mem_set hy with hy | hy
        · exact (List.dropLast_sublist es).subset hy
        · rw [hy]
          exact List.getLast_mem hne
      refine ⟨_, rfl, _, rfl, p, _, 0, rfl, upd_same, h3, by rw [List.length_set]; exact hpos, fun H' k' h' => ?_⟩
      refine ⟨_, rfl, ?_⟩
      refine q H' (k3.trans k') ?_
      rw [ep]
      exact h'
/-! ### heapify_by -/
def spHeapifyBy (fS : Addr) : Sp := fun vs H Q _ => ∃ (p : Addr) (es : List Ent), vs = [.ref p, .ref fS] ∧ H p = some (.lst (vsOf es)) ∧ Ents H es ∧ es.length ≤ 100000 ∧
  ∀ H', Kp [p] H H' → H' p = some (.lst (vsOf (Hm.heapify Ent.t es))) → Q .non H'
theorem ok_heapifyBy (T : Txt K mg) : FnOk P w K mg base CX0 4 T.aHeapifyBy T.dHeapifyBy ["heap", "less"] (spHeapifyBy T.aIsSooner) := by
  have GSink : FnOk P w K mg base CX0 3 T.aSink T.dSink ["heap", "top", "less"] (spSink T.aIsSooner) := ok_sink T
  refine T.fHeapifyBy.ok scHeapifyBy (fun vs H Q E h => ?_) (fun cdv A outer s H vs Q E hr h => ?_)
  · obtain ⟨p, es, rfl, _⟩ := h
    rfl
  · obtain ⟨p, es, rfl, hp, he, hl, q⟩ := h
    refine ⟨_, (pss_one (ps_for PassesOwn.never rfl (pi_range3 (by rfl) T.n_range (pa_cons (pe_op op_sub (pe_op op_fdiv (pe_callB call_len_seq (by rfl) T.n_len PySem.boot_len (pa_cons (pv 0) pa_nil)) pe_int) pe_int) (pa_cons (pe_un un_neg pe_int) (pa_cons (pe_un un_neg pe_int) pa_nil)))) (pg_name (i := 2) scHeapifyBy.nd rfl (.inl rfl))
      (pss_one (ps_expr (pe_call GSink (hr.mono (by decide)) (by rfl) T.gSink T.fSink.kp T.bSink .nil pass0 (pa_cons (pv 0) (pa_cons (pv 2) (pa_cons (pv 1) pa_nil)))))))), ?_⟩
    have e1 : ((vsOf es).length : Int) / 2 - 1 = ((es.length / 2 : Nat) : Int) - 1 := by
      rw [vs_len]
      omega
    refine ⟨_, rfl, p, _, rfl, .inl (SqL.of hp), _, _, rfl, rfl, ⟨by decide, by decide⟩, _, _, rfl, rfl, _, rfl, _, rfl, _, _, _, es.length / 2, rfl, ?_, ?_⟩
    · have : (((es.length / 2 : Nat) : Int) - 1 - (-1)).toNat = es.length / 2 := by omega
      rw [e1]
      rw [← this]
      have r := RgC.neg (i := ((es.length / 2 : Nat) : Int) - 1) (j := -1) (by omega) (by omega) (by omega) (by omega)
      rw [this] at r ⊢
      exact r
    refine for_rangeC (fun i σ H3 => ∃ (es3 : List Ent) (y2 : Option V), σ = [some (.ref p), some (.ref T.aIsSooner), y2] ∧ es3.length = es.length ∧ Kp [p] H H3 ∧ H3 p = some (.lst (vsOf es3)) ∧ Ents H3 es3 ∧ Hm.heapTo Ent.t (es.length / 2 - i) es3 = Hm.heapify Ent.t es)
      ⟨es, none, rfl, rfl, Kp.refl _ _, hp, he, rfl⟩ (fun i σ H3 hi hW => ?_) (fun σ H3 hW => ?_)
    · obtain ⟨es3, y2, rfl, l3, k3, hp3, he3, r3⟩ := hW
      have e2 : ((vsOf es).length : Int) / 2 - 1 + (i : Int) * (-1) = ((es.length / 2 - i - 1 : Nat) : Int) := by
        rw [e1]
        omega
      dsimp only [gName]
      rw [e2]
      refine ⟨_, rfl, _, rfl, _, rfl, p, es3, es.length / 2 - i - 1, rfl, hp3, he3, by omega, fun H' k' h' => ?_⟩
      refine ⟨Hm.sink Ent.t es3 (es.length / 2 - i - 1), _, rfl, by rw [Hm.sink_len]; exact l3, k3.trans k', h', (he3.kp k' hp3).perm (Hm.sink_perm _ _ _), ?_⟩
      rw [← r3, show es.length / 2 - i = (es.length / 2 - i - 1) + 1 by omega]
      rfl
    · obtain ⟨es3, y2, rfl, l3, k3, hp3, he3, r3⟩ := hW
      refine q H3 k3 ?_
      rw [← r3, Nat.sub_self]
      exact hp3
end
end K13

namespace K13
open PySem PySem.Spec PyProof.Rows L2
/-! ### comprehensions: what is gathered so far, and the heap -/
theorem lcL {K : PySem.W.Frag} {a : Addr} {xs : List V} {j : Nat} {tt : TT} {te : TE} {vs : List Nat} {σ : L2.St} {H1 : Hp} {D : Addr} {Qd : Hp → Prop} (R : Nat → List V → Hp → Prop) (hn : xs.length ≤ 100000)
    (hw : ∀ x, wipe ((wipe σ vs).set j (some x)) vs = wipe σ vs)
    (hx : ∀ i acc H, R i acc H → SqL K H a xs) (h0 : R 0 [] (upd H1 D (.lst [])))
    (hs : ∀ i x acc H (Y : V → Hp → Prop) (Z : Hp → Prop), xs[i]? = some x → R i acc H → H D = some (.lst acc) → (∀ y H4, H4 D = some (.lst acc) → R (i + 1) (acc ++ [y]) (upd H4 D (.lst (acc ++ [y]))) → Y y H4) → (∀ H3, H3 D = some (.lst acc) → R (i + 1) acc H3 → Z H3) →
      tt ((wipe σ vs).set j (some x)) H fun b H3 => if b = true then te ((wipe σ vs).set j (some x)) H3 Y else Z H3)
    (hd : ∀ acc H, R xs.length acc H → H D = some (.lst acc) → Qd H) :
    ∃ W : Nat → Nat → Hp → Prop, (∃ m, W 0 m (upd H1 D (.lst []))) ∧ ∀ i m H, W i m H →
      ((Itl K a).stop i H ∧ Qd H) ∨ ((Itl K a).go i H ∧ ∃ Nx : Hp → Prop, (∀ H', Nx H' → ∃ m', m' < m ∧ W (i + 1) m' H') ∧ ∀ x H', (Itl K a).yld i H x H' → gName j x (wipe σ vs) H' fun σ2 H2 => wipe σ2 vs = wipe σ vs ∧ tt σ2 H2 fun b H3 =>
        if b = true then te σ2 H3 fun y H4 => ∃ acc, H4 D = some (.lst acc) ∧ acc.length < sizeLine ∧ Nx (upd H4 D (.lst (acc ++ [y]))) else Nx H3) := by
  refine lc_list (xs := xs) (fun i H => ∃ acc, acc.length ≤ i ∧ H D = some (.lst acc) ∧ R i acc H) ⟨[], Nat.le_refl _, upd_same, h0⟩ (fun i H _ ⟨acc, _, _, r⟩ => hx i acc H r) (fun i x H hi ⟨acc, ha, hD, r⟩ => ⟨hw x, ?_⟩) (fun H ⟨acc, _, hD, r⟩ => hd acc H r hD)
  have hi' : i < xs.length := (List.getElem?_eq_some_iff.mp hi).1
  exact hs i x acc H _ _ hi r hD (fun y H4 h4 r4 => ⟨acc, h4, Nat.lt_of_le_of_lt (show acc.length ≤ 100000 by omega) (by decide), acc ++ [y], by rw [List.length_append]; exact Nat.succ_le_succ ha, upd_same, r4⟩) (fun H3 h3 r3 => ⟨acc, Nat.le_succ_of_le ha, h3, r3⟩)
theorem lcR {lo : Int} {n : Nat} {j : Nat} {tt : TT} {te : TE} {vs : List Nat} {σ : L2.St} {H1 : Hp} {D : Addr} {Qd : Hp → Prop} (R : Nat → List V → Hp → Prop) (hn : n ≤ 100000)
    (hw : ∀ x, wipe ((wipe σ vs).set j (some x)) vs = wipe σ vs) (h0 : R 0 [] (upd H1 D (.lst [])))
    (hs : ∀ i acc H (Y : V → Hp → Prop) (Z : Hp → Prop), i < n → R i acc H → H D = some (.lst acc) → (∀ y H4, H4 D = some (.lst acc) → R (i + 1) (acc ++ [y]) (upd H4 D (.lst (acc ++ [y]))) → Y y H4) → (∀ H3, H3 D = some (.lst acc) → R (i + 1) acc H3 → Z H3) →
      tt ((wipe σ vs).set j (some (.int (lo + i)))) H fun b H3 => if b = true then te ((wipe σ vs).set j (some (.int (lo + i)))) H3 Y else Z H3)
    (hd : ∀ acc H, R n acc H → H D = some (.lst acc) → Qd H) :
    ∃ W : Nat → Nat → Hp → Prop, (∃ m, W 0 m (upd H1 D (.lst []))) ∧ ∀ i m H, W i m H →
      ((Itr lo n).stop i H ∧ Qd H) ∨ ((Itr lo n).go i H ∧ ∃ Nx : Hp → Prop, (∀ H', Nx H' → ∃ m', m' < m ∧ W (i + 1) m' H') ∧ ∀ x H', (Itr lo n).yld i H x H' → gName j x (wipe σ vs) H' fun σ2 H2 => wipe σ2 vs = wipe σ vs ∧ tt σ2 H2 fun b H3 =>
        if b = true then te σ2 H3 fun y H4 => ∃ acc, H4 D = some (.lst acc) ∧ acc.length < sizeLine ∧ Nx (upd H4 D (.lst (acc ++ [y]))) else Nx H3) := by
  refine lc_range (fun i H => ∃ acc, acc.length ≤ i ∧ H D = some (.lst acc) ∧ R i acc H) ⟨[], Nat.le_refl _, upd_same, h0⟩ (fun i H hi ⟨acc, ha, hD, r⟩ => ⟨hw _, ?_⟩) (fun H ⟨acc, _, hD, r⟩ => hd acc H r hD)
  exact hs i acc H _ _ hi r hD (fun y H4 h4 r4 => ⟨acc, h4, Nat.lt_of_le_of_lt (show acc.length ≤ 100000 by omega) (by decide), acc ++ [y], by rw [List.length_append]; exact Nat.succ_le_succ ha, upd_same, r4⟩) (fun H3 h3 r3 => ⟨acc, Nat.le_succ_of_le ha, h3, r3⟩)
/-- the same without a test -/
theorem lcLY {K : PySem.W.Frag} {a : Addr} {xs : List V} {j : Nat} {te : TE} {vs : List Nat} {σ : L2.St} {H1 : Hp} {D : Addr} {Qd : Hp → Prop} (R : Nat → List V → Hp → Prop) (hn : xs.length ≤ 100000)
    (hw : ∀ x, wipe ((wipe σ vs).set j (some x)) vs = wipe σ vs)
    (hx : ∀ i acc H, R i acc H → SqL K H a xs) (h0 : R 0 [] (upd H1 D (.lst [])))
    (hs : ∀ i x acc H (Y : V → Hp → Prop), xs[i]? = some x → R i acc H → H D = some (.lst acc) → (∀ y H4, H4 D = some (.lst acc) → R (i + 1) (acc ++ [y]) (upd H4 D (.lst (acc ++ [y]))) → Y y H4) → te ((wipe σ vs).set j (some x)) H Y)
    (hd : ∀ acc H, R xs.length acc H → H D = some (.lst acc) → Qd H) :
    ∃ W : Nat → Nat → Hp → Prop, (∃ m, W 0 m (upd H1 D (.lst []))) ∧ ∀ i m H, W i m H →
      ((Itl K a).stop i H ∧ Qd H) ∨ ((Itl K a).go i H ∧ ∃ Nx : Hp → Prop, (∀ H', Nx H' → ∃ m', m' < m ∧ W (i + 1) m' H') ∧ ∀ x H', (Itl K a).yld i H x H' → gName j x (wipe σ vs) H' fun σ2 H2 => wipe σ2 vs = wipe σ vs ∧ tYes σ2 H2 fun b H3 =>
        if b = true then te σ2 H3 fun y H4 => ∃ acc, H4 D = some (.lst acc) ∧ acc.length < sizeLine ∧ Nx (upd H4 D (.lst (acc ++ [y]))) else Nx H3) := by
  refine lcL (tt := tYes) R hn hw hx h0 (fun i x acc H Y Z a b c d e => ?_) hd
  show (if true = true then te ((wipe σ vs).set j (some x)) H Y else Z H)
  rw [if_pos rfl]
  exact hs i x acc H Y a b c d
theorem lcRY {lo : Int} {n : Nat} {j : Nat} {te : TE} {vs : List Nat} {σ : L2.St} {H1 : Hp} {D : Addr} {Qd : Hp → Prop} (R : Nat → List V → Hp → Prop) (hn : n ≤ 100000)
    (hw : ∀ x, wipe ((wipe σ vs).set j (some x)) vs = wipe σ vs) (h0 : R 0 [] (upd H1 D (.lst [])))
    (hs : ∀ i acc H (Y : V → Hp → Prop), i < n → R i acc H → H D = some (.lst acc) → (∀ y H4, H4 D = some (.lst acc) → R (i + 1) (acc ++ [y]) (upd H4 D (.lst (acc ++ [y]))) → Y y H4) → te ((wipe σ vs).set j (some (.int (lo + i)))) H Y)
    (hd : ∀ acc H, R n acc H → H D = some (.lst acc) → Qd H) :
    ∃ W : Nat → Nat → Hp → Prop, (∃ m, W 0 m (upd H1 D (.lst []))) ∧ ∀ i m H, W i m H →
      ((Itr lo n).stop i H ∧ Qd H) ∨ ((Itr lo n).go i H ∧ ∃ Nx : Hp → Prop, (∀ H', Nx H' → ∃ m', m' < m ∧ W (i + 1) m' H') ∧ ∀ x H', (Itr lo n).yld i H x H' → gName j x (wipe σ vs) H' fun σ2 H2 => wipe σ2 vs = wipe σ vs ∧ tYes σ2 H2 fun b H3 =>
        if b = true then te σ2 H3 fun y H4 => ∃ acc, H4 D = some (.lst acc) ∧ acc.length < sizeLine ∧ Nx (upd H4 D (.lst (acc ++ [y]))) else Nx H3) := by
  refine lcR (tt := tYes) R hn hw h0 (fun i acc H Y Z a b c d e => ?_) hd
  show (if true = true then te ((wipe σ vs).set j (some (.int (lo + i)))) H Y else Z H)
  rw [if_pos rfl]
  exact hs i acc H Y a b c d
/-! ### the errors -/
/-- what is known of BadValue, a class below LoopError, whose __init__ is LoopError's -/
structure ETxt (P : Program) (K : PySem.W.Frag) (mg : Str → Option Value) where
  CB : Addr
  CL : Addr
  fI : Addr
  fdI : FuncData
  gCB : mg "BadValue" = some (.ref CB)
  gCL : mg "LoopError" = some (.ref CL)
  sub : SupI.SubTxt K CB CL
  why : PySem.W.findIn K (.ref CB) "why" = some none
  iC : PySem.W.findIn K (.ref CB) "__init__" = some (some (.ref fI))
  tI : PySem.W.typeIn K (.ref fI) = some (.type "function")
  ini : ∀ (w : World) (base : Heap), FnOk P w K mg base CX0 1 fI fdI ["self", "why"] (SupI.spInit K CL "why")
  bI : Binds K fdI ["self", "why"] []
theorem raise_rd {K : PySem.W.Frag} {H : Hp} {CB CL : Addr} {y : V} {Q : XK} (S : SupI.SubTxt K CB CL) (hw : PySem.W.findIn K (.ref CB) "why" = some none) (h : ∀ d, H d = none → Q (.ref CB) (some d) (upd H d (.xd [("why", y)]))) :
    ∀ a, H a = none → SupI.spInit K CL "why" (.ref a :: ([y] ++ [])) (upd H a (exo a CB none)) (fun v H2 => v = .non ∧ ∃ (d : Addr) (fs : List (Str × V)), H2 a = some (exo a CB (some d)) ∧ H2 d = some (exd d fs) ∧ H d = none ∧ Q (.ref CB) (some d) (upd (del H2 a) d (.xd fs))) (fun _ _ _ => False) := by
  intro a na
  refine ⟨a, CB, y, rfl, S, hw, upd_same, fun dx ndx nda => ?_⟩
  have hd : H dx = none := by
    rw [upd_ne nda] at ndx
    exact ndx
  refine ⟨rfl, dx, [("why", y)], upd_same, by rw [upd_ne nda, upd_same], hd, ?_⟩
  have e : upd (del (upd (upd (upd H a (exo a CB none)) dx (exd dx [("why", y)])) a (exo a CB (some dx))) a) dx (.xd [("why", y)]) = upd H dx (.xd [("why", y)]) := by
    funext b
    by_cases h1 : b = dx
    · rw [h1, upd_same, upd_same]
    · rw [upd_ne h1, upd_ne h1]
      by_cases h2 : b = a
      · rw [h2, del_same, na]
      · rw [del_ne h2, upd_ne h2, upd_ne h1, upd_ne h2]
  rw [e]
  exact h dx hd
/-! ### what is an entry, of any things -/
def wholeB : V → Bool
  | .int _ => true
  | _ => false
def Scal : V → Prop
  | .int _ | .bl _ | .non | .str _ => True
  | _ => False
theorem Scal.ty {K : PySem.W.Frag} {H : Hp} : ∀ {v : V}, Scal v → (∃ i, v = .int i) ∨ (∃ b, v = .bl b) ∨ v = .non ∨ ∃ x, v = .str x
  | .int i, _ => .inl ⟨i, rfl⟩
  | .bl b, _ => .inr (.inl ⟨b, rfl⟩)
  | .non, _ => .inr (.inr (.inl rfl))
  | .str x, _ => .inr (.inr (.inr ⟨x, rfl⟩))
/-- whether the items of a tuple are those of an entry -/
def entB (xs : List V) : Bool := match xs with
  | [a, b] => wholeB a && wholeB b
  | _ => false
/-- a thing of which it is known whether it is an entry -/
inductive ItB (H : Hp) : V → Bool → Prop
  | scal {v : V} : Scal v → ItB H v false
  | lst {a : Addr} {xs : List V} : H a = some (.lst xs) → ItB H (.ref a) false
  | tup {a : Addr} {xs : List V} : H a = some (.tup xs) → (∀ x ∈ xs, Scal x) → ItB H (.ref a) (entB xs)
theorem ItB.same {H H' : Hp} {v : V} {b : Bool} (s : Same H H') (h : ItB H v b) : ItB H' v b := by
  cases h with
  | scal h => exact .scal h
  | lst h => exact .lst (s _ _ h)
  | tup h h2 => exact .tup (s _ _ h) h2
theorem ItB.ent {H : Hp} {e : Ent} (h : EntAt H e) : ItB H e.v true := ItB.tup (xs := [.int e.t, .int e.k]) h (fun x hx => by
  simp only [List.mem_cons, List.not_mem_nil, or_false] at hx
  rcases hx with rfl | rfl <;> trivial)
section
variable {P : Program} {w : World} {K : PySem.W.Frag} {mg : Str → Option Value} {base : Heap}
def spIsWhole : Sp := fun vs H Q _ => ∃ v : V, vs = [v] ∧ Scal v ∧ Q (.bl (wholeB v)) H
theorem ok_isWhole (T : Txt K mg) : FnOk P w K mg base CX0 1 T.aIsWhole T.dIsWhole ["thing"] spIsWhole := by
  refine T.fIsWhole.ok scIsWhole (fun vs H Q E h => ?_) (fun cdv A outer s H vs Q E hr h => ?_)
  · obtain ⟨i, rfl, _⟩ := h
    rfl
  · obtain ⟨v, rfl, hv, q⟩ := h
    refine ⟨_, (pss_one (ps_ret (pe_and (pe_callB call_isi (by rfl) T.n_isinstance (by decide +kernel) (pa_cons (pv 0) (pa_cons (pe_bltn (v := .ty "int") (by rfl) T.n_int (by decide +kernel) rfl) pa_nil))) (pe_one (pe_not (pe_callB call_isi (by rfl) T.n_isinstance (by decide +kernel) (pa_cons (pv 0) (pa_cons (pe_bltn (v := .ty "bool") (by rfl) T.n_bool (by decide +kernel) rfl) pa_nil)))))))), ?_⟩
    rcases Scal.ty (K := K) (H := H) hv with ⟨i, rfl⟩ | ⟨b, rfl⟩ | rfl | ⟨x, rfl⟩
    · refine ⟨_, rfl, _, _, _, _, true, rfl, ClsV.ty _, TyX.base (.int i), kit_ty (by decide +kernel), true, rfl, iteT ?_⟩
      exact ⟨_, rfl, _, _, _, _, false, rfl, ClsV.ty _, TyX.base (.int i), kit_ty (by decide +kernel), false, rfl, q⟩
    · refine ⟨_, rfl, _, _, _, _, true, rfl, ClsV.ty _, TyX.base (.bl b), kit_ty (by decide +kernel), true, rfl, iteT ?_⟩
      exact ⟨_, rfl, _, _, _, _, true, rfl, ClsV.ty _, TyX.base (.bl b), kit_ty (by decide +kernel), true, rfl, q⟩
    · exact ⟨_, rfl, _, _, _, _, false, rfl, ClsV.ty _, TyX.base .non, kit_ty (by decide +kernel), false, rfl, iteF q⟩
    · exact ⟨_, rfl, _, _, _, _, false, rfl, ClsV.ty _, TyX.base (.str x), kit_ty (by decide +kernel), false, rfl, iteF q⟩
def spIsEntry : Sp := fun vs H Q _ => ∃ (v : V) (b : Bool), vs = [v] ∧ ItB H v b ∧ Q (.bl b) H
theorem ok_isEntry (T : Txt K mg) : FnOk P w K mg base CX0 2 T.aIsEntry T.dIsEntry ["thing"] spIsEntry := by
  have GIsWhole : FnOk P w K mg base CX0 1 T.aIsWhole T.dIsWhole ["thing"] spIsWhole := ok_isWhole T
  refine T.fIsEntry.ok scIsEntry (fun vs H Q E h => ?_) (fun cdv A outer s H vs Q E hr h => ?_)
  · obtain ⟨i, b, rfl, _⟩ := h
    rfl
  · obtain ⟨v, b, rfl, hv, q⟩ := h
    refine ⟨_, (pss_one (ps_ret (pe_and (pe_callB call_isi (by rfl) T.n_isinstance (by decide +kernel) (pa_cons (pv 0) (pa_cons (pe_bltn (v := .ty "tuple") (by rfl) T.n_tuple (by decide +kernel) rfl) pa_nil))) (pe_and (pe_cmpR op_eq (pe_callB call_len_seq (by rfl) T.n_len PySem.boot_len (pa_cons (pv 0) pa_nil)) pe_int (nomark _)) (pe_and (pe_call GIsWhole (hr.mono (by decide)) (by rfl) T.gIsWhole T.fIsWhole.kp T.bIsWhole .nil pass0 (pa_cons (pe_ix (r := rIxT K) ix_tup (pv 0) pe_int (fun _ _ => rfl)) pa_nil)) (pe_one (pe_call GIsWhole (hr.mono (by decide)) (by rfl) T.gIsWhole T.fIsWhole.kp T.bIsWhole .nil pass0 (pa_cons (pe_ix (r := rIxT K) ix_tup (pv 0) pe_int (fun _ _ => rfl)) pa_nil)))))))), ?_⟩
    cases hv with
    | scal h =>
      rcases Scal.ty (K := K) (H := H) h with ⟨i, rfl⟩ | ⟨b, rfl⟩ | rfl | ⟨x, rfl⟩
      · exact ⟨_, rfl, _, _, _, _, false, rfl, ClsV.ty _, TyX.base (.int i), kit_ty (by decide +kernel), false, rfl, iteF q⟩
      · exact ⟨_, rfl, _, _, _, _, false, rfl, ClsV.ty _, TyX.base (.bl b), kit_ty (by decide +kernel), false, rfl, iteF q⟩
      · exact ⟨_, rfl, _, _, _, _, false, rfl, ClsV.ty _, TyX.base .non, kit_ty (by decide +kernel), false, rfl, iteF q⟩
      · exact ⟨_, rfl, _, _, _, _, false, rfl, ClsV.ty _, TyX.base (.str x), kit_ty (by decide +kernel), false, rfl, iteF q⟩
    | lst h => exact ⟨_, rfl, _, _, _, _, false, rfl, ClsV.ty _, TyX.base (.lst h), kit_ty (by decide +kernel), false, rfl, iteF q⟩
    | @tup a xs h hs =>
      refine ⟨_, rfl, _, _, _, _, true, rfl, ClsV.ty _, TyX.base (.tup h), kit_ty (by decide +kernel), true, rfl, iteT ?_⟩
      refine ⟨_, rfl, _, _, rfl, .inr (SqT.of h), rfl, _, rfl, ite2 (fun c => ?_) (fun c => ?_)⟩
      · have c' : (xs.length : Int) = 2 := V.int.inj (of_decide_eq_true c)
        match xs, c', h, hs, q with
        | [x, y], _, h, hs, q =>
          refine ⟨_, rfl, _, _, 0, x, rfl, rfl, SqT.of h, atI_nat (j := 0) rfl, x, rfl, hs x (by simp), _, rfl, ite2 (fun d => ?_) (fun d => ?_)⟩
          · refine ⟨_, rfl, _, _, 1, y, rfl, rfl, SqT.of h, atI_nat (j := 1) rfl, y, rfl, hs y (by simp), ?_⟩
            have : entB [x, y] = wholeB y := by
              show (wholeB x && wholeB y) = _
              rw [d, Bool.true_and]
            rw [← this]
            exact q
          · have : entB [x, y] = false := by
              show (wholeB x && wholeB y) = _
              rw [show wholeB x = false by simpa using d, Bool.false_and]
            rw [← this]
            exact q
      · have : entB xs = false := by
          unfold entB
          split
          · exact absurd (decide_eq_true (by rfl)) c
          · rfl
        rw [← this]
        exact q
end
end K13

namespace K13
open PySem PySem.Spec PyProof.Rows L2
/-- what are no rows -/
inductive BadRows (H : Hp) : V → Prop
  | scal {v : V} : Scal v → BadRows H v
  | tup {a : Addr} {xs : List V} : H a = some (.tup xs) → BadRows H (.ref a)
  | dct {a : Addr} {kvs : List (Key × V)} : H a = some (.dK kvs) → BadRows H (.ref a)
  | long {a : Addr} {xs : List V} : H a = some (.lst xs) → 5000 < xs.length → BadRows H (.ref a)
  | item {a : Addr} {xs : List V} {f : V → Bool} : H a = some (.lst xs) → xs.length ≤ 5000 → (∀ x ∈ xs, ItB H x (f x)) → (∃ x ∈ xs, f x = false) → BadRows H (.ref a)
theorem BadRows.same {H H' : Hp} {v : V} (s : Same H H') (h : BadRows H v) : BadRows H' v := by
  cases h with
  | scal h => exact .scal h
  | tup h => exact .tup (s _ _ h)
  | dct h => exact .dct (s _ _ h)
  | long h h2 => exact .long (s _ _ h) h2
  | item h h2 h3 h4 => exact .item (s _ _ h) h2 (fun x hx => (h3 x hx).same s) h4
section
variable {P : Program} {w : World} {K : PySem.W.Frag} {mg : Str → Option Value} {base : Heap}
def spCheckRows (CB : Addr) : Sp := fun vs H Q E => ∃ v : V, vs = [v] ∧ ((∃ (p : Addr) (es : List Ent), v = .ref p ∧ H p = some (.lst (vsOf es)) ∧ Ents H es ∧ es.length ≤ 5000 ∧ ∀ H', Same H H' → Q .non H') ∨ (BadRows H v ∧ ∀ d H', Same H H' → (∃ fs, H' d = some (.xd fs)) → E (.ref CB) (some d) H'))
theorem ok_checkRows (T : Txt K mg) (Y : ETxt P K mg) : FnOk P w K mg base (L2.CX P w) 3 T.aCheckRows T.dCheckRows ["rows"] (spCheckRows Y.CB) := by
  obtain ⟨tM, gM⟩ := T.gMOST
  have GIsEntry : FnOk P w K mg base CX0 2 T.aIsEntry T.dIsEntry ["thing"] spIsEntry := ok_isEntry T
  refine T.fCheckRows.okX scCheckRows (fun vs H Q E h => ?_) (fun cdv A outer s H vs Q E hr h => ?_)
  · obtain ⟨v, rfl, _⟩ := h
    rfl
  · obtain ⟨v, rfl, h⟩ := h
    refine ⟨_, (pss_one (ps_if (PW.pt (pw_or (pt_not (pt_val (pe_callB call_isi (by rfl) T.n_isinstance (by decide +kernel) (pa_cons (pv 0) (pa_cons (pe_bltn (v := .ty "list") (by rfl) T.n_list (by decide +kernel) rfl) pa_nil))))) (pw_or (pt_cmpR op_gt (pe_callB call_len_seq (by rfl) T.n_len PySem.boot_len (pa_cons (pv 0) pa_nil)) (pe_glob (v := .int 5000) (by rfl) gM ⟨_, rfl⟩) (nomark _)) (pw_or1 (pt_not (pt_val (pe_callB (cr_all rfl) (by rfl) T.n_all (by decide +kernel) (pa_cons (pe_lc (own := [("one", 1)]) (g := gName 1) rfl scCheckRows.nd (pi_list (pv 0)) (blkOk_by (own := [("one", 1)]) (N := ["rows", "one"]) (sc := defScope sCheckRows) (by decide +kernel)) (fun _ _ _ _ _ => (pg_name (i := 1) scCheckRows.nd rfl (.inl rfl))) (fun _ _ _ _ _ => pts_nil) (fun _ _ _ _ _ => (pe_call GIsEntry (hr.mono (by decide)) (by rfl) T.gIsEntry T.fIsEntry.kp T.bIsEntry .nil pass0 (pa_cons (pv 1) pa_nil)))) pa_nil))))))))
      (pss_one (ps_raise rfl (takes_of rfl rfl rfl rfl) (pmk_oex Y.sub.oex Y.iC Y.tI (Y.ini _ _) (hr.mono (by decide)) Y.bI .nil pass0 (by rfl) Y.gCB (pa_cons pe_str pa_nil))))
      pss_nil)), ?_⟩
    have bad : ∀ H1, Same H H1 → (∀ d H', Same H H' → (∃ fs, H' d = some (.xd fs)) → E (.ref Y.CB) (some d) H') → (1 ≤ 1000 ∧ ∀ a, H1 a = none → SupI.spInit K Y.CL "why" (.ref a :: ([.str "rows"] ++ [])) (upd H1 a (exo a Y.CB none)) (fun v H2 => v = .non ∧ ∃ (d : Addr) (fs : List (Str × V)), H2 a = some (exo a Y.CB (some d)) ∧ H2 d = some (exd d fs) ∧ H1 d = none ∧ E (.ref Y.CB) (some d) (upd (del H2 a) d (.xd fs))) (fun _ _ _ => False)) :=
      fun H1 s1 e => ⟨by decide, raise_rd Y.sub Y.why fun d nd => e d _ (s1.trans (same_new nd)) ⟨_, upd_same⟩⟩
    rcases h with ⟨p, es, rfl, hp, he, hl, q⟩ | ⟨hb, e⟩
    · refine ⟨_, rfl, _, _, _, _, true, rfl, ClsV.ty _, TyX.base (.lst hp), kit_ty (by decide +kernel), true, rfl, iteF ?_⟩
      refine ⟨_, rfl, p, _, rfl, .inl (SqL.of hp), _, _, rfl, rfl, _, rfl, ?_⟩
      rw [show decide ((5000 : Int) < ((vsOf es).length : Int)) = false from decide_eq_false (by rw [vs_len]; omega)]
      refine iteF ?_
      refine ⟨_, rfl, p, rfl, ⟨_, SqL.of hp⟩, fun D nD => ?_⟩
      refine lcLY (xs := vsOf es) (fun i acc H3 => Same H H3 ∧ acc = List.replicate i (V.bl true)) (by rw [vs_len]; omega) (fun x => rfl) (fun i acc H3 r => SqL.of (r.1 _ _ hp)) ⟨same_new nD, rfl⟩ ?_ ?_
      · intro i x acc H3 Z hx ⟨s3, e3⟩ hD hZ
        rw [List.getElem?_map] at hx
        obtain ⟨e, he1, rfl⟩ := Option.map_eq_some_iff.mp hx
        refine ⟨_, rfl, e.v, true, rfl, ItB.ent (s3 _ _ (he e (List.mem_of_getElem? he1))), hZ _ _ hD ⟨?_, ?_⟩⟩
        · exact kp_same s3 nD ((Kp.refl _ _).wr (List.mem_singleton.mpr rfl))
        · rw [e3, List.replicate_succ']
      · intro acc H3 ⟨s3, e3⟩ hD
        refine ⟨D, List.replicate es.length true, rfl, SqL.of ?_, true, ?_, iteF (q H3 s3)⟩
        · rw [hD, e3, vs_len, List.map_replicate]
        · have : (List.replicate es.length true).all id = true := by
            rw [List.all_eq_true]
            intro b hb
            rw [List.eq_of_mem_replicate hb]
            rfl
          rw [this]
    · cases hb with
      | scal h =>
        rcases Scal.ty (K := K) (H := H) h with ⟨i, rfl⟩ | ⟨b, rfl⟩ | rfl | ⟨x, rfl⟩
        · exact ⟨_, rfl, _, _, _, _, false, rfl, ClsV.ty _, TyX.base (.int i), kit_ty (by decide +kernel), false, rfl, iteT (iteT (bad H (Same.refl _) e))⟩
        · exact ⟨_, rfl, _, _, _, _, false, rfl, ClsV.ty _, TyX.base (.bl b), kit_ty (by decide +kernel), false, rfl, iteT (iteT (bad H (Same.refl _) e))⟩
        · exact ⟨_, rfl, _, _, _, _, false, rfl, ClsV.ty _, TyX.base .non, kit_ty (by decide +kernel), false, rfl, iteT (iteT (bad H (Same.refl _) e))⟩
        · exact ⟨_, rfl, _, _, _, _, false, rfl, ClsV.ty _, TyX.base (.str x), kit_ty (by decide +kernel), false, rfl, iteT (iteT (bad H (Same.refl _) e))⟩
      | tup h => exact ⟨_, rfl, _, _, _, _, false, rfl, ClsV.ty _, TyX.base (.tup h), kit_ty (by decide +kernel), false, rfl, iteT (iteT (bad H (Same.refl _) e))⟩
      | dct h => exact ⟨_, rfl, _, _, _, _, false, rfl, ClsV.ty _, TyX.base (.dK h), kit_ty (by decide +kernel), false, rfl, iteT (iteT (bad H (Same.refl _) e))⟩
      | @long a xs h hl =>
        refine ⟨_, rfl, _, _, _, _, true, rfl, ClsV.ty _, TyX.base (.lst h), kit_ty (by decide +kernel), true, rfl, iteF ?_⟩
        refine ⟨_, rfl, a, _, rfl, .inl (SqL.of h), _, _, rfl, rfl, _, rfl, ?_⟩
        rw [show decide ((5000 : Int) < (xs.length : Int)) = true from decide_eq_true (by omega)]
        exact iteT (iteT (bad H (Same.refl _) e))
      | @item a xs f h hl hf hx =>
        refine ⟨_, rfl, _, _, _, _, true, rfl, ClsV.ty _, TyX.base (.lst h), kit_ty (by decide +kernel), true, rfl, iteF ?_⟩
        refine ⟨_, rfl, a, _, rfl, .inl (SqL.of h), _, _, rfl, rfl, _, rfl, ?_⟩
        rw [show decide ((5000 : Int) < (xs.length : Int)) = false from decide_eq_false (by omega)]
        refine iteF ?_
        refine ⟨_, rfl, a, rfl, ⟨_, SqL.of h⟩, fun D nD => ?_⟩
        refine lcLY (xs := xs) (fun i acc H3 => Same H H3 ∧ acc = ((xs.take i).map f).map V.bl) (by omega) (fun x => rfl) (fun i acc H3 r => SqL.of (r.1 _ _ h)) ⟨same_new nD, rfl⟩ ?_ ?_
        · intro i x acc H3 Z hx ⟨s3, e3⟩ hD hZ
          refine ⟨_, rfl, x, f x, rfl, (hf x (List.mem_of_getElem? hx)).same s3, hZ _ _ hD ⟨?_, ?_⟩⟩
          · exact kp_same s3 nD ((Kp.refl _ _).wr (List.mem_singleton.mpr rfl))
          · rw [e3, List.take_add_one, hx, List.map_append, List.map_append]
            rfl
        · intro acc H3 ⟨s3, e3⟩ hD
          rw [List.take_length] at e3
          rw [e3] at hD
          refine ⟨D, _, rfl, SqL.of hD, _, rfl, ?_⟩
          have : (xs.map f).all id = false := by
            obtain ⟨x, hx, hfx⟩ := hx
            rw [List.all_eq_false]
            exact ⟨f x, List.mem_map.mpr ⟨x, hx, rfl⟩, by rw [hfx]; exact Bool.false_ne_true⟩
          rw [this]
          exact iteT (bad H3 s3 e)
end
end K13

namespace K13
open PySem PySem.Spec PyProof.Rows L2
section
variable {P : Program} {w : World} {K : PySem.W.Frag} {mg : Str → Option Value} {base : Heap}
/-- rows as the functions take them -/
structure Rows (H : Hp) (v : V) (p : Addr) (es : List Ent) : Prop where
  ev : v = .ref p
  hp : H p = some (.lst (vsOf es))
  he : Ents H es
  hl : es.length ≤ 5000
theorem Rows.same {H H' : Hp} {v : V} {p : Addr} {es : List Ent} (h : Rows H v p es) (s : Same H H') : Rows H' v p es := ⟨h.ev, s _ _ h.hp, h.he.same s, h.hl⟩
/-! ### is_heap -/
def spIsHeap (CB : Addr) : Sp := fun vs H Q E => ∃ v : V, vs = [v] ∧ ((∃ (p : Addr) (es : List Ent), Rows H v p es ∧ ∀ H', Same H H' → Q (.bl (Hm.isHeapB Ent.t es)) H') ∨ (BadRows H v ∧ ∀ d H', Same H H' → (∃ fs, H' d = some (.xd fs)) → E (.ref CB) (some d) H'))
theorem ok_isHeap (T : Txt K mg) (Y : ETxt P K mg) : FnOk P w K mg base (L2.CX P w) 4 T.aIsHeap T.dIsHeap ["rows"] (spIsHeap Y.CB) := by
  have GCheckRows : FnOk P w K mg base (L2.CX P w) 3 T.aCheckRows T.dCheckRows ["rows"] (spCheckRows Y.CB) := ok_checkRows T Y
  have GIsSooner : FnOk P w K mg base CX0 1 T.aIsSooner T.dIsSooner ["one", "other"] spSooner := ok_sooner T
  refine T.fIsHeap.okX scIsHeap (fun vs H Q E h => ?_) (fun cdv A outer s H vs Q E hr h => ?_)
  · obtain ⟨p, rfl, _⟩ := h
    rfl
  · obtain ⟨v, rfl, h⟩ := h
    refine ⟨_, (pss_cons (ps_expr (pe_call GCheckRows (hr.mono (by decide)) (by rfl) T.gCheckRows T.fCheckRows.kp T.bCheckRows .nil (passes_call (takes_of rfl rfl rfl rfl) (fun _ _ _ _ h => h)) (pa_cons (pv 0) pa_nil)))
      (pss_one (ps_ret (pe_not (pe_callB (cr_any rfl) (by rfl) T.n_any (by decide +kernel) (pa_cons (pe_lc (own := [("place", 1)]) (g := gName 1) rfl scIsHeap.nd (pi_range2 (by rfl) T.n_range (pa_cons pe_int (pa_cons (pe_callB call_len_seq (by rfl) T.n_len PySem.boot_len (pa_cons (pv 0) pa_nil)) pa_nil))) (blkOk_by (own := [("place", 1)]) (N := ["rows", "place"]) (sc := defScope sIsHeap) (by decide +kernel)) (fun _ _ _ _ _ => (pg_name (i := 1) scIsHeap.nd rfl (.inl rfl))) (fun _ _ _ _ _ => pts_nil) (fun _ _ _ _ _ => (pe_call GIsSooner (hr.mono (by decide)) (by rfl) T.gIsSooner T.fIsSooner.kp T.bIsSooner .nil pass0 (pa_cons (pe_ix (r := rIxL K) ix_list (pv 0) (pv 1) (fun _ _ => rfl)) (pa_cons (pe_ix (r := rIxL K) ix_list (pv 0) (pe_op op_fdiv (pe_op op_sub (pv 1) pe_int) pe_int) (fun _ _ => rfl)) pa_nil))))) pa_nil)))))), ?_⟩
    rcases h with ⟨p, es, ⟨rfl, hp, he, hl⟩, q⟩ | ⟨hb, e⟩
    rotate_left
    · exact ⟨_, rfl, v, rfl, .inr ⟨hb, e⟩⟩
    refine ⟨_, rfl, _, rfl, .inl ⟨p, es, rfl, hp, he, hl, fun H1 s1 => ?_⟩⟩
    have hp1 := s1 _ _ hp
    have he1 := he.same s1
    refine ⟨_, rfl, p, _, rfl, .inl (SqL.of hp1), 1, _, rfl, ⟨by decide, by decide, by rw [vs_len]; omega, by rw [vs_len]; omega⟩, fun D nD => ?_⟩
    have en : (((vsOf es).length : Int) - 1).toNat = es.length - 1 := by
      rw [vs_len]
      omega
    rw [en]
    refine lcRY (n := es.length - 1) (fun i acc H3 => Same H1 H3 ∧ acc = ((List.range i).map fun i => Hm.lss Ent.t es (i + 1) (i / 2)).map V.bl) (by omega) (fun x => rfl) ⟨same_new nD, rfl⟩ ?_ ?_
    · intro i acc H3 Z hi ⟨s3, e3⟩ hD hZ
      have hp3 := s3 _ _ hp1
      have he3 := he1.same s3
      obtain ⟨x, hx⟩ : ∃ x, es[i + 1]? = some x := ⟨_, List.getElem?_eq_getElem (by omega)⟩
      obtain ⟨y, hy⟩ : ∃ y, es[i / 2]? = some y := ⟨_, List.getElem?_eq_getElem (by omega)⟩
      refine ⟨_, rfl, _, rfl, p, _, _, x.v, rfl, rfl, SqL.of hp3, ?_, _, rfl, _, rfl, _, _, rfl, rfl, _, _, rfl, rfl, ⟨by decide, by decide⟩, p, _, _, y.v, rfl, rfl, SqL.of hp3, ?_, x, y, rfl, he3 x (List.mem_of_getElem? hx), he3 y (List.mem_of_getElem? hy), hZ _ _ hD ⟨?_, ?_⟩⟩
      · rw [show (1 : Int) + (i : Int) = ((i + 1 : Nat) : Int) by omega]
        exact atI_nat (vs_at hx)
      · rw [show ((1 : Int) + (i : Int) - 1) / 2 = ((i / 2 : Nat) : Int) by omega]
        exact atI_nat (vs_at hy)
      · exact kp_same s3 nD ((Kp.refl _ _).wr (List.mem_singleton.mpr rfl))
      · rw [e3, List.range_succ, List.map_append, List.map_append]
        have : Hm.lss Ent.t es (i + 1) (i / 2) = decide (x.t < y.t) := by
          unfold Hm.lss
          rw [hx, hy]
        show _ = _ ++ [V.bl (Hm.lss Ent.t es (i + 1) (i / 2))]
        rw [this]
    · intro acc H3 ⟨s3, e3⟩ hD
      rw [e3] at hD
      exact ⟨D, _, rfl, SqL.of hD, _, rfl, q H3 (s1.trans s3)⟩
/-! ### pushed -/
def spPushed (CB : Addr) : Sp := fun vs H Q E => ∃ v u : V, vs = [v, u] ∧
  ((∃ (p : Addr) (es : List Ent) (e : Ent), Rows H v p es ∧ u = e.v ∧ EntAt H e ∧ ∀ H' l, Same H H' → H l = none → H' l = some (.lst (vsOf (Hm.push Ent.t es e))) → Q (.ref l) H') ∨
   (BadRows H v ∧ ∀ d H', Same H H' → (∃ fs, H' d = some (.xd fs)) → E (.ref CB) (some d) H') ∨
   (∃ (p : Addr) (es : List Ent), Rows H v p es ∧ ItB H u false ∧ ∀ d H', Same H H' → (∃ fs, H' d = some (.xd fs)) → E (.ref CB) (some d) H'))
theorem ok_pushed (T : Txt K mg) (Y : ETxt P K mg) : FnOk P w K mg base (L2.CX P w) 4 T.aPushed T.dPushed ["rows", "entry"] (spPushed Y.CB) := by
  have GCheckRows : FnOk P w K mg base (L2.CX P w) 3 T.aCheckRows T.dCheckRows ["rows"] (spCheckRows Y.CB) := ok_checkRows T Y
  have GIsEntry : FnOk P w K mg base CX0 2 T.aIsEntry T.dIsEntry ["thing"] spIsEntry := ok_isEntry T
  have GPushBy : FnOk P w K mg base CX0 3 T.aPushBy T.dPushBy ["heap", "item", "less"] (spPushBy T.aIsSooner) := ok_pushBy T
  refine T.fPushed.okX scPushed (fun vs H Q E h => ?_) (fun cdv A outer s H vs Q E hr h => ?_)
  · obtain ⟨p, u, rfl, _⟩ := h
    rfl
  · obtain ⟨v, u, rfl, h⟩ := h
    refine ⟨_, (pss_cons (ps_expr (pe_call GCheckRows (hr.mono (by decide)) (by rfl) T.gCheckRows T.fCheckRows.kp T.bCheckRows .nil (passes_call (takes_of rfl rfl rfl rfl) (fun _ _ _ _ h => h)) (pa_cons (pv 0) pa_nil)))
      (pss_cons (ps_if (pt_not (pt_val (pe_call GIsEntry (hr.mono (by decide)) (by rfl) T.gIsEntry T.fIsEntry.kp T.bIsEntry .nil pass0 (pa_cons (pv 1) pa_nil))))
      (pss_one (ps_raise rfl (takes_of rfl rfl rfl rfl) (pmk_oex Y.sub.oex Y.iC Y.tI (Y.ini _ _) (hr.mono (by decide)) Y.bI .nil pass0 (by rfl) Y.gCB (pa_cons pe_str pa_nil))))
      pss_nil)
      (pss_cons (ps_set (i := 2) scPushed.nd rfl (.inl rfl) (pe_callTy call_list_of (by rfl) T.n_list (by decide +kernel) (pa_cons (pv 0) pa_nil)))
      (pss_cons (ps_expr (pe_call GPushBy (hr.mono (by decide)) (by rfl) T.gPushBy T.fPushBy.kp T.bPushBy .nil pass0 (pa_cons (pv 2) (pa_cons (pv 1) (pa_cons (pe_glob (v := .ref T.aIsSooner) (by rfl) T.gIsSooner rfl) pa_nil)))))
      (pss_one (ps_ret (pv 2))))))), ?_⟩
    rcases h with ⟨p, es, e, ⟨rfl, hp, he, hl⟩, rfl, hE, q⟩ | ⟨hb, q⟩ | ⟨p, es, ⟨rfl, hp, he, hl⟩, hu, q⟩
    · refine ⟨_, rfl, _, rfl, .inl ⟨p, es, rfl, hp, he, hl, fun H1 s1 => ?_⟩⟩
      have hp1 := s1 _ _ hp
      have he1 := he.same s1
      have hE1 : EntAt H1 e := s1 _ _ hE
      refine ⟨_, rfl, e.v, true, rfl, ItB.ent hE1, true, rfl, iteF ?_⟩
      refine ⟨_, rfl, p, _, rfl, .inl (SqL.of hp1), fun l nl => ?_⟩
      have s2 := same_new (o := .lst (vsOf es)) nl
      refine ⟨_, rfl, _, rfl, l, es, e, rfl, upd_same, he1.same s2, s2 _ _ hE1, by omega, fun H' k' h' => ?_⟩
      exact ⟨_, rfl, q H' l (kp_same (s1.trans s2) (s1.free nl) k') (s1.free nl) h'⟩
    · exact ⟨_, rfl, v, rfl, .inr ⟨hb, q⟩⟩
    · refine ⟨_, rfl, _, rfl, .inl ⟨p, es, rfl, hp, he, hl, fun H1 s1 => ?_⟩⟩
      refine ⟨_, rfl, u, false, rfl, hu.same s1, false, rfl, iteT ?_⟩
      exact ⟨by decide, raise_rd Y.sub Y.why fun d nd => q d _ (s1.trans (same_new nd)) ⟨_, upd_same⟩⟩
/-! ### popped -/
def spPopped (CB : Addr) : Sp := fun vs H Q E => ∃ v : V, vs = [v] ∧
  ((∃ (p : Addr) (es : List Ent) (x : Ent), Rows H v p es ∧ es[0]? = some x ∧ ∀ H' u l, Same H H' → H l = none → H u = none → H' u = some (.tup [x.v, .ref l]) → H' l = some (.lst (vsOf (Hm.popL Ent.t es))) → Q (.ref u) H') ∨
   (BadRows H v ∧ ∀ d H', Same H H' → (∃ fs, H' d = some (.xd fs)) → E (.ref CB) (some d) H') ∨
   (∃ p : Addr, Rows H v p [] ∧ ∀ d H', Same H H' → (∃ fs, H' d = some (.xd fs)) → E (.ref CB) (some d) H'))
theorem ok_popped (T : Txt K mg) (Y : ETxt P K mg) : FnOk P w K mg base (L2.CX P w) 5 T.aPopped T.dPopped ["rows"] (spPopped Y.CB) := by
  have GCheckRows : FnOk P w K mg base (L2.CX P w) 3 T.aCheckRows T.dCheckRows ["rows"] (spCheckRows Y.CB) := ok_checkRows T Y
  have GPopBy : FnOk P w K mg base CX0 4 T.aPopBy T.dPopBy ["heap", "less"] (spPopBy T.aIsSooner) := ok_popBy T
  refine T.fPopped.okX scPopped (fun vs H Q E h => ?_) (fun cdv A outer s H vs Q E hr h => ?_)
  · obtain ⟨v, rfl, _⟩ := h
    rfl
  · obtain ⟨v, rfl, h⟩ := h
    refine ⟨_, (pss_cons (ps_expr (pe_call GCheckRows (hr.mono (by decide)) (by rfl) T.gCheckRows T.fCheckRows.kp T.bCheckRows .nil (passes_call (takes_of rfl rfl rfl rfl) (fun _ _ _ _ h => h)) (pa_cons (pv 0) pa_nil)))
      (pss_cons (ps_if (pt_cmpR (r := rEqD K) (op_eqD hr.units) (pv 0) (pe_lst pa_nil) (nomark _))
      (pss_one (ps_raise rfl (takes_of rfl rfl rfl rfl) (pmk_oex Y.sub.oex Y.iC Y.tI (Y.ini _ _) (hr.mono (by decide)) Y.bI .nil pass0 (by rfl) Y.gCB (pa_cons pe_str pa_nil))))
      pss_nil)
      (pss_cons (ps_set (i := 1) scPopped.nd rfl (.inl rfl) (pe_callTy call_list_of (by rfl) T.n_list (by decide +kernel) (pa_cons (pv 0) pa_nil)))
      (pss_cons (ps_set (i := 2) scPopped.nd rfl (.inl rfl) (pe_call GPopBy (hr.mono (by decide)) (by rfl) T.gPopBy T.fPopBy.kp T.bPopBy .nil pass0 (pa_cons (pv 1) (pa_cons (pe_glob (v := .ref T.aIsSooner) (by rfl) T.gIsSooner rfl) pa_nil))))
      (pss_one (ps_ret (pe_tup (pa_cons (pv 2) (pa_cons (pv 1) pa_nil))))))))), ?_⟩
    rcases h with ⟨p, es, x, ⟨rfl, hp, he, hl⟩, hx, q⟩ | ⟨hb, q⟩ | ⟨p, ⟨rfl, hp, he, hl⟩, q⟩
    · refine ⟨_, rfl, _, rfl, .inl ⟨p, es, rfl, hp, he, hl, fun H1 s1 => ?_⟩⟩
      have hp1 := s1 _ _ hp
      have he1 := he.same s1
      refine ⟨_, rfl, Nat.zero_le _, fun U nU => ?_⟩
      have s2 := same_new (o := .lst []) nU
      refine ⟨rowsD es, .list [], dp_rows (SqL.of (s2 _ _ hp1)) (he1.same s2), dp_emp (SqL.of upd_same), shaped_rows _, rfl, _, rfl, ?_⟩
      rw [eqv_rows0]
      have e0 : es.isEmpty = false := by
        cases es with
        | nil => simp at hx
        | cons a r => rfl
      rw [e0]
      refine iteF ?_
      refine ⟨_, rfl, p, _, rfl, .inl (SqL.of (s2 _ _ hp1)), fun l nl => ?_⟩
      have s3 := same_new (o := .lst (vsOf es)) nl
      refine ⟨_, rfl, l, es, x, rfl, upd_same, (he1.same s2).same s3, hx, fun H' k' h' => ?_⟩
      have s123 := s1.trans (s2.trans s3)
      have nl0 : H l = none := (s1.trans s2).free nl
      have s' := kp_same s123 nl0 k'
      refine ⟨_, rfl, _, rfl, (by show 2 ≤ sizeLine; decide), fun u nu => ?_⟩
      have s4 := same_new (o := .tup [x.v, .ref l]) nu
      exact q _ u l (s'.trans s4) nl0 (s'.free nu) upd_same (s4 _ _ h')
    · exact ⟨_, rfl, v, rfl, .inr ⟨hb, q⟩⟩
    · refine ⟨_, rfl, _, rfl, .inl ⟨p, [], rfl, hp, he, hl, fun H1 s1 => ?_⟩⟩
      have hp1 := s1 _ _ hp
      refine ⟨_, rfl, Nat.zero_le _, fun U nU => ?_⟩
      have s2 := same_new (o := .lst []) nU
      refine ⟨.list [], .list [], dp_emp (SqL.of (s2 _ _ hp1)), dp_emp (SqL.of upd_same), rfl, rfl, _, rfl, iteT ?_⟩
      exact ⟨by decide, raise_rd Y.sub Y.why fun d nd => q d _ ((s1.trans s2).trans (same_new nd)) ⟨_, upd_same⟩⟩
/-! ### heaped -/
def spHeaped (CB : Addr) : Sp := fun vs H Q E => ∃ v : V, vs = [v] ∧
  ((∃ (p : Addr) (es : List Ent), Rows H v p es ∧ ∀ H' l, Same H H' → H l = none → H' l = some (.lst (vsOf (Hm.heapify Ent.t es))) → Q (.ref l) H') ∨
   (BadRows H v ∧ ∀ d H', Same H H' → (∃ fs, H' d = some (.xd fs)) → E (.ref CB) (some d) H'))
theorem ok_heaped (T : Txt K mg) (Y : ETxt P K mg) : FnOk P w K mg base (L2.CX P w) 5 T.aHeaped T.dHeaped ["rows"] (spHeaped Y.CB) := by
  have GCheckRows : FnOk P w K mg base (L2.CX P w) 3 T.aCheckRows T.dCheckRows ["rows"] (spCheckRows Y.CB) := ok_checkRows T Y
  have GHeapifyBy : FnOk P w K mg base CX0 4 T.aHeapifyBy T.dHeapifyBy ["heap", "less"] (spHeapifyBy T.aIsSooner) := ok_heapifyBy T
  refine T.fHeaped.okX scHeaped (fun vs H Q E h => ?_) (fun cdv A outer s H vs Q E hr h => ?_)
  · obtain ⟨p, rfl, _⟩ := h
    rfl
  · obtain ⟨v, rfl, h⟩ := h
    refine ⟨_, (pss_cons (ps_expr (pe_call GCheckRows (hr.mono (by decide)) (by rfl) T.gCheckRows T.fCheckRows.kp T.bCheckRows .nil (passes_call (takes_of rfl rfl rfl rfl) (fun _ _ _ _ h => h)) (pa_cons (pv 0) pa_nil)))
      (pss_cons (ps_set (i := 1) scHeaped.nd rfl (.inl rfl) (pe_callTy call_list_of (by rfl) T.n_list (by decide +kernel) (pa_cons (pv 0) pa_nil)))
      (pss_cons (ps_expr (pe_call GHeapifyBy (hr.mono (by decide)) (by rfl) T.gHeapifyBy T.fHeapifyBy.kp T.bHeapifyBy .nil pass0 (pa_cons (pv 1) (pa_cons (pe_glob (v := .ref T.aIsSooner) (by rfl) T.gIsSooner rfl) pa_nil))))
      (pss_one (ps_ret (pv 1)))))), ?_⟩
    rcases h with ⟨p, es, ⟨rfl, hp, he, hl⟩, q⟩ | ⟨hb, q⟩
    · refine ⟨_, rfl, _, rfl, .inl ⟨p, es, rfl, hp, he, hl, fun H1 s1 => ?_⟩⟩
      have hp1 := s1 _ _ hp
      have he1 := he.same s1
      refine ⟨_, rfl, p, _, rfl, .inl (SqL.of hp1), fun l nl => ?_⟩
      have s2 := same_new (o := .lst (vsOf es)) nl
      refine ⟨_, rfl, l, es, rfl, upd_same, he1.same s2, by omega, fun H' k' h' => ?_⟩
      exact ⟨_, rfl, q H' l (kp_same (s1.trans s2) (s1.free nl) k') (s1.free nl) h'⟩
    · exact ⟨_, rfl, v, rfl, .inr ⟨hb, q⟩⟩
end
end K13

namespace K13
open PySem PySem.Spec PyProof.Rows L2
/-! ### wells -/
def Well (H : Hp) (p : Addr) (n : Int) : Prop := ∃ w0 w1 w2 : Int, H p = some (.lst [.int w0, .int w1, .int w2]) ∧ 0 ≤ w2 ∧ w2 ≤ n
theorem Well.mono {H : Hp} {p : Addr} {n m : Int} (h : Well H p n) (l : n ≤ m) : Well H p m := by
  obtain ⟨a, b, c, e, h0, h1⟩ := h
  exact ⟨a, b, c, e, h0, Int.le_trans h1 l⟩
theorem Well.same {H H' : Hp} {p : Addr} {n : Int} (h : Well H p n) (s : Same H H') : Well H' p n := by
  obtain ⟨a, b, c, e, h0, h1⟩ := h
  exact ⟨a, b, c, s _ _ e, h0, h1⟩
/-- what is drawn is less than what it is drawn from -/
structure Rem (r many : Int) : Prop where
  lo : 0 ≤ r
  hi : r < many
theorem rem_of (x : Int) {many : Int} (h : 0 < many) : Rem (x % many) many := ⟨Int.emod_nonneg _ (by omega), Int.emod_lt_of_pos _ h⟩
section
variable {P : Program} {w : World} {K : PySem.W.Frag} {mg : Str → Option Value} {base : Heap}
def spLwWell : Sp := fun vs H Q _ => ∃ c : Int, vs = [.int c] ∧ ∀ l H', H l = none → Same H H' → Well H' l 0 → Q (.ref l) H'
theorem ok_well (T : Txt K mg) : FnOk P w K mg base CX0 1 T.aLwWell T.dLwWell ["_law_cell"] spLwWell := by
  refine T.fLwWell.ok scLwWell (fun vs H Q E h => ?_) (fun cdv A outer s H vs Q E hr h => ?_)
  · obtain ⟨c, rfl, _⟩ := h
    rfl
  · obtain ⟨c, rfl, q⟩ := h
    refine ⟨_, (pss_one (ps_ret (pe_lst (pa_cons (pe_op op_mul (pv 0) (pe_callTy call_int1 (by rfl) T.n_int (by decide +kernel) (pa_cons (pe_cmpR op_ge (pv 0) (pe_op op_pow pe_int pe_int) (nomark _)) pa_nil))) (pa_cons (pv 0) (pa_cons pe_int pa_nil)))))), ?_⟩
    refine ⟨_, rfl, _, rfl, _, _, rfl, rfl, ⟨by decide, by decide, by decide⟩, _, _, rfl, rfl, .inr ⟨_, rfl, _, _, rfl, rfl, .inr ?_, _, rfl, (by show 3 ≤ sizeLine; decide), fun l nl => ?_⟩⟩
    · split <;> exact ⟨by decide, by decide⟩
    · exact q l _ nl (same_new nl) ⟨_, _, _, upd_same, Int.le_refl _, Int.le_refl _⟩
def spLwDraw : Sp := fun vs H Q _ => ∃ (p : Addr) (many n : Int), vs = [.ref p, .int many] ∧ Well H p n ∧ n ≤ 1000000000000 ∧ 0 < many ∧ many < 2 ^ 200 ∧
  ∀ r H', Rem r many → Kp [p] H H' → Well H' p (n + 1) → Q (.int r) H'
theorem ok_draw (T : Txt K mg) : FnOk P w K mg base CX0 1 T.aLwDraw T.dLwDraw ["_law_well_here", "_law_many"] spLwDraw := by
  refine T.fLwDraw.ok scLwDraw (fun vs H Q E h => ?_) (fun cdv A outer s H vs Q E hr h => ?_)
  · obtain ⟨p, many, n, rfl, _⟩ := h
    rfl
  · obtain ⟨p, many, n, rfl, ⟨w0, w1, w2, hp, h0, h1⟩, hn, hm, hm2, q⟩ := h
    refine ⟨_, (pss_cons (ps_if (pt_cmpR op_gt (pe_ix (r := rIxL K) ix_list (pv 0) pe_int (fun _ _ => rfl)) pe_int (nomark _))
      (pss_cons (ps_set (i := 2) scLwDraw.nd rfl (.inl rfl) (pe_op op_mod (pe_callTy call_int1 (by rfl) T.n_int (by decide +kernel) (pa_cons (pe_ix (r := rIxL K) ix_list (pv 0) pe_int (fun _ _ => rfl)) pa_nil)) (pv 1)))
        (pss_cons (ps_asg (pe_op op_fdivW (pe_ix (r := rIxL K) ix_list (pv 0) pe_int (fun _ _ => rfl)) (pv 1)) (pg_sub (pv 0) pe_int set_list))
        (pss_one (ps_ret (pv 2)))))
      pss_nil)
      (pss_cons (ps_asg (pe_op op_add (pe_ix (r := rIxL K) ix_list (pv 0) pe_int (fun _ _ => rfl)) pe_int) (pg_sub (pv 0) pe_int set_list))
      (pss_cons (ps_set (i := 3) scLwDraw.nd rfl (.inl rfl) (pe_op op_add (pe_op op_mod (pe_callTy call_int1 (by rfl) T.n_int (by decide +kernel) (pa_cons (pe_ix (r := rIxL K) ix_list (pv 0) pe_int (fun _ _ => rfl)) pa_nil)) pe_int) (pe_op op_mul (pe_op op_mod (pe_callTy call_int1 (by rfl) T.n_int (by decide +kernel) (pa_cons (pe_op op_fdivW (pe_ix (r := rIxL K) ix_list (pv 0) pe_int (fun _ _ => rfl)) pe_int) pa_nil)) pe_int) pe_int)))
      (pss_cons (ps_set (i := 4) scLwDraw.nd rfl (.inl rfl) (pe_op op_mod (pe_callTy call_int1 (by rfl) T.n_int (by decide +kernel) (pa_cons (pe_op op_pow (pe_op op_add (pe_op op_add (pv 3) (pe_op op_mul pe_int (pe_ix (r := rIxL K) ix_list (pv 0) pe_int (fun _ _ => rfl)))) pe_int) pe_int) pa_nil)) pe_int))
      (pss_cons (ps_set (i := 4) scLwDraw.nd rfl (.inl rfl) (pe_op op_mod (pe_callTy call_int1 (by rfl) T.n_int (by decide +kernel) (pa_cons (pe_op op_mul (pv 4) (pe_op op_add (pe_op op_add (pe_op op_fdiv (pv 4) pe_int) pe_int) (pe_ix (r := rIxL K) ix_list (pv 0) pe_int (fun _ _ => rfl)))) pa_nil)) pe_int))
      (pss_one (ps_ret (pe_op op_mod (pe_callTy call_int1 (by rfl) T.n_int (by decide +kernel) (pa_cons (pe_op op_mod (pe_callTy call_int1 (by rfl) T.n_int (by decide +kernel) (pa_cons (pe_op op_mul (pv 4) (pe_op op_add (pe_op op_fdiv (pv 4) pe_int) pe_int)) pa_nil)) pe_int) pa_nil)) (pv 1))))))))), ?_⟩
    refine ⟨_, rfl, p, _, 0, .int w0, rfl, rfl, SqL.of hp, atI_nat (j := 0) rfl, _, _, rfl, rfl, _, rfl, ite2 (fun c => ?_) (fun c => ?_)⟩
    · refine ⟨_, rfl, p, _, 0, .int w0, rfl, rfl, SqL.of hp, atI_nat (j := 0) rfl, .inl ⟨_, rfl, _, rfl, _, _, rfl, rfl, hm, ?_⟩⟩
      refine ⟨_, rfl, p, _, 0, .int w0, rfl, rfl, SqL.of hp, atI_nat (j := 0) rfl, _, rfl, _, _, rfl, rfl, wide_div (b := 200) hm ?_ (by decide) (by decide), _, rfl, p, _, _, 0, rfl, rfl, hp, ixN_nat (j := 0) (show 0 < 3 by decide), ?_⟩
      · have : (many.natAbs : Int) = many := Int.natAbs_of_nonneg (by omega)
        have h3 : ((2 ^ 200 : Nat) : Int) = (2 : Int) ^ 200 := by
          rw [Int.natCast_pow]
          rfl
        have : (many.natAbs : Int) < ((2 ^ 200 : Nat) : Int) := by
          rw [this, h3]
          exact hm2
        exact Int.ofNat_lt.mp this
      refine ⟨_, rfl, q _ _ (rem_of w0 hm) ((Kp.refl _ _).wr (List.mem_singleton.mpr rfl)) ⟨_, _, _, upd_same, h0, by omega⟩⟩
    · -- _law_well_here[2] = _law_well_here[2] + 1
      refine ⟨_, rfl, p, _, 2, .int w2, rfl, rfl, SqL.of hp, atI_nat (j := 2) rfl, _, _, rfl, rfl, _, rfl, p, _, _, 2, rfl, rfl, hp, ixN_nat (j := 2) (show 2 < 3 by decide), ?_⟩
      have hp2 : (upd H p (.lst [.int w0, .int w1, .int (w2 + 1)])) p = some (.lst [.int w0, .int w1, .int (w2 + 1)]) := upd_same
      -- _law_salt
      refine ⟨_, rfl, p, _, 1, .int w1, rfl, rfl, SqL.of hp2, atI_nat (j := 1) rfl, .inl ⟨_, rfl, _, _, rfl, rfl, (show (0 : Int) < _ by decide), ?_⟩⟩
      refine ⟨_, rfl, p, _, 1, .int w1, rfl, rfl, SqL.of hp2, atI_nat (j := 1) rfl, _, _, rfl, rfl, wide_div (b := 40) (by decide) (by decide) (by decide) (by decide), .inl ⟨_, rfl, _, _, rfl, rfl, (show (0 : Int) < _ by decide), _, _, rfl, rfl, .inr ⟨by decide, by decide⟩, _, _, rfl, rfl, ?_⟩⟩
      have s1 := rem_of w1 (many := 2147483587) (by decide)
      have s2 := rem_of (w1 / 2147483587) (many := 65003) (by decide)
      -- _law_mixed
      refine ⟨_, rfl, _, rfl, p, _, 2, .int (w2 + 1), rfl, rfl, SqL.of hp2, atI_nat (j := 2) rfl, _, _, rfl, rfl, .inl ⟨by decide, by decide⟩, _, _, rfl, rfl, _, _, rfl, rfl, _, _, rfl, rfl, ⟨by decide, by decide, ?_⟩, .inl ⟨_, rfl, _, _, rfl, rfl, (show (0 : Int) < _ by decide), ?_⟩⟩
      · have a1 := s1.lo
        have a2 := s1.hi
        have a3 := s2.lo
        have a4 := s2.hi
        show (w1 % 2147483587 + w1 / 2147483587 % 65003 * 41 + 7027 * (w2 + 1) + 29).natAbs < 2 ^ 64
        omega
      generalize ((w1 % 2147483587 + w1 / 2147483587 % 65003 * 41 + 7027 * (w2 + 1) + 29) ^ (5 : Int).toNat) = z1
      have t1 := rem_of z1 (many := 2147483647) (by decide)
      have b1 := t1.lo
      have b2 := t1.hi
      refine ⟨_, rfl, _, rfl, _, _, rfl, rfl, ⟨by decide, by decide⟩, _, _, rfl, rfl, _, rfl, p, _, 2, .int (w2 + 1), rfl, rfl, SqL.of hp2, atI_nat (j := 2) rfl, _, _, rfl, rfl, _, _, rfl, rfl, .inl ⟨?_, ?_⟩, .inl ⟨_, rfl, _, _, rfl, rfl, (show (0 : Int) < _ by decide), ?_⟩⟩
      · show -(2 ^ 64) < z1 % 2147483647
        omega
      · show z1 % 2147483647 < 2 ^ 64
        omega
      dsimp only
      generalize (z1 % 2147483647 * (z1 % 2147483647 / 983 + 50021 + (w2 + 1))) = z2
      have t2 := rem_of z2 (many := 2147483629) (by decide)
      have d1 := t2.lo
      have d2 := t2.hi
      refine ⟨_, rfl, _, rfl, _, _, rfl, rfl, ⟨by decide, by decide⟩, _, _, rfl, rfl, _, _, rfl, rfl, .inl ⟨?_, ?_⟩, .inl ⟨_, rfl, _, _, rfl, rfl, (show (0 : Int) < _ by decide), .inl ⟨_, rfl, _, rfl, _, _, rfl, rfl, hm, ?_⟩⟩⟩
      · show -(2 ^ 64) < z2 % 2147483629
        omega
      · show z2 % 2147483629 < 2 ^ 64
        omega
      exact q _ _ (rem_of _ hm) ((Kp.refl _ _).wr (List.mem_singleton.mpr rfl)) ⟨_, _, _, upd_same, by omega, by omega⟩
/-- one of some whole numbers -/
def spLwPick : Sp := fun vs H Q _ => ∃ (p l : Addr) (xs : List V) (n : Int), vs = [.ref p, .ref l] ∧ Well H p n ∧ n ≤ 1000000000000 ∧ H l = some (.lst xs) ∧ l ≠ p ∧ 0 < xs.length ∧ xs.length ≤ 100000 ∧
  ∀ v H', v ∈ xs → Kp [p] H H' → Well H' p (n + 1) → Q v H'
theorem ok_pick (T : Txt K mg) : FnOk P w K mg base CX0 2 T.aLwPick T.dLwPick ["_law_well_here", "_law_some"] spLwPick := by
  have GLwDraw : FnOk P w K mg base CX0 1 T.aLwDraw T.dLwDraw ["_law_well_here", "_law_many"] spLwDraw := ok_draw T
  refine T.fLwPick.ok scLwPick (fun vs H Q E h => ?_) (fun cdv A outer s H vs Q E hr h => ?_)
  · obtain ⟨p, l, xs, n, rfl, _⟩ := h
    rfl
  · obtain ⟨p, l, xs, n, rfl, hw, hn, hl, nlp, h0, h1, q⟩ := h
    refine ⟨_, (pss_one (ps_ret (pe_ix (r := rIxL K) ix_list (pv 1) (pe_call GLwDraw (hr.mono (by decide)) (by rfl) T.gLwDraw T.fLwDraw.kp T.bLwDraw .nil pass0 (pa_cons (pv 0) (pa_cons (pe_callB call_len_seq (by rfl) T.n_len PySem.boot_len (pa_cons (pv 1) pa_nil)) pa_nil))) (fun _ _ => rfl)))), ?_⟩
    refine ⟨_, rfl, _, rfl, _, rfl, l, _, rfl, .inl (SqL.of hl), p, _, n, rfl, hw, hn, by omega, ?_, fun r H' hr' k' w' => ?_⟩
    · exact Int.lt_of_le_of_lt (show (xs.length : Int) ≤ 100000 by omega) (by decide)
    · have hl' : H' l = some (.lst xs) := k' _ _ (fun z => nlp (List.mem_singleton.mp z)) hl
      have lo := hr'.lo
      have hi := hr'.hi
      obtain ⟨k, rfl⟩ : ∃ k : Nat, r = (k : Int) := ⟨r.toNat, by omega⟩
      have hk : k < xs.length := by omega
      refine ⟨l, xs, _, xs[k], rfl, rfl, SqL.of hl', atI_nat (List.getElem?_eq_getElem hk), q _ _ (List.getElem_mem hk) k' w'⟩
end
end K13

namespace K13
open PySem PySem.Spec PyProof.Rows L2
theorem rise_zero (es : List Ent) (top : Nat) : Hm.rise Ent.t es top 0 = es := by
  rw [Hm.rise.eq_1, dif_neg (by omega)]
section
variable {P : Program} {w : World} {K : PySem.W.Frag} {mg : Str → Option Value} {base : Heap}
/-! ### _law_up -/
def spLwUp : Sp := fun vs H Q _ => ∃ (p : Addr) (es : List Ent) (top place : Nat), vs = [.ref p, .int top, .int place] ∧ H p = some (.lst (vsOf es)) ∧ Ents H es ∧ place < es.length ∧ es.length ≤ 6000 ∧
  ∀ H' l, Same H H' → H l = none → H' l = some (.lst (vsOf (Hm.rise Ent.t es top place))) → Q (.ref l) H'
theorem ok_up (T : Txt K mg) : FnOk P w K mg base CX0 1 T.aLwUp T.dLwUp ["_law_lot", "_law_top", "_law_place"] spLwUp := by
  refine T.fLwUp.ok scLwUp (fun vs H Q E h => ?_) (fun cdv A outer s H vs Q E hr h => ?_)
  · obtain ⟨p, es, top, place, rfl, _⟩ := h
    rfl
  · obtain ⟨p, es, top, place, rfl, hp, he, hpl, hl, q⟩ := h
    refine ⟨_, (pss_cons (ps_set (i := 3) scLwUp.nd rfl (.inl rfl) (pe_callTy call_list_of (by rfl) T.n_list (by decide +kernel) (pa_cons (pv 0) pa_nil)))
      (pss_cons (ps_for PassesOwn.never rfl (pi_range1 (by rfl) T.n_range (pa_cons pe_int pa_nil)) (pg_name (i := 4) scLwUp.nd rfl (.inl rfl))
      (pss_cons (ps_set (i := 5) scLwUp.nd rfl (.inl rfl) (pe_op op_fdiv (pe_op op_sub (pv 2) pe_int) pe_int))
        (pss_cons (ps_if (PW.pt (pw_or (pt_cmpR op_le (pv 2) (pv 1) (nomark _)) (pw_or1 (pt_cmpR op_ge (pe_ix (r := rIxT K) ix_tup (pe_ix (r := rIxL K) ix_list (pv 3) (pv 2) (fun _ _ => rfl)) pe_int (fun _ _ => rfl)) (pe_ix (r := rIxT K) ix_tup (pe_ix (r := rIxL K) ix_list (pv 3) (pv 5) (fun _ _ => rfl)) pe_int (fun _ _ => rfl)) (nomark _)))))
        (pss_one (ps_ret (pv 3)))
        pss_nil)
        (pss_cons (ps_asg (pe_tup (pa_cons (pe_ix (r := rIxL K) ix_list (pv 3) (pv 5) (fun _ _ => rfl)) (pa_cons (pe_ix (r := rIxL K) ix_list (pv 3) (pv 2) (fun _ _ => rfl)) pa_nil))) (pg_tup rfl (pgs_cons (pg_sub (pv 3) (pv 2) set_list) (pgs_cons (pg_sub (pv 3) (pv 5) set_list) pgs_nil))))
        (pss_one (ps_set (i := 2) scLwUp.nd rfl (.inl rfl) (pv 5)))))))
      (pss_one (ps_ret (pv 3))))), ?_⟩
    refine ⟨_, rfl, p, _, rfl, .inl (SqL.of hp), fun l nl => ?_⟩
    have s1 := same_new (o := .lst (vsOf es)) nl
    refine ⟨64, rfl, by decide, by decide, ?_⟩
    refine for_range (n := 64) (fun i σ H3 => ∃ (es3 : List Ent) (pl : Nat) (y4 y5 : Option V), σ = [some (.ref p), some (.int top), some (.int pl), some (.ref l), y4, y5] ∧ Same H H3 ∧ H3 l = some (.lst (vsOf es3)) ∧ Ents H3 es3 ∧ pl < es3.length ∧ es3.length = es.length ∧ pl < 2 ^ (64 - i) ∧ Hm.rise Ent.t es3 top pl = Hm.rise Ent.t es top place)
      ⟨es, place, none, none, rfl, s1, upd_same, he.same s1, hpl, rfl, Nat.lt_of_lt_of_le (show place < 6000 by omega) (by decide), rfl⟩ (fun i σ H3 hi hW => ?_) (fun σ H3 hW => ?_)
    · obtain ⟨es3, pl, y4, y5, rfl, s3, h3, he3, hp3, hl3, hpw, hr3⟩ := hW
      -- above
      refine ⟨_, rfl, _, _, rfl, rfl, _, _, rfl, rfl, ⟨by decide, by decide⟩, ?_⟩
      dsimp only
      refine ⟨_, rfl, _, rfl, _, _, rfl, rfl, _, rfl, ite2 (fun c => ?_) (fun c => ?_)⟩
      · have c' : ¬ top < pl := by
          have := of_decide_eq_true c
          omega
        refine iteT ⟨_, rfl, q H3 l s3 nl ?_⟩
        rw [← hr3, Hm.rise.eq_1, dif_neg c']
        exact h3
      · have c' : top < pl := by
          have : ¬ ((pl : Int) ≤ (top : Int)) := fun z => c (decide_eq_true z)
          omega
        have eab : ((pl : Int) - 1) / 2 = (((pl - 1) / 2 : Nat) : Int) := by omega
        rw [eab]
        have hab : (pl - 1) / 2 < es3.length := by omega
        obtain ⟨x, hx⟩ : ∃ x, es3[pl]? = some x := ⟨_, List.getElem?_eq_getElem hp3⟩
        obtain ⟨y, hy⟩ : ∃ y, es3[(pl - 1) / 2]? = some y := ⟨_, List.getElem?_eq_getElem hab⟩
        have ex := he3 x (List.mem_of_getElem? hx)
        have ey := he3 y (List.mem_of_getElem? hy)
        refine ⟨_, rfl, _, rfl, l, _, _, x.v, rfl, rfl, SqL.of h3, atI_nat (vs_at hx), _, _, 0, _, rfl, rfl, SqT.of ex, atI_nat (j := 0) rfl, _, rfl, _, rfl, l, _, _, y.v, rfl, rfl, SqL.of h3, atI_nat (vs_at hy), _, _, 0, _, rfl, rfl, SqT.of ey, atI_nat (j := 0) rfl, _, _, rfl, rfl, _, rfl, ?_⟩
        have eL : Hm.lss Ent.t es3 pl ((pl - 1) / 2) = decide (x.t < y.t) := by
          unfold Hm.lss
          rw [hx, hy]
        have eR := Hm.rise.eq_1 Ent.t es3 top pl
        rw [dif_pos c', eL] at eR
        by_cases d : x.t < y.t
        · rw [show decide (y.t ≤ x.t) = false from decide_eq_false (by omega)]
          rw [decide_eq_true d, if_pos rfl] at eR
          refine iteF ?_
          refine ⟨_, rfl, _, rfl, l, _, _, y.v, rfl, rfl, SqL.of h3, atI_nat (vs_at hy), _, rfl, _, rfl, l, _, _, x.v, rfl, rfl, SqL.of h3, atI_nat (vs_at hx), (by show 2 ≤ sizeLine; decide), fun U nU => ?_⟩
          have npU : l ≠ U := ne_of_none h3 nU
          refine ⟨U, [y.v, x.v], rfl, SqT.of upd_same, rfl, _, _, rfl, ?_⟩
          have h1 : (upd H3 U (.tup [y.v, x.v])) l = some (.lst (vsOf es3)) := by
            rw [upd_ne npU]
            exact h3
          refine ⟨_, rfl, _, rfl, l, _, _, pl, rfl, rfl, h1, ixN_nat (by rw [vs_len]; exact hp3), _, _, rfl, ?_⟩
          refine ⟨_, rfl, _, rfl, l, _, _, (pl - 1) / 2, rfl, rfl, upd_same, ixN_nat (by rw [List.length_set, vs_len]; exact hab), rfl, ?_⟩
          rw [upd_upd]
          refine ⟨_, rfl, ?_⟩
          have es4 : ((vsOf es3).set pl y.v).set ((pl - 1) / 2) x.v = vsOf (Hm.swp es3 pl ((pl - 1) / 2)) := by
            rw [Hm.swp_eq hx hy, vs_set, vs_set]
          have kU : Kp [l] H3 (upd (upd H3 U (.tup [y.v, x.v])) l (.lst (((vsOf es3).set pl y.v).set ((pl - 1) / 2) x.v))) := ((Kp.refl _ _).new nU).wr (List.mem_singleton.mpr rfl)
          refine ⟨Hm.swp es3 pl ((pl - 1) / 2), (pl - 1) / 2, _, _, rfl, kp_same s3 nl kU, ?_, ?_, ?_, ?_, ?_, ?_⟩
          · rw [upd_same, es4]
          · exact (he3.kp kU h3).perm (Hm.swp_perm _ _ _)
          · rw [Hm.swp_len]
            exact hab
          · rw [Hm.swp_len]
            exact hl3
          · have e2 : 2 ^ (64 - i) = 2 * 2 ^ (64 - (i + 1)) := by
              rw [show 64 - i = (64 - (i + 1)) + 1 by omega, Nat.pow_succ, Nat.mul_comm]
            rw [e2] at hpw
            omega
          · rw [← eR]
            exact hr3
        · rw [show decide (y.t ≤ x.t) = true from decide_eq_true (by omega)]
          rw [decide_eq_false d, if_neg Bool.false_ne_true] at eR
          refine iteT ⟨_, rfl, q H3 l s3 nl ?_⟩
          rw [← hr3, eR]
          exact h3
    · obtain ⟨es3, pl, y4, y5, rfl, s3, h3, he3, hp3, hl3, hpw, hr3⟩ := hW
      have e0 : pl = 0 := by
        have : pl < 1 := hpw
        omega
      subst e0
      rw [rise_zero] at hr3
      refine ⟨_, rfl, q H3 l s3 nl ?_⟩
      rw [← hr3]
      exact h3
end
end K13

namespace K13
open PySem PySem.Spec PyProof.Rows L2
section
variable {P : Program} {w : World} {K : PySem.W.Frag} {mg : Str → Option Value} {base : Heap}
/-! ### _law_down -/
def spLwDown : Sp := fun vs H Q _ => ∃ (p : Addr) (es : List Ent) (top : Nat), vs = [.ref p, .int top] ∧ H p = some (.lst (vsOf es)) ∧ Ents H es ∧ top < es.length ∧ es.length ≤ 6000 ∧
  ∀ H' l, Same H H' → H l = none → H' l = some (.lst (vsOf (Hm.sink Ent.t es top))) → Q (.ref l) H'
theorem ok_down (T : Txt K mg) : FnOk P w K mg base CX0 2 T.aLwDown T.dLwDown ["_law_lot", "_law_top"] spLwDown := by
  have GLwUp : FnOk P w K mg base CX0 1 T.aLwUp T.dLwUp ["_law_lot", "_law_top", "_law_place"] spLwUp := ok_up T
  refine T.fLwDown.ok scLwDown (fun vs H Q E h => ?_) (fun cdv A outer s H vs Q E hr h => ?_)
  · obtain ⟨p, es, top, rfl, _⟩ := h
    rfl
  · obtain ⟨p, es, top, rfl, hp, he, hpl, hl, q⟩ := h
    refine ⟨_, (pss_cons (ps_set (i := 2) scLwDown.nd rfl (.inl rfl) (pe_callTy call_list_of (by rfl) T.n_list (by decide +kernel) (pa_cons (pv 0) pa_nil)))
      (pss_cons (ps_set (i := 3) scLwDown.nd rfl (.inl rfl) (pv 1))
      (pss_cons (ps_for PassesOwn.never rfl (pi_range1 (by rfl) T.n_range (pa_cons pe_int pa_nil)) (pg_name (i := 4) scLwDown.nd rfl (.inl rfl))
      (pss_cons (ps_set (i := 5) scLwDown.nd rfl (.inl rfl) (pe_op op_add (pe_op op_mul pe_int (pv 3)) pe_int))
        (pss_cons (ps_if (pt_cmpR op_ge (pv 5) (pe_callB call_len_seq (by rfl) T.n_len PySem.boot_len (pa_cons (pv 2) pa_nil)) (nomark _))
        (pss_one (ps_ret (pe_call GLwUp (hr.mono (by decide)) (by rfl) T.gLwUp T.fLwUp.kp T.bLwUp .nil pass0 (pa_cons (pv 2) (pa_cons (pv 1) (pa_cons (pv 3) pa_nil))))))
        pss_nil)
        (pss_cons (ps_set (i := 6) scLwDown.nd rfl (.inl rfl) (pv 5))
        (Evl.pss_cut (ps_if (PW.pt (pw_and (pt_cmpR op_lt (pe_op op_add (pv 5) pe_int) (pe_callB call_len_seq (by rfl) T.n_len PySem.boot_len (pa_cons (pv 2) pa_nil)) (nomark _)) (pw_and1 (pt_cmpR op_ge (pe_ix (r := rIxT K) ix_tup (pe_ix (r := rIxL K) ix_list (pv 2) (pv 5) (fun _ _ => rfl)) pe_int (fun _ _ => rfl)) (pe_ix (r := rIxT K) ix_tup (pe_ix (r := rIxL K) ix_list (pv 2) (pe_op op_add (pv 5) pe_int) (fun _ _ => rfl)) pe_int (fun _ _ => rfl)) (nomark _)))))
        (pss_one (ps_set (i := 6) scLwDown.nd rfl (.inl rfl) (pe_op op_add (pv 5) pe_int)))
        pss_nil)
        (pss_cons (ps_asg (pe_tup (pa_cons (pe_ix (r := rIxL K) ix_list (pv 2) (pv 6) (fun _ _ => rfl)) (pa_cons (pe_ix (r := rIxL K) ix_list (pv 2) (pv 3) (fun _ _ => rfl)) pa_nil))) (pg_tup rfl (pgs_cons (pg_sub (pv 2) (pv 3) set_list) (pgs_cons (pg_sub (pv 2) (pv 6) set_list) pgs_nil))))
        (pss_one (ps_set (i := 3) scLwDown.nd rfl (.inl rfl) (pv 6)))))))))
      (pss_one (ps_ret (pv 2)))))), ?_⟩
    refine ⟨_, rfl, p, _, rfl, .inl (SqL.of hp), fun l nl => ?_⟩
    have s1 := same_new (o := .lst (vsOf es)) nl
    refine ⟨_, rfl, ?_⟩
    refine ⟨64, rfl, by decide, by decide, ?_⟩
    refine for_range (n := 64) (fun i σ H3 => ∃ (es3 : List Ent) (pl : Nat) (y4 y5 y6 : Option V), σ = [some (.ref p), some (.int top), some (.ref l), some (.int pl), y4, y5, y6] ∧ Same H H3 ∧ H3 l = some (.lst (vsOf es3)) ∧ Ents H3 es3 ∧ pl < es3.length ∧ es3.length = es.length ∧ 2 ^ i ≤ pl + 1 ∧ Hm.down Ent.t es3 pl = Hm.down Ent.t es top)
      ⟨es, top, none, none, none, rfl, s1, upd_same, he.same s1, hpl, rfl, (by show 1 ≤ top + 1; omega), rfl⟩ (fun i σ H3 hi hW => ?_) (fun σ H3 hW => ?_)
    · obtain ⟨es3, pl, y4, y5, y6, rfl, s3, h3, he3, hp3, hl3, hpw, hr3⟩ := hW
      have e1 : 2 * (pl : Int) + 1 = ((2 * pl + 1 : Nat) : Int) := by omega
      have e2 : ((2 * pl + 1 : Nat) : Int) + 1 = ((2 * pl + 1 + 1 : Nat) : Int) := by omega
      refine ⟨_, rfl, _, _, rfl, rfl, .inl ⟨by decide, by decide⟩, _, _, rfl, rfl, ?_⟩
      dsimp only
      rw [e1]
      refine ⟨_, rfl, _, rfl, l, _, rfl, .inl (SqL.of h3), _, _, rfl, rfl, _, rfl, ite2 (fun c => ?_) (fun c => ?_)⟩
      · have c' : ¬ 2 * pl + 1 < es3.length := by
          have := of_decide_eq_true c
          rw [vs_len] at this
          omega
        have eD := Hm.down.eq_1 Ent.t es3 pl
        rw [dif_neg c'] at eD
        rw [eD] at hr3
        refine ⟨_, rfl, _, rfl, _, rfl, l, es3, top, pl, rfl, h3, he3, hp3, by omega, fun H' l' s' nl' h' => ?_⟩
        refine q H' l' (s3.trans s') (s3.free nl') ?_
        rw [h']
        unfold Hm.sink
        rw [← hr3]
      · have c' : 2 * pl + 1 < es3.length := by
          have : ¬ (((vsOf es3).length : Int) ≤ ((2 * pl + 1 : Nat) : Int)) := fun z => c (decide_eq_true z)
          rw [vs_len] at this
          omega
        have eD := Hm.down.eq_1 Ent.t es3 pl
        rw [dif_pos c'] at eD
        obtain ⟨x, hx⟩ : ∃ x, es3[2 * pl + 1]? = some x := ⟨_, List.getElem?_eq_getElem c'⟩
        have ex := he3 x (List.mem_of_getElem? hx)
        refine ⟨_, rfl, ?_⟩
        refine ⟨fun σ' H' => ∃ (cc : Nat), cc = Hm.child Ent.t es3 pl ∧ (∃ y4 y5, σ' = [some (.ref p), some (.int top), some (.ref l), some (.int pl), y4, y5, some (.int cc)]) ∧ H' = H3, ?_, ?_⟩
        · refine ⟨_, rfl, _, _, rfl, rfl, _, rfl, l, _, rfl, .inl (SqL.of h3), _, _, rfl, rfl, _, rfl, ite2 (fun d => ?_) (fun d => ?_)⟩
          · have d' : 2 * pl + 1 + 1 < es3.length := by
              have := of_decide_eq_true d
              rw [vs_len] at this
              omega
            obtain ⟨y, hy⟩ : ∃ y, es3[2 * pl + 1 + 1]? = some y := ⟨_, List.getElem?_eq_getElem d'⟩
            have ey := he3 y (List.mem_of_getElem? hy)
            refine ⟨_, rfl, _, rfl, l, _, _, x.v, rfl, rfl, SqL.of h3, atI_nat (vs_at hx), _, _, 0, _, rfl, rfl, SqT.of ex, atI_nat (j := 0) rfl, _, rfl, _, rfl, _, _, rfl, rfl, l, _, _, y.v, rfl, rfl, SqL.of h3, ?_, _, _, 0, _, rfl, rfl, SqT.of ey, atI_nat (j := 0) rfl, _, _, rfl, rfl, _, rfl, ?_⟩
            · show atI (vsOf es3) (((2 * pl + 1 : Nat) : Int) + 1) = _
              rw [e2]
              exact atI_nat (vs_at hy)
            have eL : Hm.lss Ent.t es3 (2 * pl + 1) (2 * pl + 1 + 1) = decide (x.t < y.t) := by
              unfold Hm.lss
              rw [hx, hy]
            by_cases z : x.t < y.t
            · rw [show decide (y.t ≤ x.t) = false from decide_eq_false (by omega)]
              refine iteF ⟨2 * pl + 1, ?_, ⟨_, _, rfl⟩, rfl⟩
              unfold Hm.child
              rw [if_neg (fun w => by rw [eL, decide_eq_true z] at w; exact Bool.noConfusion w.2)]
            · rw [show decide (y.t ≤ x.t) = true from decide_eq_true (by omega)]
              refine iteT ⟨_, rfl, _, _, rfl, rfl, 2 * pl + 1 + 1, ?_, ⟨some (.int (0 + (i : Int))), some (.int ((2 * pl + 1 : Nat) : Int)), ?_⟩, rfl⟩
              · unfold Hm.child
                rw [if_pos ⟨d', by rw [eL, decide_eq_false z]⟩]
              · dsimp only
                rw [e2]
                rfl
          · have d' : ¬ 2 * pl + 1 + 1 < es3.length := fun z => d (decide_eq_true (by rw [vs_len]; omega))
            refine iteF ⟨2 * pl + 1, ?_, ⟨_, _, rfl⟩, rfl⟩
            unfold Hm.child
            rw [if_neg (fun w => d' w.1)]
        · rintro σ' H' ⟨cc, ec, ⟨z4, z5, rfl⟩, rfl⟩
          have hc1 := Hm.child_lt Ent.t es3 pl c'
          have hc2 := Hm.child_lo Ent.t es3 pl
          rw [← ec] at hc1 hc2 eD
          obtain ⟨y, hy⟩ : ∃ y, es3[cc]? = some y := ⟨_, List.getElem?_eq_getElem hc1⟩
          obtain ⟨z, hz⟩ : ∃ z, es3[pl]? = some z := ⟨_, List.getElem?_eq_getElem hp3⟩
          refine ⟨_, rfl, _, rfl, l, _, _, y.v, rfl, rfl, SqL.of h3, atI_nat (vs_at hy), _, rfl, _, rfl, l, _, _, z.v, rfl, rfl, SqL.of h3, atI_nat (vs_at hz), (by show 2 ≤ sizeLine; decide), fun U nU => ?_⟩
          have npU : l ≠ U := ne_of_none h3 nU
          refine ⟨U, [y.v, z.v], rfl, SqT.of upd_same, rfl, _, _, rfl, ?_⟩
          have h1 : (upd H' U (.tup [y.v, z.v])) l = some (.lst (vsOf es3)) := by
            rw [upd_ne npU]
            exact h3
          refine ⟨_, rfl, _, rfl, l, _, _, pl, rfl, rfl, h1, ixN_nat (by rw [vs_len]; exact hp3), _, _, rfl, ?_⟩
          refine ⟨_, rfl, _, rfl, l, _, _, cc, rfl, rfl, upd_same, ixN_nat (by rw [List.length_set, vs_len]; exact hc1), rfl, ?_⟩
          rw [upd_upd]
          refine ⟨_, rfl, ?_⟩
          have es4 : ((vsOf es3).set pl y.v).set cc z.v = vsOf (Hm.swp es3 pl cc) := by
            rw [Hm.swp_eq hz hy, vs_set, vs_set]
          have kU : Kp [l] H' (upd (upd H' U (.tup [y.v, z.v])) l (.lst (((vsOf es3).set pl y.v).set cc z.v))) := ((Kp.refl _ _).new nU).wr (List.mem_singleton.mpr rfl)
          refine ⟨Hm.swp es3 pl cc, cc, _, _, _, rfl, kp_same s3 nl kU, ?_, ?_, ?_, ?_, ?_, ?_⟩
          · rw [upd_same, es4]
          · exact (he3.kp kU h3).perm (Hm.swp_perm _ _ _)
          · rw [Hm.swp_len]
            exact hc1
          · rw [Hm.swp_len]
            exact hl3
          · rw [Nat.pow_succ]
            omega
          · rw [← eD]
            exact hr3
    · obtain ⟨es3, pl, y4, y5, y6, rfl, s3, h3, he3, hp3, hl3, hpw, hr3⟩ := hW
      have : (2 : Nat) ^ 64 ≤ 6001 := by omega
      exact absurd this (by decide)
/-! ### _law_push -/
def spLwPush : Sp := fun vs H Q _ => ∃ (p : Addr) (es : List Ent) (e : Ent), vs = [.ref p, e.v] ∧ H p = some (.lst (vsOf es)) ∧ Ents H es ∧ EntAt H e ∧ es.length ≤ 5000 ∧
  ∀ H' l, Same H H' → H l = none → H' l = some (.lst (vsOf (Hm.push Ent.t es e))) → Q (.ref l) H'
theorem vs_app1 {es : List Ent} {e : Ent} : vsOf es ++ [e.v] = vsOf (es ++ [e]) := by
  show _ = List.map Ent.v _
  rw [List.map_append]
  rfl
theorem ents_app1 {H : Hp} {es : List Ent} {e : Ent} (h : Ents H es) (he : EntAt H e) : Ents H (es ++ [e]) := fun x hx => by
  rcases List.mem_append.mp hx with hx | hx
  · exact h x hx
  · rw [List.mem_singleton.mp hx]
    exact he
theorem ok_lwPush (T : Txt K mg) : FnOk P w K mg base CX0 2 T.aLwPush T.dLwPush ["_law_lot", "_law_pair"] spLwPush := by
  have GLwUp : FnOk P w K mg base CX0 1 T.aLwUp T.dLwUp ["_law_lot", "_law_top", "_law_place"] spLwUp := ok_up T
  refine T.fLwPush.ok scLwPush (fun vs H Q E h => ?_) (fun cdv A outer s H vs Q E hr h => ?_)
  · obtain ⟨p, es, e, rfl, _⟩ := h
    rfl
  · obtain ⟨p, es, e, rfl, hp, he, hE, hl, q⟩ := h
    refine ⟨_, (pss_one (ps_ret (pe_call GLwUp (hr.mono (by decide)) (by rfl) T.gLwUp T.fLwUp.kp T.bLwUp .nil pass0 (pa_cons (pe_op op_cat (pv 0) (pe_lst (pa_cons (pv 1) pa_nil))) (pa_cons pe_int (pa_cons (pe_callB call_len_seq (by rfl) T.n_len PySem.boot_len (pa_cons (pv 0) pa_nil)) pa_nil)))))), ?_⟩
    refine ⟨_, rfl, _, rfl, (by show 1 ≤ sizeLine; decide), fun U nU => ?_⟩
    have s1 := same_new (o := .lst [e.v]) nU
    refine ⟨p, U, _, _, rfl, rfl, s1 _ _ hp, upd_same, ?_, fun C nC => ?_⟩
    · rw [vs_len]
      exact Nat.le_trans (show es.length + 1 ≤ 100000 by omega) (by decide)
    rw [vs_app1]
    have s2 := same_new (o := .lst (vsOf (es ++ [e]))) nC
    have s12 := s1.trans s2
    refine ⟨_, rfl, p, _, rfl, .inl (SqL.of (s12 _ _ hp)), C, es ++ [e], 0, es.length, ?_, upd_same, ents_app1 (he.same s12) (s12 _ _ hE), ?_, ?_, fun H' l s' nl h' => ?_⟩
    · rw [vs_len]
      rfl
    · rw [List.length_append]
      show es.length < es.length + 1
      omega
    · rw [List.length_append]
      show es.length + 1 ≤ 6000
      omega
    · exact q H' l (s12.trans s') (s12.free nl) h'
end
end K13

namespace K13
open PySem PySem.Spec PyProof.Rows L2
theorem cut_mid {xs : List V} (h : 2 ≤ xs.length) : cutV xs (some 1) (some (-1)) = (xs.drop 1).dropLast := by
  unfold cutV
  have e1 : HT.sIx xs.length 0 (some 1) = 1 := by
    show (if (1 : Int) < 0 then ((1 : Int) + (xs.length : Int)).toNat else min (1 : Int).toNat xs.length) = 1
    rw [if_neg (by decide)]
    show min 1 xs.length = 1
    omega
  have e2 : HT.sIx xs.length xs.length (some (-1)) = xs.length - 1 := by
    show (if (-1 : Int) < 0 then ((-1 : Int) + (xs.length : Int)).toNat else min (-1 : Int).toNat xs.length) = _
    rw [if_pos (by decide)]
    omega
  rw [e1, e2, List.dropLast_eq_take, List.length_drop]
theorem pop_two {es : List Ent} {x y : Ent} {r : List Ent} (h : es = x :: y :: r) : Hm.popL Ent.t es = Hm.sink Ent.t ((es.getLast (by rw [h]; exact List.cons_ne_nil _ _)) :: (es.drop 1).dropLast) 0 := by
  subst h
  unfold Hm.popL
  rw [List.getLast?_eq_some_getLast (List.cons_ne_nil _ _)]
  show (if (x :: (y :: r).dropLast).isEmpty = true then [] else Hm.sink Ent.t ((x :: (y :: r).dropLast).set 0 _) 0) = _
  rfl
theorem same_wr1 {H H1 : Hp} {p : Addr} {o : HO} (s : Same H H1) (n : H p = none) : Same H (upd H1 p o) := kp_same s n ((Kp.refl _ _).wr (List.mem_singleton.mpr rfl))
section
variable {P : Program} {w : World} {K : PySem.W.Frag} {mg : Str → Option Value} {base : Heap}
def spLwPop : Sp := fun vs H Q _ => ∃ (p : Addr) (es : List Ent) (x : Ent), vs = [.ref p] ∧ H p = some (.lst (vsOf es)) ∧ Ents H es ∧ es[0]? = some x ∧ es.length ≤ 5000 ∧
  ∀ H' u l, Same H H' → H l = none → H u = none → H' u = some (.tup [x.v, .ref l]) → H' l = some (.lst (vsOf (Hm.popL Ent.t es))) → Q (.ref u) H'
theorem ok_lwPop (T : Txt K mg) : FnOk P w K mg base CX0 3 T.aLwPop T.dLwPop ["_law_lot"] spLwPop := by
  have GLwDown : FnOk P w K mg base CX0 2 T.aLwDown T.dLwDown ["_law_lot", "_law_top"] spLwDown := ok_down T
  refine T.fLwPop.ok scLwPop (fun vs H Q E h => ?_) (fun cdv A outer s H vs Q E hr h => ?_)
  · obtain ⟨p, es, x, rfl, _⟩ := h
    rfl
  · obtain ⟨p, es, x, rfl, hp, he, hx, hl, q⟩ := h
    refine ⟨_, (pss_cons (ps_if (pt_cmpR op_eq (pe_callB call_len_seq (by rfl) T.n_len PySem.boot_len (pa_cons (pv 0) pa_nil)) pe_int (nomark _))
      (pss_one (ps_ret (pe_tup (pa_cons (pe_ix (r := rIxL K) ix_list (pv 0) pe_int (fun _ _ => rfl)) (pa_cons (pe_lst pa_nil) pa_nil)))))
      pss_nil)
      (pss_one (ps_ret (pe_tup (pa_cons (pe_ix (r := rIxL K) ix_list (pv 0) pe_int (fun _ _ => rfl)) (pa_cons (pe_call GLwDown (hr.mono (by decide)) (by rfl) T.gLwDown T.fLwDown.kp T.bLwDown .nil pass0 (pa_cons (pe_op op_cat (pe_lst (pa_cons (pe_ix (r := rIxL K) ix_list (pv 0) (pe_un un_neg pe_int) (fun _ _ => rfl)) pa_nil)) (pe_slice sl_list (pv 0) (po_some pe_int) (po_some (pe_un un_neg pe_int)))) (pa_cons pe_int pa_nil))) pa_nil)))))), ?_⟩
    obtain ⟨r, rfl⟩ : ∃ r, es = x :: r := by
      cases es with
      | nil => simp at hx
      | cons a r => exact ⟨r, by rw [Option.some.inj hx]⟩
    refine ⟨_, rfl, p, _, rfl, .inl (SqL.of hp), rfl, _, rfl, ite2 (fun c => ?_) (fun c => ?_)⟩
    · have c' : ((vsOf (x :: r)).length : Int) = 1 := V.int.inj (of_decide_eq_true c)
      have r0 : r = [] := by
        rw [vs_len, List.length_cons] at c'
        exact List.length_eq_zero_iff.mp (by omega)
      subst r0
      refine ⟨_, rfl, p, _, 0, x.v, rfl, rfl, SqL.of hp, atI_nat (j := 0) rfl, Nat.zero_le _, fun l nl => ⟨(by show 2 ≤ sizeLine; decide), fun u nu => ?_⟩⟩
      have s1 := same_new (o := .lst []) nl
      have s2 := same_new (o := .tup [x.v, .ref l]) nu
      exact q _ u l (s1.trans s2) nl (s1.free nu) upd_same (s2 _ _ upd_same)
    · obtain ⟨y, t, rfl⟩ : ∃ y t, r = y :: t := by
        cases r with
        | nil => exact absurd (decide_eq_true rfl) c
        | cons y t => exact ⟨y, t, rfl⟩
      have hz : vsOf (x :: y :: t) = vsOf (x :: y :: t).dropLast ++ [((x :: y :: t).getLast (List.cons_ne_nil _ _)).v] := by
        rw [vs_app1, List.dropLast_concat_getLast]
      have gl : atI (vsOf (x :: y :: t)) (-1) = some ((x :: y :: t).getLast (List.cons_ne_nil _ _)).v := by
        rw [hz]
        exact atI_last _ _
      refine ⟨_, rfl, p, _, 0, x.v, rfl, rfl, SqL.of hp, atI_nat (j := 0) rfl, _, rfl, 1, rfl, p, _, -1, _, rfl, rfl, SqL.of hp, gl, (by show 1 ≤ sizeLine; decide), fun U nU => ?_⟩
      have s1 := same_new (o := .lst [((x :: y :: t).getLast (List.cons_ne_nil _ _)).v]) nU
      refine ⟨_, rfl, 1, rfl, 1, rfl, -1, rfl, p, _, rfl, SqL.of (s1 _ _ hp), fun C nC => ?_⟩
      have em : cutV (vsOf (x :: y :: t)) (some 1) (some (-1)) = vsOf ((x :: y :: t).drop 1).dropLast := by
        rw [cut_mid (by rw [vs_len]; exact Nat.le_add_left 2 t.length)]
        show ((List.map Ent.v (x :: y :: t)).drop 1).dropLast = List.map Ent.v _
        rw [List.map_dropLast, List.map_drop]
      refine ⟨U, C, _, _, rfl, rfl, same_new nC _ _ upd_same, upd_same, ?_, fun D nD => ?_⟩
      · rw [em, vs_len, List.length_dropLast, List.length_drop]
        exact Nat.le_trans (show 1 + ((x :: y :: t).length - 1 - 1) ≤ 6000 by omega) (by decide)
      rw [em] at nD ⊢
      have s2 := same_new (o := .lst (vsOf ((x :: y :: t).drop 1).dropLast)) nC
      have ev : [((x :: y :: t).getLast (List.cons_ne_nil _ _)).v] ++ vsOf ((x :: y :: t).drop 1).dropLast = vsOf (((x :: y :: t).getLast (List.cons_ne_nil _ _)) :: ((x :: y :: t).drop 1).dropLast) := rfl
      rw [ev]
      have s3 := same_new (o := .lst (vsOf (((x :: y :: t).getLast (List.cons_ne_nil _ _)) :: ((x :: y :: t).drop 1).dropLast))) nD
      have s13 := s1.trans (s2.trans s3)
      have hsub : Ents H (((x :: y :: t).getLast (List.cons_ne_nil _ _)) :: ((x :: y :: t).drop 1).dropLast) := he.sub fun z hz => by
        rcases List.mem_cons.mp hz with rfl | hz
        · exact List.getLast_mem _
        · exact List.mem_of_mem_drop ((List.dropLast_sublist _).subset hz)
      refine ⟨D, _, 0, rfl, upd_same, hsub.same s13, by show 0 < _ + 1; omega, ?_, fun H' l s' nl h' => ?_⟩
      · rw [List.length_cons, List.length_dropLast, List.length_drop]
        omega
      refine ⟨(by show 2 ≤ sizeLine; decide), fun u nu => ?_⟩
      have s4 := same_new (o := .tup [x.v, .ref l]) nu
      have sx := s13.trans s'
      refine q _ u l (sx.trans s4) (s13.free nl) (sx.free nu) upd_same (s4 _ _ ?_)
      rw [pop_two rfl]
      exact h'
/-! ### _law_made -/
def spLwMade : Sp := fun vs H Q _ => ∃ (p : Addr) (es : List Ent), vs = [.ref p] ∧ H p = some (.lst (vsOf es)) ∧ Ents H es ∧ es.length ≤ 5000 ∧
  ∀ H' l, Same H H' → H l = none → H' l = some (.lst (vsOf (Hm.heapify Ent.t es))) → Q (.ref l) H'
theorem ok_made (T : Txt K mg) : FnOk P w K mg base CX0 3 T.aLwMade T.dLwMade ["_law_lot"] spLwMade := by
  have GLwDown : FnOk P w K mg base CX0 2 T.aLwDown T.dLwDown ["_law_lot", "_law_top"] spLwDown := ok_down T
  refine T.fLwMade.ok scLwMade (fun vs H Q E h => ?_) (fun cdv A outer s H vs Q E hr h => ?_)
  · obtain ⟨p, es, rfl, _⟩ := h
    rfl
  · obtain ⟨p, es, rfl, hp, he, hl, q⟩ := h
    refine ⟨_, (pss_cons (ps_set (i := 1) scLwMade.nd rfl (.inl rfl) (pe_callTy call_list_of (by rfl) T.n_list (by decide +kernel) (pa_cons (pv 0) pa_nil)))
      (pss_cons (ps_for PassesOwn.never rfl (pi_range3 (by rfl) T.n_range (pa_cons (pe_op op_sub (pe_op op_fdiv (pe_callB call_len_seq (by rfl) T.n_len PySem.boot_len (pa_cons (pv 0) pa_nil)) pe_int) pe_int) (pa_cons (pe_un un_neg pe_int) (pa_cons (pe_un un_neg pe_int) pa_nil)))) (pg_name (i := 2) scLwMade.nd rfl (.inl rfl))
      (pss_one (ps_set (i := 1) scLwMade.nd rfl (.inl rfl) (pe_call GLwDown (hr.mono (by decide)) (by rfl) T.gLwDown T.fLwDown.kp T.bLwDown .nil pass0 (pa_cons (pv 1) (pa_cons (pv 2) pa_nil))))))
      (pss_one (ps_ret (pv 1))))), ?_⟩
    refine ⟨_, rfl, p, _, rfl, .inl (SqL.of hp), fun l nl => ?_⟩
    have s1 := same_new (o := .lst (vsOf es)) nl
    have e1 : ((vsOf es).length : Int) / 2 - 1 = ((es.length / 2 : Nat) : Int) - 1 := by
      rw [vs_len]
      omega
    refine ⟨_, rfl, p, _, rfl, .inl (SqL.of (s1 _ _ hp)), _, _, rfl, rfl, ⟨by decide, by decide⟩, _, _, rfl, rfl, _, rfl, _, rfl, _, _, _, es.length / 2, rfl, ?_, ?_⟩
    · have : (((es.length / 2 : Nat) : Int) - 1 - (-1)).toNat = es.length / 2 := by omega
      rw [e1]
      rw [← this]
      have r := RgC.neg (i := ((es.length / 2 : Nat) : Int) - 1) (j := -1) (by omega) (by omega) (by omega) (by omega)
      rw [this] at r ⊢
      exact r
    refine for_rangeC (fun i σ H3 => ∃ (es3 : List Ent) (f3 : Addr) (y2 : Option V), σ = [some (.ref p), some (.ref f3), y2] ∧ es3.length = es.length ∧ Same H H3 ∧ H f3 = none ∧ H3 f3 = some (.lst (vsOf es3)) ∧ Ents H3 es3 ∧ Hm.heapTo Ent.t (es.length / 2 - i) es3 = Hm.heapify Ent.t es)
      ⟨es, l, none, rfl, rfl, s1, nl, upd_same, he.same s1, rfl⟩ (fun i σ H3 hi hW => ?_) (fun σ H3 hW => ?_)
    · obtain ⟨es3, f3, y2, rfl, l3, s3, n3, hp3, he3, r3⟩ := hW
      have e2 : ((vsOf es).length : Int) / 2 - 1 + (i : Int) * (-1) = ((es.length / 2 - i - 1 : Nat) : Int) := by
        rw [e1]
        omega
      dsimp only [gName]
      rw [e2]
      refine ⟨_, rfl, _, rfl, f3, es3, es.length / 2 - i - 1, rfl, hp3, he3, by omega, by omega, fun H' l' s' nl' h' => ?_⟩
      refine ⟨Hm.sink Ent.t es3 (es.length / 2 - i - 1), l', _, rfl, by rw [Hm.sink_len]; exact l3, s3.trans s', s3.free nl', h', (he3.same s').perm (Hm.sink_perm _ _ _), ?_⟩
      rw [← r3, show es.length / 2 - i = (es.length / 2 - i - 1) + 1 by omega]
      rfl
    · obtain ⟨es3, f3, y2, rfl, l3, s3, n3, hp3, he3, r3⟩ := hW
      refine ⟨_, rfl, q H3 f3 s3 n3 ?_⟩
      rw [← r3, Nat.sub_self]
      exact hp3
/-! ### _law_is_heap -/
theorem dp_ints1 {K : PySem.W.Frag} {H : Hp} : ∀ ns : List Int, DpAll K H (ns.map V.int) (ns.map PyData.int)
  | [] => .nil
  | n :: r => .cons (.int n) (dp_ints1 r)
theorem lay_ints1 : ∀ ns : List Int, PyData.canLayAll0 (ns.map PyData.int) = true
  | [] => rfl
  | n :: r => by
    show (PyData.canLay0 (.int n) && PyData.canLayAll0 (r.map PyData.int)) = true
    rw [lay_ints1 r]
    rfl
theorem depth_ints1 : ∀ ns : List Int, PyData.depthAll (ns.map PyData.int) ≤ 0
  | [] => Nat.zero_le _
  | n :: r => by
    show max (PyData.depth (.int n)) (PyData.depthAll (r.map PyData.int)) ≤ 0
    exact Nat.max_le.mpr ⟨Nat.le_refl 0, depth_ints1 r⟩
theorem shaped_ints1 (ns : List Int) : SeqAt.shaped (.list (ns.map PyData.int)) = true := by
  unfold SeqAt.shaped
  refine Bool.and_eq_true_iff.mpr ⟨lay_ints1 ns, decide_eq_true ?_⟩
  show PyData.depthAll (ns.map PyData.int) + 1 ≤ 64
  have := depth_ints1 ns
  omega
def spLwIsHeap : Sp := fun vs H Q _ => ∃ (p : Addr) (es : List Ent), vs = [.ref p] ∧ H p = some (.lst (vsOf es)) ∧ Ents H es ∧ es.length ≤ 5000 ∧ ∀ H', Same H H' → Q (.bl (Hm.isHeapB Ent.t es)) H'
theorem ok_lwIsHeap (T : Txt K mg) : FnOk P w K mg base CX0 1 T.aLwIsHeap T.dLwIsHeap ["_law_lot"] spLwIsHeap := by
  refine T.fLwIsHeap.ok scLwIsHeap (fun vs H Q E h => ?_) (fun cdv A outer s H vs Q E hr h => ?_)
  · obtain ⟨p, es, rfl, _⟩ := h
    rfl
  · obtain ⟨p, es, rfl, hp, he, hl, q⟩ := h
    refine ⟨_, (pss_one (ps_ret (pe_cmpR (r := rEqD K) (op_eqD hr.units) (pe_lc (own := [("_law_k", 1)]) (g := gName 1) rfl scLwIsHeap.nd (pi_range2 (by rfl) T.n_range (pa_cons pe_int (pa_cons (pe_callB call_len_seq (by rfl) T.n_len PySem.boot_len (pa_cons (pv 0) pa_nil)) pa_nil))) (blkOk_by (own := [("_law_k", 1)]) (N := ["_law_lot", "_law_k"]) (sc := defScope sLwIsHeap) (by decide +kernel)) (fun _ _ _ _ _ => (pg_name (i := 1) scLwIsHeap.nd rfl (.inl rfl))) (fun _ _ _ _ _ => (pts_one (pt_cmpR op_lt (pe_ix (r := rIxT K) ix_tup (pe_ix (r := rIxL K) ix_list (pv 0) (pv 1) (fun _ _ => rfl)) pe_int (fun _ _ => rfl)) (pe_ix (r := rIxT K) ix_tup (pe_ix (r := rIxL K) ix_list (pv 0) (pe_op op_fdiv (pe_op op_sub (pv 1) pe_int) pe_int) (fun _ _ => rfl)) pe_int (fun _ _ => rfl)) (nomark _)))) (fun _ _ _ _ _ => (pv 1))) (pe_lst pa_nil) (nomark _)))), ?_⟩
    refine ⟨_, rfl, p, _, rfl, .inl (SqL.of hp), 1, _, rfl, ⟨by decide, by decide, by rw [vs_len]; omega, by rw [vs_len]; omega⟩, fun D nD => ?_⟩
    have en : (((vsOf es).length : Int) - 1).toNat = es.length - 1 := by
      rw [vs_len]
      omega
    rw [en]
    refine lcR (n := es.length - 1) (fun i acc H3 => Same H H3 ∧ acc = (((List.range i).filter fun i => Hm.lss Ent.t es (i + 1) (i / 2)).map fun (i : Nat) => (1 : Int) + (i : Int)).map V.int) (by omega) (fun x => rfl) ⟨same_new nD, rfl⟩ ?_ ?_
    · intro i acc H3 Z N hi ⟨s3, e3⟩ hD hZ hN
      have hp3 := s3 _ _ hp
      have he3 := he.same s3
      obtain ⟨x, hx⟩ : ∃ x, es[i + 1]? = some x := ⟨_, List.getElem?_eq_getElem (by omega)⟩
      obtain ⟨y, hy⟩ : ∃ y, es[i / 2]? = some y := ⟨_, List.getElem?_eq_getElem (by omega)⟩
      have eL : Hm.lss Ent.t es (i + 1) (i / 2) = decide (x.t < y.t) := by
        unfold Hm.lss
        rw [hx, hy]
      refine ⟨_, rfl, _, rfl, p, _, _, x.v, rfl, rfl, SqL.of hp3, ?_, _, _, 0, _, rfl, rfl, SqT.of (he3 x (List.mem_of_getElem? hx)), atI_nat (j := 0) rfl, _, rfl, _, rfl, _, _, rfl, rfl, _, _, rfl, rfl, ⟨by decide, by decide⟩, p, _, _, y.v, rfl, rfl, SqL.of hp3, ?_, _, _, 0, _, rfl, rfl, SqT.of (he3 y (List.mem_of_getElem? hy)), atI_nat (j := 0) rfl, _, _, rfl, rfl, _, rfl, ?_⟩
      · rw [show (1 : Int) + (i : Int) = ((i + 1 : Nat) : Int) by omega]
        exact atI_nat (vs_at hx)
      · rw [show ((1 : Int) + (i : Int) - 1) / 2 = ((i / 2 : Nat) : Int) by omega]
        exact atI_nat (vs_at hy)
      by_cases d : x.t < y.t
      · rw [decide_eq_true d]
        refine iteT ⟨_, rfl, hZ _ _ hD ⟨same_wr1 s3 nD, ?_⟩⟩
        rw [e3, List.range_succ, List.filter_append, List.map_append, List.map_append, List.filter_cons_of_pos (by rw [eL]; exact decide_eq_true d)]
        rfl
      · rw [decide_eq_false d]
        refine iteF (hN _ hD ⟨s3, ?_⟩)
        rw [e3, List.range_succ, List.filter_append, List.filter_cons_of_neg (by rw [eL, decide_eq_false d]; exact Bool.false_ne_true), List.filter_nil, List.append_nil]
    · intro acc H3 ⟨s3, e3⟩ hD
      rw [e3] at hD
      refine ⟨Nat.zero_le _, fun U nU => ?_⟩
      have s4 := same_new (o := .lst []) nU
      refine ⟨_, .list [], .lst (SqL.of (s4 _ _ hD)) (dp_ints1 _), dp_emp (SqL.of upd_same), shaped_ints1 _, rfl, ?_⟩
      have ee : PyData.eqv (.list ((((List.range (es.length - 1)).filter fun i => Hm.lss Ent.t es (i + 1) (i / 2)).map fun (i : Nat) => (1 : Int) + (i : Int)).map PyData.int)) (.list []) = Hm.isHeapB Ent.t es := by
        unfold Hm.isHeapB
        cases hf : (List.range (es.length - 1)).filter fun i => Hm.lss Ent.t es (i + 1) (i / 2) with
        | nil =>
          have : (((List.range (es.length - 1)).map fun i => Hm.lss Ent.t es (i + 1) (i / 2)).any id) = false := by
            rw [List.any_eq_false]
            intro b hb
            obtain ⟨i, hi, rfl⟩ := List.mem_map.mp hb
            exact List.filter_eq_nil_iff.mp hf i hi
          rw [this]
          rfl
        | cons a b =>
          have ha : a ∈ (List.range (es.length - 1)).filter fun i => Hm.lss Ent.t es (i + 1) (i / 2) := by
            rw [hf]
            exact List.mem_cons_self
          have hm := List.mem_filter.mp ha
          have : (((List.range (es.length - 1)).map fun i => Hm.lss Ent.t es (i + 1) (i / 2)).any id) = true := by
            rw [List.any_eq_true]
            exact ⟨_, List.mem_map.mpr ⟨a, hm.1, rfl⟩, hm.2⟩
          rw [this]
          rfl
      rw [ee]
      exact q _ (s3.trans s4)
end
end K13

namespace K13
open PySem PySem.Spec PyProof.Rows L2
theorem well_ne {H : Hp} {pw p : Addr} {n : Int} {es : List Ent} (h : Well H pw n) (hp : H p = some (.lst (vsOf es))) : p ≠ pw := fun z => by
  obtain ⟨a, b, c, e, _⟩ := h
  rw [z, e] at hp
  have := HO.lst.inj (Option.some.inj hp)
  cases es with
  | nil => cases this
  | cons x r => cases this
theorem well_ent {H : Hp} {pw : Addr} {n : Int} {e : Ent} (h : Well H pw n) (he : EntAt H e) : e.a ≠ pw := fun z => by
  obtain ⟨a, b, c, e1, _⟩ := h
  unfold EntAt at he
  rw [z, e1] at he
  cases he
theorem Ents.well {H H' : Hp} {pw : Addr} {n : Int} {es : List Ent} (h : Ents H es) (w : Well H pw n) (k : Kp [pw] H H') : Ents H' es := fun e he => k _ _ (fun z => well_ent w (h e he) (List.mem_singleton.mp z)) (h e he)
theorem free_kp {H H' : Hp} {pw l : Addr} {n : Int} (k : Kp [pw] H H') (w : Well H' pw n) (h : H' l = none) : H l = none := by
  have e : l ≠ pw := fun z => by
    obtain ⟨a, b, c, e, _⟩ := w
    rw [z, e] at h
    cases h
  cases z : H l with
  | none => rfl
  | some o =>
    rw [k l o (fun m => e (List.mem_singleton.mp m)) z] at h
    cases h
theorem well_new {H : Hp} {pw l : Addr} {n : Int} (w : Well H pw n) (h : H l = none) : l ≠ pw := fun z => by
  obtain ⟨a, b, c, e, _⟩ := w
  rw [z, e] at h
  cases h
section
variable {P : Program} {w : World} {K : PySem.W.Frag} {mg : Str → Option Value} {base : Heap}
/-! ### _law_time -/
def spLwTime : Sp := fun vs H Q _ => ∃ (pw : Addr) (way n : Int), vs = [.ref pw, .int way] ∧ 0 ≤ way ∧ way < 3 ∧ Well H pw n ∧ n ≤ 100000000000 ∧ ∀ t H', Kp [pw] H H' → Well H' pw (n + 3) → Q (.int t) H'
theorem ok_time (T : Txt K mg) : FnOk P w K mg base CX0 2 T.aLwTime T.dLwTime ["_law_well_here", "_law_way"] spLwTime := by
  have GLwDraw : FnOk P w K mg base CX0 1 T.aLwDraw T.dLwDraw ["_law_well_here", "_law_many"] spLwDraw := ok_draw T
  refine T.fLwTime.ok scLwTime (fun vs H Q E h => ?_) (fun cdv A outer s H vs Q E hr h => ?_)
  · obtain ⟨pw, way, n, rfl, _⟩ := h
    rfl
  · obtain ⟨pw, way, n, rfl, h0, h3, hw, hn, q⟩ := h
    refine ⟨_, (pss_one (ps_ret (pe_ix (r := rIxL K) ix_list (pe_lst (pa_cons (pe_call GLwDraw (hr.mono (by decide)) (by rfl) T.gLwDraw T.fLwDraw.kp T.bLwDraw .nil pass0 (pa_cons (pv 0) (pa_cons pe_int pa_nil))) (pa_cons (pe_op op_sub (pe_call GLwDraw (hr.mono (by decide)) (by rfl) T.gLwDraw T.fLwDraw.kp T.bLwDraw .nil pass0 (pa_cons (pv 0) (pa_cons pe_int pa_nil))) pe_int) (pa_cons (pe_op op_sub (pe_call GLwDraw (hr.mono (by decide)) (by rfl) T.gLwDraw T.fLwDraw.kp T.bLwDraw .nil pass0 (pa_cons (pv 0) (pa_cons (pe_op op_pow pe_int pe_int) pa_nil))) (pe_op op_mul pe_int (pe_op op_pow pe_int pe_int))) pa_nil)))) (pv 1) (fun _ _ => rfl)))), ?_⟩
    refine ⟨_, rfl, pw, 4, n, rfl, hw, by omega, by decide, by decide, fun r1 H1 rr1 k1 w1 => ?_⟩
    refine ⟨_, rfl, pw, 99, _, rfl, w1, by omega, by decide, by decide, fun r2 H2 rr2 k2 w2 => ?_⟩
    refine ⟨_, _, rfl, rfl, _, rfl, _, _, rfl, rfl, ⟨by decide, by decide, by decide⟩, pw, _, _, rfl, w2, by omega, by decide, by decide, fun r3 H3 rr3 k3 w3 => ?_⟩
    refine ⟨_, _, rfl, rfl, ⟨by decide, by decide, by decide⟩, _, _, rfl, rfl, .inl ⟨by decide, by decide⟩, _, _, rfl, rfl, (by show 3 ≤ sizeLine; decide), fun U nU => ?_⟩
    have k := k1.trans (k2.trans k3)
    refine ⟨_, rfl, ?_⟩
    have w4 : Well (upd H3 U (.lst [.int r1, .int (r2 - 50), .int (r3 - 5 * 10 ^ (39 : Int).toNat)])) pw (n + 3) := (w3.same (same_new nU)).mono (by omega)
    have kU : Kp [pw] H (upd H3 U (.lst [.int r1, .int (r2 - 50), .int (r3 - 5 * 10 ^ (39 : Int).toNat)])) := k.new nU
    have hway : way = 0 ∨ way = 1 ∨ way = 2 := by omega
    rcases hway with rfl | rfl | rfl
    · exact ⟨U, _, _, _, rfl, rfl, SqL.of upd_same, atI_nat (j := 0) rfl, q _ _ kU w4⟩
    · exact ⟨U, _, _, _, rfl, rfl, SqL.of upd_same, atI_nat (j := 1) rfl, q _ _ kU w4⟩
    · exact ⟨U, _, _, _, rfl, rfl, SqL.of upd_same, atI_nat (j := 2) rfl, q _ _ kU w4⟩
/-! ### _law_rows -/
def spLwRows : Sp := fun vs H Q _ => ∃ (pw : Addr) (n : Int), vs = [.ref pw, .int 70] ∧ Well H pw n ∧ n ≤ 10000000000 ∧ ∀ H' l es, Kp [pw] H H' → Well H' pw (n + 1000) → H l = none → H' l = some (.lst (vsOf es)) → Ents H' es → es.length ≤ 70 → Q (.ref l) H'
theorem ok_rows (T : Txt K mg) : FnOk P w K mg base CX0 4 T.aLwRows T.dLwRows ["_law_well_here", "_law_most"] spLwRows := by
  have GLwDraw : FnOk P w K mg base CX0 1 T.aLwDraw T.dLwDraw ["_law_well_here", "_law_many"] spLwDraw := ok_draw T
  have GLwTime : FnOk P w K mg base CX0 2 T.aLwTime T.dLwTime ["_law_well_here", "_law_way"] spLwTime := ok_time T
  have GLwMade : FnOk P w K mg base CX0 3 T.aLwMade T.dLwMade ["_law_lot"] spLwMade := ok_made T
  refine T.fLwRows.ok scLwRows (fun vs H Q E h => ?_) (fun cdv A outer s H vs Q E hr h => ?_)
  · obtain ⟨pw, n, rfl, _⟩ := h
    rfl
  · obtain ⟨pw, n, rfl, hw, hn, q⟩ := h
    refine ⟨_, (pss_cons (ps_set (i := 2) scLwRows.nd rfl (.inr rfl) (pe_call GLwDraw (hr.mono (by decide)) (by rfl) T.gLwDraw T.fLwDraw.kp T.bLwDraw .nil pass0 (pa_cons (pv 0) (pa_cons pe_int pa_nil))))
      (pss_cons (ps_set (i := 3) scLwRows.nd rfl (.inl rfl) (pe_call GLwDraw (hr.mono (by decide)) (by rfl) T.gLwDraw T.fLwDraw.kp T.bLwDraw .nil pass0 (pa_cons (pv 0) (pa_cons (pe_op op_add (pv 1) pe_int) pa_nil))))
      (pss_cons (ps_setLc (i := 4) (own := [("_law_k", 5)]) (g := gName 5) rfl scLwRows.nd rfl rfl (sw_true rfl rfl rfl (by decide +kernel)) (pi_range1 (by rfl) T.n_range (pa_cons (pv 3) pa_nil)) (blkOk_by (own := [("_law_k", 5)]) (N := ["_law_well_here", "_law_most", "_law_way", "_law_many", "_law_lot", "_law_k"]) (sc := defScope sLwRows) (by decide +kernel)) (fun _ _ _ _ _ => (pg_name (i := 5) scLwRows.nd rfl (.inl rfl))) (fun _ _ _ _ _ => pts_nil) (fun _ _ _ _ _ => (pe_tup (pa_cons (pe_call GLwTime (hr.mono (by decide)) (by rfl) T.gLwTime T.fLwTime.kp T.bLwTime .nil pass0 (pa_cons (pv 0) (pa_cons (pv 2) pa_nil))) (pa_cons (pv 5) pa_nil)))))
      (pss_one (ps_ret (pe_ix (r := rIxL K) ix_list (pe_lst (pa_cons (pv 4) (pa_cons (pe_call GLwMade (hr.mono (by decide)) (by rfl) T.gLwMade T.fLwMade.kp T.bLwMade .nil pass0 (pa_cons (pv 4) pa_nil)) pa_nil))) (pe_call GLwDraw (hr.mono (by decide)) (by rfl) T.gLwDraw T.fLwDraw.kp T.bLwDraw .nil pass0 (pa_cons (pv 0) (pa_cons pe_int pa_nil))) (fun _ _ => rfl))))))), ?_⟩
    refine ⟨_, rfl, pw, 3, n, rfl, hw, by omega, by decide, by decide, fun way H1 rr1 k1 w1 => ?_⟩
    refine ⟨_, rfl, _, rfl, _, _, rfl, rfl, pw, _, _, rfl, w1, by omega, by decide, by decide, fun many H2 rr2 k2 w2 => ?_⟩
    have a1 := rr1.lo
    have b1 := rr1.hi
    have a2 := rr2.lo
    have b2 : many < 71 := rr2.hi
    refine ⟨_, rfl, _, rfl, by omega, by omega, fun D nD => ?_⟩
    have nDp := well_new w2 nD
    obtain ⟨m, hm, hm71⟩ : ∃ m : Nat, many.toNat = m ∧ m ≤ 70 := ⟨_, rfl, by omega⟩
    rw [hm]
    refine lcRY (n := m) (fun i acc H3 => Kp [pw] H2 H3 ∧ Well H3 pw (n + 1 + 1 + 3 * i) ∧ ∃ ms : List Ent, acc = vsOf ms ∧ Ents H3 ms ∧ ms.length = i) (by omega) (fun x => rfl) ⟨(Kp.refl _ _).new nD, (w2.same (same_new nD)).mono (by omega), [], rfl, (fun e z => nomatch z), rfl⟩ ?_ ?_
    · intro i acc H3 Z hi ⟨k3, w3, ms, e3, em, el⟩ hD hZ
      refine ⟨_, rfl, _, rfl, pw, way, _, rfl, a1, b1, w3, by omega, fun t H4 k4 w4 => ?_⟩
      refine ⟨_, rfl, (by show 2 ≤ sizeLine; decide), fun u nu => ?_⟩
      have hD4 : H4 D = some (.lst acc) := k4 _ _ (fun z => nDp (List.mem_singleton.mp z)) hD
      have s5 := same_new (o := .tup [.int t, .int (0 + (i : Int))]) nu
      have em4 := em.well w3 k4
      refine hZ _ _ (s5 _ _ hD4) ⟨?_, ?_, ms ++ [⟨u, t, 0 + (i : Int)⟩], ?_, ?_, ?_⟩
      · exact fun b o hb e => by
          have hb2 : b ≠ D := ne_of_none e nD
          rw [upd_ne hb2]
          exact s5 _ _ (k4 b o hb (k3 b o hb e))
      · have w5 := w4.same s5
        obtain ⟨x0, x1, x2, x3, x4, x5⟩ := w5
        exact ⟨x0, x1, x2, by rw [upd_ne (Ne.symm nDp)]; exact x3, x4, by omega⟩
      · rw [e3]
        exact vs_app1 (e := ⟨u, t, 0 + (i : Int)⟩)
      · have hu : EntAt (upd H4 u (.tup [.int t, .int (0 + (i : Int))])) ⟨u, t, 0 + (i : Int)⟩ := by
          unfold EntAt
          exact upd_same
        exact (ents_app1 (em4.same s5) hu).kp ((Kp.refl _ _).wr (List.mem_singleton.mpr rfl)) (s5 _ _ hD4)
      · rw [List.length_append, el]
        rfl
    · intro acc H3 ⟨k3, w3, ms, e3, em, el⟩ hD
      rw [e3] at hD
      -- return [lot, made(lot)][draw]
      refine ⟨_, rfl, _, rfl, D, ms, rfl, hD, em, by omega, fun H4 l4 s4 n4 h4 => ?_⟩
      refine ⟨(by show 2 ≤ sizeLine; decide), fun U nU => ?_⟩
      have s5 := same_new (o := .lst [V.ref D, V.ref l4]) nU
      have w5 := (w3.same s4).same s5
      have hU5 : (upd H4 U (.lst [V.ref D, V.ref l4])) U = some (.lst [V.ref D, V.ref l4]) := upd_same
      have nUp := well_new (w3.same s4) nU
      refine ⟨_, rfl, pw, 2, _, rfl, w5, by omega, by decide, by decide, fun r6 H6 rr6 k6 w6 => ?_⟩
      have hU6 : H6 U = some (.lst [V.ref D, V.ref l4]) := k6 _ _ (fun z => nUp (List.mem_singleton.mp z)) hU5
      have hD6 : H6 D = some (.lst (vsOf ms)) := k6 _ _ (fun z => nDp (List.mem_singleton.mp z)) (s5 _ _ (s4 _ _ hD))
      have nl4p : l4 ≠ pw := well_new w3 n4
      have hl6 : H6 l4 = some (.lst (vsOf (Hm.heapify Ent.t ms))) := k6 _ _ (fun z => nl4p (List.mem_singleton.mp z)) (s5 _ _ h4)
      have em6 := ((em.same s4).same s5).well w5 k6
      have kk : Kp [pw] H H6 := (k1.trans (k2.trans k3)).trans ((Same.kp s4 _).trans ((Same.kp s5 _).trans k6))
      have w6' : Well H6 pw (n + 1000) := w6.mono (by omega)
      have nD0 : H D = none := free_kp (k1.trans k2) w2 nD
      have nl0 : H l4 = none := free_kp (k1.trans (k2.trans k3)) w3 n4
      have a6 := rr6.lo
      have b6 := rr6.hi
      have h01 : r6 = 0 ∨ r6 = 1 := by omega
      rcases h01 with rfl | rfl
      · exact ⟨U, _, _, _, rfl, rfl, SqL.of hU6, atI_nat (j := 0) rfl, q _ _ _ kk w6' nD0 hD6 em6 (by omega)⟩
      · refine ⟨U, _, _, _, rfl, rfl, SqL.of hU6, atI_nat (j := 1) rfl, q _ _ _ kk w6' nl0 hl6 (em6.perm (Hm.heapify_perm _ _)) ?_⟩
        rw [(Hm.heapify_perm Ent.t ms).length_eq]
        omega
end
end K13

namespace K13
open PySem PySem.Spec PyProof.Rows L2
/-- all is kept, but the well's list at pw and the tables -/
def Far (pw : Addr) (H H' : Hp) : Prop := ∀ b o, b ≠ pw → H b = some o → (∀ ps, o ≠ .tbl ps) → H' b = some o
theorem Far.refl (pw : Addr) (H : Hp) : Far pw H H := fun _ _ _ h _ => h
theorem Far.trans {pw : Addr} {H H1 H2 : Hp} (a : Far pw H H1) (b : Far pw H1 H2) : Far pw H H2 := fun c o n h t => b c o n (a c o n h t) t
theorem Far.kp {pw : Addr} {H H' : Hp} (k : Kp [pw] H H') : Far pw H H' := fun b o n h _ => k b o (fun z => n (List.mem_singleton.mp z)) h
theorem Far.same {pw : Addr} {H H' : Hp} (k : Same H H') : Far pw H H' := fun b o _ h _ => k b o h
theorem Far.ext {pw : Addr} {H H' : Hp} (k : LamX.ExtN H H') : Far pw H H' := fun b o _ h t => k b o h t
/-- it is known whether v is an entry, as long as but the well changes -/
def SIt (pw : Addr) (H : Hp) (v : V) (b : Bool) : Prop := ∀ H', Far pw H H' → ItB H' v b
theorem SIt.far {pw : Addr} {H H1 : Hp} {v : V} {b : Bool} (h : SIt pw H v b) (f : Far pw H H1) : SIt pw H1 v b := fun H' g => h H' (f.trans g)
theorem SIt.here {pw : Addr} {H : Hp} {v : V} {b : Bool} (h : SIt pw H v b) : ItB H v b := h H (Far.refl _ _)
theorem sit_scal {pw : Addr} {H : Hp} {v : V} (h : Scal v) : SIt pw H v false := fun _ _ => .scal h
theorem sit_tup {pw u : Addr} {H : Hp} {xs : List V} (n : u ≠ pw) (h : H u = some (.tup xs)) (hs : ∀ x ∈ xs, Scal x) : SIt pw H (.ref u) (entB xs) := fun _ f => .tup (f u _ n h (fun _ z => by cases z)) hs
theorem sit_lst {pw u : Addr} {H : Hp} {xs : List V} (n : u ≠ pw) (h : H u = some (.lst xs)) : SIt pw H (.ref u) false := fun _ f => .lst (f u _ n h (fun _ z => by cases z))
theorem sit_ent {pw : Addr} {H : Hp} {e : Ent} (n : e.a ≠ pw) (h : EntAt H e) : SIt pw H e.v true := fun _ f => ItB.ent (f _ _ n h (fun _ z => by cases z))
def SBad (pw : Addr) (H : Hp) (v : V) : Prop := ∀ H', Far pw H H' → BadRows H' v
theorem SBad.far {pw : Addr} {H H1 : Hp} {v : V} (h : SBad pw H v) (f : Far pw H H1) : SBad pw H1 v := fun H' g => h H' (f.trans g)
theorem SBad.here {pw : Addr} {H : Hp} {v : V} (h : SBad pw H v) : BadRows H v := h H (Far.refl _ _)
theorem sbad_item {pw a : Addr} {H : Hp} {bad : V} {xs : List V} (n : a ≠ pw) (h : H a = some (.lst xs)) (hl : xs.length ≤ 5000) (hb : SIt pw H bad false) (hm : bad ∈ xs) (ha : ∀ x ∈ xs, x = bad ∨ SIt pw H x true) : SBad pw H (.ref a) := fun H' f => by
  classical
  refine BadRows.item (f := fun x => if x = bad then false else true) (f a _ n h (fun _ z => by cases z)) hl (fun x hx => ?_) ⟨bad, hm, if_pos rfl⟩
  by_cases e : x = bad
  · rw [if_pos e, e]
    exact hb H' f
  · rw [if_neg e]
    exact (ha x hx).elim (fun z => absurd z e) fun z => z H' f
theorem cut_mem {xs : List V} {lo hi : Option Int} {v : V} (h : v ∈ cutV xs lo hi) : v ∈ xs := by
  unfold cutV at h
  exact List.mem_of_mem_drop (List.mem_of_mem_take h)
section
variable {P : Program} {w : World} {K : PySem.W.Frag} {mg : Str → Option Value} {base : Heap}
def spLwOdd : Sp := fun vs H Q _ => ∃ (pw p : Addr) (n : Int) (es : List Ent), vs = [.ref pw, .ref p] ∧ Well H pw n ∧ n ≤ 100000000000 ∧ H p = some (.lst (vsOf es)) ∧ Ents H es ∧ es.length ≤ 70 ∧
  ∀ v H', Kp [pw] H H' → Well H' pw (n + 3) → SBad pw H' v → Q v H'
theorem ok_odd (T : Txt K mg) : FnOk P w K mg base CX0 3 T.aLwOdd T.dLwOdd ["_law_well_here", "_law_lot"] spLwOdd := by
  have GLwDraw : FnOk P w K mg base CX0 1 T.aLwDraw T.dLwDraw ["_law_well_here", "_law_many"] spLwDraw := ok_draw T
  have GLwPick : FnOk P w K mg base CX0 2 T.aLwPick T.dLwPick ["_law_well_here", "_law_some"] spLwPick := ok_pick T
  refine T.fLwOdd.ok scLwOdd (fun vs H Q E h => ?_) (fun cdv A outer s H vs Q E hr h => ?_)
  · obtain ⟨pw, p, n, es, rfl, _⟩ := h
    rfl
  · obtain ⟨pw, p, n, es, rfl, hw, hn, hp, he, hl, q⟩ := h
    refine ⟨_, (pss_cons (ps_set (i := 2) scLwOdd.nd rfl (.inl rfl) (pe_call GLwPick (hr.mono (by decide)) (by rfl) T.gLwPick T.fLwPick.kp T.bLwPick .nil pass0 (pa_cons (pv 0) (pa_cons (pe_lst (pa_cons (pe_tup (pa_cons pe_int pa_nil)) (pa_cons (pe_tup (pa_cons pe_int (pa_cons pe_int (pa_cons pe_int pa_nil)))) (pa_cons (pe_lst (pa_cons pe_int (pa_cons pe_int pa_nil))) (pa_cons (pe_tup (pa_cons pe_bl (pa_cons pe_int pa_nil))) (pa_cons (pe_tup (pa_cons pe_int (pa_cons pe_non pa_nil))) (pa_cons (pe_tup (pa_cons pe_str (pa_cons pe_int pa_nil))) (pa_cons pe_non (pa_cons pe_int (pa_cons pe_str (pa_cons (pe_tup (pa_cons pe_int (pa_cons pe_bl pa_nil))) pa_nil))))))))))) pa_nil))))
      (pss_cons (ps_set (i := 3) scLwOdd.nd rfl (.inl rfl) (pe_call GLwDraw (hr.mono (by decide)) (by rfl) T.gLwDraw T.fLwDraw.kp T.bLwDraw .nil pass0 (pa_cons (pv 0) (pa_cons (pe_op op_add (pe_callB call_len_seq (by rfl) T.n_len PySem.boot_len (pa_cons (pv 1) pa_nil)) pe_int) pa_nil))))
      (pss_one (ps_ret (pe_call GLwPick (hr.mono (by decide)) (by rfl) T.gLwPick T.fLwPick.kp T.bLwPick .nil pass0 (pa_cons (pv 0) (pa_cons (pe_lst (pa_cons (pe_op op_cat (pe_op op_cat (pe_slice sl_list (pv 1) po_none (po_some (pv 3))) (pe_lst (pa_cons (pv 2) pa_nil))) (pe_slice sl_list (pv 1) (po_some (pv 3)) po_none)) (pa_cons (pe_op op_cat (pv 1) (pe_lst (pa_cons (pv 2) pa_nil))) (pa_cons (pe_callTy call_tuple_of (by rfl) T.n_tuple (by decide +kernel) (pa_cons (pv 1) pa_nil)) (pa_cons pe_non (pa_cons pe_str (pa_cons pe_dnewK (pa_cons pe_int pa_nil)))))))) pa_nil))))))), ?_⟩
    have npw := well_ne hw hp
    have w0 := hw
    refine ⟨_, rfl, (by show 1 ≤ sizeLine; decide), fun u1 n1 => ?_⟩
    have s1 := same_new (o := .tup [V.int 1]) n1
    have h1 : (upd H u1 (.tup [V.int 1])) u1 = some (.tup [V.int 1]) := upd_same
    have w1 := w0.same s1
    have d1 := well_new w0 n1
    generalize upd H u1 (.tup [V.int 1]) = H1 at s1 h1 w1 ⊢
    refine ⟨(by show 3 ≤ sizeLine; decide), fun u2 n2 => ?_⟩
    have s2 := same_new (o := .tup [V.int 1, V.int 2, V.int 3]) n2
    have h2 : (upd H1 u2 (.tup [V.int 1, V.int 2, V.int 3])) u2 = some (.tup [V.int 1, V.int 2, V.int 3]) := upd_same
    have w2 := w1.same s2
    have d2 := well_new w1 n2
    generalize upd H1 u2 (.tup [V.int 1, V.int 2, V.int 3]) = H2 at s2 h2 w2 ⊢
    refine ⟨(by show 2 ≤ sizeLine; decide), fun u3 n3 => ?_⟩
    have s3 := same_new (o := .lst [V.int 1, V.int 2]) n3
    have h3 : (upd H2 u3 (.lst [V.int 1, V.int 2])) u3 = some (.lst [V.int 1, V.int 2]) := upd_same
    have w3 := w2.same s3
    have d3 := well_new w2 n3
    generalize upd H2 u3 (.lst [V.int 1, V.int 2]) = H3 at s3 h3 w3 ⊢
    refine ⟨(by show 2 ≤ sizeLine; decide), fun u4 n4 => ?_⟩
    have s4 := same_new (o := .tup [V.bl true, V.int 1]) n4
    have h4 : (upd H3 u4 (.tup [V.bl true, V.int 1])) u4 = some (.tup [V.bl true, V.int 1]) := upd_same
    have w4 := w3.same s4
    have d4 := well_new w3 n4
    generalize upd H3 u4 (.tup [V.bl true, V.int 1]) = H4 at s4 h4 w4 ⊢
    refine ⟨(by show 2 ≤ sizeLine; decide), fun u5 n5 => ?_⟩
    have s5 := same_new (o := .tup [V.int 1, V.non]) n5
    have h5 : (upd H4 u5 (.tup [V.int 1, V.non])) u5 = some (.tup [V.int 1, V.non]) := upd_same
    have w5 := w4.same s5
    have d5 := well_new w4 n5
    generalize upd H4 u5 (.tup [V.int 1, V.non]) = H5 at s5 h5 w5 ⊢
    refine ⟨(by show 2 ≤ sizeLine; decide), fun u6 n6 => ?_⟩
    have s6 := same_new (o := .tup [V.str "1", V.int 2]) n6
    have h6 : (upd H5 u6 (.tup [V.str "1", V.int 2])) u6 = some (.tup [V.str "1", V.int 2]) := upd_same
    have w6 := w5.same s6
    have d6 := well_new w5 n6
    generalize upd H5 u6 (.tup [V.str "1", V.int 2]) = H6 at s6 h6 w6 ⊢
    refine ⟨(by show 2 ≤ sizeLine; decide), fun u7 n7 => ?_⟩
    have s7 := same_new (o := .tup [V.int 1, V.bl false]) n7
    have h7 : (upd H6 u7 (.tup [V.int 1, V.bl false])) u7 = some (.tup [V.int 1, V.bl false]) := upd_same
    have w7 := w6.same s7
    have d7 := well_new w6 n7
    generalize upd H6 u7 (.tup [V.int 1, V.bl false]) = H7 at s7 h7 w7 ⊢
    refine ⟨(by show 10 ≤ sizeLine; decide), fun u8 n8 => ?_⟩
    have s8 := same_new (o := .lst [V.ref u1, V.ref u2, V.ref u3, V.ref u4, V.ref u5, V.ref u6, V.non, V.int 5, V.str "ab", V.ref u7]) n8
    have h8 : (upd H7 u8 (.lst [V.ref u1, V.ref u2, V.ref u3, V.ref u4, V.ref u5, V.ref u6, V.non, V.int 5, V.str "ab", V.ref u7])) u8 = some (.lst [V.ref u1, V.ref u2, V.ref u3, V.ref u4, V.ref u5, V.ref u6, V.non, V.int 5, V.str "ab", V.ref u7]) := upd_same
    have w8 := w7.same s8
    have d8 := well_new w7 n8
    generalize upd H7 u8 (.lst [V.ref u1, V.ref u2, V.ref u3, V.ref u4, V.ref u5, V.ref u6, V.non, V.int 5, V.str "ab", V.ref u7]) = H8 at s8 h8 w8 ⊢
    refine ⟨pw, u8, _, n, rfl, w8, by omega, h8, d8, Nat.succ_pos _, (by show 10 ≤ 100000; decide), fun bad H9 hbad k9 w9 => ?_⟩
    have s08 : Same H H8 := s1.trans (s2.trans (s3.trans (s4.trans (s5.trans (s6.trans (s7.trans s8))))))
    have sb : SIt pw H9 bad false := by
      refine SIt.far (H := H8) ?_ (Far.kp k9)
      have t1 := (sit_tup (xs := [V.int 1]) d1 (s8 _ _ (s7 _ _ (s6 _ _ (s5 _ _ (s4 _ _ (s3 _ _ (s2 _ _ h1))))))) (by simp [Scal]))
      have t2 := (sit_tup (xs := [V.int 1, V.int 2, V.int 3]) d2 (s8 _ _ (s7 _ _ (s6 _ _ (s5 _ _ (s4 _ _ (s3 _ _ h2)))))) (by simp [Scal]))
      have t3 := (sit_lst d3 (s8 _ _ (s7 _ _ (s6 _ _ (s5 _ _ (s4 _ _ h3))))))
      have t4 := (sit_tup (xs := [V.bl true, V.int 1]) d4 (s8 _ _ (s7 _ _ (s6 _ _ (s5 _ _ h4)))) (by simp [Scal]))
      have t5 := (sit_tup (xs := [V.int 1, V.non]) d5 (s8 _ _ (s7 _ _ (s6 _ _ h5))) (by simp [Scal]))
      have t6 := (sit_tup (xs := [V.str "1", V.int 2]) d6 (s8 _ _ (s7 _ _ h6)) (by simp [Scal]))
      have t7 := (sit_tup (xs := [V.int 1, V.bl false]) d7 (s8 _ _ h7) (by simp [Scal]))
      simp only [List.mem_cons, List.not_mem_nil, or_false] at hbad
      rcases hbad with rfl | rfl | rfl | rfl | rfl | rfl | rfl | rfl | rfl | rfl
      · exact t1
      · exact t2
      · exact t3
      · exact t4
      · exact t5
      · exact t6
      · exact sit_scal trivial
      · exact sit_scal trivial
      · exact sit_scal trivial
      · exact t7
    have hp9 : H9 p = some (.lst (vsOf es)) := k9 _ _ (fun z => npw (List.mem_singleton.mp z)) (s08 _ _ hp)
    have he9 : Ents H9 es := (he.same s08).well w8 k9
    have kk : Kp [pw] H H9 := (Same.kp s08 _).trans k9
    have len : (es.length : Int) ≤ 70 := by omega
    refine ⟨_, rfl, _, rfl, p, _, rfl, .inl (SqL.of hp9), _, _, rfl, rfl, pw, _, _, rfl, w9, by omega, ?_, ?_, fun spot H10 rr k10 w10 => ?_⟩
    · rw [vs_len]
      omega
    · rw [vs_len]
      exact Int.lt_of_le_of_lt (show (es.length : Int) + 1 ≤ 71 by omega) (by decide)
    have hp10 : H10 p = some (.lst (vsOf es)) := k10 _ _ (fun z => npw (List.mem_singleton.mp z)) hp9
    have he10 : Ents H10 es := he9.well w9 k10
    have sb10 := sb.far (Far.kp k10)
    have lo := rr.lo
    have hi := rr.hi
    refine ⟨_, rfl, _, rfl, _, rfl, spot, rfl, p, _, rfl, SqL.of hp10, fun u11 n11 => ?_⟩
    have s11 := same_new (o := .lst (cutV (vsOf es) none (some spot))) n11
    have h11 : (upd H10 u11 (.lst (cutV (vsOf es) none (some spot)))) u11 = some (.lst (cutV (vsOf es) none (some spot))) := upd_same
    have w11 := w10.same s11
    have d11 := well_new w10 n11
    generalize upd H10 u11 (.lst (cutV (vsOf es) none (some spot))) = H11 at s11 h11 w11 ⊢
    refine ⟨_, rfl, (by show 1 ≤ sizeLine; decide), fun u12 n12 => ?_⟩
    have s12 := same_new (o := .lst [bad]) n12
    have h12 : (upd H11 u12 (.lst [bad])) u12 = some (.lst [bad]) := upd_same
    have w12 := w11.same s12
    have d12 := well_new w11 n12
    generalize upd H11 u12 (.lst [bad]) = H12 at s12 h12 w12 ⊢
    have c1 := cutV_length (vsOf es) none (some spot)
    have c2 := cutV_length (vsOf es) (some spot) none
    rw [vs_len] at c1 c2
    refine ⟨u11, u12, _, _, rfl, rfl, s12 _ _ h11, h12, Nat.le_trans (show _ ≤ 71 by show (cutV (vsOf es) none (some spot)).length + 1 ≤ 71; omega) (by decide), fun u13 n13 => ?_⟩
    have s13 := same_new (o := .lst (cutV (vsOf es) none (some spot) ++ [bad])) n13
    have h13 : (upd H12 u13 (.lst (cutV (vsOf es) none (some spot) ++ [bad]))) u13 = some (.lst (cutV (vsOf es) none (some spot) ++ [bad])) := upd_same
    have w13 := w12.same s13
    have d13 := well_new w12 n13
    generalize upd H12 u13 (.lst (cutV (vsOf es) none (some spot) ++ [bad])) = H13 at s13 h13 w13 ⊢
    refine ⟨_, rfl, _, rfl, spot, rfl, p, _, rfl, SqL.of (s13 _ _ (s12 _ _ (s11 _ _ hp10))), fun u14 n14 => ?_⟩
    have s14 := same_new (o := .lst (cutV (vsOf es) (some spot) none)) n14
    have h14 : (upd H13 u14 (.lst (cutV (vsOf es) (some spot) none))) u14 = some (.lst (cutV (vsOf es) (some spot) none)) := upd_same
    have w14 := w13.same s14
    have d14 := well_new w13 n14
    generalize upd H13 u14 (.lst (cutV (vsOf es) (some spot) none)) = H14 at s14 h14 w14 ⊢
    refine ⟨u13, u14, _, _, rfl, rfl, s14 _ _ h13, h14, ?_, fun u15 n15 => ?_⟩
    · refine Nat.le_trans (show _ ≤ 141 from ?_) (by decide)
      rw [List.length_append]
      show (cutV (vsOf es) none (some spot)).length + 1 + _ ≤ 141
      omega
    have s15 := same_new (o := .lst ((cutV (vsOf es) none (some spot) ++ [bad]) ++ cutV (vsOf es) (some spot) none)) n15
    have h15 : (upd H14 u15 (.lst ((cutV (vsOf es) none (some spot) ++ [bad]) ++ cutV (vsOf es) (some spot) none))) u15 = some (.lst ((cutV (vsOf es) none (some spot) ++ [bad]) ++ cutV (vsOf es) (some spot) none)) := upd_same
    have w15 := w14.same s15
    have d15 := well_new w14 n15
    generalize upd H14 u15 (.lst ((cutV (vsOf es) none (some spot) ++ [bad]) ++ cutV (vsOf es) (some spot) none)) = H15 at s15 h15 w15 ⊢
    have s15' : Same H10 H15 := s11.trans (s12.trans (s13.trans (s14.trans s15)))
    refine ⟨_, rfl, _, rfl, (by show 1 ≤ sizeLine; decide), fun u16 n16 => ?_⟩
    have s16 := same_new (o := .lst [bad]) n16
    have h16 : (upd H15 u16 (.lst [bad])) u16 = some (.lst [bad]) := upd_same
    have w16 := w15.same s16
    have d16 := well_new w15 n16
    generalize upd H15 u16 (.lst [bad]) = H16 at s16 h16 w16 ⊢
    refine ⟨p, u16, _, _, rfl, rfl, s16 _ _ (s15' _ _ hp10), h16, Nat.le_trans (show _ ≤ 71 by rw [vs_len]; show es.length + 1 ≤ 71; omega) (by decide), fun u17 n17 => ?_⟩
    have s17 := same_new (o := .lst (vsOf es ++ [bad])) n17
    have h17 : (upd H16 u17 (.lst (vsOf es ++ [bad]))) u17 = some (.lst (vsOf es ++ [bad])) := upd_same
    have w17 := w16.same s17
    have d17 := well_new w16 n17
    generalize upd H16 u17 (.lst (vsOf es ++ [bad])) = H17 at s17 h17 w17 ⊢
    refine ⟨_, rfl, p, _, rfl, .inl ⟨SqL.of (s17 _ _ (s16 _ _ (s15' _ _ hp10))), fun u18 n18 => ?_⟩⟩
    have s18 := same_new (o := .tup (vsOf es)) n18
    have h18 : (upd H17 u18 (.tup (vsOf es))) u18 = some (.tup (vsOf es)) := upd_same
    have w18 := w17.same s18
    have d18 := well_new w17 n18
    generalize upd H17 u18 (.tup (vsOf es)) = H18 at s18 h18 w18 ⊢
    refine fun u19 n19 => ?_
    have s19 := same_new (o := .dK []) n19
    have h19 : (upd H18 u19 (.dK [])) u19 = some (.dK []) := upd_same
    have w19 := w18.same s19
    have d19 := well_new w18 n19
    generalize upd H18 u19 (.dK []) = H19 at s19 h19 w19 ⊢
    refine ⟨(by show 7 ≤ sizeLine; decide), fun u20 n20 => ?_⟩
    have s20 := same_new (o := .lst [V.ref u15, V.ref u17, V.ref u18, V.non, V.str "rows", V.ref u19, V.int 7]) n20
    have h20 : (upd H19 u20 (.lst [V.ref u15, V.ref u17, V.ref u18, V.non, V.str "rows", V.ref u19, V.int 7])) u20 = some (.lst [V.ref u15, V.ref u17, V.ref u18, V.non, V.str "rows", V.ref u19, V.int 7]) := upd_same
    have w20 := w19.same s20
    have d20 := well_new w19 n20
    generalize upd H19 u20 (.lst [V.ref u15, V.ref u17, V.ref u18, V.non, V.str "rows", V.ref u19, V.int 7]) = H20 at s20 h20 w20 ⊢
    have s20' : Same H10 H20 := s15'.trans (s16.trans (s17.trans (s18.trans (s19.trans s20))))
    refine ⟨pw, u20, _, _, rfl, w20, by omega, h20, d20, Nat.succ_pos _, (by show 7 ≤ 100000; decide), fun v H21 hv k21 w21 => ?_⟩
    have sb20 := sb10.far (Far.same s20')
    have he20 := he10.same s20'
    have ent : ∀ x ∈ vsOf es, SIt pw H20 x true := fun x hx => by
      obtain ⟨e, hm, rfl⟩ := List.mem_map.mp hx
      exact sit_ent (well_ent w20 (he20 e hm)) (he20 e hm)
    have b1 : SBad pw H20 (.ref u15) := by
      refine sbad_item d15 (s20 _ _ (s19 _ _ (s18 _ _ (s17 _ _ (s16 _ _ h15))))) ?_ sb20 (by simp) fun x hx => ?_
      · rw [List.length_append, List.length_append]
        show (cutV (vsOf es) none (some spot)).length + 1 + _ ≤ 5000
        omega
      · rcases List.mem_append.mp hx with z | z
        · rcases List.mem_append.mp z with z | z
          · exact .inr (ent x (cut_mem z))
          · exact .inl (List.mem_singleton.mp z)
        · exact .inr (ent x (cut_mem z))
    have b2 : SBad pw H20 (.ref u17) := by
      refine sbad_item d17 (s20 _ _ (s19 _ _ (s18 _ _ h17))) ?_ sb20 (by simp) fun x hx => ?_
      · rw [List.length_append, vs_len]
        show es.length + 1 ≤ 5000
        omega
      · rcases List.mem_append.mp hx with z | z
        · exact .inr (ent x z)
        · exact .inl (List.mem_singleton.mp z)
    have b3 : SBad pw H20 (.ref u18) := fun H' f => .tup (f _ _ d18 (s20 _ _ (s19 _ _ h18)) (fun _ z => by cases z))
    have b6 : SBad pw H20 (.ref u19) := fun H' f => .dct (f _ _ d19 (s20 _ _ h19) (fun _ z => by cases z))
    have sc : ∀ v : V, Scal v → SBad pw H20 v := fun v h H' _ => .scal h
    have bv : SBad pw H20 v := by
      simp only [List.mem_cons, List.not_mem_nil, or_false] at hv
      rcases hv with rfl | rfl | rfl | rfl | rfl | rfl | rfl
      · exact b1
      · exact b2
      · exact b3
      · exact sc _ trivial
      · exact sc _ trivial
      · exact b6
      · exact sc _ trivial
    exact q v H21 (kk.trans (k10.trans ((Same.kp s20' _).trans k21))) (w21.mono (by omega)) (bv.far (Far.kp k21))
end
end K13

namespace K13
open PySem PySem.Spec PyProof.Rows L2 LamT
/-- what the except clauses of _law_told ask of the classes -/
structure MTxt (K : PySem.W.Frag) (mg : Str → Option Value) (CB : Addr) where
  CP : Addr
  CR : Addr
  CS : Addr
  CT : Addr
  gP : mg "BadProgram" = some (.ref CP)
  gR : mg "Raised" = some (.ref CR)
  gS : mg "Stuck" = some (.ref CS)
  gT : mg "TooLong" = some (.ref CT)
  exc : ExcC K CB
  exm : PySem.W.exmOne K (.ref CB) (.ref CB) = some true
  kit : PySem.W.kitAny K (.ref CB) [.ref CP, .ref CR, .ref CS, .ref CT] = some false
/-- told of a lambda that raises BadValue -/
def RTold (CB : Addr) : (VK → XK → Prop) → Hp → VK → Prop := fun tl _ Q => ∀ (Q' : VK) (E' : XK), (∀ v H', (∀ u, H' u = none → Q (.ref u) (upd H' u (.tup [.str "told", v]))) → Q' v H') →
  (∀ dx fs H', H' dx = some (.xd fs) → (∀ u H2, Same H' H2 → H2 u = none → Q (.ref u) (upd H2 u (.tup [.str "bad", .bl false]))) → E' (.ref CB) (some dx) H') → tl Q' E'
section
variable {P : Program} {w : World} {K : PySem.W.Frag} {mg : Str → Option Value} {base : Heap}
theorem ok_told {j : Nat} (T : Txt K mg) (Y : ETxt P K mg) (M : MTxt K mg Y.CB) : GOk P w K mg base (j + 1) j T.aLwTold T.dLwTold "_law_ask" (RTold Y.CB) := by
  refine g_of T.fLwTold scLwTold (fun cdv A outer s H f F fr ws sp Q hr lo hf hc C q => ?_)
  refine ⟨_, pss_cons (ps_try_asM (x := "BadValue") (c := .ref Y.CB) (i := 2) rfl rfl scLwTold.nd rfl rfl ⟨by rfl, rfl, .inl Y.gCB⟩
      (fun W pn xe tk _ => pss_one (ps_set (i := 1) scLwTold.nd rfl (.inl rfl) (pe_tup (pa_cons pe_str (pa_cons (pe_ask (i := 0) (m := 3) lo C rfl rfl hr (Nat.le_refl _) tk rfl (.inl rfl)) pa_nil)))))
      (fun a oe cls d pn hz hfl => pss_one (ps_set (i := 1) scLwTold.nd rfl (.inl rfl) (pe_tup (pa_cons pe_str (pa_cons (pe_callB (call_isET M.exc hz hfl) (by rfl) T.n_isinstance (by decide +kernel) (pa_cons (pv 2) (pa_cons (pe_tup (pa_cons (pe_glob (v := .ref M.CP) (by rfl) M.gP rfl) (pa_cons (pe_glob (v := .ref M.CR) (by rfl) M.gR rfl) (pa_cons (pe_glob (v := .ref M.CS) (by rfl) M.gS rfl) (pa_cons (pe_glob (v := .ref M.CT) (by rfl) M.gT rfl) pa_nil))))) pa_nil))) pa_nil))))))
    (pss_one (ps_ret (pv 1))), ?_⟩
  refine ⟨fun cls d H' => ∀ σ' : L2.St, σ'.length = 3 → wAsM K (.ref Y.CB) 2 _ _ cls d σ' H', fun cls d σ' H' h hl => h σ' hl, rfl, hf, hc, q _ _ (fun v H' hq => ?_) (fun dx fs H' hx hq => ?_)⟩
  · exact ⟨(by show 2 ≤ sizeLine; decide), fun u nu => ⟨_, rfl, hq u nu⟩⟩
  · intro σ' hl
    obtain ⟨x, y, z, rfl⟩ : ∃ x y z, σ' = [x, y, z] := by
      match σ', hl with
      | [x, y, z], _ => exact ⟨x, y, z, rfl⟩
    refine ⟨M.exm, fun a na => ⟨_, rfl, (by show 4 ≤ sizeLine; decide), fun tp ntp => ?_⟩⟩
    refine ⟨dx, tp, _, [.ref M.CP, .ref M.CR, .ref M.CS, .ref M.CT], false, fs, rfl, rfl, rfl, upd_same, .cons (.own _) (.cons (.own _) (.cons (.own _) (.cons (.own _) .nil))), (same_new ntp) _ _ hx, M.kit, ?_⟩
    refine ⟨(by show 2 ≤ sizeLine; decide), fun u nu => ⟨_, rfl, hq u _ (same_new ntp) nu⟩⟩
end
end K13

namespace K13
open PySem PySem.Spec PyProof.Rows L2 LamT
/-- the code objects of the two defs that make lambdas, and their tables -/
structure LTxt (K : PySem.W.Frag) (mg : Str → Option Value) (base : Heap) (T : Txt K mg) where
  cR : Addr
  BR : Addr
  cB : Addr
  BB : Addr
  hR : T.dLwRight.code = .ref cR
  hB : T.dLwBoundRight.code = .ref cB
  tR : LamX.TabB base mg cR BR
  tB : LamX.TabB base mg cB BB
  ne : BR ≠ BB
def nmR : Str := "_law_right.<locals>.<lambda>"
def nmB : Str := "_law_bound_right.<locals>.<lambda>"
section
variable {P : Program} {w : World} {K : PySem.W.Frag} {mg : Str → Option Value} {base : Heap} {T : Txt K mg}
def tabs (Z : LTxt K mg base T) : List (Addr × Str) := [(Z.BR, "_law_right.<locals>." ++ "<lambda>"), (Z.BB, "_law_bound_right.<locals>." ++ "<lambda>")]
theorem oneR (Z : LTxt K mg base T) : ∀ p ∈ tabs Z, p.1 = Z.BR → p.2 = ("_law_right.<locals>." : Str) ++ "<lambda>" := fun p hp e => by
  rcases List.mem_cons.mp hp with z | z
  · rw [z]
  · rcases List.mem_cons.mp z with z | z
    · rw [z] at e
      exact absurd e (Ne.symm Z.ne)
    · cases z
theorem oneB (Z : LTxt K mg base T) : ∀ p ∈ tabs Z, p.1 = Z.BB → p.2 = ("_law_bound_right.<locals>." : Str) ++ "<lambda>" := fun p hp e => by
  rcases List.mem_cons.mp hp with z | z
  · rw [z] at e
    exact absurd e Z.ne
  · rcases List.mem_cons.mp z with z | z
    · rw [z]
    · cases z
theorem kbIsHeap (T : Txt K mg) : KBinds K T.dIsHeap ["rows"] ["rows"] kw1 kw1 := by
  obtain ⟨oc, od, kV, doc, pm, an, cdv, ct, osl, e, _, _⟩ := T.fIsHeap.ex
  rw [e]
  exact kb1 fun w => rfl
theorem kbHeaped (T : Txt K mg) : KBinds K T.dHeaped ["rows"] ["rows"] kw1 kw1 := by
  obtain ⟨oc, od, kV, doc, pm, an, cdv, ct, osl, e, _, _⟩ := T.fHeaped.ex
  rw [e]
  exact kb1 fun w => rfl
theorem kbPushed (T : Txt K mg) : KBinds K T.dPushed ["rows", "entry"] ["entry", "rows"] kw2 kw2 := by
  obtain ⟨oc, od, kV, doc, pm, an, cdv, ct, osl, e, _, _⟩ := T.fPushed.ex
  rw [e]
  exact kb2 fun u w => rfl
/-- the well and the tables stay known -/
theorem tabs_kp {Ts : List (Addr × Str)} {H H' : Hp} {pw : Addr} {n : Int} (h : LamX.Tabs Ts H) (wl : Well H pw n) (k : Kp [pw] H H') : LamX.Tabs Ts H' := fun p hp => by
  obtain ⟨ps, h1, h2, h3⟩ := h p hp
  obtain ⟨a, b, c, e, _⟩ := wl
  have np : ∀ {x : Addr} {o : HO}, H x = some o → o ≠ .lst [.int a, .int b, .int c] → x ∉ [pw] := fun {x o} hx ho z => by
    rw [List.mem_singleton.mp z, e] at hx
    exact ho (Option.some.inj hx).symm
  refine ⟨ps, k _ _ (np h1 (fun z => by cases z)) h1, h2, fun pos cv hc => ?_⟩
  obtain ⟨c', e1, e2⟩ := h3 pos cv hc
  exact ⟨c', e1, k _ _ (np e2 (fun z => by unfold LamX.CodeO at z; cases z)) e2⟩
/-- what stays known in _law_right -/
structure Sc (Ts : List (Addr × Str)) (pw : Addr) (m : Int) (l kp : Addr) (es : List Ent) (e : Ent) (H : Hp) : Prop where
  w : Well H pw m
  hl : H l = some (.lst (vsOf es))
  hk : H kp = some (.lst (vsOf es))
  he : Ents H es
  hp : EntAt H e
  ht : LamX.Tabs Ts H
section
variable {Ts : List (Addr × Str)} {pw l kp : Addr} {m : Int} {es : List Ent} {e : Ent} {H H' : Hp}
theorem Sc.ext (c : Sc Ts pw m l kp es e H) (x : LamX.ExtN H H') (t : LamX.Tabs Ts H') : Sc Ts pw m l kp es e H' := by
  obtain ⟨a, b, d, hw, r⟩ := c.w
  exact ⟨⟨a, b, d, x _ _ hw (fun _ z => by cases z), r⟩, x _ _ c.hl (fun _ z => by cases z), x _ _ c.hk (fun _ z => by cases z), fun y hy => x _ _ (c.he y hy) (fun _ z => by cases z), x _ _ c.hp (fun _ z => by cases z), t⟩
theorem Sc.same (c : Sc Ts pw m l kp es e H) (s : Same H H') : Sc Ts pw m l kp es e H' := c.ext (fun b o h _ => s b o h) (c.ht.ext s)
theorem Sc.rows (c : Sc Ts pw m l kp es e H) (n : es.length ≤ 5000) : Rows H (.ref l) l es := ⟨rfl, c.hl, c.he, n⟩
theorem Sc.wel {m' : Int} (c : Sc Ts pw m l kp es e H) (k : Kp [pw] H H') (w : Well H' pw m') : Sc Ts pw m' l kp es e H' := by
  have kk : ∀ {b : Addr} {o : HO}, b ≠ pw → H b = some o → H' b = some o := fun {b o} hb h => k b o (fun z => hb (List.mem_singleton.mp z)) h
  exact ⟨w, kk (well_ne c.w c.hl) c.hl, kk (well_ne c.w c.hk) c.hk, fun y hy => kk (well_ent c.w (c.he y hy)) (c.he y hy), kk (well_ent c.w c.hp) c.hp, tabs_kp c.ht c.w k⟩
theorem Sc.push (c : Sc Ts pw m l kp es e H) : Ents H (Hm.push Ent.t es e) := fun y hy => by
  rcases List.mem_cons.mp ((Hm.push_perm Ent.t es e).mem_iff.mp hy) with z | z
  · rw [z]
    exact c.hp
  · exact c.he y z
end
theorem eqv_self (es : List Ent) : (!PyData.eqv (rowsD es) (rowsD es)) = false := by
  rw [eqv_rows, decide_eq_true rfl]
  rfl
theorem shaped_pop (x : Ent) (es : List Ent) : SeqAt.shaped (.tuple [x.d, rowsD es]) = true := by
  unfold SeqAt.shaped
  refine Bool.and_eq_true_iff.mpr ⟨?_, decide_eq_true ?_⟩
  · show (PyData.canLay0 x.d && (PyData.canLayAll0 (es.map Ent.d) && true)) = true
    rw [lay_rows es]
    rfl
  · show max (PyData.depth x.d) (max (PyData.depthAll (es.map Ent.d) + 1) 0) + 1 ≤ 64
    have h1 := depth_rows es
    have h2 : PyData.depth x.d ≤ 1 := Nat.le_refl 1
    omega
theorem eqv_pop (x : Ent) (es : List Ent) : (!PyData.eqv (.tuple [x.d, rowsD es]) (.tuple [x.d, rowsD es])) = false := by
  show (!(PyData.eqv x.d x.d && (PyData.eqv (rowsD es) (rowsD es) && true))) = false
  rw [eqv_ent, eqv_rows, decide_eq_true rfl, decide_eq_true rfl]
  rfl
theorem dp_bad {K : PySem.W.Frag} {H : Hp} {u : Addr} (h : H u = some (.tup [.str "bad", .bl false])) : Dp K H (.ref u) (.tuple [.str "bad", .bool false]) := .tup (SqT.of h) (.cons (.str _) (.cons (.bl _) .nil))
theorem shaped_bad : SeqAt.shaped (.tuple [.str "bad", .bool false]) = true := by decide +kernel
theorem shB5 : SeqAt.shaped (.list (List.replicate 5 (.tuple [.str "bad", .bool false]))) = true := by decide +kernel
theorem shB4 : SeqAt.shaped (.list (List.replicate 4 (.tuple [.str "bad", .bool false]))) = true := by decide +kernel
theorem dp_bads {K : PySem.W.Frag} {H : Hp} : ∀ us : List Addr, (∀ u ∈ us, H u = some (.tup [.str "bad", .bl false])) → DpAll K H (us.map V.ref) (List.replicate us.length (.tuple [.str "bad", .bool false]))
  | [], _ => .nil
  | u :: r, h => .cons (dp_bad (h u List.mem_cons_self)) (dp_bads r fun x hx => h x (List.mem_cons_of_mem _ hx))
/-- a lambda that is known in H -/
structure Kept (f : Addr) (F : LF) (H : Hp) : Prop where
  hf : H f = some (LamO f F)
  hc : H F.c = some (LamX.CodeO F.c F.qual)
theorem Kept.ext {f : Addr} {F : LF} {H H' : Hp} (k : Kept f F H) (x : LamX.ExtN H H') : Kept f F H' := ⟨x _ _ k.hf lamO_ne, x _ _ k.hc LamX.codeO_ne⟩
theorem Kept.same {f : Addr} {F : LF} {H H' : Hp} (k : Kept f F H) (x : Same H H') : Kept f F H' := ⟨x _ _ k.hf, x _ _ k.hc⟩
theorem Kept.wr {f a : Addr} {F : LF} {H : Hp} {xs ys : List V} (k : Kept f F H) (h : H a = some (.lst xs)) : Kept f F (upd H a (.lst ys)) := by
  refine ⟨?_, ?_⟩
  · rw [upd_ne (ne_of k.hf h (fun z => by unfold LamO at z; cases z))]
    exact k.hf
  · rw [upd_ne (ne_of k.hc h (fun z => by unfold LamX.CodeO at z; cases z))]
    exact k.hc
theorem extN_wr {H H' : Hp} {a : Addr} {o : HO} (n : H a = none) (x : LamX.ExtN H H') : LamX.ExtN H (upd H' a o) := fun b u h t => by
  rw [upd_ne (ne_of_none h n)]
  exact x b u h t
theorem tabs_wr {Ts : List (Addr × Str)} {H : Hp} {a : Addr} {xs ys : List V} (t : LamX.Tabs Ts H) (h : H a = some (.lst xs)) : LamX.Tabs Ts (upd H a (.lst ys)) := fun p hp => by
  obtain ⟨ps, h1, h2, h3⟩ := t p hp
  refine ⟨ps, ?_, h2, fun pos cv hc => ?_⟩
  · rw [upd_ne (ne_of h1 h (fun z => by cases z))]
    exact h1
  · obtain ⟨c, e1, e2⟩ := h3 pos cv hc
    refine ⟨c, e1, ?_⟩
    rw [upd_ne (ne_of e2 h (fun z => by unfold LamX.CodeO at z; cases z))]
    exact e2
/-- a lambda of the frame X that raises BadValue in all that comes behind Hz -/
def Ask (X : Cx) (σ : L2.St) (CB : Addr) (Hz H : Hp) (x : V) : Prop := ∃ (f : Addr) (F : LF) (fr : List Str) (js : List Nat) (sp : List (Option V) → Hp → VK → XK → Prop), x = .ref f ∧ Kept f F H ∧ (X.Ok → NdefX.Caps X F.cl fr js) ∧ LOk X.prog X.w X.K X.mg X.base (L2.CX X.prog X.w) 10 f F fr sp ∧
  ∀ H', LamX.ExtN Hz H' → ∀ (Q' : VK) (E' : XK), (∀ dd fs H2, Same H' H2 → H2 dd = some (.xd fs) → E' (.ref CB) (some dd) H2) → sp (js.map (NdefX.slotAt σ)) H' Q' E'
theorem Ask.ext {X : Cx} {σ : L2.St} {CB : Addr} {Hz H H1 : Hp} {x : V} (a : Ask X σ CB Hz H x) (e : LamX.ExtN H H1) : Ask X σ CB Hz H1 x := by
  obtain ⟨f, F, fr, js, sp, e1, k, r⟩ := a
  exact ⟨f, F, fr, js, sp, e1, k.ext e, r⟩
theorem Ask.wr {X : Cx} {σ : L2.St} {CB ua : Addr} {Hz H : Hp} {x : V} {xs ys : List V} (a : Ask X σ CB Hz H x) (h : H ua = some (.lst xs)) : Ask X σ CB Hz (upd H ua (.lst ys)) x := by
  obtain ⟨f, F, fr, js, sp, e1, k, r⟩ := a
  exact ⟨f, F, fr, js, sp, e1, k.wr h, r⟩
/-- the list of asks so far -/
structure AL (X : Cx) (σ : L2.St) (CB : Addr) (Ts : List (Addr × Str)) (Hz : Hp) (ua : Addr) (xs : List V) (H : Hp) : Prop where
  hl : H ua = some (.lst xs)
  nz : ∀ o, Hz ua = some o → ∃ ps, o = .tbl ps
  ex : LamX.ExtN Hz H
  ht : LamX.Tabs Ts H
  al : ∀ x ∈ xs, Ask X σ CB Hz H x
theorem Ask.new {X : Cx} {σ : L2.St} {CB ua : Addr} {Hz H : Hp} {x : V} {o : HO} (a : Ask X σ CB Hz H x) (h : H ua = none) : Ask X σ CB Hz (upd H ua o) x := by
  obtain ⟨f, F, fr, js, sp, e1, k, r⟩ := a
  exact ⟨f, F, fr, js, sp, e1, k.same (same_new h), r⟩
theorem AL.first {X : Cx} {σ : L2.St} {CB ua : Addr} {Ts : List (Addr × Str)} {Hz H : Hp} {v : V} (na : H ua = none) (x : LamX.ExtN Hz H) (t : LamX.Tabs Ts H) (a : Ask X σ CB Hz H v) : AL X σ CB Ts Hz ua [v] (upd H ua (.lst [v])) := by
  refine ⟨upd_same, fun o ho => ?_, fun b o h n => ?_, t.ext (same_new na), fun y hy => ?_⟩
  · cases o with
    | tbl ps => exact ⟨ps, rfl⟩
    | _ =>
      have z := x _ _ ho (fun _ z => by cases z)
      rw [na] at z
      cases z
  · have z := x b o h n
    rw [upd_ne (ne_of_none z na)]
    exact z
  · rw [List.mem_singleton.mp hy]
    exact a.new na
theorem AL.app {X : Cx} {σ : L2.St} {CB ua : Addr} {Ts : List (Addr × Str)} {Hz H H1 : Hp} {v : V} {xs : List V} (L : AL X σ CB Ts Hz ua xs H) (x : LamX.ExtN H H1) (t : LamX.Tabs Ts H1) (a : Ask X σ CB Hz H1 v) : AL X σ CB Ts Hz ua (xs ++ [v]) (upd H1 ua (.lst (xs ++ [v]))) := by
  have hu := x _ _ L.hl (fun _ z => by cases z)
  refine ⟨upd_same, L.nz, fun b o h n => ?_, tabs_wr t hu, fun y hy => ?_⟩
  · have e : b ≠ ua := fun z => by
      rw [z] at h
      obtain ⟨ps, e⟩ := L.nz o h
      exact n ps e
    rw [upd_ne e]
    exact x b o (L.ex b o h n) n
  · rcases List.mem_append.mp hy with z | z
    · exact ((L.al y z).ext x).wr hu
    · rw [List.mem_singleton.mp z]
      exact a.wr hu
/-- the frame of _law_right -/
abbrev XR (T : Txt K mg) (Z : LTxt K mg base T) (A : Around) (outer : List Env) (s : Shared) (H : Hp) (E : XK) : Cx := (cxOf L2.CX0 P w K mg base ["_law_well_here", "_law_kept", "_law_heard", "_law_asks", "_law_lot", "_law_none", "_law_odd_here", "_law_pair", "_law_ask"] "_law_right" (defScope sLwRight) T.aLwRight (.ref Z.cR) A outer s H E).nox
def scIs : Scope := { kind := .function, names := [("_law_odd_here", .free), ("is_heap", .globalImplicit)], isGenerator := false, isCoroutine := false }
def scPu : Scope := { kind := .function, names := [("_law_odd_here", .free), ("_law_pair", .free), ("pushed", .globalImplicit)], isGenerator := false, isCoroutine := false }
def scPo : Scope := { kind := .function, names := [("_law_odd_here", .free), ("popped", .globalImplicit)], isGenerator := false, isCoroutine := false }
def scHe : Scope := { kind := .function, names := [("_law_odd_here", .free), ("heaped", .globalImplicit)], isGenerator := false, isCoroutine := false }
def scLo : Scope := { kind := .function, names := [("_law_lot", .free), ("_law_none", .free), ("pushed", .globalImplicit)], isGenerator := false, isCoroutine := false }
def scPop : Scope := { kind := .function, names := [("_law_lot", .free), ("popped", .globalImplicit)], isGenerator := false, isCoroutine := false }
def spLwRight (Ts : List (Addr × Str)) : Sp := fun vs H Q _ => ∃ (pw : Addr) (n : Int), vs = [.ref pw] ∧ Well H pw n ∧ n ≤ 1000000000 ∧ LamX.Tabs Ts H ∧ ∀ H', Far pw H H' → LamX.Tabs Ts H' → Q (.bl true) H'
theorem ok_right (T : Txt K mg) (Y : ETxt P K mg) (M : MTxt K mg Y.CB) (Z : LTxt K mg base T) : FnOk P w K mg base CX0 12 T.aLwRight T.dLwRight ["_law_well_here"] (spLwRight (tabs Z)) := by
  have GLwPick : FnOk P w K mg base CX0 2 T.aLwPick T.dLwPick ["_law_well_here", "_law_some"] spLwPick := ok_pick T
  have GLwTime : FnOk P w K mg base CX0 2 T.aLwTime T.dLwTime ["_law_well_here", "_law_way"] spLwTime := ok_time T
  have GLwRows : FnOk P w K mg base CX0 4 T.aLwRows T.dLwRows ["_law_well_here", "_law_most"] spLwRows := ok_rows T
  have GLwMade : FnOk P w K mg base CX0 3 T.aLwMade T.dLwMade ["_law_lot"] spLwMade := ok_made T
  have GLwPush : FnOk P w K mg base CX0 2 T.aLwPush T.dLwPush ["_law_lot", "_law_pair"] spLwPush := ok_lwPush T
  have GLwPop : FnOk P w K mg base CX0 3 T.aLwPop T.dLwPop ["_law_lot"] spLwPop := ok_lwPop T
  have GLwIsHeap : FnOk P w K mg base CX0 1 T.aLwIsHeap T.dLwIsHeap ["_law_lot"] spLwIsHeap := ok_lwIsHeap T
  have GLwOdd : FnOk P w K mg base CX0 3 T.aLwOdd T.dLwOdd ["_law_well_here", "_law_lot"] spLwOdd := ok_odd T
  have GIsHeap : FnOk P w K mg base (L2.CX P w) 4 T.aIsHeap T.dIsHeap ["rows"] (spIsHeap Y.CB) := ok_isHeap T Y
  have GPushed : FnOk P w K mg base (L2.CX P w) 4 T.aPushed T.dPushed ["rows", "entry"] (spPushed Y.CB) := ok_pushed T Y
  have GPopped : FnOk P w K mg base (L2.CX P w) 5 T.aPopped T.dPopped ["rows"] (spPopped Y.CB) := ok_popped T Y
  have GHeaped : FnOk P w K mg base (L2.CX P w) 5 T.aHeaped T.dHeaped ["rows"] (spHeaped Y.CB) := ok_heaped T Y
  have GLwTold : GOk P w K mg base 11 10 T.aLwTold T.dLwTold "_law_ask" (RTold Y.CB) := ok_told T Y M
  refine okC T.fLwRight Z.hR scLwRight (fun vs H Q E h => ?_) (fun A outer s H vs Q E hr h => ?_)
  · obtain ⟨pw, n, rfl, _⟩ := h
    rfl
  · obtain ⟨pw, n, rfl, hw, hn, ht, q⟩ := h
    refine ⟨_, (pss_cons (ps_set (i := 4) scLwRight.nd rfl (.inr rfl) (pe_call GLwRows (hr.mono (by decide)) (by rfl) T.gLwRows T.fLwRows.kp T.bLwRows .nil pass0 (pa_cons (pv 0) (pa_cons pe_int pa_nil))))
      (pss_cons (ps_set (i := 7) scLwRight.nd rfl (.inr rfl) (pe_tup (pa_cons (pe_call GLwPick (hr.mono (by decide)) (by rfl) T.gLwPick T.fLwPick.kp T.bLwPick .nil pass0 (pa_cons (pv 0) (pa_cons (pe_lst (pa_cons (pe_call GLwTime (hr.mono (by decide)) (by rfl) T.gLwTime T.fLwTime.kp T.bLwTime .nil pass0 (pa_cons (pv 0) (pa_cons pe_int pa_nil))) (pa_cons (pe_call GLwTime (hr.mono (by decide)) (by rfl) T.gLwTime T.fLwTime.kp T.bLwTime .nil pass0 (pa_cons (pv 0) (pa_cons pe_int pa_nil))) pa_nil))) pa_nil))) (pa_cons pe_int pa_nil))))
      (pss_cons (ps_set (i := 1) scLwRight.nd rfl (.inl rfl) (pe_callTy call_list_of (by rfl) T.n_list (by decide +kernel) (pa_cons (pv 4) pa_nil)))
      (pss_cons (ps_if (PW.pt (pw_or (pt_cmpR op_ne (pe_call GIsHeap (hr.mono (by decide)) (by rfl) T.gIsHeap T.fIsHeap.kp T.bIsHeap .nil (passes_call (E := E0) LamX.takes0 (fun _ _ _ _ h => h)) (pa_cons (pv 4) pa_nil)) (pe_call GLwIsHeap (hr.mono (by decide)) (by rfl) T.gLwIsHeap T.fLwIsHeap.kp T.bLwIsHeap .nil pass0 (pa_cons (pv 4) pa_nil)) (nomark _)) (pw_or1 (pt_cmpR (r := rNeD K) (op_neD hr.units) (pe_call GPushed (hr.mono (by decide)) (by rfl) T.gPushed T.fPushed.kp T.bPushed .nil (passes_call (E := E0) LamX.takes0 (fun _ _ _ _ h => h)) (pa_cons (pv 4) (pa_cons (pv 7) pa_nil))) (pe_call GLwPush (hr.mono (by decide)) (by rfl) T.gLwPush T.fLwPush.kp T.bLwPush .nil pass0 (pa_cons (pv 4) (pa_cons (pv 7) pa_nil))) (nomark _)))))
      (pss_one (ps_ret pe_bl))
      pss_nil)
      (Evl.pss_cut (ps_if (PW.pt (pw_and (pt_cmpR (r := rNeD K) (op_neD hr.units) (pv 4) (pe_lst pa_nil) (nomark _)) (pw_and1 (pt_cmpR (r := rNeD K) (op_neD hr.units) (pe_call GPopped (hr.mono (by decide)) (by rfl) T.gPopped T.fPopped.kp T.bPopped .nil (passes_call (E := E0) LamX.takes0 (fun _ _ _ _ h => h)) (pa_cons (pv 4) pa_nil)) (pe_call GLwPop (hr.mono (by decide)) (by rfl) T.gLwPop T.fLwPop.kp T.bLwPop .nil pass0 (pa_cons (pv 4) pa_nil)) (nomark _)))))
      (pss_one (ps_ret pe_bl))
      pss_nil)
      (Evl.pss_cut (ps_if (PW.pt (pw_and (pt_cmpR (r := rEqD K) (op_eqD hr.units) (pv 4) (pe_lst pa_nil) (nomark _)) (pw_and1 (pt_cmpR (r := rNeD K) (op_neD hr.units) (pe_give (old := fun σ => σ) GLwTold (by rfl) T.gLwTold T.fLwTold.kp T.bLwTold (hr.mono (by decide)) ⟨rfl, rfl, rfl, rfl, rfl⟩ (fun _ _ _ _ I => cells_here I) (pe_lam (T := tabs Z) Z.tR rfl (by exact List.mem_cons_self) (oneR Z) rfl (LamX.lamS_by (sc := defScope sLwRight) (by decide +kernel)))) (pe_tup (pa_cons pe_str (pa_cons pe_bl pa_nil))) (nomark _)))))
      (pss_one (ps_ret pe_bl))
      pss_nil)
      (pss_cons (ps_set (i := 2) scLwRight.nd rfl (.inl rfl) (pe_call GHeaped (hr.mono (by decide)) (by rfl) T.gHeaped T.fHeaped.kp T.bHeaped .nil (passes_call (E := E0) LamX.takes0 (fun _ _ _ _ h => h)) (pa_cons (pv 4) pa_nil)))
      (pss_cons (ps_if (PW.pt (pw_or (pt_cmpR (r := rNeD K) (op_neD hr.units) (pv 2) (pe_call GLwMade (hr.mono (by decide)) (by rfl) T.gLwMade T.fLwMade.kp T.bLwMade .nil pass0 (pa_cons (pv 4) pa_nil)) (nomark _)) (pw_or (pt_not (pt_val (pe_callKw GIsHeap (hr.mono (by decide)) (by rfl) T.gIsHeap T.fIsHeap.kp (kbIsHeap T) (passes_call (E := E0) LamX.takes0 (fun _ _ _ _ h => h)) (pk_cons (pv 2) pk_nil)))) (pw_or1 (pt_cmpR (r := rNeD K) (op_neD hr.units) (pv 4) (pv 1) (nomark _))))))
      (pss_one (ps_ret pe_bl))
      pss_nil)
      (pss_cons (ps_expr (pe_bm PySem.F.plainAttrs_list PySem.F.slot_list_append PySem.F.type_list_append mt_append (pv 2) (pa_cons pe_non pa_nil)))
      (pss_cons (ps_if (PW.pt (pw_or (pt_cmpR (r := rNeD K) (op_neD hr.units) (pe_callKw GHeaped (hr.mono (by decide)) (by rfl) T.gHeaped T.fHeaped.kp (kbHeaped T) (passes_call (E := E0) LamX.takes0 (fun _ _ _ _ h => h)) (pk_cons (pv 4) pk_nil)) (pe_call GLwMade (hr.mono (by decide)) (by rfl) T.gLwMade T.fLwMade.kp T.bLwMade .nil pass0 (pa_cons (pv 4) pa_nil)) (nomark _)) (pw_or1 (pt_cmpR (r := rNeD K) (op_neD hr.units) (pe_callKw GPushed (hr.mono (by decide)) (by rfl) T.gPushed T.fPushed.kp (kbPushed T) (passes_call (E := E0) LamX.takes0 (fun _ _ _ _ h => h)) (pk_cons (pv 7) (pk_cons (pv 4) pk_nil))) (pe_call GLwPush (hr.mono (by decide)) (by rfl) T.gLwPush T.fLwPush.kp T.bLwPush .nil pass0 (pa_cons (pv 4) (pa_cons (pv 7) pa_nil))) (nomark _)))))
      (pss_one (ps_ret pe_bl))
      pss_nil)
      (pss_cons (ps_set (i := 6) scLwRight.nd rfl (.inr rfl) (pe_call GLwOdd (hr.mono (by decide)) (by rfl) T.gLwOdd T.fLwOdd.kp T.bLwOdd .nil pass0 (pa_cons (pv 0) (pa_cons (pv 4) pa_nil))))
      (pss_cons (ps_set (i := 5) scLwRight.nd rfl (.inr rfl) (pe_call GLwPick (hr.mono (by decide)) (by rfl) T.gLwPick T.fLwPick.kp T.bLwPick .nil pass0 (pa_cons (pv 0) (pa_cons (pe_lst (pa_cons (pe_tup (pa_cons pe_int pa_nil)) (pa_cons (pe_lst (pa_cons pe_int (pa_cons pe_int pa_nil))) (pa_cons (pe_tup (pa_cons pe_bl (pa_cons pe_int pa_nil))) (pa_cons (pe_tup (pa_cons pe_int (pa_cons pe_str pa_nil))) (pa_cons pe_non (pa_cons pe_int (pa_cons (pe_tup pa_nil) pa_nil)))))))) pa_nil))))
      (pss_cons (ps_set (i := 3) scLwRight.nd rfl (.inl rfl) (pe_lst (pa_cons (pe_lam (T := tabs Z) Z.tR rfl (by exact List.mem_cons_self) (oneR Z) rfl (LamX.lamS_by (sc := defScope sLwRight) (by decide +kernel))) pa_nil)))
      (pss_cons (ps_expr (pe_bm PySem.F.plainAttrs_list PySem.F.slot_list_append PySem.F.type_list_append mt_append (pv 3) (pa_cons (pe_lam (T := tabs Z) Z.tR rfl (by exact List.mem_cons_self) (oneR Z) rfl (LamX.lamS_by (sc := defScope sLwRight) (by decide +kernel))) pa_nil)))
      (pss_cons (ps_expr (pe_bm PySem.F.plainAttrs_list PySem.F.slot_list_append PySem.F.type_list_append mt_append (pv 3) (pa_cons (pe_lam (T := tabs Z) Z.tR rfl (by exact List.mem_cons_self) (oneR Z) rfl (LamX.lamS_by (sc := defScope sLwRight) (by decide +kernel))) pa_nil)))
      (pss_cons (ps_expr (pe_bm PySem.F.plainAttrs_list PySem.F.slot_list_append PySem.F.type_list_append mt_append (pv 3) (pa_cons (pe_lam (T := tabs Z) Z.tR rfl (by exact List.mem_cons_self) (oneR Z) rfl (LamX.lamS_by (sc := defScope sLwRight) (by decide +kernel))) pa_nil)))
      (pss_cons (ps_expr (pe_bm PySem.F.plainAttrs_list PySem.F.slot_list_append PySem.F.type_list_append mt_append (pv 3) (pa_cons (pe_lam (T := tabs Z) Z.tR rfl (by exact List.mem_cons_self) (oneR Z) rfl (LamX.lamS_by (sc := defScope sLwRight) (by decide +kernel))) pa_nil)))
      (pss_one (ps_ret (pe_cmpR (r := rEqD K) (op_eqD hr.units) (pe_lcS (own := [("_law_ask", 8)]) (g := gName 8) rfl scLwRight.nd (pi_list (pv 3)) (blkOk_by (own := [("_law_ask", 8)]) (N := ["_law_well_here", "_law_kept", "_law_heard", "_law_asks", "_law_lot", "_law_none", "_law_odd_here", "_law_pair", "_law_ask"]) (sc := defScope sLwRight) (by decide +kernel)) (fun _ _ _ _ _ => (pg_name (i := 8) scLwRight.nd rfl (.inl rfl))) (fun _ σ _ _ _ _ _ I hfp => pe_giveB I hfp GLwTold (by rfl) T.gLwTold T.fLwTold.kp T.bLwTold (hr.mono (by decide)) (pv 8))) (pe_op op_rep (pe_lst (pa_cons (pe_tup (pa_cons pe_str (pa_cons pe_bl pa_nil))) pa_nil)) pe_int) (nomark _))))))))))))))))))))), ?_⟩
    refine ⟨_, rfl, pw, n, rfl, hw, by omega, fun H1 l es k1 w1 nl hl he len => ?_⟩
    have nlp := well_ne w1 hl
    refine ⟨_, rfl, _, rfl, pw, 0, _, rfl, by decide, by decide, w1, by omega, fun t1 H2 k2 w2 => ?_⟩
    refine ⟨_, rfl, pw, 1, _, rfl, by decide, by decide, w2, by omega, fun t2 H3 k3 w3 => ?_⟩
    refine ⟨(by show 2 ≤ sizeLine; decide), fun u4 n4 => ?_⟩
    have s4 := same_new (o := .lst [V.int t1, V.int t2]) n4
    have h4 : (upd H3 u4 (.lst [V.int t1, V.int t2])) u4 = some (.lst [V.int t1, V.int t2]) := upd_same
    have w4 := w3.same s4
    have d4 := well_new w3 n4
    generalize upd H3 u4 (.lst [V.int t1, V.int t2]) = H4 at s4 h4 w4 ⊢
    refine ⟨pw, u4, _, _, rfl, w4, by omega, h4, d4, Nat.succ_pos _, (by show 2 ≤ 100000; decide), fun v H5 hv k5 w5 => ?_⟩
    obtain ⟨t, rfl⟩ : ∃ t : Int, v = .int t := by
      simp only [List.mem_cons, List.not_mem_nil, or_false] at hv
      rcases hv with z | z
      · exact ⟨_, z⟩
      · exact ⟨_, z⟩
    refine ⟨(by show 2 ≤ sizeLine; decide), fun u6 n6 => ?_⟩
    have s6 := same_new (o := .tup [V.int t, V.int 99]) n6
    have h6 : (upd H5 u6 (.tup [V.int t, V.int 99])) u6 = some (.tup [V.int t, V.int 99]) := upd_same
    have w6 := w5.same s6
    have d6 := well_new w5 n6
    generalize upd H5 u6 (.tup [V.int t, V.int 99]) = H6 at s6 h6 w6 ⊢
    have k06 : Kp [pw] H1 H6 := k2.trans (k3.trans ((Same.kp s4 _).trans (k5.trans (Same.kp s6 _))))
    have hl6 : H6 l = some (.lst (vsOf es)) := k06 _ _ (fun z => nlp (List.mem_singleton.mp z)) hl
    have he6 : Ents H6 es := he.well w1 k06
    have ep : EntAt H6 ⟨u6, t, 99⟩ := h6
    have hl5 : es.length ≤ 5000 := by omega
    refine ⟨_, rfl, l, _, rfl, .inl (SqL.of hl6), fun u7 n7 => ?_⟩
    have s7 := same_new (o := .lst (vsOf es)) n7
    have h7 : (upd H6 u7 (.lst (vsOf es))) u7 = some (.lst (vsOf es)) := upd_same
    have w7 := w6.same s7
    have d7 := well_new w6 n7
    generalize upd H6 u7 (.lst (vsOf es)) = H7 at s7 h7 w7 ⊢
    have r7 : Rows H7 (.ref l) l es := ⟨rfl, s7 _ _ hl6, he6.same s7, hl5⟩
    have c7 : Sc (tabs Z) pw (n + 1000 + 3 + 3 + 1) l u7 es ⟨u6, t, 99⟩ H7 := ⟨w7, r7.hp, h7, r7.he, s7 _ _ ep, (tabs_kp (tabs_kp ht hw k1) w1 k06).ext s7⟩
    have f7 : Far pw H H7 := (Far.kp (k1.trans k06)).trans (Far.same s7)
    generalize hE : (⟨u6, t, 99⟩ : Ent) = eP at c7
    have hEv : V.ref u6 = eP.v := by rw [← hE]
    refine ⟨_, rfl, .ref l, rfl, .inl ⟨l, es, c7.rows hl5, fun H8 s8 => ?_⟩⟩
    have c8 := c7.same s8
    refine ⟨_, rfl, l, es, rfl, c8.hl, c8.he, hl5, fun H9 s9 => ?_⟩
    have c9 := c8.same s9
    refine ⟨rfl, _, rfl, ?_⟩
    rw [show (!decide (V.bl (Hm.isHeapB Ent.t es) = V.bl (Hm.isHeapB Ent.t es))) = false by simp]
    refine iteF ⟨_, rfl, _, rfl, .ref l, _, rfl, .inl ⟨l, es, eP, c9.rows hl5, hEv, c9.hp, fun H10 l10 s10 n10 h10 => ?_⟩⟩
    have c10 := c9.same s10
    refine ⟨_, rfl, _, rfl, l, es, eP, by rw [← hEv] <;> rfl, c10.hl, c10.he, c10.hp, hl5, fun H11 l11 s11 n11 h11 => ?_⟩
    have c11 := c10.same s11
    refine ⟨rowsD (Hm.push Ent.t es eP), rowsD (Hm.push Ent.t es eP), dp_rows (SqL.of (s11 _ _ h10)) c11.push, dp_rows (SqL.of h11) c11.push, shaped_rows _, shaped_rows _, _, rfl, ?_⟩
    rw [eqv_self]
    refine iteF ?_
    refine ⟨fun σ H' => σ = [some (.ref pw), some (.ref u7), none, none, some (.ref l), none, none, some (.ref u6), none] ∧ Sc (tabs Z) pw (n + 1000 + 3 + 3 + 1) l u7 es eP H' ∧ Far pw H H', ?_, ?_⟩
    · refine ⟨_, rfl, Nat.zero_le _, fun u12 n12 => ?_⟩
      have c12 := c11.same (same_new (o := .lst []) n12)
      have f12 : Far pw H _ := f7.trans (Far.same (s8.trans (s9.trans (s10.trans (s11.trans (same_new (o := .lst []) n12))))))
      refine ⟨rowsD es, .list [], dp_rows (SqL.of c12.hl) c12.he, dp_emp (SqL.of upd_same), shaped_rows _, rfl, _, rfl, ?_⟩
      rw [eqv_rows0]
      cases es with
      | nil => exact iteF (iteF ⟨rfl, c12, f12⟩)
      | cons x r =>
        refine iteT ⟨_, rfl, .ref l, rfl, .inl ⟨l, _, x, c12.rows hl5, rfl, fun H13 u13 l13 s13 nl13 nu13 hu13 hl13 => ?_⟩⟩
        have c13 := c12.same s13
        refine ⟨_, rfl, l, _, x, rfl, c13.hl, c13.he, rfl, hl5, fun H14 u14 l14 s14 nl14 nu14 hu14 hl14 => ?_⟩
        have c14 := c13.same s14
        have ep : Ents H14 (Hm.popL Ent.t (x :: r)) := fun y hy => c14.he y ((Hm.pop_perm Ent.t (l := x :: r) (x := x) rfl).mem_iff.mp (List.mem_cons_of_mem _ hy))
        have ex : EntAt H14 x := c14.he x List.mem_cons_self
        refine ⟨.tuple [x.d, rowsD (Hm.popL Ent.t (x :: r))], .tuple [x.d, rowsD (Hm.popL Ent.t (x :: r))], .tup (SqT.of (s14 _ _ hu13)) (.cons (dp_ent ex) (.cons (dp_rows (SqL.of (s14 _ _ hl13)) ep) .nil)), .tup (SqT.of hu14) (.cons (dp_ent ex) (.cons (dp_rows (SqL.of hl14) ep) .nil)), ?_, ?_, _, rfl, ?_⟩
        · exact shaped_pop _ _
        · exact shaped_pop _ _
        · rw [eqv_pop]
          exact iteF ⟨rfl, c14, f12.trans (Far.same (s13.trans s14))⟩
    · rintro σ H12 ⟨rfl, c12, f12⟩
      refine ⟨fun σ H' => σ = [some (.ref pw), some (.ref u7), none, none, some (.ref l), none, none, some (.ref u6), none] ∧ Sc (tabs Z) pw (n + 1000 + 3 + 3 + 1) l u7 es eP H' ∧ Far pw H H', ?_, ?_⟩
      · refine ⟨_, rfl, Nat.zero_le _, fun u13 n13 => ?_⟩
        have c13 := c12.same (same_new (o := .lst []) n13)
        have f13 : Far pw H _ := f12.trans (Far.same (same_new (o := .lst []) n13))
        refine ⟨rowsD es, .list [], dp_rows (SqL.of c13.hl) c13.he, dp_emp (SqL.of upd_same), shaped_rows _, rfl, _, rfl, ?_⟩
        rw [eqv_rows0]
        cases es with
        | cons x r => exact iteF (iteF ⟨rfl, c13, f13⟩)
        | nil =>
          refine iteT ⟨c13.ht, fun f d H14 x14 t14 nf hf hd => ?_⟩
          have c14 := c13.ext x14 t14
          have f14 := f13.trans (Far.ext x14)
          refine ⟨f, _, ["_law_lot"], [4], _, rfl, hf, hd, caps_of (sc0 := defScope sLwRight) rfl (by decide +kernel) rfl,
            (lok1 (sc := scPop) (x := "popped") (y := "_law_lot") (a := "rows") GPopped T.gPopped T.fPopped.kp T.bPopped rfl rfl (NdefX.nscope_by (by decide +kernel)) rfl (fun _ _ => rfl) rfl rfl rfl).mono (by decide), ?_⟩
          intro Q' E' hQ hE
          refine ⟨.ref l, rfl, .ref l, rfl, .inr (.inr ⟨l, c14.rows hl5, fun dd H15 s15 ⟨fs, hx⟩ => hE dd fs H15 hx (fun u H16 s16 nu => ?_)⟩)⟩
          refine ⟨(by show 2 ≤ sizeLine; decide), fun u17 n17 => ?_⟩
          have s17 := (s15.trans s16).trans ((same_new (o := .tup [.str "bad", .bl false]) nu).trans (same_new (o := .tup [.str "bad", .bl false]) n17))
          exact ⟨.tuple [.str "bad", .bool false], .tuple [.str "bad", .bool false], dp_bad (same_new n17 _ _ upd_same), dp_bad upd_same, shaped_bad, shaped_bad, _, rfl, iteF ⟨rfl, c14.same s17, f14.trans (Far.same s17)⟩⟩
      · rintro σ H13 ⟨rfl, c13, f13⟩
        clear c12 f12 c11 c10 c9 c8 c7 r7
        refine ⟨_, rfl, .ref l, rfl, .inl ⟨l, es, c13.rows hl5, fun H14 l14 s14 n14 h14 => ?_⟩⟩
        have c14 := c13.same s14
        have hh := Hm.heapify_perm Ent.t es
        refine ⟨_, rfl, _, rfl, l, es, rfl, c14.hl, c14.he, hl5, fun H15 l15 s15 n15 h15 => ?_⟩
        have c15 := c14.same s15
        refine ⟨rowsD (Hm.heapify Ent.t es), rowsD (Hm.heapify Ent.t es), dp_rows (SqL.of (s15 _ _ h14)) (c15.he.perm hh), dp_rows (SqL.of h15) (c15.he.perm hh), shaped_rows _, shaped_rows _, _, rfl, ?_⟩
        rw [eqv_self]
        refine iteF ⟨_, rfl, .ref l14, rfl, .inl ⟨l14, Hm.heapify Ent.t es, ⟨rfl, s15 _ _ h14, c15.he.perm hh, by rw [hh.length_eq]; exact hl5⟩, fun H16 s16 => ?_⟩⟩
        have c16 := c15.same s16
        rw [Hm.isHeapB_iff.mpr (Hm.heapify_heap Ent.t es)]
        refine ⟨true, rfl, iteF ⟨_, rfl, _, rfl, rowsD es, rowsD es, dp_rows (SqL.of c16.hl) c16.he, dp_rows (SqL.of c16.hk) c16.he, shaped_rows _, shaped_rows _, _, rfl, ?_⟩⟩
        rw [eqv_self]
        refine iteF ?_
        refine ⟨_, rfl, .inl ⟨rfl, _, SqL.of (s16 _ _ (s15 _ _ h14))⟩, l14, _, _, rfl, rfl, s16 _ _ (s15 _ _ h14), ?_, ?_⟩
        · rw [vs_len, hh.length_eq]
          exact Nat.lt_of_le_of_lt hl5 (by decide)
        have s17 : Same H13 (upd H16 l14 (.lst (vsOf (Hm.heapify Ent.t es) ++ [V.non]))) := kp_same (s14.trans (s15.trans s16)) n14 ((Kp.refl _ _).wr (List.mem_singleton.mpr rfl))
        have c17 := c13.same s17
        have f17 := f13.trans (Far.same (pw := pw) s17)
        generalize upd H16 l14 (.lst (vsOf (Hm.heapify Ent.t es) ++ [V.non])) = H17 at s17 c17 f17 ⊢
        refine ⟨_, rfl, .ref l, rfl, .inl ⟨l, es, c17.rows hl5, fun H18 l18 s18 n18 h18 => ?_⟩⟩
        have c18 := c17.same s18
        refine ⟨_, rfl, l, es, rfl, c18.hl, c18.he, hl5, fun H19 l19 s19 n19 h19 => ?_⟩
        have c19 := c18.same s19
        refine ⟨rowsD (Hm.heapify Ent.t es), rowsD (Hm.heapify Ent.t es), dp_rows (SqL.of (s19 _ _ h18)) (c19.he.perm hh), dp_rows (SqL.of h19) (c19.he.perm hh), shaped_rows _, shaped_rows _, _, rfl, ?_⟩
        rw [eqv_self]
        refine iteF ⟨_, rfl, _, rfl, .ref l, _, rfl, .inl ⟨l, es, eP, c19.rows hl5, hEv, c19.hp, fun H20 l20 s20 n20 h20 => ?_⟩⟩
        have c20 := c19.same s20
        refine ⟨_, rfl, _, rfl, l, es, eP, by rw [← hEv] <;> rfl, c20.hl, c20.he, c20.hp, hl5, fun H21 l21 s21 n21 h21 => ?_⟩
        have c21 := c20.same s21
        have f21 := f17.trans (Far.same (pw := pw) (s18.trans (s19.trans (s20.trans s21))))
        refine ⟨rowsD (Hm.push Ent.t es eP), rowsD (Hm.push Ent.t es eP), dp_rows (SqL.of (s21 _ _ h20)) c21.push, dp_rows (SqL.of h21) c21.push, shaped_rows _, shaped_rows _, _, rfl, ?_⟩
        rw [eqv_self]
        refine iteF ⟨_, rfl, _, rfl, pw, l, _, es, rfl, c21.w, by omega, c21.hl, c21.he, len, fun vo H22 k22 w22 sb22 => ?_⟩
        have nle : ∀ y ∈ es, y.a ≠ pw := fun y hy => well_ent c21.w (c21.he y hy)
        have npe : eP.a ≠ pw := well_ent c21.w c21.hp
        have f22 := f21.trans (Far.kp k22)
        have nkp : u7 ≠ pw := well_ne c21.w c21.hk
        have kk : ∀ {b : Addr} {o : HO}, b ≠ pw → H21 b = some o → H22 b = some o := fun {b o} hb h => k22 b o (fun z => hb (List.mem_singleton.mp z)) h
        have c22 : Sc (tabs Z) pw (n + 1000 + 3 + 3 + 1 + 3) l u7 es eP H22 := ⟨w22, kk nlp c21.hl, kk nkp c21.hk, fun y hy => kk (nle y hy) (c21.he y hy), kk npe c21.hp, tabs_kp c21.ht c21.w k22⟩
        refine ⟨_, rfl, (by show 1 ≤ sizeLine; decide), fun u23 n23 => ?_⟩
        have s23 := same_new (o := .tup [V.int 1]) n23
        have h23 : (upd H22 u23 (.tup [V.int 1])) u23 = some (.tup [V.int 1]) := upd_same
        have w23 := w22.same s23
        have d23 := well_new w22 n23
        generalize upd H22 u23 (.tup [V.int 1]) = H23 at s23 h23 w23 ⊢
        refine ⟨(by show 2 ≤ sizeLine; decide), fun u24 n24 => ?_⟩
        have s24 := same_new (o := .lst [V.int 1, V.int 2]) n24
        have h24 : (upd H23 u24 (.lst [V.int 1, V.int 2])) u24 = some (.lst [V.int 1, V.int 2]) := upd_same
        have w24 := w23.same s24
        have d24 := well_new w23 n24
        generalize upd H23 u24 (.lst [V.int 1, V.int 2]) = H24 at s24 h24 w24 ⊢
        refine ⟨(by show 2 ≤ sizeLine; decide), fun u25 n25 => ?_⟩
        have s25 := same_new (o := .tup [V.bl true, V.int 1]) n25
        have h25 : (upd H24 u25 (.tup [V.bl true, V.int 1])) u25 = some (.tup [V.bl true, V.int 1]) := upd_same
        have w25 := w24.same s25
        have d25 := well_new w24 n25
        generalize upd H24 u25 (.tup [V.bl true, V.int 1]) = H25 at s25 h25 w25 ⊢
        refine ⟨(by show 2 ≤ sizeLine; decide), fun u26 n26 => ?_⟩
        have s26 := same_new (o := .tup [V.int 1, V.str "2"]) n26
        have h26 : (upd H25 u26 (.tup [V.int 1, V.str "2"])) u26 = some (.tup [V.int 1, V.str "2"]) := upd_same
        have w26 := w25.same s26
        have d26 := well_new w25 n26
        generalize upd H25 u26 (.tup [V.int 1, V.str "2"]) = H26 at s26 h26 w26 ⊢
        refine ⟨(by show 0 ≤ sizeLine; decide), fun u27 n27 => ?_⟩
        have s27 := same_new (o := .tup []) n27
        have h27 : (upd H26 u27 (.tup [])) u27 = some (.tup []) := upd_same
        have w27 := w26.same s27
        have d27 := well_new w26 n27
        generalize upd H26 u27 (.tup []) = H27 at s27 h27 w27 ⊢
        refine ⟨(by show 7 ≤ sizeLine; decide), fun u28 n28 => ?_⟩
        have s28 := same_new (o := .lst [V.ref u23, V.ref u24, V.ref u25, V.ref u26, V.non, V.int 3, V.ref u27]) n28
        have h28 : (upd H27 u28 (.lst [V.ref u23, V.ref u24, V.ref u25, V.ref u26, V.non, V.int 3, V.ref u27])) u28 = some (.lst [V.ref u23, V.ref u24, V.ref u25, V.ref u26, V.non, V.int 3, V.ref u27]) := upd_same
        have w28 := w27.same s28
        have d28 := well_new w27 n28
        generalize upd H27 u28 (.lst [V.ref u23, V.ref u24, V.ref u25, V.ref u26, V.non, V.int 3, V.ref u27]) = H28 at s28 h28 w28 ⊢
        have s28' : Same H22 H28 := s23.trans (s24.trans (s25.trans (s26.trans (s27.trans s28))))
        refine ⟨pw, u28, _, _, rfl, w28, by omega, h28, d28, Nat.succ_pos _, (by show 7 ≤ 100000; decide), fun vn H29 hvn k29 w29 => ?_⟩
        have sn : SIt pw H29 vn false := by
          refine SIt.far (H := H28) ?_ (Far.kp k29)
          have t1 := sit_tup (xs := [V.int 1]) d23 (s28 _ _ (s27 _ _ (s26 _ _ (s25 _ _ (s24 _ _ h23))))) (by simp [Scal])
          have t2 := sit_lst d24 (s28 _ _ (s27 _ _ (s26 _ _ (s25 _ _ h24))))
          have t3 := sit_tup (xs := [V.bl true, V.int 1]) d25 (s28 _ _ (s27 _ _ (s26 _ _ h25))) (by simp [Scal])
          have t4 := sit_tup (xs := [V.int 1, V.str "2"]) d26 (s28 _ _ (s27 _ _ h26)) (by simp [Scal])
          have t5 := sit_tup (xs := []) d27 (s28 _ _ h27) (by simp)
          simp only [List.mem_cons, List.not_mem_nil, or_false] at hvn
          rcases hvn with rfl | rfl | rfl | rfl | rfl | rfl | rfl
          · exact t1
          · exact t2
          · exact t3
          · exact t4
          · exact sit_scal trivial
          · exact sit_scal trivial
          · exact t5
        have c29 := (c22.same s28').wel k29 w29
        have fz : Far pw H22 H29 := (Far.same s28').trans (Far.kp k29)
        have sb29 := sb22.far fz
        have f29 := f22.trans fz
        clear sb22 c22 c21 c20 c19 c18 c17 c16 c15 c14 c13 hvn hh
        refine ⟨c29.ht, fun f30 d30 H30 x30 t30 nf30 hf30 hd30 => ⟨(by show 1 ≤ sizeLine; decide), fun ua na => ?_⟩⟩
        have a30 : Ask (XR (P := P) (w := w) T Z A outer s H E) [some (.ref pw), some (.ref u7), some (.ref l14), some (.ref ua), some (.ref l), some vn, some vo, some (.ref u6), none] Y.CB H29 H30 (.ref f30) := ⟨f30, _, ["_law_odd_here"], [6], _, rfl, ⟨hf30, hd30⟩, caps_of (sc0 := defScope sLwRight) rfl (by decide +kernel) rfl,
          (lok1 (sc := scIs) (x := "is_heap") (y := "_law_odd_here") (a := "rows") GIsHeap T.gIsHeap T.fIsHeap.kp T.bIsHeap rfl rfl (NdefX.nscope_by (by decide +kernel)) rfl (fun _ _ => rfl) rfl rfl rfl).mono (by decide), fun H' x' Q' E' hE => ⟨vo, rfl, vo, rfl, .inr ⟨sb29 H' (Far.ext x'), fun dd H2 s2 ⟨fs, hx⟩ => hE dd fs H2 s2 hx⟩⟩⟩
        have L30 := AL.first na x30 t30 a30
        generalize hU30 : upd H30 ua _ = U30 at L30 ⊢
        refine ⟨_, rfl, .inl ⟨rfl, _, SqL.of L30.hl⟩, L30.ht, fun f31 d31 H31 x31 t31 nf31 hf31 hd31 => ?_⟩
        refine ⟨ua, _, _, rfl, rfl, x31 _ _ L30.hl (fun _ z => by cases z), (by show 1 < sizeLine; decide), ?_⟩
        have a31 : Ask (XR (P := P) (w := w) T Z A outer s H E) [some (.ref pw), some (.ref u7), some (.ref l14), some (.ref ua), some (.ref l), some vn, some vo, some (.ref u6), none] Y.CB H29 H31 (.ref f31) := ⟨f31, _, ["_law_odd_here", "_law_pair"], [6, 7], _, rfl, ⟨hf31, hd31⟩, caps_of (sc0 := defScope sLwRight) rfl (by decide +kernel) rfl,
          (lok2 (sc := scPu) (x := "pushed") (y := "_law_odd_here") (z := "_law_pair") (a := "rows") (b := "entry") GPushed T.gPushed T.fPushed.kp T.bPushed rfl rfl (NdefX.nscope_by (by decide +kernel)) rfl (fun _ _ => rfl) rfl rfl rfl rfl rfl).mono (by decide), fun H' x' Q' E' hE => ⟨vo, .ref u6, rfl, vo, _, rfl, .inr (.inl ⟨sb29 H' (Far.ext x'), fun dd H2 s2 ⟨fs, hx⟩ => hE dd fs H2 s2 hx⟩)⟩⟩
        have L31 := L30.app x31 t31 a31
        generalize hU31 : upd H31 ua _ = U31 at L31 ⊢
        refine ⟨_, rfl, .inl ⟨rfl, _, SqL.of L31.hl⟩, L31.ht, fun f32 d32 H32 x32 t32 nf32 hf32 hd32 => ?_⟩
        refine ⟨ua, _, _, rfl, rfl, x32 _ _ L31.hl (fun _ z => by cases z), (by show 2 < sizeLine; decide), ?_⟩
        have a32 : Ask (XR (P := P) (w := w) T Z A outer s H E) [some (.ref pw), some (.ref u7), some (.ref l14), some (.ref ua), some (.ref l), some vn, some vo, some (.ref u6), none] Y.CB H29 H32 (.ref f32) := ⟨f32, _, ["_law_odd_here"], [6], _, rfl, ⟨hf32, hd32⟩, caps_of (sc0 := defScope sLwRight) rfl (by decide +kernel) rfl,
          (lok1 (sc := scPo) (x := "popped") (y := "_law_odd_here") (a := "rows") GPopped T.gPopped T.fPopped.kp T.bPopped rfl rfl (NdefX.nscope_by (by decide +kernel)) rfl (fun _ _ => rfl) rfl rfl rfl).mono (by decide), fun H' x' Q' E' hE => ⟨vo, rfl, vo, rfl, .inr (.inl ⟨sb29 H' (Far.ext x'), fun dd H2 s2 ⟨fs, hx⟩ => hE dd fs H2 s2 hx⟩)⟩⟩
        have L32 := L31.app x32 t32 a32
        generalize hU32 : upd H32 ua _ = U32 at L32 ⊢
        refine ⟨_, rfl, .inl ⟨rfl, _, SqL.of L32.hl⟩, L32.ht, fun f33 d33 H33 x33 t33 nf33 hf33 hd33 => ?_⟩
        refine ⟨ua, _, _, rfl, rfl, x33 _ _ L32.hl (fun _ z => by cases z), (by show 3 < sizeLine; decide), ?_⟩
        have a33 : Ask (XR (P := P) (w := w) T Z A outer s H E) [some (.ref pw), some (.ref u7), some (.ref l14), some (.ref ua), some (.ref l), some vn, some vo, some (.ref u6), none] Y.CB H29 H33 (.ref f33) := ⟨f33, _, ["_law_odd_here"], [6], _, rfl, ⟨hf33, hd33⟩, caps_of (sc0 := defScope sLwRight) rfl (by decide +kernel) rfl,
          (lok1 (sc := scHe) (x := "heaped") (y := "_law_odd_here") (a := "rows") GHeaped T.gHeaped T.fHeaped.kp T.bHeaped rfl rfl (NdefX.nscope_by (by decide +kernel)) rfl (fun _ _ => rfl) rfl rfl rfl).mono (by decide), fun H' x' Q' E' hE => ⟨vo, rfl, vo, rfl, .inr ⟨sb29 H' (Far.ext x'), fun dd H2 s2 ⟨fs, hx⟩ => hE dd fs H2 s2 hx⟩⟩⟩
        have L33 := L32.app x33 t33 a33
        generalize hU33 : upd H33 ua _ = U33 at L33 ⊢
        refine ⟨_, rfl, .inl ⟨rfl, _, SqL.of L33.hl⟩, L33.ht, fun f34 d34 H34 x34 t34 nf34 hf34 hd34 => ?_⟩
        refine ⟨ua, _, _, rfl, rfl, x34 _ _ L33.hl (fun _ z => by cases z), (by show 4 < sizeLine; decide), ?_⟩
        have a34 : Ask (XR (P := P) (w := w) T Z A outer s H E) [some (.ref pw), some (.ref u7), some (.ref l14), some (.ref ua), some (.ref l), some vn, some vo, some (.ref u6), none] Y.CB H29 H34 (.ref f34) := ⟨f34, _, ["_law_lot", "_law_none"], [4, 5], _, rfl, ⟨hf34, hd34⟩, caps_of (sc0 := defScope sLwRight) rfl (by decide +kernel) rfl,
          (lok2 (sc := scLo) (x := "pushed") (y := "_law_lot") (z := "_law_none") (a := "rows") (b := "entry") GPushed T.gPushed T.fPushed.kp T.bPushed rfl rfl (NdefX.nscope_by (by decide +kernel)) rfl (fun _ _ => rfl) rfl rfl rfl rfl rfl).mono (by decide), fun H' x' Q' E' hE => ⟨.ref l, vn, rfl, .ref l, vn, rfl, .inr (.inr ⟨l, es, ⟨rfl, x' _ _ c29.hl (fun _ z => by cases z), fun y hy => x' _ _ (c29.he y hy) (fun _ z => by cases z), hl5⟩, sn H' (Far.ext x'), fun dd H2 s2 ⟨fs, hx⟩ => hE dd fs H2 s2 hx⟩)⟩⟩
        have L34 := L33.app x34 t34 a34
        generalize hU34 : upd H34 ua _ = U34 at L34 ⊢
        have fU : Far pw H U34 := f29.trans (Far.ext L34.ex)
        refine ⟨_, rfl, ua, rfl, ⟨_, SqL.of L34.hl⟩, fun D nD => ?_⟩
        refine lcLY (xs := [V.ref f30, V.ref f31, V.ref f32, V.ref f33, V.ref f34]) (fun i acc H' => ∃ us : List Addr, acc = us.map V.ref ∧ us.length = i ∧ (∀ u ∈ us, H' u = some (.tup [.str "bad", .bl false])) ∧ Same U34 H') (by show 5 ≤ 100000; decide) ?hw (fun i acc H' r => SqL.of (r.choose_spec.2.2.2 _ _ L34.hl)) ⟨[], rfl, rfl, (fun _ h => nomatch h), same_new nD⟩ (fun i x acc H' Yq hx r hD hy => ?_) (fun acc H' r hD => ?_)
        case hw => exact fun x => rfl
        · obtain ⟨us, e1, e2, e3, sU⟩ := r
          obtain ⟨f, F, fr, js, sp, rfl, kt, cp, lo, pr⟩ := L34.al x (List.mem_of_getElem? hx)
          have kt' := kt.same sU
          refine ⟨_, rfl, f, F, fr, js, sp, rfl, kt'.hf, kt'.hc, cp, lo, fun Q' E' hQ hE => ?_⟩
          refine pr H' (fun b o h t => sU b o (L34.ex b o h t)) Q' E' fun dd fs H2 s2 hx2 => hE dd fs H2 hx2 fun u H3 s3 nu => ?_
          have s4 : Same H' (upd H3 u (.tup [.str "bad", .bl false])) := s2.trans (s3.trans (same_new nu))
          have hD4 := s4 _ _ hD
          refine hy (.ref u) _ hD4 ⟨us ++ [u], by rw [e1, List.map_append] <;> rfl, by rw [List.length_append, e2] <;> rfl, fun v hv => ?_, same_wr1 (sU.trans s4) nD⟩
          have hv' : (upd H3 u (.tup [.str "bad", .bl false])) v = some (.tup [.str "bad", .bl false]) := by
            rcases List.mem_append.mp hv with z | z
            · exact s4 _ _ (e3 v z)
            · rw [List.mem_singleton.mp z]
              exact upd_same
          rw [upd_ne (ne_of hv' hD4 (by intro z; cases z))]
          exact hv'
        · obtain ⟨us, rfl, e2, e3, sU⟩ := r
          refine ⟨(by show 2 ≤ sizeLine; decide), fun ut nt => ⟨(by show 1 ≤ sizeLine; decide), fun ul nl2 => ⟨ul, _, _, rfl, rfl, upd_same, by decide, by decide, (by show 5 ≤ sizeLine; decide), fun ur nr => ?_⟩⟩⟩
          have s1 := same_new (o := .tup [.str "bad", .bl false]) nt
          have s2 := same_new (o := .lst [V.ref ut]) nl2
          have s3 := same_new (o := .lst ((List.replicate (5 : Int).toNat [V.ref ut]).flatten)) nr
          have sE := s1.trans (s2.trans s3)
          have ht := s3 _ _ (s2 _ _ (upd_same (H := H') (a := ut) (o := .tup [.str "bad", .bl false])))
          refine ⟨.list (List.replicate us.length (.tuple [.str "bad", .bool false])), .list (List.replicate [ut, ut, ut, ut, ut].length (.tuple [.str "bad", .bool false])), .lst (SqL.of (sE _ _ hD)) (dp_bads us fun u hu => sE _ _ (e3 u hu)), .lst (SqL.of upd_same) (dp_bads [ut, ut, ut, ut, ut] fun u hu => ?_), ?_, shB5, ?_⟩
          · have : u = ut := by simpa using hu
            rw [this]
            exact ht
          · rw [e2]
            exact shB5
          · rw [e2]
            exact q _ (fU.trans (Far.same (sU.trans sE))) ((L34.ht.ext sU).ext sE)
end
end K13

namespace K13
open PySem PySem.Spec PyProof.Rows L2 LamT
section
variable {P : Program} {w : World} {K : PySem.W.Frag} {mg : Str → Option Value} {base : Heap} {T : Txt K mg}
/-- the frame of _law_bound_right -/
abbrev XB (T : Txt K mg) (Z : LTxt K mg base T) (A : Around) (outer : List Env) (s : Shared) (H : Hp) (E : XK) : Cx := (cxOf L2.CX0 P w K mg base ["_law_well_here", "_law_when", "_law_late", "_law_lot", "_law_asks", "_law_more", "_law_pair", "_law_k", "_law_ask"] "_law_bound_right" (defScope sLwBoundRight) T.aLwBoundRight (.ref Z.cB) A outer s H E).nox
def scBIs : Scope := { kind := .function, names := [("_law_more", .free), ("is_heap", .globalImplicit)], isGenerator := false, isCoroutine := false }
def scBPu : Scope := { kind := .function, names := [("_law_more", .free), ("_law_pair", .free), ("pushed", .globalImplicit)], isGenerator := false, isCoroutine := false }
def scBPo : Scope := { kind := .function, names := [("_law_more", .free), ("popped", .globalImplicit)], isGenerator := false, isCoroutine := false }
def scBHe : Scope := { kind := .function, names := [("_law_more", .free), ("heaped", .globalImplicit)], isGenerator := false, isCoroutine := false }
theorem rising_heap {es : List Ent} {tw : Int} (h : ∀ (i : Nat) (e : Ent), es[i]? = some e → e.t = tw + (i : Int)) : Hm.isHeapB Ent.t es = true := by
  unfold Hm.isHeapB
  rw [Bool.not_eq_true', List.any_eq_false]
  intro b hb
  obtain ⟨i, hi, rfl⟩ := List.mem_map.mp hb
  intro z
  have z' : Hm.lss Ent.t es (i + 1) (i / 2) = true := z
  unfold Hm.lss at z'
  split at z'
  · rename_i a c ha hc
    have h1 := h _ _ ha
    have h2 := h _ _ hc
    have h3 := of_decide_eq_true z'
    omega
  · cases z'
def spLwBoundRight (Ts : List (Addr × Str)) : Sp := fun vs H Q _ => ∃ (pw : Addr) (n : Int), vs = [.ref pw] ∧ Well H pw n ∧ n ≤ 1000000000 ∧ LamX.Tabs Ts H ∧ ∀ H', Q (.bl true) H'
theorem ok_bound (T : Txt K mg) (Y : ETxt P K mg) (M : MTxt K mg Y.CB) (Z : LTxt K mg base T) : FnOk P w K mg base CX0 12 T.aLwBoundRight T.dLwBoundRight ["_law_well_here"] (spLwBoundRight (tabs Z)) := by
  have GLwDraw : FnOk P w K mg base CX0 1 T.aLwDraw T.dLwDraw ["_law_well_here", "_law_many"] spLwDraw := ok_draw T
  have GLwTime : FnOk P w K mg base CX0 2 T.aLwTime T.dLwTime ["_law_well_here", "_law_way"] spLwTime := ok_time T
  have GLwPush : FnOk P w K mg base CX0 2 T.aLwPush T.dLwPush ["_law_lot", "_law_pair"] spLwPush := ok_lwPush T
  have GLwPop : FnOk P w K mg base CX0 3 T.aLwPop T.dLwPop ["_law_lot"] spLwPop := ok_lwPop T
  have GIsHeap : FnOk P w K mg base (L2.CX P w) 4 T.aIsHeap T.dIsHeap ["rows"] (spIsHeap Y.CB) := ok_isHeap T Y
  have GPushed : FnOk P w K mg base (L2.CX P w) 4 T.aPushed T.dPushed ["rows", "entry"] (spPushed Y.CB) := ok_pushed T Y
  have GPopped : FnOk P w K mg base (L2.CX P w) 5 T.aPopped T.dPopped ["rows"] (spPopped Y.CB) := ok_popped T Y
  have GHeaped : FnOk P w K mg base (L2.CX P w) 5 T.aHeaped T.dHeaped ["rows"] (spHeaped Y.CB) := ok_heaped T Y
  have GLwTold : GOk P w K mg base 11 10 T.aLwTold T.dLwTold "_law_ask" (RTold Y.CB) := ok_told T Y M
  refine okC T.fLwBoundRight Z.hB scLwBoundRight (fun vs H Q E h => ?_) (fun A outer s H vs Q E hr h => ?_)
  · obtain ⟨pw, n, rfl, _⟩ := h
    rfl
  · obtain ⟨pw, n, rfl, hw, hn, ht, q⟩ := h
    refine ⟨_, (pss_cons (ps_asg (pe_tup (pa_cons (pe_call GLwTime (hr.mono (by decide)) (by rfl) T.gLwTime T.fLwTime.kp T.bLwTime .nil pass0 (pa_cons (pv 0) (pa_cons pe_int pa_nil))) (pa_cons (pe_call GLwDraw (hr.mono (by decide)) (by rfl) T.gLwDraw T.fLwDraw.kp T.bLwDraw .nil pass0 (pa_cons (pv 0) (pa_cons pe_int pa_nil))) pa_nil))) (pg_tup rfl (pgs_cons (pg_name (i := 1) scLwBoundRight.nd rfl (.inr rfl)) (pgs_cons (pg_name (i := 2) scLwBoundRight.nd rfl (.inl rfl)) pgs_nil))))
      (pss_cons (ps_setLc (i := 3) (own := [("_law_k", 7)]) (g := gName 7) rfl scLwBoundRight.nd rfl rfl (sw_true rfl rfl rfl (by decide +kernel)) (pi_range1 (by rfl) T.n_range (pa_cons pe_int pa_nil)) (blkOk_by (own := [("_law_k", 7)]) (N := ["_law_well_here", "_law_when", "_law_late", "_law_lot", "_law_asks", "_law_more", "_law_pair", "_law_k", "_law_ask"]) (sc := defScope sLwBoundRight) (by decide +kernel)) (fun _ _ _ _ _ => (pg_name (i := 7) scLwBoundRight.nd rfl (.inl rfl))) (fun _ _ _ _ _ => pts_nil) (fun _ _ _ _ _ => (pe_tup (pa_cons (pe_op op_add (pv 1) (pv 7)) (pa_cons (pv 7) pa_nil)))))
      (pss_cons (ps_set (i := 6) scLwBoundRight.nd rfl (.inr rfl) (pe_tup (pa_cons (pe_op op_sub (pe_op op_add (pv 1) (pv 2)) pe_int) (pa_cons pe_int pa_nil))))
      (pss_cons (ps_set (i := 5) scLwBoundRight.nd rfl (.inr rfl) (pe_op op_cat (pv 3) (pe_lst (pa_cons (pv 6) pa_nil))))
      (pss_cons (ps_if (PW.pt (pw_or (pt_cmpR op_isnot_bl (pe_call GIsHeap (hr.mono (by decide)) (by rfl) T.gIsHeap T.fIsHeap.kp T.bIsHeap .nil (passes_call (E := E0) LamX.takes0 (fun _ _ _ _ h => h)) (pa_cons (pv 3) pa_nil)) pe_bl (nomark _)) (pw_or (pt_cmpR (r := rNeD K) (op_neD hr.units) (pe_call GPushed (hr.mono (by decide)) (by rfl) T.gPushed T.fPushed.kp T.bPushed .nil (passes_call (E := E0) LamX.takes0 (fun _ _ _ _ h => h)) (pa_cons (pv 3) (pa_cons (pv 6) pa_nil))) (pe_call GLwPush (hr.mono (by decide)) (by rfl) T.gLwPush T.fLwPush.kp T.bLwPush .nil pass0 (pa_cons (pv 3) (pa_cons (pv 6) pa_nil))) (nomark _)) (pw_or1 (pt_cmpR (r := rNeD K) (op_neD hr.units) (pe_call GPopped (hr.mono (by decide)) (by rfl) T.gPopped T.fPopped.kp T.bPopped .nil (passes_call (E := E0) LamX.takes0 (fun _ _ _ _ h => h)) (pa_cons (pv 3) pa_nil)) (pe_call GLwPop (hr.mono (by decide)) (by rfl) T.gLwPop T.fLwPop.kp T.bLwPop .nil pass0 (pa_cons (pv 3) pa_nil)) (nomark _))))))
      (pss_one (ps_ret pe_bl))
      pss_nil)
      (pss_cons (ps_set (i := 4) scLwBoundRight.nd rfl (.inl rfl) (pe_lst (pa_cons (pe_lam (T := tabs Z) Z.tB rfl (by exact List.mem_cons_of_mem _ List.mem_cons_self) (oneB Z) rfl (LamX.lamS_by (sc := defScope sLwBoundRight) (by decide +kernel))) pa_nil)))
      (pss_cons (ps_expr (pe_bm PySem.F.plainAttrs_list PySem.F.slot_list_append PySem.F.type_list_append mt_append (pv 4) (pa_cons (pe_lam (T := tabs Z) Z.tB rfl (by exact List.mem_cons_of_mem _ List.mem_cons_self) (oneB Z) rfl (LamX.lamS_by (sc := defScope sLwBoundRight) (by decide +kernel))) pa_nil)))
      (pss_cons (ps_expr (pe_bm PySem.F.plainAttrs_list PySem.F.slot_list_append PySem.F.type_list_append mt_append (pv 4) (pa_cons (pe_lam (T := tabs Z) Z.tB rfl (by exact List.mem_cons_of_mem _ List.mem_cons_self) (oneB Z) rfl (LamX.lamS_by (sc := defScope sLwBoundRight) (by decide +kernel))) pa_nil)))
      (pss_cons (ps_expr (pe_bm PySem.F.plainAttrs_list PySem.F.slot_list_append PySem.F.type_list_append mt_append (pv 4) (pa_cons (pe_lam (T := tabs Z) Z.tB rfl (by exact List.mem_cons_of_mem _ List.mem_cons_self) (oneB Z) rfl (LamX.lamS_by (sc := defScope sLwBoundRight) (by decide +kernel))) pa_nil)))
      (pss_one (ps_ret (pe_cmpR (r := rEqD K) (op_eqD hr.units) (pe_lcS (own := [("_law_ask", 8)]) (g := gName 8) rfl scLwBoundRight.nd (pi_list (pv 4)) (blkOk_by (own := [("_law_ask", 8)]) (N := ["_law_well_here", "_law_when", "_law_late", "_law_lot", "_law_asks", "_law_more", "_law_pair", "_law_k", "_law_ask"]) (sc := defScope sLwBoundRight) (by decide +kernel)) (fun _ _ _ _ _ => (pg_name (i := 8) scLwBoundRight.nd rfl (.inl rfl))) (fun _ σ _ _ _ _ _ I hfp => pe_giveB I hfp GLwTold (by rfl) T.gLwTold T.fLwTold.kp T.bLwTold (hr.mono (by decide)) (pv 8))) (pe_op op_rep (pe_lst (pa_cons (pe_tup (pa_cons pe_str (pa_cons pe_bl pa_nil))) pa_nil)) pe_int) (nomark _))))))))))))), ?_⟩
    refine ⟨_, rfl, pw, 1, _, rfl, by decide, by decide, hw, by omega, fun tw H1 k1 w1 => ?_⟩
    refine ⟨_, rfl, pw, 5000, _, rfl, w1, by omega, by decide, by decide, fun late H2 rr k2 w2 => ?_⟩
    refine ⟨(by show 2 ≤ sizeLine; decide), fun u3 n3 => ?_⟩
    have ht3 := (tabs_kp (tabs_kp ht hw k1) w1 k2).ext (same_new (o := .tup [V.int tw, V.int late]) n3)
    have h3 : (upd H2 u3 (.tup [V.int tw, V.int late])) u3 = some (.tup [V.int tw, V.int late]) := upd_same
    generalize upd H2 u3 (.tup [V.int tw, V.int late]) = H3 at h3 ht3 ⊢
    refine ⟨u3, _, rfl, SqT.of h3, rfl, _, _, rfl, _, _, rfl, rfl, ?_⟩
    refine ⟨_, rfl, by decide, by decide, fun D nD => ?_⟩
    refine lcRY (n := 5000) (fun i acc H' => Same H3 H' ∧ ∃ ms : List Ent, acc = vsOf ms ∧ Ents H' ms ∧ ms.length = i ∧ ∀ (j : Nat) (e : Ent), ms[j]? = some e → e.t = tw + (j : Int)) (by decide) (fun x => rfl) ⟨same_new nD, [], rfl, (fun e z => nomatch z), rfl, (fun j e z => by simp at z)⟩ ?_ ?_
    · intro i acc H4 Zq hi ⟨s4, ms, e3, em, el, et⟩ hD hZ
      refine ⟨_, rfl, _, rfl, _, _, rfl, rfl, _, rfl, (by show 2 ≤ sizeLine; decide), fun u nu => ?_⟩
      have s5 := same_new (o := .tup [.int (tw + (0 + (i : Int))), .int (0 + (i : Int))]) nu
      refine hZ _ _ (s5 _ _ hD) ⟨same_wr1 (s4.trans s5) nD, ms ++ [⟨u, tw + (0 + (i : Int)), 0 + (i : Int)⟩], ?_, ?_, ?_, fun j e he => ?_⟩
      · rw [e3]
        exact vs_app1 (e := ⟨u, tw + (0 + (i : Int)), 0 + (i : Int)⟩)
      · have hu : EntAt (upd H4 u (.tup [.int (tw + (0 + (i : Int))), .int (0 + (i : Int))])) ⟨u, tw + (0 + (i : Int)), 0 + (i : Int)⟩ := by
          unfold EntAt
          exact upd_same
        exact (ents_app1 (em.same s5) hu).kp ((Kp.refl _ _).wr (List.mem_singleton.mpr rfl)) (s5 _ _ hD)
      · rw [List.length_append, el]
        rfl
      · by_cases hj : j < ms.length
        · rw [List.getElem?_append_left hj] at he
          exact et j e he
        · rw [List.getElem?_append_right (by omega)] at he
          have : j - ms.length = 0 := by
            have := (List.getElem?_eq_some_iff.mp he).1
            simp at this
            omega
          rw [this] at he
          cases he
          show tw + (0 + (i : Int)) = _
          omega
    intro acc H4 ⟨s4, es, e4, he4, len, et⟩ hD
    rw [e4] at hD
    -- the pair
    refine ⟨_, rfl, _, rfl, _, _, rfl, rfl, _, _, rfl, rfl, (by show 2 ≤ sizeLine; decide), fun u5 n5 => ?_⟩
    have s5 := same_new (o := .tup [V.int (tw + late - 1), V.int 5000]) n5
    have h5 : (upd H4 u5 (.tup [V.int (tw + late - 1), V.int 5000])) u5 = some (.tup [V.int (tw + late - 1), V.int 5000]) := upd_same
    generalize upd H4 u5 (.tup [V.int (tw + late - 1), V.int 5000]) = H5 at s5 h5 ⊢
    refine ⟨_, rfl, _, rfl, (by show 1 ≤ sizeLine; decide), fun u6 n6 => ?_⟩
    have s6 := same_new (o := .lst [V.ref u5]) n6
    have h6 : (upd H5 u6 (.lst [V.ref u5])) u6 = some (.lst [V.ref u5]) := upd_same
    generalize upd H5 u6 (.lst [V.ref u5]) = H6 at s6 h6 ⊢
    refine ⟨D, u6, _, _, rfl, rfl, s6 _ _ (s5 _ _ hD), h6, ?_, fun u7 n7 => ?_⟩
    · rw [vs_len, len]
      show 5001 ≤ sizeLine
      decide
    have s7 := same_new (o := .lst (vsOf es ++ [V.ref u5])) n7
    have h7 : (upd H6 u7 (.lst (vsOf es ++ [V.ref u5]))) u7 = some (.lst (vsOf es ++ [V.ref u5])) := upd_same
    generalize upd H6 u7 (.lst (vsOf es ++ [V.ref u5])) = H7 at s7 h7 ⊢
    have s47 := s5.trans (s6.trans s7)
    have hl5 : es.length ≤ 5000 := by omega
    have c7 : H7 D = some (.lst (vsOf es)) ∧ Ents H7 es ∧ EntAt H7 ⟨u5, tw + late - 1, 5000⟩ := ⟨s47 _ _ hD, he4.same s47, s7 _ _ (s6 _ _ h5)⟩
    have step : ∀ {Ha Hb : Hp}, Same Ha Hb → (Ha D = some (.lst (vsOf es)) ∧ Ents Ha es ∧ EntAt Ha ⟨u5, tw + late - 1, 5000⟩) → (Hb D = some (.lst (vsOf es)) ∧ Ents Hb es ∧ EntAt Hb ⟨u5, tw + late - 1, 5000⟩) := fun s c => ⟨s _ _ c.1, c.2.1.same s, s _ _ c.2.2⟩
    have pushE : ∀ {Ha : Hp}, (Ha D = some (.lst (vsOf es)) ∧ Ents Ha es ∧ EntAt Ha ⟨u5, tw + late - 1, 5000⟩) → Ents Ha (Hm.push Ent.t es ⟨u5, tw + late - 1, 5000⟩) := fun {Ha} c y hy => by
      rcases List.mem_cons.mp ((Hm.push_perm Ent.t es ⟨u5, tw + late - 1, 5000⟩).mem_iff.mp hy) with z | z
      · rw [z]
        exact c.2.2
      · exact c.2.1 y z
    refine ⟨_, rfl, .ref D, rfl, .inl ⟨D, es, ⟨rfl, c7.1, c7.2.1, hl5⟩, fun H8 s8 => ?_⟩⟩
    have c8 := step s8 c7
    rw [rising_heap et]
    refine ⟨_, _, rfl, rfl, _, rfl, iteF ?_⟩
    refine ⟨_, rfl, _, rfl, .ref D, _, rfl, .inl ⟨D, es, ⟨u5, tw + late - 1, 5000⟩, ⟨rfl, c8.1, c8.2.1, hl5⟩, rfl, c8.2.2, fun H10 l10 s10 n10 h10 => ?_⟩⟩
    have c10 := step s10 c8
    refine ⟨_, rfl, _, rfl, D, es, ⟨u5, tw + late - 1, 5000⟩, rfl, c10.1, c10.2.1, c10.2.2, hl5, fun H11 l11 s11 n11 h11 => ?_⟩
    have c11 := step s11 c10
    refine ⟨rowsD (Hm.push Ent.t es ⟨u5, tw + late - 1, 5000⟩), rowsD (Hm.push Ent.t es ⟨u5, tw + late - 1, 5000⟩), dp_rows (SqL.of (s11 _ _ h10)) (pushE c11), dp_rows (SqL.of h11) (pushE c11), shaped_rows _, shaped_rows _, _, rfl, ?_⟩
    rw [eqv_self]
    refine iteF ?_
    obtain ⟨x, hx0⟩ : ∃ x, es[0]? = some x := ⟨_, List.getElem?_eq_getElem (by omega)⟩
    refine ⟨_, rfl, .ref D, rfl, .inl ⟨D, es, x, ⟨rfl, c11.1, c11.2.1, hl5⟩, hx0, fun H13 u13 l13 s13 nl13 nu13 hu13 hl13 => ?_⟩⟩
    have c13 := step s13 c11
    refine ⟨_, rfl, D, _, x, rfl, c13.1, c13.2.1, hx0, hl5, fun H14 u14 l14 s14 nl14 nu14 hu14 hl14 => ?_⟩
    have c14 := step s14 c13
    have ep : Ents H14 (Hm.popL Ent.t es) := fun y hy => c14.2.1 y ((Hm.pop_perm Ent.t (l := es) (x := x) hx0).mem_iff.mp (List.mem_cons_of_mem _ hy))
    have ex : EntAt H14 x := c14.2.1 x (List.mem_of_getElem? hx0)
    refine ⟨.tuple [x.d, rowsD (Hm.popL Ent.t es)], .tuple [x.d, rowsD (Hm.popL Ent.t es)], .tup (SqT.of (s14 _ _ hu13)) (.cons (dp_ent ex) (.cons (dp_rows (SqL.of (s14 _ _ hl13)) ep) .nil)), .tup (SqT.of hu14) (.cons (dp_ent ex) (.cons (dp_rows (SqL.of hl14) ep) .nil)), shaped_pop _ _, shaped_pop _ _, _, rfl, ?_⟩
    rw [eqv_pop]
    refine iteF ?_
    have h7z := s14 _ _ (s13 _ _ (s11 _ _ (s10 _ _ (s8 _ _ h7))))
    have htz : LamX.Tabs (tabs Z) H14 := ht3.ext (s4.trans (s47.trans (s8.trans (s10.trans (s11.trans (s13.trans s14))))))
    generalize H14 = H29 at h7z htz ⊢
    have bad : ∀ H', LamX.ExtN H29 H' → BadRows H' (.ref u7) := fun H' x' => .long (x' _ _ h7z (fun _ z => by cases z)) (by
      rw [List.length_append, vs_len, len]
      exact Nat.lt_succ_self 5000)
    refine ⟨htz, fun f30 d30 H30 x30 t30 nf30 hf30 hd30 => ⟨(by show 1 ≤ sizeLine; decide), fun ua na => ?_⟩⟩
    have a30 : Ask (XB (P := P) (w := w) T Z A outer s H E) [some (.ref pw), some (.int tw), some (.int late), some (.ref D), some (.ref ua), some (.ref u7), some (.ref u5), none, none] Y.CB H29 H30 (.ref f30) := ⟨f30, _, ["_law_more"], [5], _, rfl, ⟨hf30, hd30⟩, caps_of (sc0 := defScope sLwBoundRight) rfl (by decide +kernel) rfl,
      (lok1 (sc := scBIs) (x := "is_heap") (y := "_law_more") (a := "rows") GIsHeap T.gIsHeap T.fIsHeap.kp T.bIsHeap rfl rfl (NdefX.nscope_by (by decide +kernel)) rfl (fun _ _ => rfl) rfl rfl rfl).mono (by decide), fun H' x' Q' E' hE => ⟨.ref u7, rfl, .ref u7, rfl, .inr ⟨bad H' x', fun dd H2 s2 ⟨fs, hx⟩ => hE dd fs H2 s2 hx⟩⟩⟩
    have L30 := AL.first na x30 t30 a30
    generalize hU30 : upd H30 ua _ = U30 at L30 ⊢
    refine ⟨_, rfl, .inl ⟨rfl, _, SqL.of L30.hl⟩, L30.ht, fun f31 d31 H31 x31 t31 nf31 hf31 hd31 => ?_⟩
    refine ⟨ua, _, _, rfl, rfl, x31 _ _ L30.hl (fun _ z => by cases z), (by show 1 < sizeLine; decide), ?_⟩
    have a31 : Ask (XB (P := P) (w := w) T Z A outer s H E) [some (.ref pw), some (.int tw), some (.int late), some (.ref D), some (.ref ua), some (.ref u7), some (.ref u5), none, none] Y.CB H29 H31 (.ref f31) := ⟨f31, _, ["_law_more", "_law_pair"], [5, 6], _, rfl, ⟨hf31, hd31⟩, caps_of (sc0 := defScope sLwBoundRight) rfl (by decide +kernel) rfl,
      (lok2 (sc := scBPu) (x := "pushed") (y := "_law_more") (z := "_law_pair") (a := "rows") (b := "entry") GPushed T.gPushed T.fPushed.kp T.bPushed rfl rfl (NdefX.nscope_by (by decide +kernel)) rfl (fun _ _ => rfl) rfl rfl rfl rfl rfl).mono (by decide), fun H' x' Q' E' hE => ⟨.ref u7, .ref u5, rfl, .ref u7, _, rfl, .inr (.inl ⟨bad H' x', fun dd H2 s2 ⟨fs, hx⟩ => hE dd fs H2 s2 hx⟩)⟩⟩
    have L31 := L30.app x31 t31 a31
    generalize hU31 : upd H31 ua _ = U31 at L31 ⊢
    refine ⟨_, rfl, .inl ⟨rfl, _, SqL.of L31.hl⟩, L31.ht, fun f32 d32 H32 x32 t32 nf32 hf32 hd32 => ?_⟩
    refine ⟨ua, _, _, rfl, rfl, x32 _ _ L31.hl (fun _ z => by cases z), (by show 2 < sizeLine; decide), ?_⟩
    have a32 : Ask (XB (P := P) (w := w) T Z A outer s H E) [some (.ref pw), some (.int tw), some (.int late), some (.ref D), some (.ref ua), some (.ref u7), some (.ref u5), none, none] Y.CB H29 H32 (.ref f32) := ⟨f32, _, ["_law_more"], [5], _, rfl, ⟨hf32, hd32⟩, caps_of (sc0 := defScope sLwBoundRight) rfl (by decide +kernel) rfl,
      (lok1 (sc := scBPo) (x := "popped") (y := "_law_more") (a := "rows") GPopped T.gPopped T.fPopped.kp T.bPopped rfl rfl (NdefX.nscope_by (by decide +kernel)) rfl (fun _ _ => rfl) rfl rfl rfl).mono (by decide), fun H' x' Q' E' hE => ⟨.ref u7, rfl, .ref u7, rfl, .inr (.inl ⟨bad H' x', fun dd H2 s2 ⟨fs, hx⟩ => hE dd fs H2 s2 hx⟩)⟩⟩
    have L32 := L31.app x32 t32 a32
    generalize hU32 : upd H32 ua _ = U32 at L32 ⊢
    refine ⟨_, rfl, .inl ⟨rfl, _, SqL.of L32.hl⟩, L32.ht, fun f33 d33 H33 x33 t33 nf33 hf33 hd33 => ?_⟩
    refine ⟨ua, _, _, rfl, rfl, x33 _ _ L32.hl (fun _ z => by cases z), (by show 3 < sizeLine; decide), ?_⟩
    have a33 : Ask (XB (P := P) (w := w) T Z A outer s H E) [some (.ref pw), some (.int tw), some (.int late), some (.ref D), some (.ref ua), some (.ref u7), some (.ref u5), none, none] Y.CB H29 H33 (.ref f33) := ⟨f33, _, ["_law_more"], [5], _, rfl, ⟨hf33, hd33⟩, caps_of (sc0 := defScope sLwBoundRight) rfl (by decide +kernel) rfl,
      (lok1 (sc := scBHe) (x := "heaped") (y := "_law_more") (a := "rows") GHeaped T.gHeaped T.fHeaped.kp T.bHeaped rfl rfl (NdefX.nscope_by (by decide +kernel)) rfl (fun _ _ => rfl) rfl rfl rfl).mono (by decide), fun H' x' Q' E' hE => ⟨.ref u7, rfl, .ref u7, rfl, .inr ⟨bad H' x', fun dd H2 s2 ⟨fs, hx⟩ => hE dd fs H2 s2 hx⟩⟩⟩
    have L33 := L32.app x33 t33 a33
    generalize hU33 : upd H33 ua _ = U33 at L33 ⊢
    refine ⟨_, rfl, ua, rfl, ⟨_, SqL.of L33.hl⟩, fun D2 nD2 => ?_⟩
    refine lcLY (xs := [V.ref f30, V.ref f31, V.ref f32, V.ref f33]) (fun i acc H' => ∃ us : List Addr, acc = us.map V.ref ∧ us.length = i ∧ (∀ u ∈ us, H' u = some (.tup [.str "bad", .bl false])) ∧ Same U33 H') (by show 4 ≤ 100000; decide) ?hw (fun i acc H' r => SqL.of (r.choose_spec.2.2.2 _ _ L33.hl)) ⟨[], rfl, rfl, (fun _ h => nomatch h), same_new nD2⟩ (fun i x acc H' Yq hx r hD hy => ?_) (fun acc H' r hD => ?_)
    case hw => exact fun x => rfl
    · obtain ⟨us, e1, e2, e3, sU⟩ := r
      obtain ⟨f, F, fr, js, sp, rfl, kt, cp, lo, pr⟩ := L33.al x (List.mem_of_getElem? hx)
      have kt' := kt.same sU
      refine ⟨_, rfl, f, F, fr, js, sp, rfl, kt'.hf, kt'.hc, cp, lo, fun Q' E' hQ hE => ?_⟩
      refine pr H' (fun b o h t => sU b o (L33.ex b o h t)) Q' E' fun dd fs H2 s2 hx2 => hE dd fs H2 hx2 fun u H3 s3 nu => ?_
      have s4 : Same H' (upd H3 u (.tup [.str "bad", .bl false])) := s2.trans (s3.trans (same_new nu))
      have hD4 := s4 _ _ hD
      refine hy (.ref u) _ hD4 ⟨us ++ [u], by rw [e1, List.map_append] <;> rfl, by rw [List.length_append, e2] <;> rfl, fun v hv => ?_, same_wr1 (sU.trans s4) nD2⟩
      have hv' : (upd H3 u (.tup [.str "bad", .bl false])) v = some (.tup [.str "bad", .bl false]) := by
        rcases List.mem_append.mp hv with z | z
        · exact s4 _ _ (e3 v z)
        · rw [List.mem_singleton.mp z]
          exact upd_same
      rw [upd_ne (ne_of hv' hD4 (by intro z; cases z))]
      exact hv'
    · obtain ⟨us, rfl, e2, e3, sU⟩ := r
      refine ⟨(by show 2 ≤ sizeLine; decide), fun ut nt => ⟨(by show 1 ≤ sizeLine; decide), fun ul nl2 => ⟨ul, _, _, rfl, rfl, upd_same, by decide, by decide, (by show 4 ≤ sizeLine; decide), fun ur nr => ?_⟩⟩⟩
      have s1 := same_new (o := .tup [.str "bad", .bl false]) nt
      have s2 := same_new (o := .lst [V.ref ut]) nl2
      have s3 := same_new (o := .lst ((List.replicate (4 : Int).toNat [V.ref ut]).flatten)) nr
      have sE := s1.trans (s2.trans s3)
      have ht := s3 _ _ (s2 _ _ (upd_same (H := H') (a := ut) (o := .tup [.str "bad", .bl false])))
      refine ⟨.list (List.replicate us.length (.tuple [.str "bad", .bool false])), .list (List.replicate [ut, ut, ut, ut].length (.tuple [.str "bad", .bool false])), .lst (SqL.of (sE _ _ hD)) (dp_bads us fun u hu => sE _ _ (e3 u hu)), .lst (SqL.of upd_same) (dp_bads [ut, ut, ut, ut] fun u hu => ?_), ?_, shB4, ?_⟩
      · have : u = ut := by simpa using hu
        rw [this]
        exact ht
      · rw [e2]
        exact shB4
      · rw [e2]
        exact q _
end
end K13

namespace K13
open PySem PySem.Spec PyProof.Rows L2 LamT
theorem cut_ints {ns : List Int} {lo hi : Option Int} {v : V} (h : v ∈ cutV (ns.map V.int) lo hi) : ∃ n : Int, v = .int n := by
  obtain ⟨n, _, e⟩ := List.mem_map.mp (cut_mem h)
  exact ⟨n, e.symm⟩
theorem sql_same {K : PySem.W.Frag} {H H' : Hp} {a : Addr} {xs : List V} (h : SqL K H a xs) (s : Same H H') : SqL K H' a xs := by
  rcases h with (h | ⟨o, h⟩) | h
  · exact .inl (.inl (s _ _ h))
  · exact .inl (.inr ⟨o, s _ _ h⟩)
  · exact .inr h
theorem sql_far {K : PySem.W.Frag} {H0 H H' : Hp} {pw a : Addr} {xs : List V} (h : SqL K H0 a xs) (s : Same H0 H) (n : H0 pw = none) (f : Far pw H H') : SqL K H' a xs := by
  rcases h with (h | ⟨o, h⟩) | h
  · exact .inl (.inl (f _ _ (ne_of_none h n) (s _ _ h) (fun _ z => by cases z)))
  · exact .inl (.inr ⟨o, f _ _ (ne_of_none h n) (s _ _ h) (fun _ z => by cases z)⟩)
  · exact .inr h
section
variable {P : Program} {w : World} {K : PySem.W.Frag} {mg : Str → Option Value} {base : Heap} {T : Txt K mg}
def spLaw (Ts : List (Addr × Str)) (K : PySem.W.Frag) : Sp := fun vs H Q _ => ∃ (a : Addr) (ns : List Int), vs = [.ref a] ∧ SqL K H a (ns.map V.int) ∧ ns.length ≤ 63 ∧ LamX.Tabs Ts H ∧ ∀ H', Q (.bl true) H'
theorem ok_law (T : Txt K mg) (Y : ETxt P K mg) (M : MTxt K mg Y.CB) (Z : LTxt K mg base T) : FnOk P w K mg base CX0 13 T.aLaw T.dLaw ["_law_script"] (spLaw (tabs Z) K) := by
  have GLwWell : FnOk P w K mg base CX0 1 T.aLwWell T.dLwWell ["_law_cell"] spLwWell := ok_well T
  have GLwRight : FnOk P w K mg base CX0 12 T.aLwRight T.dLwRight ["_law_well_here"] (spLwRight (tabs Z)) := ok_right T Y M Z
  have GLwBoundRight : FnOk P w K mg base CX0 12 T.aLwBoundRight T.dLwBoundRight ["_law_well_here"] (spLwBoundRight (tabs Z)) := ok_bound T Y M Z
  refine T.fLaw.ok scLaw (fun vs H Q E h => ?_) (fun cdv A outer s H vs Q E hr h => ?_)
  · obtain ⟨a, ns, rfl, _⟩ := h
    rfl
  · obtain ⟨a, ns, rfl, hS, hlen, ht, q⟩ := h
    refine ⟨_, (pss_cons (ps_for PassesOwn.never rfl (pi_list (pe_op (r := rCatS K) op_catS (pe_slice sl_list (pv 0) po_none (po_some pe_int)) (pe_lst (pa_cons pe_int pa_nil)))) (pg_name (i := 1) scLaw.nd rfl (.inl rfl))
      (pss_one (ps_if (pt_not (pt_val (pe_call GLwRight (hr.mono (by decide)) (by rfl) T.gLwRight T.fLwRight.kp T.bLwRight .nil pass0 (pa_cons (pe_call GLwWell (hr.mono (by decide)) (by rfl) T.gLwWell T.fLwWell.kp T.bLwWell .nil pass0 (pa_cons (pv 1) pa_nil)) pa_nil))))
        (pss_one (ps_ret pe_bl))
        pss_nil)))
      (pss_one (ps_ret (pe_call GLwBoundRight (hr.mono (by decide)) (by rfl) T.gLwBoundRight T.fLwBoundRight.kp T.bLwBoundRight .nil pass0 (pa_cons (pe_call GLwWell (hr.mono (by decide)) (by rfl) T.gLwWell T.fLwWell.kp T.bLwWell .nil pass0 (pa_cons (pe_ix (r := rIxL K) ix_list (pe_op (r := rCatS K) op_catS (pv 0) (pe_lst (pa_cons pe_int pa_nil))) pe_int (fun _ _ => rfl)) pa_nil)) pa_nil))))), ?_⟩
    refine ⟨_, rfl, 8, rfl, a, _, rfl, hS, fun c nc => ?_⟩
    have sc := same_new (o := .lst (cutV (ns.map V.int) none (some 8))) nc
    refine ⟨(by show 1 ≤ sizeLine; decide), fun z nz => ?_⟩
    have sz := same_new (o := .lst [V.int 0]) nz
    refine ⟨c, z, _, _, rfl, rfl, SqL.of (sz _ _ upd_same), SqL.of upd_same, ?_, fun la nla => ?_⟩
    · have := cutV_length (ns.map V.int) none (some 8)
      rw [List.length_map] at this
      exact Nat.le_trans (show _ ≤ 1000 by show (cutV (ns.map V.int) none (some 8)).length + 1 ≤ 1000; omega) (by decide)
    have sl := same_new (o := .lst (cutV (ns.map V.int) none (some 8) ++ [V.int 0])) nla
    have s0 := sc.trans (sz.trans sl)
    refine ⟨la, rfl, ⟨_, SqL.of upd_same⟩, ?_⟩
    refine for_list (xs := cutV (ns.map V.int) none (some 8) ++ [V.int 0]) (fun i σ H3 => ∃ y1, σ = [some (.ref a), y1] ∧ H3 la = some (.lst (cutV (ns.map V.int) none (some 8) ++ [V.int 0])) ∧ SqL K H3 a (ns.map V.int) ∧ LamX.Tabs (tabs Z) H3)
      ⟨_, rfl, upd_same, sql_same hS s0, ht.ext s0⟩ (fun i σ H3 _ ⟨_, _, h, _⟩ => SqL.of h) (fun i x σ HA hx hW => ?_) (fun σ H3 hW => ?_)
    · obtain ⟨y1, rfl, hla, hSa, htA⟩ := hW
      obtain ⟨cell, rfl⟩ : ∃ n : Int, x = .int n := by
        rcases List.mem_append.mp (List.mem_of_getElem? hx) with h | h
        · exact cut_ints h
        · exact ⟨0, List.mem_singleton.mp h⟩
      refine ⟨_, rfl, cell, rfl, fun pw H1 npw s1 w1 => ?_⟩
      refine ⟨pw, 0, rfl, w1, by decide, htA.ext s1, fun H2 f2 t2 => ?_⟩
      refine ⟨true, rfl, iteF ⟨_, rfl, ?_, sql_far hSa s1 npw f2, t2⟩⟩
      exact f2 _ _ (ne_of_none hla npw) (s1 _ _ hla) (fun _ z => by cases z)
    · obtain ⟨y1, rfl, hla, hSa, htA⟩ := hW
      refine ⟨_, rfl, (by show 1 ≤ sizeLine; decide), fun u nu => ?_⟩
      have su := same_new (o := .lst [V.int 0]) nu
      refine ⟨a, u, _, _, rfl, rfl, sql_same hSa su, SqL.of upd_same, ?_, fun v nv => ?_⟩
      · rw [List.length_map]
        exact Nat.le_trans (show _ ≤ 64 by show ns.length + 1 ≤ 64; omega) (by decide)
      have sv := same_new (o := .lst (ns.map V.int ++ [V.int 0])) nv
      obtain ⟨c0, hc0⟩ : ∃ c0 : Int, (ns.map V.int ++ [V.int 0])[0]? = some (V.int c0) := by
        cases ns with
        | nil => exact ⟨0, rfl⟩
        | cons n r => exact ⟨n, rfl⟩
      refine ⟨v, _, 0, _, rfl, rfl, SqL.of upd_same, atI_nat (j := 0) hc0, c0, rfl, fun pw H1 npw s1 w1 => ?_⟩
      exact ⟨pw, 0, rfl, w1, by decide, (htA.ext (su.trans sv)).ext s1, fun H2 => q H2⟩
end
end K13

namespace K13
open PySem PySem.Spec PyProof.Rows L2 LamT
def clsBody (s : Stmt) : List Stmt := match s with
  | .ClassDef _ _ _ b _ _ _ _ _ _ _ => b
  | _ => []
abbrev sInit : Stmt := (clsBody (topS 1)).getD 0 (.Pass ⟨0, 0, 0, 0⟩)
theorem init_ok {P : Program} {W : World} {K : PySem.W.Frag} {mg : Str → Option Value} {base : Heap} {f c cc D : Addr} {oc dV kV doc pm ct : Value} {an od : Option Addr} {osl : Array (Option Value)}
    (lk : K.lookup f = some ⟨oc, od, .func (PySem.W.fnX "__init__" "LoopError.__init__" (defArgs sInit) (defBody sInit) (defScope sInit) [("__class__", cc)] dV kV doc pm an (.ref c) ct), osl⟩) (hcd : PySem.W.codeIn K (.ref c) "LoopError.__init__" = true)
    (T : SupI.SupTxt P K f c cc D) (hms : mg "super" = none) : FnOk P W K mg base CX0 1 f (PySem.W.fnX "__init__" "LoopError.__init__" (defArgs sInit) (defBody sInit) (defScope sInit) [("__class__", cc)] dV kV doc pm an (.ref c) ct) ["self", "why"] (SupI.spInit K D "why") :=
  SupI.ok_init (k := 0) lk hcd T hms (NdefX.nscope_by (by decide +kernel)) rfl rfl rfl rfl (fun L => rfl) rfl
theorem init_binds {K : PySem.W.Frag} {cc c TI : Addr} {kV doc pm ct ocT : Value} {an odT : Option Addr} {slT : Array (Option Value)} {tk : Tok} {n : Nat} (lT : K.lookup TI = some ⟨ocT, odT, .seq #[.str "" tk] n, slT⟩) :
    Binds K (PySem.W.fnX "__init__" "LoopError.__init__" (defArgs sInit) (defBody sInit) (defScope sInit) [("__class__", cc)] (.ref TI) kV doc pm an (.ref c) ct) ["self", "why"] [] := fun s us X hl => match us, hl with
  | [_, _], _ => PySem.W.binds_K X rfl lT rfl rfl rfl
theorem tabs0 {H : Hp} {B1 B2 : Addr} {q1 q2 : Str} (h1 : H B1 = some (.tbl #[])) (h2 : H B2 = some (.tbl #[])) : LamX.Tabs [(B1, q1), (B2, q2)] H := fun p hp => by
  have nil : ∀ {B : Addr} {q : Str}, H B = some (.tbl #[]) → LamX.TabS H B q := fun h => ⟨#[], h, True.intro, fun pos cv z => by cases z⟩
  rcases List.mem_cons.mp hp with z | z
  · rw [z]
    exact nil h1
  · rcases List.mem_cons.mp z with z | z
    · rw [z]
      exact nil h2
    · cases z
theorem all_mk {l : PySem.W.OpenLaw} {w : World} {K : PySem.W.Frag} {h : Heap} {mg : Str → Option Value} {fa f1 f2 f3 f4 f5 f6 f7 f8 f9 f10 f11 f12 f13 f14 f15 f16 f17 f18 f19 f20 f21 f22 f23 f24 f25 f26 f27 f28 f29 : Addr} (X : K.In h) (G : h.Ns mainGlobals mg) (hfa : mg "law" = some (.ref fa)) (own : ∀ y ∈ (["_law_right", "_law_bound_right"] : List Str), ∀ f, mg y = some (.ref f) → LamX.OwnTab K f h)
    {od1 an1 od2 an2 od3 an3 od4 an4 od5 an5 od6 an6 od7 an7 od8 an8 od9 an9 od10 an10 od11 an11 od12 an12 od13 an13 od14 an14 od15 an15 od16 an16 od17 an17 od18 an18 od19 an19 od20 an20 od21 an21 od22 an22 od23 an23 od24 an24 od25 an25 od26 an26 od27 an27 od28 an28 od29 an29 : Option Addr} {sl1 sl2 sl3 sl4 sl5 sl6 sl7 sl8 sl9 sl10 sl11 sl12 sl13 sl14 sl15 sl16 sl17 sl18 sl19 sl20 sl21 sl22 sl23 sl24 sl25 sl26 sl27 sl28 sl29 : Array (Option Value)} {oc1 kV1 dc1 pm1 ct1 oc2 kV2 dc2 pm2 ct2 oc3 kV3 dc3 pm3 ct3 oc4 kV4 dc4 pm4 ct4 oc5 kV5 dc5 pm5 ct5 oc6 kV6 dc6 pm6 ct6 oc7 kV7 dc7 pm7 ct7 oc8 kV8 dc8 pm8 ct8 oc9 kV9 dc9 pm9 ct9 oc10 kV10 dc10 pm10 ct10 oc11 kV11 dc11 pm11 ct11 oc12 kV12 dc12 pm12 ct12 oc13 kV13 dc13 pm13 ct13 oc14 kV14 dc14 pm14 ct14 oc15 kV15 dc15 pm15 ct15 oc16 kV16 dc16 pm16 ct16 oc17 kV17 dc17 pm17 ct17 oc18 kV18 dc18 pm18 ct18 oc19 kV19 dc19 pm19 ct19 oc20 kV20 dc20 pm20 ct20 oc21 kV21 dc21 pm21 ct21 oc22 kV22 dc22 pm22 ct22 oc23 kV23 dc23 pm23 ct23 oc24 kV24 dc24 pm24 ct24 oc25 kV25 dc25 pm25 ct25 oc26 kV26 dc26 pm26 ct26 oc27 kV27 dc27 pm27 ct27 oc28 kV28 dc28 pm28 ct28 oc29 kV29 dc29 pm29 ct29 cd1 cd2 cd3 cd4 cd5 cd6 cd7 cd8 cd9 cd10 cd11 cd12 cd13 cd14 cd15 cd16 cd17 cd18 cd19 cd20 cd21 cd22 cd23 cd24 cd25 cd26 cd29 : Value} {tkMOST : Tok}
    {CB CL CP CR CS CT fI cI ccI cR BR cB BB : Addr} {nm q : Str} {N : Addr} {bs bm : List Value} {sn : List Str} {sub : List Value} {ab : Bool} {col : Option Bool} {dd : Option Addr} {m0 m1 m2 m3 m5 : Option Value}
    {TI : Addr} {tkT : Tok} {nT : Nat} {ocT : Value} {odT : Option Addr} {slT : Array (Option Value)} {ocI kVI dcI pmI ctI clI cclI : Value} {odI anI cldI cddI : Option Addr} {slI cslI ccsI : Array (Option Value)} {vsI : Array Value} {fileI : Str} {tfI : Tok} {cdL : ClassData} {ddR ddB : Option Addr} {vsR vsB : Array Value} {slR slB : Array (Option Value)}
    (a1 : PySem.W.nsIn K mainGlobals "rise" = some (some (.ref f1)))
    (l1 : K.lookup f1 = some ⟨oc1, od1, .func (PySem.W.fnOf "rise" "rise" (defArgs sRise) (defBody sRise) (defScope sRise) .none kV1 dc1 pm1 an1 cd1 ct1), sl1⟩)
    (c1 : PySem.W.codeIn K cd1 "rise" = true)
    (k1 : PySem.W.keepIn K (.ref f1) = true)
    (a2 : PySem.W.nsIn K mainGlobals "sink" = some (some (.ref f2)))
    (l2 : K.lookup f2 = some ⟨oc2, od2, .func (PySem.W.fnOf "sink" "sink" (defArgs sSink) (defBody sSink) (defScope sSink) .none kV2 dc2 pm2 an2 cd2 ct2), sl2⟩)
    (c2 : PySem.W.codeIn K cd2 "sink" = true)
    (k2 : PySem.W.keepIn K (.ref f2) = true)
    (a3 : PySem.W.nsIn K mainGlobals "push_by" = some (some (.ref f3)))
    (l3 : K.lookup f3 = some ⟨oc3, od3, .func (PySem.W.fnOf "push_by" "push_by" (defArgs sPushBy) (defBody sPushBy) (defScope sPushBy) .none kV3 dc3 pm3 an3 cd3 ct3), sl3⟩)
    (c3 : PySem.W.codeIn K cd3 "push_by" = true)
    (k3 : PySem.W.keepIn K (.ref f3) = true)
    (a4 : PySem.W.nsIn K mainGlobals "pop_by" = some (some (.ref f4)))
    (l4 : K.lookup f4 = some ⟨oc4, od4, .func (PySem.W.fnOf "pop_by" "pop_by" (defArgs sPopBy) (defBody sPopBy) (defScope sPopBy) .none kV4 dc4 pm4 an4 cd4 ct4), sl4⟩)
    (c4 : PySem.W.codeIn K cd4 "pop_by" = true)
    (k4 : PySem.W.keepIn K (.ref f4) = true)
    (a5 : PySem.W.nsIn K mainGlobals "heapify_by" = some (some (.ref f5)))
    (l5 : K.lookup f5 = some ⟨oc5, od5, .func (PySem.W.fnOf "heapify_by" "heapify_by" (defArgs sHeapifyBy) (defBody sHeapifyBy) (defScope sHeapifyBy) .none kV5 dc5 pm5 an5 cd5 ct5), sl5⟩)
    (c5 : PySem.W.codeIn K cd5 "heapify_by" = true)
    (k5 : PySem.W.keepIn K (.ref f5) = true)
    (a6 : PySem.W.nsIn K mainGlobals "is_whole" = some (some (.ref f6)))
    (l6 : K.lookup f6 = some ⟨oc6, od6, .func (PySem.W.fnOf "is_whole" "is_whole" (defArgs sIsWhole) (defBody sIsWhole) (defScope sIsWhole) .none kV6 dc6 pm6 an6 cd6 ct6), sl6⟩)
    (c6 : PySem.W.codeIn K cd6 "is_whole" = true)
    (k6 : PySem.W.keepIn K (.ref f6) = true)
    (a7 : PySem.W.nsIn K mainGlobals "is_entry" = some (some (.ref f7)))
    (l7 : K.lookup f7 = some ⟨oc7, od7, .func (PySem.W.fnOf "is_entry" "is_entry" (defArgs sIsEntry) (defBody sIsEntry) (defScope sIsEntry) .none kV7 dc7 pm7 an7 cd7 ct7), sl7⟩)
    (c7 : PySem.W.codeIn K cd7 "is_entry" = true)
    (k7 : PySem.W.keepIn K (.ref f7) = true)
    (a8 : PySem.W.nsIn K mainGlobals "check_rows" = some (some (.ref f8)))
    (l8 : K.lookup f8 = some ⟨oc8, od8, .func (PySem.W.fnOf "check_rows" "check_rows" (defArgs sCheckRows) (defBody sCheckRows) (defScope sCheckRows) .none kV8 dc8 pm8 an8 cd8 ct8), sl8⟩)
    (c8 : PySem.W.codeIn K cd8 "check_rows" = true)
    (k8 : PySem.W.keepIn K (.ref f8) = true)
    (a9 : PySem.W.nsIn K mainGlobals "is_sooner" = some (some (.ref f9)))
    (l9 : K.lookup f9 = some ⟨oc9, od9, .func (PySem.W.fnOf "is_sooner" "is_sooner" (defArgs sIsSooner) (defBody sIsSooner) (defScope sIsSooner) .none kV9 dc9 pm9 an9 cd9 ct9), sl9⟩)
    (c9 : PySem.W.codeIn K cd9 "is_sooner" = true)
    (k9 : PySem.W.keepIn K (.ref f9) = true)
    (a10 : PySem.W.nsIn K mainGlobals "is_heap" = some (some (.ref f10)))
    (l10 : K.lookup f10 = some ⟨oc10, od10, .func (PySem.W.fnOf "is_heap" "is_heap" (defArgs sIsHeap) (defBody sIsHeap) (defScope sIsHeap) .none kV10 dc10 pm10 an10 cd10 ct10), sl10⟩)
    (c10 : PySem.W.codeIn K cd10 "is_heap" = true)
    (k10 : PySem.W.keepIn K (.ref f10) = true)
    (a11 : PySem.W.nsIn K mainGlobals "pushed" = some (some (.ref f11)))
    (l11 : K.lookup f11 = some ⟨oc11, od11, .func (PySem.W.fnOf "pushed" "pushed" (defArgs sPushed) (defBody sPushed) (defScope sPushed) .none kV11 dc11 pm11 an11 cd11 ct11), sl11⟩)
    (c11 : PySem.W.codeIn K cd11 "pushed" = true)
    (k11 : PySem.W.keepIn K (.ref f11) = true)
    (a12 : PySem.W.nsIn K mainGlobals "popped" = some (some (.ref f12)))
    (l12 : K.lookup f12 = some ⟨oc12, od12, .func (PySem.W.fnOf "popped" "popped" (defArgs sPopped) (defBody sPopped) (defScope sPopped) .none kV12 dc12 pm12 an12 cd12 ct12), sl12⟩)
    (c12 : PySem.W.codeIn K cd12 "popped" = true)
    (k12 : PySem.W.keepIn K (.ref f12) = true)
    (a13 : PySem.W.nsIn K mainGlobals "heaped" = some (some (.ref f13)))
    (l13 : K.lookup f13 = some ⟨oc13, od13, .func (PySem.W.fnOf "heaped" "heaped" (defArgs sHeaped) (defBody sHeaped) (defScope sHeaped) .none kV13 dc13 pm13 an13 cd13 ct13), sl13⟩)
    (c13 : PySem.W.codeIn K cd13 "heaped" = true)
    (k13 : PySem.W.keepIn K (.ref f13) = true)
    (a14 : PySem.W.nsIn K mainGlobals "_law_well" = some (some (.ref f14)))
    (l14 : K.lookup f14 = some ⟨oc14, od14, .func (PySem.W.fnOf "_law_well" "_law_well" (defArgs sLwWell) (defBody sLwWell) (defScope sLwWell) .none kV14 dc14 pm14 an14 cd14 ct14), sl14⟩)
    (c14 : PySem.W.codeIn K cd14 "_law_well" = true)
    (k14 : PySem.W.keepIn K (.ref f14) = true)
    (a15 : PySem.W.nsIn K mainGlobals "_law_draw" = some (some (.ref f15)))
    (l15 : K.lookup f15 = some ⟨oc15, od15, .func (PySem.W.fnOf "_law_draw" "_law_draw" (defArgs sLwDraw) (defBody sLwDraw) (defScope sLwDraw) .none kV15 dc15 pm15 an15 cd15 ct15), sl15⟩)
    (c15 : PySem.W.codeIn K cd15 "_law_draw" = true)
    (k15 : PySem.W.keepIn K (.ref f15) = true)
    (a16 : PySem.W.nsIn K mainGlobals "_law_pick" = some (some (.ref f16)))
    (l16 : K.lookup f16 = some ⟨oc16, od16, .func (PySem.W.fnOf "_law_pick" "_law_pick" (defArgs sLwPick) (defBody sLwPick) (defScope sLwPick) .none kV16 dc16 pm16 an16 cd16 ct16), sl16⟩)
    (c16 : PySem.W.codeIn K cd16 "_law_pick" = true)
    (k16 : PySem.W.keepIn K (.ref f16) = true)
    (a17 : PySem.W.nsIn K mainGlobals "_law_up" = some (some (.ref f17)))
    (l17 : K.lookup f17 = some ⟨oc17, od17, .func (PySem.W.fnOf "_law_up" "_law_up" (defArgs sLwUp) (defBody sLwUp) (defScope sLwUp) .none kV17 dc17 pm17 an17 cd17 ct17), sl17⟩)
    (c17 : PySem.W.codeIn K cd17 "_law_up" = true)
    (k17 : PySem.W.keepIn K (.ref f17) = true)
    (a18 : PySem.W.nsIn K mainGlobals "_law_down" = some (some (.ref f18)))
    (l18 : K.lookup f18 = some ⟨oc18, od18, .func (PySem.W.fnOf "_law_down" "_law_down" (defArgs sLwDown) (defBody sLwDown) (defScope sLwDown) .none kV18 dc18 pm18 an18 cd18 ct18), sl18⟩)
    (c18 : PySem.W.codeIn K cd18 "_law_down" = true)
    (k18 : PySem.W.keepIn K (.ref f18) = true)
    (a19 : PySem.W.nsIn K mainGlobals "_law_push" = some (some (.ref f19)))
    (l19 : K.lookup f19 = some ⟨oc19, od19, .func (PySem.W.fnOf "_law_push" "_law_push" (defArgs sLwPush) (defBody sLwPush) (defScope sLwPush) .none kV19 dc19 pm19 an19 cd19 ct19), sl19⟩)
    (c19 : PySem.W.codeIn K cd19 "_law_push" = true)
    (k19 : PySem.W.keepIn K (.ref f19) = true)
    (a20 : PySem.W.nsIn K mainGlobals "_law_pop" = some (some (.ref f20)))
    (l20 : K.lookup f20 = some ⟨oc20, od20, .func (PySem.W.fnOf "_law_pop" "_law_pop" (defArgs sLwPop) (defBody sLwPop) (defScope sLwPop) .none kV20 dc20 pm20 an20 cd20 ct20), sl20⟩)
    (c20 : PySem.W.codeIn K cd20 "_law_pop" = true)
    (k20 : PySem.W.keepIn K (.ref f20) = true)
    (a21 : PySem.W.nsIn K mainGlobals "_law_made" = some (some (.ref f21)))
    (l21 : K.lookup f21 = some ⟨oc21, od21, .func (PySem.W.fnOf "_law_made" "_law_made" (defArgs sLwMade) (defBody sLwMade) (defScope sLwMade) .none kV21 dc21 pm21 an21 cd21 ct21), sl21⟩)
    (c21 : PySem.W.codeIn K cd21 "_law_made" = true)
    (k21 : PySem.W.keepIn K (.ref f21) = true)
    (a22 : PySem.W.nsIn K mainGlobals "_law_time" = some (some (.ref f22)))
    (l22 : K.lookup f22 = some ⟨oc22, od22, .func (PySem.W.fnOf "_law_time" "_law_time" (defArgs sLwTime) (defBody sLwTime) (defScope sLwTime) .none kV22 dc22 pm22 an22 cd22 ct22), sl22⟩)
    (c22 : PySem.W.codeIn K cd22 "_law_time" = true)
    (k22 : PySem.W.keepIn K (.ref f22) = true)
    (a23 : PySem.W.nsIn K mainGlobals "_law_rows" = some (some (.ref f23)))
    (l23 : K.lookup f23 = some ⟨oc23, od23, .func (PySem.W.fnOf "_law_rows" "_law_rows" (defArgs sLwRows) (defBody sLwRows) (defScope sLwRows) .none kV23 dc23 pm23 an23 cd23 ct23), sl23⟩)
    (c23 : PySem.W.codeIn K cd23 "_law_rows" = true)
    (k23 : PySem.W.keepIn K (.ref f23) = true)
    (a24 : PySem.W.nsIn K mainGlobals "_law_is_heap" = some (some (.ref f24)))
    (l24 : K.lookup f24 = some ⟨oc24, od24, .func (PySem.W.fnOf "_law_is_heap" "_law_is_heap" (defArgs sLwIsHeap) (defBody sLwIsHeap) (defScope sLwIsHeap) .none kV24 dc24 pm24 an24 cd24 ct24), sl24⟩)
    (c24 : PySem.W.codeIn K cd24 "_law_is_heap" = true)
    (k24 : PySem.W.keepIn K (.ref f24) = true)
    (a25 : PySem.W.nsIn K mainGlobals "_law_told" = some (some (.ref f25)))
    (l25 : K.lookup f25 = some ⟨oc25, od25, .func (PySem.W.fnOf "_law_told" "_law_told" (defArgs sLwTold) (defBody sLwTold) (defScope sLwTold) .none kV25 dc25 pm25 an25 cd25 ct25), sl25⟩)
    (c25 : PySem.W.codeIn K cd25 "_law_told" = true)
    (k25 : PySem.W.keepIn K (.ref f25) = true)
    (a26 : PySem.W.nsIn K mainGlobals "_law_odd" = some (some (.ref f26)))
    (l26 : K.lookup f26 = some ⟨oc26, od26, .func (PySem.W.fnOf "_law_odd" "_law_odd" (defArgs sLwOdd) (defBody sLwOdd) (defScope sLwOdd) .none kV26 dc26 pm26 an26 cd26 ct26), sl26⟩)
    (c26 : PySem.W.codeIn K cd26 "_law_odd" = true)
    (k26 : PySem.W.keepIn K (.ref f26) = true)
    (a27 : PySem.W.nsIn K mainGlobals "_law_right" = some (some (.ref f27)))
    (l27 : K.lookup f27 = some ⟨oc27, od27, .func (PySem.W.fnOf "_law_right" "_law_right" (defArgs sLwRight) (defBody sLwRight) (defScope sLwRight) .none kV27 dc27 pm27 an27 (.ref cR) ct27), sl27⟩)
    (c27 : PySem.W.codeIn K (.ref cR) "_law_right" = true)
    (k27 : PySem.W.keepIn K (.ref f27) = true)
    (a28 : PySem.W.nsIn K mainGlobals "_law_bound_right" = some (some (.ref f28)))
    (l28 : K.lookup f28 = some ⟨oc28, od28, .func (PySem.W.fnOf "_law_bound_right" "_law_bound_right" (defArgs sLwBoundRight) (defBody sLwBoundRight) (defScope sLwBoundRight) .none kV28 dc28 pm28 an28 (.ref cB) ct28), sl28⟩)
    (c28 : PySem.W.codeIn K (.ref cB) "_law_bound_right" = true)
    (k28 : PySem.W.keepIn K (.ref f28) = true)
    (a29 : PySem.W.nsIn K mainGlobals "law" = some (some (.ref f29)))
    (l29 : K.lookup f29 = some ⟨oc29, od29, .func (PySem.W.fnOf "law" "law" (defArgs sLaw) (defBody sLaw) (defScope sLaw) .none kV29 dc29 pm29 an29 cd29 ct29), sl29⟩)
    (c29 : PySem.W.codeIn K cd29 "law" = true)
    (k29 : PySem.W.keepIn K (.ref f29) = true)
    (mMOST : PySem.W.nsIn K mainGlobals "MOST" = some (some (.int 5000 tkMOST)))
    (z_len : PySem.W.nsIn K mainGlobals "len" = some none)
    (z_range : PySem.W.nsIn K mainGlobals "range" = some none)
    (z_isinstance : PySem.W.nsIn K mainGlobals "isinstance" = some none)
    (z_int : PySem.W.nsIn K mainGlobals "int" = some none)
    (z_bool : PySem.W.nsIn K mainGlobals "bool" = some none)
    (z_tuple : PySem.W.nsIn K mainGlobals "tuple" = some none)
    (z_list : PySem.W.nsIn K mainGlobals "list" = some none)
    (z_all : PySem.W.nsIn K mainGlobals "all" = some none)
    (z_any : PySem.W.nsIn K mainGlobals "any" = some none)
    (z_super : PySem.W.nsIn K mainGlobals "super" = some none)
    (xCB : PySem.W.nsIn K mainGlobals "BadValue" = some (some (.ref CB)))
    (xCL : PySem.W.nsIn K mainGlobals "LoopError" = some (some (.ref CL)))
    (xCP : PySem.W.nsIn K mainGlobals "BadProgram" = some (some (.ref CP)))
    (xCR : PySem.W.nsIn K mainGlobals "Raised" = some (some (.ref CR)))
    (xCS : PySem.W.nsIn K mainGlobals "Stuck" = some (some (.ref CS)))
    (xCT : PySem.W.nsIn K mainGlobals "TooLong" = some (some (.ref CT)))
    (lCB : K.lookup CB = some (excClassObj nm q CB N bs bm true sn sub ab col dd m0 m1 m2 m3 m5 "ValueError.__new__"))
    (rCB : PySem.HandSPX.refsVE bm = true)
    (e1 : PySem.W.findIn K (.ref CB) "__setattr__" = some (some (.builtin "object.__setattr__")))
    (e2 : PySem.W.subIn K (.ref CB) (.type "BaseException") = some true)
    (e3 : PySem.W.typeIn K (.ref CB) = some (.type "type"))
    (e4 : PySem.W.keepIn K (.ref CB) = true)
    (e5 : PySem.W.mroIn K CB (.ref CL) = some true)
    (e7 : PySem.W.subIn K (.ref CB) (.type "ValueError") = some true)
    (e6 : PySem.W.ks_superIn K CB CL "__init__" = some (some (.builtin "ValueError.__init__")))
    (e8 : PySem.W.findIn K (.ref CB) "why" = some none)
    (e9 : PySem.W.findIn K (.ref CB) "__init__" = some (some (.ref fI)))
    (e10 : PySem.W.typeIn K (.ref fI) = some (.type "function"))
    (lI : K.lookup fI = some ⟨ocI, odI, .func (PySem.W.fnX "__init__" "LoopError.__init__" (defArgs sInit) (defBody sInit) (defScope sInit) [("__class__", ccI)] (.ref TI) kVI dcI pmI anI (.ref cI) ctI), slI⟩)
    (lT : K.lookup TI = some ⟨ocT, odT, .seq #[.str "" tkT] nT, slT⟩)
    (cIn : PySem.W.codeIn K (.ref cI) "LoopError.__init__" = true)
    (lcI : K.lookup cI = some ⟨cclI, cddI, .fields vsI, ccsI⟩)
    (v2I : vsI[2]? = some (.str fileI tfI))
    (flI : ((l.prog.main.file : Str) == fileI) = true)
    (lccI : K.lookup ccI = some ⟨clI, cldI, .cell (some (.ref CL)), cslI⟩)
    (clL : PySem.W.clsIn K CL = some cdL)
    (topS_ : (l.prog.main.scope.names.lookup ("super" : Str)).isSome = false)
    (any_ : PySem.W.nsIn K cStatics "thirdparty.any" = some none)
    (g1 : PySem.W.findIn K (.ref CB) "__getattribute__" = some (some (.builtin "BaseException.__getattribute__")))
    (g2 : PySem.W.findIn K (.ref CB) "__getattr__" = some none)
    (g3 : PySem.W.hasDictIn K CB = true)
    (g4 : PySem.W.findIn K (.ref CB) "__class__" = some (some (.builtin "object.__class__")))
    (g5 : PySem.W.specialIn K (.builtin "object.__class__") "__get__" = some (some (.builtin "getset_descriptor.__get__")))
    (g6 : PySem.W.takesIn K (.builtin "object.__class__") = some true)
    (g7 : PySem.W.mroIn K CB (.type "object") = some true)
    (exm : PySem.W.exmOne K (.ref CB) (.ref CB) = some true)
    (kit : PySem.W.kitAny K (.ref CB) [.ref CP, .ref CR, .ref CS, .ref CT] = some false)
    (lcR : K.lookup cR = some ⟨.type "code", ddR, .fields vsR, slR⟩)
    (hdR : ∃ file tf flags tg inF text tt, vsR[11]? = some (.ref BR) ∧ vsR.getD 11 .none = .ref BR ∧ vsR.getD 18 .none = .str file tf ∧ vsR.getD 7 .none = .int flags tg ∧ vsR.getD 9 .none = .bool inF ∧ vsR.getD 10 .none = .int text tt ∧ cR ≠ BR)
    (nR : K.lookup BR = none)
    (lcB : K.lookup cB = some ⟨.type "code", ddB, .fields vsB, slB⟩)
    (hdB : ∃ file tf flags tg inF text tt, vsB[11]? = some (.ref BB) ∧ vsB.getD 11 .none = .ref BB ∧ vsB.getD 18 .none = .str file tf ∧ vsB.getD 7 .none = .int flags tg ∧ vsB.getD 9 .none = .bool inF ∧ vsB.getD 10 .none = .int text tt ∧ cB ≠ BB)
    (nB : K.lookup BB = none)
    (neB : BR ≠ BB) :
    LamX.LawAtS l w K CX0 13 63 "_law_script" mg fa h := by
  have e := hfa.symm.trans (PySem.W.mg_of X G a29)
  cases e
  have F1 := fun_mk (st := sRise) l1 c1 k1
  have F2 := fun_mk (st := sSink) l2 c2 k2
  have F3 := fun_mk (st := sPushBy) l3 c3 k3
  have F4 := fun_mk (st := sPopBy) l4 c4 k4
  have F5 := fun_mk (st := sHeapifyBy) l5 c5 k5
  have F6 := fun_mk (st := sIsWhole) l6 c6 k6
  have F7 := fun_mk (st := sIsEntry) l7 c7 k7
  have F8 := fun_mk (st := sCheckRows) l8 c8 k8
  have F9 := fun_mk (st := sIsSooner) l9 c9 k9
  have F10 := fun_mk (st := sIsHeap) l10 c10 k10
  have F11 := fun_mk (st := sPushed) l11 c11 k11
  have F12 := fun_mk (st := sPopped) l12 c12 k12
  have F13 := fun_mk (st := sHeaped) l13 c13 k13
  have F14 := fun_mk (st := sLwWell) l14 c14 k14
  have F15 := fun_mk (st := sLwDraw) l15 c15 k15
  have F16 := fun_mk (st := sLwPick) l16 c16 k16
  have F17 := fun_mk (st := sLwUp) l17 c17 k17
  have F18 := fun_mk (st := sLwDown) l18 c18 k18
  have F19 := fun_mk (st := sLwPush) l19 c19 k19
  have F20 := fun_mk (st := sLwPop) l20 c20 k20
  have F21 := fun_mk (st := sLwMade) l21 c21 k21
  have F22 := fun_mk (st := sLwTime) l22 c22 k22
  have F23 := fun_mk (st := sLwRows) l23 c23 k23
  have F24 := fun_mk (st := sLwIsHeap) l24 c24 k24
  have F25 := fun_mk (st := sLwTold) l25 c25 k25
  have F26 := fun_mk (st := sLwOdd) l26 c26 k26
  have F27 := fun_mk (st := sLwRight) l27 c27 k27
  have F28 := fun_mk (st := sLwBoundRight) l28 c28 k28
  have F29 := fun_mk (st := sLaw) l29 c29 k29
  have B1 := F1.binds (ps := ["heap", "top", "place", "less"]) fun _ _ _ _ _ _ us hl => match us, hl with | [_, _, _, _], _ => rfl
  have B2 := F2.binds (ps := ["heap", "top", "less"]) fun _ _ _ _ _ _ us hl => match us, hl with | [_, _, _], _ => rfl
  have B3 := F3.binds (ps := ["heap", "item", "less"]) fun _ _ _ _ _ _ us hl => match us, hl with | [_, _, _], _ => rfl
  have B4 := F4.binds (ps := ["heap", "less"]) fun _ _ _ _ _ _ us hl => match us, hl with | [_, _], _ => rfl
  have B5 := F5.binds (ps := ["heap", "less"]) fun _ _ _ _ _ _ us hl => match us, hl with | [_, _], _ => rfl
  have B6 := F6.binds (ps := ["thing"]) fun _ _ _ _ _ _ us hl => match us, hl with | [_], _ => rfl
  have B7 := F7.binds (ps := ["thing"]) fun _ _ _ _ _ _ us hl => match us, hl with | [_], _ => rfl
  have B8 := F8.binds (ps := ["rows"]) fun _ _ _ _ _ _ us hl => match us, hl with | [_], _ => rfl
  have B9 := F9.binds (ps := ["one", "other"]) fun _ _ _ _ _ _ us hl => match us, hl with | [_, _], _ => rfl
  have B10 := F10.binds (ps := ["rows"]) fun _ _ _ _ _ _ us hl => match us, hl with | [_], _ => rfl
  have B11 := F11.binds (ps := ["rows", "entry"]) fun _ _ _ _ _ _ us hl => match us, hl with | [_, _], _ => rfl
  have B12 := F12.binds (ps := ["rows"]) fun _ _ _ _ _ _ us hl => match us, hl with | [_], _ => rfl
  have B13 := F13.binds (ps := ["rows"]) fun _ _ _ _ _ _ us hl => match us, hl with | [_], _ => rfl
  have B14 := F14.binds (ps := ["_law_cell"]) fun _ _ _ _ _ _ us hl => match us, hl with | [_], _ => rfl
  have B15 := F15.binds (ps := ["_law_well_here", "_law_many"]) fun _ _ _ _ _ _ us hl => match us, hl with | [_, _], _ => rfl
  have B16 := F16.binds (ps := ["_law_well_here", "_law_some"]) fun _ _ _ _ _ _ us hl => match us, hl with | [_, _], _ => rfl
  have B17 := F17.binds (ps := ["_law_lot", "_law_top", "_law_place"]) fun _ _ _ _ _ _ us hl => match us, hl with | [_, _, _], _ => rfl
  have B18 := F18.binds (ps := ["_law_lot", "_law_top"]) fun _ _ _ _ _ _ us hl => match us, hl with | [_, _], _ => rfl
  have B19 := F19.binds (ps := ["_law_lot", "_law_pair"]) fun _ _ _ _ _ _ us hl => match us, hl with | [_, _], _ => rfl
  have B20 := F20.binds (ps := ["_law_lot"]) fun _ _ _ _ _ _ us hl => match us, hl with | [_], _ => rfl
  have B21 := F21.binds (ps := ["_law_lot"]) fun _ _ _ _ _ _ us hl => match us, hl with | [_], _ => rfl
  have B22 := F22.binds (ps := ["_law_well_here", "_law_way"]) fun _ _ _ _ _ _ us hl => match us, hl with | [_, _], _ => rfl
  have B23 := F23.binds (ps := ["_law_well_here", "_law_most"]) fun _ _ _ _ _ _ us hl => match us, hl with | [_, _], _ => rfl
  have B24 := F24.binds (ps := ["_law_lot"]) fun _ _ _ _ _ _ us hl => match us, hl with | [_], _ => rfl
  have B25 := F25.binds (ps := ["_law_ask"]) fun _ _ _ _ _ _ us hl => match us, hl with | [_], _ => rfl
  have B26 := F26.binds (ps := ["_law_well_here", "_law_lot"]) fun _ _ _ _ _ _ us hl => match us, hl with | [_, _], _ => rfl
  have B27 := F27.binds (ps := ["_law_well_here"]) fun _ _ _ _ _ _ us hl => match us, hl with | [_], _ => rfl
  have B28 := F28.binds (ps := ["_law_well_here"]) fun _ _ _ _ _ _ us hl => match us, hl with | [_], _ => rfl
  have B29 := F29.binds (ps := ["_law_script"]) fun _ _ _ _ _ _ us hl => match us, hl with | [_], _ => rfl
  let T : Txt K mg := { aRise := f1, dRise := _, fRise := F1, gRise := PySem.W.mg_of X G a1, bRise := B1, aSink := f2, dSink := _, fSink := F2, gSink := PySem.W.mg_of X G a2, bSink := B2, aPushBy := f3, dPushBy := _, fPushBy := F3, gPushBy := PySem.W.mg_of X G a3, bPushBy := B3, aPopBy := f4, dPopBy := _, fPopBy := F4, gPopBy := PySem.W.mg_of X G a4, bPopBy := B4, aHeapifyBy := f5, dHeapifyBy := _, fHeapifyBy := F5, gHeapifyBy := PySem.W.mg_of X G a5, bHeapifyBy := B5, aIsWhole := f6, dIsWhole := _, fIsWhole := F6, gIsWhole := PySem.W.mg_of X G a6, bIsWhole := B6, aIsEntry := f7, dIsEntry := _, fIsEntry := F7, gIsEntry := PySem.W.mg_of X G a7, bIsEntry := B7, aCheckRows := f8, dCheckRows := _, fCheckRows := F8, gCheckRows := PySem.W.mg_of X G a8, bCheckRows := B8, aIsSooner := f9, dIsSooner := _, fIsSooner := F9, gIsSooner := PySem.W.mg_of X G a9, bIsSooner := B9, aIsHeap := f10, dIsHeap := _, fIsHeap := F10, gIsHeap := PySem.W.mg_of X G a10, bIsHeap := B10, aPushed := f11, dPushed := _, fPushed := F11, gPushed := PySem.W.mg_of X G a11, bPushed := B11, aPopped := f12, dPopped := _, fPopped := F12, gPopped := PySem.W.mg_of X G a12, bPopped := B12, aHeaped := f13, dHeaped := _, fHeaped := F13, gHeaped := PySem.W.mg_of X G a13, bHeaped := B13, aLwWell := f14, dLwWell := _, fLwWell := F14, gLwWell := PySem.W.mg_of X G a14, bLwWell := B14, aLwDraw := f15, dLwDraw := _, fLwDraw := F15, gLwDraw := PySem.W.mg_of X G a15, bLwDraw := B15, aLwPick := f16, dLwPick := _, fLwPick := F16, gLwPick := PySem.W.mg_of X G a16, bLwPick := B16, aLwUp := f17, dLwUp := _, fLwUp := F17, gLwUp := PySem.W.mg_of X G a17, bLwUp := B17, aLwDown := f18, dLwDown := _, fLwDown := F18, gLwDown := PySem.W.mg_of X G a18, bLwDown := B18, aLwPush := f19, dLwPush := _, fLwPush := F19, gLwPush := PySem.W.mg_of X G a19, bLwPush := B19, aLwPop := f20, dLwPop := _, fLwPop := F20, gLwPop := PySem.W.mg_of X G a20, bLwPop := B20, aLwMade := f21, dLwMade := _, fLwMade := F21, gLwMade := PySem.W.mg_of X G a21, bLwMade := B21, aLwTime := f22, dLwTime := _, fLwTime := F22, gLwTime := PySem.W.mg_of X G a22, bLwTime := B22, aLwRows := f23, dLwRows := _, fLwRows := F23, gLwRows := PySem.W.mg_of X G a23, bLwRows := B23, aLwIsHeap := f24, dLwIsHeap := _, fLwIsHeap := F24, gLwIsHeap := PySem.W.mg_of X G a24, bLwIsHeap := B24, aLwTold := f25, dLwTold := _, fLwTold := F25, gLwTold := PySem.W.mg_of X G a25, bLwTold := B25, aLwOdd := f26, dLwOdd := _, fLwOdd := F26, gLwOdd := PySem.W.mg_of X G a26, bLwOdd := B26, aLwRight := f27, dLwRight := _, fLwRight := F27, gLwRight := PySem.W.mg_of X G a27, bLwRight := B27, aLwBoundRight := f28, dLwBoundRight := _, fLwBoundRight := F28, gLwBoundRight := PySem.W.mg_of X G a28, bLwBoundRight := B28, aLaw := fa, dLaw := _, fLaw := F29, gLaw := PySem.W.mg_of X G a29, bLaw := B29, n_len := PySem.W.mg_none_of X G z_len, n_range := PySem.W.mg_none_of X G z_range, n_isinstance := PySem.W.mg_none_of X G z_isinstance, n_int := PySem.W.mg_none_of X G z_int, n_bool := PySem.W.mg_none_of X G z_bool, n_tuple := PySem.W.mg_none_of X G z_tuple, n_list := PySem.W.mg_none_of X G z_list, n_all := PySem.W.mg_none_of X G z_all, n_any := PySem.W.mg_none_of X G z_any, gMOST := ⟨_, PySem.W.mg_of X G mMOST⟩ }
  have oex : OexC K CB := ⟨⟨_, _, _, _, _, _, _, _, _, _, _, _, _, _, _, lCB, rCB⟩, e1, e2, e3, e4⟩
  have sup : SupI.SupTxt l.prog K fI cI ccI CL := ⟨⟨_, _, _, _, _, lI, rfl, rfl⟩, ⟨_, _, _, _, _, _, lcI, v2I, flI⟩, ⟨_, _, _, lccI⟩, ⟨_, clL⟩, topS_, any_⟩
  let Y : ETxt l.prog K mg := { CB := CB, CL := CL, fI := fI, fdI := _, gCB := PySem.W.mg_of X G xCB, gCL := PySem.W.mg_of X G xCL, sub := ⟨oex, e5, e6, e7⟩, why := e8, iC := e9, tI := e10, ini := fun w base => init_ok lI cIn sup (PySem.W.mg_none_of X G z_super), bI := init_binds lT }
  let M : MTxt K mg Y.CB := { CP := CP, CR := CR, CS := CS, CT := CT, gP := PySem.W.mg_of X G xCP, gR := PySem.W.mg_of X G xCR, gS := PySem.W.mg_of X G xCS, gT := PySem.W.mg_of X G xCT, exc := ⟨g1, g2, e2, g3, g4, g5, g6, g7⟩, exm := exm, kit := kit }
  obtain ⟨file1, tf1, flags1, tg1, inF1, text1, tt1, r1, r2, r3, r4, r5, r6, r7⟩ := hdR
  obtain ⟨file2, tf2, flags2, tg2, inF2, text2, tt2, b1, b2, b3, b4, b5, b6, b7⟩ := hdB
  have tabR : h.get? BR = some { cls := .none, data := .fields #[] } := own "_law_right" List.mem_cons_self _ (PySem.W.mg_of X G a27) cR BR _ _ _ _ _ _ l27 rfl rfl lcR r1
  have tabB : h.get? BB = some { cls := .none, data := .fields #[] } := own "_law_bound_right" (List.mem_cons_of_mem _ List.mem_cons_self) _ (PySem.W.mg_of X G a28) cB BB _ _ _ _ _ _ l28 rfl rfl lcB b1
  have two : ∀ {Pp : Addr × Addr → Prop}, Pp (cR, BR) → Pp (cB, BB) → ∀ p ∈ [(cR, BR), (cB, BB)], Pp p := fun {Pp} x y p hp => by
    rcases List.mem_cons.mp hp with z | z
    · rw [z]
      exact x
    · rcases List.mem_cons.mp z with z | z
      · rw [z]
        exact y
      · cases z
  refine ⟨T.dLaw, [(cR, BR), (cB, BB)], spLaw [(BR, "_law_right.<locals>." ++ "<lambda>"), (BB, "_law_bound_right.<locals>." ++ "<lambda>")] K, two tabR tabB, two nR nB,
    two ⟨_, vsR, file1, tf1, flags1, tg1, inF1, text1, tt1, X _ _ lcR, rfl, rfl, r1, r2, r3, r4, r5, r6, r7⟩ ⟨_, vsB, file2, tf2, flags2, tg2, inF2, text2, tt2, X _ _ lcB, rfl, rfl, b1, b2, b3, b4, b5, b6, b7⟩,
    fun s v => .of_eq rfl, fun H a ns hl _ hH hS => ⟨a, ns, rfl, hS, hl, tabs0 (hH (cR, BR) List.mem_cons_self) (hH (cB, BB) (List.mem_cons_of_mem _ List.mem_cons_self)), fun _ => rfl⟩, fun base _ _ hTab => ?_⟩
  let Z : LTxt K mg base T := { cR := cR, BR := BR, cB := cB, BB := BB, hR := rfl, hB := rfl, tR := hTab (cR, BR) List.mem_cons_self, tB := hTab (cB, BB) (List.mem_cons_of_mem _ List.mem_cons_self), ne := neB }
  exact ok_law T Y M Z
end K13
open PySem PySem.W PyProof.Rows
set_option maxHeartbeats 0 in
theorem PySem.Challenge.cw_loopyard_k13_heaps_of_timers_holds : PySem.Challenge.rw_loopyard_k13_heaps_of_timers.Holds := by
  w_on; o_law; k_head; (case hw => w_witness2)
  k_fill
  refine LamT.walk_ofTabs (l := PySem.Challenge.rw_loopyard_k13_heaps_of_timers) (n := 63) (k := 13) (x := "_law_script") (CX := fun _ => L2.CX0) (names := ["_law_right", "_law_bound_right"]) rfl (by decide) rfl ⟨rfl, by decide, by decide⟩ (by decide +kernel) (fun w h Y => PySem.W.km_in_of Y) ?F (fun _ _ _ _ _ h => h)
  case F =>
    intro w mg fa h _ KX G hmg own
    refine' K13.all_mk KX G hmg own ?a1 ?l1 ?c1 ?k1 ?a2 ?l2 ?c2 ?k2 ?a3 ?l3 ?c3 ?k3 ?a4 ?l4 ?c4 ?k4 ?a5 ?l5 ?c5 ?k5 ?a6 ?l6 ?c6 ?k6 ?a7 ?l7 ?c7 ?k7 ?a8 ?l8 ?c8 ?k8 ?a9 ?l9 ?c9 ?k9 ?a10 ?l10 ?c10 ?k10 ?a11 ?l11 ?c11 ?k11 ?a12 ?l12 ?c12 ?k12 ?a13 ?l13 ?c13 ?k13 ?a14 ?l14 ?c14 ?k14 ?a15 ?l15 ?c15 ?k15 ?a16 ?l16 ?c16 ?k16 ?a17 ?l17 ?c17 ?k17 ?a18 ?l18 ?c18 ?k18 ?a19 ?l19 ?c19 ?k19 ?a20 ?l20 ?c20 ?k20 ?a21 ?l21 ?c21 ?k21 ?a22 ?l22 ?c22 ?k22 ?a23 ?l23 ?c23 ?k23 ?a24 ?l24 ?c24 ?k24 ?a25 ?l25 ?c25 ?k25 ?a26 ?l26 ?c26 ?k26 ?a27 ?l27 ?c27 ?k27 ?a28 ?l28 ?c28 ?k28 ?a29 ?l29 ?c29 ?k29 ?mMOST ?z_len ?z_range ?z_isinstance ?z_int ?z_bool ?z_tuple ?z_list ?z_all ?z_any ?z_super ?xCB ?xCL ?xCP ?xCR ?xCS ?xCT ?lCB ?rCB ?e1 ?e2 ?e3 ?e4 ?e5 ?e7 ?e6 ?e8 ?e9 ?e10 ?lI ?lT ?cIn ?lcI ?v2I ?flI ?lccI ?clL ?topS_ ?any_ ?g1 ?g2 ?g3 ?g4 ?g5 ?g6 ?g7 ?exm ?kit ?lcR ?hdR ?nR ?lcB ?hdB ?nB ?neB
    (case a1 => k_is)
    (case l1 => k_is)
    (case c1 => k_is)
    (case k1 => k_is)
    (case a2 => k_is)
    (case l2 => k_is)
    (case c2 => k_is)
    (case k2 => k_is)
    (case a3 => k_is)
    (case l3 => k_is)
    (case c3 => k_is)
    (case k3 => k_is)
    (case a4 => k_is)
    (case l4 => k_is)
    (case c4 => k_is)
    (case k4 => k_is)
    (case a5 => k_is)
    (case l5 => k_is)
    (case c5 => k_is)
    (case k5 => k_is)
    (case a6 => k_is)
    (case l6 => k_is)
    (case c6 => k_is)
    (case k6 => k_is)
    (case a7 => k_is)
    (case l7 => k_is)
    (case c7 => k_is)
    (case k7 => k_is)
    (case a8 => k_is)
    (case l8 => k_is)
    (case c8 => k_is)
    (case k8 => k_is)
    (case a9 => k_is)
    (case l9 => k_is)
    (case c9 => k_is)
    (case k9 => k_is)
    (case a10 => k_is)
    (case l10 => k_is)
    (case c10 => k_is)
    (case k10 => k_is)
    (case a11 => k_is)
    (case l11 => k_is)
    (case c11 => k_is)
    (case k11 => k_is)
    (case a12 => k_is)
    (case l12 => k_is)
    (case c12 => k_is)
    (case k12 => k_is)
    (case a13 => k_is)
    (case l13 => k_is)
    (case c13 => k_is)
    (case k13 => k_is)
    (case a14 => k_is)
    (case l14 => k_is)
    (case c14 => k_is)
    (case k14 => k_is)
    (case a15 => k_is)
    (case l15 => k_is)
    (case c15 => k_is)
    (case k15 => k_is)
    (case a16 => k_is)
    (case l16 => k_is)
    (case c16 => k_is)
    (case k16 => k_is)
    (case a17 => k_is)
    (case l17 => k_is)
    (case c17 => k_is)
    (case k17 => k_is)
    (case a18 => k_is)
    (case l18 => k_is)
    (case c18 => k_is)
    (case k18 => k_is)
    (case a19 => k_is)
    (case l19 => k_is)
    (case c19 => k_is)
    (case k19 => k_is)
    (case a20 => k_is)
    (case l20 => k_is)
    (case c20 => k_is)
    (case k20 => k_is)
    (case a21 => k_is)
    (case l21 => k_is)
    (case c21 => k_is)
    (case k21 => k_is)
    (case a22 => k_is)
    (case l22 => k_is)
    (case c22 => k_is)
    (case k22 => k_is)
    (case a23 => k_is)
    (case l23 => k_is)
    (case c23 => k_is)
    (case k23 => k_is)
    (case a24 => k_is)
    (case l24 => k_is)
    (case c24 => k_is)
    (case k24 => k_is)
    (case a25 => k_is)
    (case l25 => k_is)
    (case c25 => k_is)
    (case k25 => k_is)
    (case a26 => k_is)
    (case l26 => k_is)
    (case c26 => k_is)
    (case k26 => k_is)
    (case a27 => k_is)
    (case l27 => k_is)
    (case c27 => k_is)
    (case k27 => k_is)
    (case a28 => k_is)
    (case l28 => k_is)
    (case c28 => k_is)
    (case k28 => k_is)
    (case a29 => k_is)
    (case l29 => k_is)
    (case c29 => k_is)
    (case k29 => k_is)
    (case mMOST => k_is)
    (case z_len => k_is)
    (case z_range => k_is)
    (case z_isinstance => k_is)
    (case z_int => k_is)
    (case z_bool => k_is)
    (case z_tuple => k_is)
    (case z_list => k_is)
    (case z_all => k_is)
    (case z_any => k_is)
    (case z_super => k_is)
    (case xCB => k_is)
    (case xCL => k_is)
    (case xCP => k_is)
    (case xCR => k_is)
    (case xCS => k_is)
    (case xCT => k_is)
    (case lCB => k_is)
    (case rCB => decide +kernel)
    (case e1 => k_is)
    (case e2 => k_is)
    (case e3 => k_is)
    (case e4 => k_is)
    (case e5 => k_is)
    (case e7 => k_is)
    (case e6 => kernel_rfl)
    (case e8 => k_is)
    (case e9 => k_is)
    (case e10 => k_is)
    (case lI => k_is)
    (case lT => k_is)
    (case cIn => k_is)
    (case lcI => k_is)
    (case v2I => exact rfl)
    (case flI => decide +kernel)
    (case lccI => k_is)
    (case clL => k_is)
    (case topS_ => decide +kernel)
    (case any_ => k_is)
    (case g1 => k_is)
    (case g2 => k_is)
    (case g3 => k_is)
    (case g4 => k_is)
    (case g5 => k_is)
    (case g6 => k_is)
    (case g7 => k_is)
    (case exm => kernel_rfl)
    (case kit => kernel_rfl)
    (case lcR => k_is)
    (case hdR => exact ⟨_, _, _, _, _, _, _, rfl, rfl, rfl, rfl, rfl, rfl, by decide⟩)
    (case nR => kernel_rfl)
    (case lcB => k_is)
    (case hdB => exact ⟨_, _, _, _, _, _, _, rfl, rfl, rfl, rfl, rfl, rfl, by decide⟩)
    (case nB => kernel_rfl)
    (case neB => decide)
