import PyProof.Rows.All
import Wide.All
import OpenK.AllK
import Wide.FinOn
import PySem.Challenge.RW_loopyard_k14_whole_heaps_drained
import HandS.ForMost
import HandS.CallLocal
import HandS.IsInst
import HandS.Wide
import HandS.SortRule
import HandS.SortInts
import HandS.Deep
import HandS.Evl
import HandS.Style
set_option Elab.async false
set_option linter.all false
set_option maxRecDepth 100000
namespace K14
open PySem PySem.Spec PyProof.Rows L2
def topS (i : Nat) : Stmt := PySem.Challenge.pw_loopyard_k14_whole_heaps_drained.main.body.getD i (.Pass ⟨0, 0, 0, 0⟩)
abbrev sRise : Stmt := topS 4
theorem scRise : FnScope ["heap", "top", "place", "less", "above"] ["heap", "top", "place", "less"] (defScope sRise) := ⟨rfl, rfl, rfl, by decide +kernel, rfl, by decide +kernel, by decide +kernel⟩
abbrev sSink : Stmt := topS 5
theorem scSink : FnScope ["heap", "top", "less", "place", "below"] ["heap", "top", "less"] (defScope sSink) := ⟨rfl, rfl, rfl, by decide +kernel, rfl, by decide +kernel, by decide +kernel⟩
abbrev sPushBy : Stmt := topS 6
theorem scPushBy : FnScope ["heap", "item", "less"] ["heap", "item", "less"] (defScope sPushBy) := ⟨rfl, rfl, rfl, by decide +kernel, rfl, by decide +kernel, by decide +kernel⟩
abbrev sPopBy : Stmt := topS 7
theorem scPopBy : FnScope ["heap", "less", "last", "first"] ["heap", "less"] (defScope sPopBy) := ⟨rfl, rfl, rfl, by decide +kernel, rfl, by decide +kernel, by decide +kernel⟩
abbrev sHeapifyBy : Stmt := topS 8
theorem scHeapifyBy : FnScope ["heap", "less", "place"] ["heap", "less"] (defScope sHeapifyBy) := ⟨rfl, rfl, rfl, by decide +kernel, rfl, by decide +kernel, by decide +kernel⟩
abbrev sIsWhole : Stmt := topS 11
theorem scIsWhole : FnScope ["thing"] ["thing"] (defScope sIsWhole) := ⟨rfl, rfl, rfl, by decide +kernel, rfl, by decide +kernel, by decide +kernel⟩
abbrev sIsEntry : Stmt := topS 12
theorem scIsEntry : FnScope ["thing"] ["thing"] (defScope sIsEntry) := ⟨rfl, rfl, rfl, by decide +kernel, rfl, by decide +kernel, by decide +kernel⟩
abbrev sCheckRows : Stmt := topS 13
theorem scCheckRows : FnScope ["rows", "one"] ["rows"] (defScope sCheckRows) := ⟨rfl, rfl, rfl, by decide +kernel, rfl, by decide +kernel, by decide +kernel⟩
abbrev sIsSooner : Stmt := topS 14
theorem scIsSooner : FnScope ["one", "other"] ["one", "other"] (defScope sIsSooner) := ⟨rfl, rfl, rfl, by decide +kernel, rfl, by decide +kernel, by decide +kernel⟩
abbrev sIsHeap : Stmt := topS 15
theorem scIsHeap : FnScope ["rows", "place"] ["rows"] (defScope sIsHeap) := ⟨rfl, rfl, rfl, by decide +kernel, rfl, by decide +kernel, by decide +kernel⟩
abbrev sPushed : Stmt := topS 16
theorem scPushed : FnScope ["rows", "entry", "found"] ["rows", "entry"] (defScope sPushed) := ⟨rfl, rfl, rfl, by decide +kernel, rfl, by decide +kernel, by decide +kernel⟩
abbrev sPopped : Stmt := topS 17
theorem scPopped : FnScope ["rows", "found", "first"] ["rows"] (defScope sPopped) := ⟨rfl, rfl, rfl, by decide +kernel, rfl, by decide +kernel, by decide +kernel⟩
abbrev sHeaped : Stmt := topS 18
theorem scHeaped : FnScope ["rows", "found"] ["rows"] (defScope sHeaped) := ⟨rfl, rfl, rfl, by decide +kernel, rfl, by decide +kernel, by decide +kernel⟩
abbrev sRipe : Stmt := topS 19
theorem scRipe : FnScope ["rows", "now", "out", "left"] ["rows", "now"] (defScope sRipe) := ⟨rfl, rfl, rfl, by decide +kernel, rfl, by decide +kernel, by decide +kernel⟩
abbrev sLwWell : Stmt := topS 21
theorem scLwWell : FnScope ["_law_cell"] ["_law_cell"] (defScope sLwWell) := ⟨rfl, rfl, rfl, by decide +kernel, rfl, by decide +kernel, by decide +kernel⟩
abbrev sLwDraw : Stmt := topS 22
theorem scLwDraw : FnScope ["_law_well_here", "_law_many", "_law_found", "_law_salt", "_law_mixed"] ["_law_well_here", "_law_many"] (defScope sLwDraw) := ⟨rfl, rfl, rfl, by decide +kernel, rfl, by decide +kernel, by decide +kernel⟩
abbrev sLwPick : Stmt := topS 23
theorem scLwPick : FnScope ["_law_well_here", "_law_some"] ["_law_well_here", "_law_some"] (defScope sLwPick) := ⟨rfl, rfl, rfl, by decide +kernel, rfl, by decide +kernel, by decide +kernel⟩
abbrev sLwOut : Stmt := topS 24
theorem scLwOut : FnScope ["_law_rows", "_law_found", "_law_turn", "_law_first"] ["_law_rows"] (defScope sLwOut) := ⟨rfl, rfl, rfl, by decide +kernel, rfl, by decide +kernel, by decide +kernel⟩
abbrev sLwDeed : Stmt := topS 25
theorem scLwDeed : FnScope ["_law_well_here", "_law_rows", "_law_entry", "_law_kept", "_law_way", "_law_first", "_law_left", "_law_now", "_law_out_here", "_law_times", "_law_one"] ["_law_well_here", "_law_rows", "_law_entry", "_law_kept"] (defScope sLwDeed) := ⟨rfl, rfl, rfl, by decide +kernel, rfl, by decide +kernel, by decide +kernel⟩
abbrev sLwMovedRight : Stmt := topS 26
theorem scLwMovedRight : FnScope ["_law_rows", "_law_by", "_law_more", "_law_moved", "_law_mine", "_law_one"] ["_law_rows", "_law_by", "_law_more"] (defScope sLwMovedRight) := ⟨rfl, rfl, rfl, by decide +kernel, rfl, by decide +kernel, by decide +kernel⟩
abbrev sLaw : Stmt := topS 27
theorem scLaw : FnScope ["_law_script", "_law_cell", "_law_well_here", "_law_top", "_law_rows", "_law_kept", "_law_gone", "_law_turn", "_law_entry", "_law_found", "_law_out_here", "_law_singly", "_law_times", "_law_one"] ["_law_script"] (defScope sLaw) := ⟨rfl, rfl, rfl, by decide +kernel, rfl, by decide +kernel, by decide +kernel⟩
structure Txt (K : PySem.W.Frag) (mg : Str → Option Value) where
  aRise : Addr
  dRise : FuncData
  fRise : Fun K "rise" "rise" sRise aRise dRise
  gRise : mg "rise" = some (.ref aRise)
  bRise : Binds K dRise ["heap", "top", "place", "less"] []
  aSink : Addr
  dSink : FuncData
  fSink : Fun K "sink" "sink" sSink aSink dSink
  gSink : mg "sink" = some (.ref aSink)
  bSink : Binds K dSink ["heap", "top", "less"] []
  aPushBy : Addr
  dPushBy : FuncData
  fPushBy : Fun K "push_by" "push_by" sPushBy aPushBy dPushBy
  gPushBy : mg "push_by" = some (.ref aPushBy)
  bPushBy : Binds K dPushBy ["heap", "item", "less"] []
  aPopBy : Addr
  dPopBy : FuncData
  fPopBy : Fun K "pop_by" "pop_by" sPopBy aPopBy dPopBy
  gPopBy : mg "pop_by" = some (.ref aPopBy)
  bPopBy : Binds K dPopBy ["heap", "less"] []
  aHeapifyBy : Addr
  dHeapifyBy : FuncData
  fHeapifyBy : Fun K "heapify_by" "heapify_by" sHeapifyBy aHeapifyBy dHeapifyBy
  gHeapifyBy : mg "heapify_by" = some (.ref aHeapifyBy)
  bHeapifyBy : Binds K dHeapifyBy ["heap", "less"] []
  aIsWhole : Addr
  dIsWhole : FuncData
  fIsWhole : Fun K "is_whole" "is_whole" sIsWhole aIsWhole dIsWhole
  gIsWhole : mg "is_whole" = some (.ref aIsWhole)
  bIsWhole : Binds K dIsWhole ["thing"] []
  aIsEntry : Addr
  dIsEntry : FuncData
  fIsEntry : Fun K "is_entry" "is_entry" sIsEntry aIsEntry dIsEntry
  gIsEntry : mg "is_entry" = some (.ref aIsEntry)
  bIsEntry : Binds K dIsEntry ["thing"] []
  aCheckRows : Addr
  dCheckRows : FuncData
  fCheckRows : Fun K "check_rows" "check_rows" sCheckRows aCheckRows dCheckRows
  gCheckRows : mg "check_rows" = some (.ref aCheckRows)
  bCheckRows : Binds K dCheckRows ["rows"] []
  aIsSooner : Addr
  dIsSooner : FuncData
  fIsSooner : Fun K "is_sooner" "is_sooner" sIsSooner aIsSooner dIsSooner
  gIsSooner : mg "is_sooner" = some (.ref aIsSooner)
  bIsSooner : Binds K dIsSooner ["one", "other"] []
  aIsHeap : Addr
  dIsHeap : FuncData
  fIsHeap : Fun K "is_heap" "is_heap" sIsHeap aIsHeap dIsHeap
  gIsHeap : mg "is_heap" = some (.ref aIsHeap)
  bIsHeap : Binds K dIsHeap ["rows"] []
  aPushed : Addr
  dPushed : FuncData
  fPushed : Fun K "pushed" "pushed" sPushed aPushed dPushed
  gPushed : mg "pushed" = some (.ref aPushed)
  bPushed : Binds K dPushed ["rows", "entry"] []
  aPopped : Addr
  dPopped : FuncData
  fPopped : Fun K "popped" "popped" sPopped aPopped dPopped
  gPopped : mg "popped" = some (.ref aPopped)
  bPopped : Binds K dPopped ["rows"] []
  aHeaped : Addr
  dHeaped : FuncData
  fHeaped : Fun K "heaped" "heaped" sHeaped aHeaped dHeaped
  gHeaped : mg "heaped" = some (.ref aHeaped)
  bHeaped : Binds K dHeaped ["rows"] []
  aRipe : Addr
  dRipe : FuncData
  fRipe : Fun K "ripe" "ripe" sRipe aRipe dRipe
  gRipe : mg "ripe" = some (.ref aRipe)
  bRipe : Binds K dRipe ["rows", "now"] []
  aLwWell : Addr
  dLwWell : FuncData
  fLwWell : Fun K "_law_well" "_law_well" sLwWell aLwWell dLwWell
  gLwWell : mg "_law_well" = some (.ref aLwWell)
  bLwWell : Binds K dLwWell ["_law_cell"] []
  aLwDraw : Addr
  dLwDraw : FuncData
  fLwDraw : Fun K "_law_draw" "_law_draw" sLwDraw aLwDraw dLwDraw
  gLwDraw : mg "_law_draw" = some (.ref aLwDraw)
  bLwDraw : Binds K dLwDraw ["_law_well_here", "_law_many"] []
  aLwPick : Addr
  dLwPick : FuncData
  fLwPick : Fun K "_law_pick" "_law_pick" sLwPick aLwPick dLwPick
  gLwPick : mg "_law_pick" = some (.ref aLwPick)
  bLwPick : Binds K dLwPick ["_law_well_here", "_law_some"] []
  aLwOut : Addr
  dLwOut : FuncData
  fLwOut : Fun K "_law_out" "_law_out" sLwOut aLwOut dLwOut
  gLwOut : mg "_law_out" = some (.ref aLwOut)
  bLwOut : Binds K dLwOut ["_law_rows"] []
  aLwDeed : Addr
  dLwDeed : FuncData
  fLwDeed : Fun K "_law_deed" "_law_deed" sLwDeed aLwDeed dLwDeed
  gLwDeed : mg "_law_deed" = some (.ref aLwDeed)
  bLwDeed : Binds K dLwDeed ["_law_well_here", "_law_rows", "_law_entry", "_law_kept"] []
  aLwMovedRight : Addr
  dLwMovedRight : FuncData
  fLwMovedRight : Fun K "_law_moved_right" "_law_moved_right" sLwMovedRight aLwMovedRight dLwMovedRight
  gLwMovedRight : mg "_law_moved_right" = some (.ref aLwMovedRight)
  bLwMovedRight : Binds K dLwMovedRight ["_law_rows", "_law_by", "_law_more"] []
  aLaw : Addr
  dLaw : FuncData
  fLaw : Fun K "law" "law" sLaw aLaw dLaw
  gLaw : mg "law" = some (.ref aLaw)
  bLaw : Binds K dLaw ["_law_script"] []
  n_len : mg "len" = none
  n_range : mg "range" = none
  n_isinstance : mg "isinstance" = none
  n_int : mg "int" = none
  n_bool : mg "bool" = none
  n_tuple : mg "tuple" = none
  n_list : mg "list" = none
  n_all : mg "all" = none
  n_any : mg "any" = none
  n_sorted : mg "sorted" = none
  n_min : mg "min" = none
  gMOST : ∃ t, mg "MOST" = some (.int 5000 t)
end K14

namespace Hm
variable {α : Type}

/-! ### places changed -/
def swp (l : List α) (i j : Nat) : List α := match l[i]?, l[j]? with
  | some a, some b => (l.set i b).set j a
  | _, _ => l

theorem swp_len (l : List α) (i j : Nat) : (swp l i j).length = l.length := by
  unfold swp
  split
  · rw [List.length_set, List.length_set]
  · rfl

theorem swp_eq {l : List α} {i j : Nat} {a b : α} (hi : l[i]? = some a) (hj : l[j]? = some b) : swp l i j = (l.set i b).set j a := by
  unfold swp
  rw [hi, hj]

theorem swp_get {l : List α} {i j : Nat} (hi : i < l.length) (hj : j < l.length) (k : Nat) :
    (swp l i j)[k]? = if k = j then l[i]? else if k = i then l[j]? else l[k]? := by
  have ei : l[i]? = some l[i] := List.getElem?_eq_getElem hi
  have ej : l[j]? = some l[j] := List.getElem?_eq_getElem hj
  rw [swp_eq ei ej]
  by_cases h1 : k = j
  · subst h1
    rw [if_pos rfl, List.getElem?_set_self (by rw [List.length_set]; exact hj), ei]
  · rw [if_neg h1, List.getElem?_set_ne (fun h => h1 h.symm)]
    by_cases h2 : k = i
    · subst h2
      rw [if_pos rfl, List.getElem?_set_self hi, ej]
    · rw [if_neg h2, List.getElem?_set_ne (fun h => h2 h.symm)]

theorem set_perm : ∀ {l : List α} {i : Nat} {a : α} (b : α), l[i]? = some a → List.Perm (a :: l.set i b) (b :: l)
  | [], i, a, b, h => by simp at h
  | x :: r, 0, a, b, h => by
    have e : x = a := Option.some.inj h
    subst e
    exact List.Perm.swap _ _ _
  | x :: r, i + 1, a, b, h => by
    have ih := set_perm (l := r) (i := i) b h
    show List.Perm (a :: x :: r.set i b) (b :: x :: r)
    exact (List.Perm.swap x a _).trans ((List.Perm.cons x ih).trans (List.Perm.swap b x _))

theorem swp_perm (l : List α) (i j : Nat) : List.Perm (swp l i j) l := by
  unfold swp
  split
  · rename_i a b hi hj
    by_cases e : i = j
    · subst e
      have e2 : a = b := Option.some.inj (hi.symm.trans hj)
      subst e2
      have l1 : i < l.length := (List.getElem?_eq_some_iff.mp hi).1
      have : (l.set i a).set i a = l := by
        rw [List.set_set]
        apply List.ext_getElem?
        intro k
        by_cases h : k = i
        · subst h
          rw [List.getElem?_set_self l1, hi]
        · rw [List.getElem?_set_ne (fun z => h z.symm)]
      rw [this]
    · have h1 := set_perm (l := l) (i := i) b hi
      have hj2 : (l.set i b)[j]? = some b := by
        rw [List.getElem?_set_ne e]
        exact hj
      have h2 := set_perm (l := l.set i b) (i := j) a hj2
      exact (h2.trans h1).cons_inv
  · exact List.Perm.refl _

theorem swp_map {β : Type} (g : α → β) (l : List α) (i j : Nat) : swp (l.map g) i j = (swp l i j).map g := by
  unfold swp
  rw [List.getElem?_map, List.getElem?_map]
  cases hi : l[i]? with
  | none => rfl
  | some a =>
    cases hj : l[j]? with
    | none => rfl
    | some b =>
      show ((l.map g).set i (g b)).set j (g a) = ((l.set i b).set j a).map g
      rw [List.map_set, List.map_set]

/-! ### the moves -/
/-- whether the item at i has a lesser key than the one at j -/
def lss (f : α → Int) (l : List α) (i j : Nat) : Bool := match l[i]?, l[j]? with
  | some a, some b => decide (f a < f b)
  | _, _ => false

def rise (f : α → Int) (l : List α) (top place : Nat) : List α :=
  if h : top < place then
    if lss f l place ((place - 1) / 2) then rise f (swp l place ((place - 1) / 2)) top ((place - 1) / 2) else l
  else l
termination_by place
decreasing_by omega

/-- the lesser child of a place that has one -/
def child (f : α → Int) (l : List α) (place : Nat) : Nat :=
  if 2 * place + 1 + 1 < l.length ∧ lss f l (2 * place + 1) (2 * place + 1 + 1) = false then 2 * place + 1 + 1 else 2 * place + 1

theorem child_lo (f : α → Int) (l : List α) (p : Nat) : 2 * p + 1 ≤ child f l p := by
  unfold child
  split <;> omega
theorem child_hi (f : α → Int) (l : List α) (p : Nat) : child f l p ≤ 2 * p + 2 := by
  unfold child
  split <;> omega
theorem child_lt (f : α → Int) (l : List α) (p : Nat) (h : 2 * p + 1 < l.length) : child f l p < l.length := by
  unfold child
  split <;> omega

def down (f : α → Int) (l : List α) (place : Nat) : List α × Nat :=
  if h : 2 * place + 1 < l.length then down f (swp l place (child f l place)) (child f l place) else (l, place)
termination_by l.length - place
decreasing_by
  rw [swp_len]
  have := child_lo f l place
  have := child_lt f l place h
  omega

def sink (f : α → Int) (l : List α) (top : Nat) : List α := rise f (down f l top).1 top (down f l top).2
def push (f : α → Int) (l : List α) (x : α) : List α := rise f (l ++ [x]) 0 l.length
/-- what is left behind the first one is taken out -/
def popL (f : α → Int) (l : List α) : List α := match l.getLast? with
  | none => []
  | some z => if l.dropLast.isEmpty then [] else sink f (l.dropLast.set 0 z) 0
def heapTo (f : α → Int) : Nat → List α → List α
  | 0, l => l
  | k + 1, l => heapTo f k (sink f l k)
def heapify (f : α → Int) (l : List α) : List α := heapTo f (l.length / 2) l

/-! ### all that was there is there -/
theorem rise_perm (f : α → Int) (l : List α) (top place : Nat) : List.Perm (rise f l top place) l := by
  induction place using Nat.strongRecOn generalizing l with
  | _ place ih =>
    unfold rise
    split
    · split
      · exact (ih _ (by omega) _).trans (swp_perm _ _ _)
      · exact List.Perm.refl _
    · exact List.Perm.refl _
theorem rise_len (f : α → Int) (l : List α) (top place : Nat) : (rise f l top place).length = l.length := (rise_perm f l top place).length_eq
theorem down_perm (f : α → Int) (n : Nat) : ∀ (l : List α) (place : Nat), l.length - place = n → List.Perm (down f l place).1 l := by
  induction n using Nat.strongRecOn with
  | _ n ih =>
    intro l place e
    unfold down
    split
    · rename_i h
      have h1 := child_lo f l place
      have h2 := child_lt f l place h
      refine (ih _ ?_ _ _ rfl).trans (swp_perm _ _ _)
      rw [swp_len]
      omega
    · exact List.Perm.refl _
theorem down_len (f : α → Int) (l : List α) (place : Nat) : (down f l place).1.length = l.length := (down_perm f _ l place rfl).length_eq
theorem sink_perm (f : α → Int) (l : List α) (top : Nat) : List.Perm (sink f l top) l := (rise_perm f _ _ _).trans (down_perm f _ l top rfl)
theorem sink_len (f : α → Int) (l : List α) (top : Nat) : (sink f l top).length = l.length := (sink_perm f l top).length_eq
theorem push_perm (f : α → Int) (l : List α) (x : α) : List.Perm (push f l x) (x :: l) := (rise_perm f _ _ _).trans List.perm_append_comm
theorem push_len (f : α → Int) (l : List α) (x : α) : (push f l x).length = l.length + 1 := by
  unfold push
  rw [rise_len, List.length_append]
  rfl
theorem heapTo_perm (f : α → Int) : ∀ (k : Nat) (l : List α), List.Perm (heapTo f k l) l
  | 0, l => List.Perm.refl _
  | k + 1, l => (heapTo_perm f k _).trans (sink_perm f l k)
theorem heapify_perm (f : α → Int) (l : List α) : List.Perm (heapify f l) l := heapTo_perm f _ l

theorem last_perm {l : List α} {z x : α} (hz : l.getLast? = some z) (hx : l.dropLast[0]? = some x) : List.Perm (x :: l.dropLast.set 0 z) l := by
  have e : l = l.dropLast ++ [z] := by
    have hne : l ≠ [] := by
      intro h
      subst h
      simp at hz
    have := List.dropLast_concat_getLast hne
    rw [List.getLast?_eq_some_getLast hne] at hz
    rw [Option.some.inj hz] at this
    exact this.symm
  have h1 := set_perm (l := l.dropLast) (i := 0) z hx
  refine h1.trans ?_
  conv => rhs; rw [e]
  exact (List.perm_append_comm (l₁ := l.dropLast) (l₂ := [z])).symm
theorem pop_perm (f : α → Int) {l : List α} {x : α} (h : l[0]? = some x) : List.Perm (x :: popL f l) l := by
  have hne : l ≠ [] := by
    intro z
    subst z
    simp at h
  have hz : l.getLast? = some (l.getLast hne) := List.getLast?_eq_some_getLast hne
  unfold popL
  rw [hz]
  show List.Perm (x :: if l.dropLast.isEmpty then [] else sink f (l.dropLast.set 0 (l.getLast hne)) 0) l
  by_cases e : l.dropLast.isEmpty = true
  · rw [if_pos e]
    cases l with
    | nil => exact absurd rfl hne
    | cons y r =>
      have ey : y = x := Option.some.inj h
      subst ey
      cases r with
      | nil => exact List.Perm.refl _
      | cons z s => simp at e
  · rw [if_neg e]
    have hx : l.dropLast[0]? = some x := by
      cases l with
      | nil => exact absurd rfl hne
      | cons y r =>
        cases r with
        | nil => exact absurd rfl e
        | cons z s => exact h
    exact ((List.Perm.cons x (sink_perm f _ 0))).trans (last_perm hz hx)

/-! ### heaps -/
def ky (f : α → Int) (l : List α) (i : Nat) : Int := match l[i]? with
  | some a => f a
  | none => 0
theorem ky_of {f : α → Int} {l : List α} {i : Nat} {a : α} (h : l[i]? = some a) : ky f l i = f a := by
  unfold ky
  rw [h]
theorem ky_swp {f : α → Int} {l : List α} {i j : Nat} (hi : i < l.length) (hj : j < l.length) (k : Nat) :
    ky f (swp l i j) k = if k = j then ky f l i else if k = i then ky f l j else ky f l k := by
  unfold ky
  rw [swp_get hi hj k]
  by_cases h1 : k = j
  · rw [if_pos h1, if_pos h1]
  · rw [if_neg h1, if_neg h1]
    by_cases h2 : k = i
    · rw [if_pos h2, if_pos h2]
    · rw [if_neg h2, if_neg h2]
theorem lss_ky {f : α → Int} {l : List α} {i j : Nat} (hi : i < l.length) (hj : j < l.length) : lss f l i j = decide (ky f l i < ky f l j) := by
  have ei : l[i]? = some l[i] := List.getElem?_eq_getElem hi
  have ej : l[j]? = some l[j] := List.getElem?_eq_getElem hj
  unfold lss ky
  rw [ei, ej]

/-- no item from the children of top on is less than the one above it -/
def HeapFrom (f : α → Int) (l : List α) (top : Nat) : Prop := ∀ k, 1 ≤ k → k < l.length → top ≤ (k - 1) / 2 → ky f l ((k - 1) / 2) ≤ ky f l k
abbrev IsHeap (f : α → Int) (l : List α) : Prop := HeapFrom f l 0

inductive Desc (top : Nat) : Nat → Prop
  | refl : Desc top top
  | left {p : Nat} : Desc top p → Desc top (2 * p + 1)
  | right {p : Nat} : Desc top p → Desc top (2 * p + 2)
theorem Desc.le {top p : Nat} (h : Desc top p) : top ≤ p := by
  induction h with
  | refl => exact Nat.le_refl _
  | left _ ih => omega
  | right _ ih => omega
theorem Desc.up {top p : Nat} (h : Desc top p) (hp : top < p) : Desc top ((p - 1) / 2) := by
  cases h with
  | refl => omega
  | @left q h => rw [show (2 * q + 1 - 1) / 2 = q by omega]; exact h
  | @right q h => rw [show (2 * q + 2 - 1) / 2 = q by omega]; exact h
theorem Desc.zero : ∀ p : Nat, Desc 0 p := fun p => by
  induction p using Nat.strongRecOn with
  | _ p ih =>
    by_cases h : p = 0
    · subst h
      exact .refl
    · have i := ih ((p - 1) / 2) (by omega)
      by_cases e : p = 2 * ((p - 1) / 2) + 1
      · rw [e]
        exact .left i
      · rw [show p = 2 * ((p - 1) / 2) + 2 by omega]
        exact .right i
theorem Desc.child {f : α → Int} {l : List α} {top p : Nat} (h : Desc top p) : Desc top (child f l p) := by
  unfold Hm.child
  split
  · exact .right h
  · exact .left h

/-- the rows but for the way up from a place -/
structure Rising (f : α → Int) (l : List α) (top p : Nat) : Prop where
  ok : ∀ k, 1 ≤ k → k < l.length → top ≤ (k - 1) / 2 → k ≠ p → ky f l ((k - 1) / 2) ≤ ky f l k
  up : top < p → ∀ c, 1 ≤ c → c < l.length → (c - 1) / 2 = p → ky f l ((p - 1) / 2) ≤ ky f l c

theorem rise_heap (f : α → Int) (top : Nat) : ∀ (p : Nat) (l : List α), p < l.length → Desc top p → Rising f l top p → HeapFrom f (rise f l top p) top := by
  intro p
  induction p using Nat.strongRecOn with
  | _ p ih =>
    intro l hp hd R
    unfold rise
    by_cases h : top < p
    · rw [dif_pos h]
      have du := hd.up h
      have hq : (p - 1) / 2 < p := by omega
      have hql : (p - 1) / 2 < l.length := by omega
      have tq := du.le
      by_cases c : lss f l p ((p - 1) / 2) = true
      · rw [if_pos c]
        rw [lss_ky hp hql] at c
        have c' := of_decide_eq_true c
        refine ih _ hq _ (by rw [swp_len]; exact hql) du ⟨?_, ?_⟩
        · intro k k1 k2 k3 k4
          rw [swp_len] at k2
          rw [ky_swp hp hql, ky_swp hp hql]
          by_cases e1 : k = p
          · subst e1
            rw [if_pos rfl, if_neg (show k ≠ (k - 1) / 2 by omega), if_pos rfl]
            omega
          · rw [if_neg k4, if_neg e1]
            have o := R.ok k k1 k2 k3 e1
            by_cases e2 : (k - 1) / 2 = (p - 1) / 2
            · rw [if_pos e2]
              rw [e2] at o
              omega
            · rw [if_neg e2]
              by_cases e3 : (k - 1) / 2 = p
              · rw [if_pos e3]
                exact R.up h k k1 k2 e3
              · rw [if_neg e3]
                exact o
        · intro ht c1 h1 h2 h3
          rw [swp_len] at h2
          have tqq := (du.up ht).le
          have o := R.ok ((p - 1) / 2) (by omega) hql tqq (by omega)
          rw [ky_swp hp hql, ky_swp hp hql]
          rw [if_neg (show ((p - 1) / 2 - 1) / 2 ≠ (p - 1) / 2 by omega), if_neg (show ((p - 1) / 2 - 1) / 2 ≠ p by omega)]
          rw [if_neg (show c1 ≠ (p - 1) / 2 by omega)]
          by_cases e1 : c1 = p
          · rw [if_pos e1]
            exact o
          · rw [if_neg e1]
            have o2 := R.ok c1 h1 h2 (by omega) e1
            rw [h3] at o2
            omega
      · rw [if_neg c]
        rw [lss_ky hp hql] at c
        have c' : ¬ (ky f l p < ky f l ((p - 1) / 2)) := fun z => c (decide_eq_true z)
        intro k k1 k2 k3
        by_cases e : k = p
        · subst e
          omega
        · exact R.ok k k1 k2 k3 e
    · rw [dif_neg h]
      have e : p = top := by
        have := hd.le
        omega
      intro k k1 k2 k3
      exact R.ok k k1 k2 k3 (by omega)

/-- the rows but for the ways up from a place and down from it -/
structure Falling (f : α → Int) (l : List α) (top p : Nat) : Prop where
  ok : ∀ k, 1 ≤ k → k < l.length → top ≤ (k - 1) / 2 → k ≠ p → (k - 1) / 2 ≠ p → ky f l ((k - 1) / 2) ≤ ky f l k
  up : top < p → ∀ c, 1 ≤ c → c < l.length → (c - 1) / 2 = p → ky f l ((p - 1) / 2) ≤ ky f l c

theorem child_is (f : α → Int) (l : List α) (p : Nat) : child f l p = 2 * p + 1 ∨ child f l p = 2 * p + 2 := by
  unfold child
  split
  · exact .inr rfl
  · exact .inl rfl
theorem child_le {f : α → Int} {l : List α} {p : Nat} (h : 2 * p + 1 < l.length) : ∀ c, 1 ≤ c → c < l.length → (c - 1) / 2 = p → ky f l (child f l p) ≤ ky f l c := by
  intro c h1 h2 h3
  have hc : c = 2 * p + 1 ∨ c = 2 * p + 2 := by omega
  unfold child
  by_cases e : 2 * p + 1 + 1 < l.length
  · rw [lss_ky h e]
    by_cases d : ky f l (2 * p + 1) < ky f l (2 * p + 1 + 1)
    · rw [if_neg (fun z => by rw [decide_eq_true d] at z; exact Bool.noConfusion z.2)]
      rcases hc with rfl | rfl
      · exact Int.le_refl _
      · exact Int.le_of_lt d
    · rw [if_pos ⟨e, decide_eq_false d⟩]
      rcases hc with rfl | rfl
      · omega
      · exact Int.le_refl _
  · rw [if_neg (fun z => e z.1)]
    rcases hc with rfl | rfl
    · exact Int.le_refl _
    · omega

theorem down_rising (f : α → Int) (top : Nat) : ∀ (n : Nat) (l : List α) (p : Nat), l.length - p = n → p < l.length → Desc top p → Falling f l top p →
    (down f l p).2 < l.length ∧ Desc top (down f l p).2 ∧ Rising f (down f l p).1 top (down f l p).2 := by
  intro n
  induction n using Nat.strongRecOn with
  | _ n ih =>
    intro l p e hp hd F
    unfold down
    by_cases h : 2 * p + 1 < l.length
    · rw [dif_pos h]
      have c1 := child_lo f l p
      have c2 := child_lt f l p h
      have c3 := child_is f l p
      have cpar : (child f l p - 1) / 2 = p := by omega
      have r := ih (l.length - child f l p) (by omega) (swp l p (child f l p)) (child f l p) (by rw [swp_len]) (by rw [swp_len]; exact c2) hd.child ⟨?_, ?_⟩
      · rw [swp_len] at r
        exact r
      · intro k k1 k2 k3 k4 k5
        rw [swp_len] at k2
        rw [ky_swp hp c2, ky_swp hp c2]
        rw [if_neg k4, if_neg k5]
        by_cases e1 : (k - 1) / 2 = p
        · rw [if_pos e1, if_neg (show k ≠ p by omega)]
          exact child_le h k k1 k2 e1
        · rw [if_neg e1]
          by_cases e2 : k = p
          · rw [if_pos e2]
            subst e2
            have ht : top < k := by omega
            exact F.up ht (child f l k) (by omega) c2 cpar
          · rw [if_neg e2]
            exact F.ok k k1 k2 k3 e2 e1
      · intro ht c h1 h2 h3
        rw [swp_len] at h2
        rw [ky_swp hp c2, ky_swp hp c2]
        rw [cpar, if_neg (show p ≠ child f l p by omega), if_pos rfl, if_neg (show c ≠ child f l p by omega), if_neg (show c ≠ p by omega)]
        have := F.ok c h1 h2 (by have := hd.le; omega) (by omega) (by omega)
        rw [h3] at this
        exact this
    · rw [dif_neg h]
      refine ⟨hp, hd, ⟨fun k k1 k2 k3 k4 => ?_, fun ht c h1 h2 h3 => ?_⟩⟩
      · have k2' : k < l.length := k2
        exact F.ok k k1 k2 k3 k4 (by omega)
      · have h2' : c < l.length := h2
        omega

theorem sink_heap {f : α → Int} {l : List α} {top : Nat} (ht : top < l.length) (h : HeapFrom f l (top + 1)) : HeapFrom f (sink f l top) top := by
  obtain ⟨a, b, c⟩ := down_rising f top _ l top rfl ht .refl ⟨fun k k1 k2 k3 k4 k5 => h k k1 k2 (by omega), fun z => absurd z (Nat.lt_irrefl _)⟩
  exact rise_heap f top _ _ (by rw [down_len]; exact a) b c

theorem push_heap {f : α → Int} {l : List α} {x : α} (h : IsHeap f l) : IsHeap f (push f l x) := by
  have e : (l ++ [x]).length = l.length + 1 := by
    rw [List.length_append]
    rfl
  have kp : ∀ i, i < l.length → ky f (l ++ [x]) i = ky f l i := fun i hi => by
    unfold ky
    rw [List.getElem?_append_left hi]
  refine rise_heap f 0 _ _ (by omega) (Desc.zero _) ⟨fun k k1 k2 _ k4 => ?_, fun _ c h1 h2 h3 => ?_⟩
  · rw [kp k (by omega), kp _ (by omega)]
    exact h k k1 (by omega) (Nat.zero_le _)
  · omega

theorem heapTo_heap (f : α → Int) : ∀ (k : Nat) (l : List α), k ≤ l.length → HeapFrom f l k → IsHeap f (heapTo f k l)
  | 0, _, _, h => h
  | k + 1, l, hk, h => heapTo_heap f k _ (by rw [sink_len]; omega) (sink_heap (by omega) h)
theorem heapify_heap (f : α → Int) (l : List α) : IsHeap f (heapify f l) := by
  refine heapTo_heap f _ l (by omega) fun k k1 k2 k3 => ?_
  omega

theorem pop_heap {f : α → Int} {l : List α} (h : IsHeap f l) : IsHeap f (popL f l) := by
  unfold popL
  split
  · intro k _ k2
    simp at k2
  · rename_i z hz
    split
    · intro k _ k2
      simp at k2
    · rename_i ne
      have hl : 0 < l.dropLast.length := by
        cases e : l.dropLast with
        | nil => rw [e] at ne; exact absurd rfl ne
        | cons a b => simp
      refine sink_heap (by rw [List.length_set]; exact hl) fun k k1 k2 k3 => ?_
      rw [List.length_set] at k2
      have kp : ∀ i, 1 ≤ i → i < l.dropLast.length → ky f (l.dropLast.set 0 z) i = ky f l i := fun i h1 hi => by
        unfold ky
        rw [List.getElem?_set_ne (by omega), List.getElem?_dropLast, if_pos (by rw [List.length_dropLast] at hi; exact hi)]
      rw [kp k k1 k2, kp _ (by omega) (by omega)]
      rw [List.length_dropLast] at k2
      exact h k k1 (by omega) (Nat.zero_le _)

theorem heap_min {f : α → Int} {l : List α} (h : IsHeap f l) : ∀ k, k < l.length → ky f l 0 ≤ ky f l k := by
  intro k
  induction k using Nat.strongRecOn with
  | _ k ih =>
    intro hk
    by_cases e : k = 0
    · subst e
      exact Int.le_refl _
    · exact Int.le_trans (ih ((k - 1) / 2) (by omega) (by omega)) (h k (by omega) hk (Nat.zero_le _))
theorem heap_min_mem {f : α → Int} {l : List α} {x : α} (h : IsHeap f l) (hx : l[0]? = some x) : ∀ y ∈ l, f x ≤ f y := by
  intro y hy
  obtain ⟨i, hi, e⟩ := List.getElem_of_mem hy
  have := heap_min h i hi
  rw [ky_of hx, ky_of (List.getElem?_eq_getElem hi), e] at this
  exact this

/-! ### moves of rows whose keys go the same way -/
section
variable {β : Type} {f : α → Int} {h : β → Int} {g : α → β}
/-- two keys that are alike in their order -/
abbrev Alike (f : α → Int) (h : β → Int) (g : α → β) : Prop := ∀ a b, f a < f b ↔ h (g a) < h (g b)
theorem lss_map (m : Alike f h g) (l : List α) (i j : Nat) : lss h (l.map g) i j = lss f l i j := by
  unfold lss
  rw [List.getElem?_map, List.getElem?_map]
  cases l[i]? with
  | none => rfl
  | some a =>
    cases l[j]? with
    | none => rfl
    | some b =>
      show decide (h (g a) < h (g b)) = decide (f a < f b)
      by_cases e : f a < f b
      · rw [decide_eq_true e, decide_eq_true ((m a b).mp e)]
      · rw [decide_eq_false e, decide_eq_false (fun z => e ((m a b).mpr z))]
theorem rise_map (m : Alike f h g) (top : Nat) : ∀ (p : Nat) (l : List α), rise h (l.map g) top p = (rise f l top p).map g := by
  intro p
  induction p using Nat.strongRecOn with
  | _ p ih =>
    intro l
    unfold rise
    rw [lss_map m]
    split
    · split
      · rw [swp_map]
        exact ih _ (by omega) _
      · rfl
    · rfl
theorem child_map (m : Alike f h g) (l : List α) (p : Nat) : child h (l.map g) p = child f l p := by
  unfold child
  rw [lss_map m, List.length_map]
theorem down_map (m : Alike f h g) : ∀ (n : Nat) (l : List α) (p : Nat), l.length - p = n → down h (l.map g) p = ((down f l p).1.map g, (down f l p).2) := by
  intro n
  induction n using Nat.strongRecOn with
  | _ n ih =>
    intro l p e
    have e1 := down.eq_1 h (l.map g) p
    have e2 := down.eq_1 f l p
    by_cases c : 2 * p + 1 < l.length
    · rw [dif_pos (show 2 * p + 1 < (l.map g).length by rw [List.length_map]; exact c), child_map m, swp_map] at e1
      rw [dif_pos c] at e2
      rw [e1, e2]
      have h1 := child_lo f l p
      have h2 := child_lt f l p c
      exact ih (l.length - child f l p) (by omega) _ _ (by rw [swp_len])
    · rw [dif_neg (show ¬ 2 * p + 1 < (l.map g).length by rw [List.length_map]; exact c)] at e1
      rw [dif_neg c] at e2
      rw [e1, e2]
theorem sink_map (m : Alike f h g) (l : List α) (top : Nat) : sink h (l.map g) top = (sink f l top).map g := by
  unfold sink
  rw [down_map m _ l top rfl]
  exact rise_map m _ _ _
theorem push_map (m : Alike f h g) (l : List α) (x : α) : push h (l.map g) (g x) = (push f l x).map g := by
  unfold push
  rw [List.length_map, ← rise_map m, List.map_append]
  rfl
theorem pop_map (m : Alike f h g) (l : List α) : popL h (l.map g) = (popL f l).map g := by
  unfold popL
  rw [List.getLast?_map]
  cases l.getLast? with
  | none => rfl
  | some z =>
    show (if (l.map g).dropLast.isEmpty = true then [] else sink h ((l.map g).dropLast.set 0 (g z)) 0) = List.map g (if l.dropLast.isEmpty = true then [] else sink f (l.dropLast.set 0 z) 0)
    rw [← List.map_dropLast, List.isEmpty_map, ← List.map_set, sink_map m]
    split
    · rfl
    · rfl
theorem heapTo_map (m : Alike f h g) : ∀ (k : Nat) (l : List α), heapTo h k (l.map g) = (heapTo f k l).map g
  | 0, l => rfl
  | k + 1, l => by
    show heapTo h k (sink h (l.map g) k) = (heapTo f k (sink f l k)).map g
    rw [sink_map m, heapTo_map m k]
theorem heapify_map (m : Alike f h g) (l : List α) : heapify h (l.map g) = (heapify f l).map g := by
  unfold heapify
  rw [List.length_map, heapTo_map m]
end

/-! ### rows drained -/
theorem pop_len (f : α → Int) {l : List α} (h : l ≠ []) : (popL f l).length + 1 = l.length := by
  cases l with
  | nil => exact absurd rfl h
  | cons x r => exact (pop_perm f (l := x :: r) (x := x) rfl).length_eq
/-- the items as they come out, n of them at most -/
def outs (f : α → Int) : Nat → List α → List α
  | 0, _ => []
  | n + 1, l => match l[0]? with
    | none => []
    | some x => x :: outs f n (popL f l)
theorem outs_perm (f : α → Int) : ∀ (n : Nat) (l : List α), l.length = n → List.Perm (outs f n l) l
  | 0, l, h => by
    rw [List.length_eq_zero_iff.mp h]
    exact List.Perm.refl _
  | n + 1, l, h => by
    unfold outs
    cases l with
    | nil => simp at h
    | cons x r =>
      show List.Perm (x :: outs f n (popL f (x :: r))) (x :: r)
      have hl := pop_len f (l := x :: r) (List.cons_ne_nil _ _)
      exact (List.Perm.cons x (outs_perm f n _ (by omega))).trans (pop_perm f rfl)
/-- times never fall -/
def Rises (f : α → Int) (l : List α) : Prop := List.Pairwise (fun a b => f a ≤ f b) l
theorem outs_rises {f : α → Int} : ∀ (n : Nat) (l : List α), l.length = n → IsHeap f l → Rises f (outs f n l)
  | 0, l, _, _ => List.Pairwise.nil
  | n + 1, l, h, hh => by
    unfold outs
    cases l with
    | nil => simp at h
    | cons x r =>
      show List.Pairwise _ (x :: outs f n (popL f (x :: r)))
      have hl := pop_len f (l := x :: r) (List.cons_ne_nil _ _)
      refine List.Pairwise.cons ?_ (outs_rises n _ (by omega) (pop_heap hh))
      intro y hy
      have m1 := (outs_perm f n _ (by omega)).mem_iff.mp hy
      have m2 : y ∈ x :: popL f (x :: r) := List.mem_cons_of_mem _ m1
      exact heap_min_mem hh rfl y ((pop_perm f (l := x :: r) rfl).mem_iff.mp m2)
theorem outs_map {β : Type} {f : α → Int} {h : β → Int} {g : α → β} (m : Alike f h g) : ∀ (n : Nat) (l : List α), outs h n (l.map g) = (outs f n l).map g
  | 0, l => rfl
  | n + 1, l => by
    unfold outs
    rw [List.getElem?_map]
    cases l[0]? with
    | none => rfl
    | some x =>
      show g x :: outs h n (popL h (l.map g)) = (x :: outs f n (popL f l)).map g
      rw [pop_map m, outs_map m n]
      rfl

/-! ### what is due -/
def ripe (f : α → Int) (now : Int) : Nat → List α → List α × List α
  | 0, l => ([], l)
  | n + 1, l => match l[0]? with
    | none => ([], l)
    | some x => if f x ≤ now then (x :: (ripe f now n (popL f l)).1, (ripe f now n (popL f l)).2) else ([], l)
theorem ripe_perm (f : α → Int) (now : Int) : ∀ (n : Nat) (l : List α), List.Perm ((ripe f now n l).1 ++ (ripe f now n l).2) l
  | 0, l => List.Perm.refl _
  | n + 1, l => by
    unfold ripe
    cases l with
    | nil => exact List.Perm.refl _
    | cons x r =>
      show List.Perm ((if f x ≤ now then (x :: (ripe f now n (popL f (x :: r))).1, (ripe f now n (popL f (x :: r))).2) else ([], x :: r)).1 ++ (if f x ≤ now then (x :: (ripe f now n (popL f (x :: r))).1, (ripe f now n (popL f (x :: r))).2) else ([], x :: r)).2) (x :: r)
      by_cases e : f x ≤ now
      · rw [if_pos e]
        exact (List.Perm.cons x (ripe_perm f now n _)).trans (pop_perm f rfl)
      · rw [if_neg e]
        exact List.Perm.refl _
theorem ripe_heap {f : α → Int} {now : Int} : ∀ (n : Nat) (l : List α), IsHeap f l → IsHeap f (ripe f now n l).2
  | 0, l, h => h
  | n + 1, l, h => by
    unfold ripe
    cases l with
    | nil => exact h
    | cons x r =>
      show IsHeap f (if f x ≤ now then (x :: (ripe f now n (popL f (x :: r))).1, (ripe f now n (popL f (x :: r))).2) else ([], x :: r)).2
      by_cases e : f x ≤ now
      · rw [if_pos e]
        exact ripe_heap n _ (pop_heap h)
      · rw [if_neg e]
        exact h
theorem ripe_le {f : α → Int} {now : Int} : ∀ (n : Nat) (l : List α), ∀ y ∈ (ripe f now n l).1, f y ≤ now
  | 0, l => fun y hy => by cases hy
  | n + 1, l => by
    unfold ripe
    cases l with
    | nil => intro y hy; cases hy
    | cons x r =>
      show ∀ y ∈ (if f x ≤ now then (x :: (ripe f now n (popL f (x :: r))).1, (ripe f now n (popL f (x :: r))).2) else ([], x :: r)).1, f y ≤ now
      by_cases e : f x ≤ now
      · rw [if_pos e]
        intro y hy
        rcases List.mem_cons.mp hy with rfl | hy
        · exact e
        · exact ripe_le n _ y hy
      · rw [if_neg e]
        intro y hy
        cases hy
theorem ripe_gt {f : α → Int} {now : Int} : ∀ (n : Nat) (l : List α), l.length = n → IsHeap f l → ∀ y ∈ (ripe f now n l).2, now < f y
  | 0, l, h, _ => fun y hy => by
    have e : l = [] := List.length_eq_zero_iff.mp h
    subst e
    cases hy
  | n + 1, l, h, hh => by
    unfold ripe
    cases l with
    | nil => simp at h
    | cons x r =>
      show ∀ y ∈ (if f x ≤ now then (x :: (ripe f now n (popL f (x :: r))).1, (ripe f now n (popL f (x :: r))).2) else ([], x :: r)).2, now < f y
      by_cases e : f x ≤ now
      · rw [if_pos e]
        have hl := pop_len f (l := x :: r) (List.cons_ne_nil _ _)
        exact ripe_gt n _ (by omega) (pop_heap hh)
      · rw [if_neg e]
        intro y hy
        have := heap_min_mem hh rfl y hy
        omega
theorem ripe_rises {f : α → Int} {now : Int} : ∀ (n : Nat) (l : List α), IsHeap f l → Rises f (ripe f now n l).1
  | 0, l, _ => List.Pairwise.nil
  | n + 1, l, hh => by
    unfold ripe
    cases l with
    | nil => exact List.Pairwise.nil
    | cons x r =>
      show Rises f (if f x ≤ now then (x :: (ripe f now n (popL f (x :: r))).1, (ripe f now n (popL f (x :: r))).2) else ([], x :: r)).1
      by_cases e : f x ≤ now
      · rw [if_pos e]
        refine List.Pairwise.cons ?_ (ripe_rises n _ (pop_heap hh))
        intro y hy
        have m1 : y ∈ popL f (x :: r) := (ripe_perm f now n _).mem_iff.mp (List.mem_append_left _ hy)
        exact heap_min_mem hh rfl y ((pop_perm f (l := x :: r) rfl).mem_iff.mp (List.mem_cons_of_mem _ m1))
      · rw [if_neg e]
        exact List.Pairwise.nil

/-! ### whether rows are a heap -/
def isHeapB (f : α → Int) (l : List α) : Bool := !((List.range (l.length - 1)).map fun i => lss f l (i + 1) (i / 2)).any id
theorem isHeapB_iff {f : α → Int} {l : List α} : isHeapB f l = true ↔ IsHeap f l := by
  unfold isHeapB
  rw [Bool.not_eq_true', List.any_eq_false]
  constructor
  · intro h k k1 k2 _
    have hm : lss f l k ((k - 1) / 2) ∈ (List.range (l.length - 1)).map fun i => lss f l (i + 1) (i / 2) := by
      refine List.mem_map.mpr ⟨k - 1, List.mem_range.mpr (by omega), ?_⟩
      show lss f l (k - 1 + 1) ((k - 1) / 2) = _
      rw [show k - 1 + 1 = k by omega]
    have := h _ hm
    rw [lss_ky k2 (by omega)] at this
    have h3 : ¬ (ky f l k < ky f l ((k - 1) / 2)) := fun z => this (decide_eq_true z)
    omega
  · intro h b hb
    obtain ⟨i, hi, rfl⟩ := List.mem_map.mp hb
    have hi' := List.mem_range.mp hi
    rw [lss_ky (by omega) (by omega)]
    have := h (i + 1) (by omega) (by omega) (Nat.zero_le _)
    rw [show i + 1 - 1 = i by omega] at this
    intro z
    have := of_decide_eq_true z
    omega
theorem ripe_nil (f : α → Int) (now : Int) (n : Nat) : ripe f now n ([] : List α) = ([], []) := by
  cases n <;> rfl
theorem ripe_yes {f : α → Int} {now : Int} {x : α} {r : List α} (h : f x ≤ now) : ripe f now (x :: r).length (x :: r) = (x :: (ripe f now (popL f (x :: r)).length (popL f (x :: r))).1, (ripe f now (popL f (x :: r)).length (popL f (x :: r))).2) := by
  have e : (popL f (x :: r)).length = r.length := by
    have := pop_len f (l := x :: r) (List.cons_ne_nil _ _)
    rw [List.length_cons] at this
    omega
  rw [e]
  show (if f x ≤ now then (x :: (ripe f now r.length (popL f (x :: r))).1, (ripe f now r.length (popL f (x :: r))).2) else ([], x :: r)) = _
  rw [if_pos h]
theorem ripe_no {f : α → Int} {now : Int} {x : α} {r : List α} (h : ¬ f x ≤ now) : ripe f now (x :: r).length (x :: r) = ([], x :: r) := by
  show (if f x ≤ now then (x :: (ripe f now r.length (popL f (x :: r))).1, (ripe f now r.length (popL f (x :: r))).2) else ([], x :: r)) = _
  rw [if_neg h]

/-! ### rows in order -/
theorem uniq_of {le : α → α → Prop} (anti : ∀ a b, le a b → le b a → a = b) : ∀ {l m : List α}, List.Pairwise le l → List.Pairwise le m → List.Perm l m → l = m
  | [], m, _, _, p => (List.Perm.nil_eq p)
  | x :: r, [], _, _, p => absurd p.symm.nil_eq (by intro h; cases h)
  | x :: r, y :: q, hl, hm, p => by
    have hl' := List.pairwise_cons.mp hl
    have hm' := List.pairwise_cons.mp hm
    have e : x = y := by
      have h1 : x ∈ y :: q := p.mem_iff.mp List.mem_cons_self
      have h2 : y ∈ x :: r := p.mem_iff.mpr List.mem_cons_self
      rcases List.mem_cons.mp h1 with h1 | h1
      · exact h1
      · rcases List.mem_cons.mp h2 with h2 | h2
        · exact h2.symm
        · exact anti _ _ (hl'.1 y h2) (hm'.1 x h1)
    subst e
    rw [uniq_of anti hl'.2 hm'.2 p.cons_inv]
def lexle (p q : Int × Int) : Prop := p.1 < q.1 ∨ (p.1 = q.1 ∧ p.2 ≤ q.2)
abbrev SortP (l : List (Int × Int)) : Prop := List.Pairwise lexle l
theorem sortP_uniq {l m : List (Int × Int)} (hl : SortP l) (hm : SortP m) (p : List.Perm l m) : l = m := by
  refine uniq_of (fun a b h1 h2 => ?_) hl hm p
  unfold lexle at h1 h2
  refine Prod.ext ?_ ?_ <;> omega
theorem sortI_uniq {l m : List Int} (hl : List.Pairwise (· ≤ ·) l) (hm : List.Pairwise (· ≤ ·) m) (p : List.Perm l m) : l = m := uniq_of (fun a b h1 h2 => Int.le_antisymm h1 h2) hl hm p
theorem perm_map_inv {β : Type} {f : α → β} {ys xs : List β} (p : List.Perm ys xs) : ∀ es : List α, xs = es.map f → ∃ es', ys = es'.map f ∧ List.Perm es' es := by
  induction p with
  | nil =>
    intro es h
    refine ⟨[], rfl, ?_⟩
    rw [List.map_eq_nil_iff.mp h.symm]
  | @cons x l1 l2 _ ih =>
    intro es h
    cases es with
    | nil => cases h
    | cons e r =>
      obtain ⟨es', h1, h2⟩ := ih r (List.cons.inj h).2
      exact ⟨e :: es', by rw [h1, List.map_cons, (List.cons.inj h).1], List.Perm.cons e h2⟩
  | swap x y l =>
    intro es h
    cases es with
    | nil => cases h
    | cons e r =>
      cases r with
      | nil => exact absurd (List.cons.inj h).2 (by intro z; cases z)
      | cons e2 r =>
        have a := (List.cons.inj h).1
        have b := (List.cons.inj (List.cons.inj h).2).1
        have c := (List.cons.inj (List.cons.inj h).2).2
        exact ⟨e2 :: e :: r, by rw [List.map_cons, List.map_cons, ← a, ← b, ← c], List.Perm.swap _ _ _⟩
  | trans _ _ ih1 ih2 =>
    intro es h
    obtain ⟨es2, h1, h2⟩ := ih2 es h
    obtain ⟨es1, h3, h4⟩ := ih1 es2 h1
    exact ⟨es1, h3, h4.trans h2⟩
theorem nodup_filter_perm [DecidableEq α] {l : List α} {x : α} (hn : l.Nodup) (hx : x ∈ l) : List.Perm (x :: l.filter (fun y => decide (y ≠ x))) l := by
  induction l with
  | nil => cases hx
  | cons a r ih =>
    have hn' := List.nodup_cons.mp hn
    by_cases e : a = x
    · subst e
      have h1 : r.filter (fun y => decide (y ≠ a)) = r := by
        refine List.filter_eq_self.mpr fun y hy => decide_eq_true fun z => ?_
        subst z
        exact hn'.1 hy
      rw [List.filter_cons_of_neg (by simp), h1]
    · rw [List.filter_cons_of_pos (p := fun y => decide (y ≠ x)) (decide_eq_true e)]
      have hx' : x ∈ r := by
        rcases List.mem_cons.mp hx with h | h
        · exact absurd h.symm e
        · exact h
      exact (List.Perm.swap a x _).trans (List.Perm.cons a (ih hn'.2 hx'))
end Hm

set_option maxHeartbeats 4000000
namespace K14
open PySem PySem.Spec PyProof.Rows L2
/-! ### entries -/
/-- an entry: where its tuple stands, its time and its number -/
structure Ent where
  a : Addr
  t : Int
  k : Int
abbrev Ent.v (e : Ent) : V := .ref e.a
abbrev vsOf (es : List Ent) : List V := es.map Ent.v
def EntAt (H : Hp) (e : Ent) : Prop := H e.a = some (.tup [.int e.t, .int e.k])
def Ents (H : Hp) (es : List Ent) : Prop := ∀ e ∈ es, EntAt H e
/-- all that was tracked is as it was, but for what stands at some places -/
def Kp (ps : List Addr) (H H' : Hp) : Prop := ∀ b o, b ∉ ps → H b = some o → H' b = some o
theorem Kp.refl (ps : List Addr) (H : Hp) : Kp ps H H := fun _ _ _ h => h
theorem Kp.trans {ps : List Addr} {H H1 H2 : Hp} (a : Kp ps H H1) (b : Kp ps H1 H2) : Kp ps H H2 := fun x o n h => b x o n (a x o n h)
theorem Kp.new {ps : List Addr} {H H1 : Hp} {p : Addr} {o : HO} (a : Kp ps H H1) (n : H1 p = none) : Kp ps H (upd H1 p o) := fun x u nx h => by
  have h1 := a x u nx h
  rw [upd_ne (ne_of_none h1 n)]
  exact h1
theorem Kp.wr {ps : List Addr} {H H1 : Hp} {p : Addr} {o : HO} (a : Kp ps H H1) (n : p ∈ ps) : Kp ps H (upd H1 p o) := fun x u nx h => by
  have e0 : x ≠ p := fun e => nx (by rw [e]; exact n)
  rw [upd_ne e0]
  exact a x u nx h
theorem Kp.mono {ps qs : List Addr} {H H1 : Hp} (a : Kp ps H H1) (h : ∀ x ∈ ps, x ∈ qs) : Kp qs H H1 := fun x o n e => a x o (fun m => n (h x m)) e
theorem Kp.same {H H1 : Hp} (a : Kp [] H H1) : Same H H1 := fun x o e => a x o (List.not_mem_nil) e
theorem Ents.kp {H H' : Hp} {es : List Ent} {p : Addr} {xs : List V} (h : Ents H es) (k : Kp [p] H H') (hp : H p = some (.lst xs)) : Ents H' es := fun e he => k _ _ (fun m => by
  have := List.mem_singleton.mp m
  have z := h e he
  unfold EntAt at z
  rw [this, hp] at z
  cases z) (h e he)
theorem Ents.perm {H : Hp} {es es' : List Ent} (h : Ents H es) (p : List.Perm es' es) : Ents H es' := fun e he => h e (p.mem_iff.mp he)
theorem vs_at {es : List Ent} {i : Nat} {e : Ent} (h : es[i]? = some e) : (vsOf es)[i]? = some e.v := by
  rw [List.getElem?_map, h]
  rfl
theorem ixN_nat {n j : Nat} (hj : j < n) : ixN n (j : Int) = some j := by
  unfold ixN
  rw [if_pos (Int.natCast_nonneg j), if_pos (by omega)]
  rfl
section
variable {P : Program} {w : World} {K : PySem.W.Frag} {mg : Str → Option Value} {base : Heap}
/-! ### is_sooner -/
def spSooner : Sp := fun vs H Q _ => ∃ a b : Ent, vs = [a.v, b.v] ∧ EntAt H a ∧ EntAt H b ∧ Q (.bl (decide (a.t < b.t))) H
theorem ok_sooner (T : Txt K mg) : FnOk P w K mg base CX0 1 T.aIsSooner T.dIsSooner ["one", "other"] spSooner := by
  refine T.fIsSooner.ok scIsSooner (fun vs H Q E h => ?_) (fun cdv A outer s H vs Q E hr h => ?_)
  · obtain ⟨a, b, rfl, _⟩ := h
    rfl
  · obtain ⟨a, b, rfl, ha, hb, q⟩ := h
    refine ⟨_, (pss_one (ps_ret (pe_cmpR op_lt (pe_ix (r := rIxT K) ix_tup (pv 0) pe_int (fun _ _ => rfl)) (pe_ix (r := rIxT K) ix_tup (pv 1) pe_int (fun _ _ => rfl)) (nomark _)))), ?_⟩
    exact ⟨_, rfl, _, _, 0, .int a.t, rfl, rfl, SqT.of ha, atI_nat (j := 0) rfl, _, rfl, _, _, 0, .int b.t, rfl, rfl, SqT.of hb, atI_nat (j := 0) rfl, _, _, rfl, rfl, q⟩
/-! ### rise -/
def spRise (fS : Addr) : Sp := fun vs H Q _ => ∃ (p : Addr) (es : List Ent) (top place : Nat), vs = [.ref p, .int top, .int place, .ref fS] ∧ H p = some (.lst (vsOf es)) ∧ Ents H es ∧ place < es.length ∧
  ∀ H', Kp [p] H H' → H' p = some (.lst (vsOf (Hm.rise Ent.t es top place))) → Q .non H'
theorem ok_rise (T : Txt K mg) : FnOk P w K mg base CX0 2 T.aRise T.dRise ["heap", "top", "place", "less"] (spRise T.aIsSooner) := by
  have GIsSooner : FnOk P w K mg base CX0 1 T.aIsSooner T.dIsSooner ["one", "other"] spSooner := ok_sooner T
  refine T.fRise.ok scRise (fun vs H Q E h => ?_) (fun cdv A outer s H vs Q E hr h => ?_)
  · obtain ⟨p, es, top, place, rfl, _⟩ := h
    rfl
  · obtain ⟨p, es, top, place, rfl, hp, he, hl, q⟩ := h
    refine ⟨_, (pss_one (ps_while PassesOwn.never (pt_cmpR op_gt (pv 2) (pv 1) (nomark _))
      (pss_cons (ps_set (i := 4) scRise.nd rfl (.inl rfl) (pe_op op_fdiv (pe_op op_sub (pv 2) pe_int) pe_int))
        (pss_cons (ps_if (pt_not (pt_val (pe_callL (i := 3) GIsSooner (hr.mono (by decide)) rfl (.inl rfl) T.fIsSooner.kp T.bIsSooner .nil pass0 (pa_cons (pe_ix (r := rIxL K) ix_list (pv 0) (pv 2) (fun _ _ => rfl)) (pa_cons (pe_ix (r := rIxL K) ix_list (pv 0) (pv 4) (fun _ _ => rfl)) pa_nil)))))
        (pss_one ps_retN)
        pss_nil)
        (pss_cons (ps_asg (pe_tup (pa_cons (pe_ix (r := rIxL K) ix_list (pv 0) (pv 4) (fun _ _ => rfl)) (pa_cons (pe_ix (r := rIxL K) ix_list (pv 0) (pv 2) (fun _ _ => rfl)) pa_nil))) (pg_tup rfl (pgs_cons (pg_sub (pv 0) (pv 2) set_list) (pgs_cons (pg_sub (pv 0) (pv 4) set_list) pgs_nil))))
        (pss_one (ps_set (i := 2) scRise.nd rfl (.inl rfl) (pv 4)))))))), ?_⟩
    refine ⟨fun m σ H3 => ∃ (es3 : List Ent) (pl : Nat) (y4 : Option V), σ = [some (.ref p), some (.int top), some (.int pl), some (.ref T.aIsSooner), y4] ∧ m = pl ∧ Kp [p] H H3 ∧ H3 p = some (.lst (vsOf es3)) ∧ Ents H3 es3 ∧ pl < es3.length ∧ Hm.rise Ent.t es3 top pl = Hm.rise Ent.t es top place,
      ⟨place, es, place, none, rfl, rfl, Kp.refl _ _, hp, he, hl, rfl⟩, fun m σ H3 hW => ?_⟩
    obtain ⟨es3, pl, y4, rfl, rfl, k3, hp3, he3, hl3, hr3⟩ := hW
    refine ⟨_, rfl, _, rfl, _, _, rfl, rfl, _, rfl, ite2 (fun c => ?_) (fun c => ?_)⟩
    · have c' : top < m := by
        have := of_decide_eq_true c
        omega
      have hab : (m - 1) / 2 < es3.length := by omega
      obtain ⟨x, hx⟩ : ∃ x, es3[m]? = some x := ⟨_, List.getElem?_eq_getElem hl3⟩
      obtain ⟨y, hy⟩ : ∃ y, es3[(m - 1) / 2]? = some y := ⟨_, List.getElem?_eq_getElem hab⟩
      have eab : ((m : Int) - 1) / 2 = (((m - 1) / 2 : Nat) : Int) := by omega
      have ex := he3 x (List.mem_of_getElem? hx)
      have ey := he3 y (List.mem_of_getElem? hy)
      refine ⟨fun σ' H' => ∃ (es3 : List Ent) (pl : Nat) (y4 : Option V), pl < m ∧ σ' = [some (.ref p), some (.int top), some (.int pl), some (.ref T.aIsSooner), y4] ∧ Kp [p] H H' ∧ H' p = some (.lst (vsOf es3)) ∧ Ents H' es3 ∧ pl < es3.length ∧ Hm.rise Ent.t es3 top pl = Hm.rise Ent.t es top place,
        fun σ' H' hN => ?_, ?_⟩
      · obtain ⟨es4, pl, y, l4, e4, r4⟩ := hN
        exact ⟨pl, l4, es4, pl, y, e4, rfl, r4⟩
      -- above = (place - 1) // 2
      refine ⟨_, rfl, _, _, rfl, rfl, _, _, rfl, rfl, ⟨by decide, by decide⟩, ?_⟩
      dsimp only
      rw [eab]
      -- less(heap[place], heap[above])
      refine ⟨rfl, _, rfl, _, rfl, p, _, _, x.v, rfl, rfl, SqL.of hp3, atI_nat (vs_at hx), _, rfl, _, rfl, p, _, _, y.v, rfl, rfl, SqL.of hp3, atI_nat (vs_at hy), x, y, rfl, ex, ey, _, rfl, ?_⟩
      have eL : Hm.lss Ent.t es3 m ((m - 1) / 2) = decide (x.t < y.t) := by
        unfold Hm.lss
        rw [hx, hy]
      have eR := Hm.rise.eq_1 Ent.t es3 top m
      rw [dif_pos c', eL] at eR
      by_cases d : x.t < y.t
      · rw [decide_eq_true d]
        rw [decide_eq_true d, if_pos rfl] at eR
        refine iteF ?_
        -- the swap
        refine ⟨_, rfl, _, rfl, p, _, _, y.v, rfl, rfl, SqL.of hp3, atI_nat (vs_at hy), _, rfl, _, rfl, p, _, _, x.v, rfl, rfl, SqL.of hp3, atI_nat (vs_at hx), (by show 2 ≤ sizeLine; decide), fun U nU => ?_⟩
        have npU : p ≠ U := ne_of_none hp3 nU
        refine ⟨U, [y.v, x.v], rfl, SqT.of upd_same, rfl, _, _, rfl, ?_⟩
        have h1 : (upd H3 U (.tup [y.v, x.v])) p = some (.lst (vsOf es3)) := by
          rw [upd_ne npU]
          exact hp3
        refine ⟨_, rfl, _, rfl, p, _, _, m, rfl, rfl, h1, ixN_nat (by rw [List.length_map]; exact hl3), _, _, rfl, ?_⟩
        refine ⟨_, rfl, _, rfl, p, _, _, (m - 1) / 2, rfl, rfl, upd_same, ixN_nat (by rw [List.length_set, List.length_map]; exact hab), rfl, ?_⟩
        rw [upd_upd]
        refine ⟨_, rfl, ?_⟩
        have es4 : ((vsOf es3).set m y.v).set ((m - 1) / 2) x.v = vsOf (Hm.swp es3 m ((m - 1) / 2)) := by
          rw [Hm.swp_eq hx hy]
          show _ = List.map Ent.v _
          rw [List.map_set, List.map_set]
        have kU : Kp [p] H3 (upd (upd H3 U (.tup [y.v, x.v])) p (.lst (((vsOf es3).set m y.v).set ((m - 1) / 2) x.v))) := ((Kp.refl _ _).new nU).wr (List.mem_singleton.mpr rfl)
        refine ⟨Hm.swp es3 m ((m - 1) / 2), (m - 1) / 2, _, by omega, rfl, k3.trans kU, ?_, ?_, ?_, ?_⟩
        · rw [upd_same, es4]
        · exact (he3.kp kU hp3).perm (Hm.swp_perm _ _ _)
        · rw [Hm.swp_len]
          exact hab
        · rw [← eR]
          exact hr3
      · rw [decide_eq_false d]
        rw [decide_eq_false d, if_neg Bool.false_ne_true] at eR
        refine iteT ?_
        refine q H3 k3 ?_
        rw [← hr3, eR]
        exact hp3
    · have c' : ¬ top < m := fun z => c (decide_eq_true (by omega))
      refine q H3 k3 ?_
      have eR := Hm.rise.eq_1 Ent.t es3 top m
      rw [dif_neg c'] at eR
      rw [← hr3, eR]
      exact hp3
end
end K14

namespace K14
open PySem PySem.Spec PyProof.Rows L2
theorem vs_set {es : List Ent} {i : Nat} {e : Ent} : (vsOf es).set i e.v = vsOf (es.set i e) := by
  show _ = List.map Ent.v _
  rw [List.map_set]
theorem vs_len {es : List Ent} : (vsOf es).length = es.length := List.length_map _
section
variable {P : Program} {w : World} {K : PySem.W.Frag} {mg : Str → Option Value} {base : Heap}
def spSink (fS : Addr) : Sp := fun vs H Q _ => ∃ (p : Addr) (es : List Ent) (top : Nat), vs = [.ref p, .int top, .ref fS] ∧ H p = some (.lst (vsOf es)) ∧ Ents H es ∧ top < es.length ∧
  ∀ H', Kp [p] H H' → H' p = some (.lst (vsOf (Hm.sink Ent.t es top))) → Q .non H'
theorem ok_sink (T : Txt K mg) : FnOk P w K mg base CX0 3 T.aSink T.dSink ["heap", "top", "less"] (spSink T.aIsSooner) := by
  have GIsSooner : FnOk P w K mg base CX0 1 T.aIsSooner T.dIsSooner ["one", "other"] spSooner := ok_sooner T
  have GRise : FnOk P w K mg base CX0 2 T.aRise T.dRise ["heap", "top", "place", "less"] (spRise T.aIsSooner) := ok_rise T
  refine T.fSink.ok scSink (fun vs H Q E h => ?_) (fun cdv A outer s H vs Q E hr h => ?_)
  · obtain ⟨p, es, top, rfl, _⟩ := h
    rfl
  · obtain ⟨p, es, top, rfl, hp, he, hl, q⟩ := h
    refine ⟨_, (pss_cons (ps_set (i := 3) scSink.nd rfl (.inl rfl) (pv 1))
      (pss_cons (ps_while PassesOwn.never (pt_cmpR op_lt (pe_op op_add (pe_op op_mul pe_int (pv 3)) pe_int) (pe_callB call_len_seq (by rfl) T.n_len PySem.boot_len (pa_cons (pv 0) pa_nil)) (nomark _))
      (pss_cons (ps_set (i := 4) scSink.nd rfl (.inl rfl) (pe_op op_add (pe_op op_mul pe_int (pv 3)) pe_int))
        (Evl.pss_cut (ps_if (PW.pt (pw_and (pt_cmpR op_lt (pe_op op_add (pv 4) pe_int) (pe_callB call_len_seq (by rfl) T.n_len PySem.boot_len (pa_cons (pv 0) pa_nil)) (nomark _)) (pw_and1 (pt_not (pt_val (pe_callL (i := 2) GIsSooner (hr.mono (by decide)) rfl (.inl rfl) T.fIsSooner.kp T.bIsSooner .nil pass0 (pa_cons (pe_ix (r := rIxL K) ix_list (pv 0) (pv 4) (fun _ _ => rfl)) (pa_cons (pe_ix (r := rIxL K) ix_list (pv 0) (pe_op op_add (pv 4) pe_int) (fun _ _ => rfl)) pa_nil))))))))
        (pss_one (ps_aug (i := 4) scSink.nd rfl (.inl rfl) pe_int ip_add))
        pss_nil)
        (pss_cons (ps_asg (pe_tup (pa_cons (pe_ix (r := rIxL K) ix_list (pv 0) (pv 4) (fun _ _ => rfl)) (pa_cons (pe_ix (r := rIxL K) ix_list (pv 0) (pv 3) (fun _ _ => rfl)) pa_nil))) (pg_tup rfl (pgs_cons (pg_sub (pv 0) (pv 3) set_list) (pgs_cons (pg_sub (pv 0) (pv 4) set_list) pgs_nil))))
        (pss_one (ps_set (i := 3) scSink.nd rfl (.inl rfl) (pv 4)))))))
      (pss_one (ps_expr (pe_call GRise (hr.mono (by decide)) (by rfl) T.gRise T.fRise.kp T.bRise .nil pass0 (pa_cons (pv 0) (pa_cons (pv 1) (pa_cons (pv 3) (pa_cons (pv 2) pa_nil))))))))), ?_⟩
    refine ⟨_, rfl, ?_⟩
    refine ⟨fun m σ H3 => ∃ (es3 : List Ent) (pl : Nat) (y4 : Option V), σ = [some (.ref p), some (.int top), some (.ref T.aIsSooner), some (.int pl), y4] ∧ m = es3.length - pl ∧ Kp [p] H H3 ∧ H3 p = some (.lst (vsOf es3)) ∧ Ents H3 es3 ∧ pl < es3.length ∧ Hm.down Ent.t es3 pl = Hm.down Ent.t es top,
      ⟨_, es, top, none, rfl, rfl, Kp.refl _ _, hp, he, hl, rfl⟩, fun m σ H3 hW => ?_⟩
    obtain ⟨es3, pl, y4, rfl, rfl, k3, hp3, he3, hl3, hr3⟩ := hW
    refine ⟨_, rfl, _, _, rfl, rfl, .inl ⟨by decide, by decide⟩, _, _, rfl, rfl, _, rfl, p, _, rfl, .inl (SqL.of hp3), _, _, rfl, rfl, _, rfl, ite2 (fun c => ?_) (fun c => ?_)⟩
    · have c' : 2 * pl + 1 < es3.length := by
        have := of_decide_eq_true c
        rw [vs_len] at this
        omega
      have eD := Hm.down.eq_1 Ent.t es3 pl
      rw [dif_pos c'] at eD
      refine ⟨fun σ' H' => ∃ (es4 : List Ent) (pl' : Nat) (y4 : Option V), es4.length - pl' < es3.length - pl ∧ σ' = [some (.ref p), some (.int top), some (.ref T.aIsSooner), some (.int pl'), y4] ∧ Kp [p] H H' ∧ H' p = some (.lst (vsOf es4)) ∧ Ents H' es4 ∧ pl' < es4.length ∧ Hm.down Ent.t es4 pl' = Hm.down Ent.t es top,
        fun σ' H' hN => ?_, ?_⟩
      · obtain ⟨es4, pl', y, l4, e4, r4⟩ := hN
        exact ⟨_, l4, es4, pl', y, e4, rfl, r4⟩
      -- below = 2 * place + 1
      have e1 : 2 * (pl : Int) + 1 = ((2 * pl + 1 : Nat) : Int) := by omega
      have e2 : ((2 * pl + 1 : Nat) : Int) + 1 = ((2 * pl + 1 + 1 : Nat) : Int) := by omega
      refine ⟨_, rfl, _, _, rfl, rfl, .inl ⟨by decide, by decide⟩, _, _, rfl, rfl, ?_⟩
      dsimp only
      rw [e1]
      obtain ⟨x, hx⟩ : ∃ x, es3[2 * pl + 1]? = some x := ⟨_, List.getElem?_eq_getElem c'⟩
      have ex := he3 x (List.mem_of_getElem? hx)
      -- if below + 1 < len(heap) and not less(..)
      refine ⟨fun σ' H' => ∃ (c : Nat), c = Hm.child Ent.t es3 pl ∧ σ' = [some (.ref p), some (.int top), some (.ref T.aIsSooner), some (.int pl), some (.int c)] ∧ H' = H3, ?_, ?_⟩
      · refine ⟨_, rfl, _, _, rfl, rfl, _, rfl, p, _, rfl, .inl (SqL.of hp3), _, _, rfl, rfl, _, rfl, ite2 (fun d => ?_) (fun d => ?_)⟩
        · have d' : 2 * pl + 1 + 1 < es3.length := by
            have := of_decide_eq_true d
            rw [vs_len] at this
            omega
          obtain ⟨y, hy⟩ : ∃ y, es3[2 * pl + 1 + 1]? = some y := ⟨_, List.getElem?_eq_getElem d'⟩
          have ey := he3 y (List.mem_of_getElem? hy)
          refine ⟨rfl, _, rfl, _, rfl, p, _, _, x.v, rfl, rfl, SqL.of hp3, atI_nat (vs_at hx), _, rfl, _, rfl, _, _, rfl, rfl, p, _, _, y.v, rfl, rfl, SqL.of hp3, ?_, x, y, rfl, ex, ey, _, rfl, ?_⟩
          · show atI (vsOf es3) (((2 * pl + 1 : Nat) : Int) + 1) = _
            rw [e2]
            exact atI_nat (vs_at hy)
          have eL : Hm.lss Ent.t es3 (2 * pl + 1) (2 * pl + 1 + 1) = decide (x.t < y.t) := by
            unfold Hm.lss
            rw [hx, hy]
          by_cases z : x.t < y.t
          · rw [decide_eq_true z]
            refine iteF ?_
            refine ⟨2 * pl + 1, ?_, rfl, rfl⟩
            unfold Hm.child
            rw [if_neg (fun w => by rw [eL, decide_eq_true z] at w; exact Bool.noConfusion w.2)]
          · rw [decide_eq_false z]
            refine iteT ?_
            refine ⟨_, rfl, _, _, rfl, rfl, 2 * pl + 1 + 1, ?_, ?_, rfl⟩
            · unfold Hm.child
              rw [if_pos ⟨d', by rw [eL, decide_eq_false z]⟩]
            · dsimp only
              rw [e2]
              rfl
        · have d' : ¬ 2 * pl + 1 + 1 < es3.length := fun z => d (decide_eq_true (by rw [vs_len]; omega))
          refine iteF ?_
          refine ⟨2 * pl + 1, ?_, rfl, rfl⟩
          unfold Hm.child
          rw [if_neg (fun w => d' w.1)]
      · rintro σ' H' ⟨cc, ec, rfl, rfl⟩
        have hc1 := Hm.child_lt Ent.t es3 pl c'
        have hc2 := Hm.child_lo Ent.t es3 pl
        rw [← ec] at hc1 hc2 eD
        obtain ⟨y, hy⟩ : ∃ y, es3[cc]? = some y := ⟨_, List.getElem?_eq_getElem hc1⟩
        obtain ⟨z, hz⟩ : ∃ z, es3[pl]? = some z := ⟨_, List.getElem?_eq_getElem hl3⟩
        refine ⟨_, rfl, _, rfl, p, _, _, y.v, rfl, rfl, SqL.of hp3, atI_nat (vs_at hy), _, rfl, _, rfl, p, _, _, z.v, rfl, rfl, SqL.of hp3, atI_nat (vs_at hz), (by show 2 ≤ sizeLine; decide), fun U nU => ?_⟩
        have npU : p ≠ U := ne_of_none hp3 nU
        refine ⟨U, [y.v, z.v], rfl, SqT.of upd_same, rfl, _, _, rfl, ?_⟩
        have h1 : (upd H' U (.tup [y.v, z.v])) p = some (.lst (vsOf es3)) := by
          rw [upd_ne npU]
          exact hp3
        refine ⟨_, rfl, _, rfl, p, _, _, pl, rfl, rfl, h1, ixN_nat (by rw [vs_len]; exact hl3), _, _, rfl, ?_⟩
        refine ⟨_, rfl, _, rfl, p, _, _, cc, rfl, rfl, upd_same, ixN_nat (by rw [List.length_set, vs_len]; exact hc1), rfl, ?_⟩
        rw [upd_upd]
        refine ⟨_, rfl, ?_⟩
        have es4 : ((vsOf es3).set pl y.v).set cc z.v = vsOf (Hm.swp es3 pl cc) := by
          rw [Hm.swp_eq hz hy, vs_set, vs_set]
        have kU : Kp [p] H' (upd (upd H' U (.tup [y.v, z.v])) p (.lst (((vsOf es3).set pl y.v).set cc z.v))) := ((Kp.refl _ _).new nU).wr (List.mem_singleton.mpr rfl)
        refine ⟨Hm.swp es3 pl cc, cc, _, ?_, rfl, k3.trans kU, ?_, ?_, ?_, ?_⟩
        · rw [Hm.swp_len]
          omega
        · rw [upd_same, es4]
        · exact (he3.kp kU hp3).perm (Hm.swp_perm _ _ _)
        · rw [Hm.swp_len]
          exact hc1
        · rw [← eD]
          exact hr3
    · have c' : ¬ 2 * pl + 1 < es3.length := fun z => c (decide_eq_true (by rw [vs_len]; omega))
      have eD := Hm.down.eq_1 Ent.t es3 pl
      rw [dif_neg c'] at eD
      rw [eD] at hr3
      refine ⟨_, rfl, _, rfl, _, rfl, _, rfl, p, es3, top, pl, rfl, hp3, he3, hl3, fun H' k' h' => ?_⟩
      refine q H' (k3.trans k') ?_
      rw [h']
      unfold Hm.sink
      rw [← hr3]
end
end K14

namespace K14
open PySem PySem.Spec PyProof.Rows L2
/-! ### entries as data -/
abbrev Ent.d (e : Ent) : PyData := .tuple [.int e.t, .int e.k]
abbrev Ent.pr (e : Ent) : Int × Int := (e.t, e.k)
abbrev rowsD (es : List Ent) : PyData := .list (es.map Ent.d)
section
variable {K : PySem.W.Frag}
theorem dp_ent {H : Hp} {e : Ent} (h : EntAt H e) : Dp K H e.v e.d := .tup (SqT.of h) (.cons (.int _) (.cons (.int _) .nil))
theorem dp_all {H : Hp} : ∀ {es : List Ent}, Ents H es → DpAll K H (vsOf es) (es.map Ent.d)
  | [], _ => .nil
  | e :: r, h => .cons (dp_ent (h e List.mem_cons_self)) (dp_all fun x hx => h x (List.mem_cons_of_mem _ hx))
theorem dp_rows {H : Hp} {p : Addr} {es : List Ent} (hp : SqL K H p (vsOf es)) (h : Ents H es) : Dp K H (.ref p) (rowsD es) := .lst hp (dp_all h)
theorem dp_emp {H : Hp} {p : Addr} (hp : SqL K H p []) : Dp K H (.ref p) (.list []) := .lst hp .nil
end
theorem lay_rows : ∀ es : List Ent, PyData.canLayAll0 (es.map Ent.d) = true
  | [] => rfl
  | e :: r => by
    show (PyData.canLay0 e.d && PyData.canLayAll0 (r.map Ent.d)) = true
    rw [lay_rows r]
    rfl
theorem depth_rows : ∀ es : List Ent, PyData.depthAll (es.map Ent.d) ≤ 1
  | [] => Nat.zero_le _
  | e :: r => by
    show max (PyData.depth e.d) (PyData.depthAll (r.map Ent.d)) ≤ 1
    exact Nat.max_le.mpr ⟨Nat.le_refl 1, depth_rows r⟩
theorem shaped_rows (es : List Ent) : SeqAt.shaped (rowsD es) = true := by
  unfold SeqAt.shaped
  refine Bool.and_eq_true_iff.mpr ⟨lay_rows es, decide_eq_true ?_⟩
  show PyData.depthAll (es.map Ent.d) + 1 ≤ 64
  have := depth_rows es
  omega
theorem shaped_ent (e : Ent) : SeqAt.shaped e.d = true := rfl
theorem eqv_ent (a b : Ent) : PyData.eqv a.d b.d = decide (a.pr = b.pr) := by
  show (a.t == b.t && (a.k == b.k && true)) = _
  rw [Bool.and_true, Bool.eq_iff_iff, Bool.and_eq_true_iff, beq_iff_eq, beq_iff_eq, decide_eq_true_iff]
  exact ⟨fun ⟨x, y⟩ => by rw [Ent.pr, x, y], fun h => ⟨(Prod.mk.inj h).1, (Prod.mk.inj h).2⟩⟩
theorem eqv_all : ∀ es fs : List Ent, PyData.eqvAll (es.map Ent.d) (fs.map Ent.d) = decide (es.map Ent.pr = fs.map Ent.pr)
  | [], [] => rfl
  | [], f :: r => rfl
  | e :: r, [] => rfl
  | e :: r, f :: q => by
    show (PyData.eqv e.d f.d && PyData.eqvAll (r.map Ent.d) (q.map Ent.d)) = _
    rw [eqv_ent, eqv_all r q, Bool.eq_iff_iff, Bool.and_eq_true_iff, decide_eq_true_iff, decide_eq_true_iff, decide_eq_true_iff]
    show _ ↔ e.pr :: r.map Ent.pr = f.pr :: q.map Ent.pr
    exact ⟨fun ⟨x, y⟩ => by rw [x, y], fun h => ⟨(List.cons.inj h).1, (List.cons.inj h).2⟩⟩
theorem eqv_rows (es fs : List Ent) : PyData.eqv (rowsD es) (rowsD fs) = decide (es.map Ent.pr = fs.map Ent.pr) := eqv_all es fs
theorem eqv_rows0 (es : List Ent) : PyData.eqv (rowsD es) (.list []) = es.isEmpty := by
  cases es with
  | nil => rfl
  | cons e r => rfl
theorem Ents.sub {H : Hp} {es fs : List Ent} (h : Ents H es) (s : ∀ x ∈ fs, x ∈ es) : Ents H fs := fun e he => h e (s e he)
theorem Ents.same {H H' : Hp} {es : List Ent} (h : Ents H es) (s : Same H H') : Ents H' es := fun e he => s _ _ (h e he)
theorem same_new {H : Hp} {p : Addr} {o : HO} (h : H p = none) : Same H (upd H p o) := fun b x e => by
  rw [upd_ne (ne_of_none e h)]
  exact e
theorem Same.kp {H H' : Hp} (h : Same H H') (ps : List Addr) : Kp ps H H' := fun b o _ e => h b o e
/-- what changed was new -/
theorem kp_same {H H1 H2 : Hp} {p : Addr} (s : Same H H1) (n : H p = none) (k : Kp [p] H1 H2) : Same H H2 := fun b o e => k b o (fun m => by
  rw [List.mem_singleton.mp m, n] at e
  cases e) (s b o e)
section
variable {P : Program} {w : World} {K : PySem.W.Frag} {mg : Str → Option Value} {base : Heap}
/-! ### push_by -/
def spPushBy (fS : Addr) : Sp := fun vs H Q _ => ∃ (p : Addr) (es : List Ent) (e : Ent), vs = [.ref p, e.v, .ref fS] ∧ H p = some (.lst (vsOf es)) ∧ Ents H es ∧ EntAt H e ∧ es.length ≤ 100000 ∧
  ∀ H', Kp [p] H H' → H' p = some (.lst (vsOf (Hm.push Ent.t es e))) → Q .non H'
theorem ok_pushBy (T : Txt K mg) : FnOk P w K mg base CX0 3 T.aPushBy T.dPushBy ["heap", "item", "less"] (spPushBy T.aIsSooner) := by
  have GRise : FnOk P w K mg base CX0 2 T.aRise T.dRise ["heap", "top", "place", "less"] (spRise T.aIsSooner) := ok_rise T
  refine T.fPushBy.ok scPushBy (fun vs H Q E h => ?_) (fun cdv A outer s H vs Q E hr h => ?_)
  · obtain ⟨p, es, e, rfl, _⟩ := h
    rfl
  · obtain ⟨p, es, e, rfl, hp, he, hE, hl, q⟩ := h
    refine ⟨_, (pss_cons (ps_expr (pe_bm PySem.F.plainAttrs_list PySem.F.slot_list_append PySem.F.type_list_append mt_append (pv 0) (pa_cons (pv 1) pa_nil)))
      (pss_one (ps_expr (pe_call GRise (hr.mono (by decide)) (by rfl) T.gRise T.fRise.kp T.bRise .nil pass0 (pa_cons (pv 0) (pa_cons pe_int (pa_cons (pe_op op_sub (pe_callB call_len_seq (by rfl) T.n_len PySem.boot_len (pa_cons (pv 0) pa_nil)) pe_int) (pa_cons (pv 2) pa_nil)))))))), ?_⟩
    refine ⟨_, rfl, .inl ⟨rfl, _, SqL.of hp⟩, _, rfl, p, _, _, rfl, rfl, hp, ?_, ?_⟩
    · rw [vs_len]
      exact Nat.lt_of_le_of_lt hl (by decide)
    have ev : vsOf es ++ [e.v] = vsOf (es ++ [e]) := by
      show _ = List.map Ent.v _
      rw [List.map_append]
      rfl
    have k1 : Kp [p] H (upd H p (.lst (vsOf es ++ [e.v]))) := (Kp.refl _ _).wr (List.mem_singleton.mpr rfl)
    have h1 : Ents (upd H p (.lst (vsOf es ++ [e.v]))) (es ++ [e]) := by
      refine Ents.kp (H := H) (xs := vsOf es) (fun x hx => ?_) k1 hp
      rcases List.mem_append.mp hx with hx | hx
      · exact he x hx
      · rw [List.mem_singleton.mp hx]
        exact hE
    refine ⟨_, rfl, _, rfl, p, _, rfl, .inl (SqL.of upd_same), _, _, rfl, rfl, _, rfl, p, es ++ [e], 0, es.length, ?_, ?_, h1, ?_, fun H' k' h' => ?_⟩
    · have : ((vsOf es ++ [e.v]).length : Int) - 1 = (es.length : Int) := by
        rw [List.length_append, vs_len]
        show ((es.length + 1 : Nat) : Int) - 1 = _
        omega
      dsimp only
      rw [this]
      rfl
    · rw [upd_same, ev]
    · rw [List.length_append]
      show es.length < es.length + 1
      omega
    · exact q H' (k1.trans k') h'
/-! ### pop_by -/
def spPopBy (fS : Addr) : Sp := fun vs H Q _ => ∃ (p : Addr) (es : List Ent) (x : Ent), vs = [.ref p, .ref fS] ∧ H p = some (.lst (vsOf es)) ∧ Ents H es ∧ es[0]? = some x ∧
  ∀ H', Kp [p] H H' → H' p = some (.lst (vsOf (Hm.popL Ent.t es))) → Q x.v H'
theorem ok_popBy (T : Txt K mg) : FnOk P w K mg base CX0 4 T.aPopBy T.dPopBy ["heap", "less"] (spPopBy T.aIsSooner) := by
  have GSink : FnOk P w K mg base CX0 3 T.aSink T.dSink ["heap", "top", "less"] (spSink T.aIsSooner) := ok_sink T
  refine T.fPopBy.ok scPopBy (fun vs H Q E h => ?_) (fun cdv A outer s H vs Q E hr h => ?_)
  · obtain ⟨p, es, x, rfl, _⟩ := h
    rfl
  · obtain ⟨p, es, x, rfl, hp, he, hx, q⟩ := h
    refine ⟨_, (pss_cons (ps_set (i := 2) scPopBy.nd rfl (.inl rfl) (pe_bm0 PySem.F.plainAttrs_list PySem.F.slot_list_pop PySem.F.type_list_pop mt_pop (pv 0)))
      (pss_cons (ps_if (pt_cmpR (r := rEqD K) (op_eqD hr.units) (pv 0) (pe_lst pa_nil) (nomark _))
      (pss_one (ps_ret (pv 2)))
      pss_nil)
      (pss_cons (ps_set (i := 3) scPopBy.nd rfl (.inl rfl) (pe_ix (r := rIxL K) ix_list (pv 0) pe_int (fun _ _ => rfl)))
      (pss_cons (ps_asg (pv 2) (pg_sub (pv 0) pe_int set_list))
      (pss_cons (ps_expr (pe_call GSink (hr.mono (by decide)) (by rfl) T.gSink T.fSink.kp T.bSink .nil pass0 (pa_cons (pv 0) (pa_cons pe_int (pa_cons (pv 1) pa_nil)))))
      (pss_one (ps_ret (pv 3)))))))), ?_⟩
    have hne : es ≠ [] := fun z => by
      rw [z] at hx
      simp at hx
    have hz : es.getLast? = some (es.getLast hne) := List.getLast?_eq_some_getLast hne
    have hlast : (vsOf es)[(vsOf es).length - 1]? = some (es.getLast hne).v := by
      rw [vs_len]
      refine vs_at ?_
      rw [← List.getLast?_eq_getElem?]
      exact hz
    have ed : (vsOf es).dropLast = vsOf es.dropLast := by
      show _ = List.map Ent.v _
      rw [List.map_dropLast]
    have k1 : Kp [p] H (upd H p (.lst (vsOf es).dropLast)) := (Kp.refl _ _).wr (List.mem_singleton.mpr rfl)
    have h1 : Ents (upd H p (.lst (vsOf es).dropLast)) es := he.kp k1 hp
    refine ⟨_, rfl, .inl ⟨rfl, _, SqL.of hp⟩, p, _, _, rfl, rfl, hp, hlast, ?_⟩
    rw [ed] at k1 h1 ⊢
    have h1d : Ents (upd H p (.lst (vsOf es.dropLast))) es.dropLast := h1.sub fun y hy => (List.dropLast_sublist es).subset hy
    -- if heap == []
    refine ⟨_, rfl, Nat.zero_le _, fun U nU => ?_⟩
    have s2 := same_new (o := .lst []) nU
    have hp2 : (upd (upd H p (.lst (vsOf es.dropLast))) U (.lst [])) p = some (.lst (vsOf es.dropLast)) := s2 _ _ upd_same
    refine ⟨rowsD es.dropLast, .list [], dp_rows (SqL.of hp2) (h1d.same s2), dp_emp (SqL.of upd_same), shaped_rows _, rfl, _, rfl, ?_⟩
    rw [eqv_rows0]
    have ep : Hm.popL Ent.t es = if es.dropLast.isEmpty then [] else Hm.sink Ent.t (es.dropLast.set 0 (es.getLast hne)) 0 := by
      unfold Hm.popL
      rw [hz]
    refine ite2 (fun c => ?_) (fun c => ?_)
    · rw [if_pos c] at ep
      refine ⟨_, rfl, ?_⟩
      have e1 : es.getLast hne = x := by
        cases es with
        | nil => exact absurd rfl hne
        | cons a r =>
          cases r with
          | nil => exact Option.some.inj hx
          | cons b r => simp at c
      rw [e1]
      refine q _ (k1.trans (Same.kp s2 _)) ?_
      rw [hp2, ep]
      have : es.dropLast = [] := List.isEmpty_iff.mp c
      rw [this]
    · rw [if_neg c] at ep
      have hx2 : es.dropLast[0]? = some x := by
        cases es with
        | nil => exact absurd rfl hne
        | cons a r =>
          cases r with
          | nil => exact absurd rfl c
          | cons b r => exact hx
      have hpos : 0 < es.dropLast.length := (List.getElem?_eq_some_iff.mp hx2).1
      -- first = heap[0]; heap[0] = last
      refine ⟨_, rfl, p, _, 0, x.v, rfl, rfl, SqL.of hp2, atI_nat (j := 0) (vs_at hx2), ?_⟩
      refine ⟨_, rfl, _, rfl, p, _, 0, 0, rfl, rfl, hp2, ixN_nat (j := 0) (by rw [vs_len]; exact hpos), ?_⟩
      rw [vs_set]
      have k3 : Kp [p] H (upd (upd (upd H p (.lst (vsOf es.dropLast))) U (.lst [])) p (.lst (vsOf (es.dropLast.set 0 (es.getLast hne))))) := (k1.trans (Same.kp s2 _)).wr (List.mem_singleton.mpr rfl)
      have h3 : Ents (upd (upd (upd H p (.lst (vsOf es.dropLast))) U (.lst [])) p (.lst (vsOf (es.dropLast.set 0 (es.getLast hne))))) (es.dropLast.set 0 (es.getLast hne)) := by
        refine (he.kp k3 hp).sub fun y hy => ?_
        rcases List.mem_or_eq_of_mem_set hy with hy | hy
        · exact (List.dropLast_sublist es).subset hy
        · rw [hy]
          exact List.getLast_mem hne
      refine ⟨_, rfl, _, rfl, p, _, 0, rfl, upd_same, h3, by rw [List.length_set]; exact hpos, fun H' k' h' => ?_⟩
      refine ⟨_, rfl, ?_⟩
      refine q H' (k3.trans k') ?_
      rw [ep]
      exact h'
/-! ### heapify_by -/
def spHeapifyBy (fS : Addr) : Sp := fun vs H Q _ => ∃ (p : Addr) (es : List Ent), vs = [.ref p, .ref fS] ∧ H p = some (.lst (vsOf es)) ∧ Ents H es ∧ es.length ≤ 100000 ∧
  ∀ H', Kp [p] H H' → H' p = some (.lst (vsOf (Hm.heapify Ent.t es))) → Q .non H'
theorem ok_heapifyBy (T : Txt K mg) : FnOk P w K mg base CX0 4 T.aHeapifyBy T.dHeapifyBy ["heap", "less"] (spHeapifyBy T.aIsSooner) := by
  have GSink : FnOk P w K mg base CX0 3 T.aSink T.dSink ["heap", "top", "less"] (spSink T.aIsSooner) := ok_sink T
  refine T.fHeapifyBy.ok scHeapifyBy (fun vs H Q E h => ?_) (fun cdv A outer s H vs Q E hr h => ?_)
  · obtain ⟨p, es, rfl, _⟩ := h
    rfl
  · obtain ⟨p, es, rfl, hp, he, hl, q⟩ := h
    refine ⟨_, (pss_one (ps_for PassesOwn.never rfl (pi_range3 (by rfl) T.n_range (pa_cons (pe_op op_sub (pe_op op_fdiv (pe_callB call_len_seq (by rfl) T.n_len PySem.boot_len (pa_cons (pv 0) pa_nil)) pe_int) pe_int) (pa_cons (pe_un un_neg pe_int) (pa_cons (pe_un un_neg pe_int) pa_nil)))) (pg_name (i := 2) scHeapifyBy.nd rfl (.inl rfl))
      (pss_one (ps_expr (pe_call GSink (hr.mono (by decide)) (by rfl) T.gSink T.fSink.kp T.bSink .nil pass0 (pa_cons (pv 0) (pa_cons (pv 2) (pa_cons (pv 1) pa_nil)))))))), ?_⟩
    have e1 : ((vsOf es).length : Int) / 2 - 1 = ((es.length / 2 : Nat) : Int) - 1 := by
      rw [vs_len]
      omega
    refine ⟨_, rfl, p, _, rfl, .inl (SqL.of hp), _, _, rfl, rfl, ⟨by decide, by decide⟩, _, _, rfl, rfl, _, rfl, _, rfl, _, _, _, es.length / 2, rfl, ?_, ?_⟩
    · have : (((es.length / 2 : Nat) : Int) - 1 - (-1)).toNat = es.length / 2 := by omega
      rw [e1]
      rw [← this]
      have r := RgC.neg (i := ((es.length / 2 : Nat) : Int) - 1) (j := -1) (by omega) (by omega) (by omega) (by omega)
      rw [this] at r ⊢
      exact r
    refine for_rangeC (fun i σ H3 => ∃ (es3 : List Ent) (y2 : Option V), σ = [some (.ref p), some (.ref T.aIsSooner), y2] ∧ es3.length = es.length ∧ Kp [p] H H3 ∧ H3 p = some (.lst (vsOf es3)) ∧ Ents H3 es3 ∧ Hm.heapTo Ent.t (es.length / 2 - i) es3 = Hm.heapify Ent.t es)
      ⟨es, none, rfl, rfl, Kp.refl _ _, hp, he, rfl⟩ (fun i σ H3 hi hW => ?_) (fun σ H3 hW => ?_)
    · obtain ⟨es3, y2, rfl, l3, k3, hp3, he3, r3⟩ := hW
      have e2 : ((vsOf es).length : Int) / 2 - 1 + (i : Int) * (-1) = ((es.length / 2 - i - 1 : Nat) : Int) := by
        rw [e1]
        omega
      dsimp only [gName]
      rw [e2]
      refine ⟨_, rfl, _, rfl, _, rfl, p, es3, es.length / 2 - i - 1, rfl, hp3, he3, by omega, fun H' k' h' => ?_⟩
      refine ⟨Hm.sink Ent.t es3 (es.length / 2 - i - 1), _, rfl, by rw [Hm.sink_len]; exact l3, k3.trans k', h', (he3.kp k' hp3).perm (Hm.sink_perm _ _ _), ?_⟩
      rw [← r3, show es.length / 2 - i = (es.length / 2 - i - 1) + 1 by omega]
      rfl
    · obtain ⟨es3, y2, rfl, l3, k3, hp3, he3, r3⟩ := hW
      refine q H3 k3 ?_
      rw [← r3, Nat.sub_self]
      exact hp3
end
end K14

namespace K14
open PySem PySem.Spec PyProof.Rows L2
/-! ### comprehensions: what is gathered so far, and the heap -/
theorem lcL {K : PySem.W.Frag} {a : Addr} {xs : List V} {j : Nat} {tt : TT} {te : TE} {vs : List Nat} {σ : L2.St} {H1 : Hp} {D : Addr} {Qd : Hp → Prop} (R : Nat → List V → Hp → Prop) (hn : xs.length ≤ 100000)
    (hw : ∀ x, wipe ((wipe σ vs).set j (some x)) vs = wipe σ vs)
    (hx : ∀ i acc H, R i acc H → SqL K H a xs) (h0 : R 0 [] (upd H1 D (.lst [])))
    (hs : ∀ i x acc H (Y : V → Hp → Prop) (Z : Hp → Prop), xs[i]? = some x → R i acc H → H D = some (.lst acc) → (∀ y H4, H4 D = some (.lst acc) → R (i + 1) (acc ++ [y]) (upd H4 D (.lst (acc ++ [y]))) → Y y H4) → (∀ H3, H3 D = some (.lst acc) → R (i + 1) acc H3 → Z H3) →
      tt ((wipe σ vs).set j (some x)) H fun b H3 => if b = true then te ((wipe σ vs).set j (some x)) H3 Y else Z H3)
    (hd : ∀ acc H, R xs.length acc H → H D = some (.lst acc) → Qd H) :
    ∃ W : Nat → Nat → Hp → Prop, (∃ m, W 0 m (upd H1 D (.lst []))) ∧ ∀ i m H, W i m H →
      ((Itl K a).stop i H ∧ Qd H) ∨ ((Itl K a).go i H ∧ ∃ Nx : Hp → Prop, (∀ H', Nx H' → ∃ m', m' < m ∧ W (i + 1) m' H') ∧ ∀ x H', (Itl K a).yld i H x H' → gName j x (wipe σ vs) H' fun σ2 H2 => wipe σ2 vs = wipe σ vs ∧ tt σ2 H2 fun b H3 =>
        if b = true then te σ2 H3 fun y H4 => ∃ acc, H4 D = some (.lst acc) ∧ acc.length < sizeLine ∧ Nx (upd H4 D (.lst (acc ++ [y]))) else Nx H3) := by
  refine lc_list (xs := xs) (fun i H => ∃ acc, acc.length ≤ i ∧ H D = some (.lst acc) ∧ R i acc H) ⟨[], Nat.le_refl _, upd_same, h0⟩ (fun i H _ ⟨acc, _, _, r⟩ => hx i acc H r) (fun i x H hi ⟨acc, ha, hD, r⟩ => ⟨hw x, ?_⟩) (fun H ⟨acc, _, hD, r⟩ => hd acc H r hD)
  have hi' : i < xs.length := (List.getElem?_eq_some_iff.mp hi).1
  exact hs i x acc H _ _ hi r hD (fun y H4 h4 r4 => ⟨acc, h4, Nat.lt_of_le_of_lt (show acc.length ≤ 100000 by omega) (by decide), acc ++ [y], by rw [List.length_append]; exact Nat.succ_le_succ ha, upd_same, r4⟩) (fun H3 h3 r3 => ⟨acc, Nat.le_succ_of_le ha, h3, r3⟩)
theorem lcR {lo : Int} {n : Nat} {j : Nat} {tt : TT} {te : TE} {vs : List Nat} {σ : L2.St} {H1 : Hp} {D : Addr} {Qd : Hp → Prop} (R : Nat → List V → Hp → Prop) (hn : n ≤ 100000)
    (hw : ∀ x, wipe ((wipe σ vs).set j (some x)) vs = wipe σ vs) (h0 : R 0 [] (upd H1 D (.lst [])))
    (hs : ∀ i acc H (Y : V → Hp → Prop) (Z : Hp → Prop), i < n → R i acc H → H D = some (.lst acc) → (∀ y H4, H4 D = some (.lst acc) → R (i + 1) (acc ++ [y]) (upd H4 D (.lst (acc ++ [y]))) → Y y H4) → (∀ H3, H3 D = some (.lst acc) → R (i + 1) acc H3 → Z H3) →
      tt ((wipe σ vs).set j (some (.int (lo + i)))) H fun b H3 => if b = true then te ((wipe σ vs).set j (some (.int (lo + i)))) H3 Y else Z H3)
    (hd : ∀ acc H, R n acc H → H D = some (.lst acc) → Qd H) :
    ∃ W : Nat → Nat → Hp → Prop, (∃ m, W 0 m (upd H1 D (.lst []))) ∧ ∀ i m H, W i m H →
      ((Itr lo n).stop i H ∧ Qd H) ∨ ((Itr lo n).go i H ∧ ∃ Nx : Hp → Prop, (∀ H', Nx H' → ∃ m', m' < m ∧ W (i + 1) m' H') ∧ ∀ x H', (Itr lo n).yld i H x H' → gName j x (wipe σ vs) H' fun σ2 H2 => wipe σ2 vs = wipe σ vs ∧ tt σ2 H2 fun b H3 =>
        if b = true then te σ2 H3 fun y H4 => ∃ acc, H4 D = some (.lst acc) ∧ acc.length < sizeLine ∧ Nx (upd H4 D (.lst (acc ++ [y]))) else Nx H3) := by
  refine lc_range (fun i H => ∃ acc, acc.length ≤ i ∧ H D = some (.lst acc) ∧ R i acc H) ⟨[], Nat.le_refl _, upd_same, h0⟩ (fun i H hi ⟨acc, ha, hD, r⟩ => ⟨hw _, ?_⟩) (fun H ⟨acc, _, hD, r⟩ => hd acc H r hD)
  exact hs i acc H _ _ hi r hD (fun y H4 h4 r4 => ⟨acc, h4, Nat.lt_of_le_of_lt (show acc.length ≤ 100000 by omega) (by decide), acc ++ [y], by rw [List.length_append]; exact Nat.succ_le_succ ha, upd_same, r4⟩) (fun H3 h3 r3 => ⟨acc, Nat.le_succ_of_le ha, h3, r3⟩)
/-- the same without a test -/
theorem lcLY {K : PySem.W.Frag} {a : Addr} {xs : List V} {j : Nat} {te : TE} {vs : List Nat} {σ : L2.St} {H1 : Hp} {D : Addr} {Qd : Hp → Prop} (R : Nat → List V → Hp → Prop) (hn : xs.length ≤ 100000)
    (hw : ∀ x, wipe ((wipe σ vs).set j (some x)) vs = wipe σ vs)
    (hx : ∀ i acc H, R i acc H → SqL K H a xs) (h0 : R 0 [] (upd H1 D (.lst [])))
    (hs : ∀ i x acc H (Y : V → Hp → Prop), xs[i]? = some x → R i acc H → H D = some (.lst acc) → (∀ y H4, H4 D = some (.lst acc) → R (i + 1) (acc ++ [y]) (upd H4 D (.lst (acc ++ [y]))) → Y y H4) → te ((wipe σ vs).set j (some x)) H Y)
    (hd : ∀ acc H, R xs.length acc H → H D = some (.lst acc) → Qd H) :
    ∃ W : Nat → Nat → Hp → Prop, (∃ m, W 0 m (upd H1 D (.lst []))) ∧ ∀ i m H, W i m H →
      ((Itl K a).stop i H ∧ Qd H) ∨ ((Itl K a).go i H ∧ ∃ Nx : Hp → Prop, (∀ H', Nx H' → ∃ m', m' < m ∧ W (i + 1) m' H') ∧ ∀ x H', (Itl K a).yld i H x H' → gName j x (wipe σ vs) H' fun σ2 H2 => wipe σ2 vs = wipe σ vs ∧ tYes σ2 H2 fun b H3 =>
        if b = true then te σ2 H3 fun y H4 => ∃ acc, H4 D = some (.lst acc) ∧ acc.length < sizeLine ∧ Nx (upd H4 D (.lst (acc ++ [y]))) else Nx H3) := by
  refine lcL (tt := tYes) R hn hw hx h0 (fun i x acc H Y Z a b c d e => ?_) hd
  show (if true = true then te ((wipe σ vs).set j (some x)) H Y else Z H)
  rw [if_pos rfl]
  exact hs i x acc H Y a b c d
theorem lcRY {lo : Int} {n : Nat} {j : Nat} {te : TE} {vs : List Nat} {σ : L2.St} {H1 : Hp} {D : Addr} {Qd : Hp → Prop} (R : Nat → List V → Hp → Prop) (hn : n ≤ 100000)
    (hw : ∀ x, wipe ((wipe σ vs).set j (some x)) vs = wipe σ vs) (h0 : R 0 [] (upd H1 D (.lst [])))
    (hs : ∀ i acc H (Y : V → Hp → Prop), i < n → R i acc H → H D = some (.lst acc) → (∀ y H4, H4 D = some (.lst acc) → R (i + 1) (acc ++ [y]) (upd H4 D (.lst (acc ++ [y]))) → Y y H4) → te ((wipe σ vs).set j (some (.int (lo + i)))) H Y)
    (hd : ∀ acc H, R n acc H → H D = some (.lst acc) → Qd H) :
    ∃ W : Nat → Nat → Hp → Prop, (∃ m, W 0 m (upd H1 D (.lst []))) ∧ ∀ i m H, W i m H →
      ((Itr lo n).stop i H ∧ Qd H) ∨ ((Itr lo n).go i H ∧ ∃ Nx : Hp → Prop, (∀ H', Nx H' → ∃ m', m' < m ∧ W (i + 1) m' H') ∧ ∀ x H', (Itr lo n).yld i H x H' → gName j x (wipe σ vs) H' fun σ2 H2 => wipe σ2 vs = wipe σ vs ∧ tYes σ2 H2 fun b H3 =>
        if b = true then te σ2 H3 fun y H4 => ∃ acc, H4 D = some (.lst acc) ∧ acc.length < sizeLine ∧ Nx (upd H4 D (.lst (acc ++ [y]))) else Nx H3) := by
  refine lcR (tt := tYes) R hn hw h0 (fun i acc H Y Z a b c d e => ?_) hd
  show (if true = true then te ((wipe σ vs).set j (some (.int (lo + i)))) H Y else Z H)
  rw [if_pos rfl]
  exact hs i acc H Y a b c d
section
variable {P : Program} {w : World} {K : PySem.W.Frag} {mg : Str → Option Value} {base : Heap}
/-! ### is_whole, is_entry -/
def spIsWhole : Sp := fun vs H Q _ => ∃ i : Int, vs = [.int i] ∧ Q (.bl true) H
theorem ok_isWhole (T : Txt K mg) : FnOk P w K mg base CX0 1 T.aIsWhole T.dIsWhole ["thing"] spIsWhole := by
  refine T.fIsWhole.ok scIsWhole (fun vs H Q E h => ?_) (fun cdv A outer s H vs Q E hr h => ?_)
  · obtain ⟨i, rfl, _⟩ := h
    rfl
  · obtain ⟨i, rfl, q⟩ := h
    refine ⟨_, (pss_one (ps_ret (pe_and (pe_callB call_isi (by rfl) T.n_isinstance (by decide +kernel) (pa_cons (pv 0) (pa_cons (pe_bltn (v := .ty "int") (by rfl) T.n_int (by decide +kernel) rfl) pa_nil))) (pe_one (pe_not (pe_callB call_isi (by rfl) T.n_isinstance (by decide +kernel) (pa_cons (pv 0) (pa_cons (pe_bltn (v := .ty "bool") (by rfl) T.n_bool (by decide +kernel) rfl) pa_nil)))))))), ?_⟩
    refine ⟨_, rfl, _, _, _, _, true, rfl, ClsV.ty _, TyX.base (.int i), kit_ty (by decide +kernel), true, rfl, iteT ?_⟩
    exact ⟨_, rfl, _, _, _, _, false, rfl, ClsV.ty _, TyX.base (.int i), kit_ty (by decide +kernel), false, rfl, q⟩
def spIsEntry : Sp := fun vs H Q _ => ∃ e : Ent, vs = [e.v] ∧ EntAt H e ∧ Q (.bl true) H
theorem ok_isEntry (T : Txt K mg) : FnOk P w K mg base CX0 2 T.aIsEntry T.dIsEntry ["thing"] spIsEntry := by
  have GIsWhole : FnOk P w K mg base CX0 1 T.aIsWhole T.dIsWhole ["thing"] spIsWhole := ok_isWhole T
  refine T.fIsEntry.ok scIsEntry (fun vs H Q E h => ?_) (fun cdv A outer s H vs Q E hr h => ?_)
  · obtain ⟨i, rfl, _⟩ := h
    rfl
  · obtain ⟨e, rfl, he, q⟩ := h
    refine ⟨_, (pss_one (ps_ret (pe_and (pe_callB call_isi (by rfl) T.n_isinstance (by decide +kernel) (pa_cons (pv 0) (pa_cons (pe_bltn (v := .ty "tuple") (by rfl) T.n_tuple (by decide +kernel) rfl) pa_nil))) (pe_and (pe_cmpR op_eq (pe_callB call_len_seq (by rfl) T.n_len PySem.boot_len (pa_cons (pv 0) pa_nil)) pe_int (nomark _)) (pe_and (pe_call GIsWhole (hr.mono (by decide)) (by rfl) T.gIsWhole T.fIsWhole.kp T.bIsWhole .nil pass0 (pa_cons (pe_ix (r := rIxT K) ix_tup (pv 0) pe_int (fun _ _ => rfl)) pa_nil)) (pe_one (pe_call GIsWhole (hr.mono (by decide)) (by rfl) T.gIsWhole T.fIsWhole.kp T.bIsWhole .nil pass0 (pa_cons (pe_ix (r := rIxT K) ix_tup (pv 0) pe_int (fun _ _ => rfl)) pa_nil)))))))), ?_⟩
    refine ⟨_, rfl, _, _, _, _, true, rfl, ClsV.ty _, TyX.base (.tup he), kit_ty (by decide +kernel), true, rfl, iteT ?_⟩
    refine ⟨_, rfl, _, _, rfl, .inr (SqT.of he), rfl, true, rfl, iteT ?_⟩
    refine ⟨_, rfl, _, _, 0, _, rfl, rfl, SqT.of he, atI_nat (j := 0) rfl, e.t, rfl, true, rfl, iteT ?_⟩
    exact ⟨_, rfl, _, _, 1, _, rfl, rfl, SqT.of he, atI_nat (j := 1) rfl, e.k, rfl, q⟩
/-! ### check_rows -/
def spCheckRows : Sp := fun vs H Q _ => ∃ (p : Addr) (es : List Ent), vs = [.ref p] ∧ H p = some (.lst (vsOf es)) ∧ Ents H es ∧ es.length ≤ 5000 ∧ ∀ H', Same H H' → Q .non H'
theorem ok_checkRows (T : Txt K mg) : FnOk P w K mg base CX0 3 T.aCheckRows T.dCheckRows ["rows"] spCheckRows := by
  obtain ⟨tM, gM⟩ := T.gMOST
  have GIsEntry : FnOk P w K mg base CX0 2 T.aIsEntry T.dIsEntry ["thing"] spIsEntry := ok_isEntry T
  refine T.fCheckRows.ok scCheckRows (fun vs H Q E h => ?_) (fun cdv A outer s H vs Q E hr h => ?_)
  · obtain ⟨p, es, rfl, _⟩ := h
    rfl
  · obtain ⟨p, es, rfl, hp, he, hl, q⟩ := h
    refine ⟨_, (pss_one (ps_if (PW.pt (pw_or (pt_not (pt_val (pe_callB call_isi (by rfl) T.n_isinstance (by decide +kernel) (pa_cons (pv 0) (pa_cons (pe_bltn (v := .ty "list") (by rfl) T.n_list (by decide +kernel) rfl) pa_nil))))) (pw_or (pt_cmpR op_gt (pe_callB call_len_seq (by rfl) T.n_len PySem.boot_len (pa_cons (pv 0) pa_nil)) (pe_glob (v := .int 5000) (by rfl) gM ⟨_, rfl⟩) (nomark _)) (pw_or1 (pt_not (pt_val (pe_callB (cr_all rfl) (by rfl) T.n_all (by decide +kernel) (pa_cons (pe_lc (own := [("one", 1)]) (g := gName 1) rfl scCheckRows.nd (pi_list (pv 0)) (blkOk_by (own := [("one", 1)]) (N := ["rows", "one"]) (sc := defScope sCheckRows) (by decide +kernel)) (fun _ _ _ _ _ => (pg_name (i := 1) scCheckRows.nd rfl (.inl rfl))) (fun _ _ _ _ _ => pts_nil) (fun _ _ _ _ _ => (pe_call GIsEntry (hr.mono (by decide)) (by rfl) T.gIsEntry T.fIsEntry.kp T.bIsEntry .nil pass0 (pa_cons (pv 1) pa_nil)))) pa_nil))))))))
      (pss_one ps_never)
      pss_nil)), ?_⟩
    refine ⟨_, rfl, _, _, _, _, true, rfl, ClsV.ty _, TyX.base (.lst hp), kit_ty (by decide +kernel), true, rfl, iteF ?_⟩
    refine ⟨_, rfl, p, _, rfl, .inl (SqL.of hp), _, _, rfl, rfl, _, rfl, ?_⟩
    rw [show decide ((5000 : Int) < ((vsOf es).length : Int)) = false from decide_eq_false (by rw [vs_len]; omega)]
    refine iteF ?_
    refine ⟨_, rfl, p, rfl, ⟨_, SqL.of hp⟩, fun D nD => ?_⟩
    have npD : p ≠ D := ne_of_none hp nD
    refine lcLY (xs := vsOf es) (fun i acc H3 => Same H H3 ∧ acc = List.replicate i (V.bl true)) (by rw [vs_len]; omega) (fun x => rfl) (fun i acc H3 r => SqL.of (r.1 _ _ hp)) ⟨same_new nD, rfl⟩ ?_ ?_
    · intro i x acc H3 Y hx ⟨s3, e3⟩ hD hY
      rw [List.getElem?_map] at hx
      obtain ⟨e, he1, rfl⟩ := Option.map_eq_some_iff.mp hx
      refine ⟨_, rfl, e, rfl, s3 _ _ (he e (List.mem_of_getElem? he1)), hY _ _ hD ⟨?_, ?_⟩⟩
      · exact kp_same s3 nD ((Kp.refl _ _).wr (List.mem_singleton.mpr rfl))
      · rw [e3, List.replicate_succ']
    · intro acc H3 ⟨s3, e3⟩ hD
      refine ⟨D, List.replicate es.length true, rfl, SqL.of ?_, true, ?_, iteF (q H3 s3)⟩
      · rw [hD, e3, vs_len, List.map_replicate]
      · have : (List.replicate es.length true).all id = true := by
          rw [List.all_eq_true]
          intro b hb
          rw [List.eq_of_mem_replicate hb]
          rfl
        rw [this]
end
end K14

namespace K14
open PySem PySem.Spec PyProof.Rows L2
section
variable {P : Program} {w : World} {K : PySem.W.Frag} {mg : Str → Option Value} {base : Heap}
/-! ### is_heap -/
def spIsHeap : Sp := fun vs H Q _ => ∃ (p : Addr) (es : List Ent), vs = [.ref p] ∧ H p = some (.lst (vsOf es)) ∧ Ents H es ∧ es.length ≤ 5000 ∧ ∀ H', Same H H' → Q (.bl (Hm.isHeapB Ent.t es)) H'
theorem ok_isHeap (T : Txt K mg) : FnOk P w K mg base CX0 4 T.aIsHeap T.dIsHeap ["rows"] spIsHeap := by
  have GCheckRows : FnOk P w K mg base CX0 3 T.aCheckRows T.dCheckRows ["rows"] spCheckRows := ok_checkRows T
  have GIsSooner : FnOk P w K mg base CX0 1 T.aIsSooner T.dIsSooner ["one", "other"] spSooner := ok_sooner T
  refine T.fIsHeap.ok scIsHeap (fun vs H Q E h => ?_) (fun cdv A outer s H vs Q E hr h => ?_)
  · obtain ⟨p, es, rfl, _⟩ := h
    rfl
  · obtain ⟨p, es, rfl, hp, he, hl, q⟩ := h
    refine ⟨_, (pss_cons (ps_expr (pe_call GCheckRows (hr.mono (by decide)) (by rfl) T.gCheckRows T.fCheckRows.kp T.bCheckRows .nil pass0 (pa_cons (pv 0) pa_nil)))
      (pss_one (ps_ret (pe_not (pe_callB (cr_any rfl) (by rfl) T.n_any (by decide +kernel) (pa_cons (pe_lc (own := [("place", 1)]) (g := gName 1) rfl scIsHeap.nd (pi_range2 (by rfl) T.n_range (pa_cons pe_int (pa_cons (pe_callB call_len_seq (by rfl) T.n_len PySem.boot_len (pa_cons (pv 0) pa_nil)) pa_nil))) (blkOk_by (own := [("place", 1)]) (N := ["rows", "place"]) (sc := defScope sIsHeap) (by decide +kernel)) (fun _ _ _ _ _ => (pg_name (i := 1) scIsHeap.nd rfl (.inl rfl))) (fun _ _ _ _ _ => pts_nil) (fun _ _ _ _ _ => (pe_call GIsSooner (hr.mono (by decide)) (by rfl) T.gIsSooner T.fIsSooner.kp T.bIsSooner .nil pass0 (pa_cons (pe_ix (r := rIxL K) ix_list (pv 0) (pv 1) (fun _ _ => rfl)) (pa_cons (pe_ix (r := rIxL K) ix_list (pv 0) (pe_op op_fdiv (pe_op op_sub (pv 1) pe_int) pe_int) (fun _ _ => rfl)) pa_nil))))) pa_nil)))))), ?_⟩
    refine ⟨_, rfl, p, es, rfl, hp, he, hl, fun H1 s1 => ?_⟩
    have hp1 := s1 _ _ hp
    have he1 := he.same s1
    refine ⟨_, rfl, p, _, rfl, .inl (SqL.of hp1), 1, _, rfl, ⟨by decide, by decide, by rw [vs_len]; omega, by rw [vs_len]; omega⟩, fun D nD => ?_⟩
    have en : (((vsOf es).length : Int) - 1).toNat = es.length - 1 := by
      rw [vs_len]
      omega
    rw [en]
    refine lcRY (n := es.length - 1) (fun i acc H3 => Same H1 H3 ∧ acc = ((List.range i).map fun i => Hm.lss Ent.t es (i + 1) (i / 2)).map V.bl) (by omega) (fun x => rfl) ⟨same_new nD, rfl⟩ ?_ ?_
    · intro i acc H3 Y hi ⟨s3, e3⟩ hD hY
      have hp3 := s3 _ _ hp1
      have he3 := he1.same s3
      obtain ⟨x, hx⟩ : ∃ x, es[i + 1]? = some x := ⟨_, List.getElem?_eq_getElem (by omega)⟩
      obtain ⟨y, hy⟩ : ∃ y, es[i / 2]? = some y := ⟨_, List.getElem?_eq_getElem (by omega)⟩
      refine ⟨_, rfl, _, rfl, p, _, _, x.v, rfl, rfl, SqL.of hp3, ?_, _, rfl, _, rfl, _, _, rfl, rfl, _, _, rfl, rfl, ⟨by decide, by decide⟩, p, _, _, y.v, rfl, rfl, SqL.of hp3, ?_, x, y, rfl, he3 x (List.mem_of_getElem? hx), he3 y (List.mem_of_getElem? hy), hY _ _ hD ⟨?_, ?_⟩⟩
      · rw [show (1 : Int) + (i : Int) = ((i + 1 : Nat) : Int) by omega]
        exact atI_nat (vs_at hx)
      · rw [show ((1 : Int) + (i : Int) - 1) / 2 = ((i / 2 : Nat) : Int) by omega]
        exact atI_nat (vs_at hy)
      · exact kp_same s3 nD ((Kp.refl _ _).wr (List.mem_singleton.mpr rfl))
      · rw [e3, List.range_succ, List.map_append, List.map_append]
        have : Hm.lss Ent.t es (i + 1) (i / 2) = decide (x.t < y.t) := by
          unfold Hm.lss
          rw [hx, hy]
        show _ = _ ++ [V.bl (Hm.lss Ent.t es (i + 1) (i / 2))]
        rw [this]
    · intro acc H3 ⟨s3, e3⟩ hD
      rw [e3] at hD
      exact ⟨D, _, rfl, SqL.of hD, _, rfl, q H3 (s1.trans s3)⟩
/-! ### pushed -/
def spPushed : Sp := fun vs H Q _ => ∃ (p : Addr) (es : List Ent) (e : Ent), vs = [.ref p, e.v] ∧ H p = some (.lst (vsOf es)) ∧ Ents H es ∧ EntAt H e ∧ es.length ≤ 5000 ∧
  ∀ H' l, Same H H' → H l = none → H' l = some (.lst (vsOf (Hm.push Ent.t es e))) → Q (.ref l) H'
theorem ok_pushed (T : Txt K mg) : FnOk P w K mg base CX0 4 T.aPushed T.dPushed ["rows", "entry"] spPushed := by
  have GCheckRows : FnOk P w K mg base CX0 3 T.aCheckRows T.dCheckRows ["rows"] spCheckRows := ok_checkRows T
  have GIsEntry : FnOk P w K mg base CX0 2 T.aIsEntry T.dIsEntry ["thing"] spIsEntry := ok_isEntry T
  have GPushBy : FnOk P w K mg base CX0 3 T.aPushBy T.dPushBy ["heap", "item", "less"] (spPushBy T.aIsSooner) := ok_pushBy T
  refine T.fPushed.ok scPushed (fun vs H Q E h => ?_) (fun cdv A outer s H vs Q E hr h => ?_)
  · obtain ⟨p, es, e, rfl, _⟩ := h
    rfl
  · obtain ⟨p, es, e, rfl, hp, he, hE, hl, q⟩ := h
    refine ⟨_, (pss_cons (ps_expr (pe_call GCheckRows (hr.mono (by decide)) (by rfl) T.gCheckRows T.fCheckRows.kp T.bCheckRows .nil pass0 (pa_cons (pv 0) pa_nil)))
      (pss_cons (ps_if (pt_not (pt_val (pe_call GIsEntry (hr.mono (by decide)) (by rfl) T.gIsEntry T.fIsEntry.kp T.bIsEntry .nil pass0 (pa_cons (pv 1) pa_nil))))
      (pss_one ps_never)
      pss_nil)
      (pss_cons (ps_set (i := 2) scPushed.nd rfl (.inl rfl) (pe_callTy call_list_of (by rfl) T.n_list (by decide +kernel) (pa_cons (pv 0) pa_nil)))
      (pss_cons (ps_expr (pe_call GPushBy (hr.mono (by decide)) (by rfl) T.gPushBy T.fPushBy.kp T.bPushBy .nil pass0 (pa_cons (pv 2) (pa_cons (pv 1) (pa_cons (pe_glob (v := .ref T.aIsSooner) (by rfl) T.gIsSooner rfl) pa_nil)))))
      (pss_one (ps_ret (pv 2))))))), ?_⟩
    refine ⟨_, rfl, p, es, rfl, hp, he, hl, fun H1 s1 => ?_⟩
    have hp1 := s1 _ _ hp
    have he1 := he.same s1
    have hE1 : EntAt H1 e := s1 _ _ hE
    refine ⟨_, rfl, e, rfl, hE1, true, rfl, iteF ?_⟩
    refine ⟨_, rfl, p, _, rfl, .inl (SqL.of hp1), fun l nl => ?_⟩
    have s2 := same_new (o := .lst (vsOf es)) nl
    refine ⟨_, rfl, _, rfl, l, es, e, rfl, upd_same, he1.same s2, s2 _ _ hE1, by omega, fun H' k' h' => ?_⟩
    exact ⟨_, rfl, q H' l (kp_same (s1.trans s2) (s1.free nl) k') (s1.free nl) h'⟩
/-! ### popped -/
def spPopped : Sp := fun vs H Q _ => ∃ (p : Addr) (es : List Ent) (x : Ent), vs = [.ref p] ∧ H p = some (.lst (vsOf es)) ∧ Ents H es ∧ es[0]? = some x ∧ es.length ≤ 5000 ∧
  ∀ H' u l, Same H H' → H l = none → H u = none → H' u = some (.tup [x.v, .ref l]) → H' l = some (.lst (vsOf (Hm.popL Ent.t es))) → Q (.ref u) H'
theorem ok_popped (T : Txt K mg) : FnOk P w K mg base CX0 5 T.aPopped T.dPopped ["rows"] spPopped := by
  have GCheckRows : FnOk P w K mg base CX0 3 T.aCheckRows T.dCheckRows ["rows"] spCheckRows := ok_checkRows T
  have GPopBy : FnOk P w K mg base CX0 4 T.aPopBy T.dPopBy ["heap", "less"] (spPopBy T.aIsSooner) := ok_popBy T
  refine T.fPopped.ok scPopped (fun vs H Q E h => ?_) (fun cdv A outer s H vs Q E hr h => ?_)
  · obtain ⟨p, es, x, rfl, _⟩ := h
    rfl
  · obtain ⟨p, es, x, rfl, hp, he, hx, hl, q⟩ := h
    refine ⟨_, (pss_cons (ps_expr (pe_call GCheckRows (hr.mono (by decide)) (by rfl) T.gCheckRows T.fCheckRows.kp T.bCheckRows .nil pass0 (pa_cons (pv 0) pa_nil)))
      (pss_cons (ps_if (pt_cmpR (r := rEqD K) (op_eqD hr.units) (pv 0) (pe_lst pa_nil) (nomark _))
      (pss_one ps_never)
      pss_nil)
      (pss_cons (ps_set (i := 1) scPopped.nd rfl (.inl rfl) (pe_callTy call_list_of (by rfl) T.n_list (by decide +kernel) (pa_cons (pv 0) pa_nil)))
      (pss_cons (ps_set (i := 2) scPopped.nd rfl (.inl rfl) (pe_call GPopBy (hr.mono (by decide)) (by rfl) T.gPopBy T.fPopBy.kp T.bPopBy .nil pass0 (pa_cons (pv 1) (pa_cons (pe_glob (v := .ref T.aIsSooner) (by rfl) T.gIsSooner rfl) pa_nil))))
      (pss_one (ps_ret (pe_tup (pa_cons (pv 2) (pa_cons (pv 1) pa_nil))))))))), ?_⟩
    refine ⟨_, rfl, p, es, rfl, hp, he, hl, fun H1 s1 => ?_⟩
    have hp1 := s1 _ _ hp
    have he1 := he.same s1
    refine ⟨_, rfl, Nat.zero_le _, fun U nU => ?_⟩
    have s2 := same_new (o := .lst []) nU
    refine ⟨rowsD es, .list [], dp_rows (SqL.of (s2 _ _ hp1)) (he1.same s2), dp_emp (SqL.of upd_same), shaped_rows _, rfl, _, rfl, ?_⟩
    rw [eqv_rows0]
    have e0 : es.isEmpty = false := by
      cases es with
      | nil => simp at hx
      | cons a r => rfl
    rw [e0]
    refine iteF ?_
    refine ⟨_, rfl, p, _, rfl, .inl (SqL.of (s2 _ _ hp1)), fun l nl => ?_⟩
    have s3 := same_new (o := .lst (vsOf es)) nl
    refine ⟨_, rfl, l, es, x, rfl, upd_same, (he1.same s2).same s3, hx, fun H' k' h' => ?_⟩
    have s123 := s1.trans (s2.trans s3)
    have nl0 : H l = none := (s1.trans s2).free nl
    have s' := kp_same s123 nl0 k'
    refine ⟨_, rfl, _, rfl, (by show 2 ≤ sizeLine; decide), fun u nu => ?_⟩
    have s4 := same_new (o := .tup [x.v, .ref l]) nu
    exact q _ u l (s'.trans s4) nl0 (s'.free nu) upd_same (s4 _ _ h')
/-! ### heaped -/
def spHeaped : Sp := fun vs H Q _ => ∃ (p : Addr) (es : List Ent), vs = [.ref p] ∧ H p = some (.lst (vsOf es)) ∧ Ents H es ∧ es.length ≤ 5000 ∧
  ∀ H' l, Same H H' → H l = none → H' l = some (.lst (vsOf (Hm.heapify Ent.t es))) → Q (.ref l) H'
theorem ok_heaped (T : Txt K mg) : FnOk P w K mg base CX0 5 T.aHeaped T.dHeaped ["rows"] spHeaped := by
  have GCheckRows : FnOk P w K mg base CX0 3 T.aCheckRows T.dCheckRows ["rows"] spCheckRows := ok_checkRows T
  have GHeapifyBy : FnOk P w K mg base CX0 4 T.aHeapifyBy T.dHeapifyBy ["heap", "less"] (spHeapifyBy T.aIsSooner) := ok_heapifyBy T
  refine T.fHeaped.ok scHeaped (fun vs H Q E h => ?_) (fun cdv A outer s H vs Q E hr h => ?_)
  · obtain ⟨p, es, rfl, _⟩ := h
    rfl
  · obtain ⟨p, es, rfl, hp, he, hl, q⟩ := h
    refine ⟨_, (pss_cons (ps_expr (pe_call GCheckRows (hr.mono (by decide)) (by rfl) T.gCheckRows T.fCheckRows.kp T.bCheckRows .nil pass0 (pa_cons (pv 0) pa_nil)))
      (pss_cons (ps_set (i := 1) scHeaped.nd rfl (.inl rfl) (pe_callTy call_list_of (by rfl) T.n_list (by decide +kernel) (pa_cons (pv 0) pa_nil)))
      (pss_cons (ps_expr (pe_call GHeapifyBy (hr.mono (by decide)) (by rfl) T.gHeapifyBy T.fHeapifyBy.kp T.bHeapifyBy .nil pass0 (pa_cons (pv 1) (pa_cons (pe_glob (v := .ref T.aIsSooner) (by rfl) T.gIsSooner rfl) pa_nil))))
      (pss_one (ps_ret (pv 1)))))), ?_⟩
    refine ⟨_, rfl, p, es, rfl, hp, he, hl, fun H1 s1 => ?_⟩
    have hp1 := s1 _ _ hp
    have he1 := he.same s1
    refine ⟨_, rfl, p, _, rfl, .inl (SqL.of hp1), fun l nl => ?_⟩
    have s2 := same_new (o := .lst (vsOf es)) nl
    refine ⟨_, rfl, l, es, rfl, upd_same, he1.same s2, by omega, fun H' k' h' => ?_⟩
    exact ⟨_, rfl, q H' l (kp_same (s1.trans s2) (s1.free nl) k') (s1.free nl) h'⟩
/-! ### ripe -/
def spRipe : Sp := fun vs H Q _ => ∃ (p : Addr) (es : List Ent) (now : Int), vs = [.ref p, .int now] ∧ H p = some (.lst (vsOf es)) ∧ Ents H es ∧ es.length ≤ 5000 ∧
  ∀ H' u o l, Same H H' → H o = none → H l = none → H u = none → H' u = some (.tup [.ref o, .ref l]) → H' o = some (.lst (vsOf (Hm.ripe Ent.t now es.length es).1)) → H' l = some (.lst (vsOf (Hm.ripe Ent.t now es.length es).2)) → Q (.ref u) H'
theorem ok_ripe (T : Txt K mg) : FnOk P w K mg base CX0 5 T.aRipe T.dRipe ["rows", "now"] spRipe := by
  have GCheckRows : FnOk P w K mg base CX0 3 T.aCheckRows T.dCheckRows ["rows"] spCheckRows := ok_checkRows T
  have GIsWhole : FnOk P w K mg base CX0 1 T.aIsWhole T.dIsWhole ["thing"] spIsWhole := ok_isWhole T
  have GPopBy : FnOk P w K mg base CX0 4 T.aPopBy T.dPopBy ["heap", "less"] (spPopBy T.aIsSooner) := ok_popBy T
  refine T.fRipe.ok scRipe (fun vs H Q E h => ?_) (fun cdv A outer s H vs Q E hr h => ?_)
  · obtain ⟨p, es, now, rfl, _⟩ := h
    rfl
  · obtain ⟨p, es, now, rfl, hp, he, hl, q⟩ := h
    refine ⟨_, (pss_cons (ps_expr (pe_call GCheckRows (hr.mono (by decide)) (by rfl) T.gCheckRows T.fCheckRows.kp T.bCheckRows .nil pass0 (pa_cons (pv 0) pa_nil)))
      (pss_cons (ps_if (pt_not (pt_val (pe_call GIsWhole (hr.mono (by decide)) (by rfl) T.gIsWhole T.fIsWhole.kp T.bIsWhole .nil pass0 (pa_cons (pv 1) pa_nil))))
      (pss_one ps_never)
      pss_nil)
      (pss_cons (ps_par (by rfl) scRipe.nd (i := 2) (j := 3) rfl rfl (by decide) rfl rfl (pa_cons (pe_lst pa_nil) (pa_cons (pe_callTy call_list_of (by rfl) T.n_list (by decide +kernel) (pa_cons (pv 0) pa_nil)) pa_nil)) (by rfl))
      (pss_cons (ps_while PassesOwn.never (PW.pt (pw_and (pt_cmpR (r := rNeD K) (op_neD hr.units) (pv 3) (pe_lst pa_nil) (nomark _)) (pw_and1 (pt_cmpR op_le (pe_ix (r := rIxT K) ix_tup (pe_ix (r := rIxL K) ix_list (pv 3) pe_int (fun _ _ => rfl)) pe_int (fun _ _ => rfl)) (pv 1) (nomark _)))))
      (pss_one (ps_expr (pe_bm PySem.F.plainAttrs_list PySem.F.slot_list_append PySem.F.type_list_append mt_append (pv 2) (pa_cons (pe_call GPopBy (hr.mono (by decide)) (by rfl) T.gPopBy T.fPopBy.kp T.bPopBy .nil pass0 (pa_cons (pv 3) (pa_cons (pe_glob (v := .ref T.aIsSooner) (by rfl) T.gIsSooner rfl) pa_nil))) pa_nil)))))
      (pss_one (ps_ret (pe_tup (pa_cons (pv 2) (pa_cons (pv 3) pa_nil))))))))), ?_⟩
    refine ⟨_, rfl, p, es, rfl, hp, he, hl, fun H1 s1 => ?_⟩
    have hp1 := s1 _ _ hp
    have he1 := he.same s1
    refine ⟨_, rfl, now, rfl, true, rfl, iteF ?_⟩
    -- out, left = ([], list(rows))
    refine ⟨Nat.zero_le _, fun o no => ?_⟩
    have s2 := same_new (o := .lst []) no
    refine ⟨_, rfl, p, _, rfl, .inl (SqL.of (s2 _ _ hp1)), fun l nl => ?_⟩
    have s3 := same_new (o := .lst (vsOf es)) nl
    have s123 := s1.trans (s2.trans s3)
    have nol : o ≠ l := ne_of_none (H := upd H1 o (.lst [])) upd_same nl
    have no0 : H o = none := s1.free no
    have nl0 : H l = none := (s1.trans s2).free nl
    refine ⟨_, _, rfl, ?_⟩
    refine ⟨fun m σ H3 => ∃ (os ls : List Ent), σ = [some (.ref p), some (.int now), some (.ref o), some (.ref l)] ∧ m = ls.length ∧ os.length + ls.length = es.length ∧ Same H H3 ∧ H3 o = some (.lst (vsOf os)) ∧ H3 l = some (.lst (vsOf ls)) ∧ Ents H3 os ∧ Ents H3 ls ∧
        os ++ (Hm.ripe Ent.t now ls.length ls).1 = (Hm.ripe Ent.t now es.length es).1 ∧ (Hm.ripe Ent.t now ls.length ls).2 = (Hm.ripe Ent.t now es.length es).2,
      ⟨_, [], es, rfl, rfl, Nat.zero_add _, s123, s3 _ _ upd_same, upd_same, (fun e z => nomatch z), (he1.same s2).same s3, rfl, rfl⟩, fun m σ H3 hW => ?_⟩
    obtain ⟨os, ls, rfl, rfl, hol, sm, ho3, hl3, heo, hel, r1, r2⟩ := hW
    -- left != []
    refine ⟨_, rfl, Nat.zero_le _, fun U nU => ?_⟩
    have s4 := same_new (o := .lst []) nU
    have ho4 := s4 _ _ ho3
    have hl4 := s4 _ _ hl3
    have heo4 := heo.same s4
    have hel4 := hel.same s4
    refine ⟨rowsD ls, .list [], dp_rows (SqL.of hl4) hel4, dp_emp (SqL.of upd_same), shaped_rows _, rfl, _, rfl, ?_⟩
    rw [eqv_rows0]
    have done : ∀ H5, Same H H5 → H5 o = some (.lst (vsOf (Hm.ripe Ent.t now es.length es).1)) → H5 l = some (.lst (vsOf (Hm.ripe Ent.t now es.length es).2)) →
        ∃ v : V, [some (V.ref p), some (V.int now), some (V.ref o), some (V.ref l)][2]? = some (some v) ∧ ∃ v' : V, [some (V.ref p), some (V.int now), some (V.ref o), some (V.ref l)][3]? = some (some v') ∧ [v, v'].length ≤ sizeLine ∧ ∀ u, H5 u = none → Q (.ref u) (upd H5 u (.tup [v, v'])) := by
      intro H5 s5 a5 b5
      refine ⟨_, rfl, _, rfl, (by show 2 ≤ sizeLine; decide), fun u nu => ?_⟩
      have s6 := same_new (o := .tup [.ref o, .ref l]) nu
      exact q _ u o l (s5.trans s6) no0 nl0 (s5.free nu) upd_same (s6 _ _ a5) (s6 _ _ b5)
    cases ls with
    | nil =>
      refine iteF ?_
      rw [Hm.ripe_nil] at r1 r2
      refine done _ (sm.trans s4) ?_ ?_
      · rw [← r1, List.append_nil]
        exact ho4
      · rw [← r2]
        exact hl4
    | cons x r =>
      refine iteT ?_
      have hx := hel4 x List.mem_cons_self
      refine ⟨_, rfl, l, _, 0, x.v, rfl, rfl, SqL.of hl4, atI_nat (j := 0) rfl, _, _, 0, .int x.t, rfl, rfl, SqT.of hx, atI_nat (j := 0) rfl, _, rfl, _, _, rfl, rfl, _, rfl, ite2 (fun c => ?_) (fun c => ?_)⟩
      · have c' : x.t ≤ now := of_decide_eq_true c
        rw [Hm.ripe_yes c'] at r1 r2
        refine ⟨fun σ' H' => ∃ (os ls : List Ent), σ' = [some (.ref p), some (.int now), some (.ref o), some (.ref l)] ∧ ls.length < (x :: r).length ∧ os.length + ls.length = es.length ∧ Same H H' ∧ H' o = some (.lst (vsOf os)) ∧ H' l = some (.lst (vsOf ls)) ∧ Ents H' os ∧ Ents H' ls ∧
          os ++ (Hm.ripe Ent.t now ls.length ls).1 = (Hm.ripe Ent.t now es.length es).1 ∧ (Hm.ripe Ent.t now ls.length ls).2 = (Hm.ripe Ent.t now es.length es).2, fun σ' H' hN => ?_, ?_⟩
        · obtain ⟨os', ls', e1, l1, rest⟩ := hN
          exact ⟨ls'.length, l1, os', ls', e1, rfl, rest⟩
        · refine ⟨_, rfl, .inl ⟨rfl, _, SqL.of ho4⟩, _, rfl, l, x :: r, x, rfl, hl4, hel4, rfl, fun H5 k5 h5 => ?_⟩
          have ho5 : H5 o = some (.lst (vsOf os)) := k5 _ _ (fun z => nol (List.mem_singleton.mp z)) ho4
          have lp := Hm.pop_len Ent.t (l := x :: r) (List.cons_ne_nil _ _)
          refine ⟨o, _, _, rfl, rfl, ho5, ?_, ?_⟩
          · rw [vs_len]
            exact Nat.lt_of_le_of_lt (show os.length ≤ 5000 by omega) (by decide)
          have ev : vsOf os ++ [x.v] = vsOf (os ++ [x]) := by
            show _ = List.map Ent.v _
            rw [List.map_append]
            rfl
          have s5 : Same H H5 := kp_same (sm.trans s4) nl0 k5
          have k6 : Kp [o] H5 (upd H5 o (.lst (vsOf os ++ [x.v]))) := (Kp.refl _ _).wr (List.mem_singleton.mpr rfl)
          have hel5 : Ents H5 (x :: r) := hel4.kp k5 hl4
          have heo5 : Ents H5 os := heo4.kp k5 hl4
          refine ⟨os ++ [x], Hm.popL Ent.t (x :: r), rfl, by omega, by rw [List.length_append]; show os.length + 1 + _ = _; rw [← hol, ← lp]; omega, kp_same s5 no0 k6, by rw [upd_same, ev], ?_, ?_, ?_, ?_, r2⟩
          · rw [upd_ne (Ne.symm nol)]
            exact h5
          · refine Ents.kp (H := H5) (fun y hy => ?_) k6 ho5
            rcases List.mem_append.mp hy with hy | hy
            · exact heo5 y hy
            · rw [List.mem_singleton.mp hy]
              exact hel5 x List.mem_cons_self
          · refine Ents.kp (H := H5) (fun y hy => ?_) k6 ho5
            exact hel5 y ((Hm.pop_perm Ent.t (l := x :: r) rfl).mem_iff.mp (List.mem_cons_of_mem _ hy))
          · rw [← r1, List.append_assoc]
            rfl
      · have c' : ¬ x.t ≤ now := fun z => c (decide_eq_true z)
        rw [Hm.ripe_no c'] at r1 r2
        refine done _ (sm.trans s4) ?_ ?_
        · rw [← r1, List.append_nil]
          exact ho4
        · rw [← r2]
          exact hl4
end
end K14

namespace K14
open PySem PySem.Spec PyProof.Rows L2
/-! ### wells -/
def Well (H : Hp) (p : Addr) (n : Int) : Prop := ∃ w0 w1 w2 : Int, H p = some (.lst [.int w0, .int w1, .int w2]) ∧ 0 ≤ w2 ∧ w2 ≤ n
theorem Well.mono {H : Hp} {p : Addr} {n m : Int} (h : Well H p n) (l : n ≤ m) : Well H p m := by
  obtain ⟨a, b, c, e, h0, h1⟩ := h
  exact ⟨a, b, c, e, h0, Int.le_trans h1 l⟩
theorem Well.same {H H' : Hp} {p : Addr} {n : Int} (h : Well H p n) (s : Same H H') : Well H' p n := by
  obtain ⟨a, b, c, e, h0, h1⟩ := h
  exact ⟨a, b, c, s _ _ e, h0, h1⟩
/-- what is drawn is less than what it is drawn from -/
structure Rem (r many : Int) : Prop where
  lo : 0 ≤ r
  hi : r < many
theorem rem_of (x : Int) {many : Int} (h : 0 < many) : Rem (x % many) many := ⟨Int.emod_nonneg _ (by omega), Int.emod_lt_of_pos _ h⟩
section
variable {P : Program} {w : World} {K : PySem.W.Frag} {mg : Str → Option Value} {base : Heap}
def spLwWell : Sp := fun vs H Q _ => ∃ c : Int, vs = [.int c] ∧ ∀ l H', H l = none → Same H H' → Well H' l 0 → Q (.ref l) H'
theorem ok_well (T : Txt K mg) : FnOk P w K mg base CX0 1 T.aLwWell T.dLwWell ["_law_cell"] spLwWell := by
  refine T.fLwWell.ok scLwWell (fun vs H Q E h => ?_) (fun cdv A outer s H vs Q E hr h => ?_)
  · obtain ⟨c, rfl, _⟩ := h
    rfl
  · obtain ⟨c, rfl, q⟩ := h
    refine ⟨_, (pss_one (ps_ret (pe_lst (pa_cons (pe_op op_mul (pv 0) (pe_callTy call_int1 (by rfl) T.n_int (by decide +kernel) (pa_cons (pe_cmpR op_ge (pv 0) (pe_op op_pow pe_int pe_int) (nomark _)) pa_nil))) (pa_cons (pv 0) (pa_cons pe_int pa_nil)))))), ?_⟩
    refine ⟨_, rfl, _, rfl, _, _, rfl, rfl, ⟨by decide, by decide, by decide⟩, _, _, rfl, rfl, .inr ⟨_, rfl, _, _, rfl, rfl, .inr ?_, _, rfl, (by show 3 ≤ sizeLine; decide), fun l nl => ?_⟩⟩
    · split <;> exact ⟨by decide, by decide⟩
    · exact q l _ nl (same_new nl) ⟨_, _, _, upd_same, Int.le_refl _, Int.le_refl _⟩
def spLwDraw : Sp := fun vs H Q _ => ∃ (p : Addr) (many n : Int), vs = [.ref p, .int many] ∧ Well H p n ∧ n ≤ 1000000000000 ∧ 0 < many ∧ many < 2 ^ 200 ∧
  ∀ r H', Rem r many → Kp [p] H H' → Well H' p (n + 1) → Q (.int r) H'
theorem ok_draw (T : Txt K mg) : FnOk P w K mg base CX0 1 T.aLwDraw T.dLwDraw ["_law_well_here", "_law_many"] spLwDraw := by
  refine T.fLwDraw.ok scLwDraw (fun vs H Q E h => ?_) (fun cdv A outer s H vs Q E hr h => ?_)
  · obtain ⟨p, many, n, rfl, _⟩ := h
    rfl
  · obtain ⟨p, many, n, rfl, ⟨w0, w1, w2, hp, h0, h1⟩, hn, hm, hm2, q⟩ := h
    refine ⟨_, (pss_cons (ps_if (pt_cmpR op_gt (pe_ix (r := rIxL K) ix_list (pv 0) pe_int (fun _ _ => rfl)) pe_int (nomark _))
      (pss_cons (ps_set (i := 2) scLwDraw.nd rfl (.inl rfl) (pe_op op_mod (pe_callTy call_int1 (by rfl) T.n_int (by decide +kernel) (pa_cons (pe_ix (r := rIxL K) ix_list (pv 0) pe_int (fun _ _ => rfl)) pa_nil)) (pv 1)))
        (pss_cons (ps_asg (pe_op op_fdivW (pe_ix (r := rIxL K) ix_list (pv 0) pe_int (fun _ _ => rfl)) (pv 1)) (pg_sub (pv 0) pe_int set_list))
        (pss_one (ps_ret (pv 2)))))
      pss_nil)
      (pss_cons (ps_asg (pe_op op_add (pe_ix (r := rIxL K) ix_list (pv 0) pe_int (fun _ _ => rfl)) pe_int) (pg_sub (pv 0) pe_int set_list))
      (pss_cons (ps_set (i := 3) scLwDraw.nd rfl (.inl rfl) (pe_op op_add (pe_op op_mod (pe_callTy call_int1 (by rfl) T.n_int (by decide +kernel) (pa_cons (pe_ix (r := rIxL K) ix_list (pv 0) pe_int (fun _ _ => rfl)) pa_nil)) pe_int) (pe_op op_mul (pe_op op_mod (pe_callTy call_int1 (by rfl) T.n_int (by decide +kernel) (pa_cons (pe_op op_fdivW (pe_ix (r := rIxL K) ix_list (pv 0) pe_int (fun _ _ => rfl)) pe_int) pa_nil)) pe_int) pe_int)))
      (pss_cons (ps_set (i := 4) scLwDraw.nd rfl (.inl rfl) (pe_op op_mod (pe_callTy call_int1 (by rfl) T.n_int (by decide +kernel) (pa_cons (pe_op op_pow (pe_op op_add (pe_op op_add (pv 3) (pe_op op_mul pe_int (pe_ix (r := rIxL K) ix_list (pv 0) pe_int (fun _ _ => rfl)))) pe_int) pe_int) pa_nil)) pe_int))
      (pss_cons (ps_set (i := 4) scLwDraw.nd rfl (.inl rfl) (pe_op op_mod (pe_callTy call_int1 (by rfl) T.n_int (by decide +kernel) (pa_cons (pe_op op_mul (pv 4) (pe_op op_add (pe_op op_add (pe_op op_fdiv (pv 4) pe_int) pe_int) (pe_ix (r := rIxL K) ix_list (pv 0) pe_int (fun _ _ => rfl)))) pa_nil)) pe_int))
      (pss_one (ps_ret (pe_op op_mod (pe_callTy call_int1 (by rfl) T.n_int (by decide +kernel) (pa_cons (pe_op op_mod (pe_callTy call_int1 (by rfl) T.n_int (by decide +kernel) (pa_cons (pe_op op_mul (pv 4) (pe_op op_add (pe_op op_fdiv (pv 4) pe_int) pe_int)) pa_nil)) pe_int) pa_nil)) (pv 1))))))))), ?_⟩
    refine ⟨_, rfl, p, _, 0, .int w0, rfl, rfl, SqL.of hp, atI_nat (j := 0) rfl, _, _, rfl, rfl, _, rfl, ite2 (fun c => ?_) (fun c => ?_)⟩
    · refine ⟨_, rfl, p, _, 0, .int w0, rfl, rfl, SqL.of hp, atI_nat (j := 0) rfl, .inl ⟨_, rfl, _, rfl, _, _, rfl, rfl, hm, ?_⟩⟩
      refine ⟨_, rfl, p, _, 0, .int w0, rfl, rfl, SqL.of hp, atI_nat (j := 0) rfl, _, rfl, _, _, rfl, rfl, wide_div (b := 200) hm ?_ (by decide) (by decide), _, rfl, p, _, _, 0, rfl, rfl, hp, ixN_nat (j := 0) (show 0 < 3 by decide), ?_⟩
      · have : (many.natAbs : Int) = many := Int.natAbs_of_nonneg (by omega)
        have h3 : ((2 ^ 200 : Nat) : Int) = (2 : Int) ^ 200 := by
          rw [Int.natCast_pow]
          rfl
        have : (many.natAbs : Int) < ((2 ^ 200 : Nat) : Int) := by
          rw [this, h3]
          exact hm2
        exact Int.ofNat_lt.mp this
      refine ⟨_, rfl, q _ _ (rem_of w0 hm) ((Kp.refl _ _).wr (List.mem_singleton.mpr rfl)) ⟨_, _, _, upd_same, h0, by omega⟩⟩
    · -- _law_well_here[2] = _law_well_here[2] + 1
      refine ⟨_, rfl, p, _, 2, .int w2, rfl, rfl, SqL.of hp, atI_nat (j := 2) rfl, _, _, rfl, rfl, _, rfl, p, _, _, 2, rfl, rfl, hp, ixN_nat (j := 2) (show 2 < 3 by decide), ?_⟩
      have hp2 : (upd H p (.lst [.int w0, .int w1, .int (w2 + 1)])) p = some (.lst [.int w0, .int w1, .int (w2 + 1)]) := upd_same
      -- _law_salt
      refine ⟨_, rfl, p, _, 1, .int w1, rfl, rfl, SqL.of hp2, atI_nat (j := 1) rfl, .inl ⟨_, rfl, _, _, rfl, rfl, (show (0 : Int) < _ by decide), ?_⟩⟩
      refine ⟨_, rfl, p, _, 1, .int w1, rfl, rfl, SqL.of hp2, atI_nat (j := 1) rfl, _, _, rfl, rfl, wide_div (b := 40) (by decide) (by decide) (by decide) (by decide), .inl ⟨_, rfl, _, _, rfl, rfl, (show (0 : Int) < _ by decide), _, _, rfl, rfl, .inr ⟨by decide, by decide⟩, _, _, rfl, rfl, ?_⟩⟩
      have s1 := rem_of w1 (many := 2147483587) (by decide)
      have s2 := rem_of (w1 / 2147483587) (many := 65003) (by decide)
      -- _law_mixed
      refine ⟨_, rfl, _, rfl, p, _, 2, .int (w2 + 1), rfl, rfl, SqL.of hp2, atI_nat (j := 2) rfl, _, _, rfl, rfl, .inl ⟨by decide, by decide⟩, _, _, rfl, rfl, _, _, rfl, rfl, _, _, rfl, rfl, ⟨by decide, by decide, ?_⟩, .inl ⟨_, rfl, _, _, rfl, rfl, (show (0 : Int) < _ by decide), ?_⟩⟩
      · have a1 := s1.lo
        have a2 := s1.hi
        have a3 := s2.lo
        have a4 := s2.hi
        show (w1 % 2147483587 + w1 / 2147483587 % 65003 * 41 + 7027 * (w2 + 1) + 29).natAbs < 2 ^ 64
        omega
      generalize ((w1 % 2147483587 + w1 / 2147483587 % 65003 * 41 + 7027 * (w2 + 1) + 29) ^ (5 : Int).toNat) = z1
      have t1 := rem_of z1 (many := 2147483647) (by decide)
      have b1 := t1.lo
      have b2 := t1.hi
      refine ⟨_, rfl, _, rfl, _, _, rfl, rfl, ⟨by decide, by decide⟩, _, _, rfl, rfl, _, rfl, p, _, 2, .int (w2 + 1), rfl, rfl, SqL.of hp2, atI_nat (j := 2) rfl, _, _, rfl, rfl, _, _, rfl, rfl, .inl ⟨?_, ?_⟩, .inl ⟨_, rfl, _, _, rfl, rfl, (show (0 : Int) < _ by decide), ?_⟩⟩
      · show -(2 ^ 64) < z1 % 2147483647
        omega
      · show z1 % 2147483647 < 2 ^ 64
        omega
      dsimp only
      generalize (z1 % 2147483647 * (z1 % 2147483647 / 983 + 50021 + (w2 + 1))) = z2
      have t2 := rem_of z2 (many := 2147483629) (by decide)
      have d1 := t2.lo
      have d2 := t2.hi
      refine ⟨_, rfl, _, rfl, _, _, rfl, rfl, ⟨by decide, by decide⟩, _, _, rfl, rfl, _, _, rfl, rfl, .inl ⟨?_, ?_⟩, .inl ⟨_, rfl, _, _, rfl, rfl, (show (0 : Int) < _ by decide), .inl ⟨_, rfl, _, rfl, _, _, rfl, rfl, hm, ?_⟩⟩⟩
      · show -(2 ^ 64) < z2 % 2147483629
        omega
      · show z2 % 2147483629 < 2 ^ 64
        omega
      exact q _ _ (rem_of _ hm) ((Kp.refl _ _).wr (List.mem_singleton.mpr rfl)) ⟨_, _, _, upd_same, by omega, by omega⟩
/-- one of some whole numbers -/
def spLwPick : Sp := fun vs H Q _ => ∃ (p l : Addr) (xs : List V) (n : Int), vs = [.ref p, .ref l] ∧ Well H p n ∧ n ≤ 1000000000000 ∧ H l = some (.lst xs) ∧ l ≠ p ∧ 0 < xs.length ∧ xs.length ≤ 100000 ∧
  ∀ v H', v ∈ xs → Kp [p] H H' → Well H' p (n + 1) → Q v H'
theorem ok_pick (T : Txt K mg) : FnOk P w K mg base CX0 2 T.aLwPick T.dLwPick ["_law_well_here", "_law_some"] spLwPick := by
  have GLwDraw : FnOk P w K mg base CX0 1 T.aLwDraw T.dLwDraw ["_law_well_here", "_law_many"] spLwDraw := ok_draw T
  refine T.fLwPick.ok scLwPick (fun vs H Q E h => ?_) (fun cdv A outer s H vs Q E hr h => ?_)
  · obtain ⟨p, l, xs, n, rfl, _⟩ := h
    rfl
  · obtain ⟨p, l, xs, n, rfl, hw, hn, hl, nlp, h0, h1, q⟩ := h
    refine ⟨_, (pss_one (ps_ret (pe_ix (r := rIxL K) ix_list (pv 1) (pe_call GLwDraw (hr.mono (by decide)) (by rfl) T.gLwDraw T.fLwDraw.kp T.bLwDraw .nil pass0 (pa_cons (pv 0) (pa_cons (pe_callB call_len_seq (by rfl) T.n_len PySem.boot_len (pa_cons (pv 1) pa_nil)) pa_nil))) (fun _ _ => rfl)))), ?_⟩
    refine ⟨_, rfl, _, rfl, _, rfl, l, _, rfl, .inl (SqL.of hl), p, _, n, rfl, hw, hn, by omega, ?_, fun r H' hr' k' w' => ?_⟩
    · exact Int.lt_of_le_of_lt (show (xs.length : Int) ≤ 100000 by omega) (by decide)
    · have hl' : H' l = some (.lst xs) := k' _ _ (fun z => nlp (List.mem_singleton.mp z)) hl
      have lo := hr'.lo
      have hi := hr'.hi
      obtain ⟨k, rfl⟩ : ∃ k : Nat, r = (k : Int) := ⟨r.toNat, by omega⟩
      have hk : k < xs.length := by omega
      refine ⟨l, xs, _, xs[k], rfl, rfl, SqL.of hl', atI_nat (List.getElem?_eq_getElem hk), q _ _ (List.getElem_mem hk) k' w'⟩
end
end K14

namespace K14
open PySem PySem.Spec PyProof.Rows L2
theorem hu65 {k : Nat} {A : Around} (r : Room k A) : A.units + 65 < cLine := by have := r.un; omega
/-! ### sorted -/
def kOf (H : Hp) (v : V) : Int × Int := match v with
  | .ref t => (match H t with
    | some (.tup [.int i, .int j]) => (i, j)
    | _ => (0, 0))
  | _ => (0, 0)
theorem kOf_ent {H : Hp} {e : Ent} (h : EntAt H e) : kOf H e.v = e.pr := by
  show (match H e.a with
    | some (.tup [.int i, .int j]) => (i, j)
    | _ => (0, 0)) = _
  rw [show H e.a = some (.tup [.int e.t, .int e.k]) from h]
theorem sort_in {H : Hp} {es : List Ent} (he : Ents H es) : ∀ x ∈ vsOf es, ∃ t, x = V.ref t ∧ H t = some (.tup [.int (kOf H x).1, .int (kOf H x).2]) := fun x hx => by
  obtain ⟨e, hm, rfl⟩ := List.mem_map.mp hx
  refine ⟨e.a, rfl, ?_⟩
  rw [kOf_ent (he e hm)]
  exact he e hm
theorem sort_out {H : Hp} {es : List Ent} {ys : List V} (he : Ents H es) (hs : SrtO.Srtd (ltP (kOf H)) ys) (hb : SrtO.Stb (ltP (kOf H)) ys (vsOf es)) : ∃ es', ys = vsOf es' ∧ List.Perm es' es ∧ Hm.SortP (es'.map Ent.pr) := by
  obtain ⟨es', rfl, pm⟩ := Hm.perm_map_inv hb.perm es rfl
  refine ⟨es', rfl, pm, ?_⟩
  refine List.pairwise_map.mpr (List.Pairwise.imp_of_mem (fun {a b} ha hb h => ?_) (List.pairwise_map.mp hs))
  have h' : SrtO.lexB (kOf H b.v) (kOf H a.v) = false := h
  rw [kOf_ent (he a (pm.mem_iff.mp ha)), kOf_ent (he b (pm.mem_iff.mp hb))] at h'
  have := SrtO.lexB_no.mp h'
  show a.t < b.t ∨ (a.t = b.t ∧ a.k ≤ b.k)
  dsimp only at this
  omega
/-! ### whole numbers as data -/
theorem dp_ints {K : PySem.W.Frag} {H : Hp} : ∀ ns : List Int, DpAll K H (ns.map V.int) (ns.map PyData.int)
  | [] => .nil
  | n :: r => .cons (.int n) (dp_ints r)
theorem lay_ints : ∀ ns : List Int, PyData.canLayAll0 (ns.map PyData.int) = true
  | [] => rfl
  | n :: r => by
    show (PyData.canLay0 (.int n) && PyData.canLayAll0 (r.map PyData.int)) = true
    rw [lay_ints r]
    rfl
theorem depth_ints : ∀ ns : List Int, PyData.depthAll (ns.map PyData.int) ≤ 0
  | [] => Nat.zero_le _
  | n :: r => by
    show max (PyData.depth (.int n)) (PyData.depthAll (r.map PyData.int)) ≤ 0
    exact Nat.max_le.mpr ⟨Nat.le_refl 0, depth_ints r⟩
theorem shaped_ints (ns : List Int) : SeqAt.shaped (.list (ns.map PyData.int)) = true := by
  unfold SeqAt.shaped
  refine Bool.and_eq_true_iff.mpr ⟨lay_ints ns, decide_eq_true ?_⟩
  show PyData.depthAll (ns.map PyData.int) + 1 ≤ 64
  have := depth_ints ns
  omega
theorem eqv_ints : ∀ ns ms : List Int, PyData.eqvAll (ns.map PyData.int) (ms.map PyData.int) = decide (ns = ms)
  | [], [] => rfl
  | [], f :: r => rfl
  | e :: r, [] => rfl
  | e :: r, f :: q => by
    show ((e == f) && PyData.eqvAll (r.map PyData.int) (q.map PyData.int)) = _
    rw [eqv_ints r q, Bool.eq_iff_iff, Bool.and_eq_true_iff, beq_iff_eq, decide_eq_true_iff, decide_eq_true_iff]
    exact ⟨fun ⟨x, y⟩ => by rw [x, y], fun h => ⟨(List.cons.inj h).1, (List.cons.inj h).2⟩⟩
theorem eqv_nums (ns ms : List Int) : PyData.eqv (.list (ns.map PyData.int)) (.list (ms.map PyData.int)) = decide (ns = ms) := eqv_ints ns ms
theorem ents_app {H : Hp} {es : List Ent} {e : Ent} (h : Ents H es) (he : EntAt H e) : Ents H (es ++ [e]) := fun x hx => by
  rcases List.mem_append.mp hx with hx | hx
  · exact h x hx
  · rw [List.mem_singleton.mp hx]
    exact he
theorem vs_app {es : List Ent} {e : Ent} : vsOf es ++ [e.v] = vsOf (es ++ [e]) := by
  show _ = List.map Ent.v _
  rw [List.map_append]
  rfl
/-- another list changes -/
theorem Ents.wr {H : Hp} {es : List Ent} {p : Addr} {xs ys : List V} (h : Ents H es) (hp : H p = some (.lst xs)) : Ents (upd H p (.lst ys)) es := h.kp ((Kp.refl _ _).wr (List.mem_singleton.mpr rfl)) hp
/-- what is new is new before -/
theorem same_wr {H H1 : Hp} {p : Addr} {o : HO} (s : Same H H1) (n : H p = none) : Same H (upd H1 p o) := kp_same s n ((Kp.refl _ _).wr (List.mem_singleton.mpr rfl))
section
variable {P : Program} {w : World} {K : PySem.W.Frag} {mg : Str → Option Value} {base : Heap}
/-! ### _law_out -/
def spLwOut : Sp := fun vs H Q _ => ∃ (p : Addr) (es : List Ent), vs = [.ref p] ∧ H p = some (.lst (vsOf es)) ∧ Ents H es ∧ es.length ≤ 5000 ∧
  ∀ H' l, Same H H' → H l = none → H' l = some (.lst (vsOf (Hm.outs Ent.t es.length es))) → Q (.ref l) H'
theorem ok_out (T : Txt K mg) : FnOk P w K mg base CX0 6 T.aLwOut T.dLwOut ["_law_rows"] spLwOut := by
  have GPopped : FnOk P w K mg base CX0 5 T.aPopped T.dPopped ["rows"] spPopped := ok_popped T
  refine T.fLwOut.ok scLwOut (fun vs H Q E h => ?_) (fun cdv A outer s H vs Q E hr h => ?_)
  · obtain ⟨p, es, rfl, _⟩ := h
    rfl
  · obtain ⟨p, es, rfl, hp, he, hl, q⟩ := h
    refine ⟨_, (pss_cons (ps_set (i := 1) scLwOut.nd rfl (.inl rfl) (pe_lst pa_nil))
      (pss_cons (ps_for PassesOwn.never rfl (pi_range1 (by rfl) T.n_range (pa_cons (pe_callB call_len_seq (by rfl) T.n_len PySem.boot_len (pa_cons (pv 0) pa_nil)) pa_nil)) (pg_name (i := 2) scLwOut.nd rfl (.inl rfl))
      (pss_cons (ps_asg (pe_call GPopped (hr.mono (by decide)) (by rfl) T.gPopped T.fPopped.kp T.bPopped .nil pass0 (pa_cons (pv 0) pa_nil)) (pg_tup rfl (pgs_cons (pg_name (i := 3) scLwOut.nd rfl (.inl rfl)) (pgs_cons (pg_name (i := 0) scLwOut.nd rfl (.inl rfl)) pgs_nil))))
        (pss_one (ps_expr (pe_bm PySem.F.plainAttrs_list PySem.F.slot_list_append PySem.F.type_list_append mt_append (pv 1) (pa_cons (pv 3) pa_nil))))))
      (pss_one (ps_ret (pv 1))))), ?_⟩
    refine ⟨Nat.zero_le _, fun o no => ?_⟩
    have s1 := same_new (o := .lst []) no
    have npo : p ≠ o := ne_of_none hp no
    refine ⟨_, rfl, p, _, rfl, .inl (SqL.of (s1 _ _ hp)), _, rfl, by rw [vs_len]; omega, by rw [vs_len]; omega, ?_⟩
    have en : ((vsOf es).length : Int).toNat = es.length := by
      rw [vs_len]
      omega
    rw [en]
    refine for_range (n := es.length) (fun i σ H3 => ∃ (pr : Addr) (ls fs : List Ent) (y2 y3 : Option V), σ = [some (.ref pr), some (.ref o), y2, y3] ∧ ls.length + i = es.length ∧ fs.length = i ∧ Same H H3 ∧ pr ≠ o ∧ H3 pr = some (.lst (vsOf ls)) ∧ H3 o = some (.lst (vsOf fs)) ∧ Ents H3 ls ∧ Ents H3 fs ∧ fs ++ Hm.outs Ent.t ls.length ls = Hm.outs Ent.t es.length es)
      ⟨p, es, [], none, none, rfl, rfl, rfl, s1, npo, s1 _ _ hp, upd_same, he.same s1, (fun e z => nomatch z), rfl⟩ (fun i σ H3 hi hW => ?_) (fun σ H3 hW => ?_)
    · obtain ⟨pr, ls, fs, y2, y3, rfl, l1, l2, s3, n3, hpr, ho, hel, hef, r⟩ := hW
      obtain ⟨x, t, rfl⟩ : ∃ x t, ls = x :: t := by
        cases ls with
        | nil =>
          simp at l1
          omega
        | cons x t => exact ⟨x, t, rfl⟩
      have lp := Hm.pop_len Ent.t (l := x :: t) (List.cons_ne_nil _ _)
      refine ⟨_, rfl, pr, x :: t, x, rfl, hpr, hel, rfl, by omega, fun H4 u l s4 nl nu hu hl4 => ?_⟩
      refine ⟨u, _, rfl, SqT.of hu, rfl, _, _, rfl, _, _, rfl, rfl, ?_⟩
      have ho4 := s4 _ _ ho
      refine ⟨_, rfl, .inl ⟨rfl, _, SqL.of ho4⟩, _, rfl, o, _, _, rfl, rfl, ho4, ?_, ?_⟩
      · rw [vs_len]
        exact Nat.lt_of_le_of_lt (show fs.length ≤ 5000 by omega) (by decide)
      have nlo : l ≠ o := fun z => by
        rw [z, ho] at nl
        cases nl
      refine ⟨l, Hm.popL Ent.t (x :: t), fs ++ [x], _, _, rfl, by omega, by rw [List.length_append, l2]; rfl, same_wr (s3.trans s4) no, nlo, ?_, ?_, ?_, ?_, ?_⟩
      · rw [upd_ne nlo]
        exact hl4
      · rw [upd_same, vs_app]
      · exact ((hel.same s4).sub fun y hy => (Hm.pop_perm Ent.t (l := x :: t) rfl).mem_iff.mp (List.mem_cons_of_mem _ hy)).wr ho4
      · exact (ents_app (hef.same s4) ((hel.same s4) x List.mem_cons_self)).wr ho4
      · rw [← r, List.append_assoc]
        have : (Hm.popL Ent.t (x :: t)).length = t.length := by
          rw [List.length_cons] at lp
          omega
        rw [this]
        rfl
    · obtain ⟨pr, ls, fs, y2, y3, rfl, l1, l2, s3, n3, hpr, ho, hel, hef, r⟩ := hW
      have e0 : ls = [] := List.length_eq_zero_iff.mp (by omega)
      subst e0
      have r' : fs = Hm.outs Ent.t es.length es := by
        rw [← r]
        exact (List.append_nil _).symm
      rw [r'] at ho
      exact ⟨_, rfl, q H3 o s3 no ho⟩
end
end K14

namespace K14
open PySem PySem.Spec PyProof.Rows L2
/-! ### rows made anew, entry by entry -/
theorem lcEnt {K : PySem.W.Frag} {a : Addr} {es : List Ent} {j : Nat} {te : TE} {vs : List Nat} {σ : L2.St} {H1 : Hp} {D : Addr} {Qd : Hp → Prop} (g : Ent → Int × Int) (hn : es.length ≤ 5000)
    (hw : ∀ x, wipe ((wipe σ vs).set j (some x)) vs = wipe σ vs) (hp : H1 a = some (.lst (vsOf es))) (nD : H1 D = none) (he : Ents H1 es)
    (hs : ∀ e H (Y : V → Hp → Prop), e ∈ es → EntAt H e → (∀ u, H u = none → Y (.ref u) (upd H u (.tup [.int (g e).1, .int (g e).2]))) → te ((wipe σ vs).set j (some e.v)) H Y)
    (hd : ∀ ms H, Same H1 H → H D = some (.lst (vsOf ms)) → Ents H ms → ms.map Ent.pr = es.map g → Qd H) :
    ∃ W : Nat → Nat → Hp → Prop, (∃ m, W 0 m (upd H1 D (.lst []))) ∧ ∀ i m H, W i m H →
      ((Itl K a).stop i H ∧ Qd H) ∨ ((Itl K a).go i H ∧ ∃ Nx : Hp → Prop, (∀ H', Nx H' → ∃ m', m' < m ∧ W (i + 1) m' H') ∧ ∀ x H', (Itl K a).yld i H x H' → gName j x (wipe σ vs) H' fun σ2 H2 => wipe σ2 vs = wipe σ vs ∧ tYes σ2 H2 fun b H3 =>
        if b = true then te σ2 H3 fun y H4 => ∃ acc, H4 D = some (.lst acc) ∧ acc.length < sizeLine ∧ Nx (upd H4 D (.lst (acc ++ [y]))) else Nx H3) := by
  refine lcLY (xs := vsOf es) (fun i acc H3 => Same H1 H3 ∧ ∃ ms : List Ent, acc = vsOf ms ∧ Ents H3 ms ∧ ms.map Ent.pr = (es.take i).map g) (by rw [vs_len]; omega) hw (fun i acc H3 r => SqL.of (r.1 _ _ hp)) ⟨same_new nD, [], rfl, (fun e z => nomatch z), rfl⟩ ?_ ?_
  · intro i x acc H3 Y hx ⟨s3, ms, e3, em, er⟩ hD hY
    rw [List.getElem?_map] at hx
    obtain ⟨e, he1, rfl⟩ := Option.map_eq_some_iff.mp hx
    have hm := List.mem_of_getElem? he1
    refine hs e H3 Y hm (s3 _ _ (he e hm)) fun u nu => ?_
    have s4 := same_new (o := .tup [.int (g e).1, .int (g e).2]) nu
    refine hY _ _ (s4 _ _ hD) ⟨same_wr (s3.trans s4) nD, ms ++ [⟨u, (g e).1, (g e).2⟩], ?_, ?_, ?_⟩
    · rw [e3]
      exact vs_app (e := ⟨u, (g e).1, (g e).2⟩)
    · have h4 := s4 _ _ hD
      exact (ents_app (e := ⟨u, (g e).1, (g e).2⟩) (em.same s4) (by unfold EntAt; exact upd_same)).wr h4
    · rw [List.map_append, er, List.take_add_one, he1, List.map_append]
      rfl
  · intro acc H3 ⟨s3, ms, e3, em, er⟩ hD
    rw [vs_len, List.take_length] at er
    rw [e3] at hD
    exact hd ms H3 s3 hD em er
/-! ### times raised and multiplied -/
def mv (b m : Int) (x : Int × Int) : Int × Int := (x.1 * b + m, x.2)
theorem alike_pr : Hm.Alike Ent.t Prod.fst Ent.pr := fun _ _ => Iff.rfl
theorem alike_mv {b m : Int} (h : 0 < b) : Hm.Alike Prod.fst Prod.fst (mv b m) := fun x y => by
  show x.1 < y.1 ↔ x.1 * b + m < y.1 * b + m
  constructor
  · intro z
    have := Int.mul_lt_mul_of_pos_right z h
    omega
  · intro z
    exact Int.lt_of_mul_lt_mul_right (show x.1 * b < y.1 * b by omega) (Int.le_of_lt h)
def drained (es : List Ent) : List Ent := Hm.outs Ent.t (Hm.heapify Ent.t es).length (Hm.heapify Ent.t es)
theorem moved_same {b m : Int} (h : 0 < b) {es ms : List Ent} (e : ms.map Ent.pr = es.map fun x => mv b m x.pr) : (drained ms).map Ent.pr = (drained es).map fun x => mv b m x.pr := by
  have l : ms.length = es.length := by
    have := congrArg List.length e
    rw [List.length_map, List.length_map] at this
    exact this
  have lh : ∀ l : List Ent, (Hm.heapify Ent.t l).length = l.length := fun l => (Hm.heapify_perm Ent.t l).length_eq
  have e' : ms.map Ent.pr = (es.map Ent.pr).map (mv b m) := by
    rw [e, List.map_map]
    rfl
  unfold drained
  rw [lh, lh, ← Hm.outs_map alike_pr, ← Hm.heapify_map alike_pr, e', Hm.heapify_map (alike_mv h), Hm.outs_map (alike_mv h), Hm.heapify_map alike_pr, Hm.outs_map alike_pr, List.map_map, l]
  rfl
section
variable {P : Program} {w : World} {K : PySem.W.Frag} {mg : Str → Option Value} {base : Heap}
def spLwMovedRight : Sp := fun vs H Q _ => ∃ (p : Addr) (es : List Ent) (b m : Int), vs = [.ref p, .int b, .int m] ∧ H p = some (.lst (vsOf es)) ∧ Ents H es ∧ es.length ≤ 5000 ∧ 0 < b ∧ b < 1000 ∧
  ∀ H', Same H H' → Q (.bl true) H'
theorem ok_movedRight (T : Txt K mg) : FnOk P w K mg base CX0 7 T.aLwMovedRight T.dLwMovedRight ["_law_rows", "_law_by", "_law_more"] spLwMovedRight := by
  have GHeaped : FnOk P w K mg base CX0 5 T.aHeaped T.dHeaped ["rows"] spHeaped := ok_heaped T
  have GLwOut : FnOk P w K mg base CX0 6 T.aLwOut T.dLwOut ["_law_rows"] spLwOut := ok_out T
  refine T.fLwMovedRight.ok scLwMovedRight (fun vs H Q E h => ?_) (fun cdv A outer s H vs Q E hr h => ?_)
  · obtain ⟨p, es, b, m, rfl, _⟩ := h
    rfl
  · obtain ⟨p, es, b, m, rfl, hp, he, hl, hb, hb2, q⟩ := h
    have lh : ∀ l : List Ent, (Hm.heapify Ent.t l).length = l.length := fun l => (Hm.heapify_perm Ent.t l).length_eq
    refine ⟨_, (pss_cons (ps_setLc (i := 3) (own := [("_law_one", 5)]) (g := gName 5) rfl scLwMovedRight.nd rfl rfl (sw_true rfl rfl rfl (by decide +kernel)) (pi_list (pv 0)) (blkOk_by (own := [("_law_one", 5)]) (N := ["_law_rows", "_law_by", "_law_more", "_law_moved", "_law_mine", "_law_one"]) (sc := defScope sLwMovedRight) (by decide +kernel)) (fun _ _ _ _ _ => (pg_name (i := 5) scLwMovedRight.nd rfl (.inl rfl))) (fun _ _ _ _ _ => pts_nil) (fun _ _ _ _ _ => (pe_tup (pa_cons (pe_op op_add (pe_op op_mul (pe_ix (r := rIxT K) ix_tup (pv 5) pe_int (fun _ _ => rfl)) (pv 1)) (pv 2)) (pa_cons (pe_ix (r := rIxT K) ix_tup (pv 5) pe_int (fun _ _ => rfl)) pa_nil)))))
      (pss_cons (ps_setLc (i := 4) (own := [("_law_one", 5)]) (g := gName 5) rfl scLwMovedRight.nd rfl rfl (sw_true rfl rfl rfl (by decide +kernel)) (pi_list (pe_call GLwOut (hr.mono (by decide)) (by rfl) T.gLwOut T.fLwOut.kp T.bLwOut .nil pass0 (pa_cons (pe_call GHeaped (hr.mono (by decide)) (by rfl) T.gHeaped T.fHeaped.kp T.bHeaped .nil pass0 (pa_cons (pv 0) pa_nil)) pa_nil))) (blkOk_by (own := [("_law_one", 5)]) (N := ["_law_rows", "_law_by", "_law_more", "_law_moved", "_law_mine", "_law_one"]) (sc := defScope sLwMovedRight) (by decide +kernel)) (fun _ _ _ _ _ => (pg_name (i := 5) scLwMovedRight.nd rfl (.inl rfl))) (fun _ _ _ _ _ => pts_nil) (fun _ _ _ _ _ => (pe_tup (pa_cons (pe_op op_add (pe_op op_mul (pe_ix (r := rIxT K) ix_tup (pv 5) pe_int (fun _ _ => rfl)) (pv 1)) (pv 2)) (pa_cons (pe_ix (r := rIxT K) ix_tup (pv 5) pe_int (fun _ _ => rfl)) pa_nil)))))
      (pss_one (ps_ret (pe_cmpR (r := rEqD K) (op_eqD hr.units) (pe_call GLwOut (hr.mono (by decide)) (by rfl) T.gLwOut T.fLwOut.kp T.bLwOut .nil pass0 (pa_cons (pe_call GHeaped (hr.mono (by decide)) (by rfl) T.gHeaped T.fHeaped.kp T.bHeaped .nil pass0 (pa_cons (pv 3) pa_nil)) pa_nil)) (pv 4) (nomark _)))))), ?_⟩
    refine ⟨_, rfl, p, rfl, ⟨_, SqL.of hp⟩, fun D nD => ?_⟩
    refine lcEnt (fun x => mv b m x.pr) hl (fun x => rfl) hp nD he ?_ ?_
    · intro e H3 Y hm hE hY
      refine ⟨_, rfl, _, _, 0, _, rfl, rfl, SqT.of hE, atI_nat (j := 0) rfl, _, rfl, _, _, rfl, rfl, .inr ⟨by omega, by omega⟩, _, rfl, _, _, rfl, rfl, _, rfl, _, _, 1, _, rfl, rfl, SqT.of hE, atI_nat (j := 1) rfl, (by show 2 ≤ sizeLine; decide), fun u nu => ?_⟩
      exact hY u nu
    · intro ms H1 s1 hD hms ems
      have lms : ms.length = es.length := by
        have := congrArg List.length ems
        rw [List.length_map, List.length_map] at this
        exact this
      have hp1 := s1 _ _ hp
      have he1 := he.same s1
      -- mine
      refine ⟨_, rfl, p, es, rfl, hp1, he1, hl, fun H2 lh2 s2 n2 h2 => ?_⟩
      have eh2 : Ents H2 (Hm.heapify Ent.t es) := (he1.same s2).perm (Hm.heapify_perm _ _)
      refine ⟨lh2, _, rfl, h2, eh2, by rw [lh]; exact hl, fun H3 l3 s3 n3 h3 => ?_⟩
      have pd : List.Perm (drained es) es := (Hm.outs_perm Ent.t _ _ rfl).trans (Hm.heapify_perm _ _)
      have eh3 : Ents H3 (drained es) := ((he1.same s2).same s3).perm pd
      refine ⟨l3, rfl, ⟨_, SqL.of h3⟩, fun D2 nD2 => ?_⟩
      refine lcEnt (es := drained es) (fun x => mv b m x.pr) (by rw [pd.length_eq]; exact hl) (fun x => rfl) h3 nD2 eh3 ?_ ?_
      · intro e H4 Y hm hE hY
        refine ⟨_, rfl, _, _, 0, _, rfl, rfl, SqT.of hE, atI_nat (j := 0) rfl, _, rfl, _, _, rfl, rfl, .inr ⟨by omega, by omega⟩, _, rfl, _, _, rfl, rfl, _, rfl, _, _, 1, _, rfl, rfl, SqT.of hE, atI_nat (j := 1) rfl, (by show 2 ≤ sizeLine; decide), fun u nu => ?_⟩
        exact hY u nu
      · intro ns H4 s4 hD4 hns ens
        have s14 := (s2.trans s3).trans s4
        refine ⟨_, rfl, D, ms, rfl, s14 _ _ hD, hms.same s14, by omega, fun H5 l5 s5 n5 h5 => ?_⟩
        refine ⟨l5, _, rfl, h5, ((hms.same s14).same s5).perm (Hm.heapify_perm _ _), by rw [lh]; omega, fun H6 l6 s6 n6 h6 => ?_⟩
        have pm : List.Perm (drained ms) ms := (Hm.outs_perm Ent.t _ _ rfl).trans (Hm.heapify_perm _ _)
        refine ⟨_, rfl, rowsD (drained ms), rowsD ns, dp_rows (SqL.of h6) ((((hms.same s14).same s5).same s6).perm pm), dp_rows (SqL.of (s6 _ _ (s5 _ _ hD4))) ((hns.same s5).same s6), shaped_rows _, shaped_rows _, ?_⟩
        rw [eqv_rows, decide_eq_true (by rw [ens]; exact moved_same hb ems)]
        exact q H6 (s1.trans (s14.trans (s5.trans s6)))
end
end K14

namespace K14
open PySem PySem.Spec PyProof.Rows L2
/-! ### the times of rows, and some of them -/
theorem lcInt {K : PySem.W.Frag} {a : Addr} {es : List Ent} {j : Nat} {te : TE} {vs : List Nat} {σ : L2.St} {H1 : Hp} {D : Addr} {Qd : Hp → Prop} (hn : es.length ≤ 5000)
    (hw : ∀ x, wipe ((wipe σ vs).set j (some x)) vs = wipe σ vs) (hp : H1 a = some (.lst (vsOf es))) (nD : H1 D = none) (he : Ents H1 es)
    (hs : ∀ e H (Y : V → Hp → Prop), e ∈ es → EntAt H e → Y (.int e.t) H → te ((wipe σ vs).set j (some e.v)) H Y)
    (hd : ∀ H, Same H1 H → H D = some (.lst ((es.map Ent.t).map V.int)) → Qd H) :
    ∃ W : Nat → Nat → Hp → Prop, (∃ m, W 0 m (upd H1 D (.lst []))) ∧ ∀ i m H, W i m H →
      ((Itl K a).stop i H ∧ Qd H) ∨ ((Itl K a).go i H ∧ ∃ Nx : Hp → Prop, (∀ H', Nx H' → ∃ m', m' < m ∧ W (i + 1) m' H') ∧ ∀ x H', (Itl K a).yld i H x H' → gName j x (wipe σ vs) H' fun σ2 H2 => wipe σ2 vs = wipe σ vs ∧ tYes σ2 H2 fun b H3 =>
        if b = true then te σ2 H3 fun y H4 => ∃ acc, H4 D = some (.lst acc) ∧ acc.length < sizeLine ∧ Nx (upd H4 D (.lst (acc ++ [y]))) else Nx H3) := by
  refine lcLY (xs := vsOf es) (fun i acc H3 => Same H1 H3 ∧ acc = ((es.take i).map Ent.t).map V.int) (by rw [vs_len]; omega) hw (fun i acc H3 r => SqL.of (r.1 _ _ hp)) ⟨same_new nD, rfl⟩ ?_ ?_
  · intro i x acc H3 Y hx ⟨s3, e3⟩ hD hY
    rw [List.getElem?_map] at hx
    obtain ⟨e, he1, rfl⟩ := Option.map_eq_some_iff.mp hx
    have hm := List.mem_of_getElem? he1
    refine hs e H3 Y hm (s3 _ _ (he e hm)) (hY _ _ hD ⟨same_wr s3 nD, ?_⟩)
    rw [e3, List.take_add_one, he1, List.map_append, List.map_append]
    rfl
  · intro acc H3 ⟨s3, e3⟩ hD
    rw [vs_len, List.take_length] at e3
    rw [e3] at hD
    exact hd H3 s3 hD
theorem lcFil {K : PySem.W.Frag} {a : Addr} {es : List Ent} {j : Nat} {tt : TT} {te : TE} {vs : List Nat} {σ : L2.St} {H1 : Hp} {D : Addr} {Qd : Hp → Prop} (f : Ent → Bool) (hn : es.length ≤ 5000)
    (hw : ∀ x, wipe ((wipe σ vs).set j (some x)) vs = wipe σ vs) (hp : H1 a = some (.lst (vsOf es))) (nD : H1 D = none) (he : Ents H1 es)
    (ht : ∀ e H (Z : Bool → Hp → Prop), e ∈ es → EntAt H e → Same H1 H → Z (f e) H → tt ((wipe σ vs).set j (some e.v)) H Z)
    (hs : ∀ (e : Ent) H (Y : V → Hp → Prop), Y e.v H → te ((wipe σ vs).set j (some e.v)) H Y)
    (hd : ∀ H, Same H1 H → H D = some (.lst (vsOf (es.filter f))) → Qd H) :
    ∃ W : Nat → Nat → Hp → Prop, (∃ m, W 0 m (upd H1 D (.lst []))) ∧ ∀ i m H, W i m H →
      ((Itl K a).stop i H ∧ Qd H) ∨ ((Itl K a).go i H ∧ ∃ Nx : Hp → Prop, (∀ H', Nx H' → ∃ m', m' < m ∧ W (i + 1) m' H') ∧ ∀ x H', (Itl K a).yld i H x H' → gName j x (wipe σ vs) H' fun σ2 H2 => wipe σ2 vs = wipe σ vs ∧ tt σ2 H2 fun b H3 =>
        if b = true then te σ2 H3 fun y H4 => ∃ acc, H4 D = some (.lst acc) ∧ acc.length < sizeLine ∧ Nx (upd H4 D (.lst (acc ++ [y]))) else Nx H3) := by
  refine lcL (xs := vsOf es) (fun i acc H3 => Same H1 H3 ∧ acc = vsOf ((es.take i).filter f)) (by rw [vs_len]; omega) hw (fun i acc H3 r => SqL.of (r.1 _ _ hp)) ⟨same_new nD, rfl⟩ ?_ ?_
  · intro i x acc H3 Y Z hx ⟨s3, e3⟩ hD hY hZ
    rw [List.getElem?_map] at hx
    obtain ⟨e, he1, rfl⟩ := Option.map_eq_some_iff.mp hx
    have hm := List.mem_of_getElem? he1
    refine ht e H3 _ hm (s3 _ _ (he e hm)) s3 ?_
    by_cases c : f e = true
    · rw [c]
      refine iteT (hs e H3 Y (hY _ _ hD ⟨same_wr s3 nD, ?_⟩))
      rw [e3, List.take_add_one, he1, List.filter_append, vs_app]
      show _ = vsOf (_ ++ List.filter f [e])
      rw [List.filter_cons_of_pos c, List.filter_nil]
    · have c' : f e = false := by
        cases z : f e with
        | true => exact absurd z c
        | false => rfl
      rw [c']
      refine iteF (hZ _ hD ⟨s3, ?_⟩)
      rw [e3, List.take_add_one, he1, List.filter_append]
      show _ = vsOf (_ ++ List.filter f [e])
      rw [List.filter_cons_of_neg c]
      show _ = vsOf (_ ++ [])
      rw [List.append_nil]
  · intro acc H3 ⟨s3, e3⟩ hD
    rw [vs_len, List.take_length] at e3
    rw [e3] at hD
    exact hd H3 s3 hD
/-! ### the rows and what is kept beside them -/
structure Kept (H : Hp) (p pk : Addr) (es ks : List Ent) (n : Nat) : Prop where
  hp : H p = some (.lst (vsOf es))
  hk : H pk = some (.lst (vsOf ks))
  ee : Ents H es
  ek : Ents H ks
  heap : Hm.IsHeap Ent.t es
  srt : Hm.SortP (ks.map Ent.pr)
  pm : List.Perm (ks.map Ent.pr) (es.map Ent.pr)
  nd : (es.map Ent.pr).Nodup
  num : ∀ x ∈ es, x.k < n
  len : es.length ≤ n
theorem well_ne {H : Hp} {pw p : Addr} {n : Int} {es : List Ent} (h : Well H pw n) (hp : H p = some (.lst (vsOf es))) : p ≠ pw := fun z => by
  obtain ⟨a, b, c, e, _⟩ := h
  rw [z, e] at hp
  have := HO.lst.inj (Option.some.inj hp)
  cases es with
  | nil => cases this
  | cons x r => cases this
theorem well_ent {H : Hp} {pw : Addr} {n : Int} {e : Ent} (h : Well H pw n) (he : EntAt H e) : e.a ≠ pw := fun z => by
  obtain ⟨a, b, c, e1, _⟩ := h
  unfold EntAt at he
  rw [z, e1] at he
  cases he
theorem Ents.well {H H' : Hp} {pw : Addr} {n : Int} {es : List Ent} (h : Ents H es) (w : Well H pw n) (k : Kp [pw] H H') : Ents H' es := fun e he => k _ _ (fun z => well_ent w (h e he) (List.mem_singleton.mp z)) (h e he)
theorem Kept.well {H H' : Hp} {pw p pk : Addr} {n0 : Int} {es ks : List Ent} {n : Nat} (h : Kept H p pk es ks n) (w : Well H pw n0) (k : Kp [pw] H H') : Kept H' p pk es ks n :=
  ⟨k _ _ (fun z => well_ne w h.hp (List.mem_singleton.mp z)) h.hp, k _ _ (fun z => well_ne w h.hk (List.mem_singleton.mp z)) h.hk, h.ee.well w k, h.ek.well w k, h.heap, h.srt, h.pm, h.nd, h.num, h.len⟩
theorem Kept.same {H H' : Hp} {p pk : Addr} {es ks : List Ent} {n : Nat} (h : Kept H p pk es ks n) (s : Same H H') : Kept H' p pk es ks n :=
  ⟨s _ _ h.hp, s _ _ h.hk, h.ee.same s, h.ek.same s, h.heap, h.srt, h.pm, h.nd, h.num, h.len⟩
theorem Kept.klen {H : Hp} {p pk : Addr} {es ks : List Ent} {n : Nat} (h : Kept H p pk es ks n) : ks.length = es.length := by
  have := h.pm.length_eq
  rw [List.length_map, List.length_map] at this
  exact this
end K14

namespace K14
open PySem PySem.Spec PyProof.Rows L2
theorem free_kp {H H' : Hp} {pw l : Addr} {n : Int} (k : Kp [pw] H H') (w : Well H' pw n) (h : H' l = none) : H l = none := by
  have e : l ≠ pw := fun z => by
    obtain ⟨a, b, c, e, _⟩ := w
    rw [z, e] at h
    cases h
  cases z : H l with
  | none => rfl
  | some o =>
    rw [k l o (fun m => e (List.mem_singleton.mp m)) z] at h
    cases h
section
variable {P : Program} {w : World} {K : PySem.W.Frag} {mg : Str → Option Value} {base : Heap}
def spLwDeed : Sp := fun vs H Q _ => ∃ (pw p pk : Addr) (e : Ent) (es ks : List Ent) (n : Nat) (n0 : Int), vs = [.ref pw, .ref p, e.v, .ref pk] ∧ Well H pw n0 ∧ n0 ≤ 100000000000 ∧ Kept H p pk es ks n ∧ EntAt H e ∧ e.k = n ∧ n ≤ 200 ∧
  ∀ H' u p' pk' es' ks', Kp [pw] H H' → H p' = none → H pk' = none → Well H' pw (n0 + 3) → H' u = some (.tup [.ref p', .ref pk']) → Kept H' p' pk' es' ks' (n + 1) → Q (.ref u) H'
theorem ok_deed (T : Txt K mg) : FnOk P w K mg base CX0 6 T.aLwDeed T.dLwDeed ["_law_well_here", "_law_rows", "_law_entry", "_law_kept"] spLwDeed := by
  have GLwDraw : FnOk P w K mg base CX0 1 T.aLwDraw T.dLwDraw ["_law_well_here", "_law_many"] spLwDraw := ok_draw T
  have GPushed : FnOk P w K mg base CX0 4 T.aPushed T.dPushed ["rows", "entry"] spPushed := ok_pushed T
  have GPopped : FnOk P w K mg base CX0 5 T.aPopped T.dPopped ["rows"] spPopped := ok_popped T
  have GRipe : FnOk P w K mg base CX0 5 T.aRipe T.dRipe ["rows", "now"] spRipe := ok_ripe T
  refine T.fLwDeed.ok scLwDeed (fun vs H Q E h => ?_) (fun cdv A outer s H vs Q E hr h => ?_)
  · obtain ⟨pw, p, pk, e, es, ks, n, n0, rfl, _⟩ := h
    rfl
  · obtain ⟨pw, p, pk, e, es, ks, n, n0, rfl, hw, hn0, hk, he, hek, hn, q⟩ := h
    refine ⟨_, (pss_cons (ps_set (i := 4) scLwDeed.nd rfl (.inl rfl) (pe_call GLwDraw (hr.mono (by decide)) (by rfl) T.gLwDraw T.fLwDraw.kp T.bLwDraw .nil pass0 (pa_cons (pv 0) (pa_cons pe_int pa_nil))))
      (pss_cons (ps_if (PW.pt (pw_or (pt_cmpR op_lt (pv 4) pe_int (nomark _)) (pw_or1 (pt_cmpR (r := rEqD K) (op_eqD hr.units) (pv 1) (pe_lst pa_nil) (nomark _)))))
      (pss_one (ps_ret (pe_tup (pa_cons (pe_call GPushed (hr.mono (by decide)) (by rfl) T.gPushed T.fPushed.kp T.bPushed .nil pass0 (pa_cons (pv 1) (pa_cons (pv 2) pa_nil))) (pa_cons (pe_callB cr_sortedPO (by rfl) T.n_sorted (by decide +kernel) (pa_cons (pe_op op_cat (pv 3) (pe_lst (pa_cons (pv 2) pa_nil))) pa_nil)) pa_nil)))))
      pss_nil)
      (pss_cons (ps_if (pt_cmpR op_eq (pv 4) pe_int (nomark _))
      (pss_cons (ps_asg (pe_call GPopped (hr.mono (by decide)) (by rfl) T.gPopped T.fPopped.kp T.bPopped .nil pass0 (pa_cons (pv 1) pa_nil)) (pg_tup rfl (pgs_cons (pg_name (i := 5) scLwDeed.nd rfl (.inr rfl)) (pgs_cons (pg_name (i := 6) scLwDeed.nd rfl (.inl rfl)) pgs_nil))))
        (pss_cons (ps_if (PW.pt (pw_or (pt_cmpR (r := rNotInD K) (op_notInD (hu65 hr)) (pv 5) (pv 3) (by rfl)) (pw_or1 (pt_cmpR op_ne (pe_ix (r := rIxT K) ix_tup (pv 5) pe_int (fun _ _ => rfl)) (pe_callB (cr_min rfl) (by rfl) T.n_min (by decide +kernel) (pa_cons (pe_lc (own := [("_law_one", 10)]) (g := gName 10) rfl scLwDeed.nd (pi_list (pv 3)) (blkOk_by (own := [("_law_one", 10)]) (N := ["_law_well_here", "_law_rows", "_law_entry", "_law_kept", "_law_way", "_law_first", "_law_left", "_law_now", "_law_out_here", "_law_times", "_law_one"]) (sc := defScope sLwDeed) (by decide +kernel)) (fun _ _ _ _ _ => (pg_name (i := 10) scLwDeed.nd rfl (.inl rfl))) (fun _ _ _ _ _ => pts_nil) (fun _ _ _ _ _ => (pe_ix (r := rIxT K) ix_tup (pv 10) pe_int (fun _ _ => rfl)))) pa_nil)) (nomark _)))))
        (pss_one (ps_ret pe_non))
        pss_nil)
        (pss_one (ps_ret (pe_tup (pa_cons (pv 6) (pa_cons (pe_callB cr_sortedPO (by rfl) T.n_sorted (by decide +kernel) (pa_cons (pe_lc (own := [("_law_one", 10)]) (g := gName 10) rfl scLwDeed.nd (pi_list (pv 3)) (blkOk_by (own := [("_law_one", 10)]) (N := ["_law_well_here", "_law_rows", "_law_entry", "_law_kept", "_law_way", "_law_first", "_law_left", "_law_now", "_law_out_here", "_law_times", "_law_one"]) (sc := defScope sLwDeed) (by decide +kernel)) (fun _ _ _ _ _ => (pg_name (i := 10) scLwDeed.nd rfl (.inl rfl))) (fun _ _ _ _ _ => (pts_one (pt_cmpR (r := rNeD K) (op_neD hr.units) (pv 10) (pv 5) (nomark _)))) (fun _ _ _ _ _ => (pv 10))) pa_nil)) pa_nil)))))))
      pss_nil)
      (pss_cons (ps_set (i := 7) scLwDeed.nd rfl (.inr rfl) (pe_op op_sub (pe_ix (r := rIxT K) ix_tup (pe_ix (r := rIxL K) ix_list (pv 3) (pe_call GLwDraw (hr.mono (by decide)) (by rfl) T.gLwDraw T.fLwDraw.kp T.bLwDraw .nil pass0 (pa_cons (pv 0) (pa_cons (pe_callB call_len_seq (by rfl) T.n_len PySem.boot_len (pa_cons (pv 3) pa_nil)) pa_nil))) (fun _ _ => rfl)) pe_int (fun _ _ => rfl)) (pe_call GLwDraw (hr.mono (by decide)) (by rfl) T.gLwDraw T.fLwDraw.kp T.bLwDraw .nil pass0 (pa_cons (pv 0) (pa_cons pe_int pa_nil)))))
      (pss_cons (ps_asg (pe_call GRipe (hr.mono (by decide)) (by rfl) T.gRipe T.fRipe.kp T.bRipe .nil pass0 (pa_cons (pv 1) (pa_cons (pv 7) pa_nil))) (pg_tup rfl (pgs_cons (pg_name (i := 8) scLwDeed.nd rfl (.inl rfl)) (pgs_cons (pg_name (i := 6) scLwDeed.nd rfl (.inl rfl)) pgs_nil))))
      (pss_cons (ps_setLc (i := 9) (own := [("_law_one", 10)]) (g := gName 10) rfl scLwDeed.nd rfl rfl (sw_true rfl rfl rfl (by decide +kernel)) (pi_list (pv 8)) (blkOk_by (own := [("_law_one", 10)]) (N := ["_law_well_here", "_law_rows", "_law_entry", "_law_kept", "_law_way", "_law_first", "_law_left", "_law_now", "_law_out_here", "_law_times", "_law_one"]) (sc := defScope sLwDeed) (by decide +kernel)) (fun _ _ _ _ _ => (pg_name (i := 10) scLwDeed.nd rfl (.inl rfl))) (fun _ _ _ _ _ => pts_nil) (fun _ _ _ _ _ => (pe_ix (r := rIxT K) ix_tup (pv 10) pe_int (fun _ _ => rfl))))
      (pss_cons (ps_if (PW.pt (pw_or (pt_cmpR (r := rNeD K) (op_neD hr.units) (pv 9) (pe_callB cr_sortedI (by rfl) T.n_sorted (by decide +kernel) (pa_cons (pv 9) pa_nil)) (nomark _)) (pw_or1 (pt_cmpR (r := rNeD K) (op_neD hr.units) (pe_callB cr_sortedPO (by rfl) T.n_sorted (by decide +kernel) (pa_cons (pe_op op_cat (pv 8) (pv 6)) pa_nil)) (pv 3) (nomark _)))))
      (pss_one (ps_ret pe_non))
      pss_nil)
      (pss_cons (ps_if (PW.pt (pw_or (pt_cmpR (r := rNeD K) (op_neD hr.units) (pe_lc (own := [("_law_one", 10)]) (g := gName 10) rfl scLwDeed.nd (pi_list (pv 8)) (blkOk_by (own := [("_law_one", 10)]) (N := ["_law_well_here", "_law_rows", "_law_entry", "_law_kept", "_law_way", "_law_first", "_law_left", "_law_now", "_law_out_here", "_law_times", "_law_one"]) (sc := defScope sLwDeed) (by decide +kernel)) (fun _ _ _ _ _ => (pg_name (i := 10) scLwDeed.nd rfl (.inl rfl))) (fun _ _ _ _ _ => (pts_one (pt_cmpR op_gt (pe_ix (r := rIxT K) ix_tup (pv 10) pe_int (fun _ _ => rfl)) (pv 7) (nomark _)))) (fun _ _ _ _ _ => (pv 10))) (pe_lst pa_nil) (nomark _)) (pw_or1 (pt_cmpR (r := rNeD K) (op_neD hr.units) (pe_lc (own := [("_law_one", 10)]) (g := gName 10) rfl scLwDeed.nd (pi_list (pv 6)) (blkOk_by (own := [("_law_one", 10)]) (N := ["_law_well_here", "_law_rows", "_law_entry", "_law_kept", "_law_way", "_law_first", "_law_left", "_law_now", "_law_out_here", "_law_times", "_law_one"]) (sc := defScope sLwDeed) (by decide +kernel)) (fun _ _ _ _ _ => (pg_name (i := 10) scLwDeed.nd rfl (.inl rfl))) (fun _ _ _ _ _ => (pts_one (pt_cmpR op_le (pe_ix (r := rIxT K) ix_tup (pv 10) pe_int (fun _ _ => rfl)) (pv 7) (nomark _)))) (fun _ _ _ _ _ => (pv 10))) (pe_lst pa_nil) (nomark _)))))
      (pss_one (ps_ret pe_non))
      pss_nil)
      (pss_one (ps_ret (pe_tup (pa_cons (pv 6) (pa_cons (pe_callB cr_sortedPO (by rfl) T.n_sorted (by decide +kernel) (pa_cons (pv 6) pa_nil)) pa_nil))))))))))))), ?_⟩
    -- _law_way
    refine ⟨_, rfl, pw, 5, n0, rfl, hw, by omega, by decide, by decide, fun r H1 rr k1 w1 => ?_⟩
    have kp1 := hk.well hw k1
    have he1 : EntAt H1 e := k1 _ _ (fun z => well_ent hw he (List.mem_singleton.mp z)) he
    refine ⟨_, rfl, _, _, rfl, rfl, _, rfl, ite2 (fun c => ?_) (fun c => ?_)⟩
    · refine iteT ?_
      have s12 := Same.refl H1
      have kp2 := kp1
      have he2 := he1
      refine ⟨_, rfl, _, rfl, p, es, e, rfl, kp2.hp, kp2.ee, he2, by have := kp2.len; omega, fun H3 l s3 nl hl3 => ?_⟩
      have hk3 := s3 _ _ kp2.hk
      have he3 : EntAt H3 e := s3 _ _ he2
      refine ⟨_, rfl, _, rfl, (by show 1 ≤ sizeLine; decide), fun U nU => ?_⟩
      have s4 := same_new (o := .lst [e.v]) nU
      refine ⟨pk, U, _, _, rfl, rfl, s4 _ _ hk3, upd_same, ?_, fun C nC => ?_⟩
      · rw [vs_len, kp2.klen]
        exact Nat.le_trans (show es.length + 1 ≤ 1000 by have := kp2.len; omega) (by decide)
      rw [vs_app]
      have s5 := same_new (o := .lst (vsOf (ks ++ [e]))) nC
      have s35 := s3.trans (s4.trans s5)
      have es5 := ents_app (kp2.ek.same s35) (s35 _ _ he2)
      refine ⟨C, _, kOf _, rfl, SqL.of upd_same, sort_in es5, fun ys l2 hs2 hb2 nl2 => ?_⟩
      obtain ⟨ss, rfl, pm2, so2⟩ := sort_out es5 hs2 hb2
      have s6 := same_new (o := .lst (vsOf ss)) nl2
      refine ⟨(by show 2 ≤ sizeLine; decide), fun u nu => ?_⟩
      have s7 := same_new (o := .tup [.ref l, .ref l2]) nu
      have s47 := s4.trans (s5.trans (s6.trans s7))
      have s27 := s3.trans s47
      have pp := Hm.push_perm Ent.t es e
      refine q _ u l l2 (Hm.push Ent.t es e) ss ((k1.trans (Same.kp s12 _)).trans (Same.kp s27 _)) (free_kp k1 w1 (s12.free nl)) (free_kp k1 w1 ((s12.trans (s3.trans (s4.trans s5))).free nl2)) ((w1.same (s12.trans s27)).mono (by omega)) upd_same ⟨s47 _ _ hl3, s7 _ _ upd_same, ?_, ?_, Hm.push_heap kp2.heap, so2, ?_, ?_, ?_, ?_⟩
      · exact (show Ents _ (e :: es) from fun x hx => by
          rcases List.mem_cons.mp hx with rfl | hx
          · exact s27 _ _ he2
          · exact (kp2.ee.same s27) x hx).perm pp
      · exact (ents_app (kp2.ek.same s27) (s27 _ _ he2)).perm pm2
      · refine (pm2.map Ent.pr).trans (List.Perm.trans ?_ (pp.map Ent.pr).symm)
        rw [List.map_append]
        exact List.perm_append_comm.trans (List.Perm.cons _ kp2.pm)
      · refine (pp.map Ent.pr).nodup_iff.mpr (List.nodup_cons.mpr ⟨fun z => ?_, kp2.nd⟩)
        obtain ⟨y, hy, ey⟩ := List.mem_map.mp z
        have h1 := kp2.num y hy
        have h2 : y.k = e.k := (Prod.mk.inj ey).2
        omega
      · intro y hy
        rcases List.mem_cons.mp (pp.mem_iff.mp hy) with rfl | hy
        · omega
        · have := kp2.num y hy
          omega
      · rw [Hm.push_len]
        have := kp2.len
        omega
    refine ⟨_, rfl, Nat.zero_le _, fun U0 nU0 => ?_⟩
    have s12 := same_new (o := .lst []) nU0
    have kp2 := kp1.same s12
    have he2 : EntAt _ e := s12 _ _ he1
    refine ⟨rowsD es, .list [], dp_rows (SqL.of kp2.hp) kp2.ee, dp_emp (SqL.of upd_same), shaped_rows _, rfl, _, rfl, ?_⟩
    rw [eqv_rows0]
    refine ite2 (fun c2 => ?_) (fun c2 => ?_)
    · have hdummy := True.intro
      refine ⟨_, rfl, _, rfl, p, es, e, rfl, kp2.hp, kp2.ee, he2, by have := kp2.len; omega, fun H3 l s3 nl hl3 => ?_⟩
      have hk3 := s3 _ _ kp2.hk
      have he3 : EntAt H3 e := s3 _ _ he2
      refine ⟨_, rfl, _, rfl, (by show 1 ≤ sizeLine; decide), fun U nU => ?_⟩
      have s4 := same_new (o := .lst [e.v]) nU
      refine ⟨pk, U, _, _, rfl, rfl, s4 _ _ hk3, upd_same, ?_, fun C nC => ?_⟩
      · rw [vs_len, kp2.klen]
        exact Nat.le_trans (show es.length + 1 ≤ 1000 by have := kp2.len; omega) (by decide)
      rw [vs_app]
      have s5 := same_new (o := .lst (vsOf (ks ++ [e]))) nC
      have s35 := s3.trans (s4.trans s5)
      have es5 := ents_app (kp2.ek.same s35) (s35 _ _ he2)
      refine ⟨C, _, kOf _, rfl, SqL.of upd_same, sort_in es5, fun ys l2 hs2 hb2 nl2 => ?_⟩
      obtain ⟨ss, rfl, pm2, so2⟩ := sort_out es5 hs2 hb2
      have s6 := same_new (o := .lst (vsOf ss)) nl2
      refine ⟨(by show 2 ≤ sizeLine; decide), fun u nu => ?_⟩
      have s7 := same_new (o := .tup [.ref l, .ref l2]) nu
      have s47 := s4.trans (s5.trans (s6.trans s7))
      have s27 := s3.trans s47
      have pp := Hm.push_perm Ent.t es e
      refine q _ u l l2 (Hm.push Ent.t es e) ss ((k1.trans (Same.kp s12 _)).trans (Same.kp s27 _)) (free_kp k1 w1 (s12.free nl)) (free_kp k1 w1 ((s12.trans (s3.trans (s4.trans s5))).free nl2)) ((w1.same (s12.trans s27)).mono (by omega)) upd_same ⟨s47 _ _ hl3, s7 _ _ upd_same, ?_, ?_, Hm.push_heap kp2.heap, so2, ?_, ?_, ?_, ?_⟩
      · exact (show Ents _ (e :: es) from fun x hx => by
          rcases List.mem_cons.mp hx with rfl | hx
          · exact s27 _ _ he2
          · exact (kp2.ee.same s27) x hx).perm pp
      · exact (ents_app (kp2.ek.same s27) (s27 _ _ he2)).perm pm2
      · refine (pm2.map Ent.pr).trans (List.Perm.trans ?_ (pp.map Ent.pr).symm)
        rw [List.map_append]
        exact List.perm_append_comm.trans (List.Perm.cons _ kp2.pm)
      · refine (pp.map Ent.pr).nodup_iff.mpr (List.nodup_cons.mpr ⟨fun z => ?_, kp2.nd⟩)
        obtain ⟨y, hy, ey⟩ := List.mem_map.mp z
        have h1 := kp2.num y hy
        have h2 : y.k = e.k := (Prod.mk.inj ey).2
        omega
      · intro y hy
        rcases List.mem_cons.mp (pp.mem_iff.mp hy) with rfl | hy
        · omega
        · have := kp2.num y hy
          omega
      · rw [Hm.push_len]
        have := kp2.len
        omega
    obtain ⟨x, t, rfl⟩ : ∃ x t, es = x :: t := by
      cases es with
      | nil => exact absurd rfl c2
      | cons x t => exact ⟨x, t, rfl⟩
    have w2 := w1.same s12
    have k12 := k1.trans (Same.kp s12 _)
    have hlen := kp2.len
    have hkl := kp2.klen
    have hpos : 0 < (x :: t).length := Nat.succ_pos _
    refine ⟨_, rfl, rfl, _, rfl, ite2 (fun c3 => ?_) (fun c3 => ?_)⟩
    · -- popped
      refine ⟨_, rfl, p, x :: t, x, rfl, kp2.hp, kp2.ee, rfl, by omega, fun H3 u l s3 nl nu hu hl3 => ?_⟩
      refine ⟨u, _, rfl, SqT.of hu, rfl, _, _, rfl, _, _, rfl, rfl, ?_⟩
      have kp3 := kp2.same s3
      have hx3 : EntAt H3 x := kp3.ee x List.mem_cons_self
      have hxk : x.pr ∈ ks.map Ent.pr := kp3.pm.mem_iff.mpr (List.mem_map.mpr ⟨x, List.mem_cons_self, rfl⟩)
      refine ⟨_, rfl, _, rfl, x.d, ks.map Ent.d, dp_ent hx3, dp_rows (SqL.of kp3.hk) kp3.ek, rfl, shaped_rows _, _, rfl, ?_⟩
      have ea : ((ks.map Ent.d).any fun z => PyData.eqv z x.d) = true := by
        obtain ⟨y, hy, ey⟩ := List.mem_map.mp hxk
        refine List.any_eq_true.mpr ⟨y.d, List.mem_map.mpr ⟨y, hy, rfl⟩, ?_⟩
        rw [eqv_ent]
        exact decide_eq_true ey
      rw [ea]
      refine iteF ?_
      refine ⟨_, rfl, _, _, 0, _, rfl, rfl, SqT.of hx3, atI_nat (j := 0) rfl, _, rfl, pk, rfl, ⟨_, SqL.of kp3.hk⟩, fun D nD => ?_⟩
      refine lcInt (by omega) (fun x => rfl) kp3.hk nD kp3.ek (fun y H4 Y hm hE hY => ⟨_, rfl, _, _, 0, _, rfl, rfl, SqT.of hE, atI_nat (j := 0) rfl, hY⟩) (fun H4 s4 hD => ?_)
      have kp4 := kp3.same s4
      refine ⟨D, ks.map Ent.t, rfl, SqL.of hD, ?_, fun m hm hle => ⟨rfl, _, rfl, ?_⟩⟩
      · rw [List.length_map, hkl]
        exact Nat.succ_pos _
      have hxm : x.t = m := by
        refine Int.le_antisymm ?_ ?_
        · obtain ⟨y, hy, rfl⟩ := List.mem_map.mp hm
          have hy2 : y.pr ∈ (x :: t).map Ent.pr := kp4.pm.mem_iff.mp (List.mem_map.mpr ⟨y, hy, rfl⟩)
          obtain ⟨z, hz, ez⟩ := List.mem_map.mp hy2
          have := Hm.heap_min_mem kp4.heap (x := x) rfl z hz
          rw [(Prod.mk.inj ez).1] at this
          exact this
        · obtain ⟨y, hy, ey⟩ := List.mem_map.mp hxk
          have := hle y.t (List.mem_map.mpr ⟨y, hy, rfl⟩)
          rw [(Prod.mk.inj ey).1] at this
          exact this
      rw [hxm, decide_eq_true rfl]
      refine iteF ?_
      -- return (left, sorted([.. != first]))
      refine ⟨_, rfl, _, rfl, pk, rfl, ⟨_, SqL.of kp4.hk⟩, fun D2 nD2 => ?_⟩
      refine lcFil (fun y => !decide (y.pr = x.pr)) (by omega) (fun x => rfl) kp4.hk nD2 kp4.ek (fun y H5 Z hm hE s5 hZ => ?_) (fun y H5 Y hY => ⟨_, rfl, hY⟩) (fun H5 s5 hD5 => ?_)
      · refine ⟨_, rfl, _, rfl, y.d, x.d, dp_ent hE, dp_ent (s5 _ _ (s4 _ _ hx3)), rfl, rfl, _, rfl, ?_⟩
        rw [eqv_ent]
        exact hZ
      have es5 : Ents H5 (ks.filter fun y => !decide (y.pr = x.pr)) := (kp4.ek.same s5).sub fun y hy => (List.mem_filter.mp hy).1
      refine ⟨D2, _, kOf _, rfl, SqL.of hD5, sort_in es5, fun ys l2 hs2 hb2 nl2 => ?_⟩
      obtain ⟨ss, rfl, pm2, so2⟩ := sort_out es5 hs2 hb2
      have s6 := same_new (o := .lst (vsOf ss)) nl2
      refine ⟨(by show 2 ≤ sizeLine; decide), fun u2 nu2 => ?_⟩
      have s7 := same_new (o := .tup [.ref l, .ref l2]) nu2
      have s47 := s4.trans (s5.trans (s6.trans s7))
      have s27 := s3.trans s47
      have kp7 := kp2.same s27
      have pp := Hm.pop_perm Ent.t (l := x :: t) (x := x) rfl
      have hnd := (pp.map Ent.pr).nodup_iff.mpr kp2.nd
      refine q _ u2 l l2 (Hm.popL Ent.t (x :: t)) ss (k12.trans (Same.kp s27 _)) (free_kp k12 w2 nl) (free_kp k12 w2 ((s3.trans (s4.trans s5)).free nl2)) ((w2.same s27).mono (by omega)) upd_same ⟨s47 _ _ hl3, s7 _ _ upd_same, ?_, ?_, Hm.pop_heap kp2.heap, so2, ?_, (List.nodup_cons.mp hnd).2, ?_, ?_⟩
      · exact kp7.ee.sub fun y hy => pp.mem_iff.mp (List.mem_cons_of_mem _ hy)
      · exact (kp7.ek.sub fun y hy => (List.mem_filter.mp hy).1).perm pm2
      · refine (pm2.map Ent.pr).trans ?_
        have e1 : (ks.filter fun y => !decide (y.pr = x.pr)).map Ent.pr = (ks.map Ent.pr).filter (fun z => decide (z ≠ x.pr)) := by
          rw [List.filter_map]
          congr 1
          refine List.filter_congr fun y _ => ?_
          show (!decide (y.pr = x.pr)) = decide (y.pr ≠ x.pr)
          rw [decide_not]
        rw [e1]
        have h1 := Hm.nodup_filter_perm (kp2.pm.nodup_iff.mpr kp2.nd) hxk
        exact (h1.trans (kp2.pm.trans (pp.map Ent.pr).symm)).cons_inv
      · intro y hy
        have := kp2.num y (pp.mem_iff.mp (List.mem_cons_of_mem _ hy))
        omega
      · have := Hm.pop_len Ent.t (l := x :: t) (List.cons_ne_nil _ _)
        omega
    · -- _law_now
      refine ⟨_, rfl, _, rfl, _, rfl, pk, _, rfl, .inl (SqL.of kp2.hk), pw, _, n0 + 1, rfl, w2, by omega, ?_, ?_, fun r1 H3 rr1 k3 w3 => ?_⟩
      · rw [vs_len]
        omega
      · rw [vs_len]
        exact Int.lt_of_le_of_lt (show (ks.length : Int) ≤ 1000 by omega) (by decide)
      have kp3 := kp2.well w2 k3
      have rlo := rr1.lo
      have rhi := rr1.hi
      rw [vs_len] at rhi
      obtain ⟨j, rfl⟩ : ∃ j : Nat, r1 = (j : Int) := ⟨r1.toNat, by omega⟩
      obtain ⟨y, hy⟩ : ∃ y, ks[j]? = some y := ⟨_, List.getElem?_eq_getElem (by omega)⟩
      have hye := kp3.ek y (List.mem_of_getElem? hy)
      refine ⟨pk, _, _, y.v, rfl, rfl, SqL.of kp3.hk, atI_nat (vs_at hy), _, _, 0, _, rfl, rfl, SqT.of hye, atI_nat (j := 0) rfl, _, rfl, pw, 2, n0 + 1 + 1, rfl, w3, by omega, by decide, by decide, fun r2 H4 rr2 k4 w4 => ?_⟩
      have kp4 := kp3.well w3 k4
      have k14 := k12.trans (k3.trans k4)
      refine ⟨_, _, rfl, rfl, ?_⟩
      dsimp only
      generalize y.t - r2 = now
      -- ripe
      refine ⟨_, rfl, _, rfl, p, x :: t, now, rfl, kp4.hp, kp4.ee, by omega, fun H5 u o l s5 no nl nu hu ho hl => ?_⟩
      have rp := Hm.ripe_perm Ent.t now (x :: t).length (x :: t)
      have rh := Hm.ripe_heap (now := now) (x :: t).length (x :: t) kp2.heap
      have rle := Hm.ripe_le (f := Ent.t) (now := now) (x :: t).length (x :: t)
      have rgt := Hm.ripe_gt (now := now) (x :: t).length (x :: t) rfl kp2.heap
      have rri := Hm.ripe_rises (now := now) (x :: t).length (x :: t) kp2.heap
      generalize Hm.ripe Ent.t now (x :: t).length (x :: t) = R at ho hl rp rh rle rgt rri
      obtain ⟨R1, R2⟩ := R
      dsimp only at ho hl rp rh rle rgt rri
      have rlen : R1.length + R2.length = (x :: t).length := by
        rw [← List.length_append]
        exact rp.length_eq
      refine ⟨u, _, rfl, SqT.of hu, rfl, _, _, rfl, _, _, rfl, rfl, ?_⟩
      have kp5 := kp4.same s5
      have e5 : Ents H5 (R1 ++ R2) := kp5.ee.perm rp
      have e51 : Ents H5 R1 := e5.sub fun z hz => List.mem_append_left _ hz
      have e52 : Ents H5 R2 := e5.sub fun z hz => List.mem_append_right _ hz
      -- _law_times
      refine ⟨_, rfl, o, rfl, ⟨_, SqL.of ho⟩, fun D nD => ?_⟩
      refine lcInt (by omega) (fun x => rfl) ho nD e51 (fun y H4 Y hm hE hY => ⟨_, rfl, _, _, 0, _, rfl, rfl, SqT.of hE, atI_nat (j := 0) rfl, hY⟩) (fun H6 s6 hD => ?_)
      have kp6 := kp5.same s6
      have ho6 := s6 _ _ ho
      have hl6 := s6 _ _ hl
      -- times != sorted(times)
      refine ⟨_, rfl, _, rfl, D, R1.map Ent.t, rfl, SqL.of hD, fun ns' l7 pm7 so7 nl7 => ?_⟩
      have e7 : ns' = R1.map Ent.t := Hm.sortI_uniq so7 (List.pairwise_map.mpr rri) pm7
      subst e7
      have s7 := same_new (o := .lst ((R1.map Ent.t).map V.int)) nl7
      refine ⟨.list ((R1.map Ent.t).map PyData.int), .list ((R1.map Ent.t).map PyData.int), .lst (SqL.of (s7 _ _ hD)) (dp_ints _), .lst (SqL.of upd_same) (dp_ints _), shaped_ints _, shaped_ints _, _, rfl, ?_⟩
      rw [eqv_nums, decide_eq_true rfl]
      refine iteF ?_
      -- sorted(out + left) != kept
      have kp7 := kp6.same s7
      have e7a := (e5.same s6).same s7
      refine ⟨_, rfl, _, rfl, o, l, _, _, rfl, rfl, s7 _ _ ho6, s7 _ _ hl6, ?_, fun C nC => ?_⟩
      · rw [vs_len, vs_len]
        exact Nat.le_trans (show R1.length + R2.length ≤ 1000 by omega) (by decide)
      have ea : vsOf R1 ++ vsOf R2 = vsOf (R1 ++ R2) := by
        show _ = List.map Ent.v _
        rw [List.map_append]
      rw [ea]
      have s8 := same_new (o := .lst (vsOf (R1 ++ R2))) nC
      have e8 := e7a.same s8
      refine ⟨C, _, kOf _, rfl, SqL.of upd_same, sort_in e8, fun ys l9 hs9 hb9 nl9 => ?_⟩
      obtain ⟨ss, rfl, pm9, so9⟩ := sort_out e8 hs9 hb9
      have s9 := same_new (o := .lst (vsOf ss)) nl9
      have kp9 := (kp7.same s8).same s9
      refine ⟨_, rfl, rowsD ss, rowsD ks, dp_rows (SqL.of upd_same) ((e8.same s9).perm pm9), dp_rows (SqL.of kp9.hk) kp9.ek, shaped_rows _, shaped_rows _, _, rfl, ?_⟩
      rw [eqv_rows, decide_eq_true (Hm.sortP_uniq so9 kp9.srt ((pm9.map Ent.pr).trans ((rp.map Ent.pr).trans kp9.pm.symm)))]
      refine iteF ?_
      -- nothing is due that should not be
      have s69 := s7.trans (s8.trans s9)
      have ho9 := s69 _ _ ho6
      have hl9 := s69 _ _ hl6
      have e9 := e8.same s9
      refine ⟨_, rfl, o, rfl, ⟨_, SqL.of ho9⟩, fun D2 nD2 => ?_⟩
      refine lcFil (fun y => decide (now < y.t)) (by omega) (fun x => rfl) ho9 nD2 (e9.sub fun z hz => List.mem_append_left _ hz) (fun y H5 Z hm hE s5 hZ => ⟨_, rfl, _, _, 0, _, rfl, rfl, SqT.of hE, atI_nat (j := 0) rfl, _, rfl, _, _, rfl, rfl, _, rfl, hZ⟩) (fun y H5 Y hY => ⟨_, rfl, hY⟩) (fun H10 s10 hD10 => ?_)
      have f1 : (R1.filter fun y => decide (now < y.t)) = [] := List.filter_eq_nil_iff.mpr fun y hy z => by
        have := of_decide_eq_true z
        have := rle y hy
        omega
      rw [f1] at hD10
      refine ⟨Nat.zero_le _, fun U nU => ?_⟩
      have s11 := same_new (o := .lst []) nU
      refine ⟨.list [], .list [], dp_emp (SqL.of (s11 _ _ hD10)), dp_emp (SqL.of upd_same), rfl, rfl, _, rfl, ?_⟩
      refine iteF ?_
      have s911 := s10.trans s11
      have hl11 := s911 _ _ hl9
      have e11 := e9.same s911
      refine ⟨_, rfl, l, rfl, ⟨_, SqL.of hl11⟩, fun D3 nD3 => ?_⟩
      refine lcFil (fun y => decide (y.t ≤ now)) (by omega) (fun x => rfl) hl11 nD3 (e11.sub fun z hz => List.mem_append_right _ hz) (fun y H5 Z hm hE s5 hZ => ⟨_, rfl, _, _, 0, _, rfl, rfl, SqT.of hE, atI_nat (j := 0) rfl, _, rfl, _, _, rfl, rfl, _, rfl, hZ⟩) (fun y H5 Y hY => ⟨_, rfl, hY⟩) (fun H12 s12a hD12 => ?_)
      have f2 : (R2.filter fun y => decide (y.t ≤ now)) = [] := List.filter_eq_nil_iff.mpr fun y hy z => by
        have := of_decide_eq_true z
        have := rgt y hy
        omega
      rw [f2] at hD12
      refine ⟨Nat.zero_le _, fun U2 nU2 => ?_⟩
      have s13 := same_new (o := .lst []) nU2
      refine ⟨.list [], .list [], dp_emp (SqL.of (s13 _ _ hD12)), dp_emp (SqL.of upd_same), rfl, rfl, _, rfl, ?_⟩
      refine iteF ?_
      -- return (left, sorted(left))
      have s1113 := s12a.trans s13
      have hl13 := s1113 _ _ hl11
      have e13 : Ents _ R2 := (e11.same s1113).sub fun z hz => List.mem_append_right _ hz
      refine ⟨_, rfl, _, rfl, l, _, kOf _, rfl, SqL.of hl13, sort_in e13, fun ys l14 hs14 hb14 nl14 => ?_⟩
      obtain ⟨sl, rfl, pm14, so14⟩ := sort_out e13 hs14 hb14
      have s14 := same_new (o := .lst (vsOf sl)) nl14
      refine ⟨(by show 2 ≤ sizeLine; decide), fun u2 nu2 => ?_⟩
      have s15 := same_new (o := .tup [.ref l, .ref l14]) nu2
      have s415 := s5.trans (s6.trans (s69.trans (s911.trans (s1113.trans (s14.trans s15)))))
      have nds : ((R1 ++ R2).map Ent.pr).Nodup := (rp.map Ent.pr).nodup_iff.mpr kp2.nd
      refine q _ u2 l l14 R2 sl (k14.trans (Same.kp s415 _)) (free_kp k14 w4 nl) (free_kp k14 w4 ((s5.trans (s6.trans (s69.trans (s911.trans s1113)))).free nl14)) ((w4.same s415).mono (by omega)) upd_same ⟨s15 _ _ (s14 _ _ hl13), s15 _ _ upd_same, ?_, ?_, rh, so14, pm14.map Ent.pr, ?_, ?_, ?_⟩
      · exact (e13.same s14).same s15
      · exact ((e13.same s14).same s15).perm pm14
      · rw [List.map_append] at nds
        exact (List.nodup_append.mp nds).2.1
      · intro z hz
        have := kp2.num z (rp.mem_iff.mp (List.mem_append_right _ hz))
        omega
      · omega
end
end K14

namespace K14
open PySem PySem.Spec PyProof.Rows L2
theorem cut_ints {ns : List Int} {lo hi : Option Int} {v : V} (h : v ∈ cutV (ns.map V.int) lo hi) : ∃ n : Int, v = .int n := by
  unfold cutV at h
  obtain ⟨n, _, e⟩ := List.mem_map.mp (List.mem_of_mem_drop (List.mem_of_mem_take h))
  exact ⟨n, e.symm⟩
theorem rises_times {es : List Ent} (h : Hm.Rises Ent.t es) : List.Pairwise (· ≤ ·) (es.map Ent.t) := List.pairwise_map.mpr h
section
variable {P : Program} {w : World} {K : PySem.W.Frag} {mg : Str → Option Value} {base : Heap}
def spLaw (K : PySem.W.Frag) : Sp := fun vs H Q _ => ∃ (a : Addr) (ns : List Int), vs = [.ref a] ∧ SqL K H a (ns.map V.int) ∧ ns.length ≤ 63 ∧ ∀ H', Q (.bl true) H'
theorem ok_law (T : Txt K mg) : FnOk P w K mg base CX0 8 T.aLaw T.dLaw ["_law_script"] (spLaw K) := by
  have GLwWell : FnOk P w K mg base CX0 1 T.aLwWell T.dLwWell ["_law_cell"] spLwWell := ok_well T
  have GLwDraw : FnOk P w K mg base CX0 1 T.aLwDraw T.dLwDraw ["_law_well_here", "_law_many"] spLwDraw := ok_draw T
  have GLwPick : FnOk P w K mg base CX0 2 T.aLwPick T.dLwPick ["_law_well_here", "_law_some"] spLwPick := ok_pick T
  have GLwDeed : FnOk P w K mg base CX0 6 T.aLwDeed T.dLwDeed ["_law_well_here", "_law_rows", "_law_entry", "_law_kept"] spLwDeed := ok_deed T
  have GIsHeap : FnOk P w K mg base CX0 4 T.aIsHeap T.dIsHeap ["rows"] spIsHeap := ok_isHeap T
  have GPushed : FnOk P w K mg base CX0 4 T.aPushed T.dPushed ["rows", "entry"] spPushed := ok_pushed T
  have GHeaped : FnOk P w K mg base CX0 5 T.aHeaped T.dHeaped ["rows"] spHeaped := ok_heaped T
  have GLwOut : FnOk P w K mg base CX0 6 T.aLwOut T.dLwOut ["_law_rows"] spLwOut := ok_out T
  have GLwMovedRight : FnOk P w K mg base CX0 7 T.aLwMovedRight T.dLwMovedRight ["_law_rows", "_law_by", "_law_more"] spLwMovedRight := ok_movedRight T
  refine T.fLaw.ok scLaw (fun vs H Q E h => ?_) (fun cdv A outer s H vs Q E hr h => ?_)
  · obtain ⟨a, ns, rfl, _⟩ := h
    rfl
  · obtain ⟨a, ns, rfl, hS, hlen, q⟩ := h
    refine ⟨_, (pss_cons (ps_for PassesOwn.never rfl (pi_list (pe_op op_cat (pe_slice sl_list (pv 0) po_none (po_some pe_int)) (pe_lst (pa_cons pe_int pa_nil)))) (pg_name (i := 1) scLaw.nd rfl (.inl rfl))
      (pss_cons (ps_set (i := 2) scLaw.nd rfl (.inl rfl) (pe_call GLwWell (hr.mono (by decide)) (by rfl) T.gLwWell T.fLwWell.kp T.bLwWell .nil pass0 (pa_cons (pv 1) pa_nil)))
        (pss_cons (ps_set (i := 3) scLaw.nd rfl (.inl rfl) (pe_call GLwPick (hr.mono (by decide)) (by rfl) T.gLwPick T.fLwPick.kp T.bLwPick .nil pass0 (pa_cons (pv 2) (pa_cons (pe_lst (pa_cons pe_int (pa_cons pe_int (pa_cons (pe_op op_pow pe_int pe_int) pa_nil)))) pa_nil))))
        (pss_cons (ps_par3 (i := 4) (j := 5) (l := 6) (by rfl) scLaw.nd rfl rfl rfl (by decide) (by decide) (by decide) rfl rfl rfl (pa_cons (pe_lst pa_nil) (pa_cons (pe_lst pa_nil) (pa_cons (pe_lst pa_nil) pa_nil))) (by rfl))
        (pss_cons (ps_for PassesOwn.never rfl (pi_range1 (by rfl) T.n_range (pa_cons (pe_op op_add pe_int (pe_call GLwDraw (hr.mono (by decide)) (by rfl) T.gLwDraw T.fLwDraw.kp T.bLwDraw .nil pass0 (pa_cons (pv 2) (pa_cons pe_int pa_nil)))) pa_nil)) (pg_name (i := 7) scLaw.nd rfl (.inl rfl))
        (pss_cons (ps_set (i := 8) scLaw.nd rfl (.inl rfl) (pe_tup (pa_cons (pe_call GLwDraw (hr.mono (by decide)) (by rfl) T.gLwDraw T.fLwDraw.kp T.bLwDraw .nil pass0 (pa_cons (pv 2) (pa_cons (pv 3) pa_nil))) (pa_cons (pv 7) pa_nil))))
          (pss_cons (ps_set (i := 9) scLaw.nd rfl (.inl rfl) (pe_call GLwDeed (hr.mono (by decide)) (by rfl) T.gLwDeed T.fLwDeed.kp T.bLwDeed .nil pass0 (pa_cons (pv 2) (pa_cons (pv 4) (pa_cons (pv 8) (pa_cons (pv 5) pa_nil))))))
          (pss_cons (ps_if (PW.pt (pw_or (pt_cmpR op_isN (pv 9) pe_non (nomark _)) (pw_or (pt_not (pt_val (pe_call GIsHeap (hr.mono (by decide)) (by rfl) T.gIsHeap T.fIsHeap.kp T.bIsHeap .nil pass0 (pa_cons (pe_ix (r := rIxT K) ix_tup (pv 9) pe_int (fun _ _ => rfl)) pa_nil)))) (pw_or1 (pt_cmpR (r := rNeD K) (op_neD hr.units) (pe_callB cr_sortedPO (by rfl) T.n_sorted (by decide +kernel) (pa_cons (pe_ix (r := rIxT K) ix_tup (pv 9) pe_int (fun _ _ => rfl)) pa_nil)) (pe_ix (r := rIxT K) ix_tup (pv 9) pe_int (fun _ _ => rfl)) (nomark _))))))
          (pss_one (ps_ret pe_bl))
          pss_nil)
          (pss_cons (ps_asg (pv 9) (pg_tup rfl (pgs_cons (pg_name (i := 4) scLaw.nd rfl (.inl rfl)) (pgs_cons (pg_name (i := 5) scLaw.nd rfl (.inl rfl)) pgs_nil))))
          (pss_one (ps_expr (pe_bm PySem.F.plainAttrs_list PySem.F.slot_list_append PySem.F.type_list_append mt_append (pv 6) (pa_cons (pv 8) pa_nil)))))))))
        (pss_cons (ps_set (i := 10) scLaw.nd rfl (.inl rfl) (pe_call GLwOut (hr.mono (by decide)) (by rfl) T.gLwOut T.fLwOut.kp T.bLwOut .nil pass0 (pa_cons (pe_call GHeaped (hr.mono (by decide)) (by rfl) T.gHeaped T.fHeaped.kp T.bHeaped .nil pass0 (pa_cons (pv 6) pa_nil)) pa_nil)))
        (pss_cons (ps_set (i := 11) scLaw.nd rfl (.inl rfl) (pe_lst pa_nil))
        (pss_cons (ps_for PassesOwn.never rfl (pi_list (pv 6)) (pg_name (i := 8) scLaw.nd rfl (.inl rfl))
        (pss_one (ps_set (i := 11) scLaw.nd rfl (.inl rfl) (pe_call GPushed (hr.mono (by decide)) (by rfl) T.gPushed T.fPushed.kp T.bPushed .nil pass0 (pa_cons (pv 11) (pa_cons (pv 8) pa_nil))))))
        (pss_cons (ps_set (i := 12) scLaw.nd rfl (.inl rfl) (pe_callB cr_sortedI (by rfl) T.n_sorted (by decide +kernel) (pa_cons (pe_lc (own := [("_law_entry", 8)]) (g := gName 8) rfl scLaw.nd (pi_list (pv 6)) (blkOk_by (own := [("_law_entry", 8)]) (N := ["_law_script", "_law_cell", "_law_well_here", "_law_top", "_law_rows", "_law_kept", "_law_gone", "_law_turn", "_law_entry", "_law_found", "_law_out_here", "_law_singly", "_law_times", "_law_one"]) (sc := defScope sLaw) (by decide +kernel)) (fun _ _ _ _ _ => (pg_name (i := 8) scLaw.nd rfl (.inl rfl))) (fun _ _ _ _ _ => pts_nil) (fun _ _ _ _ _ => (pe_ix (r := rIxT K) ix_tup (pv 8) pe_int (fun _ _ => rfl)))) pa_nil)))
        (pss_cons (ps_if (PW.pt (pw_or (pt_cmpR (r := rNeD K) (op_neD hr.units) (pe_lc (own := [("_law_one", 13)]) (g := gName 13) rfl scLaw.nd (pi_list (pv 10)) (blkOk_by (own := [("_law_one", 13)]) (N := ["_law_script", "_law_cell", "_law_well_here", "_law_top", "_law_rows", "_law_kept", "_law_gone", "_law_turn", "_law_entry", "_law_found", "_law_out_here", "_law_singly", "_law_times", "_law_one"]) (sc := defScope sLaw) (by decide +kernel)) (fun _ _ _ _ _ => (pg_name (i := 13) scLaw.nd rfl (.inl rfl))) (fun _ _ _ _ _ => pts_nil) (fun _ _ _ _ _ => (pe_ix (r := rIxT K) ix_tup (pv 13) pe_int (fun _ _ => rfl)))) (pv 12) (nomark _)) (pw_or1 (pt_cmpR (r := rNeD K) (op_neD hr.units) (pe_lc (own := [("_law_one", 13)]) (g := gName 13) rfl scLaw.nd (pi_list (pe_call GLwOut (hr.mono (by decide)) (by rfl) T.gLwOut T.fLwOut.kp T.bLwOut .nil pass0 (pa_cons (pv 11) pa_nil))) (blkOk_by (own := [("_law_one", 13)]) (N := ["_law_script", "_law_cell", "_law_well_here", "_law_top", "_law_rows", "_law_kept", "_law_gone", "_law_turn", "_law_entry", "_law_found", "_law_out_here", "_law_singly", "_law_times", "_law_one"]) (sc := defScope sLaw) (by decide +kernel)) (fun _ _ _ _ _ => (pg_name (i := 13) scLaw.nd rfl (.inl rfl))) (fun _ _ _ _ _ => pts_nil) (fun _ _ _ _ _ => (pe_ix (r := rIxT K) ix_tup (pv 13) pe_int (fun _ _ => rfl)))) (pv 12) (nomark _)))))
        (pss_one (ps_ret pe_bl))
        pss_nil)
        (pss_cons (ps_if (pt_cmpR (r := rNeD K) (op_neD hr.units) (pe_callB cr_sortedPO (by rfl) T.n_sorted (by decide +kernel) (pa_cons (pv 10) pa_nil)) (pe_callB cr_sortedPO (by rfl) T.n_sorted (by decide +kernel) (pa_cons (pv 6) pa_nil)) (nomark _))
        (pss_one (ps_ret pe_bl))
        pss_nil)
        (pss_one (ps_if (pt_not (pt_val (pe_call GLwMovedRight (hr.mono (by decide)) (by rfl) T.gLwMovedRight T.fLwMovedRight.kp T.bLwMovedRight .nil pass0 (pa_cons (pv 6) (pa_cons (pe_op op_add pe_int (pe_call GLwDraw (hr.mono (by decide)) (by rfl) T.gLwDraw T.fLwDraw.kp T.bLwDraw .nil pass0 (pa_cons (pv 2) (pa_cons pe_int pa_nil)))) (pa_cons (pe_op op_sub (pe_call GLwDraw (hr.mono (by decide)) (by rfl) T.gLwDraw T.fLwDraw.kp T.bLwDraw .nil pass0 (pa_cons (pv 2) (pa_cons (pe_op op_pow pe_int pe_int) pa_nil))) (pe_op op_pow pe_int pe_int)) pa_nil))))))
        (pss_one (ps_ret pe_bl))
        pss_nil)))))))))))))
      (pss_one (ps_ret pe_bl))), ?_⟩
    -- _law_script[:4] + [0]
    refine ⟨_, rfl, 4, rfl, a, _, rfl, hS, fun c nc => ?_⟩
    refine ⟨(by show 1 ≤ sizeLine; decide), fun z nz => ?_⟩
    have sz := same_new (o := .lst [V.int 0]) nz
    refine ⟨c, z, _, _, rfl, rfl, sz _ _ upd_same, upd_same, ?_, fun la nla => ?_⟩
    · have := cutV_length (ns.map V.int) none (some 4)
      rw [List.length_map] at this
      exact Nat.le_trans (show _ ≤ 1000 by show (cutV (ns.map V.int) none (some 4)).length + 1 ≤ 1000; omega) (by decide)
    refine ⟨la, rfl, ⟨_, SqL.of upd_same⟩, ?_⟩
    refine for_list (xs := cutV (ns.map V.int) none (some 4) ++ [V.int 0]) (fun i σ H3 => ∃ y1 y2 y3 y4 y5 y6 y7 y8 y9 y10 y11 y12 y13, σ = [some (.ref a), y1, y2, y3, y4, y5, y6, y7, y8, y9, y10, y11, y12, y13] ∧ H3 la = some (.lst (cutV (ns.map V.int) none (some 4) ++ [V.int 0])))
      ⟨_, _, _, _, _, _, _, _, _, _, _, _, _, rfl, upd_same⟩ (fun i σ H3 _ ⟨_, _, _, _, _, _, _, _, _, _, _, _, _, _, h⟩ => SqL.of h) (fun i x σ HA hx hW => ?_) (fun σ H3 hW => q H3)
    obtain ⟨y1, y2, y3, y4, y5, y6, y7, y8, y9, y10, y11, y12, y13, rfl, hla⟩ := hW
    obtain ⟨cell, rfl⟩ : ∃ n : Int, x = .int n := by
      rcases List.mem_append.mp (List.mem_of_getElem? hx) with h | h
      · exact cut_ints h
      · exact ⟨0, List.mem_singleton.mp h⟩
    -- the well, the top
    refine ⟨_, rfl, cell, rfl, fun pw H1 npw s1 w1 => ?_⟩
    refine ⟨_, rfl, _, _, rfl, rfl, ⟨by decide, by decide, by decide⟩, (by show 3 ≤ sizeLine; decide), fun lt nlt => ?_⟩
    have s2 := same_new (o := .lst [V.int 3, V.int 12, V.int (10 ^ (30 : Int).toNat)]) nlt
    have sA2 := s1.trans s2
    have nlp : lt ≠ pw := fun z => by
      obtain ⟨_, _, _, e, _⟩ := w1
      rw [z, e] at nlt
      cases nlt
    refine ⟨pw, lt, _, 0, rfl, w1.same s2, by decide, upd_same, nlp, by show 0 < 3; decide, by show 3 ≤ 100000; decide, fun v H3 hv k3 w3 => ?_⟩
    have sA3 : Same HA H3 := kp_same sA2 npw k3
    obtain ⟨top, rfl, ht0, ht1⟩ : ∃ top : Int, v = .int top ∧ 0 < top ∧ top < 2 ^ 200 := by
      simp only [List.mem_cons, List.not_mem_nil, or_false] at hv
      rcases hv with rfl | rfl | rfl
      · exact ⟨_, rfl, by decide, by decide⟩
      · exact ⟨_, rfl, by decide, by decide⟩
      · exact ⟨_, rfl, by decide, by decide⟩
    -- three new rows
    refine ⟨Nat.zero_le _, fun p0 np0 => ⟨Nat.zero_le _, fun k0 nk0 => ⟨Nat.zero_le _, fun pg npg => ?_⟩⟩⟩
    have t1 := same_new (o := .lst []) np0
    have t2 := same_new (o := .lst []) nk0
    have t3 := same_new (o := .lst []) npg
    have n1 : p0 ≠ pg := ne_of_none (t2 _ _ upd_same) npg
    have n2 : k0 ≠ pg := ne_of_none upd_same npg
    have sA4 := sA3.trans (t1.trans (t2.trans t3))
    have npgA : HA pg = none := (sA3.trans (t1.trans t2)).free npg
    refine ⟨_, _, _, rfl, ?_⟩
    -- the turns
    refine ⟨_, rfl, pw, 101, _, rfl, w3.same (t1.trans (t2.trans t3)), by decide, by decide, by decide, fun r H4 rr k4 w4 => ?_⟩
    have sA5 : Same HA H4 := kp_same sA4 npw k4
    have rlo := rr.lo
    have rhi := rr.hi
    refine ⟨_, _, rfl, rfl, _, rfl, by omega, by omega, ?_⟩
    obtain ⟨n, hn, hn120⟩ : ∃ n : Nat, (20 + r).toNat = n ∧ n ≤ 121 := ⟨_, rfl, by omega⟩
    rw [hn]
    have kw : ∀ b o, b ≠ pw → (upd (upd (upd H3 p0 (.lst [])) k0 (.lst [])) pg (.lst [])) b = some o → H4 b = some o := fun b o hb e => k4 b o (fun z => hb (List.mem_singleton.mp z)) e
    have w3' := w3.same (t1.trans (t2.trans t3))
    have hp4 : H4 p0 = some (.lst (vsOf [])) := kw _ _ (well_ne (es := []) w3' (t3 _ _ (t2 _ _ upd_same))) (t3 _ _ (t2 _ _ upd_same))
    have hk4 : H4 k0 = some (.lst (vsOf [])) := kw _ _ (well_ne (es := []) w3' (t3 _ _ upd_same)) (t3 _ _ upd_same)
    have hg4 : H4 pg = some (.lst (vsOf [])) := kw _ _ (well_ne (es := []) w3' upd_same) upd_same
    refine for_range (n := n) (fun i σ H5 => ∃ (p pk : Addr) (es ks gs : List Ent) (z7 z8 z9 : Option V), σ = [some (.ref a), some (.int cell), some (.ref pw), some (.int top), some (.ref p), some (.ref pk), some (.ref pg), z7, z8, z9, y10, y11, y12, y13] ∧ Same HA H5 ∧ Well H5 pw (10 + 10 * i) ∧ Kept H5 p pk es ks i ∧ p ≠ pg ∧ pk ≠ pg ∧ H5 pg = some (.lst (vsOf gs)) ∧ Ents H5 gs ∧ gs.length = i)
      ⟨p0, k0, [], [], [], _, _, _, rfl, sA5, w4.mono (by decide), ⟨hp4, hk4, (fun e z => nomatch z), (fun e z => nomatch z), (fun k _ z => nomatch z), List.Pairwise.nil, List.Perm.refl _, List.Pairwise.nil, (fun e z => nomatch z), Nat.le_refl _⟩, n1, n2, hg4, (fun e z => nomatch z), rfl⟩ (fun i σ H5 hi hW => ?_) (fun σ H5 hW => ?_)
    · -- a turn
      obtain ⟨p, pk, es, ks, gs, z7, z8, z9, rfl, s5, w5, kp5, np, nk, hg5, eg5, lg⟩ := hW
      refine ⟨_, rfl, _, rfl, pw, top, _, rfl, w5, by omega, ht0, ht1, fun r6 H6 rr6 k6 w6 => ?_⟩
      have kp6 := kp5.well w5 k6
      have hg6 : H6 pg = some (.lst (vsOf gs)) := k6 _ _ (fun z => well_ne w5 hg5 (List.mem_singleton.mp z)) hg5
      have eg6 := eg5.well w5 k6
      have s6 : Same HA H6 := kp_same s5 npw k6
      refine ⟨_, rfl, (by show 2 ≤ sizeLine; decide), fun u nu => ?_⟩
      have s7 := same_new (o := .tup [.int r6, .int (0 + (i : Int))]) nu
      have kp7 := kp6.same s7
      have hu7 : EntAt (upd H6 u (.tup [.int r6, .int (0 + (i : Int))])) ⟨u, r6, 0 + (i : Int)⟩ := by
        unfold EntAt
        exact upd_same
      refine ⟨_, rfl, _, rfl, _, rfl, _, rfl, pw, p, pk, ⟨u, r6, 0 + (i : Int)⟩, es, ks, i, _, rfl, w6.same s7, by omega, kp7, hu7, by show 0 + (i : Int) = i; omega, by omega, fun H8 u8 p8 pk8 es8 ks8 k8 np8 npk8 w8 hu8 kp8 => ?_⟩
      have hg8 : H8 pg = some (.lst (vsOf gs)) := k8 _ _ (fun z => well_ne (w6.same s7) (s7 _ _ hg6) (List.mem_singleton.mp z)) (s7 _ _ hg6)
      have eg8 := (eg6.same s7).well (w6.same s7) k8
      have he8 : EntAt H8 ⟨u, r6, 0 + (i : Int)⟩ := k8 _ _ (fun z => well_ent (w6.same s7) hu7 (List.mem_singleton.mp z)) hu7
      have s8 : Same HA H8 := kp_same (s6.trans s7) npw k8
      have npg8 : p8 ≠ pg := fun z => by
        rw [z, s7 _ _ hg6] at np8
        cases np8
      have nkg8 : pk8 ≠ pg := fun z => by
        rw [z, s7 _ _ hg6] at npk8
        cases npk8
      -- if found is None or ..
      refine ⟨_, rfl, rfl, _, rfl, ?_⟩
      rw [show decide (V.ref u8 = V.non) = false from decide_eq_false (fun z => nomatch z)]
      refine iteF ?_
      refine ⟨_, rfl, u8, _, 0, _, rfl, rfl, SqT.of hu8, atI_nat (j := 0) rfl, p8, es8, rfl, kp8.hp, kp8.ee, by have := kp8.len; omega, fun H9 s9 => ?_⟩
      rw [Hm.isHeapB_iff.mpr kp8.heap]
      refine ⟨true, rfl, iteF ?_⟩
      have kp9 := kp8.same s9
      have hu9 := s9 _ _ hu8
      refine ⟨_, rfl, u8, _, 0, _, rfl, rfl, SqT.of hu9, atI_nat (j := 0) rfl, p8, _, kOf _, rfl, SqL.of kp9.hp, sort_in kp9.ee, fun ys l2 hs2 hb2 nl2 => ?_⟩
      obtain ⟨ss, rfl, pm2, so2⟩ := sort_out kp9.ee hs2 hb2
      have s10 := same_new (o := .lst (vsOf ss)) nl2
      have kp10 := kp9.same s10
      refine ⟨_, rfl, u8, _, 1, _, rfl, rfl, SqT.of (s10 _ _ hu9), atI_nat (j := 1) rfl, rowsD ss, rowsD ks8, dp_rows (SqL.of upd_same) (kp10.ee.perm pm2), dp_rows (SqL.of kp10.hk) kp10.ek, shaped_rows _, shaped_rows _, _, rfl, ?_⟩
      rw [eqv_rows, decide_eq_true (Hm.sortP_uniq so2 kp10.srt ((pm2.map Ent.pr).trans kp10.pm.symm))]
      refine iteF ?_
      -- rows, kept = found; gone.append(entry)
      refine ⟨_, rfl, u8, _, rfl, SqT.of (s10 _ _ hu9), rfl, _, _, rfl, _, _, rfl, rfl, ?_⟩
      have hg10 := s10 _ _ (s9 _ _ hg8)
      have s810 := s9.trans s10
      refine ⟨_, rfl, .inl ⟨rfl, _, SqL.of hg10⟩, _, rfl, pg, _, _, rfl, rfl, hg10, ?_, ?_⟩
      · rw [vs_len]
        exact Nat.lt_of_le_of_lt (show gs.length ≤ 1000 by omega) (by decide)
      have kg : Kp [pg] (upd H9 l2 (.lst (vsOf ss))) (upd (upd H9 l2 (.lst (vsOf ss))) pg (.lst (vsOf gs ++ [V.ref u]))) := (Kp.refl _ _).wr (List.mem_singleton.mpr rfl)
      have w10 := w8.same s810
      refine ⟨p8, pk8, es8, ks8, gs ++ [⟨u, r6, 0 + (i : Int)⟩], _, _, _, rfl, same_wr (s8.trans s810) npgA, ?_, ⟨?_, ?_, kp10.ee.wr hg10, kp10.ek.wr hg10, kp10.heap, kp10.srt, kp10.pm, kp10.nd, kp10.num, kp10.len⟩, npg8, nkg8, ?_, ?_, ?_⟩
      · have npw8 : pw ≠ pg := Ne.symm (well_ne w10 hg10)
        obtain ⟨a1, a2, a3, e4, e5, e6⟩ := w10
        exact ⟨a1, a2, a3, by rw [upd_ne npw8]; exact e4, e5, by omega⟩
      · rw [upd_ne npg8]
        exact kp10.hp
      · rw [upd_ne nkg8]
        exact kp10.hk
      · rw [upd_same]
        exact congrArg (fun z => some (HO.lst z)) (vs_app (e := ⟨u, r6, 0 + (i : Int)⟩))
      · exact (ents_app (eg8.same s810) (s810 _ _ he8)).wr hg10
      · rw [List.length_append, lg]
        rfl
    · -- behind the turns
      obtain ⟨p, pk, es, ks, gs, z7, z8, z9, rfl, s5, w5, kp5, np, nk, hg5, eg5, lg⟩ := hW
      have lh : ∀ l : List Ent, (Hm.heapify Ent.t l).length = l.length := fun l => (Hm.heapify_perm Ent.t l).length_eq
      have pd : List.Perm (drained gs) gs := (Hm.outs_perm Ent.t _ _ rfl).trans (Hm.heapify_perm _ _)
      have rd : Hm.Rises Ent.t (drained gs) := Hm.outs_rises _ _ rfl (Hm.heapify_heap _ _)
      have ld : (drained gs).length = n := pd.length_eq.trans lg
      -- out_here
      refine ⟨_, rfl, pg, gs, rfl, hg5, eg5, by omega, fun H6 l6 s6 n6 h6 => ⟨l6, _, rfl, h6, (eg5.same s6).perm (Hm.heapify_perm _ _), by rw [lh]; omega, fun H7 l7 s7 n7 h7 => ?_⟩⟩
      have h7d : H7 l7 = some (.lst (vsOf (drained gs))) := h7
      have s57 := s6.trans s7
      -- singly
      refine ⟨Nat.zero_le _, fun q0 nq0 => ?_⟩
      have s8 := same_new (o := .lst []) nq0
      have s58 := s57.trans s8
      have hg8 := s58 _ _ hg5
      have eg8 := eg5.same s58
      refine ⟨_, rfl, pg, rfl, ⟨_, SqL.of hg8⟩, ?_⟩
      refine for_list (xs := vsOf gs) (fun i σ H9 => ∃ (qq : Addr) (es : List Ent) (z8 : Option V), σ = [some (.ref a), some (.int cell), some (.ref pw), some (.int top), some (.ref p), some (.ref pk), some (.ref pg), z7, z8, z9, some (.ref l7), some (.ref qq), y12, y13] ∧ Same (upd H7 q0 (.lst [])) H9 ∧ H9 qq = some (.lst (vsOf es)) ∧ Ents H9 es ∧ Hm.IsHeap Ent.t es ∧ List.Perm es (gs.take i))
        ⟨q0, [], _, rfl, Same.refl _, upd_same, (fun e z => nomatch z), (fun k _ z => nomatch z), List.Perm.refl _⟩ (fun i σ H9 _ ⟨_, _, _, _, sx, _⟩ => SqL.of (sx _ _ hg8)) (fun i x σ H9 hx hW => ?_) (fun σ H9 hW => ?_)
      · obtain ⟨qq, es', z8', rfl, s9, hq9, eq9, hh9, pm9⟩ := hW
        rw [List.getElem?_map] at hx
        obtain ⟨e, he1, rfl⟩ := Option.map_eq_some_iff.mp hx
        have hm := List.mem_of_getElem? he1
        have hle : es'.length ≤ n := by
          have := pm9.length_eq
          rw [List.length_take] at this
          omega
        refine ⟨_, rfl, _, rfl, qq, es', e, rfl, hq9, eq9, s9 _ _ (eg8 e hm), by omega, fun H10 l10 s10 n10 h10 => ?_⟩
        have pp := Hm.push_perm Ent.t es' e
        refine ⟨l10, _, _, rfl, s9.trans s10, h10, ?_, Hm.push_heap hh9, ?_⟩
        · exact (show Ents H10 (e :: es') from fun y hy => by
            rcases List.mem_cons.mp hy with rfl | hy
            · exact s10 _ _ (s9 _ _ (eg8 y hm))
            · exact (eq9.same s10) y hy).perm pp
        · rw [List.take_add_one, he1]
          exact pp.trans ((List.Perm.cons e pm9).trans (List.perm_append_comm (l₁ := [e])))
      · obtain ⟨qq, es', z8', rfl, s9, hq9, eq9, hh9, pm9⟩ := hW
        rw [vs_len, List.take_length] at pm9
        have hg9 := s9 _ _ hg8
        have eg9 := eg8.same s9
        have h79 := s9 _ _ (s8 _ _ h7d)
        have e79 : Ents H9 (drained gs) := eg9.perm pd
        -- times
        refine ⟨_, rfl, pg, rfl, ⟨_, SqL.of hg9⟩, fun D nD => ?_⟩
        refine lcInt (by omega) (fun x => rfl) hg9 nD eg9 (fun y H4 Y hm hE hY => ⟨_, rfl, _, _, 0, _, rfl, rfl, SqT.of hE, atI_nat (j := 0) rfl, hY⟩) (fun H10 s10 hD => ?_)
        refine ⟨D, gs.map Ent.t, rfl, SqL.of hD, fun ns' l11 pm11 so11 nl11 => ?_⟩
        have s11 := same_new (o := .lst (ns'.map V.int)) nl11
        have s911 := s10.trans s11
        -- [..] != times
        refine ⟨_, rfl, l7, rfl, ⟨_, SqL.of (s911 _ _ h79)⟩, fun D2 nD2 => ?_⟩
        refine lcInt (es := drained gs) (by omega) (fun x => rfl) (s911 _ _ h79) nD2 (e79.same s911) (fun y H4 Y hm hE hY => ⟨_, rfl, _, _, 0, _, rfl, rfl, SqT.of hE, atI_nat (j := 0) rfl, hY⟩) (fun H12 s12 hD2 => ?_)
        refine ⟨_, rfl, .list (((drained gs).map Ent.t).map PyData.int), .list (ns'.map PyData.int), .lst (SqL.of hD2) (dp_ints _), .lst (SqL.of (s12 _ _ upd_same)) (dp_ints _), shaped_ints _, shaped_ints _, _, rfl, ?_⟩
        rw [eqv_nums, decide_eq_true (Hm.sortI_uniq (rises_times rd) so11 ((pd.map Ent.t).trans pm11.symm))]
        refine iteF ?_
        have s912 := s911.trans s12
        have les : es'.length = n := pm9.length_eq.trans lg
        refine ⟨_, rfl, qq, es', rfl, s912 _ _ hq9, eq9.same s912, by omega, fun H13 l13 s13 n13 h13 => ?_⟩
        have po := Hm.outs_perm Ent.t es'.length es' rfl
        refine ⟨l13, rfl, ⟨_, SqL.of h13⟩, fun D3 nD3 => ?_⟩
        refine lcInt (es := Hm.outs Ent.t es'.length es') (by rw [po.length_eq]; omega) (fun x => rfl) h13 nD3 (((eq9.same s912).same s13).perm po) (fun y H4 Y hm hE hY => ⟨_, rfl, _, _, 0, _, rfl, rfl, SqT.of hE, atI_nat (j := 0) rfl, hY⟩) (fun H14 s14 hD3 => ?_)
        refine ⟨_, rfl, .list (((Hm.outs Ent.t es'.length es').map Ent.t).map PyData.int), .list (ns'.map PyData.int), .lst (SqL.of hD3) (dp_ints _), .lst (SqL.of (s14 _ _ (s13 _ _ (s12 _ _ upd_same)))) (dp_ints _), shaped_ints _, shaped_ints _, _, rfl, ?_⟩
        rw [eqv_nums, decide_eq_true (Hm.sortI_uniq (rises_times (Hm.outs_rises _ _ rfl hh9)) so11 (((po.trans pm9).map Ent.t).trans pm11.symm))]
        refine iteF ?_
        -- sorted(out_here) != sorted(gone)
        have s914 := s912.trans (s13.trans s14)
        have e14 := e79.same s914
        refine ⟨_, rfl, l7, _, kOf _, rfl, SqL.of (s914 _ _ h79), sort_in e14, fun ys l15 hs15 hb15 nl15 => ?_⟩
        obtain ⟨s1', rfl, pm15, so15⟩ := sort_out e14 hs15 hb15
        have s15 := same_new (o := .lst (vsOf s1')) nl15
        have s915 := s914.trans s15
        have eg15 := eg9.same s915
        refine ⟨_, rfl, pg, _, kOf _, rfl, SqL.of (s915 _ _ hg9), sort_in eg15, fun ys l16 hs16 hb16 nl16 => ?_⟩
        obtain ⟨s2', rfl, pm16, so16⟩ := sort_out eg15 hs16 hb16
        have s16 := same_new (o := .lst (vsOf s2')) nl16
        have s916 := s915.trans s16
        have eg16 := eg9.same s916
        refine ⟨rowsD s1', rowsD s2', dp_rows (SqL.of (s16 _ _ upd_same)) ((eg16.perm pd).perm pm15), dp_rows (SqL.of upd_same) (eg16.perm pm16), shaped_rows _, shaped_rows _, _, rfl, ?_⟩
        rw [eqv_rows, decide_eq_true (Hm.sortP_uniq so15 so16 ((pm15.trans (pd.trans pm16.symm)).map Ent.pr))]
        refine iteF ?_
        -- moved_right
        have s516 := s58.trans (s9.trans s916)
        have w16 := w5.same s516
        refine ⟨_, rfl, _, rfl, pw, 9, _, rfl, w16, by omega, by decide, by decide, fun r17 H17 rr17 k17 w17 => ?_⟩
        have hg16 := s916 _ _ hg9
        have hg17 : H17 pg = some (.lst (vsOf gs)) := k17 _ _ (fun z => well_ne w16 hg16 (List.mem_singleton.mp z)) hg16
        have eg17 := eg16.well w16 k17
        have a17 := rr17.lo
        have b17 := rr17.hi
        refine ⟨_, _, rfl, rfl, _, rfl, _, _, rfl, rfl, ⟨by decide, by decide, by decide⟩, pw, _, _, rfl, w17, by omega, by decide, by decide, fun r18 H18 rr18 k18 w18 => ?_⟩
        have hg18 : H18 pg = some (.lst (vsOf gs)) := k18 _ _ (fun z => well_ne w17 hg17 (List.mem_singleton.mp z)) hg17
        have eg18 := eg17.well w17 k18
        refine ⟨_, _, rfl, rfl, ⟨by decide, by decide, by decide⟩, _, _, rfl, rfl, pg, gs, _, _, rfl, hg18, eg18, by omega, by omega, by omega, fun H19 s19 => ?_⟩
        refine ⟨true, rfl, iteF ?_⟩
        have sA : Same HA H19 := (kp_same (kp_same (s5.trans s516) npw k17) npw k18).trans s19
        exact ⟨_, _, _, _, _, _, _, _, _, _, _, _, _, rfl, sA _ _ hla⟩
end
end K14

namespace K14
open PySem PySem.Spec PyProof.Rows L2
theorem all_mk {l : PySem.W.OpenLaw} {w : World} {K : PySem.W.Frag} {h : Heap} {mg : Str → Option Value} {fa f1 f2 f3 f4 f5 f6 f7 f8 f9 f10 f11 f12 f13 f14 f15 f16 f17 f18 f19 f20 f21 : Addr} (X : K.In h) (G : h.Ns mainGlobals mg) (hfa : mg "law" = some (.ref fa))
    {od1 an1 od2 an2 od3 an3 od4 an4 od5 an5 od6 an6 od7 an7 od8 an8 od9 an9 od10 an10 od11 an11 od12 an12 od13 an13 od14 an14 od15 an15 od16 an16 od17 an17 od18 an18 od19 an19 od20 an20 od21 an21 : Option Addr} {sl1 sl2 sl3 sl4 sl5 sl6 sl7 sl8 sl9 sl10 sl11 sl12 sl13 sl14 sl15 sl16 sl17 sl18 sl19 sl20 sl21 : Array (Option Value)} {oc1 kV1 dc1 pm1 cd1 ct1 oc2 kV2 dc2 pm2 cd2 ct2 oc3 kV3 dc3 pm3 cd3 ct3 oc4 kV4 dc4 pm4 cd4 ct4 oc5 kV5 dc5 pm5 cd5 ct5 oc6 kV6 dc6 pm6 cd6 ct6 oc7 kV7 dc7 pm7 cd7 ct7 oc8 kV8 dc8 pm8 cd8 ct8 oc9 kV9 dc9 pm9 cd9 ct9 oc10 kV10 dc10 pm10 cd10 ct10 oc11 kV11 dc11 pm11 cd11 ct11 oc12 kV12 dc12 pm12 cd12 ct12 oc13 kV13 dc13 pm13 cd13 ct13 oc14 kV14 dc14 pm14 cd14 ct14 oc15 kV15 dc15 pm15 cd15 ct15 oc16 kV16 dc16 pm16 cd16 ct16 oc17 kV17 dc17 pm17 cd17 ct17 oc18 kV18 dc18 pm18 cd18 ct18 oc19 kV19 dc19 pm19 cd19 ct19 oc20 kV20 dc20 pm20 cd20 ct20 oc21 kV21 dc21 pm21 cd21 ct21 : Value} {tkMOST : Tok}
    (a1 : PySem.W.nsIn K mainGlobals "rise" = some (some (.ref f1))) (l1 : K.lookup f1 = some ⟨oc1, od1, .func (PySem.W.fnOf "rise" "rise" (defArgs sRise) (defBody sRise) (defScope sRise) .none kV1 dc1 pm1 an1 cd1 ct1), sl1⟩) (c1 : PySem.W.codeIn K cd1 "rise" = true) (k1 : PySem.W.keepIn K (.ref f1) = true)
    (a2 : PySem.W.nsIn K mainGlobals "sink" = some (some (.ref f2))) (l2 : K.lookup f2 = some ⟨oc2, od2, .func (PySem.W.fnOf "sink" "sink" (defArgs sSink) (defBody sSink) (defScope sSink) .none kV2 dc2 pm2 an2 cd2 ct2), sl2⟩) (c2 : PySem.W.codeIn K cd2 "sink" = true) (k2 : PySem.W.keepIn K (.ref f2) = true)
    (a3 : PySem.W.nsIn K mainGlobals "push_by" = some (some (.ref f3))) (l3 : K.lookup f3 = some ⟨oc3, od3, .func (PySem.W.fnOf "push_by" "push_by" (defArgs sPushBy) (defBody sPushBy) (defScope sPushBy) .none kV3 dc3 pm3 an3 cd3 ct3), sl3⟩) (c3 : PySem.W.codeIn K cd3 "push_by" = true) (k3 : PySem.W.keepIn K (.ref f3) = true)
    (a4 : PySem.W.nsIn K mainGlobals "pop_by" = some (some (.ref f4))) (l4 : K.lookup f4 = some ⟨oc4, od4, .func (PySem.W.fnOf "pop_by" "pop_by" (defArgs sPopBy) (defBody sPopBy) (defScope sPopBy) .none kV4 dc4 pm4 an4 cd4 ct4), sl4⟩) (c4 : PySem.W.codeIn K cd4 "pop_by" = true) (k4 : PySem.W.keepIn K (.ref f4) = true)
    (a5 : PySem.W.nsIn K mainGlobals "heapify_by" = some (some (.ref f5))) (l5 : K.lookup f5 = some ⟨oc5, od5, .func (PySem.W.fnOf "heapify_by" "heapify_by" (defArgs sHeapifyBy) (defBody sHeapifyBy) (defScope sHeapifyBy) .none kV5 dc5 pm5 an5 cd5 ct5), sl5⟩) (c5 : PySem.W.codeIn K cd5 "heapify_by" = true) (k5 : PySem.W.keepIn K (.ref f5) = true)
    (a6 : PySem.W.nsIn K mainGlobals "is_whole" = some (some (.ref f6))) (l6 : K.lookup f6 = some ⟨oc6, od6, .func (PySem.W.fnOf "is_whole" "is_whole" (defArgs sIsWhole) (defBody sIsWhole) (defScope sIsWhole) .none kV6 dc6 pm6 an6 cd6 ct6), sl6⟩) (c6 : PySem.W.codeIn K cd6 "is_whole" = true) (k6 : PySem.W.keepIn K (.ref f6) = true)
    (a7 : PySem.W.nsIn K mainGlobals "is_entry" = some (some (.ref f7))) (l7 : K.lookup f7 = some ⟨oc7, od7, .func (PySem.W.fnOf "is_entry" "is_entry" (defArgs sIsEntry) (defBody sIsEntry) (defScope sIsEntry) .none kV7 dc7 pm7 an7 cd7 ct7), sl7⟩) (c7 : PySem.W.codeIn K cd7 "is_entry" = true) (k7 : PySem.W.keepIn K (.ref f7) = true)
    (a8 : PySem.W.nsIn K mainGlobals "check_rows" = some (some (.ref f8))) (l8 : K.lookup f8 = some ⟨oc8, od8, .func (PySem.W.fnOf "check_rows" "check_rows" (defArgs sCheckRows) (defBody sCheckRows) (defScope sCheckRows) .none kV8 dc8 pm8 an8 cd8 ct8), sl8⟩) (c8 : PySem.W.codeIn K cd8 "check_rows" = true) (k8 : PySem.W.keepIn K (.ref f8) = true)
    (a9 : PySem.W.nsIn K mainGlobals "is_sooner" = some (some (.ref f9))) (l9 : K.lookup f9 = some ⟨oc9, od9, .func (PySem.W.fnOf "is_sooner" "is_sooner" (defArgs sIsSooner) (defBody sIsSooner) (defScope sIsSooner) .none kV9 dc9 pm9 an9 cd9 ct9), sl9⟩) (c9 : PySem.W.codeIn K cd9 "is_sooner" = true) (k9 : PySem.W.keepIn K (.ref f9) = true)
    (a10 : PySem.W.nsIn K mainGlobals "is_heap" = some (some (.ref f10))) (l10 : K.lookup f10 = some ⟨oc10, od10, .func (PySem.W.fnOf "is_heap" "is_heap" (defArgs sIsHeap) (defBody sIsHeap) (defScope sIsHeap) .none kV10 dc10 pm10 an10 cd10 ct10), sl10⟩) (c10 : PySem.W.codeIn K cd10 "is_heap" = true) (k10 : PySem.W.keepIn K (.ref f10) = true)
    (a11 : PySem.W.nsIn K mainGlobals "pushed" = some (some (.ref f11))) (l11 : K.lookup f11 = some ⟨oc11, od11, .func (PySem.W.fnOf "pushed" "pushed" (defArgs sPushed) (defBody sPushed) (defScope sPushed) .none kV11 dc11 pm11 an11 cd11 ct11), sl11⟩) (c11 : PySem.W.codeIn K cd11 "pushed" = true) (k11 : PySem.W.keepIn K (.ref f11) = true)
    (a12 : PySem.W.nsIn K mainGlobals "popped" = some (some (.ref f12))) (l12 : K.lookup f12 = some ⟨oc12, od12, .func (PySem.W.fnOf "popped" "popped" (defArgs sPopped) (defBody sPopped) (defScope sPopped) .none kV12 dc12 pm12 an12 cd12 ct12), sl12⟩) (c12 : PySem.W.codeIn K cd12 "popped" = true) (k12 : PySem.W.keepIn K (.ref f12) = true)
    (a13 : PySem.W.nsIn K mainGlobals "heaped" = some (some (.ref f13))) (l13 : K.lookup f13 = some ⟨oc13, od13, .func (PySem.W.fnOf "heaped" "heaped" (defArgs sHeaped) (defBody sHeaped) (defScope sHeaped) .none kV13 dc13 pm13 an13 cd13 ct13), sl13⟩) (c13 : PySem.W.codeIn K cd13 "heaped" = true) (k13 : PySem.W.keepIn K (.ref f13) = true)
    (a14 : PySem.W.nsIn K mainGlobals "ripe" = some (some (.ref f14))) (l14 : K.lookup f14 = some ⟨oc14, od14, .func (PySem.W.fnOf "ripe" "ripe" (defArgs sRipe) (defBody sRipe) (defScope sRipe) .none kV14 dc14 pm14 an14 cd14 ct14), sl14⟩) (c14 : PySem.W.codeIn K cd14 "ripe" = true) (k14 : PySem.W.keepIn K (.ref f14) = true)
    (a15 : PySem.W.nsIn K mainGlobals "_law_well" = some (some (.ref f15))) (l15 : K.lookup f15 = some ⟨oc15, od15, .func (PySem.W.fnOf "_law_well" "_law_well" (defArgs sLwWell) (defBody sLwWell) (defScope sLwWell) .none kV15 dc15 pm15 an15 cd15 ct15), sl15⟩) (c15 : PySem.W.codeIn K cd15 "_law_well" = true) (k15 : PySem.W.keepIn K (.ref f15) = true)
    (a16 : PySem.W.nsIn K mainGlobals "_law_draw" = some (some (.ref f16))) (l16 : K.lookup f16 = some ⟨oc16, od16, .func (PySem.W.fnOf "_law_draw" "_law_draw" (defArgs sLwDraw) (defBody sLwDraw) (defScope sLwDraw) .none kV16 dc16 pm16 an16 cd16 ct16), sl16⟩) (c16 : PySem.W.codeIn K cd16 "_law_draw" = true) (k16 : PySem.W.keepIn K (.ref f16) = true)
    (a17 : PySem.W.nsIn K mainGlobals "_law_pick" = some (some (.ref f17))) (l17 : K.lookup f17 = some ⟨oc17, od17, .func (PySem.W.fnOf "_law_pick" "_law_pick" (defArgs sLwPick) (defBody sLwPick) (defScope sLwPick) .none kV17 dc17 pm17 an17 cd17 ct17), sl17⟩) (c17 : PySem.W.codeIn K cd17 "_law_pick" = true) (k17 : PySem.W.keepIn K (.ref f17) = true)
    (a18 : PySem.W.nsIn K mainGlobals "_law_out" = some (some (.ref f18))) (l18 : K.lookup f18 = some ⟨oc18, od18, .func (PySem.W.fnOf "_law_out" "_law_out" (defArgs sLwOut) (defBody sLwOut) (defScope sLwOut) .none kV18 dc18 pm18 an18 cd18 ct18), sl18⟩) (c18 : PySem.W.codeIn K cd18 "_law_out" = true) (k18 : PySem.W.keepIn K (.ref f18) = true)
    (a19 : PySem.W.nsIn K mainGlobals "_law_deed" = some (some (.ref f19))) (l19 : K.lookup f19 = some ⟨oc19, od19, .func (PySem.W.fnOf "_law_deed" "_law_deed" (defArgs sLwDeed) (defBody sLwDeed) (defScope sLwDeed) .none kV19 dc19 pm19 an19 cd19 ct19), sl19⟩) (c19 : PySem.W.codeIn K cd19 "_law_deed" = true) (k19 : PySem.W.keepIn K (.ref f19) = true)
    (a20 : PySem.W.nsIn K mainGlobals "_law_moved_right" = some (some (.ref f20))) (l20 : K.lookup f20 = some ⟨oc20, od20, .func (PySem.W.fnOf "_law_moved_right" "_law_moved_right" (defArgs sLwMovedRight) (defBody sLwMovedRight) (defScope sLwMovedRight) .none kV20 dc20 pm20 an20 cd20 ct20), sl20⟩) (c20 : PySem.W.codeIn K cd20 "_law_moved_right" = true) (k20 : PySem.W.keepIn K (.ref f20) = true)
    (a21 : PySem.W.nsIn K mainGlobals "law" = some (some (.ref f21))) (l21 : K.lookup f21 = some ⟨oc21, od21, .func (PySem.W.fnOf "law" "law" (defArgs sLaw) (defBody sLaw) (defScope sLaw) .none kV21 dc21 pm21 an21 cd21 ct21), sl21⟩) (c21 : PySem.W.codeIn K cd21 "law" = true) (k21 : PySem.W.keepIn K (.ref f21) = true)
    (mMOST : PySem.W.nsIn K mainGlobals "MOST" = some (some (.int 5000 tkMOST)))
    (z_len : PySem.W.nsIn K mainGlobals "len" = some none) (z_range : PySem.W.nsIn K mainGlobals "range" = some none) (z_isinstance : PySem.W.nsIn K mainGlobals "isinstance" = some none) (z_int : PySem.W.nsIn K mainGlobals "int" = some none) (z_bool : PySem.W.nsIn K mainGlobals "bool" = some none) (z_tuple : PySem.W.nsIn K mainGlobals "tuple" = some none) (z_list : PySem.W.nsIn K mainGlobals "list" = some none) (z_all : PySem.W.nsIn K mainGlobals "all" = some none) (z_any : PySem.W.nsIn K mainGlobals "any" = some none) (z_sorted : PySem.W.nsIn K mainGlobals "sorted" = some none) (z_min : PySem.W.nsIn K mainGlobals "min" = some none) :
    ∃ fd : FuncData, (∀ (s : Shared) (v : Value), BindsTo s fd ⟨[v], []⟩ [("_law_script", v)]) ∧ ∀ base : Heap, K.In base → base.Ns mainGlobals mg → FnOk l.prog w K mg base CX0 8 fa fd ["_law_script"] (spLaw K) := by
  have e := hfa.symm.trans (PySem.W.mg_of X G a21)
  cases e
  have F1 := fun_mk (st := sRise) l1 c1 k1
  have F2 := fun_mk (st := sSink) l2 c2 k2
  have F3 := fun_mk (st := sPushBy) l3 c3 k3
  have F4 := fun_mk (st := sPopBy) l4 c4 k4
  have F5 := fun_mk (st := sHeapifyBy) l5 c5 k5
  have F6 := fun_mk (st := sIsWhole) l6 c6 k6
  have F7 := fun_mk (st := sIsEntry) l7 c7 k7
  have F8 := fun_mk (st := sCheckRows) l8 c8 k8
  have F9 := fun_mk (st := sIsSooner) l9 c9 k9
  have F10 := fun_mk (st := sIsHeap) l10 c10 k10
  have F11 := fun_mk (st := sPushed) l11 c11 k11
  have F12 := fun_mk (st := sPopped) l12 c12 k12
  have F13 := fun_mk (st := sHeaped) l13 c13 k13
  have F14 := fun_mk (st := sRipe) l14 c14 k14
  have F15 := fun_mk (st := sLwWell) l15 c15 k15
  have F16 := fun_mk (st := sLwDraw) l16 c16 k16
  have F17 := fun_mk (st := sLwPick) l17 c17 k17
  have F18 := fun_mk (st := sLwOut) l18 c18 k18
  have F19 := fun_mk (st := sLwDeed) l19 c19 k19
  have F20 := fun_mk (st := sLwMovedRight) l20 c20 k20
  have F21 := fun_mk (st := sLaw) l21 c21 k21
  have B1 := F1.binds (ps := ["heap", "top", "place", "less"]) fun _ _ _ _ _ _ us hl => match us, hl with | [_, _, _, _], _ => rfl
  have B2 := F2.binds (ps := ["heap", "top", "less"]) fun _ _ _ _ _ _ us hl => match us, hl with | [_, _, _], _ => rfl
  have B3 := F3.binds (ps := ["heap", "item", "less"]) fun _ _ _ _ _ _ us hl => match us, hl with | [_, _, _], _ => rfl
  have B4 := F4.binds (ps := ["heap", "less"]) fun _ _ _ _ _ _ us hl => match us, hl with | [_, _], _ => rfl
  have B5 := F5.binds (ps := ["heap", "less"]) fun _ _ _ _ _ _ us hl => match us, hl with | [_, _], _ => rfl
  have B6 := F6.binds (ps := ["thing"]) fun _ _ _ _ _ _ us hl => match us, hl with | [_], _ => rfl
  have B7 := F7.binds (ps := ["thing"]) fun _ _ _ _ _ _ us hl => match us, hl with | [_], _ => rfl
  have B8 := F8.binds (ps := ["rows"]) fun _ _ _ _ _ _ us hl => match us, hl with | [_], _ => rfl
  have B9 := F9.binds (ps := ["one", "other"]) fun _ _ _ _ _ _ us hl => match us, hl with | [_, _], _ => rfl
  have B10 := F10.binds (ps := ["rows"]) fun _ _ _ _ _ _ us hl => match us, hl with | [_], _ => rfl
  have B11 := F11.binds (ps := ["rows", "entry"]) fun _ _ _ _ _ _ us hl => match us, hl with | [_, _], _ => rfl
  have B12 := F12.binds (ps := ["rows"]) fun _ _ _ _ _ _ us hl => match us, hl with | [_], _ => rfl
  have B13 := F13.binds (ps := ["rows"]) fun _ _ _ _ _ _ us hl => match us, hl with | [_], _ => rfl
  have B14 := F14.binds (ps := ["rows", "now"]) fun _ _ _ _ _ _ us hl => match us, hl with | [_, _], _ => rfl
  have B15 := F15.binds (ps := ["_law_cell"]) fun _ _ _ _ _ _ us hl => match us, hl with | [_], _ => rfl
  have B16 := F16.binds (ps := ["_law_well_here", "_law_many"]) fun _ _ _ _ _ _ us hl => match us, hl with | [_, _], _ => rfl
  have B17 := F17.binds (ps := ["_law_well_here", "_law_some"]) fun _ _ _ _ _ _ us hl => match us, hl with | [_, _], _ => rfl
  have B18 := F18.binds (ps := ["_law_rows"]) fun _ _ _ _ _ _ us hl => match us, hl with | [_], _ => rfl
  have B19 := F19.binds (ps := ["_law_well_here", "_law_rows", "_law_entry", "_law_kept"]) fun _ _ _ _ _ _ us hl => match us, hl with | [_, _, _, _], _ => rfl
  have B20 := F20.binds (ps := ["_law_rows", "_law_by", "_law_more"]) fun _ _ _ _ _ _ us hl => match us, hl with | [_, _, _], _ => rfl
  have B21 := F21.binds (ps := ["_law_script"]) fun _ _ _ _ _ _ us hl => match us, hl with | [_], _ => rfl
  let T : Txt K mg := { aRise := f1, dRise := _, fRise := F1, gRise := PySem.W.mg_of X G a1, bRise := B1, aSink := f2, dSink := _, fSink := F2, gSink := PySem.W.mg_of X G a2, bSink := B2, aPushBy := f3, dPushBy := _, fPushBy := F3, gPushBy := PySem.W.mg_of X G a3, bPushBy := B3, aPopBy := f4, dPopBy := _, fPopBy := F4, gPopBy := PySem.W.mg_of X G a4, bPopBy := B4, aHeapifyBy := f5, dHeapifyBy := _, fHeapifyBy := F5, gHeapifyBy := PySem.W.mg_of X G a5, bHeapifyBy := B5, aIsWhole := f6, dIsWhole := _, fIsWhole := F6, gIsWhole := PySem.W.mg_of X G a6, bIsWhole := B6, aIsEntry := f7, dIsEntry := _, fIsEntry := F7, gIsEntry := PySem.W.mg_of X G a7, bIsEntry := B7, aCheckRows := f8, dCheckRows := _, fCheckRows := F8, gCheckRows := PySem.W.mg_of X G a8, bCheckRows := B8, aIsSooner := f9, dIsSooner := _, fIsSooner := F9, gIsSooner := PySem.W.mg_of X G a9, bIsSooner := B9, aIsHeap := f10, dIsHeap := _, fIsHeap := F10, gIsHeap := PySem.W.mg_of X G a10, bIsHeap := B10, aPushed := f11, dPushed := _, fPushed := F11, gPushed := PySem.W.mg_of X G a11, bPushed := B11, aPopped := f12, dPopped := _, fPopped := F12, gPopped := PySem.W.mg_of X G a12, bPopped := B12, aHeaped := f13, dHeaped := _, fHeaped := F13, gHeaped := PySem.W.mg_of X G a13, bHeaped := B13, aRipe := f14, dRipe := _, fRipe := F14, gRipe := PySem.W.mg_of X G a14, bRipe := B14, aLwWell := f15, dLwWell := _, fLwWell := F15, gLwWell := PySem.W.mg_of X G a15, bLwWell := B15, aLwDraw := f16, dLwDraw := _, fLwDraw := F16, gLwDraw := PySem.W.mg_of X G a16, bLwDraw := B16, aLwPick := f17, dLwPick := _, fLwPick := F17, gLwPick := PySem.W.mg_of X G a17, bLwPick := B17, aLwOut := f18, dLwOut := _, fLwOut := F18, gLwOut := PySem.W.mg_of X G a18, bLwOut := B18, aLwDeed := f19, dLwDeed := _, fLwDeed := F19, gLwDeed := PySem.W.mg_of X G a19, bLwDeed := B19, aLwMovedRight := f20, dLwMovedRight := _, fLwMovedRight := F20, gLwMovedRight := PySem.W.mg_of X G a20, bLwMovedRight := B20, aLaw := fa, dLaw := _, fLaw := F21, gLaw := PySem.W.mg_of X G a21, bLaw := B21, n_len := PySem.W.mg_none_of X G z_len, n_range := PySem.W.mg_none_of X G z_range, n_isinstance := PySem.W.mg_none_of X G z_isinstance, n_int := PySem.W.mg_none_of X G z_int, n_bool := PySem.W.mg_none_of X G z_bool, n_tuple := PySem.W.mg_none_of X G z_tuple, n_list := PySem.W.mg_none_of X G z_list, n_all := PySem.W.mg_none_of X G z_all, n_any := PySem.W.mg_none_of X G z_any, n_sorted := PySem.W.mg_none_of X G z_sorted, n_min := PySem.W.mg_none_of X G z_min, gMOST := ⟨_, PySem.W.mg_of X G mMOST⟩ }
  exact ⟨_, fun s v => .of_eq rfl, fun base _ _ => ok_law T⟩
end K14
open PySem PySem.W PyProof.Rows
set_option maxHeartbeats 0 in
theorem PySem.Challenge.cw_loopyard_k14_whole_heaps_drained_holds : PySem.Challenge.rw_loopyard_k14_whole_heaps_drained.Holds := by
  w_on; o_law; k_head; (case hw => w_witness2)
  k_fill
  refine L2.walk_of (l := PySem.Challenge.rw_loopyard_k14_whole_heaps_drained) (n := 63) (k := 8) (x := "_law_script") (CX := fun _ => L2.CX0) (sp := fun w => K14.spLaw _) rfl (by decide) rfl ⟨rfl, by decide, by decide⟩ (fun w h Y => PySem.W.kIn_of Y) ?F (fun _ _ a ns hl _ hS => ⟨a, ns, rfl, hS, hl, fun _ => rfl⟩) (fun _ _ _ _ _ h => h)
  case F =>
    intro w mg fa h KX G hmg
    refine' K14.all_mk KX G hmg ?a1 ?l1 ?c1 ?k1 ?a2 ?l2 ?c2 ?k2 ?a3 ?l3 ?c3 ?k3 ?a4 ?l4 ?c4 ?k4 ?a5 ?l5 ?c5 ?k5 ?a6 ?l6 ?c6 ?k6 ?a7 ?l7 ?c7 ?k7 ?a8 ?l8 ?c8 ?k8 ?a9 ?l9 ?c9 ?k9 ?a10 ?l10 ?c10 ?k10 ?a11 ?l11 ?c11 ?k11 ?a12 ?l12 ?c12 ?k12 ?a13 ?l13 ?c13 ?k13 ?a14 ?l14 ?c14 ?k14 ?a15 ?l15 ?c15 ?k15 ?a16 ?l16 ?c16 ?k16 ?a17 ?l17 ?c17 ?k17 ?a18 ?l18 ?c18 ?k18 ?a19 ?l19 ?c19 ?k19 ?a20 ?l20 ?c20 ?k20 ?a21 ?l21 ?c21 ?k21 ?mMOST ?z_len ?z_range ?z_isinstance ?z_int ?z_bool ?z_tuple ?z_list ?z_all ?z_any ?z_sorted ?z_min
    (case a1 => k_is)
    (case l1 => k_is)
    (case c1 => k_is)
    (case k1 => k_is)
    (case a2 => k_is)
    (case l2 => k_is)
    (case c2 => k_is)
    (case k2 => k_is)
    (case a3 => k_is)
    (case l3 => k_is)
    (case c3 => k_is)
    (case k3 => k_is)
    (case a4 => k_is)
    (case l4 => k_is)
    (case c4 => k_is)
    (case k4 => k_is)
    (case a5 => k_is)
    (case l5 => k_is)
    (case c5 => k_is)
    (case k5 => k_is)
    (case a6 => k_is)
    (case l6 => k_is)
    (case c6 => k_is)
    (case k6 => k_is)
    (case a7 => k_is)
    (case l7 => k_is)
    (case c7 => k_is)
    (case k7 => k_is)
    (case a8 => k_is)
    (case l8 => k_is)
    (case c8 => k_is)
    (case k8 => k_is)
    (case a9 => k_is)
    (case l9 => k_is)
    (case c9 => k_is)
    (case k9 => k_is)
    (case a10 => k_is)
    (case l10 => k_is)
    (case c10 => k_is)
    (case k10 => k_is)
    (case a11 => k_is)
    (case l11 => k_is)
    (case c11 => k_is)
    (case k11 => k_is)
    (case a12 => k_is)
    (case l12 => k_is)
    (case c12 => k_is)
    (case k12 => k_is)
    (case a13 => k_is)
    (case l13 => k_is)
    (case c13 => k_is)
    (case k13 => k_is)
    (case a14 => k_is)
    (case l14 => k_is)
    (case c14 => k_is)
    (case k14 => k_is)
    (case a15 => k_is)
    (case l15 => k_is)
    (case c15 => k_is)
    (case k15 => k_is)
    (case a16 => k_is)
    (case l16 => k_is)
    (case c16 => k_is)
    (case k16 => k_is)
    (case a17 => k_is)
    (case l17 => k_is)
    (case c17 => k_is)
    (case k17 => k_is)
    (case a18 => k_is)
    (case l18 => k_is)
    (case c18 => k_is)
    (case k18 => k_is)
    (case a19 => k_is)
    (case l19 => k_is)
    (case c19 => k_is)
    (case k19 => k_is)
    (case a20 => k_is)
    (case l20 => k_is)
    (case c20 => k_is)
    (case k20 => k_is)
    (case a21 => k_is)
    (case l21 => k_is)
    (case c21 => k_is)
    (case k21 => k_is)
    (case mMOST => k_is)
    (case z_len => k_is)
    (case z_range => k_is)
    (case z_isinstance => k_is)
    (case z_int => k_is)
    (case z_bool => k_is)
    (case z_tuple => k_is)
    (case z_list => k_is)
    (case z_all => k_is)
    (case z_any => k_is)
    (case z_sorted => k_is)
    (case z_min => k_is)
